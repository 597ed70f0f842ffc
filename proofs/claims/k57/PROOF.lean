import PyProof.Rows.All
import Wide.All
import OpenK.AllK
import Wide.FinOn
import HandS.ForMost
import HandS.Walk
import HandS.TupAny
import HandS.Defaults
import HandS.WordsList
import HandS.IsInst
import HandS.HeadEnd
import KE.GoesEnum
import KE.GoesMore
import KE.SortData
import HandS.TupSets
import HandS.Dict
import KE.KDictPairs
import HandS.Deep
import HandS.Steps
import KE.DataCmp
import HandS.Style
import HandS.Conv
import HandS.WordsDict
import KE.KDictSum
import KE.KDictZip
import HandS.ListItems
import HandS.HeadHook2
import HandS.Head2
import PySem.Challenge.RW_upwords_k57_laid_under_told
set_option Elab.async false
set_option linter.all false
set_option maxRecDepth 100000
set_option maxHeartbeats 4000000
namespace U
open PySem PySem.Spec L2

/-! ### heaps: F the part that never changes any more, H all that is tracked -/
def Sub (F H : Hp) : Prop := ∀ a o, F a = some o → H a = some o
theorem Sub.refl (F : Hp) : Sub F F := fun _ _ h => h
theorem Sub.trans {F G H : Hp} (a : Sub F G) (b : Sub G H) : Sub F H := fun x o h => b x o (a x o h)
theorem Sub.nn {F H : Hp} {p : Addr} (s : Sub F H) (h : H p = none) : F p = none := by
  cases e : F p with
  | none => rfl
  | some o => rw [s p o e] at h; cases h
theorem Sub.up1 {F : Hp} {p : Addr} {o : HO} (h : F p = none) : Sub F (upd F p o) := fun a u e => by
  rw [upd_ne (ne_of_none e h)]; exact e
theorem Sub.upd2 {F H : Hp} {p : Addr} {o : HO} (s : Sub F H) : Sub (L2.upd F p o) (L2.upd H p o) := fun a u e => by
  by_cases ha : a = p
  · subst ha; rw [upd_same] at e ⊢; exact e
  · rw [upd_ne ha] at e ⊢; exact s a u e
theorem Sub.rd {F H : Hp} {a : Addr} {u : HO} (s : Sub F H) (h : Rd F a u) : Rd H a u := by
  rcases h with h | ⟨o, h⟩
  · exact .inl (s a _ h)
  · exact .inr ⟨o, s a _ h⟩
theorem Sub.l {K : PySem.W.Frag} {F H : Hp} {a : Addr} {xs : List V} (s : Sub F H) (h : SqL K F a xs) : SqL K H a xs := by
  rcases h with h | h
  · exact .inl (s.rd h)
  · exact .inr h
theorem Sub.t {K : PySem.W.Frag} {F H : Hp} {a : Addr} {xs : List V} (s : Sub F H) (h : SqT K F a xs) : SqT K H a xs := by
  rcases h with h | h
  · exact .inl (s.rd h)
  · exact .inr h

/-- what may change between two points: W the addresses that may be written -/
structure Gr (W : List Addr) (F0 H0 F H : Hp) : Prop where
  ff : Sub F0 F
  fh : Sub F H
  hh : ∀ a o, a ∉ W → H0 a = some o → H a = some o
  lv : ∀ a, H0 a ≠ none → H a ≠ none
  out : ∀ a, H0 a ≠ none → F0 a = none → F a = none
section
variable {W W' : List Addr} {F0 H0 F H F1 H1 F2 H2 : Hp} {p q : Addr} {o u : HO}
theorem Gr.refl (h : Sub F H) : Gr W F H F H := ⟨Sub.refl F, h, fun _ _ _ e => e, fun _ e => e, fun _ _ e => e⟩
theorem Gr.trans (g : Gr W F0 H0 F1 H1) (g' : Gr W' F1 H1 F2 H2) (hW : ∀ a ∈ W', H0 a = none ∨ a ∈ W) : Gr W F0 H0 F2 H2 where
  ff := g.ff.trans g'.ff
  fh := g'.fh
  hh := fun a o hn e => g'.hh a o (fun z => (hW a z).elim (fun n => by rw [n] at e; cases e) hn) (g.hh a o hn e)
  lv := fun a e => g'.lv a (g.lv a e)
  out := fun a e n => g'.out a (g.lv a e) (g.out a e n)
theorem Gr.trans0 (g : Gr W F0 H0 F1 H1) (g' : Gr [] F1 H1 F2 H2) : Gr W F0 H0 F2 H2 := g.trans g' fun a z => absurd z (by simp)
theorem Gr.newF (g : Gr W F0 H0 F H) (hp : H p = none) : Gr W F0 H0 (upd F p o) (upd H p o) where
  ff := g.ff.trans (Sub.up1 (g.fh.nn hp))
  fh := g.fh.upd2
  hh := fun a u hn e => by
    have e1 := g.hh a u hn e
    rw [upd_ne (ne_of_none e1 hp)]; exact e1
  lv := fun a e => by
    have e1 := g.lv a e
    rw [upd_ne (fun z => by rw [z] at e1; exact e1 hp)]; exact e1
  out := fun a e n => by
    have e1 := g.lv a e
    rw [upd_ne (fun z => by rw [z] at e1; exact e1 hp)]; exact g.out a e n
theorem Gr.newM (g : Gr W F0 H0 F H) (hp : H p = none) : Gr W F0 H0 F (upd H p o) where
  ff := g.ff
  fh := g.fh.trans (Sub.up1 hp)
  hh := fun a u hn e => by
    have e1 := g.hh a u hn e
    rw [upd_ne (ne_of_none e1 hp)]; exact e1
  lv := fun a e => by
    have e1 := g.lv a e
    rw [upd_ne (fun z => by rw [z] at e1; exact e1 hp)]; exact e1
  out := g.out
theorem Gr.mut (g : Gr W F0 H0 F H) (hf : F p = none) (hw : H0 p = none ∨ p ∈ W) : Gr W F0 H0 F (upd H p o) where
  ff := g.ff
  fh := fun a u e => by rw [upd_ne (ne_of_none e hf)]; exact g.fh a u e
  hh := fun a u hn e => by
    have hne : a ≠ p := fun z => by
      subst z
      rcases hw with w | w
      · rw [w] at e; cases e
      · exact hn w
    rw [upd_ne hne]; exact g.hh a u hn e
  lv := fun a e => by
    by_cases z : a = p
    · subst z; rw [upd_same]; intro h; cases h
    · rw [upd_ne z]; exact g.lv a e
  out := g.out
theorem Gr.frz (g : Gr W F0 H0 F H) (hf : F p = none) (hh : H p = some o) (h0 : H0 p = none) : Gr W F0 H0 (upd F p o) H where
  ff := g.ff.trans (Sub.up1 hf)
  fh := fun a u e => by
    by_cases z : a = p
    · subst z; rw [upd_same] at e; cases e; exact hh
    · rw [upd_ne z] at e; exact g.fh a u e
  hh := g.hh
  lv := g.lv
  out := fun a e n => by
    rw [upd_ne (fun z => by rw [z] at e; exact e h0)]; exact g.out a e n
/-- an object of the def's own that may still change -/
structure Mu (W : List Addr) (H0 F H : Hp) (p : Addr) (o : HO) : Prop where
  fr : F p = none
  hp : H p = some o
  own : H0 p = none ∨ p ∈ W
theorem Mu.newF (m : Mu W H0 F H q u) (hp : H p = none) : Mu W H0 (upd F p o) (upd H p o) q u := by
  have ne := ne_of_none m.hp hp
  exact ⟨by rw [upd_ne ne]; exact m.fr, by rw [upd_ne ne]; exact m.hp, m.own⟩
theorem Mu.newM (m : Mu W H0 F H q u) (hp : H p = none) : Mu W H0 F (upd H p o) q u := by
  have ne := ne_of_none m.hp hp
  exact ⟨m.fr, by rw [upd_ne ne]; exact m.hp, m.own⟩
theorem Mu.mut (m : Mu W H0 F H q u) (ne : q ≠ p) : Mu W H0 F (upd H p o) q u := ⟨m.fr, by rw [upd_ne ne]; exact m.hp, m.own⟩
theorem Mu.self (m : Mu W H0 F H p u) : Mu W H0 F (upd H p o) p o := ⟨m.fr, upd_same, m.own⟩
theorem Mu.frz (m : Mu W H0 F H q u) (ne : q ≠ p) : Mu W H0 (upd F p o) H q u := ⟨by rw [upd_ne ne]; exact m.fr, m.hp, m.own⟩
theorem Mu.call (m : Mu W H0 F H q u) (g : Gr W' F H F1 H1) (hq : q ∉ W') : Mu W H0 F1 H1 q u :=
  ⟨g.out q (by rw [m.hp]; exact fun z => nomatch z) m.fr, g.hh q u hq m.hp, m.own⟩
theorem Mu.call0 (m : Mu W H0 F H q u) (g : Gr [] F H F1 H1) : Mu W H0 F1 H1 q u := m.call g (by simp)
theorem Mu.back (m : Mu W H0 F H q u) (g : Gr W' F H F1 H1) (h : H1 q = some o) : Mu W H0 F1 H1 q o :=
  ⟨g.out q (by rw [m.hp]; exact fun z => nomatch z) m.fr, h, m.own⟩
/-- a new one -/
theorem Mu.new (g : Gr W F0 H0 F H) (hp : H p = none) : Mu W H0 F (upd H p o) p o := by
  refine ⟨g.fh.nn hp, upd_same, .inl ?_⟩
  cases e : H0 p with
  | none => rfl
  | some x => exact absurd hp (g.lv p (by rw [e]; exact fun z => nomatch z))
theorem Gr.old (g : Gr W F0 H0 F H) (hp : H p = none) : H0 p = none := by
  cases e : H0 p with
  | none => rfl
  | some x => exact absurd hp (g.lv p (by rw [e]; exact fun z => nomatch z))
theorem Mu.gr (m : Mu W H0 F H p u) (g : Gr W F0 H0 F H) : Gr W F0 H0 F (upd H p o) := g.mut m.fr m.own
theorem Mu.ne (m : Mu W H0 F H p u) (hq : H q = none) : p ≠ q := ne_of_none m.hp hq
theorem Mu.l {K : PySem.W.Frag} {vs : List V} (m : Mu W H0 F H p (.lst vs)) : SqL K H p vs := .inl (.inl m.hp)
end

/-! ### what a value stands for -/
structure Rp (α : Type) where
  r : Hp → V → α → Prop
  mono : ∀ {F F' : Hp} {v : V} {x : α}, Sub F F' → r F v x → r F' v x
abbrev Sg := List Nat
abbrev S (l : Sg) : Str := ⟨l.toArray⟩
def eI : Rp Int := ⟨fun _ v x => v = .int x, fun _ h => h⟩
def eB : Rp Bool := ⟨fun _ v x => v = .bl x, fun _ h => h⟩
def eN : Rp Unit := ⟨fun _ v _ => v = .non, fun _ h => h⟩
def eS : Rp Sg := ⟨fun _ v x => v = .str (S x) ∧ x.length ≤ sizeLine, fun _ h => h⟩
def eO {α : Type} (t : Rp α) : Rp (Option α) := ⟨fun F v x => match x with
  | none => v = .non
  | some a => v ≠ .non ∧ t.r F v a, fun {F F' v x} s h => by
    cases x with
    | none => exact h
    | some a => exact ⟨h.1, t.mono s h.2⟩⟩
abbrev Al {α : Type} (t : Rp α) (F : Hp) (vs : List V) (xs : List α) : Prop := Paired (fun v x => t.r F v x) vs xs
theorem Al.mono {α : Type} {t : Rp α} {F F' : Hp} {vs : List V} {xs : List α} (h : Al t F vs xs) (s : Sub F F') : Al t F' vs xs := Paired.mapP h fun _ _ z => t.mono s z
def eP2 {α β : Type} (a : Rp α) (b : Rp β) : Rp (α × β) := ⟨fun F v x => ∃ p y z, v = .ref p ∧ F p = some (.tup [y, z]) ∧ a.r F y x.1 ∧ b.r F z x.2,
  fun s ⟨p, y, z, e, q, h1, h2⟩ => ⟨p, y, z, e, s _ _ q, a.mono s h1, b.mono s h2⟩⟩
def eP3 {α β γ : Type} (a : Rp α) (b : Rp β) (c : Rp γ) : Rp (α × β × γ) := ⟨fun F v x => ∃ p y z w, v = .ref p ∧ F p = some (.tup [y, z, w]) ∧ a.r F y x.1 ∧ b.r F z x.2.1 ∧ c.r F w x.2.2,
  fun s ⟨p, y, z, w, e, q, h1, h2, h3⟩ => ⟨p, y, z, w, e, s _ _ q, a.mono s h1, b.mono s h2, c.mono s h3⟩⟩
def eL {α : Type} (t : Rp α) : Rp (List α) := ⟨fun F v x => ∃ p vs, v = .ref p ∧ F p = some (.lst vs) ∧ Al t F vs x,
  fun s ⟨p, vs, e, q, h⟩ => ⟨p, vs, e, s _ _ q, h.mono s⟩⟩
def eT {α : Type} (t : Rp α) : Rp (List α) := ⟨fun F v x => ∃ p vs, v = .ref p ∧ F p = some (.tup vs) ∧ Al t F vs x,
  fun s ⟨p, vs, e, q, h⟩ => ⟨p, vs, e, s _ _ q, h.mono s⟩⟩
/-- the script: a list of ints, perhaps locked -/
def eQ (K : PySem.W.Frag) : Rp (List Int) := ⟨fun F v x => ∃ p, v = .ref p ∧ SqL K F p (x.map V.int), fun s ⟨p, e, q⟩ => ⟨p, e, s.l q⟩⟩
/-- a new list that is the taker's own -/
def New {α : Type} (t : Rp α) (H F' H' : Hp) (v : V) (x : List α) : Prop := ∃ p vs, v = .ref p ∧ H p = none ∧ F' p = none ∧ H' p = some (.lst vs) ∧ Al t F' vs x

/-! ### lists in step -/
section
variable {α β : Type} {R : α → β → Prop}
theorem pd_get : ∀ {xs : List α} {ys : List β} {i : Nat} {y : β}, Paired R xs ys → ys[i]? = some y → ∃ x, xs[i]? = some x ∧ R x y
  | _, _, _, _, .nil, h => by simp at h
  | _, _, 0, _, .cons r _, h => by simp at h; subst h; exact ⟨_, rfl, r⟩
  | _, _, i + 1, _, .cons _ t, h => by
    obtain ⟨x, e, r⟩ := pd_get (i := i) t (by simpa using h)
    exact ⟨x, by simpa using e, r⟩
theorem pd_getL : ∀ {xs : List α} {ys : List β} {i : Nat} {x : α}, Paired R xs ys → xs[i]? = some x → ∃ y, ys[i]? = some y ∧ R x y
  | _, _, _, _, .nil, h => by simp at h
  | _, _, 0, _, .cons r _, h => by simp at h; subst h; exact ⟨_, rfl, r⟩
  | _, _, i + 1, _, .cons _ t, h => by
    obtain ⟨x, e, r⟩ := pd_getL (i := i) t (by simpa using h)
    exact ⟨x, by simpa using e, r⟩
theorem pd_append : ∀ {xs xs' : List α} {ys ys' : List β}, Paired R xs ys → Paired R xs' ys' → Paired R (xs ++ xs') (ys ++ ys')
  | _, _, _, _, .nil, h => h
  | _, _, _, _, .cons r t, h => .cons r (pd_append t h)
theorem pd_snoc {xs : List α} {ys : List β} {x : α} {y : β} (h : Paired R xs ys) (r : R x y) : Paired R (xs ++ [x]) (ys ++ [y]) := pd_append h (.cons r .nil)
theorem pd_take : ∀ {xs : List α} {ys : List β} (n : Nat), Paired R xs ys → Paired R (xs.take n) (ys.take n)
  | _, _, 0, _ => .nil
  | _, _, _ + 1, .nil => .nil
  | _, _, n + 1, .cons r t => .cons r (pd_take n t)
theorem pd_drop : ∀ {xs : List α} {ys : List β} (n : Nat), Paired R xs ys → Paired R (xs.drop n) (ys.drop n)
  | _, _, 0, h => h
  | _, _, _ + 1, .nil => .nil
  | _, _, n + 1, .cons _ t => pd_drop n t
theorem pd_set : ∀ {xs : List α} {ys : List β} (n : Nat) {x : α} {y : β}, Paired R xs ys → R x y → Paired R (xs.set n x) (ys.set n y)
  | _, _, _, _, _, .nil, _ => .nil
  | _, _, 0, _, _, .cons _ t, h => .cons h t
  | _, _, n + 1, _, _, .cons r t, h => .cons r (pd_set n t h)
theorem pd_rev : ∀ {xs : List α} {ys : List β}, Paired R xs ys → Paired R xs.reverse ys.reverse
  | _, _, .nil => .nil
  | _, _, .cons r t => by
    rw [List.reverse_cons, List.reverse_cons]
    exact pd_snoc (pd_rev t) r
theorem pd_last : ∀ {xs : List α} {ys : List β}, Paired R xs ys → Paired R xs.dropLast ys.dropLast := fun {xs ys} h => by
  rw [List.dropLast_eq_take, List.dropLast_eq_take, Paired.length h]
  exact pd_take _ h
end
theorem al_int {F : Hp} : ∀ {vs : List V} {xs : List Int}, Al eI F vs xs → vs = xs.map V.int
  | _, _, .nil => rfl
  | _, _, .cons r t => by
    have e : _ = V.int _ := r
    rw [e, al_int t]; rfl
theorem al_ofint {F : Hp} : ∀ (xs : List Int), Al eI F (xs.map V.int) xs
  | [] => .nil
  | _ :: r => .cons rfl (al_ofint r)
theorem al_bl {F : Hp} : ∀ {vs : List V} {xs : List Bool}, Al eB F vs xs → vs = xs.map V.bl
  | _, _, .nil => rfl
  | _, _, .cons r t => by
    have e : _ = V.bl _ := r
    rw [e, al_bl t]; rfl
theorem al_str {F : Hp} : ∀ {vs : List V} {xs : List Sg}, Al eS F vs xs → vs = (xs.map S).map V.str
  | _, _, .nil => rfl
  | _, _, .cons r t => by
    have e : _ = V.str _ := r.1
    rw [e, al_str t]; rfl
theorem al_len {α : Type} {t : Rp α} {F : Hp} {vs : List V} {xs : List α} (h : Al t F vs xs) : vs.length = xs.length := Paired.length h
theorem al_at {α : Type} {t : Rp α} {F : Hp} {vs : List V} {xs : List α} {i : Int} {a : α} (h : Al t F vs xs) (e : atI xs i = some a) : ∃ v, atI vs i = some v ∧ t.r F v a := by
  unfold atI at e ⊢
  rw [al_len h]
  cases q : ixN xs.length i with
  | none => rw [q] at e; cases e
  | some j =>
    rw [q] at e
    exact pd_get h e

/-! ### the mirror's words -/
section
variable {α β σ ρ : Type}
theorem bnd {x : Option α} {f : α → Option β} {b : β} (h : x.bind f = some b) : ∃ a, x = some a ∧ f a = some b := Option.bind_eq_some_iff.mp h
def cutL (xs : List α) (lo hi : Option Int) : List α := (xs.drop (HT.sIx xs.length 0 lo)).take (HT.sIx xs.length xs.length hi - HT.sIx xs.length 0 lo)
/-- a condition of the model's limits -/
def need (c : Bool) (x : α) : Option α := if c then some x else none
theorem need_ok {c : Bool} {x a : α} (h : need c x = some a) : c = true ∧ x = a := by
  unfold need at h
  cases c with
  | true => exact ⟨rfl, Option.some.inj h⟩
  | false => cases h
def szB (n : Nat) : Bool := decide (n ≤ 16777216)
theorem sz_ok {n : Nat} (h : szB n = true) : n ≤ sizeLine := by rw [sizeLine_eq]; exact of_decide_eq_true h
def catM (a b : Sg) : Option Sg := need (szB (a.length + b.length)) (a ++ b)
def mulB (i j : Int) : Bool := decide (-(2 ^ 64) < i ∧ i < 2 ^ 64) || decide (-(2 ^ 64) < j ∧ j < 2 ^ 64)
def mulM (i j : Int) : Option Int := need (mulB i j) (i * j)
def modM (i j : Int) : Option Int := need (decide (0 < j)) (i % j)
def divM (i j : Int) : Option Int := need (decide (0 < j ∧ j < 1073741824)) (i / j)
def b2 (b : Bool) : Int := if b then 1 else 0
def mx (i j : Int) : Int := if j > i then j else i
def mn (i j : Int) : Int := if j < i then j else i
def setM (xs : List α) (i : Int) (a : α) : Option (List α) := (ixN xs.length i).map fun j => xs.set j a
def joinM (sep : Sg) (xs : List Sg) : Option Sg := need (szB ((xs.map List.length).sum + xs.length * sep.length)) (TL.joinL sep xs)
def upto (lo hi : Int) : List Int := (List.range (hi - lo).toNat).map fun (i : Nat) => lo + i
def signs (l : Sg) : List Sg := l.map fun c => [c]
def foldO : List α → σ → (σ → α → Option σ) → Option σ
  | [], s, _ => some s
  | x :: xs, s, f => (f s x).bind fun s' => foldO xs s' f
inductive Fl (σ ρ : Type) where
  | nx (s : σ)
  | rt (r : ρ)
def foldR : List α → σ → (σ → α → Option (Fl σ ρ)) → Option (Fl σ ρ)
  | [], s, _ => some (.nx s)
  | x :: xs, s, f => (f s x).bind fun
    | .nx s' => foldR xs s' f
    | .rt r => some (.rt r)
def whileO : Nat → σ → (σ → Option Bool) → (σ → Option σ) → Option σ
  | 0, _, _, _ => none
  | n + 1, s, c, b => (c s).bind fun t => if t = true then (b s).bind fun s' => whileO n s' c b else some s
/-- a comprehension: a state handed on, an item made or none -/
def compO : List α → σ → (σ → α → Option (σ × Option β)) → Option (σ × List β)
  | [], s, _ => some (s, [])
  | x :: xs, s, f => (f s x).bind fun r => (compO xs r.1 f).bind fun q => some (q.1, r.2.toList ++ q.2)
end

/-! ### the readings' nodes -/
section
variable {σ σ' : St} {H : Hp} {Q : VK} {R : V → V → Hp → Prop} {ta tb tc : TE} {t tr : TA} {D : Ends} {v x y : V} {i : Nat}
theorem n_var (h : σ[i]? = some (some v)) (k : Q v H) : tVar i σ H Q := ⟨v, h, k⟩
theorem n_c (k : Q v H) : tC v σ H Q := k
theorem n_op {r : R2} (h : ta σ H fun x H1 => tb σ H1 fun y H2 => r x y H2 Q) : tOp r ta tb σ H Q := h
theorem n_un {r : V → Hp → VK → Prop} (h : ta σ H fun x H1 => r x H1 Q) : tUn r ta σ H Q := h
theorem n_cb {r : List V → Hp → VK → Prop} (h : t σ H fun vs H1 => r vs H1 Q) : tCB r t σ H Q := h
theorem n_cons {Q : List V → Hp → Prop} (h : ta σ H fun x H1 => tr σ H1 fun xs H2 => Q (x :: xs) H2) : tCons ta tr σ H Q := h
theorem n_nil {Q : List V → Hp → Prop} (h : Q [] H) : tNil σ H Q := h
def qT (Q : Bool → Hp → Prop) : VK := fun x H' => ∃ k, x = .bl k ∧ Q k H'
def qNewT (Q : VK) : List V → Hp → Prop := fun xs H1 => xs.length ≤ sizeLine ∧ ∀ p, H1 p = none → Q (.ref p) (upd H1 p (.tup xs))
def qNewL (Q : VK) : List V → Hp → Prop := fun xs H1 => xs.length ≤ sizeLine ∧ ∀ p, H1 p = none → Q (.ref p) (upd H1 p (.lst xs))
theorem n_tup (h : t σ H (qNewT Q)) : tTup t σ H Q := h
theorem n_lst (h : t σ H (qNewL Q)) : tLst t σ H Q := h
theorem n_call {sp : Sp} {dvs : List V} {E : XK} (h : t σ H fun vs H1 => sp (vs ++ dvs) H1 Q E) : tCall sp dvs E t σ H Q := h
theorem n_sl {r : V → Option Int → Option Int → Hp → VK → Prop} {tl th : TO} (h : ta σ H fun x H1 => tl σ H1 fun l H2 => th σ H2 fun u H3 => r x l u H3 Q) : tSl r ta tl th σ H Q := h
def qPart (Q : Option Int → Hp → Prop) : VK := fun x H1 => ∃ i, x = .int i ∧ Q (some i) H1
theorem n_part {Q : Option Int → Hp → Prop} (h : ta σ H (qPart Q)) : tPart ta σ H Q := h
theorem v_part {Q : Option Int → Hp → Prop} {n : Int} (h : Q (some n) H) : qPart Q (.int n) H := ⟨n, rfl, h⟩
theorem n_nopart {Q : Option Int → Hp → Prop} (h : Q none H) : tNoPart σ H Q := h
theorem n_bm {K : PySem.W.Frag} {T : String} {r : V → List V → Hp → VK → Prop} (h : ta σ H fun x H1 => tyV K T x H1 ∧ t σ H1 fun xs H2 => r x xs H2 Q) : tBM K T r ta t σ H Q := h
theorem n_bm0 {K : PySem.W.Frag} {T : String} {r : V → List V → Hp → VK → Prop} (h : ta σ H fun x H1 => tyV K T x H1 ∧ r x [] H1 Q) : tBM0 K T r ta σ H Q := h
theorem n_test {Q : Bool → Hp → Prop} (h : ta σ H (qT Q)) : tTest ta σ H Q := h
variable {nx bk ct : L2.St → Hp → Prop} {rt : VK}
theorem n_seq {t u : TS} (h : t ⟨u ⟨nx, rt, bk, ct⟩, rt, bk, ct⟩ σ H) : tSeq t u ⟨nx, rt, bk, ct⟩ σ H := h
theorem n_asg {g : TG} (h : ta σ H fun x H1 => g x σ H1 nx) : tAsg ta g ⟨nx, rt, bk, ct⟩ σ H := h
theorem n_drop (h : ta σ H fun _ H1 => nx σ H1) : tDrop ta ⟨nx, rt, bk, ct⟩ σ H := h
theorem n_ret (h : ta σ H rt) : tRet ta ⟨nx, rt, bk, ct⟩ σ H := h
theorem n_ifs {c : TT} {t u : TS} (h : c σ H fun b H1 => if b = true then t ⟨nx, rt, bk, ct⟩ σ H1 else u ⟨nx, rt, bk, ct⟩ σ H1) : tIfS c t u ⟨nx, rt, bk, ct⟩ σ H := h
theorem n_nextS (h : nx σ H) : tNext ⟨nx, rt, bk, ct⟩ σ H := h
theorem n_name {Q : St → Hp → Prop} (e : σ.set i (some v) = σ') (k : Q σ' H) : gName i v σ H Q := by rw [← e] at k; exact k
theorem set0 {x y : Option V} {r : St} : (x :: r).set 0 y = y :: r := rfl
theorem setS {x y : Option V} {r r' : St} {n : Nat} (h : r.set n y = r') : (x :: r).set (n + 1) y = x :: r' := by rw [← h]; rfl
theorem br {b : Bool} {A B : Prop} (h1 : b = true → A) (h2 : b = false → B) : if b = true then A else B := by
  cases b with
  | true => rw [if_pos rfl]; exact h1 rfl
  | false => rw [if_neg Bool.false_ne_true]; exact h2 rfl
theorem ifT {α : Type} {b : Bool} {x y : α} {z : α} (hb : b = true) (h : (if b = true then x else y) = z) : x = z := by rw [if_pos hb] at h; exact h
theorem ifF {α : Type} {b : Bool} {x y : α} {z : α} (hb : b = false) (h : (if b = true then x else y) = z) : y = z := by
  rw [if_neg (by rw [hb]; exact Bool.false_ne_true)] at h; exact h
/-- a cut behind an expression -/
theorem n_cut (I : V → Hp → Prop) (h : ∀ Q' : VK, (∀ v H', I v H' → Q' v H') → ta σ H Q') (k : ∀ v H', I v H' → Q v H') : ta σ H Q := h Q k
theorem n_cutT {t : TT} {Q : Bool → Hp → Prop} (I : Bool → Hp → Prop) (h : ∀ Q' : Bool → Hp → Prop, (∀ v H', I v H' → Q' v H') → t σ H Q') (k : ∀ v H', I v H' → Q v H') : t σ H Q := h Q k
end
end U
set_option Elab.async false
set_option linter.all false
set_option maxRecDepth 100000
set_option maxHeartbeats 4000000
namespace U
open PySem PySem.Spec L2

/-! ### what is walked -/
structure Sr {α : Type} (J : It) (G : Hp → Prop) (as : List α) (Y : Hp → V → Hp → α → Prop) : Prop where
  goes : ∀ i H, i < as.length → G H → J.go i H
  stops : ∀ H, G H → J.stop as.length H
  yields : ∀ i H x H', G H → J.yld i H x H' → ∀ a, as[i]? = some a → Y H x H' a
abbrev Forr (J : It) (g : TG) (tb : TS) (nx : L2.St → Hp → Prop) (rt : VK) (σ : L2.St) (H : Hp) : Prop :=
  ∃ W : Nat → Nat → L2.St → Hp → Prop, (∃ m, W 0 m σ H) ∧ ∀ i m σ H, W i m σ H →
    (J.stop i H ∧ nx σ H) ∨ (J.go i H ∧ ∃ N : L2.St → Hp → Prop, (∀ σ' H', N σ' H' → ∃ m', m' < m ∧ W (i + 1) m' σ' H') ∧ ∀ x H', J.yld i H x H' → g x σ H' fun σ2 H2 => tb ⟨N, rt, nx, N⟩ σ2 H2)
section
variable {α τ ρ : Type} {J : It} {G : Hp → Prop} {as : List α} {Y : Hp → V → Hp → α → Prop} {g : TG} {tb : TS} {nx bk ct : L2.St → Hp → Prop} {rt : VK} {σ : L2.St} {H : Hp}
theorem for_o (w : Sr J G as Y) {s0 s1 : τ} {f : τ → α → Option τ} (hm : foldO as s0 f = some s1) (I : τ → L2.St → Hp → Prop) (h0 : I s0 σ H) (hG : ∀ s σ H, I s σ H → G H)
    (hs : ∀ a s s' x σ H H', I s σ H → Y H x H' a → f s a = some s' → ∀ N : L2.St → Hp → Prop, (∀ σ' H', I s' σ' H' → N σ' H') → g x σ H' fun σ2 H2 => tb ⟨N, rt, nx, N⟩ σ2 H2)
    (hd : ∀ σ H, I s1 σ H → nx σ H) : Forr J g tb nx rt σ H := by
  refine ⟨fun i m σ H => m = as.length - i ∧ i ≤ as.length ∧ ∃ s, foldO (as.drop i) s f = some s1 ∧ I s σ H, ⟨as.length, by simp, Nat.zero_le _, s0, by simpa using hm, h0⟩, ?_⟩
  rintro i m σ H ⟨rfl, hi, s, hf, p⟩
  by_cases hlt : i < as.length
  · rw [List.drop_eq_getElem_cons hlt] at hf
    obtain ⟨s', e1, e2⟩ := bnd hf
    refine .inr ⟨w.goes i H hlt (hG _ _ _ p), fun σ' H' => ∃ s, foldO (as.drop (i + 1)) s f = some s1 ∧ I s σ' H', fun σ' H' p' => ⟨as.length - (i + 1), by omega, rfl, hlt, p'⟩, fun x H' y => ?_⟩
    exact hs as[i] s s' x σ H H' p (w.yields i H x H' (hG _ _ _ p) y as[i] (by simp [hlt])) e1 _ fun σ' H' q => ⟨s', e2, q⟩
  · have e : i = as.length := by omega
    subst e
    rw [List.drop_length] at hf
    have e2 : s = s1 := Option.some.inj hf
    subst e2
    exact .inl ⟨w.stops H (hG _ _ _ p), hd σ H p⟩
theorem for_r (w : Sr J G as Y) {s0 : τ} {z : Fl τ ρ} {f : τ → α → Option (Fl τ ρ)} (hm : foldR as s0 f = some z) (I : τ → L2.St → Hp → Prop) (h0 : I s0 σ H) (hG : ∀ s σ H, I s σ H → G H)
    (hs : ∀ a s fl x σ H H', I s σ H → Y H x H' a → f s a = some fl → (∀ r, fl = .rt r → z = .rt r) → ∀ N : L2.St → Hp → Prop, (∀ s' σ' H', fl = .nx s' → I s' σ' H' → N σ' H') → g x σ H' fun σ2 H2 => tb ⟨N, rt, nx, N⟩ σ2 H2)
    (hd : ∀ s1 σ H, z = .nx s1 → I s1 σ H → nx σ H) : Forr J g tb nx rt σ H := by
  refine ⟨fun i m σ H => m = as.length - i ∧ i ≤ as.length ∧ ∃ s, foldR (as.drop i) s f = some z ∧ I s σ H, ⟨as.length, by simp, Nat.zero_le _, s0, by simpa using hm, h0⟩, ?_⟩
  rintro i m σ H ⟨rfl, hi, s, hf, p⟩
  by_cases hlt : i < as.length
  · rw [List.drop_eq_getElem_cons hlt] at hf
    obtain ⟨fl, e1, e2⟩ := bnd hf
    refine .inr ⟨w.goes i H hlt (hG _ _ _ p), fun σ' H' => ∃ s, foldR (as.drop (i + 1)) s f = some z ∧ I s σ' H', fun σ' H' p' => ⟨as.length - (i + 1), by omega, rfl, hlt, p'⟩, fun x H' y => ?_⟩
    refine hs as[i] s fl x σ H H' p (w.yields i H x H' (hG _ _ _ p) y as[i] (by simp [hlt])) e1 (fun r er => ?_) _ fun s' σ' H' es q => ⟨s', ?_, q⟩
    · subst er; exact (Option.some.inj e2).symm
    · subst es; exact e2
  · have e : i = as.length := by omega
    subst e
    rw [List.drop_length] at hf
    have e2 : Fl.nx s = z := Option.some.inj hf
    exact .inl ⟨w.stops H (hG _ _ _ p), hd s σ H e2.symm p⟩
abbrev Compp (J : It) (g : TG) (tt : TT) (te : TE) (ws : List Nat) (σ : L2.St) (H1 : Hp) (Dd : Addr) (Q : VK) : Prop :=
  ∃ W : Nat → Nat → Hp → Prop, (∃ m, W 0 m (upd H1 Dd (.lst []))) ∧ ∀ i m H, W i m H →
    (J.stop i H ∧ Q (.ref Dd) H) ∨ (J.go i H ∧ ∃ Nx : Hp → Prop, (∀ H', Nx H' → ∃ m', m' < m ∧ W (i + 1) m' H') ∧ ∀ x H', J.yld i H x H' → g x (wipe σ ws) H' fun σ2 H2 => wipe σ2 ws = wipe σ ws ∧ tt σ2 H2 fun b H3 =>
      if b = true then te σ2 H3 fun y H4 => ∃ acc, H4 Dd = some (.lst acc) ∧ acc.length < sizeLine ∧ Nx (upd H4 Dd (.lst (acc ++ [y]))) else Nx H3)
theorem compO_len {β : Type} {f : τ → α → Option (τ × Option β)} : ∀ {as : List α} {s s1 : τ} {ys : List β}, compO as s f = some (s1, ys) → ys.length ≤ as.length
  | [], s, s1, ys, h => by
    have e := Option.some.inj h
    have e2 : [] = ys := congrArg Prod.snd e
    subst e2; simp
  | a :: r, s, s1, ys, h => by
    obtain ⟨q, _, h⟩ := bnd h
    obtain ⟨⟨s2, zs⟩, h2, h⟩ := bnd h
    have e := Option.some.inj h
    have e2 : q.2.toList ++ zs = ys := congrArg Prod.snd e
    subst e2
    have l := compO_len h2
    rw [List.length_append, List.length_cons]
    cases q.2 <;> simp <;> omega
theorem comp_p {β : Type} (w : Sr J G as Y) {s0 s1 : τ} {ys : List β} {f : τ → α → Option (τ × Option β)} (hm : compO as s0 f = some (s1, ys)) (hz : szB as.length = true) {tt : TT} {te : TE} {ws : List Nat} {Dd : Addr} {Q : VK}
    (I : τ → List β → Hp → Prop) (h0 : I s0 [] (upd H Dd (.lst []))) (hG : ∀ s acc H, I s acc H → G H)
    (hs : ∀ a s r acc x H H', I s acc H → Y H x H' a → f s a = some r → acc.length < sizeLine → ∀ N : Hp → Prop, (∀ H', I r.1 (acc ++ r.2.toList) H' → N H') → g x (wipe σ ws) H' fun σ2 H2 => wipe σ2 ws = wipe σ ws ∧ tt σ2 H2 fun b H3 =>
      if b = true then te σ2 H3 fun y H4 => ∃ acc, H4 Dd = some (.lst acc) ∧ acc.length < sizeLine ∧ N (upd H4 Dd (.lst (acc ++ [y]))) else N H3)
    (hd : ∀ H, I s1 ys H → Q (.ref Dd) H) : Compp J g tt te ws σ H Dd Q := by
  have hz' := sz_ok hz
  refine ⟨fun i m H => m = as.length - i ∧ i ≤ as.length ∧ ∃ s acc zs, compO (as.drop i) s f = some (s1, zs) ∧ acc ++ zs = ys ∧ acc.length ≤ i ∧ I s acc H, ⟨as.length, by simp, Nat.zero_le _, s0, [], ys, by simpa using hm, rfl, Nat.le_refl _, h0⟩, ?_⟩
  rintro i m H ⟨rfl, hi, s, acc, zs, hf, ez, hl, p⟩
  by_cases hlt : i < as.length
  · rw [List.drop_eq_getElem_cons hlt] at hf
    obtain ⟨r, e1, e2⟩ := bnd hf
    obtain ⟨⟨s2, zs2⟩, e3, e4⟩ := bnd e2
    have e5 := Option.some.inj e4
    have e6 : s2 = s1 := congrArg Prod.fst e5
    have e7 : r.2.toList ++ zs2 = zs := congrArg Prod.snd e5
    subst e6 e7
    refine .inr ⟨w.goes i H hlt (hG _ _ _ p), fun H' => ∃ s acc zs, compO (as.drop (i + 1)) s f = some (s2, zs) ∧ acc ++ zs = ys ∧ acc.length ≤ i + 1 ∧ I s acc H', fun H' p' => ⟨as.length - (i + 1), by omega, rfl, hlt, p'⟩, fun x H' y => ?_⟩
    refine hs as[i] s r acc x H H' p (w.yields i H x H' (hG _ _ _ p) y as[i] (by simp [hlt])) e1 (by omega) _ fun H' q => ⟨r.1, acc ++ r.2.toList, zs2, e3, by rw [List.append_assoc]; exact ez, ?_, q⟩
    rw [List.length_append]
    cases r.2 <;> simp <;> omega
  · have e : i = as.length := by omega
    subst e
    rw [List.drop_length] at hf
    have e2 := Option.some.inj hf
    have e3 : s = s1 := congrArg Prod.fst e2
    have e4 : [] = zs := congrArg Prod.snd e2
    subst e3 e4
    rw [List.append_nil] at ez
    subst ez
    exact .inl ⟨w.stops H (hG _ _ _ p), hd H p⟩
theorem comp_o {β : Type} (w : Sr J G as Y) {s0 : τ} {q : τ × List β} {f : τ → α → Option (τ × Option β)} (hm : compO as s0 f = some q) (hz : szB as.length = true) {tt : TT} {te : TE} {ws : List Nat} {Dd : Addr} {Q : VK}
    (I : τ → List β → Hp → Prop) (h0 : I s0 [] (upd H Dd (.lst []))) (hG : ∀ s acc H, I s acc H → G H)
    (hs : ∀ a s r acc x H H', I s acc H → Y H x H' a → f s a = some r → acc.length < sizeLine → ∀ N : Hp → Prop, (∀ H', I r.1 (acc ++ r.2.toList) H' → N H') → g x (wipe σ ws) H' fun σ2 H2 => wipe σ2 ws = wipe σ ws ∧ tt σ2 H2 fun b H3 =>
      if b = true then te σ2 H3 fun y H4 => ∃ acc, H4 Dd = some (.lst acc) ∧ acc.length < sizeLine ∧ N (upd H4 Dd (.lst (acc ++ [y]))) else N H3)
    (hd : ∀ H, I q.1 q.2 H → Q (.ref Dd) H) : Compp J g tt te ws σ H Dd Q := comp_p (s1 := q.1) (ys := q.2) w hm hz I h0 hG hs hd
def compS {β : Type} : List α → (α → Option (Option β)) → Option (List β)
  | [], _ => some []
  | x :: xs, f => (f x).bind fun r => (compS xs f).bind fun q => some (r.toList ++ q)
theorem compS_o {β : Type} {f : α → Option (Option β)} : ∀ {as : List α} {ys : List β}, compS as f = some ys → compO as () (fun _ a => (f a).bind fun r => some ((), r)) = some ((), ys)
  | [], ys, h => by rw [← Option.some.inj h]; rfl
  | a :: r, ys, h => by
    obtain ⟨q, h1, h2⟩ := bnd h
    obtain ⟨zs, h3, h4⟩ := bnd h2
    rw [← Option.some.inj h4]
    show ((f a).bind fun r => some ((), r)).bind _ = _
    rw [h1]
    show (compO r () _).bind _ = _
    rw [compS_o h3]; rfl
theorem comp_s {β : Type} (w : Sr J G as Y) {q : List β} {f : α → Option (Option β)} (hm : compS as f = some q) (hz : szB as.length = true) {tt : TT} {te : TE} {ws : List Nat} {Dd : Addr} {Q : VK}
    (I : List β → Hp → Prop) (h0 : I [] (upd H Dd (.lst []))) (hG : ∀ acc H, I acc H → G H)
    (hs : ∀ a r acc x H H', I acc H → Y H x H' a → f a = some r → acc.length < sizeLine → ∀ N : Hp → Prop, (∀ H', I (acc ++ r.toList) H' → N H') → g x (wipe σ ws) H' fun σ2 H2 => wipe σ2 ws = wipe σ ws ∧ tt σ2 H2 fun b H3 =>
      if b = true then te σ2 H3 fun y H4 => ∃ acc, H4 Dd = some (.lst acc) ∧ acc.length < sizeLine ∧ N (upd H4 Dd (.lst (acc ++ [y]))) else N H3)
    (hd : ∀ H, I q H → Q (.ref Dd) H) : Compp J g tt te ws σ H Dd Q :=
  comp_p w (compS_o hm) hz (fun _ => I) h0 (fun _ => hG) (fun a s r acc x H H' p y e l N hN => by
    obtain ⟨r', e1, e2⟩ := bnd e
    rw [← Option.some.inj e2] at hN
    exact hs a r' acc x H H' p y e1 l N hN) hd
/-- while -/
theorem while_o {n : Nat} {s0 s1 : τ} {cf : τ → Option Bool} {bf : τ → Option τ} (hm : whileO n s0 cf bf = some s1) {c : TT} (I : τ → L2.St → Hp → Prop) (h0 : I s0 σ H)
    (hc : ∀ s b σ H, I s σ H → cf s = some b → ∀ P : Bool → Hp → Prop, (∀ H1, I s σ H1 → P b H1) → c σ H P)
    (hb : ∀ s s' σ H, I s σ H → cf s = some true → bf s = some s' → ∀ N : L2.St → Hp → Prop, (∀ σ' H', I s' σ' H' → N σ' H') → tb ⟨N, rt, nx, N⟩ σ H)
    (hd : ∀ σ H, I s1 σ H → cf s1 = some false → nx σ H) : tWhile c tb ⟨nx, rt, bk, ct⟩ σ H := by
  refine ⟨fun m σ H => ∃ s, whileO m s cf bf = some s1 ∧ I s σ H, ⟨n, s0, hm, h0⟩, ?_⟩
  rintro m σ H ⟨s, hw, p⟩
  cases m with
  | zero => cases hw
  | succ m =>
    obtain ⟨b, e1, e2⟩ := bnd hw
    refine hc s b σ H p e1 _ fun H1 p1 => ?_
    cases b with
    | true =>
      rw [if_pos rfl] at e2 ⊢
      obtain ⟨s', e3, e4⟩ := bnd e2
      exact ⟨fun σ' H' => ∃ s, whileO m s cf bf = some s1 ∧ I s σ' H', fun σ' H' q => ⟨m, Nat.lt_succ_self m, q⟩, hb s s' σ H1 p1 e1 e3 _ fun σ' H' q => ⟨s', e4, q⟩⟩
    | false =>
      rw [if_neg Bool.false_ne_true] at e2 ⊢
      have e5 : s = s1 := Option.some.inj e2
      subst e5
      exact hd σ H1 p1 e1
def whileR : Nat → τ → (τ → Option Bool) → (τ → Option (Fl τ ρ)) → Option (Fl τ ρ)
  | 0, _, _, _ => none
  | n + 1, s, c, b => (c s).bind fun t => if t = true then (b s).bind fun
    | .nx s' => whileR n s' c b
    | .rt r => some (.rt r) else some (.nx s)
theorem while_r {n : Nat} {s0 : τ} {z : Fl τ ρ} {cf : τ → Option Bool} {bf : τ → Option (Fl τ ρ)} (hm : whileR n s0 cf bf = some z) {c : TT} (I : τ → L2.St → Hp → Prop) (h0 : I s0 σ H)
    (hc : ∀ s b σ H, I s σ H → cf s = some b → ∀ P : Bool → Hp → Prop, (∀ H1, I s σ H1 → P b H1) → c σ H P)
    (hb : ∀ s fl σ H, I s σ H → cf s = some true → bf s = some fl → (∀ r, fl = .rt r → z = .rt r) → ∀ N : L2.St → Hp → Prop, (∀ s' σ' H', fl = .nx s' → I s' σ' H' → N σ' H') → tb ⟨N, rt, nx, N⟩ σ H)
    (hd : ∀ s1 σ H, z = .nx s1 → I s1 σ H → cf s1 = some false → nx σ H) : tWhile c tb ⟨nx, rt, bk, ct⟩ σ H := by
  refine ⟨fun m σ H => ∃ s, whileR m s cf bf = some z ∧ I s σ H, ⟨n, s0, hm, h0⟩, ?_⟩
  rintro m σ H ⟨s, hw, p⟩
  cases m with
  | zero => cases hw
  | succ m =>
    obtain ⟨b, e1, e2⟩ := bnd hw
    refine hc s b σ H p e1 _ fun H1 p1 => ?_
    cases b with
    | true =>
      rw [if_pos rfl] at e2 ⊢
      obtain ⟨fl, e3, e4⟩ := bnd e2
      refine ⟨fun σ' H' => ∃ s, whileR m s cf bf = some z ∧ I s σ' H', fun σ' H' q => ⟨m, Nat.lt_succ_self m, q⟩, hb s fl σ H1 p1 e1 e3 (fun r er => ?_) _ fun s' σ' H' es q => ⟨s', ?_, q⟩⟩
      · subst er; exact (Option.some.inj e4).symm
      · subst es; exact e4
    | false =>
      rw [if_neg Bool.false_ne_true] at e2 ⊢
      have e5 : Fl.nx s = z := Option.some.inj e2
      exact hd s σ H1 e5.symm p1 e1
end
section
variable {α β : Type} {K : PySem.W.Frag} {p q : Addr} {vs ws : List V} {xs : List α} {ys : List β} {t : Rp α} {u : Rp β} {F : Hp}
theorem sr_L (h : Al t F vs xs) : Sr (Itl K p) (fun H => SqL K H p vs) xs (fun H x H' a => H' = H ∧ t.r F x a) := by
  refine ⟨fun i H hi hq => ?_, fun H hq => ⟨vs, hq, by rw [al_len h]; exact Nat.le_refl _⟩, fun i H x H' hq y a ha => ⟨y.1, ?_⟩⟩
  · obtain ⟨v, e, _⟩ := pd_get h (List.getElem?_eq_getElem hi)
    exact ⟨vs, v, hq, e⟩
  · obtain ⟨v, e, r⟩ := pd_get h ha
    have e2 := y.2 vs hq
    rw [e] at e2; cases e2
    exact r
theorem sr_T (h : Al t F vs xs) : Sr (Itt K p) (fun H => SqT K H p vs) xs (fun H x H' a => H' = H ∧ t.r F x a) := by
  refine ⟨fun i H hi hq => ?_, fun H hq => ⟨vs, hq, by rw [al_len h]; exact Nat.le_refl _⟩, fun i H x H' hq y a ha => ⟨y.1, ?_⟩⟩
  · obtain ⟨v, e, _⟩ := pd_get h (List.getElem?_eq_getElem hi)
    exact ⟨vs, v, hq, e⟩
  · obtain ⟨v, e, r⟩ := pd_get h ha
    have e2 := y.2 vs hq
    rw [e] at e2; cases e2
    exact r
theorem upto_len (lo hi : Int) : (upto lo hi).length = (hi - lo).toNat := by simp [upto]
theorem sr_R (lo hi : Int) : Sr (Itr lo (hi - lo).toNat) (fun _ => True) (upto lo hi) (fun H x H' a => H' = H ∧ x = .int a) := by
  refine ⟨fun i H hi _ => by rw [upto_len] at hi; exact hi, fun H _ => by rw [upto_len]; exact Nat.le_refl _, fun i H x H' _ y a ha => ⟨y.1, ?_⟩⟩
  rw [y.2]
  unfold upto at ha
  rw [List.getElem?_map] at ha
  cases e : (List.range (hi - lo).toNat)[i]? with
  | none => rw [e] at ha; cases ha
  | some j =>
    rw [e] at ha
    have ej : j = i := by
      have := List.getElem?_eq_some_iff.mp e
      obtain ⟨h1, h2⟩ := this
      simpa using h2.symm
    subst ej
    exact congrArg V.int (Option.some.inj ha)
theorem sr_R0 (hi : Int) : Sr (Itr 0 hi.toNat) (fun _ => True) (upto 0 hi) (fun H x H' a => H' = H ∧ x = .int a) := by
  have := sr_R 0 hi
  rw [Int.sub_zero] at this
  exact this
theorem sr_S (l : Sg) : Sr (Its (S l)) (fun _ => True) (signs l) (fun H x H' a => H' = H ∧ x = .str (S a) ∧ a.length = 1) := by
  refine ⟨fun i H hi _ => by
    show i < (S l).cps.size
    simpa [signs] using hi, fun H _ => by
    show (S l).cps.size ≤ (signs l).length
    simp [signs], fun i H x H' _ y a ha => ⟨y.1, ?_⟩⟩
  obtain ⟨_, c, hc, e⟩ := y
  unfold signs at ha
  rw [List.getElem?_map] at ha
  have hc' : l[i]? = some c := by simpa using hc
  rw [hc'] at ha
  have ea : [c] = a := Option.some.inj ha
  subst ea
  exact ⟨e, rfl⟩
def enumL (xs : List α) : List (Int × α) := xs.mapIdx fun i x => ((i : Int), x)
theorem sr_E (h : Al t F vs xs) : Sr (Ite K p) (fun H => SqL K H p vs) (enumL xs) (fun H x H' a => ∃ T y, x = .ref T ∧ H T = none ∧ H' = upd H T (.tup [.int a.1, y]) ∧ t.r F y a.2) := by
  refine ⟨fun i H hi hq => ?_, fun H hq => ⟨vs, hq, by rw [al_len h]; simp [enumL]⟩, fun i H x H' hq y a ha => ?_⟩
  · obtain ⟨v, e, _⟩ := pd_get h (List.getElem?_eq_getElem (show i < xs.length by simpa [enumL] using hi))
    exact ⟨vs, v, hq, e⟩
  · obtain ⟨T, z, e1, e2, e3, e4⟩ := y
    unfold enumL at ha
    rw [List.getElem?_mapIdx] at ha
    cases e : xs[i]? with
    | none => rw [e] at ha; cases ha
    | some b =>
      rw [e] at ha
      have ea : ((i : Int), b) = a := Option.some.inj ha
      subst ea
      obtain ⟨v, ev, r⟩ := pd_get h e
      have e5 := e4 vs hq
      rw [ev] at e5; cases e5
      exact ⟨T, _, e1, e2, e3, r⟩
theorem sr_Z (h : Al t F vs xs) (h' : Al u F ws ys) : Sr (Itz K p q) (fun H => SqL K H p vs ∧ SqL K H q ws) (xs.zip ys) (fun H x H' a => ∃ T y z, x = .ref T ∧ H T = none ∧ H' = upd H T (.tup [y, z]) ∧ t.r F y a.1 ∧ u.r F z a.2) := by
  have l1 := al_len h
  have l2 := al_len h'
  refine ⟨fun i H hi hq => ?_, fun H hq => ⟨vs, ws, hq.1, hq.2, by rw [List.length_zip]; omega⟩, fun i H x H' hq y a ha => ?_⟩
  · rw [List.length_zip] at hi
    obtain ⟨v, e, _⟩ := pd_get h (List.getElem?_eq_getElem (show i < xs.length by omega))
    obtain ⟨v', e', _⟩ := pd_get h' (List.getElem?_eq_getElem (show i < ys.length by omega))
    exact ⟨vs, ws, v, v', hq.1, hq.2, e, e'⟩
  · obtain ⟨T, y1, y2, e1, e2, e3, e4, e5⟩ := y
    rw [List.getElem?_zip_eq_some] at ha
    obtain ⟨v, ev, r⟩ := pd_get h ha.1
    obtain ⟨v', ev', r'⟩ := pd_get h' ha.2
    have e6 := e4 vs hq.1
    have e7 := e5 ws hq.2
    rw [ev] at e6; cases e6
    rw [ev'] at e7; cases e7
    exact ⟨T, _, _, e1, e2, e3, r, r'⟩
end
end U
set_option Elab.async false
set_option linter.all false
set_option maxRecDepth 100000
set_option maxHeartbeats 4000000
namespace U
open PySem PySem.Spec L2
/-! ### the rules' readings by names, the written part by its own name -/
abbrev RCl := List V → Hp → VK → Prop
abbrev RMt := V → List V → Hp → VK → Prop
def qLen (K : PySem.W.Frag) : RCl := fun xs H Q => ∃ p ys, xs = [V.ref p] ∧ (SqL K H p ys ∨ SqT K H p ys) ∧ Q (.int (ys.length : Nat)) H
def qLenS : RCl := fun xs H Q => ∃ z, xs = [.str z] ∧ z.length ≤ sizeLine ∧ Q (.int z.length) H
def qMax2 : RCl := fun xs H Q => ∃ i j, xs = [.int i, .int j] ∧ Q (.int (if j > i then j else i)) H
def qMin2 : RCl := fun xs H Q => ∃ i j, xs = [.int i, .int j] ∧ Q (.int (if j < i then j else i)) H
def qInt1 : RCl := fun xs H Q => (∃ i, xs = [.int i] ∧ Q (.int i) H) ∨ ∃ k, xs = [.bl k] ∧ Q (.int (if k then 1 else 0)) H
def qTuple (K : PySem.W.Frag) : RCl := fun xs H Q => ∃ p ys, xs = [V.ref p] ∧ ((SqL K H p ys ∧ ∀ l, H l = none → Q (.ref l) (upd H l (.tup ys))) ∨ (SqT K H p ys ∧ Q (.ref p) H))
def qList (K : PySem.W.Frag) : RCl := fun xs H Q => ∃ p ys, xs = [V.ref p] ∧ (SqL K H p ys ∨ SqT K H p ys) ∧ ∀ l, H l = none → Q (.ref l) (upd H l (.lst ys))
def qJoin (K : PySem.W.Frag) : RMt := fun x xs H Q => ∃ a p, ∃ ys : List Str, x = .str a ∧ xs = [.ref p] ∧ (SqL K H p (ys.map V.str) ∨ SqT K H p (ys.map V.str)) ∧ (ys.map (·.length)).sum + ys.length * a.length ≤ 16777216 ∧ Q (.str (Txt.join a ys)) H
def qCatS : R2 := fun x y H Q => ∃ i j, x = .str i ∧ y = .str j ∧ i.length + j.length ≤ sizeLine ∧ Q (.str (i ++ j)) H
def qLtS : R2 := fun x y H Q => ∃ i j, x = .str i ∧ y = .str j ∧ Q (.bl (decide (i.cps.toList < j.cps.toList))) H
def qLeS : R2 := fun x y H Q => ∃ i j, x = .str i ∧ y = .str j ∧ Q (.bl (!decide (j.cps.toList < i.cps.toList))) H
def qGtS : R2 := fun x y H Q => ∃ i j, x = .str i ∧ y = .str j ∧ Q (.bl (decide (j.cps.toList < i.cps.toList))) H
def qGeS : R2 := fun x y H Q => ∃ i j, x = .str i ∧ y = .str j ∧ Q (.bl (!decide (i.cps.toList < j.cps.toList))) H
section
variable {X : Cx} {K : PySem.W.Frag}
theorem c_len (hK : X.K = K) : CallR X (.builtin "len") (qLen K) := by subst hK; exact call_len_seq
theorem c_lenS : CallR X (.builtin "len") qLenS := call_len_str
theorem c_max2 (hc : X.calm = true) : CallR X (.builtin "max") qMax2 := call_max2 hc
theorem c_min2 (hc : X.calm = true) : CallR X (.builtin "min") qMin2 := call_min2 hc
theorem c_int1 : CallR X (.type "int") qInt1 := call_int1
theorem c_tuple (hK : X.K = K) : CallR X (.type "tuple") (qTuple K) := by subst hK; exact call_tuple_of
theorem c_list (hK : X.K = K) : CallR X (.type "list") (qList K) := by subst hK; exact call_list_of
theorem c_join (hK : X.K = K) : MtR X "str.join" (qJoin K) := by subst hK; exact mt_join
theorem c_catS : OpR X (binaryOp .Add) qCatS := op_add_str
theorem c_ltS : OpR X (compareOp .Lt) qLtS := op_lt_str
theorem c_leS : OpR X (compareOp .LtE) qLeS := op_le_str
theorem c_gtS : OpR X (compareOp .Gt) qGtS := op_gt_str
theorem c_geS : OpR X (compareOp .GtE) qGeS := op_ge_str
theorem c_ixT (hK : X.K = K) : IxR X (rIxT K) := by subst hK; exact ix_tup
theorem c_ixL (hK : X.K = K) : IxR X (rIxL K) := by subst hK; exact ix_list
theorem c_slL (hK : X.K = K) : SlR X (rSlL K) := by subst hK; exact sl_list
theorem c_slT (hK : X.K = K) : SlR X (rSlA K) := by subst hK; exact sl_tupA
variable {name id T : String} {o e : Expr} {es : List Expr} {to : TE} {t : TA} {apos pos : Pos} {nm : Str} {r : V → List V → Hp → VK → Prop} {tg l : Expr} {tl : TE}
theorem c_pgtup {es : List Expr} {k : Nat} {t : TGs} {n : Nat} (hK : X.K = K) (hc : X.calm = true) (h : PGs X es t) (hn : (assignEach es X.env).length = n := by rfl) (hst : (assignEach es X.env).findIdx? (·.1) = none := by rfl) : PG X (.Tuple es k pos) (gTup K n t) := by
  subst hK; exact pg_tup hc h hn hst
theorem c_pilist (hK : X.K = K) (hl : PE X l tl) : PI X tg l (iList K tl) := by subst hK; exact pi_list hl
theorem c_pitup (hK : X.K = K) (hl : PE X l tl) : PI X tg l (iTup K tl) := by subst hK; exact pi_tup hl
end
section
variable {K : PySem.W.Frag} {σ σ' : L2.St} {H F H' : Hp} {Q : VK} {i j a : Int} {x y v : V} {s r : Sg} {b c : Bool} {X : Cx}
/-! ### numbers -/
theorem v_i2 {g : Int → Int → V} (k : Q (g i j) H) : rI0 g (.int i) (.int j) H Q := ⟨i, j, rfl, rfl, k⟩
theorem mulB_ok (h : mulB i j = true) : CMul i j := by
  unfold mulB at h
  rw [Bool.or_eq_true] at h
  exact h.elim (fun z => .inl (of_decide_eq_true z)) fun z => .inr (of_decide_eq_true z)
theorem v_mul (h : mulM i j = some a) (k : Q (.int a) H) : L2.rI CMul (fun i j => .int (i * j)) (.int i) (.int j) H Q := by
  obtain ⟨h1, rfl⟩ := need_ok h
  exact ⟨i, j, rfl, rfl, mulB_ok h1, k⟩
theorem v_mulL (h : -(2 ^ 64) < i ∧ i < 2 ^ 64) (k : Q (.int (i * j)) H) : L2.rI CMul (fun i j => .int (i * j)) (.int i) (.int j) H Q := ⟨i, j, rfl, rfl, .inl h, k⟩
theorem v_mulR (h : -(2 ^ 64) < j ∧ j < 2 ^ 64) (k : Q (.int (i * j)) H) : L2.rI CMul (fun i j => .int (i * j)) (.int i) (.int j) H Q := ⟨i, j, rfl, rfl, .inr h, k⟩
theorem v_mod (h : modM i j = some a) (k : Q (.int a) H) : L2.rI (fun _ j => 0 < j) (fun i j => .int (i % j)) (.int i) (.int j) H Q := by
  obtain ⟨h1, rfl⟩ := need_ok h
  exact ⟨i, j, rfl, rfl, of_decide_eq_true h1, k⟩
theorem v_modK (h : 0 < j) (k : Q (.int (i % j)) H) : L2.rI (fun _ j => 0 < j) (fun i j => .int (i % j)) (.int i) (.int j) H Q := ⟨i, j, rfl, rfl, h, k⟩
theorem v_div (h : divM i j = some a) (k : Q (.int a) H) : L2.rI CDiv (fun i j => .int (i / j)) (.int i) (.int j) H Q := by
  obtain ⟨h1, rfl⟩ := need_ok h
  have h2 : 0 < j ∧ j < 1073741824 := of_decide_eq_true h1
  exact ⟨i, j, rfl, rfl, h2, k⟩
theorem v_divK (h : 0 < j ∧ j < 1073741824) (k : Q (.int (i / j)) H) : L2.rI CDiv (fun i j => .int (i / j)) (.int i) (.int j) H Q := ⟨i, j, rfl, rfl, h, k⟩
theorem v_powK (h : CPow i j) (e : i ^ j.toNat = a) (k : Q (.int a) H) : L2.rI CPow (fun i j => .int (i ^ j.toNat)) (.int i) (.int j) H Q := ⟨i, j, rfl, rfl, h, by subst e; exact k⟩
theorem v_neg (k : Q (.int (-i)) H) : rU (fun i => .int (-i)) (.int i) H Q := ⟨i, rfl, k⟩
theorem v_eqI (k : Q (.bl (decide (i = j))) H) : rEq (.int i) (.int j) H Q := ⟨rfl, by rw [dec_int, Bool.beq_eq_decide_eq]; exact k⟩
theorem v_neI (k : Q (.bl (!decide (i = j))) H) : rNe (.int i) (.int j) H Q := ⟨rfl, by rw [dec_int, Bool.beq_eq_decide_eq]; exact k⟩
theorem v_eqB (k : Q (.bl (decide (b = c))) H) : rEq (.bl b) (.bl c) H Q := ⟨rfl, by rw [dec_bl, Bool.beq_eq_decide_eq]; exact k⟩
theorem v_neB (k : Q (.bl (!decide (b = c))) H) : rNe (.bl b) (.bl c) H Q := ⟨rfl, by rw [dec_bl, Bool.beq_eq_decide_eq]; exact k⟩
theorem S_inj : S s = S r ↔ s = r := ⟨fun h => by
  have h1 := congrArg (fun z : Str => z.cps.toList) h
  exact h1, fun h => by rw [h]⟩
theorem dec_S : decide (V.str (S s) = V.str (S r)) = decide (s = r) := by
  rw [Bool.eq_iff_iff]
  simp only [decide_eq_true_eq, V.str.injEq]
  exact S_inj
theorem v_eqS (k : Q (.bl (decide (s = r))) H) : rEq (.str (S s)) (.str (S r)) H Q := ⟨rfl, by rw [dec_S]; exact k⟩
theorem v_neS (k : Q (.bl (!decide (s = r))) H) : rNe (.str (S s)) (.str (S r)) H Q := ⟨rfl, by rw [dec_S]; exact k⟩
theorem v_ltS (k : Q (.bl (decide (s < r))) H) : qLtS (.str (S s)) (.str (S r)) H Q := ⟨_, _, rfl, rfl, k⟩
theorem v_gtS (k : Q (.bl (decide (r < s))) H) : qGtS (.str (S s)) (.str (S r)) H Q := ⟨_, _, rfl, rfl, k⟩
theorem v_leS (k : Q (.bl (!decide (r < s))) H) : qLeS (.str (S s)) (.str (S r)) H Q := ⟨_, _, rfl, rfl, k⟩
theorem v_geS (k : Q (.bl (!decide (s < r))) H) : qGeS (.str (S s)) (.str (S r)) H Q := ⟨_, _, rfl, rfl, k⟩
theorem v_bl {P : Bool → Hp → Prop} (k : P b H) : qT P (.bl b) H := ⟨b, rfl, k⟩
theorem v_max2 (k : Q (.int (mx i j)) H) : qMax2 [.int i, .int j] H Q := ⟨i, j, rfl, k⟩
theorem v_min2 (k : Q (.int (mn i j)) H) : qMin2 [.int i, .int j] H Q := ⟨i, j, rfl, k⟩
theorem v_intB (k : Q (.int (b2 b)) H) : qInt1 [.bl b] H Q := .inr ⟨b, rfl, k⟩
theorem v_intI (k : Q (.int i) H) : qInt1 [.int i] H Q := .inl ⟨i, rfl, k⟩
/-! ### texts -/
theorem n_str {x : Str} (e : x = S s) (k : Q (.str (S s)) H) : tC (.str x) σ H Q := by rw [e]; exact k
theorem catM_le (h : catM s r = some t) : t.length ≤ sizeLine := by
  obtain ⟨h1, rfl⟩ := need_ok h
  rw [List.length_append]; exact sz_ok h1
theorem v_catS {t : Sg} (h : catM s r = some t) (k : Q (.str (S t)) H) : qCatS (.str (S s)) (.str (S r)) H Q := by
  obtain ⟨h1, rfl⟩ := need_ok h
  refine ⟨_, _, rfl, rfl, by simpa [Str.length] using sz_ok h1, ?_⟩
  have e : (S s ++ S r : Str) = S (s ++ r) := TL.ext_tl (by rw [TL.tl_append])
  rw [e]; exact k
theorem one_le {n : Nat} : ([n] : Sg).length ≤ sizeLine := by show 1 ≤ sizeLine; decide
theorem len1_le (h : s.length = 1) : s.length ≤ sizeLine := by rw [h]; decide
theorem v_ixS {n : Nat} (hl : s.length ≤ sizeLine) (h : atI s i = some n) (k : Q (.str (S [n])) H) : rIxS (.str (S s)) (.int i) H Q := ⟨_, _, n, rfl, rfl, by simpa [Str.length] using hl, h, k⟩
theorem cut_le {lo hi : Option Int} (hl : s.length ≤ sizeLine) : (cutL s lo hi).length ≤ sizeLine := by
  unfold cutL
  rw [List.length_take, List.length_drop]
  omega
theorem v_slS {lo hi : Option Int} (hl : s.length ≤ sizeLine) (k : Q (.str (S (cutL s lo hi))) H) : rSlS (.str (S s)) lo hi H Q := ⟨S s, rfl, by simpa [Str.length] using hl, by
  have e : cutS (S s) lo hi = S (cutL s lo hi) := by unfold cutS cutL; simp [Str.length]
  rw [e]; exact k⟩
theorem v_lenS (hl : s.length ≤ sizeLine) (k : Q (.int s.length) H) : qLenS [.str (S s)] H Q := ⟨S s, rfl, by simpa [Str.length] using hl, by
  have e : (S s).length = s.length := by simp [Str.length]
  rw [e]; exact k⟩
theorem tyS : tyV K "str" (.str (S s)) H := rfl
theorem joinM_le {xs : List Sg} (h : joinM s xs = some r) : r.length ≤ sizeLine := by
  obtain ⟨h1, rfl⟩ := need_ok h
  have h2 := sz_ok h1
  refine Nat.le_trans ?_ h2
  clear h h1 h2
  induction xs with
  | nil => simp [TL.joinL]
  | cons p q ih =>
    cases q with
    | nil => simp [TL.joinL]
    | cons q r =>
      have e : TL.joinL s (p :: q :: r) = p ++ (s ++ TL.joinL s (q :: r)) := rfl
      rw [e]
      simp only [List.length_append, List.map_cons, List.sum_cons, List.length_cons] at ih ⊢
      have : (r.length + 1 + 1) * s.length = (r.length + 1) * s.length + s.length := by rw [Nat.add_mul (r.length + 1) 1]; simp
      omega
theorem join_S (s : Sg) (xs : List Sg) : Txt.join (S s) (xs.map S) = S (TL.joinL s xs) := by
  rw [TL.join_eq]
  refine TL.ext_tl ?_
  rw [TL.tl_join]
  congr 1
  rw [List.map_map]
  exact (List.map_congr_left fun a _ => rfl).trans (List.map_id _)
theorem v_join {p : Addr} {vs : List V} {xs : List Sg} (hq : SqL K H p vs ∨ SqT K H p vs) (hr : Al eS F vs xs) (h : joinM s xs = some r) (k : Q (.str (S r)) H) : qJoin K (.str (S s)) [.ref p] H Q := by
  obtain ⟨h1, rfl⟩ := need_ok h
  have e := al_str hr
  subst e
  refine ⟨S s, p, xs.map S, rfl, rfl, hq, ?_, by rw [join_S]; exact k⟩
  have h2 := of_decide_eq_true h1
  have e1 : (xs.map S).map (·.length) = xs.map List.length := by rw [List.map_map]; exact List.map_congr_left fun a _ => by simp [Str.length]
  rw [e1, List.length_map]
  have e2 : (S s).length = s.length := by simp [Str.length]
  rw [e2]; exact h2
end
section
variable {K : PySem.W.Frag} {σ σ' : L2.St} {H F H' : Hp} {Q : VK} {i j : Int} {x y z v w : V} {α β γ : Type} {t : Rp α} {ta : Rp α} {tb : Rp β} {tc : Rp γ} {p q : Addr} {vs us : List V} {xs zs : List α} {D : Ends}
/-! ### lists and tuples -/
theorem v_len (hq : SqL K H p vs ∨ SqT K H p vs) (hr : Al t F vs xs) (k : Q (.int (xs.length : Int)) H) : qLen K [.ref p] H Q :=
  ⟨p, vs, rfl, hq, by rw [al_len hr]; exact k⟩
theorem v_ixL {a : α} (hq : SqL K H p vs) (hr : Al t F vs xs) (h : atI xs i = some a) (k : ∀ v, t.r F v a → Q v H) : rIxL K (.ref p) (.int i) H Q := by
  obtain ⟨v, e, r⟩ := al_at hr h
  exact ⟨p, vs, i, v, rfl, rfl, hq, e, k v r⟩
theorem v_ixT {a : α} (hq : SqT K H p vs) (hr : Al t F vs xs) (h : atI xs i = some a) (k : ∀ v, t.r F v a → Q v H) : rIxT K (.ref p) (.int i) H Q := by
  obtain ⟨v, e, r⟩ := al_at hr h
  exact ⟨p, vs, i, v, rfl, rfl, hq, e, k v r⟩
theorem v_ix20 {m : α × β} (hs : Sub F H) (hr : (eP2 ta tb).r F x m) (k : ∀ v, ta.r F v m.1 → Q v H) : rIxT K x (.int 0) H Q := by
  obtain ⟨p, y, z, rfl, hq, h1, h2⟩ := hr
  exact ⟨p, _, 0, y, rfl, rfl, .inl (.inl (hs _ _ hq)), rfl, k y h1⟩
theorem v_ix21 {m : α × β} (hs : Sub F H) (hr : (eP2 ta tb).r F x m) (k : ∀ v, tb.r F v m.2 → Q v H) : rIxT K x (.int 1) H Q := by
  obtain ⟨p, y, z, rfl, hq, h1, h2⟩ := hr
  exact ⟨p, _, 1, z, rfl, rfl, .inl (.inl (hs _ _ hq)), rfl, k z h2⟩
theorem v_ix30 {m : α × β × γ} (hs : Sub F H) (hr : (eP3 ta tb tc).r F x m) (k : ∀ v, ta.r F v m.1 → Q v H) : rIxT K x (.int 0) H Q := by
  obtain ⟨p, y, z, w, rfl, hq, h1, h2, h3⟩ := hr
  exact ⟨p, _, 0, y, rfl, rfl, .inl (.inl (hs _ _ hq)), rfl, k y h1⟩
theorem v_ix31 {m : α × β × γ} (hs : Sub F H) (hr : (eP3 ta tb tc).r F x m) (k : ∀ v, tb.r F v m.2.1 → Q v H) : rIxT K x (.int 1) H Q := by
  obtain ⟨p, y, z, w, rfl, hq, h1, h2, h3⟩ := hr
  exact ⟨p, _, 1, z, rfl, rfl, .inl (.inl (hs _ _ hq)), rfl, k z h2⟩
theorem v_ix32 {m : α × β × γ} (hs : Sub F H) (hr : (eP3 ta tb tc).r F x m) (k : ∀ v, tc.r F v m.2.2 → Q v H) : rIxT K x (.int 2) H Q := by
  obtain ⟨p, y, z, w, rfl, hq, h1, h2, h3⟩ := hr
  exact ⟨p, _, 2, w, rfl, rfl, .inl (.inl (hs _ _ hq)), rfl, k w h3⟩
theorem v_unp2 {tg : TGs} {m : α × β} {R : L2.St → Hp → Prop} (hs : Sub F H) (hr : (eP2 ta tb).r F x m) (k : ∀ y z, ta.r F y m.1 → tb.r F z m.2 → tg [y, z] σ H R) : gTup K 2 tg x σ H R := by
  obtain ⟨p, y, z, rfl, hq, h1, h2⟩ := hr
  exact ⟨p, _, rfl, .inl (.inl (hs _ _ hq)), rfl, k y z h1 h2⟩
theorem v_unp3 {tg : TGs} {m : α × β × γ} {R : L2.St → Hp → Prop} (hs : Sub F H) (hr : (eP3 ta tb tc).r F x m) (k : ∀ y z w, ta.r F y m.1 → tb.r F z m.2.1 → tc.r F w m.2.2 → tg [y, z, w] σ H R) : gTup K 3 tg x σ H R := by
  obtain ⟨p, y, z, w, rfl, hq, h1, h2, h3⟩ := hr
  exact ⟨p, _, rfl, .inl (.inl (hs _ _ hq)), rfl, k y z w h1 h2 h3⟩
theorem n_gcons {tg : TG} {tgs : TGs} {R : L2.St → Hp → Prop} (h : tg x σ H fun σ' H' => tgs vs σ' H' R) : gCons tg tgs (x :: vs) σ H R := ⟨_, _, rfl, h⟩
theorem n_gnil {R : L2.St → Hp → Prop} (h : R σ H) : gNil [] σ H R := ⟨rfl, h⟩
/-- new objects -/
theorem gr_newF {W : List Addr} {o : HO} (hs : Sub F H) (hp : H p = none) : Gr W F H (upd F p o) (upd H p o) := (Gr.refl hs).newF hp
theorem gr_newM {W : List Addr} {o : HO} (hs : Sub F H) (hp : H p = none) : Gr W F H F (upd H p o) := (Gr.refl hs).newM hp
theorem v_mk2 {m : α} {n : β} (hs : Sub F H) (h1 : ta.r F x m) (h2 : tb.r F y n) (k : ∀ v F' H', Gr [] F H F' H' → (eP2 ta tb).r F' v (m, n) → Q v H') :
    qNewT Q [x, y] H :=
  ⟨by show 2 ≤ sizeLine; decide, fun p hp => k _ _ _ (gr_newF hs hp) ⟨p, x, y, rfl, upd_same, ta.mono (Sub.up1 (hs.nn hp)) h1, tb.mono (Sub.up1 (hs.nn hp)) h2⟩⟩
theorem v_mk3 {m : α} {n : β} {l : γ} (hs : Sub F H) (h1 : ta.r F x m) (h2 : tb.r F y n) (h3 : tc.r F z l) (k : ∀ v F' H', Gr [] F H F' H' → (eP3 ta tb tc).r F' v (m, n, l) → Q v H') :
    qNewT Q [x, y, z] H :=
  ⟨by show 3 ≤ sizeLine; decide, fun p hp => k _ _ _ (gr_newF hs hp) ⟨p, x, y, z, rfl, upd_same, ta.mono (Sub.up1 (hs.nn hp)) h1, tb.mono (Sub.up1 (hs.nn hp)) h2, tc.mono (Sub.up1 (hs.nn hp)) h3⟩⟩
theorem v_mkT (hs : Sub F H) (hr : Al t F vs xs) (hz : szB vs.length = true) (k : ∀ p F' H', Gr [] F H F' H' → F' p = some (.tup vs) → Al t F' vs xs → Q (.ref p) H') :
    qNewT Q vs H :=
  ⟨sz_ok hz, fun p hp => k _ _ _ (gr_newF hs hp) upd_same (hr.mono (Sub.up1 (hs.nn hp)))⟩
/-- a new list: frozen at once; one's own -/
theorem a_newF (hs : Sub F H) (hr : Al t F vs xs) (k : ∀ p F' H', Gr [] F H F' H' → F' p = some (.lst vs) → Al t F' vs xs → Q (.ref p) H') : ∀ p, H p = none → Q (.ref p) (upd H p (.lst vs)) :=
  fun p hp => k _ _ _ (gr_newF hs hp) upd_same (hr.mono (Sub.up1 (hs.nn hp)))
theorem a_newM (hs : Sub F H) (k : ∀ p H', H p = none → Gr [] F H F H' → F p = none → H' p = some (.lst vs) → Q (.ref p) H') : ∀ p, H p = none → Q (.ref p) (upd H p (.lst vs)) :=
  fun p hp => k _ _ hp (gr_newM hs hp) (hs.nn hp) upd_same
theorem v_mkLF (hs : Sub F H) (hr : Al t F vs xs) (hz : szB vs.length = true) (k : ∀ p F' H', Gr [] F H F' H' → F' p = some (.lst vs) → Al t F' vs xs → Q (.ref p) H') : qNewL Q vs H := ⟨sz_ok hz, a_newF hs hr k⟩
theorem v_mkLM (hs : Sub F H) (hz : szB vs.length = true) (k : ∀ p H', H p = none → Gr [] F H F H' → F p = none → H' p = some (.lst vs) → Q (.ref p) H') : qNewL Q vs H := ⟨sz_ok hz, a_newM hs k⟩
theorem cut_al {lo hi : Option Int} (hr : Al t F vs xs) : Al t F (cutV vs lo hi) (cutL xs lo hi) := by
  unfold cutV cutL
  rw [al_len hr]
  exact pd_take _ (pd_drop _ hr)
theorem v_slT {lo hi : Option Int} (hs : Sub F H) (hq : F p = some (.tup vs)) (hr : Al t F vs xs) (k : ∀ p' us F' H', Gr [] F H F' H' → F' p' = some (.tup us) → Al t F' us (cutL xs lo hi) → Q (.ref p') H') : rSlA K (.ref p) lo hi H Q := by
  refine ⟨p, vs, rfl, .inl (.inl (hs _ _ hq)), fun e => ?_, fun _ p' hp => k p' _ _ _ (gr_newF hs hp) upd_same ((cut_al hr).mono (Sub.up1 (hs.nn hp)))⟩
  have e2 : cutV vs lo hi = vs := by unfold cutV; rw [e.1, e.2]; simp
  have := cut_al (lo := lo) (hi := hi) hr
  rw [e2] at this
  exact k p vs F H (Gr.refl hs) hq this
/-- a list of one's own that changes -/
theorem tyL (hq : SqL K H p vs) : tyV K "list" (.ref p) H := .inl ⟨rfl, _, hq⟩
theorem v_append (hp : H p = some (.lst vs)) (hl : vs.length < sizeLine) (k : Q .non (upd H p (.lst (vs ++ [y])))) : rAppend (.ref p) [y] H Q := ⟨p, vs, y, rfl, rfl, hp, hl, k⟩
theorem v_extend (hp : H p = some (.lst vs)) (hq : H q = some (.lst us)) (hl : vs.length + us.length ≤ sizeLine) (k : Q .non (upd H p (.lst (vs ++ us)))) : rExtend (.ref p) [.ref q] H Q := ⟨p, q, vs, us, rfl, rfl, hp, hq, hl, k⟩
theorem v_setL {n : Nat} {R : Hp → Prop} (hp : H p = some (.lst vs)) (e : ixN vs.length i = some n) (k : R (upd H p (.lst (vs.set n y)))) : rSetL (.ref p) (.int i) y H R := ⟨p, vs, i, n, rfl, rfl, hp, e, k⟩
theorem setM_ok {a : α} {zs : List α} (hr : Al t F vs xs) (h : setM xs i a = some zs) (ha : t.r F y a) : ∃ n, ixN vs.length i = some n ∧ Al t F (vs.set n y) zs := by
  unfold setM at h
  rw [al_len hr]
  cases e : ixN xs.length i with
  | none => rw [e] at h; cases h
  | some n =>
    rw [e] at h
    have e2 : xs.set n a = zs := Option.some.inj h
    subst e2
    exact ⟨n, rfl, pd_set n hr ha⟩
def popM (xs : List α) : Option (α × List α) := (xs[xs.length - 1]?).map fun a => (a, xs.dropLast)
theorem v_pop {m : α × List α} (hp : H p = some (.lst vs)) (hr : Al t F vs xs) (h : popM xs = some m) (k : ∀ v, t.r F v m.1 → Al t F vs.dropLast m.2 → Q v (upd H p (.lst vs.dropLast))) : rPop (.ref p) [] H Q := by
  unfold popM at h
  cases e : xs[xs.length - 1]? with
  | none => rw [e] at h; cases h
  | some a =>
    rw [e] at h
    have e2 : (a, xs.dropLast) = m := Option.some.inj h
    subst e2
    rw [← al_len hr] at e
    obtain ⟨v, ev, rv⟩ := pd_get hr e
    exact ⟨p, vs, v, rfl, rfl, hp, ev, k v rv (pd_last hr)⟩
theorem v_cat (hs : Sub F H) (hp : H p = some (.lst vs)) (hq : H q = some (.lst us)) (hr : Al t F vs xs) (hr' : Al t F us zs) (hz : szB (xs.length + zs.length) = true) (k : ∀ p', H p' = none → Q (.ref p') (upd H p' (.lst (vs ++ us)))) : rCat (.ref p) (.ref q) H Q :=
  ⟨p, q, vs, us, rfl, rfl, hp, hq, by rw [al_len hr, al_len hr']; exact sz_ok hz, k⟩
def repL (xs : List α) (n : Nat) : List α := (List.replicate n xs).flatten
def repM (xs : List α) (i : Int) : Option (List α) := need (decide (-(2 ^ 63) ≤ i ∧ i < 2 ^ 63) && szB (xs.length * i.toNat)) (repL xs i.toNat)
theorem v_tuple (hs : Sub F H) (hq : SqL K H p vs) (hr : Al t F vs xs) (k : ∀ p' F' H', Gr [] F H F' H' → F' p' = some (.tup vs) → Al t F' vs xs → Q (.ref p') H') : qTuple K [.ref p] H Q :=
  ⟨p, vs, rfl, .inl ⟨hq, fun l hl => k _ _ _ (gr_newF hs hl) upd_same (hr.mono (Sub.up1 (hs.nn hl)))⟩⟩
theorem v_tupleT (hq : SqT K H p vs) (k : Q (.ref p) H) : qTuple K [.ref p] H Q := ⟨p, vs, rfl, .inr ⟨hq, k⟩⟩
theorem v_list (hq : SqL K H p vs ∨ SqT K H p vs) (k : ∀ l, H l = none → Q (.ref l) (upd H l (.lst vs))) : qList K [.ref p] H Q := ⟨p, vs, rfl, hq, k⟩
/-! ### loops' targets -/
theorem v_nmY {tg : TG} {P : Prop} {R : L2.St → Hp → Prop} (hY : H' = H ∧ P) (k : P → tg x σ H R) : tg x σ H' R := by
  obtain ⟨e, h⟩ := hY
  subst e; exact k h
theorem v_nmR {tg : TG} {a : Int} {R : L2.St → Hp → Prop} (hY : H' = H ∧ x = .int a) (k : tg (.int a) σ H R) : tg x σ H' R := by
  obtain ⟨e, h⟩ := hY
  subst e; subst h; exact k
theorem v_nmS {tg : TG} {a : Sg} {R : L2.St → Hp → Prop} (hY : H' = H ∧ x = .str (S a) ∧ a.length = 1) (k : a.length = 1 → tg (.str (S a)) σ H R) : tg x σ H' R := by
  obtain ⟨e, h, l⟩ := hY
  subst e; subst h; exact k l
theorem v_unpE {tg : TGs} {Fs : Hp} {a : Int × α} {R : L2.St → Hp → Prop} (hs : Sub F H) (hY : ∃ T y, x = .ref T ∧ H T = none ∧ H' = upd H T (.tup [.int a.1, y]) ∧ t.r Fs y a.2) (k : ∀ y, Gr [] F H F H' → t.r Fs y a.2 → tg [.int a.1, y] σ H' R) : gTup K 2 tg x σ H' R := by
  obtain ⟨T, y, rfl, nT, rfl, r⟩ := hY
  exact ⟨T, _, rfl, .inl (.inl upd_same), rfl, k y (gr_newM hs nT) r⟩
theorem v_unpZ {tg : TGs} {Fs : Hp} {a : α × β} {R : L2.St → Hp → Prop} (hs : Sub F H) (hY : ∃ T y z, x = .ref T ∧ H T = none ∧ H' = upd H T (.tup [y, z]) ∧ ta.r Fs y a.1 ∧ tb.r Fs z a.2) (k : ∀ y z, Gr [] F H F H' → ta.r Fs y a.1 → tb.r Fs z a.2 → tg [y, z] σ H' R) : gTup K 2 tg x σ H' R := by
  obtain ⟨T, y, z, rfl, nT, rfl, r, r'⟩ := hY
  exact ⟨T, _, rfl, .inl (.inl upd_same), rfl, k y z (gr_newM hs nT) r r'⟩
abbrev RIt := It → Hp → Prop
def qRng1 (R : RIt) : List V → Hp → Prop := fun vs H1 => ∃ j : Int, vs = [.int j] ∧ -(2 ^ 62) ≤ j ∧ j < 2 ^ 62 ∧ R (Itr 0 j.toNat) H1
def qRng2 (R : RIt) : List V → Hp → Prop := fun vs H1 => ∃ i j : Int, vs = [.int i, .int j] ∧ (-(2 ^ 62) ≤ i ∧ i < 2 ^ 62 ∧ -(2 ^ 62) ≤ j ∧ j < 2 ^ 62) ∧ R (Itr i (j - i).toNat) H1
def qItL (K : PySem.W.Frag) (R : RIt) : VK := fun x H1 => ∃ a, x = .ref a ∧ (∃ xs, SqL K H1 a xs) ∧ R (Itl K a) H1
def qItT (K : PySem.W.Frag) (R : RIt) : VK := fun x H1 => ∃ a, x = .ref a ∧ (∃ xs, SqT K H1 a xs) ∧ R (Itt K a) H1
def qItS (R : RIt) : VK := fun v H1 => ∃ x, v = .str x ∧ R (Its x) H1
theorem n_rng1 {ta : TA} {R : RIt} (h : ta σ H (qRng1 R)) : iRng1 ta σ H R := h
theorem n_rng2 {ta : TA} {R : RIt} (h : ta σ H (qRng2 R)) : iRng2 ta σ H R := h
theorem n_itL {ta : TE} {R : RIt} (h : ta σ H (qItL K R)) : iList K ta σ H R := h
theorem n_itT {ta : TE} {R : RIt} (h : ta σ H (qItT K R)) : iTup K ta σ H R := h
theorem n_itS {ta : TE} {R : RIt} (h : ta σ H (qItS R)) : iStr ta σ H R := h
def rngB (i : Int) : Bool := decide (-(2 ^ 62) ≤ i ∧ i < 2 ^ 62)
def uptoM (lo hi : Int) : Option (List Int) := need (rngB lo && rngB hi) (upto lo hi)
theorem uptoM_ok {lo hi : Int} {l : List Int} (h : uptoM lo hi = some l) : (-(2 ^ 62) ≤ lo ∧ lo < 2 ^ 62 ∧ -(2 ^ 62) ≤ hi ∧ hi < 2 ^ 62) ∧ upto lo hi = l := by
  obtain ⟨h1, h2⟩ := need_ok h
  unfold rngB at h1
  rw [Bool.and_eq_true] at h1
  have a := of_decide_eq_true h1.1
  have b := of_decide_eq_true h1.2
  exact ⟨⟨a.1, a.2, b.1, b.2⟩, h2⟩
theorem v_rng1 {hi : Int} {l : List Int} {R : It → Hp → Prop} (h : uptoM 0 hi = some l) (k : R (Itr 0 hi.toNat) H) : qRng1 R [.int hi] H :=
  ⟨hi, rfl, (uptoM_ok h).1.2.2.1, (uptoM_ok h).1.2.2.2, k⟩
theorem v_rng2 {lo hi : Int} {l : List Int} {R : It → Hp → Prop} (h : uptoM lo hi = some l) (k : R (Itr lo (hi - lo).toNat) H) : qRng2 R [.int lo, .int hi] H :=
  ⟨lo, hi, rfl, (uptoM_ok h).1, k⟩
theorem sr_R1 {hi : Int} {l : List Int} (h : uptoM 0 hi = some l) : Sr (Itr 0 hi.toNat) (fun _ => True) l (fun H x H' a => H' = H ∧ x = .int a) := by rw [← (uptoM_ok h).2]; exact sr_R0 hi
theorem sr_R2 {lo hi : Int} {l : List Int} (h : uptoM lo hi = some l) : Sr (Itr lo (hi - lo).toNat) (fun _ => True) l (fun H x H' a => H' = H ∧ x = .int a) := by rw [← (uptoM_ok h).2]; exact sr_R lo hi
variable {nx bk ct : L2.St → Hp → Prop} {rt : VK}
theorem n_for {wi : TI} {g : TG} {tb : TS} (h : wi σ H fun J H1 => Forr J g tb nx rt σ H1) : tFor wi g tb ⟨nx, rt, bk, ct⟩ σ H := h
theorem n_lc {wi : TI} {g : TG} {tt : TT} {te : TE} {ws : List Nat} (h : wi σ H fun J H1 => ∀ Dd, H1 Dd = none → Compp J g tt te ws σ H1 Dd Q) : tLc wi g tt te ws σ H Q := h
theorem v_itL (hq : SqL K H p vs) {R : It → Hp → Prop} (k : R (Itl K p) H) : qItL K R (.ref p) H := ⟨p, rfl, ⟨vs, hq⟩, k⟩
theorem v_itT (hq : SqT K H p vs) {R : It → Hp → Prop} (k : R (Itt K p) H) : qItT K R (.ref p) H := ⟨p, rfl, ⟨vs, hq⟩, k⟩
theorem v_itS {s : Sg} {R : It → Hp → Prop} (k : R (Its (S s)) H) : qItS R (.str (S s)) H := ⟨S s, rfl, k⟩
theorem br_join {b : Bool} {t u : TS} (I : L2.St → Hp → Prop) (hr : ∀ σ' H', I σ' H' → nx σ' H') (h1 : b = true → ∀ nx' : L2.St → Hp → Prop, (∀ σ' H', I σ' H' → nx' σ' H') → t ⟨nx', rt, bk, ct⟩ σ H)
    (h2 : b = false → ∀ nx' : L2.St → Hp → Prop, (∀ σ' H', I σ' H' → nx' σ' H') → u ⟨nx', rt, bk, ct⟩ σ H) : if b = true then t ⟨nx, rt, bk, ct⟩ σ H else u ⟨nx, rt, bk, ct⟩ σ H := by
  cases b with
  | true => rw [if_pos rfl]; exact h1 rfl nx hr
  | false => rw [if_neg Bool.false_ne_true]; exact h2 rfl nx hr
/-- and, or: what follows the first part -/
def qAndT (u : TT) (σ : L2.St) (Q : Bool → Hp → Prop) : Bool → Hp → Prop := fun c H1 => if c = true then u σ H1 Q else Q false H1
def qOrT (u : TT) (σ : L2.St) (Q : Bool → Hp → Prop) : Bool → Hp → Prop := fun c H1 => if c = true then Q true H1 else u σ H1 Q
def qAndV (u : TE) (σ : L2.St) (Q : VK) : Bool → Hp → Prop := fun c H1 => if c = true then u σ H1 Q else Q (.bl false) H1
def qOrV (u : TE) (σ : L2.St) (Q : VK) : Bool → Hp → Prop := fun c H1 => if c = true then Q (.bl true) H1 else u σ H1 Q
def qChain (tc : TE) (r' : R2) (y : V) (σ : L2.St) (Q : VK) : Bool → Hp → Prop := fun k H3 => if k = true then tc σ H3 fun w H4 => r' y w H4 Q else Q (.bl false) H3
def qIfE (ta tb : TE) (σ : L2.St) (Q : VK) : Bool → Hp → Prop := fun c H1 => if c = true then ta σ H1 Q else tb σ H1 Q
/-- the later part leaves the heap as it is -/
theorem br_andT {a b : Bool} {u : TT} {Q : Bool → Hp → Prop} (h : a = true → ∀ Q' : Bool → Hp → Prop, Q' b H → u σ H Q') (k : Q (a && b) H) : qAndT u σ Q a H := by
  unfold qAndT
  cases a with
  | true => rw [if_pos rfl]; exact h rfl Q k
  | false => rw [if_neg Bool.false_ne_true]; exact k
theorem br_orT {a b : Bool} {u : TT} {Q : Bool → Hp → Prop} (h : a = false → ∀ Q' : Bool → Hp → Prop, Q' b H → u σ H Q') (k : Q (a || b) H) : qOrT u σ Q a H := by
  unfold qOrT
  cases a with
  | true => rw [if_pos rfl]; exact k
  | false => rw [if_neg Bool.false_ne_true]; exact h rfl Q k
theorem br_andV {a b : Bool} {u : TE} (h : a = true → ∀ Q' : VK, Q' (.bl b) H → u σ H Q') (k : Q (.bl (a && b)) H) : qAndV u σ Q a H := by
  unfold qAndV
  cases a with
  | true => rw [if_pos rfl]; exact h rfl Q k
  | false => rw [if_neg Bool.false_ne_true]; exact k
theorem br_orV {a b : Bool} {u : TE} (h : a = false → ∀ Q' : VK, Q' (.bl b) H → u σ H Q') (k : Q (.bl (a || b)) H) : qOrV u σ Q a H := by
  unfold qOrV
  cases a with
  | true => rw [if_pos rfl]; exact k
  | false => rw [if_neg Bool.false_ne_true]; exact h rfl Q k
theorem br_chain {a b : Bool} {tc : TE} {r' : R2} (h : a = true → ∀ Q' : VK, Q' (.bl b) H → tc σ H fun w H4 => r' y w H4 Q') (k : Q (.bl (a && b)) H) : qChain tc r' y σ Q a H := by
  unfold qChain
  cases a with
  | true => rw [if_pos rfl]; exact h rfl Q k
  | false => rw [if_neg Bool.false_ne_true]; exact k
/-- .. in general: c is the whole's answer, I holds behind it -/
theorem br_andTM {a c : Bool} {u : TT} {Q : Bool → Hp → Prop} (I : Hp → Prop) (h : a = true → ∀ Q' : Bool → Hp → Prop, (∀ H', I H' → Q' c H') → u σ H Q') (hf : a = false → c = false ∧ I H) (k : ∀ H', I H' → Q c H') : qAndT u σ Q a H := by
  unfold qAndT
  cases a with
  | true => rw [if_pos rfl]; exact h rfl Q k
  | false => rw [if_neg Bool.false_ne_true]; have := k H (hf rfl).2; rw [(hf rfl).1] at this; exact this
theorem br_orTM {a c : Bool} {u : TT} {Q : Bool → Hp → Prop} (I : Hp → Prop) (h : a = false → ∀ Q' : Bool → Hp → Prop, (∀ H', I H' → Q' c H') → u σ H Q') (hf : a = true → c = true ∧ I H) (k : ∀ H', I H' → Q c H') : qOrT u σ Q a H := by
  unfold qOrT
  cases a with
  | true => rw [if_pos rfl]; have := k H (hf rfl).2; rw [(hf rfl).1] at this; exact this
  | false => rw [if_neg Bool.false_ne_true]; exact h rfl Q k
theorem br_andVM {a c : Bool} {u : TE} (I : Hp → Prop) (h : a = true → ∀ Q' : VK, (∀ H', I H' → Q' (.bl c) H') → u σ H Q') (hf : a = false → c = false ∧ I H) (k : ∀ H', I H' → Q (.bl c) H') : qAndV u σ Q a H := by
  unfold qAndV
  cases a with
  | true => rw [if_pos rfl]; exact h rfl Q k
  | false => rw [if_neg Bool.false_ne_true]; have := k H (hf rfl).2; rw [(hf rfl).1] at this; exact this
theorem br_orVM {a c : Bool} {u : TE} (I : Hp → Prop) (h : a = false → ∀ Q' : VK, (∀ H', I H' → Q' (.bl c) H') → u σ H Q') (hf : a = true → c = true ∧ I H) (k : ∀ H', I H' → Q (.bl c) H') : qOrV u σ Q a H := by
  unfold qOrV
  cases a with
  | true => rw [if_pos rfl]; have := k H (hf rfl).2; rw [(hf rfl).1] at this; exact this
  | false => rw [if_neg Bool.false_ne_true]; exact h rfl Q k
theorem n_and {t u : TT} {Q : Bool → Hp → Prop} (h : t σ H (qAndT u σ Q)) : tAnd t u σ H Q := h
theorem n_or {t u : TT} {Q : Bool → Hp → Prop} (h : t σ H (qOrT u σ Q)) : tOr t u σ H Q := h
theorem n_not {t : TT} {Q : Bool → Hp → Prop} (h : t σ H fun c H1 => Q (!c) H1) : tNot t σ H Q := h
theorem n_tB {t : TE} {Q : Bool → Hp → Prop} (h : t σ H (qT Q)) : tB t σ H Q := h
theorem n_andV {ta tb : TE} (h : ta σ H (qT (qAndV tb σ Q))) : tAndV ta tb σ H Q := h
theorem n_orV {ta tb : TE} (h : ta σ H (qT (qOrV tb σ Q))) : tOrV ta tb σ H Q := h
theorem n_notV {ta : TE} (h : ta σ H (qT fun c H1 => Q (.bl (!c)) H1)) : tNotV ta σ H Q := h
theorem n_ifE {t : TT} {ta tb : TE} (h : t σ H (qIfE ta tb σ Q)) : tIf t ta tb σ H Q := h
theorem n_chain {r r' : R2} {ta tb tc : TE} (h : ta σ H fun x H1 => tb σ H1 fun y H2 => r x y H2 (qT (qChain tc r' y σ Q))) : tChain r r' ta tb tc σ H Q := h
theorem n_aug {te : TE} {ti : TIp} {n : Nat} (h : σ[n]? = some (some x)) (k : te σ H fun y H1 => ti x y H1 fun z H2 => nx (σ.set n (some z)) H2) : tAug n te ti ⟨nx, rt, bk, ct⟩ σ H := ⟨x, h, k⟩
theorem v_ip {f : Int → Int → Int} (k : Q (.int (f i j)) H) : ipI f (.int i) (.int j) H Q := ⟨i, j, rfl, rfl, k⟩
theorem n_sub {to ti : TE} {st : TSet} {R : L2.St → Hp → Prop} (h : to σ H fun o H1 => ti σ H1 fun i H2 => st o i v H2 fun H3 => R σ H3) : gSub to ti st v σ H R := h
def qPar (σ : L2.St) (i j : Nat) (R : L2.St → Hp → Prop) : List V → Hp → Prop := fun vs H1 => ∃ v w, vs = [v, w] ∧ R ((σ.set i (some v)).set j (some w)) H1
theorem n_par {i j : Nat} {t : TA} (h : t σ H (qPar σ i j nx)) : tPar i j t ⟨nx, rt, bk, ct⟩ σ H := h
theorem v_par {i j : Nat} {τ : L2.St} {R : L2.St → Hp → Prop} (e : (σ.set i (some v)).set j (some w) = τ) (k : R τ H) : qPar σ i j R [v, w] H := ⟨v, w, rfl, by rw [e]; exact k⟩
end
end U
set_option Elab.async false
set_option linter.all false
set_option maxRecDepth 100000
set_option maxHeartbeats 4000000
namespace U
open PySem PySem.Spec L2
section
variable {K : PySem.W.Frag} {σ σ' : L2.St} {H F H' F0 H0 : Hp} {Q : VK} {i j : Int} {x y z v w : V} {α β γ : Type} {t : Rp α} {p q : Addr} {vs us : List V} {xs zs ys : List α} {D : Ends} {W : List Addr} {o u : HO}
def catLM (xs zs : List α) : Option (List α) := need (szB (xs.length + zs.length)) (xs ++ zs)
def snocM (xs : List α) (a : α) : Option (List α) := need (decide (xs.length < 16777216)) (xs ++ [a])
theorem v_catF (hs : Sub F H) (hp : H p = some (.lst vs)) (hq : H q = some (.lst us)) (hr : Al t F vs xs) (hr' : Al t F us zs) (h : catLM xs zs = some ys)
    (k : ∀ p' us' F' H', Gr [] F H F' H' → F' p' = some (.lst us') → Al t F' us' ys → Q (.ref p') H') : rCat (.ref p) (.ref q) H Q := by
  obtain ⟨h1, rfl⟩ := need_ok h
  exact ⟨p, q, vs, us, rfl, rfl, hp, hq, by rw [al_len hr, al_len hr']; exact sz_ok h1, fun p' hp' => k p' _ _ _ (gr_newF hs hp') upd_same (Al.mono (pd_append hr hr') (Sub.up1 (hs.nn hp')))⟩
theorem v_catM (hs : Sub F H) (hp : H p = some (.lst vs)) (hq : H q = some (.lst us)) (hr : Al t F vs xs) (hr' : Al t F us zs) (h : catLM xs zs = some ys)
    (k : ∀ p' us' H', H p' = none → Gr [] F H F H' → F p' = none → H' p' = some (.lst us') → Al t F us' ys → Q (.ref p') H') : rCat (.ref p) (.ref q) H Q := by
  obtain ⟨h1, rfl⟩ := need_ok h
  exact ⟨p, q, vs, us, rfl, rfl, hp, hq, by rw [al_len hr, al_len hr']; exact sz_ok h1, fun p' hp' => k p' _ _ hp' (gr_newM hs hp') (hs.nn hp') upd_same (pd_append hr hr')⟩
theorem pd_rep {n : Nat} (hr : Al t F vs xs) : Al t F (List.replicate n vs).flatten (repL xs n) := by
  unfold repL
  induction n with
  | zero => exact .nil
  | succ n ih => rw [List.replicate_succ, List.replicate_succ, List.flatten_cons, List.flatten_cons]; exact pd_append hr ih
theorem v_repF (hs : Sub F H) (hp : H p = some (.lst vs)) (hr : Al t F vs xs) (h : repM xs i = some ys)
    (k : ∀ p' us' F' H', Gr [] F H F' H' → F' p' = some (.lst us') → Al t F' us' ys → Q (.ref p') H') : rRep (.ref p) (.int i) H Q := by
  obtain ⟨h1, rfl⟩ := need_ok h
  rw [Bool.and_eq_true] at h1
  have h2 := of_decide_eq_true h1.1
  exact ⟨p, i, vs, rfl, rfl, hp, h2.1, h2.2, by rw [al_len hr]; exact sz_ok h1.2, fun p' hp' => k p' _ _ _ (gr_newF hs hp') upd_same (Al.mono (pd_rep hr) (Sub.up1 (hs.nn hp')))⟩
theorem v_repM (hs : Sub F H) (hp : H p = some (.lst vs)) (hr : Al t F vs xs) (h : repM xs i = some ys)
    (k : ∀ p' us' H', H p' = none → Gr [] F H F H' → F p' = none → H' p' = some (.lst us') → Al t F us' ys → Q (.ref p') H') : rRep (.ref p) (.int i) H Q := by
  obtain ⟨h1, rfl⟩ := need_ok h
  rw [Bool.and_eq_true] at h1
  have h2 := of_decide_eq_true h1.1
  exact ⟨p, i, vs, rfl, rfl, hp, h2.1, h2.2, by rw [al_len hr]; exact sz_ok h1.2, fun p' hp' => k p' _ _ hp' (gr_newM hs hp') (hs.nn hp') upd_same (pd_rep hr)⟩
theorem v_slLF {lo hi : Option Int} (hs : Sub F H) (hq : SqL K H p vs) (hr : Al t F vs xs) (k : ∀ p' us' F' H', Gr [] F H F' H' → F' p' = some (.lst us') → Al t F' us' (cutL xs lo hi) → Q (.ref p') H') : rSlL K (.ref p) lo hi H Q :=
  ⟨p, vs, rfl, hq, fun p' hp' => k p' _ _ _ (gr_newF hs hp') upd_same (Al.mono (cut_al hr) (Sub.up1 (hs.nn hp')))⟩
theorem v_slLM {lo hi : Option Int} (hs : Sub F H) (hq : SqL K H p vs) (hr : Al t F vs xs) (k : ∀ p' us' H', H p' = none → Gr [] F H F H' → F p' = none → H' p' = some (.lst us') → Al t F us' (cutL xs lo hi) → Q (.ref p') H') : rSlL K (.ref p) lo hi H Q :=
  ⟨p, vs, rfl, hq, fun p' hp' => k p' _ _ hp' (gr_newM hs hp') (hs.nn hp') upd_same (cut_al hr)⟩
theorem v_ixQ {ns : List Int} {a : Int} (hs : Sub F H) (hr : (eQ K).r F x ns) (h : atI ns i = some a) (k : Q (.int a) H) : rIxL K x (.int i) H Q := by
  obtain ⟨p, rfl, hq⟩ := hr
  obtain ⟨v, e, r⟩ := al_at (al_ofint (F := F) ns) h
  have r' : v = .int a := r
  subst r'
  exact ⟨p, _, i, _, rfl, rfl, hs.l hq, e, k⟩
theorem v_lenQ {ns : List Int} (hs : Sub F H) (hr : (eQ K).r F x ns) (k : Q (.int (ns.length : Int)) H) : qLen K [x] H Q := by
  obtain ⟨p, rfl, hq⟩ := hr
  exact ⟨p, _, rfl, .inl (hs.l hq), by rw [List.length_map]; exact k⟩
theorem snoc_lt {a : α} (hr : Al t F vs xs) (h : snocM xs a = some ys) : vs.length < sizeLine := by
  obtain ⟨h1, _⟩ := need_ok h
  rw [al_len hr, sizeLine_eq]; exact of_decide_eq_true h1
theorem app_ok {a : α} (g : Gr W F0 H0 F H) (m : Mu W H0 F H p (.lst vs)) (hr : Al t F vs xs) (h : snocM xs a = some ys) (ha : t.r F y a) :
    ∃ vs' H', Gr W F0 H0 F H' ∧ Al t F vs' ys ∧ vs' = vs ++ [y] ∧ H' = upd H p (.lst vs') := by
  obtain ⟨_, rfl⟩ := need_ok h
  exact ⟨_, _, m.gr g, pd_snoc hr ha, rfl, rfl⟩
theorem cat_le (hr : Al t F vs xs) (hr' : Al t F us zs) (h : catLM xs zs = some ys) : vs.length + us.length ≤ sizeLine := by
  obtain ⟨h1, _⟩ := need_ok h
  rw [al_len hr, al_len hr']; exact sz_ok h1
theorem ext_ok (g : Gr W F0 H0 F H) (m : Mu W H0 F H p (.lst vs)) (hr : Al t F vs xs) (hr' : Al t F us zs) (h : catLM xs zs = some ys) :
    ∃ vs' H', Gr W F0 H0 F H' ∧ Al t F vs' ys ∧ vs' = vs ++ us ∧ H' = upd H p (.lst vs') := by
  obtain ⟨_, rfl⟩ := need_ok h
  exact ⟨_, _, m.gr g, pd_append hr hr', rfl, rfl⟩
theorem pop_ok (g : Gr W F0 H0 F H) (m : Mu W H0 F H p (.lst vs)) : ∃ vs' H', Gr W F0 H0 F H' ∧ vs' = vs.dropLast ∧ H' = upd H p (.lst vs') := ⟨_, _, m.gr g, rfl, rfl⟩
theorem st_ok (g : Gr W F0 H0 F H) (m : Mu W H0 F H p o) (us : List V) : ∃ vs' H', Gr W F0 H0 F H' ∧ vs' = us ∧ H' = upd H p (.lst vs') := ⟨_, _, m.gr g, rfl, rfl⟩
theorem mu_self (m : Mu W H0 F H p o) (e : H' = upd H p u) : Mu W H0 F H' p u := by subst e; exact m.self
theorem mu_oth (m : Mu W H0 F H q o) (ne : q ≠ p) (e : H' = upd H p u) : Mu W H0 F H' q o := by subst e; exact m.mut ne
theorem freeze (g : Gr W F0 H0 F H) (m : Mu W H0 F H p o) (h0 : H0 p = none) : ∃ F', F' p = some o ∧ Sub F F' ∧ Gr W F0 H0 F' H ∧ (∀ q u, q ≠ p → Mu W H0 F H q u → Mu W H0 F' H q u) :=
  ⟨upd F p o, upd_same, Sub.up1 m.fr, g.frz m.fr m.hp h0, fun _ _ ne m' => m'.frz ne⟩
theorem wipe_to {ws : List Nat} {g : TG} {R : L2.St → Hp → Prop} (e : wipe σ ws = σ') (k : g x σ' H R) : g x (wipe σ ws) H R := by rw [e]; exact k
theorem set_to {n : Nat} {R : L2.St → Hp → Prop} {v : Option V} (e : σ.set n v = σ') (k : R σ' H) : R (σ.set n v) H := by rw [e]; exact k
theorem n_cutI {b : Bool} {ta tb : TE} (x : Int) (h : ∀ Q' : VK, Q' (.int x) H → qIfE ta tb σ Q' b H) (k : Q (.int x) H) : qIfE ta tb σ Q b H := h Q k
theorem n_cutB {b : Bool} {ta tb : TE} (x : Bool) (h : ∀ Q' : VK, Q' (.bl x) H → qIfE ta tb σ Q' b H) (k : Q (.bl x) H) : qIfE ta tb σ Q b H := h Q k
theorem n_cutS {b : Bool} {ta tb : TE} (x : Sg) (h : ∀ Q' : VK, (x.length ≤ sizeLine → Q' (.str (S x)) H) → qIfE ta tb σ Q' b H) (k : x.length ≤ sizeLine → Q (.str (S x)) H) : qIfE ta tb σ Q b H := h Q k
def thenF {σ ρ β : Type} (z : Fl σ ρ) (k : σ → Option β) (e : ρ → Option β) : Option β := match z with
  | .nx s => k s
  | .rt r => e r
theorem thenF_nx {σ ρ β : Type} {s : σ} {k : σ → Option β} {e : ρ → Option β} {b : Option β} (h : thenF (.nx s) k e = b) : k s = b := h
theorem thenF_rt {σ ρ β : Type} {z : Fl σ ρ} {r : ρ} {k : σ → Option β} {e : ρ → Option β} {b : Option β} (hz : z = .rt r) (h : thenF z k e = b) : e r = b := by subst hz; exact h
theorem n_yes {R : Bool → Hp → Prop} {A B : Prop} (k : A) (e : R true H = (if true = true then A else B)) : tYes σ H R := by show R true H; rw [e, if_pos rfl]; exact k
theorem nin1 {a p : Addr} (h : a ≠ p) : a ∉ [p] := by simp [h]
theorem nin2 {a p q : Addr} (h : a ≠ p) (h' : a ≠ q) : a ∉ [p, q] := by simp [h, h']
end
/-- a def of the text -/
abbrev FnP (K : PySem.W.Frag) (x : Str) (st : Stmt) (f : Addr) (fd : FuncData) : Prop := FunD K x x (defArgs st) (defBody st) (defScope st) [] [] f fd
theorem c_isi {X : Cx} {K : PySem.W.Frag} (hK : X.K = K) : CallR X (.builtin "isinstance") (rIsi K) := by subst hK; exact call_isi
section
variable {X : Cx} {K : PySem.W.Frag} {name id T : String} {o e : Expr} {es : List Expr} {to : TE} {t : TA} {apos pos : Pos} {nm : Str} {r : V → List V → Hp → VK → Prop}
theorem c_bm {cpos : Pos} (hK : X.K = K) (pa : PlainAttrs T) (slot : Slot T name id) (hty : typeOf (.builtin id) = pure (.type "method_descriptor")) (hm : MtR X id r) (ho : PE X o to) (ha : PA X (e :: es) t)
    (h1 : attributeBase o name X.env (eval o X.env) = eval o X.env := by rfl)
    (h2 : (((((backTo cpos (starEach (e :: es) X.env)).all fun x => !x.fst) && (backToKw cpos (keywordEach [] X.env)).all fun x => x.fst.isSome) && decide (((e :: es).length + ([] : List Keyword).length + if ([] : List Keyword).isEmpty = true then 0 else 1) < 30)) = true) := by rfl)
    (h3 : (apos.endLine == cpos.line) = true := by rfl) (h4 : starEach (e :: es) X.env = (false, eval e X.env) :: starEach es X.env := by rfl) (h5 : ((backTo cpos (starEach es X.env)).any fun x => x.fst) = false := by rfl) :
    PE X (.Call (.Attribute o name apos) (e :: es) [] cpos) (tBM K T r to t) := by subst hK; exact pe_bm pa slot hty hm ho ha h1 h2 h3 h4 h5
theorem c_bm0 {cpos : Pos} (hK : X.K = K) (pa : PlainAttrs T) (slot : Slot T name id) (hty : typeOf (.builtin id) = pure (.type "method_descriptor")) (hm : MtR X id r) (ho : PE X o to)
    (h1 : attributeBase o name X.env (eval o X.env) = eval o X.env := by rfl) (h3 : (apos.endLine == cpos.line) = true := by rfl) :
    PE X (.Call (.Attribute o name apos) [] [] cpos) (tBM0 K T r to) := by subst hK; exact pe_bm0 pa slot hty hm ho h1 h3
end
def Has (P : Program) (w : World) (K : PySem.W.Frag) (mg : Str → Option Value) (base : Heap) (x : Str) (ps : List Str) (k : Nat) (sp : Sp) : Prop :=
  ∃ f fd, FnOk P w K mg base CX0 k f fd ps sp ∧ mg x = some (.ref f) ∧ PySem.W.keepIn K (.ref f) = true ∧ Binds K fd ps []
end U
namespace U
open PySem PySem.Spec L2
theorem bo_len : bootBuiltins "len" = some (.builtin "len") := by decide +kernel
theorem bo_max : bootBuiltins "max" = some (.builtin "max") := by decide +kernel
theorem bo_min : bootBuiltins "min" = some (.builtin "min") := by decide +kernel
theorem bo_sum : bootBuiltins "sum" = some (.builtin "sum") := by decide +kernel
theorem bo_all : bootBuiltins "all" = some (.builtin "all") := by decide +kernel
theorem bo_any : bootBuiltins "any" = some (.builtin "any") := by decide +kernel
theorem bo_sorted : bootBuiltins "sorted" = some (.builtin "sorted") := by decide +kernel
theorem bo_repr : bootBuiltins "repr" = some (.builtin "repr") := by decide +kernel
theorem bo_isinstance : bootBuiltins "isinstance" = some (.builtin "isinstance") := by decide +kernel
theorem bo_int : bootBuiltins "int" = some (.type "int") := by decide +kernel
theorem bo_bool : bootBuiltins "bool" = some (.type "bool") := by decide +kernel
theorem bo_str : bootBuiltins "str" = some (.type "str") := by decide +kernel
theorem bo_tuple : bootBuiltins "tuple" = some (.type "tuple") := by decide +kernel
theorem bo_list : bootBuiltins "list" = some (.type "list") := by decide +kernel
theorem bo_dict : bootBuiltins "dict" = some (.type "dict") := by decide +kernel
theorem bo_set : bootBuiltins "set" = some (.type "set") := by decide +kernel
theorem bo_type : bootBuiltins "type" = some (.type "type") := by decide +kernel
section
variable {K : PySem.W.Frag} {H F : Hp} {Q : VK} {x : V} {T U : String} {b : Bool}
theorem v_isi (ty : TyX K H x (.type T)) (h : kitB T U = some b) (k : Q (.bl b) H) : rIsi K [x, .ty U] H Q := ⟨x, .ty U, _, _, b, rfl, .ty U, ty, kit_ty h, k⟩
theorem ty_frz {α β : Type} {ta : Rp α} {tb : Rp β} {m : α × β} (hs : Sub F H) (h : (eP2 ta tb).r F x m) : TyX K H x (.type "tuple") := by
  obtain ⟨p, y, z, rfl, q, _⟩ := h
  exact .base (.tup (hs _ _ q))
theorem ty_frz3 {α β γ : Type} {ta : Rp α} {tb : Rp β} {tc : Rp γ} {m : α × β × γ} (hs : Sub F H) (h : (eP3 ta tb tc).r F x m) : TyX K H x (.type "tuple") := by
  obtain ⟨p, y, z, w, rfl, q, _⟩ := h
  exact .base (.tup (hs _ _ q))
theorem ty_vt {α : Type} {ta : Rp α} {m : List α} (hs : Sub F H) (h : (eT ta).r F x m) : TyX K H x (.type "tuple") := by
  obtain ⟨p, vs, rfl, q, _⟩ := h
  exact .base (.tup (hs _ _ q))
theorem ty_list {α : Type} {ta : Rp α} {m : List α} (hs : Sub F H) (h : (eL ta).r F x m) : TyX K H x (.type "list") := by
  obtain ⟨p, vs, rfl, q, _⟩ := h
  exact .base (.lst (hs _ _ q))
end
end U
set_option Elab.async false
set_option linter.all false
set_option maxRecDepth 100000
set_option maxHeartbeats 4000000
namespace U
open PySem PySem.Spec PyProof.Rows L2
/-! ### defs that are called where no repr is under way (a repr within a def asks it) -/
structure FnG (P : Program) (w : World) (K : PySem.W.Frag) (mg : Str → Option Value) (base : Heap) (CX : CXT) (k : Nat) (f : Addr) (fd : FuncData) (ps : List Str) (sp : Sp) : Prop where
  len : ∀ vs H Q E, sp vs H Q E → vs.length = ps.length
  go : ∀ (A : Around) (out : List Env) (s : Shared) (H : Hp) (as : Args) (us : List Value) (vs : List V) (Q : VK) (E : XK), A.guards = some [] → Room k A → Env0 P w K mg base A out s H → BindsTo s fd as (ps.zip us) → Vals vs us →
    sp vs H Q E → codeAny (model P w) A (.call (.ref f) as) (CR CX out P w H s Q E) s
section
variable {P : Program} {w : World} {K : PySem.W.Frag} {mg : Str → Option Value} {base : Heap} {CX : CXT} {k : Nat} {f : Addr} {fd : FuncData} {ps N : List Str} {sp : Sp}
theorem FnG.mono {j : Nat} (G : FnG P w K mg base CX j f fd ps sp) (h : j ≤ k) : FnG P w K mg base CX k f fd ps sp :=
  ⟨G.len, fun A out s H as us vs Q E g hr => G.go A out s H as us vs Q E g (hr.mono h)⟩
theorem FnG.ofOk (F : FnOk P w K mg base CX k f fd ps sp) : FnG P w K mg base CX k f fd ps sp := ⟨F.len, fun A out s H as us vs Q E _ => F.run A out s H as us vs Q E⟩
/-- a def's body -/
theorem body_ok {nm qual : Str} {params : Arguments} {body : List Stmt} {scope : Scope} {dV kV doc pm cdv ct oc : Value} {an od : Option Addr} {osl : Array (Option Value)}
    (lk : K.lookup f = some ⟨oc, od, .func (PySem.W.fnOf nm qual params body scope dV kV doc pm an cdv ct), osl⟩) (hc : PySem.W.codeIn K cdv qual = true) (S : FnScope N ps scope) (hl : ∀ vs H Q E, sp vs H Q E → vs.length = ps.length)
    (hb : ∀ (A : Around) (out : List Env) (s : Shared) (H : Hp) (vs : List V) (Q : VK) (E : XK), A.guards = some [] → Room k (A.deeper (PyProof.Rows.envOfC qual scope s.heap.objs.size f cdv)) → sp vs H Q E →
      ∃ t, PSs (cxOf CX P w K mg base N qual scope f cdv A out s H E) body t ∧ t { nx := fun _ H' => Q .non H', rt := Q } (start N vs) H) :
    FnG P w K mg base CX (k + 1) f (PySem.W.fnOf nm qual params body scope dV kV doc pm an cdv ct) ps sp where
  len := hl
  go := fun A out s H as us vs Q E g hr e0 hbt rv hsp => by
    have kin : K.In s.heap := e0.mod.kin.keeps fun b o e => (e0.bs b o e).1
    have nol : s.heap.NoLimit := e0.mod.nolimit.keeps fun b o e => (e0.bs b o e).1
    have hs : ∀ y ∈ ps.zip us, scope.names.lookup y.1 = some .local ∨ (scope.names.lookup y.1 = some .cell ∧ ((cellsFrom (s.heap.objs.size + 1) scope.names []).lookup y.1).isSome = true) := by
      intro y hy
      rcases S.par y.1 (List.of_mem_zip (a := y.1) (b := y.2) hy).1 with h | h
      · exact .inl h
      · exact .inr ⟨h, PySem.W.cellsFrom_some _ _ _ (.inl h)⟩
    refine codeAny_call_function hr.depth (kin _ _ lk) rfl S.co S.gen rfl (PySem.W.codeRec_of kin hc) (hbt _ _ _ _ ?_)
    refine wpAny_newFunctionEnv_cells S.kind hs fun env he s1 x => ?_
    subst he
    refine ⟨nol.keeps x.toInCall.keep, codeAny_func ?_⟩
    obtain ⟨t, ht, hq⟩ := hb A out s H vs Q E g (hr.deeper _) hsp
    have I := inv_start (CX := CX) (E := E) (cd := cdv) (qual := qual) (f := f) S hr.hd e0 (hl _ _ _ _ hsp) rv x
    refine wpAny_mono (ht.run [] s1 (start N vs) H _ I hq) (fun fl s2 h2 => ?_) fun _ _ h2 => h2
    have done : ∀ {τ : L2.St} {H2 : Hp} {v : V} {u : Value}, Inv (cxOf CX P w K mg base N qual scope f cdv A out s H E) [] τ H2 s2 → RelV v u → Q v H2 → CE out P w H s Q u s2 := fun J r q => ⟨_, _, J.os, J.bare, J.base, J.hok, r, q⟩
    cases fl with
    | next =>
      obtain ⟨_, _, J, q⟩ := h2
      exact done (v := V.non) (u := Value.none) J rfl q
    | ret u =>
      obtain ⟨_, _, _, J, r, q⟩ := h2
      exact done J r q
    | brk =>
      obtain ⟨_, _, _, q⟩ := h2
      exact q.elim
    | cont =>
      obtain ⟨_, _, _, q⟩ := h2
      exact q.elim
theorem FnDok {x qual : Str} {params : Arguments} {body : List Stmt} {scope : Scope} {dvs : List V} {kws : List (Str × V)} (F : FunD K x qual params body scope dvs kws f fd) (S : FnScope N ps scope) (hl : ∀ vs H Q E, sp vs H Q E → vs.length = ps.length)
    (hb : ∀ (cdv : Value) (A : Around) (out : List Env) (s : Shared) (H : Hp) (vs : List V) (Q : VK) (E : XK), A.guards = some [] → Room k (A.deeper (PyProof.Rows.envOfC qual scope s.heap.objs.size f cdv)) → sp vs H Q E →
      ∃ t, PSs (cxOf CX P w K mg base N qual scope f cdv A out s H E) body t ∧ t { nx := fun _ H' => Q .non H', rt := Q } (start N vs) H) : FnG P w K mg base CX (k + 1) f fd ps sp := by
  obtain ⟨_, _, _, _, _, _, _, cdv, _, _, rfl, lk, hc, _, _⟩ := F.ex
  exact body_ok lk hc S hl fun A out s H vs Q E g hr h => hb cdv A out s H vs Q E g hr h
end
section
variable {X : Cx} {CX : CXT} {k : Nat} {f : Addr} {fd : FuncData} {ps : List Str} {sp : Sp} {E : XK} {x : Str} {p pos : Pos} {e : Expr} {es : List Expr} {t : TA}
theorem goG {pins : List (Addr × Obj)} {σ : L2.St} {H : Hp} {s : Shared} {Q : VK} {us : List Value} {vs : List V} (G : FnG X.prog X.w X.K X.mg X.base CX k f fd ps sp) (hg : X.A.guards = some []) (hr : Room k X.A) (hb : Binds X.K fd ps []) (hx : Passes CX X E)
    (I : Inv X pins σ H s) (r : Vals vs us) (h : sp vs H Q E) : wpAny (model X.prog X.w) X.A (call (.ref f) us) (EP X pins σ Q) X.xe s := by
  have hl : (us ++ []).length = ps.length := by rw [List.append_nil, ← r.length]; exact G.len _ _ _ _ h
  have bt := hb s us I.kIn hl
  rw [List.append_nil] at bt
  refine wpAny_call (codeAny_mono (G.go X.A X.stack s H ⟨us, []⟩ us vs Q E hg hr I.env0 bt r h) fun z s2 hz => ?_)
  match z, hz with
  | .error ex, hz => exact hx pins σ H s ex s2 I hz
  | .ok (.ret u), hz => exact I.after hz
theorem pe_callG (G : FnG X.prog X.w X.K X.mg X.base CX k f fd ps sp) (hgd : X.A.guards = some []) (hr : Room k X.A) (hg : Gl X x) (hm : X.mg x = some (.ref f)) (hk : PySem.W.keepIn X.K (.ref f) = true) (hb : Binds X.K fd ps []) (hx : Passes CX X E)
    (ha : PA X (e :: es) t) (hd : (x == ("__debug__" : Str)) = false := by decide) (h1 : starEach (e :: es) X.env = (false, eval e X.env) :: starEach es X.env := by rfl) (h2 : (backTo pos (starEach es X.env)).any (·.1) = false := by rfl) :
    PE X (.Call (.Name x p) (e :: es) [] pos) (tCall sp [] E t) where
  run := fun pins s σ H Q I h => wpAny_Call_Name_kw (ld_glob I hg hm (PySem.W.callWith_K (h₀ := X.base) I.ok.mod.kin hk (thn (ha.run pos pins s σ H _ I h) fun us s1 ⟨vs, H1, I1, r, q⟩ =>
    ⟨I1.kIn, goG G hgd hr hb hx I1 r (List.append_nil vs ▸ q)⟩) h1 h2) hd)
theorem pe_callG0 (G : FnG X.prog X.w X.K X.mg X.base CX k f fd ps sp) (hgd : X.A.guards = some []) (hr : Room k X.A) (hg : Gl X x) (hm : X.mg x = some (.ref f)) (hk : PySem.W.keepIn X.K (.ref f) = true) (hb : Binds X.K fd ps []) (hx : Passes CX X E)
    (hd : (x == ("__debug__" : Str)) = false := by decide) : PE X (.Call (.Name x p) [] [] pos) (tCall sp [] E tNil) where
  run := fun pins s σ H Q I h => wpAny_Call_Name_kw (ld_glob I hg hm (PySem.W.callWith_K0 I.kIn hk (goG G hgd hr hb hx I (us := []) .nil h)) hd)
end
/-- the law's call: from its promise -/
theorem law_goG {P : Program} {w : World} {K : PySem.W.Frag} {mg mb : Str → Option Value} {k : Nat} {fa a : Addr} {fd : FuncData} {x : Str} {sp : Sp} {s1 : Shared} {vs : List Value} {ns : List Int}
    (kin : K.In s1.heap) (hns : s1.heap.Ns mainGlobals mg) (hmb : s1.heap.Ns builtinsNs mb) (hbb : ∀ x : Str, x ≠ "__name__" → mb x = bootBuiltins x) (nol : s1.heap.NoLimit) (hg : s1.gens = #[])
    (ha : s1.heap.get? a = some { cls := .type "list", data := .seq vs.toArray }) (hi : PyProof.Rows.IntsAre vs ns) (hl : ns.length ≤ sizeLine) (hr : Room k callerA)
    (G : ∀ base : Heap, K.In base → base.Ns mainGlobals mg → FnG P w K mg base CX0 k fa fd [x] sp) (hbind : ∀ (s : Shared) (u : Value), BindsTo s fd ⟨[u], []⟩ [(x, u)])
    (hsp : ∀ H : Hp, SqL K H a (ns.map V.int) → sp [.ref a] H (fun v _ => v = .bl true) fun _ _ _ => False) :
    codeAny (model P w) callerA (.call (.ref fa) ⟨[.ref a], []⟩) (fun r s2 => r = .ok (.ret (.bool true)) ∧ OldK s1.heap s2.heap ∧ s2.os = s1.os ∧ AllBare s2.gens) s1 := by
  have rv : Vals (ns.map V.int) vs := vals_ints hi
  have lv := hi.length
  -- what is tracked: the script, where K does not hold it
  have main : ∀ H : Hp, (∀ b u, H b = some u → b = a ∧ K.lookup a = none ∧ ∃ o xs, u = .frz o (.lst xs)) → SqL K H a (ns.map V.int) → HOk P w H s1.heap →
      codeAny (model P w) callerA (.call (.ref fa) ⟨[.ref a], []⟩) (fun r s2 => r = .ok (.ret (.bool true)) ∧ OldK s1.heap s2.heap ∧ s2.os = s1.os ∧ AllBare s2.gens) s1 := by
    intro H hO hS hok
    have isNone : ∀ b, (∀ u, H b ≠ some u) → H b = none := fun b h => by
      cases e : H b with
      | none => rfl
      | some u => exact absurd e (h u)
    have dictNone : ∀ {b : Addr} {o : Obj} {es : Array DictEntry} {ep : Nat}, s1.heap.get? b = some o → o.data = .dict es ep → H b = none := fun {b o es ep} e d => isNone b fun u hu => by
      obtain ⟨rfl, _⟩ := hO b u hu
      rw [ha] at e
      cases e
      exact nomatch (show Data.seq vs.toArray _ = Data.dict es ep from d)
    have nsOf : ∀ {b : Addr} {m : Str → Option Value}, s1.heap.Ns b m → (hidT s1.heap H).Ns b m := fun ⟨o, es, ep, e, d, r⟩ => ⟨o, es, ep, hidT_get e (dictNone e d), d, r⟩
    have hK : K.In (hidT s1.heap H) := fun b o e => hidT_get (kin b o e) (isNone b fun u hu => by
      obtain ⟨rfl, hn, _⟩ := hO b u hu
      rw [hn] at e
      cases e)
    obtain ⟨mc, hc1, hc2⟩ := nol
    have e0 : Env0 P w K mg (hidT s1.heap H) callerA [] s1 H :=
      { frames := rfl, mod := ⟨hK, nsOf hns, ⟨mb, nsOf hmb, hbb⟩, ⟨mc, nsOf hc1, hc2⟩⟩, bs := fun b o e => of_hidT e, bsz := Nat.le_of_eq (hidT_size _ _), funs := trivial, frf := fun b hb => (nomatch hb), hok := hok, bare := .of_eq hg }
    refine codeAny_mono ((G _ hK (nsOf hns)).go callerA [] s1 H ⟨[.ref a], []⟩ [.ref a] [.ref a] _ _ rfl hr e0 (hbind s1 (.ref a)) (.cons rfl .nil) (hsp H hS)) fun r s2 h => ?_
    match r, h with
    | .ok (.ret u), h =>
      obtain ⟨v, H2, os, bare, un, hok2, rr, q⟩ := h
      subst q
      obtain rfl : u = Value.bool true := rr
      refine ⟨rfl, OldK.of_keep fun b o e => ?_, os, bare⟩
      cases hb : H b with
      | none => exact un.keep b o e hb (fun z => nomatch z) (fun z => nomatch z)
      | some u =>
        obtain ⟨_, _, ob, xs, rfl⟩ := hO b u hb
        obtain ⟨e1, _⟩ := hok b _ hb
        obtain ⟨e2, _⟩ := hok2 b _ (un.frzs b ob _ hb)
        rw [e1] at e
        cases e
        exact e2
  cases hk : K.lookup a with
  | none =>
    refine main (upd (fun _ => none) a (.frz { cls := .type "list", data := .seq vs.toArray } (.lst (ns.map V.int)))) (fun b u hb => ?_) (.inl (.inr ⟨_, upd_same⟩)) fun b u hb => ?_
    · by_cases h : b = a
      · subst h
        rw [upd_same] at hb
        exact ⟨rfl, hk, _, _, (Option.some.inj hb).symm⟩
      · rw [upd_ne h] at hb
        cases hb
    · by_cases h : b = a
      · subst h
        rw [upd_same] at hb
        cases hb
        exact ⟨ha, by rw [List.length_map]; exact hl, vs, _, rv, ha⟩
      · rw [upd_ne h] at hb
        cases hb
  | some o =>
    have e := kin a o hk
    rw [ha] at e
    cases e
    exact main (fun _ => none) (fun b u hb => nomatch hb) (.inr ⟨_, vs.toArray, _, hk, rfl, rfl, rfl, by rw [List.size_toArray, lv]; exact hl, by simpa using rv⟩) fun b u hb => nomatch hb
theorem walkG {l : PySem.W.OpenLaw} {n k : Nat} {q : Program} {loose : List Str} {XP : (Str → Option Value) → Heap → Prop} {YP : World → Heap → Prop} {d : DefRec} {x : Str}
    (hn : l.most = some n) (hn2 : n ≤ sizeLine) (hdf : d.params.defaults = []) (hr : Room k callerA)
    (F : ∀ (w : World) (mg : Str → Option Value) (fa : Addr) (h : Heap), YP w h → h.Ns mainGlobals mg → mg d.name = some (.ref fa) →
      ∃ (K : PySem.W.Frag) (fd : FuncData) (sp : Sp), K.In h ∧ (∀ (s : Shared) (u : Value), BindsTo s fd ⟨[u], []⟩ [(x, u)]) ∧
        (∀ (H : Hp) (a : Addr) (ns : List Int), ns.length ≤ n → SqL K H a (ns.map V.int) → sp [.ref a] H (fun v _ => v = .bl true) fun _ _ _ => False) ∧
        ∀ base : Heap, K.In base → base.Ns mainGlobals mg → FnG l.prog w K mg base CX0 k fa fd [x] sp) :
    PySem.W.WalkO q loose XP YP l.row.toRowW d [] (fun f vs => PySem.call f vs) :=
  Att.attach_call hn hdf fun w s0 s1 mg mb fa o pm cd doc a vs ns Gd Y ho hd hcd hmg hobj hints hlen hg => by
    obtain ⟨K, fd, sp, kin, hb, hsp, hF⟩ := F w mg fa _ Y Gd.T.g hmg
    exact law_goG kin Gd.T.g Gd.T.b Gd.T.builtins Gd.T.nolimit hg hobj hints (Nat.le_trans hlen hn2) hr hF hb fun H hS => hsp H a ns hlen hS
def HasG (P : Program) (w : World) (K : PySem.W.Frag) (mg : Str → Option Value) (base : Heap) (x : Str) (ps : List Str) (k : Nat) (sp : Sp) : Prop :=
  ∃ f fd, FnG P w K mg base CX0 k f fd ps sp ∧ mg x = some (.ref f) ∧ PySem.W.keepIn K (.ref f) = true ∧ Binds K fd ps []
end U
set_option Elab.async false
set_option linter.all false
set_option maxRecDepth 100000
set_option maxHeartbeats 4000000
namespace U
open PySem PySem.Spec L2 PyProof.Rows
open Sem (wp)
/-! ### enumerate and zip over lists, tuples, texts -/
/-- the new enumerate's record -/
abbrev enO (it : Addr) : Obj := { cls := .type "enumerate", data := .fields #[.none, .bool false, .ref it, rawInt 0, .none, .none] }
theorem mt_en1 {v : Value} {o : Obj} {Hh : Heap → Prop} (B : Begins v o Hh) : Meets (Builtin.«enumerate.__new__» ⟨[.type "enumerate", v], []⟩)
    (fun _ R s => Hh s.heap ∧ R (.ok (.ret (.ref (s.heap.push o).objs.size))) { s with heap := (s.heap.push o).push (enO s.heap.objs.size) }) :=
  .of_wp fun P w A R s ⟨hh, kk⟩ => by
    obtain ⟨hp, gs, dr, tk, os⟩ := s
    have sb := sub_enumerate
    have it1 : ∀ {A' : Around} {E Q : Value → Shared → Prop}, Q (.ref hp.objs.size) ⟨hp.push o, gs, dr, tk, os⟩ → wpAny (model P w) A' (pyIter v) Q E ⟨hp, gs, dr, tk, os⟩ := fun q => B.iter P w _ _ ⟨hp, gs, dr, tk, os⟩ _ hh q
    wp_walk using it1
    refine wpAny_stack_any fun st => wpAny_pure ?_
    split
    · rename_i c _ _ _ _ _
      cases (c == Value.type "enumerate") <;> (wp_walk using it1; exact ⟨_, rfl, kk⟩)
    · wp_walk using it1
      exact ⟨_, rfl, kk⟩
theorem call_en1 {P : Program} {w : World} {A : Around} {E Q : Value → Shared → Prop} {s : Shared} {v : Value} {o : Obj} {Hh : Heap → Prop} (B : Begins v o Hh) (hh : Hh s.heap)
    (k : ∀ h', IsEnum h' (s.heap.objs.size + 1) s.heap.objs.size 0 .none → h'.get? s.heap.objs.size = some o → (∀ b u, s.heap.get? b = some u → h'.get? b = some u) → Q (.ref (s.heap.objs.size + 1)) { s with heap := h' }) :
    wpAny (model P w) A (call (.type "enumerate") [v]) Q E s := by
  have z1 : (s.heap.push o).objs.size = s.heap.objs.size + 1 := Heap.size_push ..
  refine callType_new F.called_enumerate (by decide) (F.typeCall_enumerate_1 _) (F.newCall_enumerate_1 _) (fun obj => F.args_object_init_2 obj _) F.entry_enumerate_new (mt_en1 B) ⟨hh, ?_⟩
  show _ ∧ _
  rw [z1]
  have e1 : ((s.heap.push o).push (enO s.heap.objs.size)).get? (s.heap.objs.size + 1) = some (enO s.heap.objs.size) := by
    have q := Heap.get?_push_size (s.heap.push o) (o := enO s.heap.objs.size) rfl
    rw [z1] at q; exact q
  exact ⟨⟨_, e1, rfl⟩, k _ e1 (Heap.get?_push_of_some _ (Heap.get?_push_size _ B.free)) fun b u x => Heap.get?_push_of_some _ (Heap.get?_push_of_some _ x)⟩
/-- what is walked by one of these -/
inductive Sk where
  | l (a : Addr)
  | t (a : Addr)
  | s (x : Str)
def Sk.va : Sk → V
  | .l a => .ref a
  | .t a => .ref a
  | .s x => .str x
def sgV (x : Str) : List V := x.cps.toList.map fun c => V.str ⟨#[c]⟩
def Sk.on (K : PySem.W.Frag) (H : Hp) : Sk → List V → Prop
  | .l a, xs => SqL K H a xs
  | .t a, xs => SqT K H a xs
  | .s x, xs => xs = sgV x
def Sk.low (n : Nat) : Sk → Prop
  | .l a => a < n
  | .t a => a < n
  | .s _ => True
def Sk.itr (it : Addr) (i : Nat) (h : Heap) : Sk → Prop
  | .l a => h.IsListIter it a i
  | .t a => h.IsTupleIter it a i
  | .s x => ∃ t, h.IsStrIter it (strIterType x) x t i
theorem Sk.itr_obj {it : Addr} {i : Nat} {h : Heap} {k : Sk} (st : k.itr it i h) : ∃ o, h.get? it = some o ∧ ∀ v, o.data ≠ .cell v := by
  cases k with
  | l a => obtain ⟨o, e, _, d⟩ := st; exact ⟨o, e, fun v z => by rw [d] at z; cases z⟩
  | t a => obtain ⟨o, e, _, d⟩ := st; exact ⟨o, e, fun v z => by rw [d] at z; cases z⟩
  | s x => obtain ⟨t, o, e, _, d⟩ := st; exact ⟨o, e, fun v z => by rw [d] at z; cases z⟩
theorem Sk.itr_keep {it : Addr} {i : Nat} {h h' : Heap} {k : Sk} (st : k.itr it i h) (hk : ∀ o, h.get? it = some o → h'.get? it = some o) : k.itr it i h' := by
  cases k with
  | l a => exact st.at hk
  | t a => exact st.at hk
  | s x => obtain ⟨t, o, e, c, d⟩ := st; exact ⟨t, o, hk o e, c, d⟩
section
variable {X : Cx} {pins : List (Addr × Obj)} {σ : L2.St} {H : Hp} {s : Shared}
theorem vals_get {xs : List V} {us : List Value} {j : Nat} {u : Value} (r : Vals xs us) (h : us[j]? = some u) : ∃ x, xs[j]? = some x ∧ RelV x u := by
  induction r generalizing j with
  | nil => simp at h
  | cons r _ ih =>
    cases j with
    | zero => simp at h; subst h; exact ⟨_, rfl, r⟩
    | succ j => exact ih (by simpa using h)
theorem Sk.draw {k : Sk} {xs : List V} {N : Nat} {it : Addr} {i : Nat} (I : Inv X pins σ H s) (hh : X.A.handled = none) (on : k.on X.K H xs) (lo : k.low N) (hN : N ≤ it) (st : k.itr it i s.heap) :
    ∃ (fp : List Addr) (P : Nat → Value → Prop) (T : Nat → Heap → Prop), Draws X.prog X.w X.A.in1 it (it :: fp) xs.length P T ∧ T i s.heap ∧ (∀ j h', T j h' → k.itr it j h') ∧ (∀ j v, P j v → ∃ x, xs[j]? = some x ∧ RelV x v) ∧ ∀ b ∈ fp, b < N := by
  cases k with
  | l a =>
    obtain ⟨its, rv, p, _⟩ := I.list on
    have lo' : a < N := lo
    have hl : its.toArray.size = xs.length := by rw [List.size_toArray]; exact rv.length.symm
    have D := Draws.list (prog := X.prog) (w := X.w) (A := X.A.in1) hh it a (Nat.ne_of_lt (Nat.lt_of_lt_of_le lo' hN)) its.toArray
    rw [hl] at D
    exact ⟨[a], _, _, D, ⟨st, p.isList⟩, fun j h' z => z.1, fun j v z => vals_get rv (by simpa using z), fun b hb => by rw [List.mem_singleton.mp hb]; exact lo'⟩
  | t a =>
    obtain ⟨its, rv, p, _⟩ := I.tuple on
    have lo' : a < N := lo
    have hl : its.toArray.size = xs.length := by rw [List.size_toArray]; exact rv.length.symm
    have D := Draws.tuple (prog := X.prog) (w := X.w) (A := X.A.in1) hh it a (Nat.ne_of_lt (Nat.lt_of_lt_of_le lo' hN)) its.toArray
    rw [hl] at D
    exact ⟨[a], _, _, D, ⟨st, show s.heap.IsTuple a its.toArray from p⟩, fun j h' z => z.1, fun j v z => vals_get rv (by simpa using z), fun b hb => by rw [List.mem_singleton.mp hb]; exact lo'⟩
  | s x =>
    obtain ⟨t, st⟩ := st
    have e : xs = sgV x := on
    subst e
    have D := Draws.text (prog := X.prog) (w := X.w) (A := X.A.in1) hh it x t
    have hl : x.cps.size = (sgV x).length := by simp [sgV]
    rw [hl] at D
    refine ⟨[], _, _, D, st, fun j h' z => ⟨t, z⟩, fun j v z => ?_, fun b hb => by cases hb⟩
    obtain ⟨c, u, hc, rfl⟩ := z
    refine ⟨.str ⟨#[c]⟩, ?_, u, rfl⟩
    unfold sgV
    rw [List.getElem?_map]
    have : x.cps.toList[j]? = some c := by simpa using hc
    rw [this]; rfl
/-- one new tuple is drawn -/
theorem wt_item {I0 : Addr} {fp wr : List Addr} {n i : Nat} {Pt : Nat → Array Value → Prop} {T : Nat → Heap → Prop} {Mid : Nat → Addr → Heap → Prop} {elts : List Expr} {kk : Nat} {tpos : Pos} {E : Value → Shared → Prop} {Y : List V → Prop}
    (W : WalksT X.prog X.w X.A I0 fp wr n Pt T Mid) (I : Inv X pins σ H s) (hf : ∀ b ∈ wr, FpOk X pins H b) (hw : ∀ b ∈ wr, b < s.heap.objs.size) (hi : i < n) (st : T i s.heap)
    (hP : ∀ vals, Pt i vals → ∃ (xs : List V) (us : List Value), vals = us.toArray ∧ Vals xs us ∧ xs.length ≤ sizeLine ∧ Y xs) :
    wpAny (model X.prog X.w) X.A (pyNext (.ref I0)) (fun r s1 => ∃ u, r = some u ∧ wpAny (model X.prog X.w) X.A (letOwnedTupleGo (.Tuple elts kk tpos) (.ref I0) u)
      (fun _ s2 => ∃ x H', Inv X pins σ H' s2 ∧ RelV x u ∧ (∃ q xs, x = .ref q ∧ s.heap.objs.size ≤ q ∧ H q = none ∧ H' = upd H q (.tup xs) ∧ Y xs) ∧ T (i + 1) s2.heap ∧ ∀ b ∈ wr, H' b = none) E s1) E s := by
  refine W.item i s _ _ hi st fun q vals h1 tk hv hq hT hM k1 => ⟨_, rfl, W.go _ _ _ i q _ _ _ hM fun h2 s2 k2 => ?_⟩
  obtain ⟨xs, us, rfl, rv, hz, y⟩ := hP vals hv
  have hqw := W.apart i q _ hM
  obtain ⟨o, ho, hc, m, hd⟩ := hT
  have new : ObjOk X.prog X.w (upd H q (.tup xs)) h2 q (.tup xs) := ⟨hz, us, rv, ⟨o, k2 q o hqw ho, hc, m, hd⟩⟩
  have I1 : Inv X pins σ (upd H q (.tup xs)) { s with heap := h2, toks := tk } := I.turnedNew (ch := wr) (fun b u hb e => k2 b u hb (k1 b u hb e)) hf hq new
  refine ⟨.ref q, _, I1, rfl, ⟨q, xs, rfl, hq, I.hok.fresh hq, rfl, y⟩, s2, fun b hb => ?_⟩
  rw [upd_ne (Nat.ne_of_lt (Nat.lt_of_lt_of_le (hw b hb) hq))]
  exact (hf b hb).1
end
/-! enumerate -/
def Jen (K : PySem.W.Frag) (k : Sk) (xs : List V) : It :=
  ⟨fun i H => i < xs.length ∧ k.on K H xs, fun i H v H' => ∃ q ys, v = .ref q ∧ H q = none ∧ H' = upd H q (.tup ys) ∧ ∃ x, ys = [.int (i : Nat), x] ∧ xs[i]? = some x, fun i H => xs.length ≤ i ∧ k.on K H xs⟩
theorem turn_en {P : Program} {w : World} {K : PySem.W.Frag} {elts : List Expr} {kk : Nat} {tpos : Pos} {k : Sk} {xs : List V} {N : Nat} (lo : k.low N) :
    Turn P w K (.Tuple elts kk tpos) (Jen K k xs) [N + 1, N] (N + 1) (fun i h => i ≤ xs.length ∧ (∃ old, IsEnum h (N + 1) N ((i : Nat) : Int) old) ∧ k.itr N i h) where
  mem := by simp
  obj := fun i h ⟨_, ⟨old, he⟩, st⟩ b hb => by
    have e : b = N + 1 ∨ b = N := by simpa using hb
    rcases e with rfl | rfl
    · exact ⟨_, he, fun v q => nomatch q⟩
    · exact (Sk.itr_obj st)
  keep := fun i h h' ⟨hi, ⟨old, he⟩, st⟩ hk => ⟨hi, ⟨old, hk _ (by simp) _ he⟩, Sk.itr_keep st (hk N (by simp))⟩
  item := by
    intro X hP hw hK hc i pins s σ H E I hf ⟨hi, he, st⟩ ⟨hlt, on⟩
    subst hP hw hK
    obtain ⟨fp, Pp, T, D, t0, t1, t2, t3⟩ := Sk.draw I (I.ok.hd hc) on lo (Nat.le_refl N) st
    have W := WalksT.enumerateD D (N + 1) (Nat.succ_ne_self N) (fun hm => by
      rcases List.mem_cons.mp hm with e | e
      · exact Nat.succ_ne_self N e
      · exact absurd (t3 _ e) (Nat.not_lt.mpr (Nat.le_succ N))) (by simp)
    have hl : ∀ b ∈ [N + 1, N], b < s.heap.objs.size := fun b hb => by
      have e : b = N + 1 ∨ b = N := by simpa using hb
      rcases e with rfl | rfl
      · obtain ⟨old, he⟩ := he; exact Heap.lt_size he
      · obtain ⟨o, e, _⟩ := (Sk.itr_obj st); exact Heap.lt_size e
    refine wpAny_mono (wt_item (Y := fun ys => ∃ x, ys = [.int (i : Nat), x] ∧ xs[i]? = some x) W I hf hl hlt ⟨he, t0⟩ fun vals ⟨tk, u, hu, e⟩ => ?_) (fun r s1 ⟨u, e, q⟩ => ⟨u, e, wpAny_mono q (fun _ s2 ⟨x, H', a, b, ⟨q1, zs1, c1, _, c⟩, ⟨⟨old, d1⟩, d2⟩, f⟩ => ?_) fun _ _ z => z⟩) fun _ _ z => z
    · obtain ⟨x, hx, r⟩ := t2 i u hu
      exact ⟨[.int (i : Nat), x], [.int i tk, u], by rw [e], .cons ⟨_, rfl⟩ (.cons r .nil), by show 2 ≤ sizeLine; decide, x, rfl, hx⟩
    · refine ⟨x, H', a, b, ⟨q1, zs1, c1, c⟩, ⟨hlt, ⟨old, ?_⟩, t1 _ _ d2⟩, f⟩
      exact d1
  done := by
    intro X hP hw hK hc i pins s σ H E I hf ⟨hi, he, st⟩ ⟨hge, on⟩
    subst hP hw hK
    have ei : i = xs.length := Nat.le_antisymm hi hge
    subst ei
    obtain ⟨old, he⟩ := he
    obtain ⟨fp, Pp, T, D, t0, t1, t2, t3⟩ := Sk.draw I (I.ok.hd hc) on lo (Nat.le_refl N) st
    exact wpAny_pyNext_enum_endD D he t0 fun h' eb => ⟨rfl, I.turnedL (t' := s.toks) (ch := [N + 1, N]) (fun b o hb q => eb b o (fun z => hb (by simp [z])) q) hf⟩
  self := fun A i s Q E ⟨_, ⟨_, he⟩, _⟩ h => wpAny_pyIter_enum he h
def iEn (K : PySem.W.Frag) (ta : TA) : TI := fun σ H R => ta σ H fun vs H1 => ∃ k xs, vs = [k.va] ∧ k.on K H1 xs ∧ R (Jen K k xs) H1
section
variable {X : Cx} {pins : List (Addr × Obj)} {σ : L2.St} {H : Hp} {s : Shared}
/-- it begins -/
theorem Sk.begins {k : Sk} {xs : List V} {u : Value} (I : Inv X pins σ H s) (on : k.on X.K H xs) (r : RelV k.va u) :
    ∃ (o : Obj) (Hh : Heap → Prop), Begins u o Hh ∧ Hh s.heap ∧ k.low s.heap.objs.size ∧ ∀ it h', h'.get? it = some o → k.itr it 0 h' := by
  cases k with
  | l a =>
    cases r
    obtain ⟨its, rv, p, _⟩ := I.list on
    exact ⟨_, _, begins_list a its.toArray, p.isList, p.lt, fun it h' e => ⟨_, e, rfl, rfl⟩⟩
  | t a =>
    cases r
    obtain ⟨its, rv, p, _⟩ := I.tuple on
    exact ⟨_, _, begins_tuple a its.toArray, show s.heap.IsTuple a its.toArray from p, (let ⟨_, e, _⟩ := p; Heap.lt_size e), fun it h' e => ⟨_, e, rfl, rfl⟩⟩
  | s x =>
    obtain ⟨t, rfl⟩ := r
    exact ⟨_, _, begins_text x t, trivial, trivial, fun it h' e => ⟨t, _, e, rfl, rfl⟩⟩
theorem pi_en {e : Expr} {ta : TA} {p pos tpos : Pos} {elts : List Expr} {kk : Nat} {K : PySem.W.Frag} (hK : X.K = K) (hg : Gl X "enumerate") (hm : X.mg "enumerate" = none) (ha : PA X [e] ta) (hs : starEach [e] X.env = [(false, eval e X.env)] := by rfl) :
    PI X (.Tuple elts kk tpos) (.Call (.Name "enumerate" p) [e] [] pos) (iEn K ta) := by
  subst hK
  refine ⟨fun pins s σ H R I h => Call_ (ld_blt I hg hm boot_enumerate (PyProof.Rows.callWith_type1 (thn (ha.run pos pins s σ H _ I h) fun us s1 ⟨vs, H1, I1, r1, k, xs, e1, on, q⟩ => ?_) hs rfl))⟩
  subst e1
  cases r1 with
  | cons r rr =>
    cases rr
    obtain ⟨o, Hh, B, hh, lo, fin⟩ := Sk.begins I1 on r
    refine call_en1 B hh fun h' he ho hk => wpAny_pyIter_enum he ?_
    refine ⟨_, [s1.heap.objs.size + 1, s1.heap.objs.size], _, _, H1, rfl, I1.kept (t' := s1.toks) hk, turn_en (xs := xs) lo, ⟨Nat.zero_le _, ⟨.none, he⟩, fin _ _ ho⟩, fun b hb => ?_, q⟩
    have hle : s1.heap.objs.size ≤ b := by
      have e : b = s1.heap.objs.size + 1 ∨ b = s1.heap.objs.size := by simpa using hb
      rcases e with z | z
      · rw [z]; exact Nat.le_succ _
      · rw [z]; exact Nat.le_refl _
    exact I1.fpOk hle (I1.hok.fresh hle)
end
/-! zip of two -/
def Jzp (K : PySem.W.Frag) (k k' : Sk) (xs ys : List V) : It :=
  ⟨fun i H => i < min xs.length ys.length ∧ k.on K H xs ∧ k'.on K H ys, fun i H v H' => ∃ q zs, v = .ref q ∧ H q = none ∧ H' = upd H q (.tup zs) ∧ ∃ x y, zs = [x, y] ∧ xs[i]? = some x ∧ ys[i]? = some y, fun i H => min xs.length ys.length ≤ i ∧ k.on K H xs ∧ k'.on K H ys⟩
theorem turn_zp {P : Program} {w : World} {K : PySem.W.Frag} {elts : List Expr} {kk : Nat} {tpos : Pos} {k k' : Sk} {xs ys : List V} {N : Nat} (lo : k.low N) (lo' : k'.low N) :
    Turn P w K (.Tuple elts kk tpos) (Jzp K k k' xs ys) [N + 4, N + 2, N + 3, N, N + 1] (N + 4)
      (fun i h => i ≤ min xs.length ys.length ∧ IsZip h (N + 4) (N + 2) (N + 3) .none ∧ IsTupOf2 h (N + 2) (.ref N) (.ref (N + 1)) ∧ (∃ x y, IsTupOf2 h (N + 3) x y) ∧ k.itr N i h ∧ k'.itr (N + 1) i h) where
  mem := by simp
  obj := fun i h ⟨_, hz, hI, ⟨x, y, hO⟩, st, st'⟩ b hb => by
    have e : b = N + 4 ∨ b = N + 2 ∨ b = N + 3 ∨ b = N ∨ b = N + 1 := by simpa using hb
    rcases e with rfl | rfl | rfl | rfl | rfl
    · exact ⟨_, hz, fun v q => nomatch q⟩
    · exact ⟨_, hI, fun v q => nomatch q⟩
    · exact ⟨_, hO, fun v q => nomatch q⟩
    · exact (Sk.itr_obj st)
    · exact (Sk.itr_obj st')
  keep := fun i h h' ⟨hi, hz, hI, ⟨x, y, hO⟩, st, st'⟩ hk => ⟨hi, hk _ (by simp) _ hz, hk _ (by simp) _ hI, ⟨x, y, hk _ (by simp) _ hO⟩, Sk.itr_keep st (hk N (by simp)), Sk.itr_keep st' (hk _ (by simp))⟩
  item := by
    intro X hP hw hK hc i pins s σ H E I hf ⟨hi, hz, hI, hO, st, st'⟩ ⟨hlt, on, on'⟩
    subst hP hw hK
    obtain ⟨fp, Pp, T, D, t0, t1, t2, t3⟩ := Sk.draw I (I.ok.hd hc) on lo (Nat.le_refl N) st
    obtain ⟨fp', Pp', T', D', t0', t1', t2', t3'⟩ := Sk.draw I (I.ok.hd hc) on' lo' (Nat.le_succ N) st'
    have W := WalksT.zipD2 (zip_sep2 t3 t3') D D'
    have sub : ∀ b ∈ [N + 4, N + 3, N, N + 1], b ∈ [N + 4, N + 2, N + 3, N, N + 1] := fun b hb => by
      have e : b = N + 4 ∨ b = N + 3 ∨ b = N ∨ b = N + 1 := by simpa using hb
      rcases e with rfl | rfl | rfl | rfl <;> simp
    have hl : ∀ b ∈ [N + 4, N + 2, N + 3, N, N + 1], b < s.heap.objs.size := fun b hb => by
      have e : b = N + 4 ∨ b = N + 2 ∨ b = N + 3 ∨ b = N ∨ b = N + 1 := by simpa using hb
      rcases e with rfl | rfl | rfl | rfl | rfl
      · exact Heap.lt_size hz
      · exact Heap.lt_size hI
      · obtain ⟨_, _, e⟩ := hO; exact Heap.lt_size e
      · obtain ⟨o, e, _⟩ := (Sk.itr_obj st); exact Heap.lt_size e
      · obtain ⟨o, e, _⟩ := (Sk.itr_obj st'); exact Heap.lt_size e
    refine wpAny_mono (wt_item (Y := fun zs => ∃ x y, zs = [x, y] ∧ xs[i]? = some x ∧ ys[i]? = some y) W I (fun b hb => hf b (sub b hb)) (fun b hb => hl b (sub b hb)) hlt ⟨hz, hI, hO, t0, t0'⟩ fun vals ⟨u, u', hu, hu', e⟩ => ?_)
      (fun r s1 ⟨u, e, q⟩ => ⟨u, e, wpAny_mono q (fun _ s2 ⟨x, H', a, b, c, ⟨d1, d2, d3, d4, d5⟩, f⟩ => ?_) fun _ _ z => z⟩) fun _ _ z => z
    · obtain ⟨x, hx, r⟩ := t2 i u hu
      obtain ⟨y, hy, r'⟩ := t2' i u' hu'
      exact ⟨[x, y], [u, u'], by rw [e], .cons r (.cons r' .nil), by show 2 ≤ sizeLine; decide, x, y, rfl, hx, hy⟩
    · obtain ⟨q, zs, e1, hq, c⟩ := c
      refine ⟨x, H', a, b, ⟨q, zs, e1, c⟩, ⟨hlt, d1, d2, d3, t1 _ _ d4, t1' _ _ d5⟩, fun m hm => ?_⟩
      rw [c.2.1, upd_ne (Nat.ne_of_lt (Nat.lt_of_lt_of_le (hl m hm) hq))]
      exact (hf m hm).1
  done := by
    intro X hP hw hK hc i pins s σ H E I hf ⟨hi, hz, hI, hO, st, st'⟩ ⟨hge, on, on'⟩
    subst hP hw hK
    have ei : i = min xs.length ys.length := Nat.le_antisymm hi hge
    subst ei
    obtain ⟨fp, Pp, T, D, t0, t1, t2, t3⟩ := Sk.draw I (I.ok.hd hc) on lo (Nat.le_refl N) st
    obtain ⟨fp', Pp', T', D', t0', t1', t2', t3'⟩ := Sk.draw I (I.ok.hd hc) on' lo' (Nat.le_succ N) st'
    have W := WalksT.zipD2 (zip_sep2 t3 t3') D D'
    exact W.done s _ _ ⟨hz, hI, hO, t0, t0'⟩ fun h' tk hk => ⟨rfl, I.turnedL (ch := [N + 4, N + 2, N + 3, N, N + 1]) (fun b o hb q => hk b o (fun z => hb (by
      have e : b = N + 4 ∨ b = N + 3 ∨ b = N ∨ b = N + 1 := by simpa using z
      rcases e with rfl | rfl | rfl | rfl <;> simp)) q) hf⟩
  self := fun A i s Q E ⟨_, hz, _⟩ h => wpAny_pyIter_zip hz h
def iZp (K : PySem.W.Frag) (ta : TA) : TI := fun σ H R => ta σ H fun vs H1 => ∃ k k' xs ys, vs = [k.va, k'.va] ∧ k.on K H1 xs ∧ k'.on K H1 ys ∧ R (Jzp K k k' xs ys) H1
section
variable {X : Cx}
theorem pi_zp {e e2 : Expr} {ta : TA} {p pos tpos : Pos} {elts : List Expr} {kk : Nat} {K : PySem.W.Frag} (hK : X.K = K) (hg : Gl X "zip") (hm : X.mg "zip" = none) (ha : PA X [e, e2] ta)
    (hs : starEach [e, e2] X.env = (false, eval e X.env) :: starEach [e2] X.env := by rfl) (hpl : (backTo pos (starEach [e2] X.env)).any (·.1) = false := by rfl) : PI X (.Tuple elts kk tpos) (.Call (.Name "zip" p) [e, e2] [] pos) (iZp K ta) := by
  subst hK
  refine ⟨fun pins s σ H R I h => Call_ (ld_blt I hg hm PyProof.Rows.boot_zip (PyProof.Rows.callWith_type1 (thn (ha.run pos pins s σ H _ I h) fun us s1 ⟨vs, H1, I1, r1, k, k', xs, ys, e1, on, on', q⟩ => ?_) hs hpl))⟩
  subst e1
  cases r1 with
  | cons r rr =>
    cases rr with
    | cons r' rr =>
      cases rr
      obtain ⟨o, Hh, B, hh, lo, fin⟩ := Sk.begins I1 on r
      obtain ⟨o', Hh', B', hh', lo', fin'⟩ := Sk.begins I1 on' r'
      refine zip_begins2 B B' hh hh' fun h' hz hI hO ho ho' hsz hk => wpAny_pyIter_zip hz ?_
      refine ⟨_, [s1.heap.objs.size + 4, s1.heap.objs.size + 2, s1.heap.objs.size + 3, s1.heap.objs.size, s1.heap.objs.size + 1], _, _, H1, rfl, I1.kept (t' := s1.toks) hk, turn_zp (xs := xs) (ys := ys) lo lo', ⟨Nat.zero_le _, hz, hI, ⟨_, _, hO⟩, fin _ _ ho, fin' _ _ ho'⟩, fun b hb => ?_, q⟩
      have hle : s1.heap.objs.size ≤ b := by
        have e : b = s1.heap.objs.size + 4 ∨ b = s1.heap.objs.size + 2 ∨ b = s1.heap.objs.size + 3 ∨ b = s1.heap.objs.size ∨ b = s1.heap.objs.size + 1 := by simpa using hb
        rcases e with z | z | z | z | z <;> (rw [z]; first | exact Nat.le_refl _ | exact Nat.le_add_right _ _)
      exact I1.fpOk hle (I1.hok.fresh hle)
end
section
variable {α β : Type} {K : PySem.W.Frag} {k k' : Sk} {vs ws : List V} {xs : List α} {ys : List β} {t : Rp α} {u : Rp β} {F : Hp}
theorem sr_En (h : Al t F vs xs) : Sr (Jen K k vs) (fun H => k.on K H vs) (enumL xs) (fun H x H' a => ∃ T y, x = .ref T ∧ H T = none ∧ H' = upd H T (.tup [.int a.1, y]) ∧ t.r F y a.2) := by
  refine ⟨fun i H hi hq => ⟨?_, hq⟩, fun H hq => ⟨by rw [al_len h]; simp [enumL], hq⟩, fun i H x H' hq y a ha => ?_⟩
  · rw [al_len h]; simpa [enumL] using hi
  · obtain ⟨q, zs, e1, e2, e3, z, e4, e5⟩ := y
    unfold enumL at ha
    rw [List.getElem?_mapIdx] at ha
    cases e : xs[i]? with
    | none => rw [e] at ha; cases ha
    | some b =>
      rw [e] at ha
      have ea : ((i : Int), b) = a := Option.some.inj ha
      subst ea
      obtain ⟨v, ev, r⟩ := pd_get h e
      rw [ev] at e5; cases e5
      exact ⟨q, _, e1, e2, by rw [e3, e4], r⟩
theorem sr_Zp (h : Al t F vs xs) (h' : Al u F ws ys) : Sr (Jzp K k k' vs ws) (fun H => k.on K H vs ∧ k'.on K H ws) (xs.zip ys) (fun H x H' a => ∃ T y z, x = .ref T ∧ H T = none ∧ H' = upd H T (.tup [y, z]) ∧ t.r F y a.1 ∧ u.r F z a.2) := by
  have l1 := al_len h
  have l2 := al_len h'
  refine ⟨fun i H hi hq => ⟨?_, hq⟩, fun H hq => ⟨by rw [List.length_zip]; omega, hq⟩, fun i H x H' hq y a ha => ?_⟩
  · rw [List.length_zip] at hi; omega
  · obtain ⟨q, zs, e1, e2, e3, y1, y2, e4, e5, e6⟩ := y
    rw [List.getElem?_zip_eq_some] at ha
    obtain ⟨v, ev, r⟩ := pd_get h ha.1
    obtain ⟨v', ev', r'⟩ := pd_get h' ha.2
    rw [ev] at e5; cases e5
    rw [ev'] at e6; cases e6
    exact ⟨q, _, _, e1, e2, by rw [e3, e4], r, r'⟩
theorem al_sg (s : Sg) : Al eS F (sgV (S s)) (signs s) := by
  unfold sgV signs
  show Al eS F (s.map fun c => V.str ⟨#[c]⟩) (s.map fun c => [c])
  induction s with
  | nil => exact .nil
  | cons c r ih => exact .cons ⟨rfl, one_le⟩ ih
end
section
variable {K : PySem.W.Frag} {σ : L2.St} {H : Hp} {k k' : Sk} {vs ws : List V} {ta : TA} {R : RIt}
def qEn (K : PySem.W.Frag) (R : RIt) : List V → Hp → Prop := fun vs H1 => ∃ k xs, vs = [k.va] ∧ k.on K H1 xs ∧ R (Jen K k xs) H1
def qZp (K : PySem.W.Frag) (R : RIt) : List V → Hp → Prop := fun vs H1 => ∃ k k' xs ys, vs = [k.va, k'.va] ∧ k.on K H1 xs ∧ k'.on K H1 ys ∧ R (Jzp K k k' xs ys) H1
theorem n_en (h : ta σ H (qEn K R)) : iEn K ta σ H R := h
theorem n_zp (h : ta σ H (qZp K R)) : iZp K ta σ H R := h
theorem v_en (on : k.on K H vs) (q : R (Jen K k vs) H) : qEn K R [k.va] H := ⟨k, vs, rfl, on, q⟩
theorem v_zp (on : k.on K H vs) (on' : k'.on K H ws) (q : R (Jzp K k k' vs ws) H) : qZp K R [k.va, k'.va] H := ⟨k, k', vs, ws, rfl, on, on', q⟩
end
end U
set_option Elab.async false
set_option linter.all false
set_option maxRecDepth 100000
set_option maxHeartbeats 4000000
namespace U
open PySem PySem.Spec L2
/-! ### data: repr, == and != at any depth -/
mutual
theorem dp_nodict {K : PySem.W.Frag} {H : Hp} : ∀ {v : V} {d : PyData}, Dp K H v d → d.hasDict = false
  | _, _, .non => by simp only [PyData.hasDict]
  | _, _, .bl b => by simp only [PyData.hasDict]
  | _, _, .int i => by simp only [PyData.hasDict]
  | _, _, .str x => by simp only [PyData.hasDict]
  | _, _, .lst _ h => by simp only [PyData.hasDict]; exact dpa_nodict h
  | _, _, .tup _ h => by simp only [PyData.hasDict]; exact dpa_nodict h
theorem dpa_nodict {K : PySem.W.Frag} {H : Hp} : ∀ {vs : List V} {ds : List PyData}, DpAll K H vs ds → PyData.hasDictAll ds = false
  | _, _, .nil => by simp only [PyData.hasDictAll]
  | _, _, .cons h1 h2 => by simp only [PyData.hasDictAll, dp_nodict h1, dpa_nodict h2, Bool.or_self]
end
def reprB (d : PyData) : Bool := d.showable && decide (d.depth ≤ 60 ∧ d.shown.length ≤ 16777216)
def reprM (d : PyData) : Option Sg := need (reprB d) d.shown.cps.toList
def qRepr (K : PySem.W.Frag) : RCl := fun xs H Q => ∃ v d, xs = [v] ∧ Dp K H v d ∧ reprB d = true ∧ Q (.str d.shown) H
theorem c_repr {X : Cx} {K : PySem.W.Frag} {k : Nat} (hK : X.K = K) (hg : X.A.guards = some []) (hr : Room k X.A) : CallR X (.builtin "repr") (qRepr K) := by
  subst hK
  intro pins s σ H xs us Q I rv ⟨v, d, e, hd, hb, q⟩
  subst e
  cases rv with
  | cons r rr =>
    cases rr
    obtain ⟨as, rd⟩ := Dp.reads I d _ _ hd r
    have nd := dp_nodict hd
    unfold reprB at hb
    rw [Bool.and_eq_true] at hb
    obtain ⟨h1, h2⟩ := hb
    have h3 := of_decide_eq_true h2
    have hz : d.shown.length ≤ sizeLine := by rw [sizeLine_eq]; exact h3.2
    cases hd with
    | non =>
      cases r
      exact PySem.P.repr_of_none ⟨.str _, H, I.tok _, ⟨_, rfl⟩, by simpa [PyData.shown] using q⟩
    | bl b =>
      cases r
      exact PySem.P.repr_of_bool ⟨.str _, H, I.tok _, ⟨_, rfl⟩, by simpa [PyData.shown] using q⟩
    | int i =>
      obtain ⟨t, rfl⟩ := r
      exact PySem.P.repr_of_int (by simpa [PyData.showable] using h1) ⟨.str _, H, I.tok _, ⟨_, rfl⟩, by simpa [PyData.shown] using q⟩
    | str x =>
      obtain ⟨t, rfl⟩ := r
      exact PySem.P.repr_of_str ⟨.str _, H, I.tok _, ⟨_, rfl⟩, by simpa [PyData.shown] using q⟩ (by simpa [PyData.shown] using hz)
    | lst _ _ =>
      cases r
      exact PySem.repr_of_reads' rd h1 (fun z => by rw [nd] at z; cases z) hg (by have := hr.un; omega) (fun _ _ e => e) (fun h' u tk hk => ⟨.str _, H, I.kept hk, ⟨u, rfl⟩, q⟩) hz
    | tup _ _ =>
      cases r
      exact PySem.repr_of_reads' rd h1 (fun z => by rw [nd] at z; cases z) hg (by have := hr.un; omega) (fun _ _ e => e) (fun h' u tk hk => ⟨.str _, H, I.kept hk, ⟨u, rfl⟩, q⟩) hz
/-- a typed value's data -/
structure Dt {α : Type} (t : Rp α) where
  d : α → PyData
  ok : ∀ {K : PySem.W.Frag} {F H : Hp} {v : V} {x : α}, Sub F H → t.r F v x → Dp K H v (d x)
  eqv : ∀ x y, PyData.eqv (d x) (d y) = true ↔ x = y
section
variable {α β γ : Type} {t : Rp α} {ta : Rp α} {tb : Rp β} {tc : Rp γ} {K : PySem.W.Frag} {F H : Hp} {v : V} {vs : List V} {xs : List α} {x y : α} {p : Addr} {Q : VK} {r : Sg}
theorem dt_all (D : Dt t) (hs : Sub F H) (h : Al t F vs xs) : DpAll K H vs (xs.map D.d) := by
  induction h with
  | nil => exact .nil
  | cons r _ ih => exact .cons (D.ok hs r) ih
theorem eqv_all (D : Dt t) : ∀ xs ys : List α, PyData.eqvAll (xs.map D.d) (ys.map D.d) = true ↔ xs = ys
  | [], [] => by simp [PyData.eqvAll]
  | [], _ :: _ => by simp [PyData.eqvAll]
  | _ :: _, [] => by simp [PyData.eqvAll]
  | x :: xs, y :: ys => by
    simp only [List.map_cons, PyData.eqvAll, Bool.and_eq_true, List.cons.injEq]
    rw [D.eqv, eqv_all D xs ys]
def dI : Dt eI := ⟨fun i => .int i, fun _ h => by have e : _ = V.int _ := h; subst e; exact .int _, fun x y => by simp [PyData.eqv]⟩
def dB : Dt eB := ⟨fun b => .bool b, fun _ h => by have e : _ = V.bl _ := h; subst e; exact .bl _, fun x y => by simp [PyData.eqv]⟩
def dN : Dt eN := ⟨fun _ => .none, fun _ h => by have e : _ = V.non := h; subst e; exact .non, fun x y => by simp [PyData.eqv]⟩
def dS : Dt eS := ⟨fun s => .str (S s), fun _ h => by obtain ⟨e, _⟩ := h; subst e; exact .str _, fun x y => by simp only [PyData.eqv, beq_iff_eq]; exact S_inj⟩
def dP2 (a : Dt ta) (b : Dt tb) : Dt (eP2 ta tb) := ⟨fun x => .tuple [a.d x.1, b.d x.2], fun hs ⟨p, y, z, e, q, h1, h2⟩ => by
  subst e; exact .tup (.inl (.inl (hs _ _ q))) (.cons (a.ok hs h1) (.cons (b.ok hs h2) .nil)), fun x y => by
  simp only [PyData.eqv, PyData.eqvAll, Bool.and_true, Bool.and_eq_true, a.eqv, b.eqv]; exact (Prod.ext_iff).symm⟩
def dP3 (a : Dt ta) (b : Dt tb) (c : Dt tc) : Dt (eP3 ta tb tc) := ⟨fun x => .tuple [a.d x.1, b.d x.2.1, c.d x.2.2], fun hs ⟨p, y, z, w, e, q, h1, h2, h3⟩ => by
  subst e; exact .tup (.inl (.inl (hs _ _ q))) (.cons (a.ok hs h1) (.cons (b.ok hs h2) (.cons (c.ok hs h3) .nil))), fun x y => by
  simp only [PyData.eqv, PyData.eqvAll, Bool.and_true, Bool.and_eq_true, a.eqv, b.eqv, c.eqv]; rw [Prod.ext_iff, Prod.ext_iff]⟩
def dL (a : Dt t) : Dt (eL t) := ⟨fun x => .list (x.map a.d), fun hs ⟨p, vs, e, q, h⟩ => by subst e; exact .lst (.inl (.inl (hs _ _ q))) (dt_all a hs h), fun x y => by
  simp only [PyData.eqv]; exact eqv_all a x y⟩
def dT (a : Dt t) : Dt (eT t) := ⟨fun x => .tuple (x.map a.d), fun hs ⟨p, vs, e, q, h⟩ => by subst e; exact .tup (.inl (.inl (hs _ _ q))) (dt_all a hs h), fun x y => by
  simp only [PyData.eqv]; exact eqv_all a x y⟩
def isNoneD : PyData → Bool
  | .none => true
  | _ => false
theorem eqv_none {d : PyData} (h : isNoneD d = false) : PyData.eqv .none d = false ∧ PyData.eqv d .none = false := by
  cases d <;> simp [isNoneD, PyData.eqv] at *
def dO (a : Dt t) (nn : ∀ x, isNoneD (a.d x) = false) : Dt (eO t) := ⟨fun x => match x with
  | none => .none
  | some x => a.d x, fun {K F H v x} hs h => by
    cases x with
    | none => have e : _ = V.non := h; subst e; exact .non
    | some x => exact a.ok hs h.2, fun x y => by
    cases x with
    | none => cases y with
      | none => simp [PyData.eqv]
      | some y => simp [(eqv_none (nn y)).1]
    | some x => cases y with
      | none => simp [(eqv_none (nn x)).2]
      | some y => simp only [Option.some.injEq]; exact a.eqv x y⟩
theorem reprM_le {d : PyData} (h : reprM d = some r) : r.length ≤ sizeLine := by
  obtain ⟨h1, rfl⟩ := need_ok h
  unfold reprB at h1
  rw [Bool.and_eq_true] at h1
  have h3 := (of_decide_eq_true h1.2).2
  rw [sizeLine_eq]
  simpa [Str.length] using h3
theorem v_reprD {d : PyData} (hd : Dp K H v d) (h : reprM d = some r) (k : Q (.str (S r)) H) : qRepr K [v] H Q := by
  obtain ⟨h1, rfl⟩ := need_ok h
  exact ⟨v, d, rfl, hd, h1, k⟩
theorem v_repr (D : Dt t) (hs : Sub F H) (hr : t.r F v x) (h : reprM (D.d x) = some r) (k : Q (.str (S r)) H) : qRepr K [v] H Q := v_reprD (D.ok hs hr) h k
theorem v_reprM (D : Dt t) (hs : Sub F H) (hq : H p = some (.lst vs)) (hr : Al t F vs xs) (h : reprM (.list (xs.map D.d)) = some r) (k : Q (.str (S r)) H) : qRepr K [.ref p] H Q :=
  v_reprD (.lst (.inl (.inl hq)) (dt_all D hs hr)) h k
/-! == -/
theorem c_eqD {X : Cx} {k : Nat} (hK : X.K = K) (hr : Room k X.A) : OpR X (compareOp .Eq) (rEqD K) := by subst hK; exact op_eqD hr.units
theorem c_neD {X : Cx} {k : Nat} (hK : X.K = K) (hr : Room k X.A) : OpR X (compareOp .NotEq) (rNeD K) := by subst hK; exact op_neD hr.units
def eqB (d e : PyData) : Bool := SeqAt.shaped d && SeqAt.shaped e
theorem eqv_dec {α : Type} [DecidableEq α] {t : Rp α} (D : Dt t) (x y : α) : PyData.eqv (D.d x) (D.d y) = decide (x = y) := by
  rw [Bool.eq_iff_iff, decide_eq_true_eq]; exact D.eqv x y
theorem v_eqDp {v w : V} {d e : PyData} {b : Bool} (h1 : Dp K H v d) (h2 : Dp K H w e) (hb : eqB d e = true) (he : PyData.eqv d e = b) (k : Q (.bl b) H) : rEqD K v w H Q := by
  unfold eqB at hb
  rw [Bool.and_eq_true] at hb
  exact ⟨d, e, h1, h2, hb.1, hb.2, by rw [he]; exact k⟩
theorem v_neDp {v w : V} {d e : PyData} {b : Bool} (h1 : Dp K H v d) (h2 : Dp K H w e) (hb : eqB d e = true) (he : PyData.eqv d e = b) (k : Q (.bl (!b)) H) : rNeD K v w H Q := by
  unfold eqB at hb
  rw [Bool.and_eq_true] at hb
  exact ⟨d, e, h1, h2, hb.1, hb.2, by rw [he]; exact k⟩
theorem dp_mut (D : Dt t) (hs : Sub F H) (hq : H p = some (.lst vs)) (hr : Al t F vs xs) : Dp K H (.ref p) (.list (xs.map D.d)) := .lst (.inl (.inl hq)) (dt_all D hs hr)
end
/-! ### plain: how long a repr is -/
structure Rk (e B : Nat) (d : PyData) : Prop where
  sh : d.showable = true
  dp : d.depth ≤ e
  ln : d.shown.length ≤ B
structure Rks (e B : Nat) (ds : List PyData) : Prop where
  sh : PyData.showableAll ds = true
  dp : PyData.depthAll ds ≤ e
  ln : piled (PyData.shownAll ds) ≤ B
theorem rks_nil {e : Nat} : Rks e 0 [] := ⟨by simp only [PyData.showableAll], by simp only [PyData.depthAll]; exact Nat.zero_le _, by simp only [PyData.shownAll, piled_nil]; exact Nat.le_refl _⟩
theorem rks_cons {e B C : Nat} {d : PyData} {ds : List PyData} (h : Rk e B d) (h' : Rks e C ds) : Rks e (B + 2 + C) (d :: ds) :=
  ⟨by simp only [PyData.showableAll, h.sh, h'.sh, Bool.and_self], by simp only [PyData.depthAll]; exact Nat.max_le.mpr ⟨h.dp, h'.dp⟩, by
    simp only [PyData.shownAll, piled_cons]
    have := h.ln; have := h'.ln; omega⟩
theorem rks_all {e B : Nat} : ∀ {ds : List PyData}, (∀ d ∈ ds, Rk e B d) → Rks e (ds.length * (B + 2)) ds
  | [], _ => by simpa using rks_nil
  | d :: ds, h => by
    have q := rks_cons (h d (by simp)) (rks_all (ds := ds) fun c hc => h c (List.mem_cons_of_mem _ hc))
    refine ⟨q.sh, q.dp, ?_⟩
    have := q.ln
    rw [List.length_cons, Nat.add_mul, Nat.one_mul]
    omega
theorem Rk.mono {e e' B B' : Nat} {d : PyData} (h : Rk e B d) (he : e ≤ e') (hB : B ≤ B') : Rk e' B' d := ⟨h.sh, Nat.le_trans h.dp he, Nat.le_trans h.ln hB⟩
theorem textFrom_le (ts : List Str) : (listText ts).length ≤ piled ts + 2 := by
  unfold listText
  rw [strLen_append]
  cases ts with
  | nil => exact Nat.le_of_eq rfl
  | cons t r =>
    have e : textFrom 0 "[" (t :: r) = textFrom 1 (("[" : Str) ++ "" ++ t) r := rfl
    rw [e, textFrom_length_pos _ _ _ (Nat.succ_pos 0), strLen_append, strLen_append, piled_cons]
    have e1 : (("[" : String) : Str).length = 1 := rfl
    have e2 : (("" : String) : Str).length = 0 := rfl
    have e3 : (("]" : String) : Str).length = 1 := rfl
    rw [e1, e2, e3]; omega
theorem tupText_le (ts : List Str) : (tupleText ts).length ≤ piled ts + 3 := by
  unfold tupleText
  rw [strLen_append, strLen_append]
  have e1 : (("(" : String) : Str).length = 1 := rfl
  have e3 : (((if ts.length == 1 then ",)" else ")" : String) : Str)).length ≤ 2 := by split <;> decide
  rw [e1]
  by_cases h : ts = []
  · subst h
    have e4 : (Str.join ", " ([] : List Str)).length = 0 := rfl
    rw [e4]; omega
  · have := join_length_add ts h
    omega
theorem rk_list {e B : Nat} {ds : List PyData} (h : Rks e B ds) : Rk (e + 1) (B + 2) (.list ds) :=
  ⟨by simp only [PyData.showable]; exact h.sh, by simp only [PyData.depth]; exact Nat.succ_le_succ h.dp, by simp only [PyData.shown]; exact Nat.le_trans (textFrom_le _) (Nat.add_le_add_right h.ln 2)⟩
theorem rk_tup {e B : Nat} {ds : List PyData} (h : Rks e B ds) : Rk (e + 1) (B + 3) (.tuple ds) :=
  ⟨by simp only [PyData.showable]; exact h.sh, by simp only [PyData.depth]; exact Nat.succ_le_succ h.dp, by simp only [PyData.shown]; exact Nat.le_trans (tupText_le _) (Nat.add_le_add_right h.ln 3)⟩
theorem rk_non : Rk 0 4 .none := ⟨by simp only [PyData.showable], by simp only [PyData.depth]; exact Nat.le_refl _, by simp only [PyData.shown]; decide⟩
theorem rk_bool (b : Bool) : Rk 0 5 (.bool b) := ⟨by simp only [PyData.showable], by simp only [PyData.depth]; exact Nat.le_refl _, by simp only [PyData.shown]; cases b <;> decide⟩
theorem rk_str {s : Sg} {n : Nat} (hs : ∀ c ∈ s, c < 1114112) (hn : s.length ≤ n) : Rk 0 (10 * n + 2) (.str (S s)) :=
  ⟨by simp only [PyData.showable], by simp only [PyData.depth]; exact Nat.le_refl _, by
    simp only [PyData.shown]
    have := StrLaws.reprText_len (S s) (fun c hc => by have := hs c (by simpa using hc); omega)
    have e : (S s).length = s.length := by simp [Str.length]
    omega⟩
theorem rk_int {i : Int} {k : Nat} (hk : 0 < k) (h : i.natAbs < 2 ^ k) (hk2 : k ≤ 1920) : Rk 0 (k + 1) (.int i) := by
  have hl : i.natAbs.log2 < k := by
    by_cases h0 : i.natAbs = 0
    · rw [h0]; simpa using hk
    · exact (Nat.log2_lt h0).mpr h
  refine ⟨by simp only [PyData.showable]; exact decide_eq_true (Nat.lt_of_lt_of_le hl hk2), by simp only [PyData.depth]; exact Nat.le_refl _, ?_⟩
  simp only [PyData.shown]
  have h1 := int_text_length_le hk hl
  rw [ofString_length]; exact h1
theorem reprB_of {e B : Nat} {d : PyData} (h : Rk e B d) (he : e ≤ 60) (hB : B ≤ 16777216) : reprB d = true := by
  unfold reprB
  rw [h.sh, Bool.true_and]
  exact decide_eq_true ⟨Nat.le_trans h.dp he, Nat.le_trans h.ln hB⟩
theorem reprM_of {e B : Nat} {d : PyData} (h : Rk e B d) (he : e ≤ 60) (hB : B ≤ 16777216) : reprM d = some d.shown.cps.toList := by unfold reprM need; rw [reprB_of h he hB]; rfl
end U
set_option Elab.async false
set_option linter.all false
set_option maxRecDepth 100000
set_option maxHeartbeats 4000000
namespace U
open PySem PySem.Spec L2 PySem.W
/-! ### sorted: lists of typed data -/
def srtL {α : Type} (lt : α → α → Bool) (xs : List α) : List α := xs.mergeSort fun a b => !lt b a
def srtV (vs : List V) (ds : List PyData) : List V := ((vs.zip ds).mergeSort (dataLe false Prod.snd)).map Prod.fst
def qSorted (K : PySem.W.Frag) : RCl := fun xs H Q => ∃ p vs ds, xs = [V.ref p] ∧ SqL K H p vs ∧ DpAll K H vs ds ∧ AllAlike ds ∧ Sortable ds ∧ (∀ d ∈ ds, d.depth ≤ 60) ∧ ∀ l, H l = none → Q (.ref l) (upd H l (.lst (srtV vs ds)))
theorem dpa_len {K : PySem.W.Frag} {H : Hp} : ∀ {vs : List V} {ds : List PyData}, DpAll K H vs ds → vs.length = ds.length
  | _, _, .nil => rfl
  | _, _, .cons _ t => congrArg (· + 1) (dpa_len t)
theorem map_snd_zip : ∀ (vs : List V) (ds : List PyData), vs.length = ds.length → (vs.zip ds).map Prod.snd = ds
  | [], [], _ => rfl
  | [], _ :: _, h => by cases h
  | _ :: _, [], h => by cases h
  | v :: vs, d :: ds, h => by
    rw [List.zip_cons_cons, List.map_cons, map_snd_zip vs ds (Nat.succ.inj h)]
theorem each_zip {R : V → Value → Prop} : ∀ {vs : List V} {us : List Value} {ds : List PyData}, Paired R vs us → vs.length = ds.length → EachIs (fun u (b : V × PyData) => R b.1 u) us (vs.zip ds)
  | _, _, [], .nil, _ => .nil
  | _, _, _ :: _, .nil, h => by cases h
  | _, _, [], .cons _ _, h => by cases h
  | _, _, _ :: _, .cons r t, h => .cons r (each_zip t (Nat.succ.inj h))
theorem each_reads {X : Cx} {pins : List (Addr × Obj)} {σ : L2.St} {H : Hp} {s : Shared} (I : Inv X pins σ H s) : ∀ {vs : List V} {us : List Value} {ds : List PyData}, Vals vs us → DpAll X.K H vs ds → EachIs (fun u (b : V × PyData) => ∃ as, Reads s.heap u b.2 as) us (vs.zip ds)
  | _, _, _, .nil, .nil => .nil
  | _, _, _, .cons r t, .cons h k => .cons (Dp.reads I _ _ _ h r) (each_reads I t k)
theorem each_fst {R : V → Value → Prop} : ∀ {us : List Value} {bs : List (V × PyData)}, EachIs (fun u (b : V × PyData) => R b.1 u) us bs → Paired R (bs.map Prod.fst) us
  | _, _, .nil => .nil
  | _, _, .cons r t => .cons r (each_fst t)
theorem c_sorted {X : Cx} {K : PySem.W.Frag} {k : Nat} (hK : X.K = K) (hr : Room k X.A) : CallR X (.builtin "sorted") (qSorted K) := by
  subst hK
  intro pins s σ H xs us Q I rv ⟨p, vs, ds, e, hq, hd, ha, hs, hdp, q⟩
  subst e
  obtain ⟨u, rfl, ru⟩ := vals1 rv
  obtain rfl : u = Value.ref p := ru
  obtain ⟨its, ri, hl, hz⟩ := I.list hq
  have hlen := dpa_len hd
  have es := map_snd_zip vs ds hlen
  refine PySem.W.sorted_data (R := fun u (b : V × PyData) => RelV b.1 u) (enc := Prod.snd) (bs := vs.zip ds) hl.isList (each_zip ri hlen) (each_reads I ri hd) (by rw [es]; exact ha) (by rw [es]; exact hs) (by rw [List.length_zip]; omega) (fun b hb => ?_) fun out ho eo => ?_
  · have h1 := hdp b.2 (List.of_mem_zip (a := b.1) (b := b.2) hb).2
    have := hr.un
    omega
  · obtain ⟨n, hn⟩ := PyProof.Rows.sortedAll_at s.heap its out.toArray
    have hp : s.heap.objs.size ≤ s.heap.objs.size + 1 := Nat.le_succ _
    refine ⟨.ref (s.heap.objs.size + 1), upd H (s.heap.objs.size + 1) (.lst (srtV vs ds)), I.laid (t' := s.toks) (fun _ _ => PyProof.Rows.sortedAll_old) hp ?_, rfl, q _ (I.hok.fresh hp)⟩
    refine ⟨?_, out, n, each_fst eo, hn⟩
    unfold srtV
    rw [List.length_map, List.length_mergeSort, List.length_zip]
    omega
/-- what can be ordered -/
structure So {α : Type} {t : Rp α} (D : Dt t) where
  lt : α → α → Bool
  al : ∀ x y, alike (D.d x) (D.d y) = true
  so : (∀ x, ∃ a r, D.d x = .tuple (a :: r)) ∨ ∀ x, D.d x ≠ .none ∧ ∀ xs, D.d x ≠ .tuple xs
  dp : ∀ x, (D.d x).depth ≤ 60
  ok : ∀ x y, dataLt (D.d x) (D.d y) = lt x y
theorem row_nil : rowLt [] [] = false := PyProof.Rows.lex_irrefl _
theorem row_cons {x y : PyData} (h : alike x y = true) (xs ys : List PyData) : rowLt (x :: xs) (y :: ys) = if PyData.eqv x y = true then rowLt xs ys else dataLt x y := dataLt_cons h xs ys
section
variable {α β γ : Type} {t : Rp α} {u : Rp β} {w : Rp γ} {D : Dt t} {E : Dt u} {G : Dt w}
theorem So.irr (S : So D) (x : α) : S.lt x x = false := by
  rw [← S.ok]; exact PyProof.Rows.lex_irrefl _
theorem row_one (S : So D) (x y : α) : rowLt [D.d x] [D.d y] = S.lt x y := by
  rw [row_cons (S.al x y), row_nil, S.ok]
  by_cases h : PyData.eqv (D.d x) (D.d y) = true
  · rw [if_pos h]
    have e := (D.eqv x y).mp h
    subst e
    exact (S.irr x).symm
  · rw [if_neg h]
def ltI (x y : Int) : Bool := decide (x < y)
def ltS (x y : Sg) : Bool := decide (x < y)
def ltP {α β : Type} [DecidableEq α] (f : α → α → Bool) (g : β → β → Bool) (p q : α × β) : Bool := if p.1 = q.1 then g p.2 q.2 else f p.1 q.1
def soI : So dI := ⟨ltI, fun x y => by simp [dI, alike], .inr fun x => ⟨by simp [dI], by simp [dI]⟩, fun x => by simp [dI, PyData.depth], fun x y => dataLt_int x y⟩
def soS : So dS := ⟨ltS, fun x y => by simp [dS, alike], .inr fun x => ⟨by simp [dS], by simp [dS]⟩, fun x => by simp [dS, PyData.depth], fun x y => by
  show dataLt (.str (S x)) (.str (S y)) = _
  rw [dataLt_str]; rfl⟩
theorem ite_eqv [DecidableEq α] (D : Dt t) (x y : α) (a b : Bool) : (if PyData.eqv (D.d x) (D.d y) = true then a else b) = if x = y then a else b := by
  by_cases h : x = y
  · rw [if_pos h, if_pos ((D.eqv x y).mpr h)]
  · rw [if_neg h, if_neg (fun z => h ((D.eqv x y).mp z))]
def soP2 [DecidableEq α] (S : So D) (T : So E) (hd : ∀ x y, (D.d x).depth ≤ 20 ∧ (E.d y).depth ≤ 20) : So (dP2 D E) := ⟨ltP S.lt T.lt, fun x y => by
  show alike (.tuple [D.d x.1, E.d x.2]) (.tuple [D.d y.1, E.d y.2]) = true
  simp [alike, alikeAll, S.al, T.al], .inl fun x => ⟨_, _, rfl⟩, fun x => by
  have := hd x.1 x.2
  show (PyData.tuple [D.d x.1, E.d x.2]).depth ≤ 60
  simp only [PyData.depth, PyData.depthAll]; omega, fun x y => by
  show dataLt (.tuple [D.d x.1, E.d x.2]) (.tuple [D.d y.1, E.d y.2]) = _
  rw [dataLt_tuple]
  show rowLt _ _ = _
  rw [row_cons (S.al _ _), row_one T, S.ok, ite_eqv]; rfl⟩
def soP3 [DecidableEq α] [DecidableEq β] (S : So D) (T : So E) (U : So G) (hd : ∀ x y z, (D.d x).depth ≤ 20 ∧ (E.d y).depth ≤ 20 ∧ (G.d z).depth ≤ 20) : So (dP3 D E G) := ⟨ltP S.lt (ltP T.lt U.lt), fun x y => by
  show alike (.tuple [D.d x.1, E.d x.2.1, G.d x.2.2]) (.tuple [D.d y.1, E.d y.2.1, G.d y.2.2]) = true
  simp [alike, alikeAll, S.al, T.al, U.al], .inl fun x => ⟨_, _, rfl⟩, fun x => by
  have := hd x.1 x.2.1 x.2.2
  show (PyData.tuple [D.d x.1, E.d x.2.1, G.d x.2.2]).depth ≤ 60
  simp only [PyData.depth, PyData.depthAll]; omega, fun x y => by
  show dataLt (.tuple [D.d x.1, E.d x.2.1, G.d x.2.2]) (.tuple [D.d y.1, E.d y.2.1, G.d y.2.2]) = _
  rw [dataLt_tuple]
  show rowLt _ _ = _
  rw [row_cons (S.al _ _), row_cons (T.al _ _), row_one U, S.ok, T.ok, ite_eqv, ite_eqv]; rfl⟩
theorem so_alike (S : So D) (xs : List α) : AllAlike (xs.map D.d) := fun d hd e he => by
  obtain ⟨x, _, rfl⟩ := List.mem_map.mp hd
  obtain ⟨y, _, rfl⟩ := List.mem_map.mp he
  exact S.al x y
theorem so_sortable (S : So D) (xs : List α) : Sortable (xs.map D.d) := S.so.imp (fun h d hd => by
  obtain ⟨x, _, rfl⟩ := List.mem_map.mp hd
  exact h x) fun h d hd => by
  obtain ⟨x, _, rfl⟩ := List.mem_map.mp hd
  exact h x
theorem pd_zipmem {R : V → α → Prop} : ∀ {vs : List V} {xs : List α}, Paired R vs xs → ∀ b ∈ vs.zip xs, R b.1 b.2
  | _, _, .nil, b, h => by cases h
  | _, _, .cons r t, b, h => by
    rcases List.mem_cons.mp h with e | e
    · subst e; exact r
    · exact pd_zipmem t b e
theorem pd_unzip {R : V → α → Prop} : ∀ zs : List (V × α), (∀ b ∈ zs, R b.1 b.2) → Paired R (zs.map Prod.fst) (zs.map Prod.snd)
  | [], _ => .nil
  | b :: zs, h => .cons (h b (by simp)) (pd_unzip zs fun c hc => h c (by simp [hc]))
theorem map_fst_zipA : ∀ (vs : List V) (xs : List α), vs.length = xs.length → (vs.zip xs).map Prod.snd = xs
  | [], [], _ => rfl
  | [], _ :: _, h => by cases h
  | _ :: _, [], h => by cases h
  | v :: vs, d :: ds, h => by
    rw [List.zip_cons_cons, List.map_cons, map_fst_zipA vs ds (Nat.succ.inj h)]
variable {K : PySem.W.Frag} {F H : Hp} {vs us : List V} {xs : List α} {p : Addr} {Q : VK}
theorem al_sorted (S : So D) (hr : Al t F vs xs) : Al t F (srtV vs (xs.map D.d)) (srtL S.lt xs) := by
  have hl := al_len hr
  have e1 : (vs.zip (xs.map D.d)) = (vs.zip xs).map fun b => (b.1, D.d b.2) := by
    rw [List.zip_map_right]; rfl
  have e2 : ((vs.zip xs).map fun b : V × α => (b.1, D.d b.2)).mergeSort (dataLe false Prod.snd) = ((vs.zip xs).mergeSort fun a b => !S.lt b.2 a.2).map fun b => (b.1, D.d b.2) :=
    (List.map_mergeSort (fun a _ b _ => by
      show (!S.lt b.2 a.2) = (!dataLt (D.d b.2) (D.d a.2))
      rw [S.ok])).symm
  have e3 : ((vs.zip xs).mergeSort fun a b => !S.lt b.2 a.2).map Prod.snd = srtL S.lt xs := by
    rw [List.map_mergeSort (s := fun a b => !S.lt b a) (fun a _ b _ => rfl), map_fst_zipA vs xs hl]; rfl
  unfold srtV
  rw [e1, e2, List.map_map, ← e3]
  show Al t F (List.map (fun b : V × α => b.1) _) _
  exact pd_unzip _ fun b hb => pd_zipmem hr b ((List.mergeSort_perm _ _).mem_iff.mp hb)
theorem v_sortedF (S : So D) (hs : Sub F H) (hq : SqL K H p vs) (hr : Al t F vs xs) (k : ∀ p' us F' H', Gr [] F H F' H' → F' p' = some (.lst us) → Al t F' us (srtL S.lt xs) → Q (.ref p') H') : qSorted K [.ref p] H Q :=
  ⟨p, vs, xs.map D.d, rfl, hq, dt_all D hs hr, so_alike S xs, so_sortable S xs, fun d hd => by obtain ⟨x, _, rfl⟩ := List.mem_map.mp hd; exact S.dp x, fun l hl => k l _ _ _ (gr_newF hs hl) upd_same (Al.mono (al_sorted S hr) (Sub.up1 (hs.nn hl)))⟩
theorem v_sortedM (S : So D) (hs : Sub F H) (hq : SqL K H p vs) (hr : Al t F vs xs) (k : ∀ p' us H', H p' = none → Gr [] F H F H' → F p' = none → H' p' = some (.lst us) → Al t F us (srtL S.lt xs) → Q (.ref p') H') : qSorted K [.ref p] H Q :=
  ⟨p, vs, xs.map D.d, rfl, hq, dt_all D hs hr, so_alike S xs, so_sortable S xs, fun d hd => by obtain ⟨x, _, rfl⟩ := List.mem_map.mp hd; exact S.dp x, fun l hl => k l _ _ hl (gr_newM hs hl) (hs.nn hl) upd_same (al_sorted S hr)⟩
end
/-! ### plain: what is sorted -/
structure Lo {α : Type} (lt : α → α → Bool) : Prop where
  irr : ∀ x, lt x x = false
  tr : ∀ x y z, lt x y = true → lt y z = true → lt x z = true
  tot : ∀ x y, lt x y = false → lt y x = false → x = y
section
variable {α β : Type} {lt : α → α → Bool} {xs ys : List α}
theorem Lo.asym (O : Lo lt) {x y : α} (h : lt x y = true) : lt y x = false := by
  cases e : lt y x with
  | false => rfl
  | true => have := O.tr x y x h e; rw [O.irr] at this; cases this
theorem Lo.ntr (O : Lo lt) {x y z : α} (h : lt y x = false) (k : lt z y = false) : lt z x = false := by
  cases e : lt z x with
  | false => rfl
  | true =>
    cases e2 : lt x y with
    | true => have := O.tr z x y e e2; rw [this] at k; cases k
    | false =>
      have := O.tot x y e2 h
      subst this
      rw [e] at k; cases k
theorem srt_perm : (srtL lt xs).Perm xs := List.mergeSort_perm _ _
theorem srt_len : (srtL lt xs).length = xs.length := srt_perm.length_eq
theorem srt_mem {x : α} : x ∈ srtL lt xs ↔ x ∈ xs := srt_perm.mem_iff
theorem srt_sorted (O : Lo lt) : (srtL lt xs).Pairwise fun a b => lt b a = false := by
  have := List.pairwise_mergeSort (le := fun a b => !lt b a) (fun a b c h1 h2 => by
    simp only [Bool.not_eq_true'] at *
    exact O.ntr h1 h2) (fun a b => by
    cases e : lt b a with
    | false => rfl
    | true => simp [O.asym e]) xs
  exact this.imp fun h => by simpa using h
/-- two orderings of the same things are one -/
theorem sorted_uniq (O : Lo lt) (hp : xs.Perm ys) (h1 : xs.Pairwise fun a b => lt b a = false) (h2 : ys.Pairwise fun a b => lt b a = false) : xs = ys :=
  List.Perm.eq_of_pairwise (fun a b _ _ h k => O.tot a b k h) h1 h2 hp
theorem srt_of (O : Lo lt) (hp : xs.Perm ys) (h2 : ys.Pairwise fun a b => lt b a = false) : srtL lt xs = ys := sorted_uniq O (srt_perm.trans hp) (srt_sorted O) h2
theorem lo_I : Lo ltI := ⟨fun x => by simp [ltI], fun x y z h k => by simp [ltI] at *; omega, fun x y h k => by simp [ltI] at *; omega⟩
theorem sg_tot (x y : Sg) (h : ¬ x < y) (k : ¬ y < x) : x = y := List.le_antisymm k h
theorem lo_S : Lo ltS := ⟨fun x => by simp [ltS], fun x y z h k => by
  simp only [ltS, decide_eq_true_eq] at *; exact List.lt_trans h k, fun x y h k => by
  simp only [ltS, decide_eq_false_iff_not] at *; exact sg_tot x y h k⟩
theorem lo_P [DecidableEq α] {f : α → α → Bool} {g : β → β → Bool} (A : Lo f) (B : Lo g) : Lo (ltP f g) := by
  refine ⟨fun x => ?_, fun x y z h k => ?_, fun x y h k => ?_⟩
  · unfold ltP; rw [if_pos rfl]; exact B.irr _
  · unfold ltP at *
    by_cases e1 : x.1 = y.1
    · rw [if_pos e1] at h
      by_cases e2 : y.1 = z.1
      · rw [if_pos e2] at k; rw [if_pos (e1.trans e2)]; exact B.tr _ _ _ h k
      · rw [if_neg e2] at k; rw [if_neg (by rw [e1]; exact e2), e1]; exact k
    · rw [if_neg e1] at h
      by_cases e2 : y.1 = z.1
      · rw [if_neg (by rw [← e2]; exact e1), ← e2]; exact h
      · rw [if_neg e2] at k
        have := A.tr _ _ _ h k
        by_cases e3 : x.1 = z.1
        · rw [e3, A.irr] at this; cases this
        · rw [if_neg e3]; exact this
  · unfold ltP at h k
    by_cases e1 : x.1 = y.1
    · rw [if_pos e1] at h; rw [if_pos e1.symm] at k
      exact Prod.ext e1 (B.tot _ _ h k)
    · rw [if_neg e1] at h; rw [if_neg (Ne.symm e1)] at k
      exact absurd (A.tot _ _ h k) e1
end
end U
set_option Elab.async false
set_option linter.all false
set_option maxRecDepth 100000
set_option maxHeartbeats 4000000
namespace U
open PySem PySem.Spec L2 PyProof.Rows
/-! ### sets that are built of a list and sorted at once: kinds of elements -/
abbrev nset (w : World) : Obj := { cls := .type "set", dict := none, data := .set #[] 0 (.fresh 0 0 (!w.params.followText "set-order")) }
/-- a kind of element: what a value has to be, its hash; what is known of a set of such (rows: key and value, in the set's own order) -/
structure Ekd (P : Program) (w : World) where
  κ : Type
  dec : DecidableEq κ
  is : Heap → κ → Value → Prop
  hash : κ → Int
  dat : κ → PyData
  most : Nat
  bound : most < 4000
  ok : Heap → Addr → List (κ × Value) → Array (Int × Value) → Nat → SetTable → Prop
  ob : ∀ {h : Heap} {a : Addr} {L : List (κ × Value)} {es : Array (Int × Value)} {ep : Nat} {t : SetTable}, ok h a L es ep t → ∃ o, h.get? a = some o ∧ o.ExactSet ∧ o.data = .set es ep t
  row : ∀ {h : Heap} {a : Addr} {L : List (κ × Value)} {es : Array (Int × Value)} {ep : Nat} {t : SetTable}, ok h a L es ep t → es.toList.map Prod.snd = L.map Prod.snd
  nd : ∀ {h : Heap} {a : Addr} {L : List (κ × Value)} {es : Array (Int × Value)} {ep : Nat} {t : SetTable}, ok h a L es ep t → (L.map Prod.fst).Nodup
  el : ∀ {h : Heap} {a : Addr} {L : List (κ × Value)} {es : Array (Int × Value)} {ep : Nat} {t : SetTable}, ok h a L es ep t → ∀ p ∈ L, is h p.1 p.2
  fits : ∀ {h : Heap} {a : Addr} {L : List (κ × Value)} {es : Array (Int × Value)} {ep : Nat} {t : SetTable}, ok h a L es ep t → t.fits es.size = true
  ris : ∀ {h : Heap} {a : Addr} {L : List (κ × Value)} {es : Array (Int × Value)} {ep : Nat} {t : SetTable}, ok h a L es ep t → Ris t.place.toList
  led : ∀ {h : Heap} {a : Addr} {L : List (κ × Value)} {es : Array (Int × Value)} {ep : Nat} {t : SetTable}, ok h a L es ep t → (w.params.followText "set-order" = true ∨ t.led = true)
  few : ∀ {h : Heap} {a : Addr} {L : List (κ × Value)} {es : Array (Int × Value)} {ep : Nat} {t : SetTable}, ok h a L es ep t → L.length ≤ most
  hold : ∀ {h h' : Heap} {a : Addr} {L : List (κ × Value)} {es : Array (Int × Value)} {ep : Nat} {t : SetTable}, ok h a L es ep t → (∀ o, h.get? a = some o → h'.get? a = some o) → (∀ p ∈ L, is h' p.1 p.2) → ok h' a L es ep t
  keep : ∀ {h h' : Heap} {k : κ} {v : Value}, is h k v → (∀ c o, h.get? c = some o → h'.get? c = some o) → is h' k v
  reads : ∀ {h : Heap} {k : κ} {v : Value}, is h k v → Reads h v (dat k) []
  fresh : ∀ {h : Heap} {a : Addr}, h.get? a = some (nset w) → ok h a [] #[] 0 (.fresh 0 0 (!w.params.followText "set-order"))
  hashed : ∀ {A : Around} {E : Value → Shared → Prop} {s : Shared} {k : κ} {v : Value} {Q : Int → Shared → Prop}, A.units < cLine → is s.heap k v → (∀ tk, s.toks ≤ tk → Q (hash k) { s with toks := tk }) → wpAny (model P w) A (pyHash v) Q E s
  add : ∀ {A : Around} {E : Value → Shared → Prop} {s : Shared} {a : Addr} {L : List (κ × Value)} {es : Array (Int × Value)} {ep : Nat} {t : SetTable} {k : κ} {v : Value} {Q : Bool → Shared → Prop}, A.units < cLine → ok s.heap a L es ep t → is s.heap k v → L.length < most →
    (∀ b h' L' es' ep' t', Heap.SameBut a s.heap h' → ok h' a L' es' ep' t' → (k ∈ L.map Prod.fst → L' = L) → (k ∉ L.map Prod.fst → L'.Perm ((k, v) :: L)) → Q b { s with heap := h' }) → wpAny (model P w) A (setAddHashed a v (hash k)) Q E s
theorem perm_lift {α β : Type} (f : α → β) {xs ys : List β} (h : xs.Perm ys) : ∀ M : List α, ys = M.map f → ∃ M1 : List α, xs = M1.map f ∧ M1.Perm M := by
  induction h with
  | nil => intro M e; exact ⟨M, e, .refl _⟩
  | cons x _ ih =>
    intro M e
    cases M with
    | nil => cases e
    | cons p M =>
      obtain ⟨M1, e1, h1⟩ := ih M (List.cons.inj e).2
      exact ⟨p :: M1, by rw [List.map_cons, ← e1, (List.cons.inj e).1], h1.cons p⟩
  | swap x y l =>
    intro M e
    match M, e with
    | p :: p2 :: M, e =>
      have a1 := (List.cons.inj e).1
      have a2 := (List.cons.inj (List.cons.inj e).2).1
      have a3 := (List.cons.inj (List.cons.inj e).2).2
      exact ⟨p2 :: p :: M, by rw [List.map_cons, List.map_cons, ← a1, ← a2, ← a3], .swap p p2 M⟩
  | trans _ _ ih1 ih2 =>
    intro M e
    obtain ⟨M2, b1, b2⟩ := ih2 M e
    obtain ⟨M3, c1, c2⟩ := ih1 M2 b1
    exact ⟨M3, c1, c2.trans b2⟩
section
variable {P : Program} {w : World} {D : Ekd P w} {A : Around} {E : Value → Shared → Prop} {s : Shared}
/-- the rows that came of the first i items -/
structure GotE (D : Ekd P w) (ks : List (D.κ × Value)) (i : Nat) (L : List (D.κ × Value)) : Prop where
  sub : ∀ p ∈ L, p ∈ ks.take i
  all : ∀ p ∈ ks.take i, p.1 ∈ L.map Prod.fst
  len : L.length ≤ i
theorem gotE_none (ks : List (D.κ × Value)) : GotE D ks 0 [] := ⟨nofun, fun p hp => by simp at hp, Nat.zero_le _⟩
theorem gotE_next {ks L L' : List (D.κ × Value)} {i : Nat} {x : D.κ × Value} (g : GotE D ks i L) (hx : ks[i]? = some x) (c1 : x.1 ∈ L.map Prod.fst → L' = L) (c2 : x.1 ∉ L.map Prod.fst → L'.Perm (x :: L)) : GotE D ks (i + 1) L' := by
  have et : ks.take (i + 1) = ks.take i ++ [x] := by rw [List.take_succ, hx]; rfl
  by_cases hm : x.1 ∈ L.map Prod.fst
  · have e := c1 hm
    subst e
    refine ⟨fun p hp => by rw [et]; exact List.mem_append_left _ (g.sub p hp), fun p hp => ?_, Nat.le_succ_of_le g.len⟩
    rw [et] at hp
    rcases List.mem_append.mp hp with z | z
    · exact g.all p z
    · rw [List.mem_singleton] at z; subst z; exact hm
  · have pm := c2 hm
    refine ⟨fun p hp => ?_, fun p hp => ?_, by rw [pm.length_eq]; exact Nat.succ_le_succ g.len⟩
    · rw [et]
      rcases List.mem_cons.mp (pm.mem_iff.mp hp) with z | z
      · subst z; simp
      · exact List.mem_append_left _ (g.sub p z)
    · refine (pm.map Prod.fst).mem_iff.mpr ?_
      rw [et] at hp
      rw [List.map_cons]
      rcases List.mem_append.mp hp with z | z
      · exact List.mem_cons_of_mem _ (g.all p z)
      · rw [List.mem_singleton] at z; subst z; exact List.mem_cons_self
/-- the loop that takes the items in -/
theorem set_loop {I : Addr} {fp wr : List Addr} {G : Array GenState → Array GenState → Prop} {n : Nat} {Pv : Nat → Value → Prop} {St : Nat → Shared → Prop} {R : Result → Shared → Prop}
    (W : WalksS P w A.in1 I fp wr G n Pv St) (Z : Addr) (hZ : Z ∉ fp) (ks : List (D.κ × Value)) (en : n = ks.length) (few : ks.length ≤ D.most) (vals : ∀ i v, Pv i v → ∃ p, ks[i]? = some p ∧ v = p.2)
    (g0 : Heap) (hk : ∀ p ∈ ks, D.is g0 p.1 p.2) (hZ0 : g0.get? Z = none) (hw0 : ∀ b ∈ wr, g0.get? b = none) (hu : A.in1.units < cLine) :
    ∀ (m i : Nat) (s : Shared), n - i = m → i ≤ n → St i s → (∀ b o, g0.get? b = some o → s.heap.get? b = some o) → (∃ L es ep t, D.ok s.heap Z L es ep t ∧ GotE D ks i L) →
      (∀ s' L es ep t, Moved (Z :: wr) G s s' → D.ok s'.heap Z L es ep t → GotE D ks n L → (∀ b o, g0.get? b = some o → s'.heap.get? b = some o) → R (.ok (.ret .none)) s') →
      codeAny (model P w) A (.builtin "set.update.loop" ⟨[.ref Z, .ref I], []⟩) R s := by
  have nZ : Z ∉ wr := fun z => hZ (W.sub _ z)
  have up : ∀ b ∈ wr, b ∈ Z :: wr := fun b => List.mem_cons_of_mem _
  have old : ∀ {u v : Shared}, Moved wr G u v → (∀ b o, g0.get? b = some o → u.heap.get? b = some o) → ∀ b o, g0.get? b = some o → v.heap.get? b = some o := fun mv k b o e =>
    mv.heap b o (fun z => by rw [hw0 b z] at e; cases e) (k b o e)
  have here : ∀ {L : List (D.κ × Value)} {i : Nat}, GotE D ks i L → ∀ p ∈ L, p ∈ ks := fun g p hp => List.mem_of_mem_take (g.sub p hp)
  intro m
  induction m with
  | zero =>
    rintro i s em hi st kp ⟨L, es, ep, t, ok, g⟩ hR
    obtain rfl : i = n := by omega
    refine codeAny_builtin F.entry_set_update_loop ?_
    rw [Around.under_plainId F.plain_set_update_loop _]
    show wpAny _ A.in1 (_ >>= _) _ _ s
    refine wpAny_bind (W.done s _ _ st fun s1 mv => ?_)
    have kp1 := old mv kp
    show wpAny _ _ (ret .none) _ _ s1
    exact wpAny_pure (hR s1 L es ep t (mv.mono up) (D.hold ok (fun o => mv.heap Z o nZ) fun p hp => D.keep (hk p (here g p hp)) kp1) g kp1)
  | succ m ih =>
    rintro i s em hi st kp ⟨L, es, ep, t, ok, g⟩ hR
    have lt : i < n := by omega
    refine codeAny_builtin F.entry_set_update_loop ?_
    rw [Around.under_plainId F.plain_set_update_loop _]
    show wpAny _ A.in1 (_ >>= _) _ _ s
    refine wpAny_bind (W.item i s _ _ lt st fun v s1 hv st1 mv => ?_)
    obtain ⟨⟨k, u⟩, hp, ev⟩ := vals i v hv
    have eu : u = v := ev.symm
    subst eu
    have kp1 := old mv kp
    have ok1 := D.hold ok (fun o => mv.heap Z o nZ) fun p hp => D.keep (hk p (here g p hp)) kp1
    have x1 : D.is s1.heap k u := D.keep (hk _ (List.mem_of_getElem? hp)) kp1
    show wpAny _ _ (holding [u] (setAdd Z u) >>= _) _ _ s1
    refine wpAny_bind (wpAny_holding ?_)
    unfold setAdd
    refine wpAny_holding (wpAny_bind (D.hashed hu x1 fun tk ht => ?_))
    refine D.add (s := { s1 with toks := tk }) hu ok1 x1 (by have := g.len; omega) fun b g2 L2 es2 ep2 t2 sb ok2 c1 c2 => ?_
    have got := gotE_next g hp c1 c2
    have kp2 : ∀ b o, g0.get? b = some o → g2.get? b = some o := fun b o e => by
      rw [sb.2 b fun z => by rw [z, hZ0] at e; cases e]; exact kp1 b o e
    have oth : ∀ b, b ≠ Z → g2.get? b = s1.heap.get? b := fun b hb => sb.2 b hb
    refine wpAny_pure ⟨plainId_quiet F.plain_set_update_loop _, ih (i + 1) _ (by omega) lt (W.frame _ s1 _ _ st1 ht fun b hb o e => ?_) kp2 ⟨L2, es2, ep2, t2, ok2, got⟩ fun s3 L3 es3 ep3 t3 mv3 ok3 got3 kp3 => ?_⟩
    · rw [oth b fun z => hZ (z ▸ hb)]; exact e
    · refine hR s3 L3 es3 ep3 t3 (Moved.trans W.gtrans ((mv.mono up).then_heap ht fun b o hb e => ?_) mv3) ok3 got3 kp3
      rw [oth b fun z => hb (z ▸ List.mem_cons_self)]; exact e
set_option maxHeartbeats 8000000 in
/-- set(xs), xs a list -/
theorem set_made {l : Addr} {items : Array Value} (ks : List (D.κ × Value)) {Q : Value → Shared → Prop} (hh : A.handled = none) (il : s.heap.IsList l items) (ei : items.toList = ks.map Prod.snd)
    (hk : ∀ p ∈ ks, D.is s.heap p.1 p.2) (few : ks.length ≤ D.most) (hu : A.units + 3 < cLine)
    (q : ∀ (g : Heap) (tk : Nat) L es ep t, D.ok g s.heap.objs.size L es ep t → GotE D ks ks.length L → (∀ b o, s.heap.get? b = some o → g.get? b = some o) → Q (.ref s.heap.objs.size) { s with heap := g, toks := tk }) :
    wpAny (model P w) A (call (.type "set") [.ref l]) Q E s := by
  have sz : items.size = ks.length := by
    rw [← Array.length_toList, ei, List.length_map]
  obtain ⟨c, tl, hmro⟩ := F.called_set.mro
  have hmade := F.called_set.made
  have hsub := F.called_set.sub
  refine wpAny_call (codeAny_of_tree ?_)
  show wpAny _ _ (callAny (.type "set") _) _ _ _
  refine wpAny_pure ⟨Code.quiet_builtin _ (by decide +kernel), codeAny_builtin F.entry_type_call ?_⟩
  rw [Around.under_plain (weight_type_call_type "set" [.ref l] []) rfl]
  have h1 := F.called_set.notType
  have h2 := F.called_set.canCreate
  have hct := F.typeCall_set_1 (.ref l)
  repeat (any_goals (first | assumption | wp_step))
  refine codeAny_mono (code_set_led1 (.ref l) (E := E) (Q₁ := fun v s₁ => v = .ref s.heap.objs.size ∧ s₁ = { s with heap := s.heap.push (nset w) }) ⟨rfl, rfl⟩) fun r s₁ hr => ?_
  match r, hr with
  | .error e, hr => exact hr
  | .ok (.ret v), ⟨ev, es1⟩ =>
    subst ev es1
    have gZ : (s.heap.push (nset w)).get? s.heap.objs.size = some (nset w) := Heap.get?_push_size _ rfl
    have tZ : Shared.TypeIs { s with heap := s.heap.push (nset w) } (.ref s.heap.objs.size) "set" := ⟨_, gZ, rfl⟩
    have hli := F.called_set.init.lookup
    have hbi := F.called_set.init.bind (.ref s.heap.objs.size)
    repeat (any_goals (first | assumption | wp_step))
    refine codeAny_mono (codeAny_call_builtin (R := wants (fun r u => r = .none ∧ ∃ g tk L es ep t, u = { s with heap := g, toks := tk } ∧ D.ok g s.heap.objs.size L es ep t ∧ GotE D ks ks.length L ∧ (∀ b o, s.heap.get? b = some o → g.get? b = some o)) E)
      F.called_set.init.plain F.entry_set_init (check_set_init_1 tZ ?_)) fun r2 s2 hr2 => ?_
    · obtain ⟨ol, gl, cl, nl, dl⟩ := il
      obtain ⟨ocls, odict, odata, oslots⟩ := ol
      simp only at cl dl
      subst cl dl
      have gl1 : (s.heap.push (nset w)).get? l = some { cls := .type "list", dict := odict, data := .seq items nl, slots := oslots } := Heap.get?_push_of_some _ gl
      have nls := F.sub_list_set
      have nlf := F.sub_list_frozenset
      have nld : (Value.type "list" == Value.type "dict") = false := by decide
      have il1 : (s.heap.push (nset w)).IsList l items := ⟨_, gl1, rfl, nl, rfl⟩
      unfold Builtin.«set.__init__» noKeywords Builtin.Frozenset.updateFrom
      generalize hPI : pyIter = PI
      wp_walk
      subst hPI
      refine wpAny_pyIter_list il1 ?_
      refine wpAny_bind (wpAny_runValue ?_)
      have ll : l < s.heap.objs.size := Heap.lt_size gl
      have hh3 : A.in1.in1.in1.handled = none := hh
      have z1 : (s.heap.push (nset w)).objs.size = s.heap.objs.size + 1 := Heap.size_push ..
      have nI : l ≠ (s.heap.push (nset w)).objs.size := by rw [z1]; exact Nat.ne_of_lt (Nat.lt_succ_of_lt ll)
      have nf : s.heap.objs.size ∉ [(s.heap.push (nset w)).objs.size, l] := by
        rw [z1]
        intro z
        simp only [List.mem_cons, List.not_mem_nil, or_false] at z
        exact z.elim (Nat.ne_of_lt (Nat.lt_succ_self _)) (Nat.ne_of_gt ll)
      have vals : ∀ (i : Nat) (v : Value), items[i]? = some v → ∃ p, ks[i]? = some p ∧ v = p.2 := fun i v hv => by
        rw [← Array.getElem?_toList, ei, List.getElem?_map] at hv
        cases e : ks[i]? with
        | none => rw [e] at hv; cases hv
        | some p => rw [e] at hv; exact ⟨p, rfl, (Option.some.inj hv).symm⟩
      have gone : ∀ b, s.heap.objs.size ≤ b → s.heap.get? b = none := fun b hb => by
        cases e : s.heap.get? b with
        | none => rfl
        | some o => exact absurd (Nat.lt_of_lt_of_le (Heap.lt_size e) hb) (Nat.lt_irrefl _)
      refine set_loop (D := D) ((Walks.list hh3 _ l nI items).toS) s.heap.objs.size nf ks sz few vals s.heap hk (gone _ (Nat.le_refl _))
        (fun b hb => gone b (by rw [List.mem_singleton.mp hb, z1]; omega)) hu (items.size - 0) 0 _ (by omega) (Nat.zero_le _) ⟨⟨_, Heap.get?_push_size _ rfl, rfl, rfl⟩, (il1.push _)⟩
        (fun b o e => Heap.get?_push_of_some _ (Heap.get?_push_of_some _ e)) ⟨[], #[], 0, _, D.fresh (Heap.get?_push_of_some _ gZ), gotE_none ks⟩ ?_
      rintro ⟨g, gs, dr, tk, os⟩ L es ep t mv ok got kp
      have e1 : gs = s.gens := mv.gens
      have e2 : dr = s.drawn := mv.drawn
      have e3 : os = s.os := mv.os
      subst e1 e2 e3
      show wpAny _ _ _ _ _ _
      refine wpAny_pure ?_
      show wpAny _ _ (ret .none) _ _ _
      rw [sz] at got
      exact wpAny_pure ⟨rfl, g, tk, L, es, ep, t, rfl, ok, got, kp⟩
    · match r2, hr2 with
      | .error e, hr2 => exact hr2
      | .ok (.ret v2), ⟨e0, g, tk, L, es, ep, t, e1, ok, got, kp⟩ =>
        subst e0 e1
        repeat (any_goals (first | assumption | wp_step))
        exact q _ _ _ _ _ _ ok got kp
/-- sorted(S), S such a set -/
theorem set_sorted {a : Addr} {L : List (D.κ × Value)} {es : Array (Int × Value)} {ep : Nat} {t : SetTable} {Q : Value → Shared → Prop} (ok : D.ok s.heap a L es ep t) (hh : A.handled = none)
    (al : W.AllAlike (L.map fun p => D.dat p.1)) (so : W.Sortable (L.map fun p => D.dat p.1)) (dp : ∀ p ∈ L, (D.dat p.1).depth ≤ 60) (hu : A.units + 100 < cLine)
    (q : ∀ (s1 : Shared) (p : Addr) (out : List Value) (c : Nat) (L2 : List (D.κ × Value)), (∀ b o, s.heap.get? b = some o → s1.heap.get? b = some o) → s1.gens = s.gens → s1.os = s.os → s.heap.objs.size ≤ p → s1.heap.get? p = some (seqObj "list" out.toArray c) → out = L2.map Prod.snd → L2.Perm L →
      L2.Pairwise (fun x y => W.dataLt (D.dat y.1) (D.dat x.1) = false) → Q (.ref p) s1) : wpAny (model P w) A (call (.builtin "sorted") [.ref a]) Q E s := by
  obtain ⟨o, go, ex, da⟩ := D.ob ok
  have few := D.few ok
  have bd := D.bound
  have rw1 := D.row ok
  have esz : es.size = L.length := by
    have := congrArg List.length rw1
    rw [List.length_map, List.length_map, Array.length_toList] at this
    exact this
  refine Calls.call_function_entry kind_sorted plain_sorted entry_sorted (args_sorted1 _) ?_
  unfold Builtin.«sorted»
  refine wpAny_bind (m := checkCount "sorted" 1 1 _) (wpAny_pure ?_)
  refine wpAny_bind (collect_set (A := A.in1) hh ⟨o, go, ex.1, da⟩ (D.fits ok) (by unfold scanBound; omega) (D.ris ok) (D.led ok) fun s1 vs k1 z1 g1 o1 pm => ?_)
  rw [rw1] at pm
  -- the values, with their keys
  obtain ⟨L1, e1, p1⟩ := perm_lift Prod.snd pm L rfl
  subst e1
  have ln : (L1.map Prod.snd).length ≤ sizeLine := by rw [List.length_map, p1.length_eq, sizeLine_eq]; omega
  refine wpAny_bind (wpAny_newList ?_ ln)
  have gL : (s1.heap.push (seqObj "list" (L1.map Prod.snd).toArray 0)).get? s1.heap.objs.size = some (seqObj "list" (L1.map Prod.snd).toArray 0) := Heap.get?_push_size _ rfl
  have pmd : (L1.map fun p => D.dat p.1).Perm (L.map fun p => D.dat p.1) := p1.map _
  have each : ∀ M : List (D.κ × Value), (∀ p ∈ M, p ∈ L) → W.EachIs (fun v (b : D.κ × Value) => (v = b.2) ∧ ∃ as, Reads (s1.heap.push (seqObj "list" (L1.map Prod.snd).toArray 0)) v (D.dat b.1) as ∧ s1.heap.objs.size ∉ as) (M.map Prod.snd) M := by
    intro M
    induction M with
    | nil => intro _; exact .nil
    | cons p M ih =>
      intro hM
      refine .cons ⟨rfl, ?_⟩ (ih fun r hr => hM r (List.mem_cons_of_mem _ hr))
      have i0 := D.keep (D.el ok p (hM p List.mem_cons_self)) k1
      exact ⟨[], Reads.keeps (fun b u e => Heap.get?_push_of_some _ e) (D.reads i0), nofun⟩
  have ea := each L1 fun p hp => p1.mem_iff.mp hp
  refine wpAny_bind (wpAny_holding (W.list_sort_data (s := { s1 with heap := s1.heap.push (seqObj "list" (L1.map Prod.snd).toArray 0) }) (R := fun v (b : D.κ × Value) => v = b.2) (enc := fun b : D.κ × Value => D.dat b.1) (bs := L1) (vs := L1.map Prod.snd) gL (ea.mono fun _ _ z => z.1) (ea.mono fun _ _ z => z.2)
    (fun d hd e he => al d (pmd.mem_iff.mp hd) e (pmd.mem_iff.mp he)) (so.imp (fun f d hd => f d (pmd.mem_iff.mp hd)) fun f d hd => f d (pmd.mem_iff.mp hd)) (by rw [List.length_map] at ln; exact ln) (fun b hb => ?_) fun out lo eo => ?_))
  · have := dp b (p1.mem_iff.mp hb)
    show A.units + 1 + 1 + (D.dat b.1).depth < cLine
    omega
  · obtain ⟨c, gc⟩ := sortedHeap_at (vs := L1.map Prod.snd) (out := out.toArray) gL
    have eo2 : out = (L1.mergeSort (W.dataLe false fun b : D.κ × Value => D.dat b.1)).map Prod.snd := by
      have key : ∀ {us : List Value} {M : List (D.κ × Value)}, W.EachIs (fun v (b : D.κ × Value) => v = b.2) us M → us = M.map Prod.snd := by
        intro us M h
        induction h with
        | nil => rfl
        | cons r _ ih => rw [List.map_cons, r, ih]
      exact key eo
    refine wpAny_pure ⟨_, rfl, q _ s1.heap.objs.size out c _ (fun b u e => ?_) g1 o1 z1 gc eo2 ((List.mergeSort_perm _ _).trans p1) ?_⟩
    · have e2 := k1 b u e
      have lt := Heap.lt_size e2
      show (sortedHeap _ _ _ _).get? b = some u
      rw [sortedHeap_old (Nat.ne_of_lt lt) (by rw [size_push']; exact Nat.lt_succ_of_lt lt)]
      exact Heap.get?_push_of_some _ e2
    · have := List.pairwise_mergeSort (le := W.dataLe false fun b : D.κ × Value => D.dat b.1) (fun a b c => (W.sortLe_total _ _ _).trans a b c) (fun a b => (Bool.or_eq_true _ _).mpr ((W.sortLe_total _ _ _).total a b)) L1
      exact this.imp fun h => by simpa [W.dataLe_eq] using h
end
/-! ### ints and texts -/
def datK : Key → PyData
  | .inl i => .int i
  | .inr x => .str x
def rowK (w : World) (p : Key × Value) : Int × Value := (keyH w p.1, p.2)
structure SetKy (P : Program) (w : World) (h : Heap) (a : Addr) (L : List (Key × Value)) (es : Array (Int × Value)) (ep : Nat) (t : SetTable) : Prop where
  ob : ∃ o, h.get? a = some o ∧ o.ExactSet ∧ o.data = .set es ep t
  rw0 : es.toList = L.map (rowK w)
  nd : (L.map Prod.fst).Nodup
  el : ∀ p ∈ L, (mixKind P w).is p.1 p.2 = true
  ft : t.fits es.size = true
  rs : Ris t.place.toList
  ld : w.params.followText "set-order" = true ∨ t.led = true
  fw : L.length ≤ 3999
section
variable {P : Program} {w : World} {A : Around} {E : Value → Shared → Prop} {s : Shared} {a : Addr} {L : List (Key × Value)} {es : Array (Int × Value)} {ep : Nat} {t : SetTable}
theorem scan_ok {k : Key} {v : Value} (h : (mixKind P w).is k v = true) : v.scannable = true := by
  rcases keyIs_shape h with ⟨i, u, rfl, rfl⟩ | ⟨x, u, rfl, rfl⟩ <;> rfl
theorem elems_ok (el : ∀ p ∈ L, (mixKind P w).is p.1 p.2 = true) : ElemsOf (mixKind P w) (L.map (rowK w)) := fun e he => by
  obtain ⟨p, hp, rfl⟩ := List.mem_map.mp he
  exact ⟨⟨p.1, el p hp, rfl⟩, scan_ok (el p hp)⟩
/-- the state's writing, and the table laid anew where it is full -/
theorem scan_tail {g : Bool → Sem Unit} (hg : ∀ (b : Bool) (u : Shared) (Q : Unit → Shared → Prop), Q () u → wpAny (model P w) A (g b) Q E u) {o : Obj} (go : s.heap.get? a = some o) (ex : o.ExactSet) (da : o.data = .set es ep t)
    {L1 : List (Key × Value)} {es1 : Array (Int × Value)} {t1 : SetTable} (r1 : es1.toList = L1.map (rowK w)) (n1 : (L1.map Prod.fst).Nodup) (l1 : ∀ p ∈ L1, (mixKind P w).is p.1 p.2 = true) (f1 : t1.fits es1.size = true) (s1 : Ris t1.place.toList) (d1 : w.params.followText "set-order" = true ∨ t1.led = true) (w1 : L1.length ≤ 3999)
    {dummy : Bool} {R : Option Bool → Shared → Prop} (q : ∀ h' L' es' ep' t', Heap.SameBut a s.heap h' → SetKy P w h' a L' es' ep' t' → L'.Perm L1 → R (some true) { s with heap := h' }) :
    wpAny (model P w) A (do
      storeSet a es1 t1
      if (!dummy && t1.tooFull) = true then do
        g (relayAll t1 es1 (SetTable.grown es1.size)).2.2
        storeSet a (relayAll t1 es1 (SetTable.grown es1.size)).1 (relayAll t1 es1 (SetTable.grown es1.size)).2.1
        pure (some true)
      else pure (some true)) R E s := by
  have z1 : es1.size = L1.length := by rw [← Array.length_toList, r1, List.length_map]
  refine wpAny_bind (wpAny_storeSet_of go da ?_ (by rw [z1, sizeLine_eq]; omega))
  have go1 := store_at (es' := es1) (t' := t1) go da
  have sb1 := Heap.SameBut.update s.heap a (Obj.putSet es1 t1)
  split
  · have b1 := relayAll_perm t1 es1 (SetTable.grown es1.size)
    have b2 := relayAll_fits t1 es1 (SetTable.grown es1.size)
    have b3 := relayAll_ris t1 es1 (SetTable.grown es1.size)
    have b4 := relayAll_led t1 es1 (SetTable.grown es1.size)
    generalize relayAll t1 es1 (SetTable.grown es1.size) = Z at b1 b2 b3 b4 ⊢
    obtain ⟨es2, t2, gave⟩ := Z
    dsimp only at b1 b2 b3 b4 ⊢
    rw [r1] at b1
    obtain ⟨L2, c1, c2⟩ := perm_lift _ b1 L1 rfl
    have z2 : es2.size = L2.length := by rw [← Array.length_toList, c1, List.length_map]
    have w2 : L2.length ≤ 3999 := by rw [c2.length_eq]; exact w1
    refine wpAny_bind (hg _ _ _ ?_)
    refine wpAny_bind (wpAny_storeSet_of go1 rfl ?_ (by rw [z2, sizeLine_eq]; omega))
    exact wpAny_pure (q _ L2 es2 _ t2 (sb1.trans (Heap.SameBut.update _ a _)) ⟨⟨_, store_at (es' := es2) (t' := t2) go1 rfl, ex, rfl⟩, c1, (c2.map _).nodup_iff.mpr n1, fun p hp => l1 p (c2.mem_iff.mp hp), b2, b3, d1.imp id fun z => by rw [b4]; exact z, w2⟩ c2)
  · exact wpAny_pure (q _ L1 es1 _ t1 sb1 ⟨⟨_, go1, ex, rfl⟩, r1, n1, l1, f1, s1, d1, w1⟩ (.refl _))
theorem scan_add {k : Key} {v : Value} {Q : Bool → Shared → Prop} (S : SetKy P w s.heap a L es ep t) (hv : (mixKind P w).is k v = true) (lt : L.length < 3999)
    (q : ∀ b h' L' es' ep' t', Heap.SameBut a s.heap h' → SetKy P w h' a L' es' ep' t' → (k ∈ L.map Prod.fst → L' = L) → (k ∉ L.map Prod.fst → L'.Perm ((k, v) :: L)) → Q b { s with heap := h' }) :
    wpAny (model P w) A (setAddHashed a v ((mixKind P w).hash k)) Q E s := by
  obtain ⟨o, go, ex, da⟩ := S.ob
  have ee : ElemsOf (mixKind P w) es.toList := by rw [S.rw0]; exact elems_ok S.el
  have zz : es.size = L.length := by rw [← Array.length_toList, S.rw0, List.length_map]
  have sc := scan_ok hv
  have isIn : ∀ e ∈ es.toList, (mixKind P w).is k e.2 = true → k ∈ L.map Prod.fst := fun e he hk => by
    rw [S.rw0] at he
    obtain ⟨p, hp, rfl⟩ := List.mem_map.mp he
    rw [(mixKind P w).inj _ _ _ hk (S.el p hp)]
    exact List.mem_map.mpr ⟨p, hp, rfl⟩
  unfold setAddHashed setAddHashedIn
  refine wpAny_holding (wpAny_bind (wpAny_setState_of go da S.ft ?_))
  dsimp only
  rw [byScan_of sc (by unfold scanBound; omega) ee]
  simp only [↓reduceIte]
  unfold setAddByScan
  refine wpAny_bind (wpAny_bind (wpAny_rule (wpAny_bind (wpAny_setScan_of hv go da S.ft ee ?_))))
  cases hf : List.findIdx? (fun e => (mixKind P w).is k e.2) es.toList with
  | some j =>
    dsimp only
    obtain ⟨hj, pj, _⟩ := List.findIdx?_eq_some_iff_getElem.mp hf
    have hm := isIn _ (List.getElem_mem hj) pj
    exact wpAny_pure (wpAny_pure (q false s.heap L es ep t (Heap.SameBut.refl a s.heap) S (fun _ => rfl) fun z => absurd hm z))
  | none =>
    dsimp only
    have hm : k ∉ L.map Prod.fst := fun z => by
      obtain ⟨p, hp, e⟩ := List.mem_map.mp z
      have c := List.findIdx?_eq_none_iff.mp hf (rowK w p) (by rw [S.rw0]; exact List.mem_map.mpr ⟨p, hp, rfl⟩)
      have := S.el p hp
      rw [e] at this
      simp only [rowK] at c
      rw [this] at c
      cases c
    have gv : ∀ (b : Bool) (u : Shared) (Q' : Unit → Shared → Prop), Q' () u → wpAny (model P w) A (match b with | true => rule "set.scan.the-table-gave-way" | false => pure ()) Q' E u := fun b u Q' z => by
      cases b
      · exact wpAny_pure z
      · exact wpAny_rule z
    have b1 := layNew_perm t es ((mixKind P w).hash k) v
    have b2 := layNew_fits t es ((mixKind P w).hash k) v
    have b3 := layNew_ris t es ((mixKind P w).hash k) v S.rs
    have b4 := layNew_led t es ((mixKind P w).hash k) v
    generalize layNew t es ((mixKind P w).hash k) v = Z at b1 b2 b3 b4 ⊢
    obtain ⟨es1, t1, dummy, gave⟩ := Z
    dsimp only at b1 b2 b3 b4 ⊢
    rw [Array.toList_push, S.rw0] at b1
    obtain ⟨L1, c1, c2⟩ := perm_lift (rowK w) b1 (L ++ [(k, v)]) (by rw [List.map_append]; rfl)
    have c3 : L1.Perm ((k, v) :: L) := c2.trans (List.perm_append_singleton _ _)
    have n1 : (L1.map Prod.fst).Nodup := (c3.map _).nodup_iff.mpr (List.nodup_cons.mpr ⟨hm, S.nd⟩)
    have l1 : ∀ p ∈ L1, (mixKind P w).is p.1 p.2 = true := fun p hp => by
      rcases List.mem_cons.mp (c3.mem_iff.mp hp) with z | z
      · subst z; exact hv
      · exact S.el p z
    have w1 : L1.length ≤ 3999 := by rw [c3.length_eq, List.length_cons]; omega
    have d1 : w.params.followText "set-order" = true ∨ t1.led = true := S.ld.imp id fun z => by rw [b4]; exact z
    have fin : ∀ h' L' es' ep' t', Heap.SameBut a s.heap h' → SetKy P w h' a L' es' ep' t' → L'.Perm L1 → Q true { s with heap := h' } := fun h' L' es' ep' t' sb S' pm => q true h' L' es' ep' t' sb S' (fun z => absurd z hm) fun _ => pm.trans c3
    refine wpAny_bind (gv _ _ _ ?_)
    split
    · refine wpAny_bind ?_
      rw [hashByValue_scannable 8 sc]
      refine wpAny_pure (scan_tail gv go ex da c1 n1 l1 ?_ ?_ ?_ w1 fun h' L' es' ep' t' sb S' pm => ?_)
      · split
        · exact b2
        · exact SetTable.fits_plain_off b2
      · split <;> exact b3
      · split <;> exact d1
      · dsimp only
        exact wpAny_pure (fin _ _ _ _ _ sb S' pm)
    · refine wpAny_bind (wpAny_pure ?_)
      simp only [↓reduceIte]
      refine scan_tail gv go ex da c1 n1 l1 b2 b3 d1 w1 fun h' L' es' ep' t' sb S' pm => ?_
      dsimp only
      exact wpAny_pure (fin _ _ _ _ _ sb S' pm)
end
theorem key_reads {P : Program} {w : World} {h : Heap} {k : Key} {v : Value} (e : (mixKind P w).is k v = true) : Reads h v (datK k) [] := by
  rcases keyIs_shape e with ⟨i, u, rfl, rfl⟩ | ⟨x, u, rfl, rfl⟩
  · exact .int i u
  · exact .str x u
def ekKey (P : Program) (w : World) : Ekd P w where
  κ := Key
  dec := inferInstance
  is := fun _ k v => (mixKind P w).is k v = true
  hash := (mixKind P w).hash
  dat := datK
  most := 3999
  bound := by decide
  ok := SetKy P w
  ob := SetKy.ob
  row := fun S => by
    rw [S.rw0, List.map_map]; rfl
  nd := SetKy.nd
  el := SetKy.el
  fits := SetKy.ft
  ris := SetKy.rs
  led := SetKy.ld
  few := SetKy.fw
  hold := fun S k _ => by
    obtain ⟨o, go, r⟩ := S.ob
    exact ⟨⟨o, k o go, r⟩, S.rw0, S.nd, S.el, S.ft, S.rs, S.ld, S.fw⟩
  keep := fun e _ => e
  reads := key_reads
  fresh := fun g => ⟨⟨_, g, ⟨rfl, rfl, rfl⟩, rfl⟩, rfl, List.nodup_nil, nofun, rfl, List.Pairwise.nil, by
    show _ ∨ (!w.params.followText "set-order") = true
    cases w.params.followText "set-order"
    · exact .inr rfl
    · exact .inl rfl, Nat.zero_le _⟩
  hashed := fun _ e q => (mixKind P w).pyHash e (q _ (Nat.le_succ _))
  add := fun _ S e lt q => scan_add S e lt q
end U
set_option Elab.async false
set_option linter.all false
set_option maxRecDepth 100000
set_option maxHeartbeats 4000000
namespace U
open PySem PySem.Spec L2 PyProof.Rows
/-! ### tuples of ints and texts as elements -/
abbrev hT (P : Program) (w : World) (k : List Key) : Int := tupleKeyHash (mixKind P w) k
def IsTu (P : Program) (w : World) (h : Heap) (k : List Key) (v : Value) : Prop := ∃ b, v = .ref b ∧ IsTupleKey (mixKind P w) h k b
section
variable {P : Program} {w : World} {A : Around} {E : Value → Shared → Prop} {s : Shared} {k : List Key} {v : Value} {b : Addr}
theorem IsTu.keep {h h' : Heap} (x : IsTu P w h k v) (q : ∀ c o, h.get? c = some o → h'.get? c = some o) : IsTu P w h' k v := by
  obtain ⟨b, e, o, its, n, go, r⟩ := x
  exact ⟨b, e, o, its, n, q b o go, r⟩
theorem parts_ok {vs : List Value} (h : ItemsAre (mixKind P w) k vs) : ∀ v ∈ vs, (∃ i t, v = Value.int i t) ∨ ∃ x t, v = Value.str x t := by
  induction h with
  | nil => nofun
  | cons e _ ih =>
    intro v hv
    rcases List.mem_cons.mp hv with z | z
    · subst z
      rcases keyIs_shape e with ⟨i, u, _, rfl⟩ | ⟨x, u, _, rfl⟩
      · exact .inl ⟨i, u, rfl⟩
      · exact .inr ⟨x, u, rfl⟩
    · exact ih v z
/-- such a tuple is of no class of the program's own -/
theorem tu_class {Q : Bool → Shared → Prop} (x : IsTupleKey (mixKind P w) s.heap k b) (q : Q false s) : wpAny (model P w) A (ofAClassStatement 8 (.ref b)) Q E s := by
  have ty := x.typeIs
  obtain ⟨o, its, n, go, _, da, ia⟩ := x
  unfold ofAClassStatement
  refine wpAny_bind (wpAny_typeOf ty ?_)
  dsimp only
  have e1 : (("tuple" : String) == "tuple") = true := by decide
  simp only [e1, if_true, Bool.not_true, Bool.false_eq_true, if_false]
  try refine wpAny_bind (wpAny_pure ?_)
  try simp only [Bool.not_true, Bool.false_eq_true, if_false]
  show wpAny _ _ (seqItems? (.ref b) >>= _) _ _ s
  refine wpAny_bind (wpAny_seqItems go da ?_)
  dsimp only
  refine wpAny_bind ?_
  show wpAny _ _ (forIn its _ _) _ _ s
  rw [← Array.forIn_toList]
  refine wpAny_forIn_list _ (fun l r u => r.1 = none ∧ u = s ∧ ∀ y ∈ l, (∃ i t, y = Value.int i t) ∨ ∃ x t, y = Value.str x t) _ ?_ ?_ _ _ ⟨rfl, rfl, parts_ok ia⟩
  · rintro y l r u ⟨hr, rfl, all⟩
    have e2 : ofAClassStatement 7 y = pure false := by
      rcases all y List.mem_cons_self with ⟨i, t, rfl⟩ | ⟨z, t, rfl⟩ <;> rfl
    rw [e2]
    refine wpAny_bind (wpAny_pure ?_)
    simp only [Bool.false_eq_true, if_false]
    exact wpAny_pure ⟨rfl, rfl, fun c hc => all c (List.mem_cons_of_mem _ hc)⟩
  · rintro ⟨r1, r2⟩ u ⟨hr, rfl, _⟩
    simp only at hr
    subst hr
    exact wpAny_pure q
/-- whether its hash is one by value: either way -/
theorem tu_byval {Q : Bool → Shared → Prop} (x : IsTupleKey (mixKind P w) s.heap k b) (q : ∀ c, Q c s) : wpAny (model P w) A (hashByValue 8 (.ref b)) Q E s := by
  have ty := x.typeIs
  obtain ⟨o, its, n, go, _, da, ia⟩ := x
  unfold hashByValue
  refine wpAny_bind (wpAny_specialOf ty F.slot_tuple_hash.lookup ?_)
  show wpAny _ _ (seqItems? (.ref b) >>= _) _ _ s
  refine wpAny_bind (wpAny_seqItems go da ?_)
  refine wpAny_bind ?_
  show wpAny _ _ (forIn its _ _) _ _ s
  rw [← Array.forIn_toList]
  refine wpAny_forIn_list _ (fun l r u => u = s ∧ (∀ c, r.1 = some c → True) ∧ ∀ y ∈ l, (∃ i t, y = Value.int i t) ∨ ∃ x t, y = Value.str x t) _ ?_ ?_ _ _ ⟨rfl, fun _ _ => trivial, parts_ok ia⟩
  · rintro y l r u ⟨rfl, _, all⟩
    rcases all y List.mem_cons_self with ⟨i, t, rfl⟩ | ⟨z, t, rfl⟩
    · have e2 : hashByValue 7 (.int i t) = pure true := rfl
      rw [e2]
      refine wpAny_bind (wpAny_pure ?_)
      simp only [Bool.not_true, Bool.false_eq_true, if_false]
      exact wpAny_pure ⟨rfl, fun _ _ => trivial, fun c hc => all c (List.mem_cons_of_mem _ hc)⟩
    · have e2 : hashByValue 7 (.str z t) = pure false := rfl
      rw [e2]
      refine wpAny_bind (wpAny_pure ?_)
      simp only [Bool.not_false, if_true]
      exact wpAny_pure (wpAny_pure (q false))
  · rintro ⟨r1, r2⟩ u ⟨rfl, _, _⟩
    cases r1 with
    | none => exact wpAny_pure (q true)
    | some c => exact wpAny_pure (q c)
theorem tu_seen {Q : Bool → Shared → Prop} (x : IsTupleKey (mixKind P w) s.heap k b) {ys : List Value} (hy : ∀ y ∈ ys, ∃ k', IsTu P w s.heap k' y) (q : Q false s) : wpAny (model P w) A (searchCouldBeSeen (.ref b) ys) Q E s := by
  unfold searchCouldBeSeen
  refine wpAny_bind ?_
  refine wpAny_forIn_list _ (fun l r u => r.1 = none ∧ u = s ∧ ∀ y ∈ l, ∃ k', IsTu P w s.heap k' y) _ ?_ ?_ _ _ ⟨rfl, rfl, hy⟩
  · rintro y l r u ⟨hr, rfl, all⟩
    obtain ⟨k', c, rfl, hc⟩ := all y List.mem_cons_self
    have all' : ∀ y ∈ l, ∃ k', IsTu P w u.heap k' y := fun z hz => all z (List.mem_cons_of_mem _ hz)
    dsimp only
    by_cases hv : (b == c || (carriedByValue (.ref b) && carriedByValue (.ref c))) = true
    · exact wp_if_pos hv (wpAny_pure ⟨rfl, rfl, all'⟩)
    · refine wp_if_neg hv ?_
      refine wpAny_bind (wpAny_eqIsQuiet_tuple x ?_)
      simp only [Bool.not_true, Bool.false_eq_true, if_false]
      refine wpAny_bind (wpAny_eqIsQuiet_tuple hc ?_)
      simp only [Bool.not_true, Bool.false_eq_true, if_false]
      refine wpAny_bind (tu_class x ?_)
      simp only [Bool.false_eq_true, if_false]
      refine wpAny_bind (tu_class hc ?_)
      simp only [Bool.false_eq_true, if_false]
      exact wpAny_pure ⟨rfl, rfl, all'⟩
  · rintro ⟨r1, r2⟩ u ⟨hr, rfl, _⟩
    simp only at hr
    subst hr
    exact wpAny_pure q
end
def rowT (P : Program) (w : World) (p : List Key × Value) : Int × Value := (hT P w p.1, p.2)
structure SetTu (P : Program) (w : World) (h : Heap) (a : Addr) (L : List (List Key × Value)) (es : Array (Int × Value)) (ep : Nat) (t : SetTable) : Prop where
  ob : ∃ o, h.get? a = some o ∧ o.ExactSet ∧ o.data = .set es ep t
  rw0 : es.toList = L.map (rowT P w)
  tab : TabOk t (L.map fun p => hT P w p.1)
  nd : (L.map Prod.fst).Nodup
  el : ∀ p ∈ L, IsTu P w h p.1 p.2
  ld : w.params.followText "set-order" = true ∨ t.led = true
  rm : L.length * 5 < t.mask * 3
  fw : L.length ≤ 63
section
variable {P : Program} {w : World} {A : Around} {E : Value → Shared → Prop} {s : Shared} {a : Addr} {L : List (List Key × Value)} {es : Array (Int × Value)} {ep : Nat} {t : SetTable}
theorem rows_size {L : List (List Key × Value)} (e : es.toList = L.map (rowT P w)) : es.size = L.length := by rw [← Array.length_toList, e, List.length_map]
theorem tab_fits (tb : TabOk t (L.map fun p => hT P w p.1)) (e : es.toList = L.map (rowT P w)) (hm : L.length ≤ t.mask) : t.fits es.size = true := by
  have h1 := tb.sz
  rw [List.length_map] at h1
  unfold SetTable.fits SetTable.fill
  rw [tb.dm, Bool.and_eq_true, beq_iff_eq, decide_eq_true_eq, rows_size e]
  exact ⟨h1, by show t.place.size + 0 ≤ t.mask; omega⟩
theorem SetTu.ft (S : SetTu P w s.heap a L es ep t) : t.fits es.size = true := tab_fits S.tab S.rw0 (by have := S.rm; omega)
theorem SetTu.at' (S : SetTu P w s.heap a L es ep t) {i : Nat} {p : List Key × Value} (h : L[i]? = some p) : es[i]? = some (hT P w p.1, p.2) := by
  rw [← Array.getElem?_toList, S.rw0, List.getElem?_map, h]; rfl
abbrev st0 (t : SetTable) (h : Int) : SetTable.Probe := runAt t.mask (SetTable.bits h % (t.mask + 1)) (SetTable.bits h)
theorem nodummy (m : Nat) : ∀ (n : Nat) (p : SetTable.Probe), p.dummy = none → (nth m p n).dummy = none
  | 0, _, h => h
  | n + 1, p, h => nodummy m n (adv m p) (by unfold adv; split <;> exact h)
/-- the search goes on from the c-th step -/
theorem tu_from (S : SetTu P w s.heap a L es ep t) {b : Addr} {k : List Key} (x : IsTupleKey (mixKind P w) s.heap k b) (hu : A.units < cLine) {N : Nat} (hN : N < 10 * SetTable.turns t.mask) (nf : way t.mask (hT P w k) N ∉ t.place.toList)
    (nb : ∀ c, c < N → way t.mask (hT P w k) c ∈ t.place.toList) {Q : SetFound → Shared → Prop} (q1 : k ∈ L.map Prod.fst → Q (.there none) s) (q2 : k ∉ L.map Prod.fst → Q (.free (way t.mask (hT P w k) N) false) s) :
    ∀ (f c : Nat) (at0 : Option SetTable.Probe), at0.getD (t.probeStart (hT P w k)) = nth t.mask (st0 t (hT P w k)) c → c ≤ N → N - c < f →
      (∀ (i : Nat) p, L[i]? = some p → p.1 = k → ∃ d, c ≤ d ∧ d < N ∧ t.place.toList[i]? = some (way t.mask (hT P w k) d)) → wpAny (model P w) A (setSearchFrom a (.ref b) (hT P w k) true f at0) Q E s := by
  intro f
  induction f with
  | zero => intro c _ _ _ hf _; omega
  | succ f ih =>
    intro c at0 ea hc hf hr
    obtain ⟨o, go, ex, da⟩ := S.ob
    rw [setSearchFrom_succ]
    refine wpAny_bind (wpAny_setState_of go da S.ft ?_)
    dsimp only
    refine wp_if_neg (by unfold SetTable.gaveWay; rw [mask_odd S.tab.mok]; decide) ?_
    try refine wpAny_bind (wpAny_pure ?_)
    have sh : ∀ n, nth t.mask (nth t.mask (st0 t (hT P w k)) c) n = nth t.mask (st0 t (hT P w k)) (c + n) := fun n => (nth_add t.mask c _ n).symm
    have wy : ∀ n, (nth t.mask (nth t.mask (st0 t (hT P w k)) c) n).j = way t.mask (hT P w k) (c + n) := fun n => congrArg SetTable.Probe.j (sh n)
    have hs : ∀ (i : Nat) p, L[i]? = some p → (es[i]?.map (·.1)).getD 0 = hT P w p.1 := fun i p hp => by rw [S.at' hp]; rfl
    rcases go_spec t S.tab.ris S.tab.dm (fun i => (es[i]?.map (·.1)).getD 0) (hT P w k) (10 * SetTable.turns t.mask) (N - c) (nth t.mask (st0 t (hT P w k)) c) (nodummy _ _ _ rfl) (by omega)
      (fun n hn => by rw [wy]; exact nb _ (by omega)) (by rw [wy, Nat.add_sub_cancel' hc]; exact nf) with ⟨n, i, hn, hi, hh, hno, pr⟩ | ⟨hno, pr⟩
    · have pr1 : t.probe (fun i => (es[i]?.map (·.1)).getD 0) (hT P w k) (at0.getD (t.probeStart (hT P w k))) = some (.candidate (way t.mask (hT P w k) (c + n)) i (nth t.mask (st0 t (hT P w k)) (c + (n + 1)))) := by
        rw [ea, ← wy, ← sh]; exact pr
      rw [pr1]
      dsimp only
      rw [wy] at hi
      have li : i < L.length := by
        have h1 := (List.getElem?_eq_some_iff.mp hi).1
        have h2 := S.tab.sz
        rw [List.length_map] at h2
        rw [Array.length_toList] at h1
        omega
      obtain ⟨p, hp⟩ : ∃ p, L[i]? = some p := ⟨_, List.getElem?_eq_getElem li⟩
      have mp : p ∈ L := List.mem_of_getElem? hp
      obtain ⟨pb, pe, px⟩ := S.el p mp
      have go2 : wpAny (model P w) A (searchRest a (.ref b) (hT P w k) true f es t (way t.mask (hT P w k) (c + n)) i (nth t.mask (st0 t (hT P w k)) (c + (n + 1)))) Q E s := by
        unfold searchRest
        rw [S.at' hp, pe]
        dsimp only
        refine wpAny_bind (wpAny_holding (wpAny_eqBool_tuple hu px x ?_))
        refine wpAny_bind (wpAny_setState_of go da S.ft ?_)
        dsimp only
        by_cases e : p.1 = k
        · refine wp_if_pos (by rw [decide_eq_true e]; rfl) ?_
          exact wpAny_pure (q1 (List.mem_map.mpr ⟨p, mp, e⟩))
        · refine wp_if_neg (by rw [decide_eq_false e]; decide) ?_
          try refine wpAny_bind (wpAny_pure ?_)
          rw [sameMem]
          dsimp only
          have sl := slot_live S.tab.ris hi
          simp only [if_true, sl, S.at' hp, pe]
          refine wpAny_bind (wpAny_isSame_ref_self (wpAny_bind (wpAny_pure ?_)))
          simp only [if_true]
          refine wp_if_neg (by rw [decide_eq_false e]; exact Bool.false_ne_true) ?_
          refine ih (c + (n + 1)) _ rfl (by omega) (by omega) fun i0 p0 h0 e0 => ?_
          obtain ⟨d, d1, d2, d3⟩ := hr i0 p0 h0 e0
          refine ⟨d, ?_, d2, d3⟩
          have c1 : ¬ d < c + n := fun z => by
            refine hno (d - c) i0 (by omega) (by rw [wy, Nat.add_sub_cancel' d1]; exact d3) ?_
            show (es[i0]?.map (·.1)).getD 0 = _
            rw [hs i0 p0 h0, e0]
          have c2 : d ≠ c + n := fun z => by
            subst z
            have s2 := slot_live S.tab.ris d3
            rw [sl] at s2
            have e9 : i = i0 := by injection s2
            subst e9
            rw [hp] at h0
            exact e (by rw [Option.some.inj h0]; exact e0)
          omega
      by_cases hl : t.led = true
      · refine wp_if_neg (by rw [hl]; decide) ?_
        try refine wpAny_bind (wpAny_pure ?_)
        exact go2
      · refine wp_if_pos (by simpa using hl) ?_
        refine wpAny_bind (tu_seen x (fun y hy => ?_) ?_)
        · obtain ⟨e, he, rfl⟩ := List.mem_map.mp hy
          have h1 : e ∈ es ∧ e.1 = hT P w k := by simpa using he
          have h2 : e ∈ es.toList := by simpa using h1.1
          rw [S.rw0] at h2
          obtain ⟨p2, hp2, rfl⟩ := List.mem_map.mp h2
          exact ⟨p2.1, S.el p2 hp2⟩
        · refine wp_if_neg (by decide) ?_
          try refine wpAny_bind (wpAny_pure ?_)
          exact go2
    · have pr1 : t.probe (fun i => (es[i]?.map (·.1)).getD 0) (hT P w k) (at0.getD (t.probeStart (hT P w k))) = some (.empty (way t.mask (hT P w k) N) none) := by
        have e2 : way t.mask (hT P w k) N = (nth t.mask (nth t.mask (st0 t (hT P w k)) c) (N - c)).j := by rw [wy, Nat.add_sub_cancel' hc]
        rw [ea, e2]; exact pr
      rw [pr1]
      dsimp only
      refine wpAny_pure (q2 fun hm => ?_)
      obtain ⟨p0, m0, e0⟩ := List.mem_map.mp hm
      obtain ⟨i0, h0⟩ := List.getElem?_of_mem m0
      obtain ⟨d, d1, d2, d3⟩ := hr i0 p0 h0 e0
      refine hno (d - c) i0 (by omega) (by rw [wy, Nat.add_sub_cancel' d1]; exact d3) ?_
      show (es[i0]?.map (·.1)).getD 0 = _
      rw [hs i0 p0 h0, e0]
theorem tu_search (S : SetTu P w s.heap a L es ep t) {b : Addr} {k : List Key} (x : IsTupleKey (mixKind P w) s.heap k b) (hu : A.units < cLine) {Q : SetFound → Shared → Prop} (q1 : k ∈ L.map Prod.fst → Q (.there none) s)
    (q2 : ∀ N, k ∉ L.map Prod.fst → way t.mask (hT P w k) N ∉ t.place.toList → (∀ c, c < N → way t.mask (hT P w k) c ∈ t.place.toList) → Q (.free (way t.mask (hT P w k) N) false) s) :
    wpAny (model P w) A (setSearch a (.ref b) (hT P w k) true) Q E s := by
  have rm := S.rm
  obtain ⟨N, hN, nf, nb⟩ := S.tab.first (by rw [List.length_map]; omega) (hT P w k)
  have big : N < 100000 := by
    have : 10 * SetTable.turns t.mask ≤ 1420 := by
      unfold SetTable.turns
      rcases S.tab.mok with e | e | e <;> omega
    omega
  unfold setSearch
  refine tu_from S x hu hN nf nb q1 (fun z => q2 N z nf nb) 100000 0 none rfl (Nat.zero_le _) (by omega) fun i p hp e => ?_
  have h1 : (L.map fun p => hT P w p.1)[i]? = some (hT P w k) := by rw [List.getElem?_map, hp, ← e]; rfl
  have h2 : i < t.place.toList.length := by
    have := (List.getElem?_eq_some_iff.mp hp).1
    have h3 := S.tab.sz
    rw [List.length_map] at h3
    rw [Array.length_toList]; omega
  obtain ⟨d, d1, d2⟩ := S.tab.before nf h1 (List.getElem?_eq_getElem h2)
  exact ⟨d, Nat.zero_le _, d1, by rw [d2]; exact List.getElem?_eq_getElem h2⟩
theorem tu_same {h h' : Heap} {k : List Key} {v : Value} {o : Obj} (x : IsTu P w h k v) (go : h.get? a = some o) (da : o.data = .set es ep t) (sb : Heap.SameBut a h h') : IsTu P w h' k v := by
  obtain ⟨b, e, o', its, n, go', cl, dt, ia⟩ := x
  have ne : b ≠ a := fun z => by
    subst z
    rw [go] at go'
    cases go'
    rw [da] at dt
    cases dt
  exact ⟨b, e, o', its, n, (sb.2 b ne).trans go', cl, dt, ia⟩
theorem order_ok {L : List (List Key × Value)} {es : Array (Int × Value)} {order : Array Nat} (e : es.toList = L.map (rowT P w)) (pm : order.toList.Perm (List.range L.length)) :
    ∃ L2 : List (List Key × Value), (order.filterMap (es[·]?)).toList = L2.map (rowT P w) ∧ L2.Perm L ∧ (L2.map fun p => hT P w p.1) = order.toList.map fun i => (es.map (·.1)).getD i 0 := by
  have zz := rows_size e
  have at0 : ∀ i, (h : i < L.length) → es[i]? = some (rowT P w L[i]) := fun i h => by
    rw [← Array.getElem?_toList, e, List.getElem?_map, List.getElem?_eq_getElem h]; rfl
  refine ⟨order.toList.filterMap fun i => L[i]?, ?_, ?_, ?_⟩
  · rw [Array.toList_filterMap]
    have : ∀ l : List Nat, (∀ i ∈ l, i < L.length) → l.filterMap (fun i => es[i]?) = (l.filterMap fun i => L[i]?).map (rowT P w) := fun l => by
      induction l with
      | nil => intro _; rfl
      | cons i l ih =>
        intro h
        have hi := h i List.mem_cons_self
        rw [List.filterMap_cons_some (at0 i hi), List.filterMap_cons_some (List.getElem?_eq_getElem hi), List.map_cons, ih fun j hj => h j (List.mem_cons_of_mem _ hj)]
    exact this _ fun i hi => List.mem_range.mp (pm.mem_iff.mp hi)
  · have h1 := pm.filterMap fun i => L[i]?
    have h2 : ∀ n, n ≤ L.length → (List.range n).filterMap (fun i => L[i]?) = L.take n := fun n => by
      induction n with
      | zero => intro _; rfl
      | succ n ih =>
        intro h
        rw [List.range_succ, List.filterMap_append, ih (Nat.le_of_lt h), List.take_succ, List.getElem?_eq_getElem h, List.filterMap_cons_some (List.getElem?_eq_getElem h)]; rfl
    rw [h2 _ (Nat.le_refl _), List.take_length] at h1
    exact h1
  · have : ∀ l : List Nat, (∀ i ∈ l, i < L.length) → ((l.filterMap fun i => L[i]?).map fun p => hT P w p.1) = l.map fun i => (es.map (·.1)).getD i 0 := fun l => by
      induction l with
      | nil => intro _; rfl
      | cons i l ih =>
        intro h
        have hi := h i List.mem_cons_self
        have e5 : (es.map (·.1))[i]? = some (hT P w L[i].1) := by rw [Array.getElem?_map, at0 i hi]; rfl
        rw [List.filterMap_cons_some (List.getElem?_eq_getElem hi), List.map_cons, List.map_cons, ih fun j hj => h j (List.mem_cons_of_mem _ hj)]
        congr 1
        simp [Array.getD_eq_getD_getElem?, e5]
    exact this _ fun i hi => List.mem_range.mp (pm.mem_iff.mp hi)
/-- a larger table -/
theorem tu_relay {o : Obj} (go : s.heap.get? a = some o) (ex : o.ExactSet) (da : o.data = .set es ep t) (r : es.toList = L.map (rowT P w)) (pz : t.place.size = es.size) (dm : t.dummies = #[]) (hm : es.size ≤ t.mask) (nd : (L.map Prod.fst).Nodup)
    (el : ∀ p ∈ L, IsTu P w s.heap p.1 p.2) (ld : w.params.followText "set-order" = true ∨ t.led = true) (fw : L.length ≤ 63) {wanted M : Nat} (eM : SetTable.sizeAbove wanted - 1 = M) (okM : MaskOk M) (leM : SetTable.sizeAbove wanted ≤ 128) (rm : L.length * 5 < M * 3) {Q : Unit → Shared → Prop}
    (q : ∀ h' L' es' ep' t', Heap.SameBut a s.heap h' → SetTu P w h' a L' es' ep' t' → L'.Perm L → Q () { s with heap := h' }) : wpAny (model P w) A (setRelay a wanted) Q E s := by
  have zz := rows_size r
  have ft : t.fits es.size = true := by
    unfold SetTable.fits SetTable.fill
    rw [dm, Bool.and_eq_true, beq_iff_eq, decide_eq_true_eq]
    exact ⟨pz, by show t.place.size + 0 ≤ t.mask; omega⟩
  obtain ⟨t1, order, e1, pm, tb, e2, e3, _, _⟩ := relaid_ok t (hs := es.map (·.1)) (wanted := wanted) eM okM (by rw [Array.size_map, zz]; omega)
  rw [Array.size_map, zz] at pm
  obtain ⟨L2, c1, c2, c3⟩ := order_ok r pm
  rw [← c3] at tb
  have z2 : (order.filterMap (es[·]?)).size = es.size := by rw [rows_size c1, c2.length_eq, zz]
  rw [setRelay_eq]
  refine wpAny_bind (wpAny_setState_of go da ft ?_)
  dsimp only
  refine wp_if_neg (by rw [sizeLine_eq]; omega) ?_
  try refine wpAny_bind (wpAny_pure ?_)
  rw [e1]
  dsimp only
  refine wpAny_bind (wp_if_neg (by rw [z2]; simp) ?_)
  try refine wpAny_bind (wpAny_pure ?_)
  refine wpAny_pure ?_
  dsimp only
  refine wpAny_storeSet_of go da ?_ (by rw [z2, zz, sizeLine_eq]; omega)
  have sb : Heap.SameBut a s.heap (s.heap.update a (Obj.putSet (order.filterMap (es[·]?)) t1)) := Heap.SameBut.update ..
  exact q _ L2 _ (ep + 1) t1 sb ⟨⟨_, store_at go da, ex, rfl⟩, c1, tb, (c2.map _).nodup_iff.mpr nd, fun p hp => tu_same (el p (c2.mem_iff.mp hp)) go da sb, by rw [e3]; exact ld, by rw [c2.length_eq, e2]; exact rm, by rw [c2.length_eq]; exact fw⟩ c2
theorem tu_add {v : Value} {k : List Key} {Q : Bool → Shared → Prop} (S : SetTu P w s.heap a L es ep t) (x : IsTu P w s.heap k v) (hu : A.units < cLine) (lt : L.length < 63)
    (q : ∀ b h' L' es' ep' t', Heap.SameBut a s.heap h' → SetTu P w h' a L' es' ep' t' → (k ∈ L.map Prod.fst → L' = L) → (k ∉ L.map Prod.fst → L'.Perm ((k, v) :: L)) → Q b { s with heap := h' }) :
    wpAny (model P w) A (setAddHashed a v (hT P w k)) Q E s := by
  have x0 := x
  obtain ⟨b, rfl, xb⟩ := x
  obtain ⟨o, go, ex, da⟩ := S.ob
  have zz := rows_size S.rw0
  have rm := S.rm
  unfold setAddHashed
  refine wpAny_holding ?_
  rw [show (100000 : Nat) = 99999 + 1 from rfl, setAddHashedIn_succ]
  refine wpAny_bind (wpAny_setState_of go da S.ft ?_)
  dsimp only
  refine wp_if_neg (by simp [byScan, Value.scannable]) ?_
  try refine wpAny_bind (wpAny_pure ?_)
  refine wpAny_bind (tu_search S xb hu (fun hm => ?_) fun N hm nf nb => ?_)
  · dsimp only
    exact wpAny_pure (q false s.heap L es ep t (Heap.SameBut.refl a s.heap) S (fun _ => rfl) fun z => absurd hm z)
  · dsimp only
    refine wpAny_bind (wpAny_setState_of go da S.ft ?_)
    dsimp only
    obtain ⟨b1, b2, b3, b4, b5, b6, b7, b8, b9⟩ := S.tab.put nf nb
    generalize t.put (way t.mask (hT P w k) N) = pt at b1 b3 b4 b5 b6 b7 b8 b9 ⊢
    obtain ⟨t1, j⟩ := pt
    dsimp only at b1 b3 b4 b5 b6 b7 b8 b9 ⊢
    subst b1
    generalize SetTable.below t.place (way t.mask (hT P w k) N) = j at b2 b3 ⊢
    -- the rows with the new one
    have r1 : (SetTable.insertAt es j (hT P w k, Value.ref b)).toList = (L.take j ++ (k, Value.ref b) :: L.drop j).map (rowT P w) := by
      rw [SetTable.toList_insertAt, S.rw0, List.map_append, List.map_cons, List.map_take, List.map_drop]; rfl
    have pm : (L.take j ++ (k, Value.ref b) :: L.drop j).Perm ((k, Value.ref b) :: L) := by
      have := List.perm_middle (a := (k, Value.ref b)) (l₁ := L.take j) (l₂ := L.drop j)
      rw [List.take_append_drop] at this
      exact this
    have eh : (L.take j ++ (k, Value.ref b) :: L.drop j).map (fun p => hT P w p.1) = (L.map fun p => hT P w p.1).take j ++ hT P w k :: (L.map fun p => hT P w p.1).drop j := by
      rw [List.map_append, List.map_cons, List.map_take, List.map_drop]
    rw [← eh] at b3
    generalize L.take j ++ (k, Value.ref b) :: L.drop j = L1 at r1 pm b3
    generalize SetTable.insertAt es j (hT P w k, Value.ref b) = es1 at r1 ⊢
    have l1 : L1.length = L.length + 1 := pm.length_eq
    have n1 : (L1.map Prod.fst).Nodup := (pm.map _).nodup_iff.mpr (List.nodup_cons.mpr ⟨hm, S.nd⟩)
    have z1 := rows_size r1
    -- the state behind the writing, for a table that differs in no more than plain
    have last : ∀ t2 : SetTable, t2.place = t1.place → t2.dummies = t1.dummies → t2.mask = t1.mask → t2.led = t1.led → TabOk t2 (L1.map fun p => hT P w p.1) → t2.tooFull = t1.tooFull → wpAny (model P w) A (do
        storeSet a es1 t2
        if (!false && t2.tooFull) = true then setRelay a (SetTable.grown (es.size + 1))
        return true) Q E s := by
      intro t2 p1 p2 p3 p4 tb p5
      refine wpAny_bind (wpAny_storeSet_of go da ?_ (by rw [z1, l1, sizeLine_eq]; omega))
      have sb : Heap.SameBut a s.heap (s.heap.update a (Obj.putSet es1 t2)) := Heap.SameBut.update ..
      have go1 := store_at (es' := es1) (t' := t2) go da
      generalize s.heap.update a (Obj.putSet es1 t2) = g1 at sb go1 ⊢
      have el1 : ∀ p ∈ L1, IsTu P w g1 p.1 p.2 := fun p hp => by
        rcases List.mem_cons.mp (pm.mem_iff.mp hp) with e | e
        · subst e; exact tu_same x0 go da sb
        · exact tu_same (S.el p e) go da sb
      have d1 : w.params.followText "set-order" = true ∨ t2.led = true := by rw [p4, b5]; exact S.ld
      have tf : t2.tooFull = decide (t2.fill * 5 ≥ t2.mask * 3) := rfl
      have fl : t1.fill = L.length + 1 := by rw [b9, List.length_map]
      have fl2 : t2.fill = L.length + 1 := by rw [← fl]; unfold SetTable.fill; rw [p1, p2]
      rw [fl2, p3, b4] at tf
      by_cases hf : t2.tooFull = true
      · first
          | (refine wpAny_bind ?_; refine wp_if_pos (by rw [hf]; rfl) ?_)
          | (refine wp_if_pos (by rw [hf]; rfl) ?_; refine wpAny_bind ?_)
        rw [hf] at tf
        have full := of_decide_eq_true tf.symm
        rw [zz]
        have two : (t.mask = 7 ∧ L.length = 4) ∨ (t.mask = 31 ∧ L.length = 18) := by
          rcases S.tab.mok with e | e | e
          · rw [e] at full rm; exact .inl ⟨e, by omega⟩
          · rw [e] at full rm; exact .inr ⟨e, by omega⟩
          · rw [e] at full; omega
        have go2 : ∀ M, SetTable.sizeAbove (SetTable.grown (L.length + 1)) - 1 = M → MaskOk M → SetTable.sizeAbove (SetTable.grown (L.length + 1)) ≤ 128 → (L.length + 1) * 5 < M * 3 →
            wpAny (model P w) A (setRelay a (SetTable.grown (L.length + 1))) (fun _ u => wpAny (model P w) A (pure true) Q E u) E { s with heap := g1 } := fun M m1 m2 m3 m4 =>
          tu_relay (s := { s with heap := g1 }) go1 ex rfl r1 (by have := tb.sz; rw [List.length_map] at this; rw [z1]; exact this) tb.dm (by rw [z1, l1, p3, b4]; omega) n1 el1 d1 (by omega) m1 m2 m3 (by rw [l1]; exact m4)
            fun g2 L2 es2 ep2 t3 sb2 S2 pm2 => wpAny_pure (q true g2 L2 es2 ep2 t3 (sb.trans sb2) S2 (fun z => absurd z hm) fun _ => pm2.trans pm)
        rcases two with ⟨_, e⟩ | ⟨_, e⟩
        · exact go2 31 (by rw [e, size_20]) (.inr (.inl rfl)) (by rw [e, size_20]; decide) (by omega)
        · exact go2 127 (by rw [e, size_76]) (.inr (.inr rfl)) (by rw [e, size_76]; decide) (by omega)
      · first
          | refine wp_if_neg (by simpa using hf) ?_
          | (refine wpAny_bind ?_; refine wp_if_neg (by simpa using hf) ?_; refine wpAny_pure ?_)
        have nf2 : ¬ ((L.length + 1) * 5 ≥ t.mask * 3) := fun z => hf (by rw [tf]; exact decide_eq_true z)
        exact wpAny_pure (q true g1 L1 es1 (ep + 1) t2 sb ⟨⟨_, go1, ex, rfl⟩, r1, tb, n1, el1, d1, by rw [l1, p3, b4]; omega, by omega⟩ (fun z => absurd z hm) fun _ => pm)
    have tb1 : TabOk ({ t1 with plain := false } : SetTable) (L1.map fun p => hT P w p.1) := ⟨b3.ris, b3.dm, b3.sz, b3.mok, b3.bd, b3.reach⟩
    have plain_case : ∀ c : Bool, wpAny (model P w) A (do
        storeSet a es1 (if c = true then t1 else { t1 with plain := false })
        if (!false && (if c = true then t1 else { t1 with plain := false }).tooFull) = true then setRelay a (SetTable.grown (es.size + 1))
        return true) Q E s := by
      intro c
      cases c with
      | true => exact last t1 rfl rfl rfl rfl b3 rfl
      | false => exact last { t1 with plain := false } rfl rfl rfl rfl tb1 rfl
    by_cases hp : t1.plain = true
    · first
        | (refine wpAny_bind ?_; refine wp_if_pos hp ?_; exact tu_byval xb fun c => plain_case c)
        | exact wp_if_pos hp (wpAny_bind (tu_byval xb fun c => plain_case c))
    · first
        | (refine wpAny_bind ?_; refine wp_if_neg hp ?_; exact wpAny_pure (plain_case true))
        | exact wp_if_neg hp (wpAny_bind (wpAny_pure (plain_case true)))
end
theorem tu_reads {P : Program} {w : World} {h : Heap} {k : List Key} {v : Value} (x : IsTu P w h k v) : Reads h v (.tuple (k.map datK)) [] := by
  obtain ⟨b, rfl, o, its, n, go, cl, da, ia⟩ := x
  have : ∀ {k : List Key} {vs : List Value}, ItemsAre (mixKind P w) k vs → ReadsAll h vs (k.map datK) [] := fun {k vs} e => by
    induction e with
    | nil => exact .nil
    | cons r _ ih => exact .cons (as := []) (bs := []) (key_reads r) ih
  exact .tuple go cl da (this ia)
def ekTup (P : Program) (w : World) : Ekd P w where
  κ := List Key
  dec := inferInstance
  is := IsTu P w
  hash := hT P w
  dat := fun k => .tuple (k.map datK)
  most := 63
  bound := by decide
  ok := SetTu P w
  ob := SetTu.ob
  row := fun S => by rw [S.rw0, List.map_map]; rfl
  nd := SetTu.nd
  el := SetTu.el
  fits := fun S => tab_fits S.tab S.rw0 (by have := S.rm; omega)
  ris := fun S => S.tab.ris
  led := SetTu.ld
  few := SetTu.fw
  hold := fun S k e => by
    obtain ⟨o, go, r⟩ := S.ob
    exact ⟨⟨o, k o go, r⟩, S.rw0, S.tab, S.nd, e, S.ld, S.rm, S.fw⟩
  keep := IsTu.keep
  reads := tu_reads
  fresh := fun g => ⟨⟨_, g, ⟨rfl, rfl, rfl⟩, rfl⟩, rfl, ⟨List.Pairwise.nil, rfl, rfl, .inl rfl, nofun, fun i h j hi => by simp at hi⟩, List.nodup_nil, nofun, by
    show _ ∨ (!w.params.followText "set-order") = true
    cases w.params.followText "set-order"
    · exact .inr rfl
    · exact .inl rfl, by show 0 * 5 < 7 * 3; decide, Nat.zero_le _⟩
  hashed := fun hu x q => by
    obtain ⟨b, rfl, xb⟩ := x
    exact wpAny_pyHash_tuple hu xb (q _ (Nat.le_add_right _ _))
  add := fun hu S x lt q => tu_add S x hu lt q
end U
set_option Elab.async false
set_option linter.all false
set_option maxRecDepth 100000
set_option maxHeartbeats 4000000
namespace U
open PySem PySem.Spec L2 PyProof.Rows
open PySem.W (AllAlike Sortable)
/-! ### sorted(set(xs)), len(set(xs)) -/
def qSset (K : PySem.W.Frag) {κ : Type} (R : Hp → V → κ → Prop) (dat : κ → PyData) (most : Nat) : RCl := fun xs H Q => ∃ (p : Addr) (ks : List (κ × V)), xs = [V.ref p] ∧ SqL K H p (ks.map Prod.snd) ∧ (∀ x ∈ ks, R H x.2 x.1) ∧ ks.length ≤ most ∧
  AllAlike (ks.map fun x => dat x.1) ∧ Sortable (ks.map fun x => dat x.1) ∧ (∀ x ∈ ks, (dat x.1).depth ≤ 60) ∧
  ∀ (l : Addr) (us : List (κ × V)), H l = none → (∀ x ∈ us, x ∈ ks) → (∀ x ∈ ks, x.1 ∈ us.map Prod.fst) → (us.map Prod.fst).Nodup → us.Pairwise (fun x y => W.dataLt (dat y.1) (dat x.1) = false) → Q (.ref l) (upd H l (.lst (us.map Prod.snd)))
theorem lift_in {α β : Type} (f : α → β) (zs : List α) : ∀ M : List β, (∀ q ∈ M, q ∈ zs.map f) → ∃ Z : List α, M = Z.map f ∧ ∀ z ∈ Z, z ∈ zs
  | [], _ => ⟨[], rfl, nofun⟩
  | q :: M, h => by
    obtain ⟨z, hz, e⟩ := List.mem_map.mp (h q List.mem_cons_self)
    obtain ⟨Z, e2, h2⟩ := lift_in f zs M fun r hr => h r (List.mem_cons_of_mem _ hr)
    exact ⟨z :: Z, by rw [List.map_cons, e, ← e2], fun y hy => (List.mem_cons.mp hy).elim (fun e => e ▸ hz) (h2 y)⟩
section
variable {X : Cx}
/-- that R is what the kind asks -/
def RelD (X : Cx) (D : Ekd X.prog X.w) (R : Hp → V → D.κ → Prop) : Prop := ∀ (pins : List (Addr × Obj)) (σ : L2.St) (H : Hp) (s : Shared) (v : V) (u : Value) (k : D.κ), Inv X pins σ H s → R H v k → RelV v u → D.is s.heap k u
theorem zip_rel {α : Type} : ∀ {ks : List (α × V)} {us : List Value}, Vals (ks.map Prod.snd) us → ∃ zs : List ((α × V) × Value), ks = zs.map Prod.fst ∧ us = zs.map Prod.snd ∧ ∀ z ∈ zs, RelV z.1.2 z.2
  | [], _, .nil => ⟨[], rfl, rfl, nofun⟩
  | x :: ks, _, .cons r t => by
    obtain ⟨zs, e1, e2, h⟩ := zip_rel t
    exact ⟨(x, _) :: zs, by rw [List.map_cons, ← e1], by rw [List.map_cons, ← e2], fun z hz => (List.mem_cons.mp hz).elim (fun e => e ▸ r) (h z)⟩
theorem vals_of : ∀ (zs : List (V × Value)), (∀ z ∈ zs, RelV z.1 z.2) → Vals (zs.map Prod.fst) (zs.map Prod.snd)
  | [], _ => .nil
  | z :: zs, h => .cons (h z List.mem_cons_self) (vals_of zs fun y hy => h y (List.mem_cons_of_mem _ hy))
variable {E : Value → Shared → Prop} {e : Expr} {ta : TA} {p1 p2 q1 pos : Pos}
theorem pe_ssetD {n : Nat} (D : Ekd X.prog X.w) {R : Hp → V → D.κ → Prop} (hR : RelD X D R) (hr : Room n X.A) (hg : Gl X "sorted") (hm : X.mg "sorted" = none) (hg2 : Gl X "set") (hm2 : X.mg "set" = none) (ha : PA X [e] ta)
    (he : starEach [e] X.env = [(false, eval e X.env)] := by rfl) : PE X (.Call (.Name "sorted" p1) [.Call (.Name "set" p2) [e] [] q1] [] pos) (tCB (qSset X.K R D.dat D.most) ta) := by
  refine ⟨fun pins s σ H Q I h => ?_⟩
  refine Call_ (ld_blt I hg hm bo_sorted ?_)
  refine PyProof.Rows.callWith_builtin1 (PyProof.Rows.args_cons ?_ rfl) rfl rfl
  refine Call_ (ld_blt I hg2 hm2 bo_set ?_)
  refine PyProof.Rows.callWith_type1 (thn (ha.run q1 pins s σ H _ I h) fun us s1 ⟨vs, H1, I1, r1, z⟩ => ?_) he rfl
  obtain ⟨p, ks, rfl, sq, rel, few, al, so, dp, z⟩ := z
  obtain ⟨u, rfl, ru⟩ := vals1 r1
  obtain rfl : u = Value.ref p := ru
  obtain ⟨its, rv, pl, hz⟩ := I1.list sq
  obtain ⟨zs, rfl, rfl, hzs⟩ := zip_rel rv
  let f : (D.κ × V) × Value → D.κ × Value := fun z => (z.1.1, z.2)
  have un := hr.un
  refine set_made (D := D) (zs.map f) hr.hd pl.isList (by rw [List.map_map]; rfl) (fun q hq => ?_) (by rw [List.length_map] at few ⊢; exact few) (by omega) fun g tk L es ep t ok got kp => ?_
  · obtain ⟨y, hy, rfl⟩ := List.mem_map.mp hq
    exact hR pins σ H1 s1 y.1.2 y.2 y.1.1 I1 (rel y.1 (List.mem_map.mpr ⟨y, hy, rfl⟩)) (hzs y hy)
  have sub : ∀ q ∈ L, q ∈ zs.map f := fun q hq => List.mem_of_mem_take (got.sub q hq)
  have eqd : (zs.map f).map (fun q => D.dat q.1) = (zs.map Prod.fst).map fun x => D.dat x.1 := by rw [List.map_map, List.map_map]; rfl
  have insd : ∀ d ∈ L.map (fun q => D.dat q.1), d ∈ (zs.map Prod.fst).map fun x => D.dat x.1 := fun d hd => by
    obtain ⟨q, hq, rfl⟩ := List.mem_map.mp hd
    rw [← eqd]
    exact List.mem_map.mpr ⟨q, sub q hq, rfl⟩
  refine PyProof.Rows.args_nil ?_
  refine set_sorted (s := { s1 with heap := g, toks := tk }) ok hr.hd (fun d hd d2 hd2 => al d (insd d hd) d2 (insd d2 hd2)) (so.imp (fun w d hd => w d (insd d hd)) fun w d hd => w d (insd d hd)) (fun q hq => ?_) (by omega) fun s3 l out c L2 k3 g3 o3 hl gl eo pm pw => ?_
  · obtain ⟨y, hy, e⟩ := List.mem_map.mp (sub q hq)
    rw [← e]
    exact dp y.1 (List.mem_map.mpr ⟨y, hy, rfl⟩)
  · obtain ⟨Z, eZ, hZ⟩ := lift_in f zs L2 fun q hq => sub q (pm.mem_iff.mp hq)
    subst eZ
    have kk : ∀ b o, s1.heap.get? b = some o → s3.heap.get? b = some o := fun b o e => k3 b o (kp b o e)
    have l0 : s1.heap.objs.size ≤ l := Nat.le_trans (Nat.le_of_lt (let ⟨_, go, _⟩ := D.ob ok; Heap.lt_size go)) hl
    have hn : H1 l = none := I1.hok.fresh l0
    have few2 := D.few ok
    have bd := D.bound
    have ln : ((Z.map Prod.fst).map Prod.snd).length ≤ sizeLine := by
      have := pm.length_eq
      rw [List.length_map] at this
      rw [List.length_map, List.length_map, sizeLine_eq]; omega
    have vz : Vals ((Z.map Prod.fst).map Prod.snd) out := by
      rw [eo]
      have := vals_of (Z.map fun z => (z.1.2, z.2)) fun y hy => by
        obtain ⟨y0, hy0, rfl⟩ := List.mem_map.mp hy
        exact hzs y0 (hZ y0 hy0)
      rw [List.map_map, List.map_map] at this
      rw [List.map_map, List.map_map]
      exact this
    have J : Inv X pins σ (upd H1 l (.lst ((Z.map Prod.fst).map Prod.snd))) { s1 with heap := s3.heap, gens := s3.gens, drawn := s3.drawn, toks := s3.toks } :=
      I1.call (ch := []) (Un.laid kk l0 hn) (I1.hok.laid kk l0 ⟨ln, out, c, vz, gl⟩) (by rw [g3]; exact I1.bare) nofun
    have e3 : s3 = { s1 with heap := s3.heap, gens := s3.gens, drawn := s3.drawn, toks := s3.toks } := by
      cases s3; cases s1; cases o3; rfl
    rw [e3]
    have nd : ((Z.map f).map Prod.fst).Nodup := (pm.map _).nodup_iff.mpr (D.nd ok)
    refine ⟨.ref l, _, J, rfl, z l (Z.map Prod.fst) hn (fun x hx => ?_) (fun x hx => ?_) (by rw [List.map_map] at nd ⊢; exact nd) (List.pairwise_map.mpr (List.pairwise_map.mp pw))⟩
    · obtain ⟨y, hy, rfl⟩ := List.mem_map.mp hx
      exact List.mem_map.mpr ⟨y, hZ y hy, rfl⟩
    · obtain ⟨y, hy, rfl⟩ := List.mem_map.mp hx
      have h1 := got.all (f y) (by rw [List.take_length]; exact List.mem_map.mpr ⟨y, hy, rfl⟩)
      have h2 := (pm.map Prod.fst).mem_iff.mpr h1
      rw [List.map_map] at h2 ⊢
      exact h2
end
/-! #### ints, texts -/
def RK (_ : Hp) (v : V) (k : Key) : Prop := v = kV k
theorem relK {X : Cx} : RelD X (ekKey X.prog X.w) RK := fun pins σ H s v u k I e r => by
  subst e
  exact kV_is r
theorem items_ok {P : Program} {w : World} : ∀ {k : List Key} {us : List Value}, Vals (k.map kV) us → ItemsAre (mixKind P w) k us
  | [], _, .nil => .nil
  | _ :: _, _, .cons r t => .cons (kV_is r) (items_ok t)
def RT (K : PySem.W.Frag) (H : Hp) (v : V) (k : List Key) : Prop := ∃ b, v = .ref b ∧ SqT K H b (k.map kV)
theorem relT {X : Cx} : RelD X (ekTup X.prog X.w) (RT X.K) := fun pins σ H s v u k I e r => by
  obtain ⟨b, rfl, hq⟩ := e
  obtain rfl : u = Value.ref b := r
  obtain ⟨its, rv, ⟨o, go, cl, n, da⟩, _⟩ := I.tuple hq
  exact ⟨b, rfl, o, its.toArray, n, go, cl, da, by simpa using items_ok rv⟩
abbrev datT (k : List Key) : PyData := .tuple (k.map datK)
/-! #### typed -/
/-- a type whose values are keys of a dict, elements of a set -/
structure Ke {α : Type} {t : Rp α} (D : Dt t) where
  k : α → Key
  r : ∀ {F : Hp} {v : V} {x : α}, t.r F v x → v = kV (k x)
  d : ∀ x, D.d x = datK (k x)
def keI : Ke dI := ⟨fun i => .inl i, fun h => h, fun _ => rfl⟩
def keS : Ke dS := ⟨fun s => .inr (S s), fun h => h.1, fun _ => rfl⟩
structure Kt {α : Type} {t : Rp α} (D : Dt t) where
  k : α → List Key
  r : ∀ {F : Hp} {v : V} {x : α}, t.r F v x → ∃ b, v = .ref b ∧ F b = some (.tup ((k x).map kV))
  d : ∀ x, D.d x = datT (k x)
section
variable {α β γ : Type} {t : Rp α} {u : Rp β} {w : Rp γ} {D : Dt t} {E : Dt u} {G : Dt w}
def ktP2 (A : Ke D) (B : Ke E) : Kt (dP2 D E) := ⟨fun x => [A.k x.1, B.k x.2], fun ⟨p, y, z, e, q, h1, h2⟩ => ⟨p, e, by rw [q, A.r h1, B.r h2]; rfl⟩, fun x => by
  show PyData.tuple [D.d x.1, E.d x.2] = _
  rw [A.d, B.d]; rfl⟩
def ktP3 (A : Ke D) (B : Ke E) (C : Ke G) : Kt (dP3 D E G) := ⟨fun x => [A.k x.1, B.k x.2.1, C.k x.2.2], fun ⟨p, y, z, v, e, q, h1, h2, h3⟩ => ⟨p, e, by rw [q, A.r h1, B.r h2, C.r h3]; rfl⟩, fun x => by
  show PyData.tuple [D.d x.1, E.d x.2.1, G.d x.2.2] = _
  rw [A.d, B.d, C.d]; rfl⟩
theorem al_keys (A : Ke D) {F : Hp} : ∀ {vs : List V} {xs : List α}, Al t F vs xs → vs = (xs.map A.k).map kV
  | _, _, .nil => rfl
  | _, _, .cons r h => by rw [List.map_cons, List.map_cons, ← A.r r, ← al_keys A h]
def ktT (A : Ke D) : Kt (dT D) := ⟨fun x => x.map A.k, fun ⟨p, vs, e, q, h⟩ => ⟨p, e, by rw [q, al_keys A h]⟩, fun x => by
  show PyData.tuple (x.map D.d) = _
  rw [List.map_congr_left fun y _ => A.d y]
  show _ = PyData.tuple ((x.map A.k).map datK)
  rw [List.map_map]; rfl⟩
end
/-- each once: the last stays -/
def uq {α : Type} [DecidableEq α] : List α → List α
  | [] => []
  | x :: xs => if x ∈ xs then uq xs else x :: uq xs
theorem mem_uq {α : Type} [DecidableEq α] {y : α} : ∀ {xs : List α}, y ∈ uq xs ↔ y ∈ xs
  | [] => .rfl
  | x :: xs => by
    unfold uq
    split
    · rename_i h
      rw [mem_uq, List.mem_cons]
      exact ⟨.inr, fun z => z.elim (fun e => e ▸ h) id⟩
    · rw [List.mem_cons, List.mem_cons, mem_uq]
theorem uq_nodup {α : Type} [DecidableEq α] : ∀ xs : List α, (uq xs).Nodup
  | [] => List.nodup_nil
  | x :: xs => by
    unfold uq
    split
    · exact uq_nodup xs
    · rename_i h
      exact List.nodup_cons.mpr ⟨fun z => h (mem_uq.mp z), uq_nodup xs⟩
theorem uq_len {α : Type} [DecidableEq α] : ∀ xs : List α, (uq xs).length ≤ xs.length
  | [] => Nat.le_refl _
  | x :: xs => by
    unfold uq
    split
    · exact Nat.le_succ_of_le (uq_len xs)
    · exact Nat.succ_le_succ (uq_len xs)
/-- sorted(set(xs)) -/
def ssetL {α : Type} [DecidableEq α] (lt : α → α → Bool) (xs : List α) : List α := srtL lt (uq xs)
section
variable {α : Type} [DecidableEq α] {t : Rp α} {D : Dt t} {K : PySem.W.Frag} {F H : Hp} {vs : List V} {xs : List α} {p : Addr} {Q : VK}
/-- what comes out is the mirror's -/
theorem sset_core {κ : Type} (S : So D) (kk : α → κ) {dat : κ → PyData} (hd : ∀ x, D.d x = dat (kk x)) {zs : List (V × α)} {us : List (κ × V)} (h1 : ∀ x ∈ us, x ∈ zs.map fun z => (kk z.2, z.1)) (h2 : ∀ x ∈ zs.map fun z => (kk z.2, z.1), x.1 ∈ us.map Prod.fst)
    (h3 : (us.map Prod.fst).Nodup) (h4 : us.Pairwise fun x y => W.dataLt (dat y.1) (dat x.1) = false) (O : Lo S.lt) (hr : ∀ z ∈ zs, t.r F z.1 z.2) : Al t F (us.map Prod.snd) (ssetL S.lt (zs.map Prod.snd)) := by
  obtain ⟨Z, rfl, hZ⟩ := lift_in _ zs us h1
  have inj : ∀ x y, kk x = kk y → x = y := fun x y e => (D.eqv x y).mp (by rw [hd, hd, e, ← hd]; exact (D.eqv _ _).mpr rfl)
  have e1 : ssetL S.lt (zs.map Prod.snd) = Z.map Prod.snd := by
    refine srt_of O ((List.perm_ext_iff_of_nodup (uq_nodup _) ?_).mpr fun x => ?_) ?_
    · rw [List.map_map] at h3
      exact List.pairwise_map.mpr ((List.pairwise_map.mp h3).imp fun h e => h (congrArg kk e))
    · rw [mem_uq]
      constructor
      · intro hx
        obtain ⟨z, hz, rfl⟩ := List.mem_map.mp hx
        have := h2 (kk z.2, z.1) (List.mem_map.mpr ⟨z, hz, rfl⟩)
        rw [List.map_map] at this
        obtain ⟨y, hy, e⟩ := List.mem_map.mp this
        exact List.mem_map.mpr ⟨y, hy, inj _ _ e⟩
      · intro hx
        obtain ⟨z, hz, rfl⟩ := List.mem_map.mp hx
        exact List.mem_map.mpr ⟨z, hZ z hz, rfl⟩
    · refine List.pairwise_map.mpr ((List.pairwise_map.mp h4).imp fun {x y} h => ?_)
      rw [← S.ok, hd, hd]; exact h
  rw [e1, List.map_map]
  exact pd_unzip Z fun z hz => hr z (hZ z hz)
def ssetB (n : Nat) {α : Type} (xs : List α) : Bool := decide (xs.length ≤ n)
theorem zip_parts {vs : List V} {xs : List α} (h : Al t F vs xs) : (vs.zip xs).map Prod.fst = vs ∧ (vs.zip xs).map Prod.snd = xs ∧ ∀ z ∈ vs.zip xs, t.r F z.1 z.2 := by
  refine ⟨?_, map_fst_zipA _ _ (al_len h), pd_zipmem h⟩
  have := al_len h
  induction h with
  | nil => rfl
  | cons r t ih => rw [List.zip_cons_cons, List.map_cons, ih (al_len t)]
/-- ints, texts -/
theorem v_ssetK (S : So D) (A : Ke D) (O : Lo S.lt) (hs : Sub F H) (hq : SqL K H p vs) (hr : Al t F vs xs) (hb : ssetB 3999 xs = true) (k : ∀ l us, H l = none → Al t F us (ssetL S.lt xs) → Q (.ref l) (upd H l (.lst us))) : qSset K RK datK 3999 [.ref p] H Q := by
  obtain ⟨e1, e2, e3⟩ := zip_parts hr
  have ed : ((vs.zip xs).map fun z => (A.k z.2, z.1)).map (fun x => datK x.1) = xs.map D.d := by
    rw [List.map_map]
    conv => rhs; rw [← e2]
    rw [List.map_map]
    exact List.map_congr_left fun z _ => (A.d z.2).symm
  refine ⟨p, (vs.zip xs).map fun z => (A.k z.2, z.1), rfl, ?_, fun x hx => ?_, ?_, by rw [ed]; exact so_alike S xs, by rw [ed]; exact so_sortable S xs, fun x hx => ?_, fun l us hl h1 h2 h3 h4 => ?_⟩
  · rw [List.map_map]
    show SqL K H p ((vs.zip xs).map Prod.fst)
    rw [e1]; exact hq
  · obtain ⟨z, hz, rfl⟩ := List.mem_map.mp hx
    exact A.r (e3 z hz)
  · have := of_decide_eq_true hb
    rw [List.length_map, List.length_zip]; omega
  · obtain ⟨z, hz, rfl⟩ := List.mem_map.mp hx
    rw [← A.d]; exact S.dp _
  · have := sset_core (F := F) S A.k A.d h1 h2 h3 h4 O e3
    rw [e2] at this
    exact k l _ hl this
/-- tuples of ints and texts -/
theorem v_ssetT (S : So D) (A : Kt D) (O : Lo S.lt) (hs : Sub F H) (hq : SqL K H p vs) (hr : Al t F vs xs) (hb : ssetB 63 xs = true) (k : ∀ l us, H l = none → Al t F us (ssetL S.lt xs) → Q (.ref l) (upd H l (.lst us))) : qSset K (RT K) datT 63 [.ref p] H Q := by
  obtain ⟨e1, e2, e3⟩ := zip_parts hr
  have ed : ((vs.zip xs).map fun z => (A.k z.2, z.1)).map (fun x => datT x.1) = xs.map D.d := by
    rw [List.map_map]
    conv => rhs; rw [← e2]
    rw [List.map_map]
    exact List.map_congr_left fun z _ => (A.d z.2).symm
  refine ⟨p, (vs.zip xs).map fun z => (A.k z.2, z.1), rfl, ?_, fun x hx => ?_, ?_, by rw [ed]; exact so_alike S xs, by rw [ed]; exact so_sortable S xs, fun x hx => ?_, fun l us hl h1 h2 h3 h4 => ?_⟩
  · rw [List.map_map]
    show SqL K H p ((vs.zip xs).map Prod.fst)
    rw [e1]; exact hq
  · obtain ⟨z, hz, rfl⟩ := List.mem_map.mp hx
    obtain ⟨b, e, q⟩ := A.r (e3 z hz)
    exact ⟨b, e, .inl (.inl (hs _ _ q))⟩
  · have := of_decide_eq_true hb
    rw [List.length_map, List.length_zip]; omega
  · obtain ⟨z, hz, rfl⟩ := List.mem_map.mp hx
    rw [← A.d]; exact S.dp _
  · have := sset_core (F := F) S A.k A.d h1 h2 h3 h4 O e3
    rw [e2] at this
    exact k l _ hl this
theorem a_ssetF {us : List V} {zs : List α} {P : Prop} (hs : Sub F H) (k : ∀ p' us F' H', Gr [] F H F' H' → F' p' = some (.lst us) → Al t F' us zs → Q (.ref p') H') : ∀ l us, H l = none → Al t F us zs → Q (.ref l) (upd H l (.lst us)) :=
  fun l us hl h => k l us _ _ (gr_newF hs hl) upd_same (Al.mono h (Sub.up1 (hs.nn hl)))
end
section
variable {X : Cx} {K : PySem.W.Frag} {n : Nat} {e : Expr} {ta : TA} {p1 p2 q1 pos : Pos}
theorem pe_ssetK (hK : X.K = K) (hr : Room n X.A) (hg : Gl X "sorted") (hm : X.mg "sorted" = none) (hg2 : Gl X "set") (hm2 : X.mg "set" = none) (ha : PA X [e] ta) (he : starEach [e] X.env = [(false, eval e X.env)] := by rfl) :
    PE X (.Call (.Name "sorted" p1) [.Call (.Name "set" p2) [e] [] q1] [] pos) (tCB (qSset K RK datK 3999) ta) := by
  subst hK; exact pe_ssetD (ekKey X.prog X.w) relK hr hg hm hg2 hm2 ha he
theorem pe_ssetT (hK : X.K = K) (hr : Room n X.A) (hg : Gl X "sorted") (hm : X.mg "sorted" = none) (hg2 : Gl X "set") (hm2 : X.mg "set" = none) (ha : PA X [e] ta) (he : starEach [e] X.env = [(false, eval e X.env)] := by rfl) :
    PE X (.Call (.Name "sorted" p1) [.Call (.Name "set" p2) [e] [] q1] [] pos) (tCB (qSset K (RT K) datT 63) ta) := by
  subst hK; exact pe_ssetD (ekTup X.prog X.w) relT hr hg hm hg2 hm2 ha he
end
end U
set_option Elab.async false
set_option linter.all false
set_option maxRecDepth 100000
set_option maxHeartbeats 4000000
namespace U
open PySem PySem.Spec L2 PyProof.Rows
/-! ### dicts of typed keys and values -/
structure Dy {α : Type} (t : Rp α) where
  κ : Type
  dec : DecidableEq κ
  k : α → κ
  inj : ∀ x y, k x = k y → x = y
  ho : List (κ × V) → HO
  get : ∀ {F H : Hp} {a : Addr} {kvs : List (κ × V)} {v : V} {x : α}, Sub F H → H a = some (ho kvs) → t.r F v x → DGet H a v (valV kvs (k x))
  put : ∀ {F H : Hp} {a : Addr} {kvs : List (κ × V)} {v y : V} {x : α}, Sub F H → H a = some (ho kvs) → t.r F v x → kvs.length < sizeLine → DPut H a v y (upd H a (ho (putK kvs (k x) y)))
  isd : ∀ {H : Hp} {a : Addr} {kvs : List (κ × V)}, H a = some (ho kvs) → IsD H a
section
variable {α β : Type} {t : Rp α} {u : Rp β} {D : Dt t}
def dyK (A : Ke D) : Dy t where
  κ := Key
  dec := inferInstance
  k := A.k
  inj := fun x y e => (D.eqv x y).mp (by rw [A.d, A.d, e, ← A.d]; exact (D.eqv _ _).mpr rfl)
  ho := .dK
  get := fun hs e h => by rw [A.r h]; exact DGet.k e
  put := fun hs e h l => by rw [A.r h]; exact DPut.k e l
  isd := fun e => .inl ⟨_, .inl e⟩
def dyT (A : Kt D) : Dy t where
  κ := List Key
  dec := inferInstance
  k := A.k
  inj := fun x y e => (D.eqv x y).mp (by rw [A.d, A.d, e, ← A.d]; exact (D.eqv _ _).mpr rfl)
  ho := .dT
  get := fun hs e h => by
    obtain ⟨b, rfl, q⟩ := A.r h
    exact DGet.t e (hs _ _ q)
  put := fun hs e h l => by
    obtain ⟨b, rfl, q⟩ := A.r h
    exact DPut.t e (hs _ _ q) l
  isd := fun e => .inr ⟨_, .inl e⟩
abbrev Pr (Y : Dy t) (u : Rp β) (F : Hp) (kvs : List (Y.κ × V)) (xs : List (α × β)) : Prop := Paired (fun kv y => kv.1 = Y.k y.1 ∧ u.r F kv.2 y.2) kvs xs
theorem Pr.mono {Y : Dy t} {F F' : Hp} {kvs : List (Y.κ × V)} {xs : List (α × β)} (h : Pr Y u F kvs xs) (s : Sub F F') : Pr Y u F' kvs xs := Paired.mapP h fun _ _ z => ⟨z.1, u.mono s z.2⟩
/-- a dict -/
def eD (Y : Dy t) (u : Rp β) : Rp (List (α × β)) := ⟨fun F v x => ∃ p kvs, v = .ref p ∧ F p = some (Y.ho kvs) ∧ Pr Y u F kvs x, fun s ⟨p, kvs, e, q, h⟩ => ⟨p, kvs, e, s _ _ q, h.mono s⟩⟩
/-! the mirror's words -/
section
variable [DecidableEq α]
def lkp (xs : List (α × β)) (a : α) : Option β := (xs.find? fun kv => decide (kv.1 = a)).map (·.2)
def inD (xs : List (α × β)) (a : α) : Bool := (lkp xs a).isSome
def dput (xs : List (α × β)) (a : α) (b : β) : List (α × β) := if (xs.any fun kv => decide (kv.1 = a)) = true then xs.map (fun kv => if kv.1 = a then (kv.1, b) else kv) else xs ++ [(a, b)]
def dputM (xs : List (α × β)) (a : α) (b : β) : Option (List (α × β)) := need (decide (xs.length < 16777216)) (dput xs a b)
def getD2 (xs : List (α × β)) (a : α) (b : β) : β := (lkp xs a).getD b
/-- dict of pairs -/
def ofPairs (ps : List (α × β)) : List (α × β) := ps.foldl (fun acc kv => dput acc kv.1 kv.2) []
variable {Y : Dy t} {F H : Hp} {kvs : List (Y.κ × V)} {xs ys : List (α × β)} {a : α} {b : β} {p : Addr} {v y w : V} {Q : VK}
theorem key_iff {c : Y.κ} {x : α} (e : c = Y.k x) : (@decide (c = Y.k a) (Y.dec _ _)) = decide (x = a) := by
  subst e
  rw [Bool.eq_iff_iff]
  exact ⟨fun h => decide_eq_true (Y.inj _ _ (@of_decide_eq_true _ (Y.dec _ _) h)), fun h => @decide_eq_true _ (Y.dec _ _) (by rw [of_decide_eq_true h])⟩
theorem pr_some (h : Pr Y u F kvs xs) (e : lkp xs a = some b) : ∃ v, @valV _ Y.dec kvs (Y.k a) = some v ∧ u.r F v b := by
  induction h with
  | nil => cases e
  | @cons kv x kvs xs r t ih =>
    unfold lkp at e
    rw [List.find?_cons] at e
    unfold valV
    rw [List.find?_cons, key_iff r.1]
    cases q : decide (x.1 = a) with
    | true =>
      rw [q] at e
      have e2 : x.2 = b := Option.some.inj e
      subst e2
      exact ⟨_, rfl, r.2⟩
    | false => rw [q] at e; exact ih e
theorem pr_none (h : Pr Y u F kvs xs) (e : lkp xs a = none) : @valV _ Y.dec kvs (Y.k a) = none := by
  induction h with
  | nil => rfl
  | @cons kv x kvs xs r t ih =>
    unfold lkp at e
    rw [List.find?_cons] at e
    unfold valV
    rw [List.find?_cons, key_iff r.1]
    cases q : decide (x.1 = a) with
    | true => rw [q] at e; cases e
    | false => rw [q] at e; exact ih e
theorem pr_is (h : Pr Y u F kvs xs) : (@valV _ Y.dec kvs (Y.k a)).isSome = inD xs a := by
  unfold inD
  cases e : lkp xs a with
  | none => rw [pr_none h e]; rfl
  | some b => obtain ⟨v, e2, _⟩ := pr_some h e; rw [e2]; rfl
theorem pr_any (h : Pr Y u F kvs xs) : (kvs.any fun kv => @decide (kv.1 = Y.k a) (Y.dec _ _)) = xs.any fun kv => decide (kv.1 = a) := by
  induction h with
  | nil => rfl
  | @cons kv x kvs xs r t ih => rw [List.any_cons, List.any_cons, key_iff r.1, ih]
theorem pr_put (h : Pr Y u F kvs xs) (r : u.r F y b) : Pr Y u F (@putK _ Y.dec kvs (Y.k a) y) (dput xs a b) := by
  unfold putK dput
  rw [pr_any h]
  split
  · induction h with
    | nil => exact .nil
    | @cons kv x kvs xs r2 t ih =>
      rename_i hc
      rw [List.map_cons, List.map_cons]
      have all : ∀ {kvs : List (Y.κ × V)} {xs : List (α × β)}, Pr Y u F kvs xs → Pr Y u F (kvs.map fun kv => @ite _ (kv.1 = Y.k a) (Y.dec _ _) (kv.1, y) kv) (xs.map fun kv => if kv.1 = a then (kv.1, b) else kv) := fun h => by
        induction h with
        | nil => exact .nil
        | @cons kv x kvs xs r2 t ih =>
          refine .cons ?_ ih
          dsimp only
          by_cases e : x.1 = a
          · rw [if_pos e, if_pos (by rw [r2.1, e])]; exact ⟨r2.1, r⟩
          · rw [if_neg e, if_neg (fun z => e (Y.inj _ _ (r2.1.symm.trans z)))]; exact r2
      exact all (.cons r2 t)
  · exact pd_snoc h ⟨rfl, r⟩
theorem pr_len (h : Pr Y u F kvs xs) : kvs.length = xs.length := Paired.length h
/-! readings -/
def qDGet (y : V) (Q : VK) : VK := fun x H2 => ∃ a v, x = .ref a ∧ DGet H2 a y (some v) ∧ Q v H2
theorem n_dget {td ty : TE} {σ : L2.St} (h : td σ H fun x H1 => ty σ H1 fun y H2 => qDGet y Q x H2) : tDGet td ty σ H Q := h
theorem v_dget (hs : Sub F H) (hp : H p = some (Y.ho kvs)) (h : Pr Y u F kvs xs) (hk : t.r F y a) (e : lkp xs a = some b) (k : ∀ v, u.r F v b → Q v H) : qDGet y Q (.ref p) H := by
  obtain ⟨v, e2, r⟩ := pr_some h e
  exact ⟨p, v, rfl, by have := Y.get hs hp hk; rw [e2] at this; exact this, k v r⟩
def qDIn (y : V) (Q : VK) : VK := fun x H2 => ∃ a o, x = .ref a ∧ DGet H2 a y o ∧ Q (.bl o.isSome) H2
def qDNotIn (y : V) (Q : VK) : VK := fun x H2 => ∃ a o, x = .ref a ∧ DGet H2 a y o ∧ Q (.bl (!o.isSome)) H2
theorem n_din {td ty : TE} {σ : L2.St} (h : ty σ H fun y H1 => td σ H1 fun x H2 => qDIn y Q x H2) : tDIn ty td σ H Q := h
theorem n_dnotin {td ty : TE} {σ : L2.St} (h : ty σ H fun y H1 => td σ H1 fun x H2 => qDNotIn y Q x H2) : tDNotIn ty td σ H Q := h
theorem v_din (hs : Sub F H) (hp : H p = some (Y.ho kvs)) (h : Pr Y u F kvs xs) (hk : t.r F y a) (k : Q (.bl (inD xs a)) H) : qDIn y Q (.ref p) H := ⟨p, _, rfl, Y.get hs hp hk, by rw [pr_is h]; exact k⟩
theorem v_dnotin (hs : Sub F H) (hp : H p = some (Y.ho kvs)) (h : Pr Y u F kvs xs) (hk : t.r F y a) (k : Q (.bl (!inD xs a)) H) : qDNotIn y Q (.ref p) H := ⟨p, _, rfl, Y.get hs hp hk, by rw [pr_is h]; exact k⟩
def qDPut (D : Ends) (σ : L2.St) (v y : V) : VK := fun x H3 => ∃ a H4, x = .ref a ∧ DPut H3 a y v H4 ∧ D.nx σ H4
theorem n_dput {nx bk ct : L2.St → Hp → Prop} {rt : VK} {td ty tv : TE} {σ : L2.St} (h : tv σ H fun v H1 => td σ H1 fun x H2 => ty σ H2 fun y H3 => qDPut ⟨nx, rt, bk, ct⟩ σ v y x H3) : sDPut td ty tv ⟨nx, rt, bk, ct⟩ σ H := h
theorem v_dput {nx bk ct : L2.St → Hp → Prop} {rt : VK} {σ : L2.St} (hs : Sub F H) (hp : H p = some (Y.ho kvs)) (h : Pr Y u F kvs xs) (hk : t.r F y a) (e : dputM xs a b = some ys) (k : nx σ (upd H p (Y.ho (@putK _ Y.dec kvs (Y.k a) v)))) : qDPut ⟨nx, rt, bk, ct⟩ σ v y (.ref p) H := by
  obtain ⟨h1, _⟩ := need_ok e
  exact ⟨p, _, rfl, Y.put hs hp hk (by rw [pr_len h, sizeLine_eq]; exact of_decide_eq_true h1), k⟩
theorem dput_ok {W : List Addr} {F0 H0 : Hp} (g : Gr W F0 H0 F H) (m : Mu W H0 F H p (Y.ho kvs)) (h : Pr Y u F kvs xs) (e : dputM xs a b = some ys) (r : u.r F v b) :
    ∃ kvs' H', Gr W F0 H0 F H' ∧ Pr Y u F kvs' ys ∧ kvs' = @putK _ Y.dec kvs (Y.k a) v ∧ H' = upd H p (Y.ho kvs') := by
  obtain ⟨_, rfl⟩ := need_ok e
  exact ⟨_, _, m.gr g, pr_put h r, rfl, rfl⟩
def qDGet2 (y z : V) (Q : VK) (p : Addr) : Hp → Prop := fun H3 => ∃ o, DGet H3 p y o ∧ Q (o.getD z) H3
theorem n_dget2 {td ty tx : TE} {σ : L2.St} (h : td σ H fun x H1 => ∃ a, x = .ref a ∧ IsD H1 a ∧ ty σ H1 fun y H2 => tx σ H2 fun z H3 => qDGet2 y z Q a H3) : tDGet2 td ty tx σ H Q := h
theorem v_dget2 (hs : Sub F H) (hp : H p = some (Y.ho kvs)) (h : Pr Y u F kvs xs) (hk : t.r F y a) (hz : u.r F w b) (k : ∀ v, u.r F v (getD2 xs a b) → Q v H) : qDGet2 y w Q p H := by
  refine ⟨_, Y.get hs hp hk, ?_⟩
  unfold getD2 at k
  cases e : lkp xs a with
  | none => rw [pr_none h e]; rw [e] at k; exact k _ hz
  | some c =>
    obtain ⟨v, e2, r⟩ := pr_some h e
    rw [e2]; rw [e] at k; exact k v r
end
/-- a new dict, empty -/
def qDnew (Q : VK) (H : Hp) (ho : HO) : Prop := ∀ p, H p = none → Q (.ref p) (upd H p ho)
theorem v_dnew {Y : Dy t} {F H : Hp} {Q : VK} (hs : Sub F H) (k : ∀ p H', H p = none → Gr [] F H F H' → F p = none → H' p = some (Y.ho []) → Q (.ref p) H') : qDnew Q H (Y.ho []) :=
  fun p hp => k p _ hp (gr_newM hs hp) (hs.nn hp) upd_same
theorem n_dnewK {H : Hp} {Q : VK} {σ : L2.St} (h : qDnew Q H (.dK [])) : tDNewK σ H Q := h
theorem n_dnewT {H : Hp} {Q : VK} {σ : L2.St} (h : qDnew Q H (.dT [])) : tDNewT σ H Q := h
end
/-! ### dict(pairs) -/
def mergeT (kvs more : List (List Key × V)) : List (List Key × V) := more.foldl (fun acc kv => putK acc kv.1 kv.2) kvs
def qDictT (K : PySem.W.Frag) : RCl := fun xs H Q => ∃ (a : Addr) (rs : List (Addr × List Key × Addr × V)), xs = [.ref a] ∧ SqL K H a (rs.map fun r => .ref r.1) ∧ (∀ r ∈ rs, SqT K H r.1 [.ref r.2.2.1, r.2.2.2] ∧ H r.2.2.1 = some (.tup (r.2.1.map kV))) ∧
  ∀ p, H p = none → Q (.ref p) (upd H p (.dT (mergeT [] (rs.map fun r => (r.2.1, r.2.2.2)))))
def qDictK (K : PySem.W.Frag) : RCl := fun xs H Q => ∃ (a : Addr) (ps : List Addr) (kvs : List (Key × V)), xs = [.ref a] ∧ SqL K H a (ps.map V.ref) ∧ Paired (fun p kv => SqT K H p [kV kv.1, kv.2]) ps kvs ∧ ∀ p, H p = none → Q (.ref p) (upd H p (.dK (mergeK [] kvs)))
theorem c_dictK {X : Cx} {K : PySem.W.Frag} (hK : X.K = K) (hc : X.calm = true) : CallR X (.type "dict") (qDictK K) := by subst hK; exact call_dictP hc
theorem kt_merge {H : Hp} : ∀ {rs : List (List Key × V)} {ps : List (List Key × Addr × Value)} {kvs : List (List Key × V)} {xs : List (List Key × Addr × Value)}, KT H rs ps → KT H kvs xs → KT H (mergeT kvs rs) (storedAllH xs ps)
  | _, _, _, _, .nil, h => h
  | _, _, kvs, xs, .cons (a := a) (b := b) r t, h => by
    have h2 : KT H (putK kvs a.1 a.2) (storedH xs b.1 b.2.1 b.2.2) := by
      rw [← r.1]
      exact KT.put h a.1 r.2.1 r.2.2
    have h3 := kt_merge t h2
    exact h3
theorem c_dictT {X : Cx} {K : PySem.W.Frag} {n : Nat} (hK : X.K = K) (hr : Room n X.A) : CallR X (.type "dict") (qDictT K) := by
  subst hK
  intro pins s σ H xs us Q I rv ⟨a, rs, ex, sq, hp, q⟩
  subst ex
  obtain ⟨u, rfl, ru⟩ := vals1 rv
  obtain rfl : u = Value.ref a := ru
  obtain ⟨its, ri, pl, hz⟩ := I.list sq
  have ei : its = rs.map fun r => Value.ref r.1 := by
    have e1 : (rs.map fun r => V.ref r.1) = (rs.map fun r => r.1).map V.ref := by rw [List.map_map]; rfl
    rw [e1] at ri
    rw [refs_at ri, List.map_map]; rfl
  subst ei
  -- each pair's second value
  obtain ⟨ys, hy⟩ : ∃ ys : List Value, Paired (fun (r : Addr × List Key × Addr × V) y => RelV r.2.2.2 y ∧ IsTup s.heap r.1 #[.ref r.2.2.1, y]) rs ys := by
    clear ri sq pl q rv hz
    induction rs with
    | nil => exact ⟨[], .nil⟩
    | cons r rs ih =>
      obtain ⟨ys, h⟩ := ih fun r hr => hp r (List.mem_cons_of_mem _ hr)
      obtain ⟨it, iv, tp, _⟩ := I.tuple (hp r List.mem_cons_self).1
      obtain ⟨c, y, e, rc, ry⟩ := vals2 iv
      subst e
      obtain rfl : c = Value.ref r.2.2.1 := rc
      exact ⟨y :: ys, .cons ⟨ry, tp⟩ h⟩
  have ly : rs.length = ys.length := Paired.length hy
  let ps : List (List Key × Addr × Value) := (rs.zip ys).map fun z => (z.1.2.1, z.1.2.2.1, z.2)
  let vs : List (Value × Value) := (rs.zip ys).map fun z => (Value.ref z.1.2.2.1, z.2)
  have lp : ps.length = rs.length := by simp [ps, ly]
  have lv : vs.length = rs.length := by simp [vs, ly]
  have kt : KT H (rs.map fun r => (r.2.1, r.2.2.2)) ps := by
    clear ri sq pl q lp lv ly hz
    induction hy with
    | nil => exact .nil
    | cons r t ih => exact .cons ⟨rfl, (hp _ List.mem_cons_self).2, r.1⟩ (ih fun r hr => hp r (List.mem_cons_of_mem _ hr))
  obtain ⟨o, m, ho, hc, hd, hdat⟩ := pl
  have P := PairArg.list (prog := X.prog) (w := X.w) a (rs.map fun r => Value.ref r.1).toArray (fun j => (rs.map fun r => r.1).getD j 0) vs
  have un := hr.un
  have at0 : ∀ (j : Nat) (k v : Value), vs[j]? = some (k, v) → ∃ r : Addr × List Key × Addr × V, rs[j]? = some r ∧ k = Value.ref r.2.2.1 ∧ ps[j]? = some (r.2.1, r.2.2.1, v) ∧ IsTup s.heap r.1 #[Value.ref r.2.2.1, v] := fun j k v e => by
    simp only [vs, List.getElem?_map] at e
    cases ez : (rs.zip ys)[j]? with
    | none => rw [ez] at e; cases e
    | some z =>
      rw [ez] at e
      have e2 := Option.some.inj e
      have z1 := (List.getElem?_zip_eq_some.mp ez)
      obtain ⟨y, hy1, hy2⟩ := pd_getL hy z1.1
      rw [z1.2] at hy1
      have e3 : z.2 = y := Option.some.inj hy1
      have e4 : v = z.2 := (congrArg Prod.snd e2).symm
      refine ⟨z.1, z1.1, (congrArg Prod.fst e2).symm, ?_, ?_⟩
      · simp only [ps, List.getElem?_map, ez]; rw [e4]; rfl
      · rw [e4, e3]; exact hy2.2
  refine call_dict_pairsH (knd := tupleKind (mixKind X.prog X.w)) (ps := ps) P hr.hd (by show X.A.in1.in1.units < cLine; show X.A.units + 1 + 1 < cLine; omega) ⟨⟨o, m, ho, hc, hd, hdat⟩, by simp [lv], fun j k v e => ?_⟩ ⟨by rw [lp, lv], fun j k v e => ?_⟩ (fun h' hk x hx => ?_) (by rw [lv]; rw [List.length_map] at hz; exact hz) fun h' tk hd' hk => ?_
  · obtain ⟨r, h1, h2, _, h4⟩ := at0 j k v e
    refine ⟨by rw [List.getElem?_toArray, List.getElem?_map, h1]; simp [List.getD_eq_getElem?_getD, h1], .inl ?_⟩
    have eT : (rs.map fun r => r.1).getD j 0 = r.1 := by rw [List.getD_eq_getElem?_getD, List.getElem?_map, h1]; rfl
    dsimp only
    rw [eT, h2]
    obtain ⟨o2, g2, c2, n2, d2⟩ := h4
    exact ⟨o2, g2, c2, n2, d2⟩
  · obtain ⟨r, _, h2, h3, _⟩ := at0 j k v e
    exact ⟨_, _, h3, h2⟩
  · have : ∀ {l : List (List Key × V)} {m : List (List Key × Addr × Value)}, KT H l m → ∀ x ∈ m, (tupleKind (mixKind X.prog X.w)).is s.heap x.1 x.2.1 := fun r => by
      induction r with
      | nil => nofun
      | cons hq t ih =>
        intro x hx
        rcases List.mem_cons.mp hx with e | e
        · subst e; exact key_of I.hok (by rw [← hq.1]; exact hq.2.1)
        · exact ih x e
    obtain ⟨o2, its2, n2, g2, r2⟩ := this kt x hx
    exact ⟨o2, its2, n2, hk _ _ (Nat.ne_of_lt (Heap.lt_size g2)) (by simp) g2, r2⟩
  · have hm : (s.heap.objs.size == sysModules) = false := beq_eq_false_iff_ne.mpr (Nat.ne_of_gt I.big)
    have hn := I.hok.fresh (Nat.le_refl s.heap.objs.size)
    have k2 := kt_merge kt (.nil (F := fun (p : List Key × V) (q : List Key × Addr × Value) => p.1 = q.1 ∧ H q.2.1 = some (.tup (p.1.map kV)) ∧ RelV p.2 q.2.2))
    have k3 : KT (upd H s.heap.objs.size (.dT (mergeT [] (rs.map fun r => (r.2.1, r.2.2.2))))) (mergeT [] (rs.map fun r => (r.2.1, r.2.2.2))) (storedAllH [] ps) := k2.keeps fun b ys e => by rw [upd_ne (ne_of_none e hn)]; exact e
    have len : (mergeT [] (rs.map fun r => (r.2.1, r.2.2.2))).length ≤ sizeLine := by
      have h1 := storedAllH_length ps []
      have h2 := Paired.length k2
      have h3 : rs.length ≤ sizeLine := by rw [List.length_map] at hz; exact hz
      rw [h2]
      simp only [List.length_nil, Nat.zero_add] at h1
      exact Nat.le_trans h1 (by rw [lp]; exact h3)
    obtain ⟨o2, es, ep, g1, g2, g3, g4, _, g5⟩ := hd'
    exact ⟨.ref s.heap.objs.size, upd H s.heap.objs.size (.dT (mergeT [] (rs.map fun r => (r.2.1, r.2.2.2)))), I.laid (t' := tk) (fun b u e => hk b u (by simp) e) (Nat.le_refl _) ⟨len, hm, _, k3, o2, es, ep, g1, g2, g3, g4, g5⟩, rfl, q _ hn⟩
section
variable {α β : Type} [DecidableEq α] {t : Rp α} {u : Rp β} {D : Dt t} {K : PySem.W.Frag} {F H : Hp} {vs : List V} {ps : List (α × β)} {p : Addr} {Q : VK}
theorem pr_merge {Y : Dy t} : ∀ {rs : List (Y.κ × V)} {ps : List (α × β)}, Pr Y u F rs ps → ∀ {kvs : List (Y.κ × V)} {xs : List (α × β)}, Pr Y u F kvs xs → Pr Y u F (rs.foldl (fun acc kv => @putK _ Y.dec acc kv.1 kv.2) kvs) (ps.foldl (fun acc kv => dput acc kv.1 kv.2) xs)
  | _, _, .nil, _, _, h => h
  | _, _, .cons (a := a) (b := b) r t, kvs, xs, h => by
    have h2 : Pr Y u F (@putK _ Y.dec kvs a.1 a.2) (dput xs b.1 b.2) := by
      rw [r.1]
      exact pr_put h r.2
    have h3 := pr_merge t h2
    exact h3
theorem v_dictT (A : Kt D) (hs : Sub F H) (hq : SqL K H p vs) (hr : Al (eP2 t u) F vs ps) (k : ∀ q kvs, H q = none → Pr (dyT A) u F kvs (ofPairs ps) → Q (.ref q) (upd H q ((dyT A).ho kvs))) : qDictT K [.ref p] H Q := by
  have : ∀ {vs : List V} {ps : List (α × β)}, Al (eP2 t u) F vs ps → ∃ rs : List (Addr × List Key × Addr × V), vs = rs.map (fun r => V.ref r.1) ∧ (∀ r ∈ rs, F r.1 = some (.tup [.ref r.2.2.1, r.2.2.2]) ∧ F r.2.2.1 = some (.tup (r.2.1.map kV))) ∧ Pr (dyT A) u F (rs.map fun r => (r.2.1, r.2.2.2)) ps := fun h => by
    induction h with
    | nil => exact ⟨[], rfl, nofun, .nil⟩
    | @cons v x vs ps r t ih =>
      obtain ⟨rs, e, h1, h2⟩ := ih
      obtain ⟨a, y, z, rfl, q, ry, rz⟩ := r
      obtain ⟨b, rfl, qb⟩ := A.r ry
      exact ⟨(a, A.k x.1, b, z) :: rs, by rw [List.map_cons, ← e], fun r hr => (List.mem_cons.mp hr).elim (fun e => by subst e; exact ⟨q, qb⟩) (h1 r), .cons ⟨rfl, rz⟩ h2⟩
  obtain ⟨rs, rfl, h1, h2⟩ := this hr
  exact ⟨p, rs, rfl, hq, fun r hr => ⟨.inl (.inl (hs _ _ (h1 r hr).1)), hs _ _ (h1 r hr).2⟩, fun q hn => k q _ hn (pr_merge (kvs := []) (xs := []) h2 .nil)⟩
theorem v_dictK (A : Ke D) (hs : Sub F H) (hq : SqL K H p vs) (hr : Al (eP2 t u) F vs ps) (k : ∀ q kvs, H q = none → Pr (dyK A) u F kvs (ofPairs ps) → Q (.ref q) (upd H q ((dyK A).ho kvs))) : qDictK K [.ref p] H Q := by
  have : ∀ {vs : List V} {ps : List (α × β)}, Al (eP2 t u) F vs ps → ∃ (as : List Addr) (rs : List (Key × V)), vs = as.map V.ref ∧ Paired (fun a kv => SqT K H a [kV kv.1, kv.2]) as rs ∧ Pr (dyK A) u F rs ps := fun h => by
    induction h with
    | nil => exact ⟨[], [], rfl, .nil, .nil⟩
    | @cons v x vs ps r t ih =>
      obtain ⟨as, rs, e, h1, h2⟩ := ih
      obtain ⟨a, y, z, rfl, q, ry, rz⟩ := r
      have ey := A.r ry
      subst ey
      exact ⟨a :: as, (A.k x.1, z) :: rs, by rw [List.map_cons, ← e], .cons (.inl (.inl (hs _ _ q))) h1, .cons ⟨rfl, rz⟩ h2⟩
  obtain ⟨as, rs, rfl, h1, h2⟩ := this hr
  exact ⟨p, as, rs, rfl, hq, h1, fun q hn => k q _ hn (pr_merge (kvs := []) (xs := []) h2 .nil)⟩
theorem a_ssF {α : Type} {t : Rp α} {zs : List α} (hs : Sub F H) (k : ∀ p' us F' H', Gr [] F H F' H' → F' p' = some (.lst us) → Al t F' us zs → Q (.ref p') H') : ∀ l us, H l = none → Al t F us zs → Q (.ref l) (upd H l (.lst us)) :=
  fun l us hl h => k l us _ _ (gr_newF hs hl) upd_same (Al.mono h (Sub.up1 (hs.nn hl)))
theorem a_ssM {α : Type} {t : Rp α} {zs : List α} (hs : Sub F H) (k : ∀ p' us H', H p' = none → Gr [] F H F H' → F p' = none → H' p' = some (.lst us) → Al t F us zs → Q (.ref p') H') : ∀ l us, H l = none → Al t F us zs → Q (.ref l) (upd H l (.lst us)) :=
  fun l us hl h => k l us _ hl (gr_newM hs hl) (hs.nn hl) upd_same h
theorem a_dF {Y : Dy t} {zs : List (α × β)} (hs : Sub F H) (k : ∀ p' kvs F' H', Gr [] F H F' H' → F' p' = some (Y.ho kvs) → Pr Y u F' kvs zs → Q (.ref p') H') : ∀ l kvs, H l = none → Pr Y u F kvs zs → Q (.ref l) (upd H l (Y.ho kvs)) :=
  fun l kvs hl h => k l kvs _ _ (gr_newF hs hl) upd_same (Pr.mono h (Sub.up1 (hs.nn hl)))
theorem a_dM {Y : Dy t} {zs : List (α × β)} (hs : Sub F H) (k : ∀ p' kvs H', H p' = none → Gr [] F H F H' → F p' = none → H' p' = some (Y.ho kvs) → Pr Y u F kvs zs → Q (.ref p') H') : ∀ l kvs, H l = none → Pr Y u F kvs zs → Q (.ref l) (upd H l (Y.ho kvs)) :=
  fun l kvs hl h => k l kvs _ hl (gr_newM hs hl) (hs.nn hl) upd_same h
end
end U
set_option Elab.async false
set_option linter.all false
set_option maxRecDepth 100000
set_option maxHeartbeats 4000000
namespace U
open PySem PySem.Spec L2
/-! ### more rules by name, more values -/
def qAll (K : PySem.W.Frag) : RCl := fun vs H Q => ∃ (a : Addr) (bs : List Bool), vs = [V.ref a] ∧ SqL K H a (bs.map V.bl) ∧ Q (.bl (bs.all id)) H
def qAny (K : PySem.W.Frag) : RCl := fun vs H Q => ∃ (a : Addr) (bs : List Bool), vs = [V.ref a] ∧ SqL K H a (bs.map V.bl) ∧ Q (.bl (bs.any id)) H
def qSum (K : PySem.W.Frag) : RCl := fun vs H Q => ∃ (a : Addr) (ns : List Int), vs = [V.ref a] ∧ SqL K H a (ns.map V.int) ∧ Q (.int ns.sum) H
def qMax (K : PySem.W.Frag) : RCl := fun vs H Q => ∃ (a : Addr) (ns : List Int), vs = [V.ref a] ∧ SqL K H a (ns.map V.int) ∧ 0 < ns.length ∧ ∀ m, m ∈ ns → (∀ y, y ∈ ns → y ≤ m) → Q (.int m) H
def qMin (K : PySem.W.Frag) : RCl := fun vs H Q => ∃ (a : Addr) (ns : List Int), vs = [V.ref a] ∧ SqL K H a (ns.map V.int) ∧ 0 < ns.length ∧ ∀ m, m ∈ ns → (∀ y, y ∈ ns → m ≤ y) → Q (.int m) H
section
variable {X : Cx} {K : PySem.W.Frag} {n : Nat}
theorem c_all (hK : X.K = K) (hr : X.calm = true) : CallR X (.builtin "all") (qAll K) := by subst hK; exact cr_all hr
theorem c_any (hK : X.K = K) (hr : X.calm = true) : CallR X (.builtin "any") (qAny K) := by subst hK; exact cr_any hr
theorem c_sum (hK : X.K = K) (hr : X.calm = true) : CallR X (.builtin "sum") (qSum K) := by subst hK; exact cr_sum hr
theorem c_maxL (hK : X.K = K) (hr : X.calm = true) : CallR X (.builtin "max") (qMax K) := by subst hK; exact cr_max hr
theorem c_minL (hK : X.K = K) (hr : X.calm = true) : CallR X (.builtin "min") (qMin K) := by subst hK; exact cr_min hr
theorem c_inD (hK : X.K = K) (hr : Room n X.A) : OpR X (compareOp .In) (rInD K) := by subst hK; exact op_inD (by have := hr.un; omega)
theorem c_notInD (hK : X.K = K) (hr : Room n X.A) : OpR X (compareOp .NotIn) (rNotInD K) := by subst hK; exact op_notInD (by have := hr.un; omega)
theorem c_indexD (hK : X.K = K) (hr : Room n X.A) : MtR X "list.index" (rIndexD K) := by subst hK; exact mt_indexD (by have := hr.un; omega)
theorem un1 {A : Around} (hr : Room n A) : A.units + 1 < cLine := by have := hr.un; omega
end
def qInS : R2 := fun x y H Q => ∃ i j, x = .str i ∧ y = .str j ∧ Q (.bl (!(Builtin.Str.occurrences j i 0 j.length 1).isEmpty)) H
def qNotInS : R2 := fun x y H Q => ∃ i j, x = .str i ∧ y = .str j ∧ Q (.bl (!(!(Builtin.Str.occurrences j i 0 j.length 1).isEmpty))) H
theorem c_inS {X : Cx} : OpR X (compareOp .In) qInS := op_in_str
theorem c_notInS {X : Cx} : OpR X (compareOp .NotIn) qNotInS := op_notin_str
def inSg (a b : Sg) : Bool := !(Builtin.Str.occurrences (S b) (S a) 0 (S b).length 1).isEmpty
def maxM (xs : List Int) : Option Int := xs.foldl (fun m x => match m with
  | none => some x
  | some y => some (if x > y then x else y)) none
def minM (xs : List Int) : Option Int := xs.foldl (fun m x => match m with
  | none => some x
  | some y => some (if x < y then x else y)) none
theorem maxM_ok {xs : List Int} {m : Int} (h : maxM xs = some m) : m ∈ xs ∧ ∀ y ∈ xs, y ≤ m := by
  have key : ∀ (xs : List Int) (a m : Int), xs.foldl (fun m x => match m with
    | none => some x
    | some y => some (if x > y then x else y)) (some a) = some m → (m = a ∨ m ∈ xs) ∧ a ≤ m ∧ ∀ y ∈ xs, y ≤ m := fun xs => by
    induction xs with
    | nil => intro a m h; have := Option.some.inj h; subst this; exact ⟨.inl rfl, Int.le_refl _, nofun⟩
    | cons x xs ih =>
      intro a m h
      obtain ⟨h1, h2, h3⟩ := ih (if x > a then x else a) m h
      have h4 : a ≤ m ∧ x ≤ m := by split at h2 <;> omega
      refine ⟨?_, h4.1, fun y hy => ?_⟩
      · rcases h1 with h1 | h1
        · split at h1
          · exact .inr (h1 ▸ List.mem_cons_self)
          · exact .inl h1
        · exact .inr (List.mem_cons_of_mem _ h1)
      · rcases List.mem_cons.mp hy with e | e
        · rw [e]; exact h4.2
        · exact h3 y e
  cases xs with
  | nil => cases h
  | cons x xs =>
    obtain ⟨h1, h2, h3⟩ := key xs x m h
    exact ⟨h1.elim (fun e => e ▸ List.mem_cons_self) (List.mem_cons_of_mem _), fun y hy => (List.mem_cons.mp hy).elim (fun e => e ▸ h2) (h3 y)⟩
theorem minM_ok {xs : List Int} {m : Int} (h : minM xs = some m) : m ∈ xs ∧ ∀ y ∈ xs, m ≤ y := by
  have key : ∀ (xs : List Int) (a m : Int), xs.foldl (fun m x => match m with
    | none => some x
    | some y => some (if x < y then x else y)) (some a) = some m → (m = a ∨ m ∈ xs) ∧ m ≤ a ∧ ∀ y ∈ xs, m ≤ y := fun xs => by
    induction xs with
    | nil => intro a m h; have := Option.some.inj h; subst this; exact ⟨.inl rfl, Int.le_refl _, nofun⟩
    | cons x xs ih =>
      intro a m h
      obtain ⟨h1, h2, h3⟩ := ih (if x < a then x else a) m h
      have h4 : m ≤ a ∧ m ≤ x := by split at h2 <;> omega
      refine ⟨?_, h4.1, fun y hy => ?_⟩
      · rcases h1 with h1 | h1
        · split at h1
          · exact .inr (h1 ▸ List.mem_cons_self)
          · exact .inl h1
        · exact .inr (List.mem_cons_of_mem _ h1)
      · rcases List.mem_cons.mp hy with e | e
        · rw [e]; exact h4.2
        · exact h3 y e
  cases xs with
  | nil => cases h
  | cons x xs =>
    obtain ⟨h1, h2, h3⟩ := key xs x m h
    exact ⟨h1.elim (fun e => e ▸ List.mem_cons_self) (List.mem_cons_of_mem _), fun y hy => (List.mem_cons.mp hy).elim (fun e => e ▸ h2) (h3 y)⟩
def idxM {α : Type} [DecidableEq α] (xs : List α) (a : α) : Option Int := (xs.findIdx? fun x => decide (x = a)).map fun (j : Nat) => (j : Int)
def popAtM {α : Type} (xs : List α) (i : Int) : Option (α × List α) := need (decide (-(2 ^ 63) ≤ i ∧ i < 2 ^ 63)) () |>.bind fun _ => (seqIndex? i xs.length).bind fun k => (xs[k]?).map fun a => (a, xs.eraseIdx k)
section
variable {K : PySem.W.Frag} {H F : Hp} {Q : VK} {p : Addr} {vs : List V} {xs : List Int} {bs : List Bool} {m : Int}
theorem v_all (hq : SqL K H p vs) (hr : Al eB F vs bs) (k : Q (.bl (bs.all id)) H) : qAll K [.ref p] H Q := by
  have e := al_bl hr
  subst e
  exact ⟨p, bs, rfl, hq, k⟩
theorem v_any (hq : SqL K H p vs) (hr : Al eB F vs bs) (k : Q (.bl (bs.any id)) H) : qAny K [.ref p] H Q := by
  have e := al_bl hr
  subst e
  exact ⟨p, bs, rfl, hq, k⟩
theorem v_sum (hq : SqL K H p vs) (hr : Al eI F vs xs) (k : Q (.int xs.sum) H) : qSum K [.ref p] H Q := by
  have e := al_int hr
  subst e
  exact ⟨p, xs, rfl, hq, k⟩
theorem v_maxL (hq : SqL K H p vs) (hr : Al eI F vs xs) (h : maxM xs = some m) (k : Q (.int m) H) : qMax K [.ref p] H Q := by
  have e := al_int hr
  subst e
  obtain ⟨h1, h2⟩ := maxM_ok h
  exact ⟨p, xs, rfl, hq, List.length_pos_of_mem h1, fun n n1 n2 => by
    have : n = m := Int.le_antisymm (h2 n n1) (n2 m h1)
    subst this; exact k⟩
theorem v_minL (hq : SqL K H p vs) (hr : Al eI F vs xs) (h : minM xs = some m) (k : Q (.int m) H) : qMin K [.ref p] H Q := by
  have e := al_int hr
  subst e
  obtain ⟨h1, h2⟩ := minM_ok h
  exact ⟨p, xs, rfl, hq, List.length_pos_of_mem h1, fun n n1 n2 => by
    have : n = m := Int.le_antisymm (n2 m h1) (h2 n n1)
    subst this; exact k⟩
theorem v_inS {a b : Sg} (k : Q (.bl (inSg a b)) H) : qInS (.str (S a)) (.str (S b)) H Q := ⟨_, _, rfl, rfl, k⟩
theorem v_notInS {a b : Sg} (k : Q (.bl (!inSg a b)) H) : qNotInS (.str (S a)) (.str (S b)) H Q := ⟨_, _, rfl, rfl, k⟩
end
section
variable {α : Type} [DecidableEq α] {t : Rp α} {K : PySem.W.Frag} {H F : Hp} {Q : VK} {p : Addr} {vs : List V} {xs : List α} {a : α} {v w : V} {d e : PyData}
theorem any_eqv (D : Dt t) (xs : List α) (a : α) : ((xs.map D.d).any fun z => PyData.eqv z (D.d a)) = decide (a ∈ xs) := by
  induction xs with
  | nil => rfl
  | cons x xs ih =>
    rw [List.map_cons, List.any_cons, ih, eqv_dec D]
    rw [Bool.eq_iff_iff]
    simp only [Bool.or_eq_true, decide_eq_true_eq, List.mem_cons]
    exact ⟨fun h => h.imp Eq.symm id, fun h => h.imp Eq.symm id⟩
theorem v_inD (D : Dt t) (h1 : Dp K H v (D.d a)) (h2 : Dp K H w (.list (xs.map D.d))) (hb : eqB (D.d a) (.list (xs.map D.d)) = true) (k : Q (.bl (decide (a ∈ xs))) H) : rInD K v w H Q := by
  unfold eqB at hb
  rw [Bool.and_eq_true] at hb
  exact ⟨_, _, h1, h2, hb.1, hb.2, by rw [any_eqv]; exact k⟩
theorem v_notInD (D : Dt t) (h1 : Dp K H v (D.d a)) (h2 : Dp K H w (.list (xs.map D.d))) (hb : eqB (D.d a) (.list (xs.map D.d)) = true) (k : Q (.bl (!decide (a ∈ xs))) H) : rNotInD K v w H Q := by
  unfold eqB at hb
  rw [Bool.and_eq_true] at hb
  exact ⟨_, _, h1, h2, hb.1, hb.2, by rw [any_eqv]; exact k⟩
theorem v_indexD {j : Int} (D : Dt t) (h1 : Dp K H v (D.d a)) (h2 : Dp K H (.ref p) (.list (xs.map D.d))) (hb : eqB (D.d a) (.list (xs.map D.d)) = true) (h : idxM xs a = some j) (k : Q (.int j) H) : rIndexD K (.ref p) [v] H Q := by
  unfold eqB at hb
  rw [Bool.and_eq_true] at hb
  unfold idxM at h
  cases e : xs.findIdx? fun x => decide (x = a) with
  | none => rw [e] at h; cases h
  | some i =>
    rw [e] at h
    have ej : (i : Int) = j := Option.some.inj h
    subst ej
    obtain ⟨hi, pi, no⟩ := List.findIdx?_eq_some_iff_getElem.mp e
    refine ⟨p, v, _, _, i, D.d xs[i], rfl, rfl, h2, h1, hb.2, hb.1, by rw [List.getElem?_map, List.getElem?_eq_getElem hi]; rfl, (D.eqv _ _).mpr (of_decide_eq_true pi), fun m z hm hz => ?_, k⟩
    rw [List.getElem?_map] at hz
    rw [List.getElem?_eq_getElem (by omega)] at hz
    have ez := Option.some.inj hz
    subst ez
    rw [eqv_dec D]
    exact decide_eq_false fun z => by have := no m hm; simp [z] at this
end
section
variable {α β : Type} {t : Rp α} {K : PySem.W.Frag} {H F H0 F0 H' F' : Hp} {Q : VK} {p q : Addr} {vs : List V} {xs : List α} {v w : V} {σ : L2.St} {W : List Addr} {o u : HO}
theorem n_isN {ta : TE} (h : ta σ H fun x H1 => Q (.bl (decide (x = .non))) H1) : tIsN ta σ H Q := h
theorem n_notN {ta : TE} (h : ta σ H fun x H1 => Q (.bl (!decide (x = .non))) H1) : tNotN ta σ H Q := h
theorem opt_non {x : Option α} (h : (eO t).r F v x) : decide (v = .non) = x.isNone := by
  cases x with
  | none => have e : v = .non := h; rw [e]; rfl
  | some a => rw [decide_eq_false h.1]; rfl
theorem v_isN {x : Option α} (h : (eO t).r F v x) (k : Q (.bl x.isNone) H) : Q (.bl (decide (v = .non))) H := by rw [opt_non h]; exact k
theorem v_notN {x : Option α} (h : (eO t).r F v x) (k : Q (.bl (!x.isNone)) H) : Q (.bl (!decide (v = .non))) H := by rw [opt_non h]; exact k
theorem pd_erase {R : V → α → Prop} : ∀ {vs : List V} {xs : List α} (n : Nat), Paired R vs xs → Paired R (vs.eraseIdx n) (xs.eraseIdx n)
  | _, _, _, .nil => .nil
  | _, _, 0, .cons _ h => h
  | _, _, n + 1, .cons r h => .cons r (pd_erase n h)
theorem v_popAt {i : Int} {m : α × List α} (hp : H p = some (.lst vs)) (hr : Al t F vs xs) (h : popAtM xs i = some m) (k : ∀ v n, t.r F v m.1 → Al t F (vs.eraseIdx n) m.2 → Q v (upd H p (.lst (vs.eraseIdx n)))) : rPopAt (.ref p) [.int i] H Q := by
  unfold popAtM at h
  obtain ⟨_, h1, h⟩ := bnd h
  have hb := of_decide_eq_true (need_ok h1).1
  obtain ⟨n, hn, h⟩ := bnd h
  cases e : xs[n]? with
  | none => rw [e] at h; cases h
  | some a =>
    rw [e] at h
    have em : (a, xs.eraseIdx n) = m := Option.some.inj h
    subst em
    obtain ⟨v, ev, rv⟩ := pd_get hr e
    exact ⟨p, vs, i, n, v, rfl, rfl, hp, hb.1, hb.2, by rw [al_len hr]; exact hn, ev, k v n rv (pd_erase n hr)⟩
theorem v_clear (hp : H p = some (.lst vs)) (k : Q .non (upd H p (.lst []))) : rClear (.ref p) [] H Q := ⟨p, vs, rfl, rfl, hp, k⟩
theorem v_reverse (hp : H p = some (.lst vs)) (k : Q .non (upd H p (.lst vs.reverse))) : rReverse (.ref p) [] H Q := ⟨p, vs, rfl, rfl, hp, k⟩
/-! a list of one's own lent to a call that reads it -/
theorem lend (m : Mu W H0 F H p o) (hs : Sub F H) : ∃ F1, F1 p = some o ∧ Sub F F1 ∧ Sub F1 H ∧ (∀ q u, q ≠ p → F q = u → F1 q = u) :=
  ⟨upd F p o, upd_same, Sub.up1 m.fr, fun a u e => by
    by_cases h : a = p
    · subst h; rw [upd_same] at e; cases e; exact m.hp
    · rw [upd_ne h] at e; exact hs a u e, fun q u ne e => by rw [upd_ne ne]; exact e⟩
theorem unlend {F1 : Hp} (s1 : Sub F F1) (g : Gr [] F1 H F' H') : Gr [] F H F H' := ⟨Sub.refl F, fun a u e => g.fh a u (g.ff a u (s1 a u e)), g.hh, g.lv, fun a _ n => n⟩
/-- what doesn't ask the heap -/
def Hf (t : Rp α) : Prop := ∀ (F F' : Hp) (v : V) (x : α), t.r F v x → t.r F' v x
theorem hf_I : Hf eI := fun _ _ _ _ h => h
theorem hf_B : Hf eB := fun _ _ _ _ h => h
theorem hf_S : Hf eS := fun _ _ _ _ h => h
theorem hf_N : Hf eN := fun _ _ _ _ h => h
theorem hf_O {t : Rp α} (h : Hf t) : Hf (eO t) := fun F F' v x r => by
  cases x with
  | none => exact r
  | some a => exact ⟨r.1, h F F' v a r.2⟩
theorem hf_al {t : Rp α} (h : Hf t) (a : Al t F vs xs) : Al t F' vs xs := Paired.mapP a fun _ _ z => h F F' _ _ z
/-- a conditional expression in general -/
theorem br_ifE {b : Bool} {ta tb : TE} (I : V → Hp → Prop) (h1 : b = true → ∀ Q' : VK, (∀ v H', I v H' → Q' v H') → ta σ H Q') (h2 : b = false → ∀ Q' : VK, (∀ v H', I v H' → Q' v H') → tb σ H Q') (k : ∀ v H', I v H' → Q v H') : qIfE ta tb σ Q b H := by
  unfold qIfE
  cases b with
  | true => rw [if_pos rfl]; exact h1 rfl Q k
  | false => rw [if_neg Bool.false_ne_true]; exact h2 rfl Q k
end
section
variable {α β γ : Type} {t : Rp α} {u : Rp β} {w : Rp γ} {D : Dt t} {E : Dt u} {G : Dt w}
theorem dl_I (n : Nat) (x : Int) : (dI.d x).depth ≤ n := by show (PyData.int x).depth ≤ n; simp only [PyData.depth]; exact Nat.zero_le _
theorem dl_S (n : Nat) (x : Sg) : (dS.d x).depth ≤ n := by show (PyData.str (S x)).depth ≤ n; simp only [PyData.depth]; exact Nat.zero_le _
theorem dl_B (n : Nat) (x : Bool) : (dB.d x).depth ≤ n := by show (PyData.bool x).depth ≤ n; simp only [PyData.depth]; exact Nat.zero_le _
theorem dl_P2 {n : Nat} (h : ∀ x, (D.d x).depth ≤ n) (k : ∀ x, (E.d x).depth ≤ n) (x : α × β) : ((dP2 D E).d x).depth ≤ n + 1 := by
  have h1 := h x.1
  have h2 := k x.2
  show (PyData.tuple [D.d x.1, E.d x.2]).depth ≤ n + 1
  simp only [PyData.depth, PyData.depthAll]; omega
theorem dl_P3 {n : Nat} (h : ∀ x, (D.d x).depth ≤ n) (k : ∀ x, (E.d x).depth ≤ n) (l : ∀ x, (G.d x).depth ≤ n) (x : α × β × γ) : ((dP3 D E G).d x).depth ≤ n + 1 := by
  have h1 := h x.1
  have h2 := k x.2.1
  have h3 := l x.2.2
  show (PyData.tuple [D.d x.1, E.d x.2.1, G.d x.2.2]).depth ≤ n + 1
  simp only [PyData.depth, PyData.depthAll]; omega
end
section
variable {α : Type} {t : Rp α} {K : PySem.W.Frag} {H F : Hp} {Q : VK} {p : Addr} {vs : List V} {xs : List α}
theorem v_listF (hs : Sub F H) (hq : SqL K H p vs ∨ SqT K H p vs) (hr : Al t F vs xs) (k : ∀ p' us F' H', Gr [] F H F' H' → F' p' = some (.lst us) → Al t F' us xs → Q (.ref p') H') : qList K [.ref p] H Q := ⟨p, vs, rfl, hq, fun l hl => k l _ _ _ (gr_newF hs hl) upd_same (Al.mono hr (Sub.up1 (hs.nn hl)))⟩
theorem v_listM (hs : Sub F H) (hq : SqL K H p vs ∨ SqT K H p vs) (hr : Al t F vs xs) (k : ∀ p' us H', H p' = none → Gr [] F H F H' → F p' = none → H' p' = some (.lst us) → Al t F us xs → Q (.ref p') H') : qList K [.ref p] H Q := ⟨p, vs, rfl, hq, fun l hl => k l _ _ hl (gr_newM hs hl) (hs.nn hl) upd_same hr⟩
end
section
variable {α β : Type} [DecidableEq α] {t : Rp α} {u : Rp β} {D : Dt t} {K : PySem.W.Frag} {H F : Hp} {Q : VK} {p : Addr} {vs : List V} {xs : List α} {ps : List (α × β)}
theorem v_ssetKF (S : So D) (A : Ke D) (O : Lo S.lt) (hs : Sub F H) (hq : SqL K H p vs) (hr : Al t F vs xs) (hb : ssetB 3999 xs = true) (k : ∀ p' us F' H', Gr [] F H F' H' → F' p' = some (.lst us) → Al t F' us (ssetL S.lt xs) → Q (.ref p') H') : qSset K RK datK 3999 [.ref p] H Q := v_ssetK S A O hs hq hr hb (a_ssF (Q := Q) hs k)
theorem v_ssetKM (S : So D) (A : Ke D) (O : Lo S.lt) (hs : Sub F H) (hq : SqL K H p vs) (hr : Al t F vs xs) (hb : ssetB 3999 xs = true) (k : ∀ p' us H', H p' = none → Gr [] F H F H' → F p' = none → H' p' = some (.lst us) → Al t F us (ssetL S.lt xs) → Q (.ref p') H') : qSset K RK datK 3999 [.ref p] H Q := v_ssetK S A O hs hq hr hb (a_ssM (Q := Q) hs k)
theorem v_ssetTF (S : So D) (A : Kt D) (O : Lo S.lt) (hs : Sub F H) (hq : SqL K H p vs) (hr : Al t F vs xs) (hb : ssetB 63 xs = true) (k : ∀ p' us F' H', Gr [] F H F' H' → F' p' = some (.lst us) → Al t F' us (ssetL S.lt xs) → Q (.ref p') H') : qSset K (RT K) datT 63 [.ref p] H Q := v_ssetT S A O hs hq hr hb (a_ssF (Q := Q) hs k)
theorem v_ssetTM (S : So D) (A : Kt D) (O : Lo S.lt) (hs : Sub F H) (hq : SqL K H p vs) (hr : Al t F vs xs) (hb : ssetB 63 xs = true) (k : ∀ p' us H', H p' = none → Gr [] F H F H' → F p' = none → H' p' = some (.lst us) → Al t F us (ssetL S.lt xs) → Q (.ref p') H') : qSset K (RT K) datT 63 [.ref p] H Q := v_ssetT S A O hs hq hr hb (a_ssM (Q := Q) hs k)
theorem v_dictTF (A : Kt D) (hs : Sub F H) (hq : SqL K H p vs) (hr : Al (eP2 t u) F vs ps) (k : ∀ p' kvs F' H', Gr [] F H F' H' → F' p' = some ((dyT A).ho kvs) → Pr (dyT A) u F' kvs (ofPairs ps) → Q (.ref p') H') : qDictT K [.ref p] H Q := v_dictT A hs hq hr (a_dF (Q := Q) hs k)
theorem v_dictTM (A : Kt D) (hs : Sub F H) (hq : SqL K H p vs) (hr : Al (eP2 t u) F vs ps) (k : ∀ p' kvs H', H p' = none → Gr [] F H F H' → F p' = none → H' p' = some ((dyT A).ho kvs) → Pr (dyT A) u F kvs (ofPairs ps) → Q (.ref p') H') : qDictT K [.ref p] H Q := v_dictT A hs hq hr (a_dM (Q := Q) hs k)
theorem v_dictKF (A : Ke D) (hs : Sub F H) (hq : SqL K H p vs) (hr : Al (eP2 t u) F vs ps) (k : ∀ p' kvs F' H', Gr [] F H F' H' → F' p' = some ((dyK A).ho kvs) → Pr (dyK A) u F' kvs (ofPairs ps) → Q (.ref p') H') : qDictK K [.ref p] H Q := v_dictK A hs hq hr (a_dF (Q := Q) hs k)
theorem v_dictKM (A : Ke D) (hs : Sub F H) (hq : SqL K H p vs) (hr : Al (eP2 t u) F vs ps) (k : ∀ p' kvs H', H p' = none → Gr [] F H F H' → F p' = none → H' p' = some ((dyK A).ho kvs) → Pr (dyK A) u F kvs (ofPairs ps) → Q (.ref p') H') : qDictK K [.ref p] H Q := v_dictK A hs hq hr (a_dM (Q := Q) hs k)
end
/-! what == takes: all typed data -/
structure Sh {α : Type} {t : Rp α} (D : Dt t) (n : Nat) : Prop where
  ok : ∀ x, (D.d x).canLay0 = true ∧ (D.d x).depth ≤ n
section
variable {α β γ : Type} {t : Rp α} {u : Rp β} {w : Rp γ} {D : Dt t} {E : Dt u} {G : Dt w} {n m l : Nat}
theorem sh_I : Sh dI 0 := ⟨fun x => by show (PyData.int x).canLay0 = true ∧ (PyData.int x).depth ≤ 0; simp only [PyData.canLay0, PyData.depth]; exact ⟨trivial, Nat.le_refl _⟩⟩
theorem sh_B : Sh dB 0 := ⟨fun x => by show (PyData.bool x).canLay0 = true ∧ (PyData.bool x).depth ≤ 0; simp only [PyData.canLay0, PyData.depth]; exact ⟨trivial, Nat.le_refl _⟩⟩
theorem sh_N : Sh dN 0 := ⟨fun x => by show PyData.none.canLay0 = true ∧ PyData.none.depth ≤ 0; simp only [PyData.canLay0, PyData.depth]; exact ⟨trivial, Nat.le_refl _⟩⟩
theorem sh_P2 (h : Sh D n) (k : Sh E m) : Sh (dP2 D E) (n + m + 1) := ⟨fun x => by
  obtain ⟨h1, h2⟩ := h.ok x.1
  obtain ⟨h3, h4⟩ := k.ok x.2
  show (PyData.tuple [D.d x.1, E.d x.2]).canLay0 = true ∧ (PyData.tuple [D.d x.1, E.d x.2]).depth ≤ n + m + 1
  simp only [PyData.canLay0, PyData.canLayAll0, PyData.depth, PyData.depthAll, h1, h3]
  exact ⟨rfl, by omega⟩⟩
theorem sh_P3 (h : Sh D n) (k : Sh E m) (j : Sh G l) : Sh (dP3 D E G) (n + m + l + 1) := ⟨fun x => by
  obtain ⟨h1, h2⟩ := h.ok x.1
  obtain ⟨h3, h4⟩ := k.ok x.2.1
  obtain ⟨h5, h6⟩ := j.ok x.2.2
  show (PyData.tuple [D.d x.1, E.d x.2.1, G.d x.2.2]).canLay0 = true ∧ (PyData.tuple [D.d x.1, E.d x.2.1, G.d x.2.2]).depth ≤ n + m + l + 1
  simp only [PyData.canLay0, PyData.canLayAll0, PyData.depth, PyData.depthAll, h1, h3, h5]
  exact ⟨rfl, by omega⟩⟩
theorem sh_all (h : Sh D n) (xs : List α) : PyData.canLayAll0 (xs.map D.d) = true ∧ PyData.depthAll (xs.map D.d) ≤ n := by
  induction xs with
  | nil => simp only [List.map_nil, PyData.canLayAll0, PyData.depthAll]; exact ⟨trivial, Nat.zero_le _⟩
  | cons x xs ih =>
    obtain ⟨h1, h2⟩ := h.ok x
    simp only [List.map_cons, PyData.canLayAll0, PyData.depthAll, h1, ih.1]
    exact ⟨rfl, by have := ih.2; omega⟩
theorem sh_L (h : Sh D n) : Sh (dL D) (n + 1) := ⟨fun x => by
  obtain ⟨h1, h2⟩ := sh_all h x
  show (PyData.list (x.map D.d)).canLay0 = true ∧ (PyData.list (x.map D.d)).depth ≤ n + 1
  simp only [PyData.canLay0, PyData.depth, h1]
  exact ⟨trivial, by omega⟩⟩
theorem sh_T (h : Sh D n) : Sh (dT D) (n + 1) := ⟨fun x => by
  obtain ⟨h1, h2⟩ := sh_all h x
  show (PyData.tuple (x.map D.d)).canLay0 = true ∧ (PyData.tuple (x.map D.d)).depth ≤ n + 1
  simp only [PyData.canLay0, PyData.depth, h1]
  exact ⟨trivial, by omega⟩⟩
theorem sh_O {nn : ∀ x, isNoneD (D.d x) = false} (h : Sh D n) : Sh (dO D nn) n := ⟨fun x => by
  cases x with
  | none => exact ⟨(sh_N.ok ()).1, Nat.le_trans (sh_N.ok ()).2 (Nat.zero_le _)⟩
  | some a => exact h.ok a⟩
theorem eqB_sh (h : Sh D n) (k : Sh E m) (hn : n ≤ 64) (hm : m ≤ 64) (x : α) (y : β) : eqB (D.d x) (E.d y) = true := by
  unfold eqB SeqAt.shaped
  rw [(h.ok x).1, (k.ok y).1, decide_eq_true (Nat.le_trans (h.ok x).2 hn), decide_eq_true (Nat.le_trans (k.ok y).2 hm)]; rfl
end
/-! plain: what == takes, where texts are within -/
structure Sk1 (e : Nat) (d : PyData) : Prop where
  can : d.canLay0 = true
  dp : d.depth ≤ e
structure Sks (e : Nat) (ds : List PyData) : Prop where
  can : PyData.canLayAll0 ds = true
  dp : PyData.depthAll ds ≤ e
theorem sk_str {s : Sg} (hs : ∀ c ∈ s, c < 1114112) : Sk1 0 (.str (S s)) := ⟨by
  simp only [PyData.canLay0]
  show (s.toArray.all fun c => decide (c < 1114112)) = true
  rw [List.all_toArray]
  exact List.all_eq_true.mpr fun c hc => decide_eq_true (hs c hc), by simp only [PyData.depth]; exact Nat.le_refl _⟩
theorem sk_int (i : Int) : Sk1 0 (.int i) := ⟨by simp only [PyData.canLay0], by simp only [PyData.depth]; exact Nat.le_refl _⟩
theorem sk_bool (i : Bool) : Sk1 0 (.bool i) := ⟨by simp only [PyData.canLay0], by simp only [PyData.depth]; exact Nat.le_refl _⟩
theorem sk_none : Sk1 0 .none := ⟨by simp only [PyData.canLay0], by simp only [PyData.depth]; exact Nat.le_refl _⟩
theorem sks_nil {e : Nat} : Sks e [] := ⟨by simp only [PyData.canLayAll0], by simp only [PyData.depthAll]; exact Nat.zero_le _⟩
theorem sks_cons {e : Nat} {d : PyData} {ds : List PyData} (h : Sk1 e d) (h' : Sks e ds) : Sks e (d :: ds) := ⟨by simp only [PyData.canLayAll0, h.can, h'.can, Bool.and_self], by simp only [PyData.depthAll]; exact Nat.max_le.mpr ⟨h.dp, h'.dp⟩⟩
theorem sks_all {e : Nat} : ∀ {ds : List PyData}, (∀ d ∈ ds, Sk1 e d) → Sks e ds
  | [], _ => sks_nil
  | _ :: _, h => sks_cons (h _ List.mem_cons_self) (sks_all fun c hc => h c (List.mem_cons_of_mem _ hc))
theorem sk_list {e : Nat} {ds : List PyData} (h : Sks e ds) : Sk1 (e + 1) (.list ds) := ⟨by simp only [PyData.canLay0]; exact h.can, by simp only [PyData.depth]; exact Nat.succ_le_succ h.dp⟩
theorem sk_tup {e : Nat} {ds : List PyData} (h : Sks e ds) : Sk1 (e + 1) (.tuple ds) := ⟨by simp only [PyData.canLay0]; exact h.can, by simp only [PyData.depth]; exact Nat.succ_le_succ h.dp⟩
theorem Sk1.mono {e e' : Nat} {d : PyData} (h : Sk1 e d) (he : e ≤ e') : Sk1 e' d := ⟨h.can, Nat.le_trans h.dp he⟩
theorem eqB_of {e e' : Nat} {d d' : PyData} (h : Sk1 e d) (h' : Sk1 e' d') (he : e ≤ 64) (he' : e' ≤ 64) : eqB d d' = true := by
  unfold eqB SeqAt.shaped
  rw [h.can, h'.can, decide_eq_true (Nat.le_trans h.dp he), decide_eq_true (Nat.le_trans h'.dp he')]; rfl
end U
set_option Elab.async false
set_option linter.all false
set_option maxRecDepth 100000
set_option maxHeartbeats 4000000
namespace U
open PySem PySem.Spec L2
open PySem.W (alike dataLt)
/-! ### order of data -/
def qCmpD (K : PySem.W.Frag) (f : PyData → PyData → Bool) : R2 := fun x y H Q => ∃ d e, Dp K H x d ∧ Dp K H y e ∧ alike d e = true ∧ d ≠ .none ∧ d.depth ≤ 60 ∧ Q (.bl (f d e)) H
section
variable {X : Cx} {K : PySem.W.Frag} {n : Nat}
theorem c_ltD (hK : X.K = K) (hr : Room n X.A) : OpR X (compareOp .Lt) (qCmpD K fun d e => dataLt d e) := by
  subst hK
  intro pins s σ H x y v u Q I rx ry ⟨d, e, hd, he, ha, hn, hp, q⟩
  obtain ⟨as, r1⟩ := Dp.reads I d _ _ hd rx
  obtain ⟨bs, r2⟩ := Dp.reads I e _ _ he ry
  exact PySem.W.lt_data r1 r2 ha hn (by have := hr.un; omega) ⟨.bl _, H, I, rfl, q⟩
theorem c_gtD (hK : X.K = K) (hr : Room n X.A) : OpR X (compareOp .Gt) (qCmpD K fun d e => dataLt e d) := by
  subst hK
  intro pins s σ H x y v u Q I rx ry ⟨d, e, hd, he, ha, hn, hp, q⟩
  obtain ⟨as, r1⟩ := Dp.reads I d _ _ hd rx
  obtain ⟨bs, r2⟩ := Dp.reads I e _ _ he ry
  exact PySem.W.gt_data r1 r2 ha hn (by have := hr.un; omega) ⟨.bl _, H, I, rfl, q⟩
theorem c_leD (hK : X.K = K) (hr : Room n X.A) : OpR X (compareOp .LtE) (qCmpD K fun d e => !dataLt e d) := by
  subst hK
  intro pins s σ H x y v u Q I rx ry ⟨d, e, hd, he, ha, hn, hp, q⟩
  obtain ⟨as, r1⟩ := Dp.reads I d _ _ hd rx
  obtain ⟨bs, r2⟩ := Dp.reads I e _ _ he ry
  exact PySem.W.le_data r1 r2 ha hn (by have := hr.un; omega) ⟨.bl _, H, I, rfl, q⟩
theorem c_geD (hK : X.K = K) (hr : Room n X.A) : OpR X (compareOp .GtE) (qCmpD K fun d e => !dataLt d e) := by
  subst hK
  intro pins s σ H x y v u Q I rx ry ⟨d, e, hd, he, ha, hn, hp, q⟩
  obtain ⟨as, r1⟩ := Dp.reads I d _ _ hd rx
  obtain ⟨bs, r2⟩ := Dp.reads I e _ _ he ry
  exact PySem.W.ge_data r1 r2 ha hn (by have := hr.un; omega) ⟨.bl _, H, I, rfl, q⟩
end
section
variable {α : Type} {t : Rp α} {D : Dt t} {K : PySem.W.Frag} {H : Hp} {Q : VK} {v w : V} {a b : α} {f : PyData → PyData → Bool} {c : Bool}
theorem so_nn (S : So D) (x : α) : D.d x ≠ .none := S.so.elim (fun h e => by obtain ⟨a, r, q⟩ := h x; rw [q] at e; cases e) fun h => (h x).1
theorem v_cmpD (S : So D) (h1 : Dp K H v (D.d a)) (h2 : Dp K H w (D.d b)) (e : f (D.d a) (D.d b) = c) (k : Q (.bl c) H) : qCmpD K f v w H Q := ⟨_, _, h1, h2, S.al a b, so_nn S a, S.dp a, by rw [e]; exact k⟩
end
theorem c_revL {X : Cx} {K : PySem.W.Frag} {e : Expr} {te : TE} {k : Nat} {p1 p2 p3 pos : Pos} (hK : X.K = K) (he : PE X e te) : PE X (.Subscript e (.Slice none none (some (.UnaryOp .USub (.Constant (.int 1) k p1) p2)) p3) pos) (tRevL K te) := by
  subst hK; exact pe_revL he
def qRevL (K : PySem.W.Frag) (Q : VK) : VK := fun x H1 => ∃ a xs, x = .ref a ∧ SqL K H1 a xs ∧ ∀ p, H1 p = none → Q (.ref p) (upd H1 p (.lst xs.reverse))
section
variable {α : Type} {t : Rp α} {K : PySem.W.Frag} {H F : Hp} {Q : VK} {p : Addr} {vs : List V} {xs : List α} {te : TE} {σ : L2.St}
theorem n_revL (h : te σ H (qRevL K Q)) : tRevL K te σ H Q := h
theorem v_revLF (hs : Sub F H) (hq : SqL K H p vs) (hr : Al t F vs xs) (k : ∀ p' us F' H', Gr [] F H F' H' → F' p' = some (.lst us) → Al t F' us xs.reverse → Q (.ref p') H') : qRevL K Q (.ref p) H := ⟨p, vs, rfl, hq, fun l hl => k l _ _ _ (gr_newF hs hl) upd_same (Al.mono (pd_rev hr) (Sub.up1 (hs.nn hl)))⟩
theorem v_revLM (hs : Sub F H) (hq : SqL K H p vs) (hr : Al t F vs xs) (k : ∀ p' us H', H p' = none → Gr [] F H F H' → F p' = none → H' p' = some (.lst us) → Al t F us xs.reverse → Q (.ref p') H') : qRevL K Q (.ref p) H := ⟨p, vs, rfl, hq, fun l hl => k l _ _ hl (gr_newM hs hl) (hs.nn hl) upd_same (pd_rev hr)⟩
end
end U
namespace U
open PySem PySem.Spec L2
def powM (i j : Int) : Option Int := need (decide (0 ≤ j ∧ j ≤ 1000000 ∧ i.natAbs < 18446744073709551616)) (i ^ j.toNat)
theorem v_pow {H : Hp} {Q : VK} {i j a : Int} (h : powM i j = some a) (k : Q (.int a) H) : L2.rI CPow (fun i j => .int (i ^ j.toNat)) (.int i) (.int j) H Q := by
  obtain ⟨h1, rfl⟩ := need_ok h
  have h2 := of_decide_eq_true h1
  exact ⟨i, j, rfl, rfl, h2, k⟩
section
variable {K : PySem.W.Frag} {F H : Hp} {v : V} {ns : List Int}
theorem dp_Q {p : Addr} (hs : Sub F H) (q : SqL K F p (ns.map V.int)) : Dp K H (.ref p) ((dL dI).d ns) := .lst (hs.l q) (dt_all dI (Sub.refl H) (al_ofint ns))
end
end U
set_option Elab.async false
set_option linter.all false
set_option maxRecDepth 100000
set_option maxHeartbeats 4000000
namespace U
open PySem PySem.Spec L2
/-! ### texts: again and again, begins with -/
def qMulS : R2 := fun x y H Q => ∃ a n, x = .str a ∧ y = .int n ∧ MulOk a n ∧ Q (.str (Txt.mul a n)) H
section
variable {X : Cx} {K : PySem.W.Frag}
theorem c_mulS : OpR X (binaryOp .Mult) qMulS := by
  intro pins s σ H x y v u Q I rx ry h
  obtain ⟨a, n, rfl, rfl, hz, q⟩ := h
  obtain ⟨t, rfl⟩ := rx
  obtain ⟨t', rfl⟩ := ry
  exact SB.mul hz fun t' k => ⟨.str (Txt.mul a n), H, I.tok _, ⟨_, rfl⟩, q⟩
def qSw : RMt := fun x xs H Q => ∃ a b, x = .str a ∧ xs = [.str b] ∧ Q (.bl (Txt.startswith a b)) H
theorem c_sw : MtR X "str.startswith" qSw := mt_startswith
def qEw : RMt := fun x xs H Q => ∃ a b, x = .str a ∧ xs = [.str b] ∧ Q (.bl (Txt.endswith a b)) H
theorem c_ew : MtR X "str.endswith" qEw := mt_endswith
end
def repS (s : Sg) (n : Int) : Sg := (List.replicate n.toNat s).flatten
def repSM (s : Sg) (n : Int) : Option Sg := need (decide (-(2 ^ 63) ≤ n ∧ n < 2 ^ 62) && szB (s.length * n.toNat)) (repS s n)
theorem rep_len (s : Sg) (n : Int) : (repS s n).length = s.length * n.toNat := by
  unfold repS
  rw [List.length_flatten, List.map_replicate, List.sum_replicate_nat, Nat.mul_comm]
theorem fold_app (l : List (Array Nat)) (a : Array Nat) : (l.foldl (· ++ ·) a).toList = a.toList ++ (l.map Array.toList).flatten := by
  induction l generalizing a with
  | nil => simp
  | cons x l ih => rw [List.foldl_cons, ih]; simp
theorem repS_eq (s : Sg) (n : Int) : Txt.mul (S s) n = S (repS s n) := by
  unfold Txt.mul repS
  by_cases h : n < 1
  · rw [if_pos h, Int.toNat_of_nonpos (by omega)]; rfl
  · rw [if_neg h]
    by_cases h2 : (n == 1 || (S s).length == 0) = true
    · rw [if_pos h2]
      rw [Bool.or_eq_true] at h2
      rcases h2 with h2 | h2
      · have : n = 1 := by simpa using h2
        subst this
        exact TL.ext_tl (by simp [TL.tl])
      · have h3 : s = [] := by
          have : (S s).length = 0 := by simpa using h2
          exact List.length_eq_zero_iff.mp (by simpa [Str.length] using this)
        subst h3
        exact TL.ext_tl (by simp [TL.tl])
    · rw [if_neg h2]
      exact TL.ext_tl (by simp [TL.tl, fold_app])
theorem repSM_le {s t : Sg} {n : Int} (h : repSM s n = some t) : t.length ≤ sizeLine := by
  obtain ⟨h1, rfl⟩ := need_ok h
  rw [Bool.and_eq_true] at h1
  rw [rep_len]; exact sz_ok h1.2
section
variable {H F : Hp} {Q : VK} {n : Int} {s r : Sg}
theorem v_mulS {t : Sg} (h : repSM s n = some t) (k : Q (.str (S t)) H) : qMulS (.str (S s)) (.int n) H Q := by
  obtain ⟨h1, rfl⟩ := need_ok h
  rw [Bool.and_eq_true, decide_eq_true_eq] at h1
  have hz := sz_ok h1.2
  refine ⟨S s, n, rfl, rfl, ⟨by simp; omega, fun h2 h3 => ?_, fun h2 h3 => ?_⟩, by rw [repS_eq]; exact k⟩
  · have hl : (S s).length = s.length := by simp [Str.length]
    rw [hl]
    have hz2 : ((s.length : Int)) * n ≤ (sizeLine : Nat) := by
      have : (s.length * n.toNat : Nat) ≤ sizeLine := hz
      have h5 : ((s.length * n.toNat : Nat) : Int) ≤ (sizeLine : Nat) := by exact_mod_cast this
      rw [Int.natCast_mul, Int.toNat_of_nonneg (by omega)] at h5
      exact h5
    have hs : ((sizeLine : Nat) : Int) ≤ 2 ^ 63 - 1 := by decide
    have := (Int.le_ediv_iff_mul_le (by omega : (0 : Int) < n)).mpr (Int.le_trans hz2 hs)
    omega
  · have hl : (S s).length = s.length := by simp [Str.length]
    rw [hl]
    have : s.length * n.toNat ≤ sizeLine := hz
    unfold Builtin.Str.tooLong
    simpa using this
end
/-- begins with -/
def swB (a b : Sg) : Bool := decide (a.take b.length = b)
theorem sw_eq (a b : Sg) : Txt.startswith (S a) (S b) = swB a b := by
  unfold Txt.startswith swB
  rw [show Builtin.Str.subAt (S a) (S b) 0 = (((S a).cps.toList.drop 0).take (S b).length == (S b).cps.toList) by
    unfold Builtin.Str.subAt
    rw [show ∀ x y : Array Nat, (x == y) = (x.toList == y.toList) from fun x y => by rw [Bool.eq_iff_iff, beq_iff_eq, beq_iff_eq, Array.toList_inj]]
    simp]
  have h1 : (S a).length = a.length := by simp [Str.length]
  have h2 : (S b).length = b.length := by simp [Str.length]
  rw [h1, h2, Nat.zero_add]
  rw [Bool.eq_iff_iff]
  simp
  intro e
  have := congrArg List.length e
  rw [List.length_take] at this
  omega
theorem v_sw {H : Hp} {Q : VK} {a b : Sg} (k : Q (.bl (swB a b)) H) : qSw (.str (S a)) [.str (S b)] H Q := ⟨S a, S b, rfl, rfl, by rw [sw_eq]; exact k⟩
theorem v_lenP2 {K : PySem.W.Frag} {F H : Hp} {Q : VK} {v : V} {α β : Type} {ta : Rp α} {tb : Rp β} {m : α × β} (hs : Sub F H) (hr : (eP2 ta tb).r F v m) (k : Q (.int 2) H) : qLen K [v] H Q := by
  obtain ⟨p, x, y, rfl, hp, _⟩ := hr
  exact ⟨p, [x, y], rfl, .inr (.inl (.inl (hs _ _ hp))), k⟩
theorem v_lenP3 {K : PySem.W.Frag} {F H : Hp} {Q : VK} {v : V} {α β γ : Type} {ta : Rp α} {tb : Rp β} {tc : Rp γ} {m : α × β × γ} (hs : Sub F H) (hr : (eP3 ta tb tc).r F v m) (k : Q (.int 3) H) : qLen K [v] H Q := by
  obtain ⟨p, x, y, z, rfl, hp, _⟩ := hr
  exact ⟨p, [x, y, z], rfl, .inr (.inl (.inl (hs _ _ hp))), k⟩
/-! ### what is never reached -/
def tNoS : TS := fun _ _ _ => False
def tNoT : TT := fun _ _ _ => False
def tNoE : TE := fun _ _ _ => False
section
variable {X : Cx} {K : PySem.W.Frag} {ss : List Stmt} {e : Expr}
theorem ps_no : PSs X ss tNoS := ⟨fun _ _ _ _ _ _ h => h.elim⟩
theorem pw_no : PW X e tNoT := ⟨fun _ _ _ _ _ _ _ h => h.elim⟩
theorem pe_no : PE X e tNoE := ⟨fun _ _ _ _ _ _ h => h.elim⟩
theorem c_isiT (hK : X.K = K) : CallR X (.builtin "isinstance") (rIsiT K) := by subst hK; exact call_isiT
end
theorem v_mkTy {F H : Hp} {Q : VK} {us : List V} (hs : Sub F H) (hz : szB us.length = true) (k : ∀ p F' H', Gr [] F H F' H' → F' p = some (.tup us) → Q (.ref p) H') : qNewT Q us H := ⟨sz_ok hz, fun p hp => k _ _ _ (gr_newF hs hp) upd_same⟩
theorem v_isiT {K : PySem.W.Frag} {H : Hp} {Q : VK} {x : V} {T U W : String} {tp : Addr} {b c : Bool} (ty : TyX K H x (.type T)) (hq : H tp = some (.tup [.ty U, .ty W])) (h : kitB T U = some b) (h' : kitB T W = some c) (k : Q (.bl (b || c)) H) : rIsiT K [x, .ref tp] H Q := by
  refine ⟨x, tp, _, _, [.type U, .type W], b || c, rfl, hq, .cons (.ty U) (.cons (.ty W) .nil), ty, ?_, k⟩
  have e1 := kit_ty (K := K) h
  have e2 := kit_ty (K := K) h'
  unfold PySem.W.kitAny
  rw [e1]
  cases b with
  | true => rfl
  | false =>
    show PySem.W.kitAny K _ _ = _
    unfold PySem.W.kitAny
    rw [e2]
    cases c <;> rfl
theorem p2_T {α : Type} {t : Rp α} {F : Hp} {v : V} {m : α × α} (h : (eP2 t t).r F v m) : (eT t).r F v [m.1, m.2] := by
  obtain ⟨p, x, y, rfl, hp, h1, h2⟩ := h
  exact ⟨p, [x, y], rfl, hp, .cons h1 (.cons h2 .nil)⟩
/-! ### xs[lo:hi:step] -/
def stepL {α : Type} (xs : List α) (lo hi : Option Int) (c : Int) : List α := (sliceRange (sliceBounds lo hi (some c) xs.length).1 (sliceBounds lo hi (some c) xs.length).2.1 (sliceBounds lo hi (some c) xs.length).2.2).filterMap (xs[·]?)
theorem pd_pick {α β : Type} {R : α → β → Prop} {xs : List α} {ys : List β} (h : Paired R xs ys) (is : List Nat) : Paired R (is.filterMap (xs[·]?)) (is.filterMap (ys[·]?)) := by
  have hl := Paired.length h
  induction is with
  | nil => exact .nil
  | cons i is ih =>
    rw [List.filterMap_cons, List.filterMap_cons]
    by_cases hi : i < xs.length
    · have e1 := List.getElem?_eq_getElem hi
      have e2 := List.getElem?_eq_getElem (show i < ys.length by omega)
      obtain ⟨v, e, r⟩ := pd_get h e2
      rw [e, e2]
      exact .cons r ih
    · rw [List.getElem?_eq_none (by omega), List.getElem?_eq_none (by omega)]
      exact ih
def tStepL (K : PySem.W.Frag) (te : TE) (tl tu ts : TO) : TE := fun σ H Q => te σ H fun x H1 => tl σ H1 fun l H2 => tu σ H2 fun u H3 => ts σ H3 fun o H4 =>
  ∃ (a : Addr) (xs : List V) (c : Int), x = .ref a ∧ o = some c ∧ c ≠ 0 ∧ SqL K H4 a xs ∧ ∀ p, H4 p = none → Q (.ref p) (upd H4 p (.lst (stepL xs l u c)))
def qStepL (K : PySem.W.Frag) (Q : VK) (x : V) (l u o : Option Int) : Hp → Prop := fun H4 => ∃ (a : Addr) (xs : List V) (c : Int), x = .ref a ∧ o = some c ∧ c ≠ 0 ∧ SqL K H4 a xs ∧ ∀ p, H4 p = none → Q (.ref p) (upd H4 p (.lst (stepL xs l u c)))
theorem stepL_le {α : Type} (xs : List α) (lo hi : Option Int) (c : Int) (ys : Array Value) (h : ys.size = xs.length) : (stepL xs lo hi c).length ≤ xs.length := by
  have e : (stepL xs lo hi c).length = (slicePick ys lo hi (some c)).size := by
    unfold stepL slicePick
    rw [h, List.size_toArray]
    have key : ∀ is : List Nat, (is.filterMap (xs[·]?)).length = (is.filterMap (ys[·]?)).length := fun is => by
      induction is with
      | nil => rfl
      | cons i is ih =>
        rw [List.filterMap_cons, List.filterMap_cons]
        by_cases hi : i < xs.length
        · rw [List.getElem?_eq_getElem hi, Array.getElem?_eq_getElem (by omega)]
          simp [ih]
        · rw [List.getElem?_eq_none (by omega), Array.getElem?_eq_none (by omega)]
          exact ih
    exact key _
  rw [e, ← h]
  exact slicePick_size_le ys lo hi (some c)
theorem pe_stepL {X : Cx} {K : PySem.W.Frag} {e st : Expr} {lo hi : Option Expr} {te : TE} {tl tu ts : TO} {p2 pos : Pos} (hK : X.K = K) (he : PE X e te) (hl : PO X lo tl) (hu : PO X hi tu) (hst : PO X (some st) ts) : PE X (.Subscript e (.Slice lo hi (some st) p2) pos) (tStepL K te tl tu ts) := by
  subst hK
  refine ⟨fun pins s σ H Q I h => ?_⟩
  refine PyProof.Rows.Subscript_ (thn (he.run pins s σ H _ I h) fun v s1 ⟨x, H1, I1, r1, q1⟩ => ?_)
  refine wpAny_Slice (thn (hl.run pins s1 σ H1 _ I1 q1) fun vl s2 ⟨l, H2, I2, pl, q2⟩ => thn (hu.run pins s2 σ H2 _ I2 q2) fun vu s3 ⟨u, H3, I3, pu, q3⟩ => ?_)
  refine thn (hst.run pins s3 σ H3 _ I3 q3) fun vs s4 ⟨o, H4, I4, ps, a, xs, c, ex, eo, h0, hx, q⟩ => ?_
  subst ex eo
  obtain rfl : v = Value.ref a := r1
  have I5 : Inv X pins σ H4 { s4 with heap := s4.heap.push { cls := .type "slice", data := .fields #[vl, vu, vs] } } := I4.kept (t' := s4.toks) fun b ob q => Heap.get?_push_of_some _ q
  obtain ⟨its, r, ht, hz⟩ := I5.list hx
  have hlen := r.length
  show wpAny (model X.prog X.w) X.A (PyProof.Rows.subscriptTail e (.Slice lo hi (some st) p2) (.ref a) (.ref s4.heap.objs.size)) (EP X pins σ Q) X.xe { s4 with heap := s4.heap.push { cls := .type "slice", data := .fields #[vl, vu, vs] } }
  refine PyProof.Rows.tail_any (ops := [.ref a, .ref s4.heap.objs.size]) ht.isList.typeIs (PySem.slot_list_getitem.lookup) ?_ (by with_unfolding_all rfl)
  refine wpAny_getItem_list_slice ht.isList (Heap.IsSliceOf.new _ vl vu vs) pl pu ps (fun z => h0 (Option.some.inj z)) ?_ (by rw [List.size_toArray]; omega)
  refine ⟨.ref _, _, I5.laid (t' := s4.toks) (o := .lst (stepL xs l u c)) (fun b ob q => Heap.get?_push_of_some _ q) (Nat.le_refl _) ?_, rfl, q _ (I5.hok.fresh (Nat.le_refl _))⟩
  have es : its.toArray.size = xs.length := by rw [List.size_toArray]; omega
  refine ⟨Nat.le_trans (stepL_le xs l u c its.toArray es) (by omega), (slicePick its.toArray l u (some c)).toList, 0, ?_, ?_⟩
  · unfold stepL slicePick
    rw [es]
    have := pd_pick r (sliceRange (sliceBounds l u (some c) xs.length).1 (sliceBounds l u (some c) xs.length).2.1 (sliceBounds l u (some c) xs.length).2.2)
    simpa using this
  · exact Heap.get?_push_size _ rfl
section
variable {α : Type} {t : Rp α} {K : PySem.W.Frag} {H F : Hp} {Q : VK} {p : Addr} {vs : List V} {xs : List α} {te : TE} {tl tu ts : TO} {σ : L2.St}
theorem n_stepL (h : te σ H fun x H1 => tl σ H1 fun l H2 => tu σ H2 fun u H3 => ts σ H3 fun o H4 => qStepL K Q x l u o H4) : tStepL K te tl tu ts σ H Q := h
theorem v_stepLF {lo hi : Option Int} {c : Int} (hs : Sub F H) (hq : SqL K H p vs) (hr : Al t F vs xs) (hc : decide (c ≠ 0) = true) (k : ∀ p' us F' H', Gr [] F H F' H' → F' p' = some (.lst us) → Al t F' us (stepL xs lo hi c) → Q (.ref p') H') : qStepL K Q (.ref p) lo hi (some c) H :=
  ⟨p, vs, c, rfl, rfl, of_decide_eq_true hc, hq, fun l hl => k l _ _ _ (gr_newF hs hl) upd_same (Al.mono (by
    unfold stepL
    rw [al_len hr]
    exact pd_pick hr _) (Sub.up1 (hs.nn hl)))⟩
theorem v_stepLM {lo hi : Option Int} {c : Int} (hs : Sub F H) (hq : SqL K H p vs) (hr : Al t F vs xs) (hc : decide (c ≠ 0) = true) (k : ∀ p' us H', H p' = none → Gr [] F H F H' → F p' = none → H' p' = some (.lst us) → Al t F us (stepL xs lo hi c) → Q (.ref p') H') : qStepL K Q (.ref p) lo hi (some c) H :=
  ⟨p, vs, c, rfl, rfl, of_decide_eq_true hc, hq, fun l hl => k l _ _ hl (gr_newM hs hl) (hs.nn hl) upd_same (by
    unfold stepL
    rw [al_len hr]
    exact pd_pick hr _)⟩
end
/-! ### list(range(..)) -/
theorem rgV_eq (a b : Int) : rgV a b = (upto a b).map V.int := by
  unfold rgV upto
  rw [List.map_map]; rfl
section
variable {K : PySem.W.Frag} {H F : Hp} {Q : VK} {i j : Int} {l : List Int} {ta tb : TE} {σ : L2.St}
def qLrg (a b : Int) (Q : VK) : Hp → Prop := fun H1 => RgOk a b ∧ ∀ q, H1 q = none → Q (.ref q) (upd H1 q (.lst (rgV a b)))
theorem n_lrg1 (h : ta σ H fun x H1 => ∃ n, x = .int n ∧ qLrg 0 n Q H1) : tLstRg (tRg1 ta) σ H Q := h
theorem n_lrg2 (h : ta σ H fun x H1 => tb σ H1 fun y H2 => ∃ i j, x = .int i ∧ y = .int j ∧ qLrg i j Q H2) : tLstRg (tRg2 ta tb) σ H Q := h
theorem lrg_ok (h : uptoM i j = some l) (hz : szB l.length = true) : RgOk i j ∧ upto i j = l := by
  obtain ⟨⟨h1, h2, h3, h4⟩, rfl⟩ := uptoM_ok h
  have := sz_ok hz
  rw [upto_len, sizeLine_eq] at this
  exact ⟨⟨h1, h2, h3, h4, this⟩, rfl⟩
theorem q_lrgF (hs : Sub F H) (h : uptoM i j = some l) (hz : szB l.length = true) (k : ∀ p' us F' H', Gr [] F H F' H' → F' p' = some (.lst us) → Al eI F' us l → Q (.ref p') H') : qLrg i j Q H := by
  obtain ⟨r, rfl⟩ := lrg_ok h hz
  exact ⟨r, fun p hp => k p _ _ _ (gr_newF hs hp) upd_same (by rw [rgV_eq]; exact al_ofint _)⟩
theorem q_lrgM (hs : Sub F H) (h : uptoM i j = some l) (hz : szB l.length = true) (k : ∀ p' us H', H p' = none → Gr [] F H F H' → F p' = none → H' p' = some (.lst us) → Al eI F us l → Q (.ref p') H') : qLrg i j Q H := by
  obtain ⟨r, rfl⟩ := lrg_ok h hz
  exact ⟨r, fun p hp => k p _ _ hp (gr_newM hs hp) (hs.nn hp) upd_same (by rw [rgV_eq]; exact al_ofint _)⟩
theorem v_lrg1F (hs : Sub F H) (h : uptoM 0 j = some l) (hz : szB l.length = true) (k : ∀ p' us F' H', Gr [] F H F' H' → F' p' = some (.lst us) → Al eI F' us l → Q (.ref p') H') : ∃ n, V.int j = .int n ∧ qLrg 0 n Q H := ⟨j, rfl, q_lrgF hs h hz k⟩
theorem v_lrg1M (hs : Sub F H) (h : uptoM 0 j = some l) (hz : szB l.length = true) (k : ∀ p' us H', H p' = none → Gr [] F H F H' → F p' = none → H' p' = some (.lst us) → Al eI F us l → Q (.ref p') H') : ∃ n, V.int j = .int n ∧ qLrg 0 n Q H := ⟨j, rfl, q_lrgM hs h hz k⟩
theorem v_lrg2F (hs : Sub F H) (h : uptoM i j = some l) (hz : szB l.length = true) (k : ∀ p' us F' H', Gr [] F H F' H' → F' p' = some (.lst us) → Al eI F' us l → Q (.ref p') H') : ∃ a b, V.int i = .int a ∧ V.int j = .int b ∧ qLrg a b Q H := ⟨i, j, rfl, rfl, q_lrgF hs h hz k⟩
theorem v_lrg2M (hs : Sub F H) (h : uptoM i j = some l) (hz : szB l.length = true) (k : ∀ p' us H', H p' = none → Gr [] F H F H' → F p' = none → H' p' = some (.lst us) → Al eI F us l → Q (.ref p') H') : ∃ a b, V.int i = .int a ∧ V.int j = .int b ∧ qLrg a b Q H := ⟨i, j, rfl, rfl, q_lrgM hs h hz k⟩
end
/-! ### a number in a tuple or list of numbers; a comprehension in a comprehension -/
theorem c_inQ {X : Cx} {K : PySem.W.Frag} (hK : X.K = K) : OpR X (compareOp .In) (rIn K false) := by subst hK; exact op_in_seq
theorem c_notInQ {X : Cx} {K : PySem.W.Frag} (hK : X.K = K) : OpR X (compareOp .NotIn) (rIn K true) := by subst hK; exact op_notIn_seq
theorem inV_int (a : Int) (xs : List Int) : inV (.int a) (xs.map V.int) = decide (a ∈ xs) := by
  unfold inV
  induction xs with
  | nil => rfl
  | cons x xs ih =>
    rw [List.map_cons, List.any_cons, ih]
    show ((x == a) || decide (a ∈ xs)) = decide (a ∈ x :: xs)
    rw [Bool.eq_iff_iff, Bool.or_eq_true, decide_eq_true_eq, decide_eq_true_eq, beq_iff_eq, List.mem_cons, eq_comm]
theorem flat_int (xs : List Int) : (xs.map V.int).all flatV = true := by
  rw [List.all_map, List.all_eq_true]
  intros; rfl
theorem v_inQ {K : PySem.W.Frag} {H F : Hp} {Q : VK} {p : Addr} {vs : List V} {xs : List Int} {a : Int} (hq : SqL K H p vs ∨ SqT K H p vs) (hr : Al eI F vs xs) (k : Q (.bl (decide (a ∈ xs))) H) : rIn K false (.int a) (.ref p) H Q := by
  have e := al_int hr
  subst e
  exact ⟨p, _, rfl, hq, rfl, flat_int xs, by rw [inV_int]; exact k⟩
theorem v_notInQ {K : PySem.W.Frag} {H F : Hp} {Q : VK} {p : Addr} {vs : List V} {xs : List Int} {a : Int} (hq : SqL K H p vs ∨ SqT K H p vs) (hr : Al eI F vs xs) (k : Q (.bl (!decide (a ∈ xs))) H) : rIn K true (.int a) (.ref p) H Q := by
  have e := al_int hr
  subst e
  exact ⟨p, _, rfl, hq, rfl, flat_int xs, by rw [inV_int]; exact k⟩
theorem relab_lookup (c : Str → NameKind → Bool) : ∀ (ns : List (Str × NameKind)) (x : Str), (ns.lookup x = some .cell ∨ ns.lookup x = some .free) →
    ((ns.map fun p => if c p.1 p.2 = true then (p.1, NameKind.cell) else (p.1, p.2)).lookup x = some .cell ∨ (ns.map fun p => if c p.1 p.2 = true then (p.1, NameKind.cell) else (p.1, p.2)).lookup x = some .free)
  | [], x, h => by simp at h
  | (n, k) :: r, x, h => by
    rw [List.map_cons]
    rw [List.lookup_cons] at h
    cases hx : x == n with
    | true =>
      rw [hx] at h
      cases hc : c n k with
      | true =>
        rw [if_pos rfl, List.lookup_cons, hx]
        exact .inl rfl
      | false =>
        rw [if_neg (by decide), List.lookup_cons, hx]
        exact h
    | false =>
      rw [hx] at h
      have ih := relab_lookup c r x h
      cases hc : c n k with
      | true =>
        rw [if_pos rfl, List.lookup_cons, hx]
        exact ih
      | false =>
        rw [if_neg (by decide), List.lookup_cons, hx]
        exact ih
theorem blk_in {N : List Str} {sc scope : Scope} {own : List (Str × Nat)} {cl : List (Str × Addr)} {C : Addr} {env : Env} (h : BlkOk N sc scope own) : BlkOk N (compEnvC sc cl C env).scope scope own :=
  ⟨h.kind, h.uniq, h.ix, fun y hy e => relab_lookup (fun n k => k == NameKind.free && env.scope.kind == .function && env.kindOf n == some .cell) sc.names y.1 (h.free y hy e), h.own⟩
/-! ### range downwards; a raise that is never reached -/
theorem st_no {X : Cx} {st : Stmt} : PS X st tNoS := ⟨fun _ _ _ _ _ _ h => h.elim⟩
def down (i j : Int) : List Int := (List.range (i - j).toNat).map fun k : Nat => i - (k : Int)
def downM (i j : Int) : Option (List Int) := need (rngB i && rngB j) (down i j)
theorem downM_ok {lo hi : Int} {l : List Int} (h : downM lo hi = some l) : (-(2 ^ 62) ≤ lo ∧ lo < 2 ^ 62 ∧ -(2 ^ 62) ≤ hi ∧ hi < 2 ^ 62) ∧ down lo hi = l := by
  obtain ⟨h1, h2⟩ := need_ok h
  unfold rngB at h1
  rw [Bool.and_eq_true] at h1
  have a := of_decide_eq_true h1.1
  have b := of_decide_eq_true h1.2
  exact ⟨⟨a.1, a.2, b.1, b.2⟩, h2⟩
section
variable {H : Hp} {σ : L2.St}
def qRng3 (R : RIt) : List V → Hp → Prop := fun vs H1 => ∃ (i j c : Int) (n : Nat), vs = [.int i, .int j, .int c] ∧ RgC i j c n ∧ R (Itc i c n) H1
theorem n_rng3 {ta : TA} {R : RIt} (h : ta σ H (qRng3 R)) : iRng3 ta σ H R := h
theorem v_rng3 {lo hi c : Int} {l : List Int} {R : It → Hp → Prop} (hc : c = -1) (h : downM lo hi = some l) (k : R (Itc lo (-1) (lo - hi).toNat) H) : qRng3 R [.int lo, .int hi, .int c] H := by
  subst hc
  obtain ⟨⟨h1, h2, h3, h4⟩, _⟩ := downM_ok h
  exact ⟨lo, hi, -1, _, rfl, RgC.neg h1 h2 h3 h4, k⟩
theorem sr_C {lo hi : Int} {l : List Int} (h : downM lo hi = some l) : Sr (Itc lo (-1) (lo - hi).toNat) (fun _ => True) l (fun H x H' a => H' = H ∧ x = .int a) := by
  rw [← (downM_ok h).2]
  have hl : (down lo hi).length = (lo - hi).toNat := by unfold down; rw [List.length_map, List.length_range]
  refine ⟨fun i H hi' _ => by rw [hl] at hi'; exact hi', fun H _ => by rw [hl]; exact Nat.le_refl _, fun i H x H' _ y a ha => ⟨y.1, ?_⟩⟩
  rw [y.2]
  unfold down at ha
  rw [List.getElem?_map] at ha
  cases e : (List.range (lo - hi).toNat)[i]? with
  | none => rw [e] at ha; cases ha
  | some j =>
    rw [e] at ha
    have e2 : lo - (j : Int) = a := Option.some.inj ha
    have e3 : j = i := by
      obtain ⟨h1, h2⟩ := List.getElem?_eq_some_iff.mp e
      rw [List.getElem_range] at h2; exact h2.symm
    subst e3
    congr 1
    omega
end
/-! ### tuples one behind the other; is True -/
section
variable {X : Cx} {K : PySem.W.Frag}
theorem c_catA (hK : X.K = K) : OpR X (binaryOp .Add) (rCatA K) := by subst hK; exact op_catA
end
theorem v_catA {α : Type} {t : Rp α} {K : PySem.W.Frag} {F H : Hp} {Q : VK} {p q : Addr} {vs us : List V} {xs ys zs : List α} (hs : Sub F H) (hp : F p = some (.tup vs)) (h1 : Al t F vs xs) (hq : F q = some (.tup us)) (h2 : Al t F us ys) (h : catLM xs ys = some zs)
    (k : ∀ v F' H', Gr [] F H F' H' → (eT t).r F' v zs → Q v H') : rCatA K (.ref p) (.ref q) H Q := by
  obtain ⟨hz, rfl⟩ := need_ok h
  have hz := sz_ok hz
  refine ⟨p, q, vs, us, rfl, rfl, .inl (.inl (hs _ _ hp)), .inl (.inl (hs _ _ hq)), by rw [al_len h1, al_len h2]; exact hz, fun e => ?_, fun _ e => ?_, fun _ _ l hl => ?_⟩
  · subst e
    cases h1
    exact k _ F H (Gr.refl hs) ⟨q, us, rfl, hq, h2⟩
  · subst e
    cases h2
    exact k _ F H (Gr.refl hs) ⟨p, vs, rfl, hp, by rw [List.append_nil]; exact h1⟩
  · exact k _ _ _ (gr_newF hs hl) ⟨l, vs ++ us, rfl, upd_same, Al.mono (pd_append h1 h2) (Sub.up1 (hs.nn hl))⟩
theorem v_isBl {H : Hp} {Q : VK} {a b : Bool} (k : Q (.bl (decide (a = b))) H) : rIsB (.bl a) (.bl b) H Q := ⟨a, b, rfl, rfl, k⟩
theorem v_notBl {H : Hp} {Q : VK} {a b : Bool} (k : Q (.bl (!decide (a = b))) H) : rNotB (.bl a) (.bl b) H Q := ⟨a, b, rfl, rfl, k⟩
end U
set_option Elab.async false
set_option linter.all false
set_option maxRecDepth 100000
set_option maxHeartbeats 4000000
namespace U
open PySem PySem.Spec L2
/-! ### a thing of one's own that stays as it is from here on (locked for good) -/
def qFreeze (Q : VK) : VK := fun x H1 => ∃ d u, x = .ref d ∧ H1 d = some u ∧ Mut (some u) ∧ ∀ o, Q x (upd H1 d (.frz o u))
def tFreeze (te : TE) : TE := fun σ H Q => te σ H (qFreeze Q)
theorem pe_freeze {X : Cx} {e : Expr} {te : TE} (he : PE X e te) : PE X e (tFreeze te) := by
  refine ⟨fun pins s σ H Q I h => ?_⟩
  refine thn (he.run pins s σ H _ I h) fun v s1 ⟨x, H1, I1, r1, d, u, ex, hd, mu, q⟩ => ?_
  obtain ⟨od, I2⟩ := I1.lock hd mu
  exact ⟨x, _, I2, r1, q od⟩
section
variable {W : List Addr} {F0 H0 F H : Hp} {p : Addr} {u : HO} {Q : VK} {σ : L2.St} {te : TE}
theorem n_freeze (h : te σ H (qFreeze Q)) : tFreeze te σ H Q := h
theorem v_freeze (g : Gr W F0 H0 F H) (m : Mu W H0 F H p u) (h0 : H0 p = none) (mu : Mut (some u))
    (k : ∀ o F' H', F' p = some (.frz o u) → Sub F F' → Gr W F0 H0 F' H' → (∀ q w, q ≠ p → Mu W H0 F H q w → Mu W H0 F' H' q w) → Q (.ref p) H') : qFreeze Q (.ref p) H := by
  refine ⟨p, u, rfl, m.hp, mu, fun o => k o (upd F p (.frz o u)) _ upd_same (Sub.up1 m.fr) ⟨g.ff.trans (Sub.up1 m.fr), fun a w e => ?_, fun a w hn e => ?_, fun a e => ?_, fun a e n => ?_⟩ fun q w ne m' => ⟨by rw [upd_ne ne]; exact m'.fr, by rw [upd_ne ne]; exact m'.hp, m'.own⟩⟩
  · by_cases z : a = p
    · subst z; rw [upd_same] at e ⊢; exact e
    · rw [upd_ne z] at e ⊢; exact g.fh a w e
  · have z : a ≠ p := fun z => by rw [z, h0] at e; cases e
    rw [upd_ne z]; exact g.hh a w hn e
  · by_cases z : a = p
    · subst z; exact absurd h0 e
    · rw [upd_ne z]; exact g.lv a e
  · rw [upd_ne (fun z => by rw [z] at e; exact e h0)]; exact g.out a e n
end
/-! ### a dict locked: read, walked, sorted -/
section
variable {α β : Type} {t : Rp α} {D : Dt t} {A : Ke D} {u : Rp β}
def eDL (A : Ke D) (u : Rp β) : Rp (List (α × β)) := ⟨fun F v x => ∃ p o kvs, v = .ref p ∧ F p = some (.frz o (.dK kvs)) ∧ Pr (dyK A) u F kvs x, fun s ⟨p, o, kvs, e, q, h⟩ => ⟨p, o, kvs, e, s _ _ q, h.mono s⟩⟩
variable [DecidableEq α] {F H : Hp} {p : Addr} {o : Obj} {kvs : List (Key × V)} {xs : List (α × β)} {y w : V} {a : α} {b : β} {Q : VK}
theorem v_dgetL (hs : Sub F H) (hp : F p = some (.frz o (.dK kvs))) (h : Pr (dyK A) u F kvs xs) (hk : t.r F y a) (e : lkp xs a = some b) (k : ∀ v, u.r F v b → Q v H) : qDGet y Q (.ref p) H := by
  obtain ⟨v, e2, r⟩ := pr_some (Y := dyK A) h e
  exact ⟨p, v, rfl, .inl ⟨kvs, A.k a, .inr ⟨o, hs _ _ hp⟩, A.r hk, e2.symm⟩, k v r⟩
theorem v_dinL (hs : Sub F H) (hp : F p = some (.frz o (.dK kvs))) (h : Pr (dyK A) u F kvs xs) (hk : t.r F y a) (k : Q (.bl (inD xs a)) H) : qDIn y Q (.ref p) H :=
  ⟨p, _, rfl, .inl ⟨kvs, A.k a, .inr ⟨o, hs _ _ hp⟩, A.r hk, rfl⟩, by have := pr_is (Y := dyK A) (a := a) h; rw [← this] at k; exact k⟩
theorem v_dnotinL (hs : Sub F H) (hp : F p = some (.frz o (.dK kvs))) (h : Pr (dyK A) u F kvs xs) (hk : t.r F y a) (k : Q (.bl (!inD xs a)) H) : qDNotIn y Q (.ref p) H :=
  ⟨p, _, rfl, .inl ⟨kvs, A.k a, .inr ⟨o, hs _ _ hp⟩, A.r hk, rfl⟩, by have := pr_is (Y := dyK A) (a := a) h; rw [← this] at k; exact k⟩
def qLenD : RCl := fun xs H Q => ∃ a kvs, xs = [V.ref a] ∧ Rd H a (.dK kvs) ∧ Q (.int kvs.length) H
theorem c_lenD {X : Cx} : CallR X (.builtin "len") qLenD := by
  intro pins s σ H xs us Q I r h
  obtain ⟨a, kvs, rfl, ha, q⟩ := h
  obtain ⟨u, rfl, ru⟩ := vals1 r
  cases ru
  exact d_len I ha fun t s' I' => ⟨.int kvs.length, H, I', ⟨t, rfl⟩, q⟩
theorem v_lenDL (hs : Sub F H) (hp : F p = some (.frz o (.dK kvs))) (h : Pr (dyK A) u F kvs xs) (k : Q (.int (xs.length : Int)) H) : qLenD [.ref p] H Q :=
  ⟨p, kvs, rfl, .inr ⟨o, hs _ _ hp⟩, by
    have e : (kvs : List (Key × V)).length = xs.length := pr_len (Y := dyK A) h
    rw [e]; exact k⟩
theorem v_lenDM (hp : H p = some (.dK kvs)) (h : Pr (dyK A) u F kvs xs) (k : Q (.int (xs.length : Int)) H) : qLenD [.ref p] H Q :=
  ⟨p, kvs, rfl, .inl hp, by
    have e : (kvs : List (Key × V)).length = xs.length := pr_len (Y := dyK A) h
    rw [e]; exact k⟩
end
section
variable {σ : L2.St} {F H : Hp} {p : Addr} {o : Obj} {kvs : List (Key × V)} {R : RIt} {td : TE} {β : Type} {u : Rp β}
def qKeys (R : RIt) : VK := fun x H1 => ∃ d o, x = .ref d ∧ ((∃ kvs, H1 d = some (.frz o (.dK kvs)) ∧ R (Itk d o kvs) H1) ∨ ∃ kvs, H1 d = some (.frz o (.dT kvs)) ∧ R (Itkt d o kvs) H1)
theorem n_keys (h : td σ H (qKeys R)) : iKeys td σ H R := h
theorem v_keys (hs : Sub F H) (hp : F p = some (.frz o (.dK kvs))) (k : R (Itk p o kvs) H) : qKeys R (.ref p) H := ⟨p, o, rfl, .inl ⟨kvs, hs _ _ hp, k⟩⟩
theorem sr_KS {xs : List (Sg × β)} (h : Pr (dyK keS) u F kvs xs) (hz : (xs.all fun x => szB x.1.length) = true) : Sr (Itk p o kvs) (fun H => H p = some (.frz o (.dK kvs))) (xs.map Prod.fst) (fun H x H' a => H' = H ∧ eS.r F x a) := by
  have hl : (kvs : List (Key × V)).length = xs.length := pr_len (Y := dyK keS) h
  refine ⟨fun i H hi g => ⟨g, by rw [List.length_map] at hi; show i < kvs.length; rw [hl]; exact hi⟩, fun H g => ⟨g, by rw [List.length_map, ← hl]; exact Nat.le_refl _⟩, fun i H x H' g y a ha => ⟨y.1, ?_⟩⟩
  obtain ⟨_, k, v, e1, e2⟩ := y
  rw [List.getElem?_map] at ha
  cases e : xs[i]? with
  | none => rw [e] at ha; cases ha
  | some z =>
    rw [e] at ha
    have ha : z.1 = a := Option.some.inj ha
    obtain ⟨kv, e3, r⟩ := pd_get h e
    have e4 : kv = (k, v) := Option.some.inj (e3.symm.trans e1)
    subst e4
    have r1 : k = Sum.inr (S z.1) := r.1
    rw [e2, r1, ← ha]
    exact ⟨rfl, sz_ok (List.all_eq_true.mp hz z (List.mem_of_getElem? e))⟩
theorem sr_KI {xs : List (Int × β)} (h : Pr (dyK keI) u F kvs xs) : Sr (Itk p o kvs) (fun H => H p = some (.frz o (.dK kvs))) (xs.map Prod.fst) (fun H x H' a => H' = H ∧ eI.r F x a) := by
  have hl : (kvs : List (Key × V)).length = xs.length := pr_len (Y := dyK keI) h
  refine ⟨fun i H hi g => ⟨g, by rw [List.length_map] at hi; show i < kvs.length; rw [hl]; exact hi⟩, fun H g => ⟨g, by rw [List.length_map, ← hl]; exact Nat.le_refl _⟩, fun i H x H' g y a ha => ⟨y.1, ?_⟩⟩
  obtain ⟨_, k, v, e1, e2⟩ := y
  rw [List.getElem?_map] at ha
  cases e : xs[i]? with
  | none => rw [e] at ha; cases ha
  | some z =>
    rw [e] at ha
    have ha : z.1 = a := Option.some.inj ha
    obtain ⟨kv, e3, r⟩ := pd_get h e
    have e4 : kv = (k, v) := Option.some.inj (e3.symm.trans e1)
    subst e4
    have r1 : k = Sum.inl z.1 := r.1
    rw [e2, r1, ← ha]
    exact rfl
end
/-- a new dict told -/
def NewD {α β : Type} {t : Rp α} (Y : Dy t) (u : Rp β) (H F' H' : Hp) (v : V) (x : List (α × β)) : Prop := ∃ p kvs, v = .ref p ∧ H p = none ∧ F' p = none ∧ H' p = some (Y.ho kvs) ∧ Pr Y u F' kvs x
/-- a told pair: what stays, and a new list -/
def NewP {α β : Type} (ta : Rp α) (tb : Rp β) (H F' H' : Hp) (v : V) (r : α × List β) : Prop := ∃ p q x vs, v = .ref p ∧ F' p = some (.tup [x, .ref q]) ∧ ta.r F' x r.1 ∧ H q = none ∧ F' q = none ∧ H' q = some (.lst vs) ∧ Al tb F' vs r.2
theorem v_ixRaw1 {K : PySem.W.Frag} {F H : Hp} {Q : VK} {p : Addr} {x y : V} (hs : Sub F H) (hq : F p = some (.tup [x, y])) (k : Q y H) : rIxT K (.ref p) (.int 1) H Q := ⟨p, _, 1, y, rfl, rfl, .inl (.inl (hs _ _ hq)), rfl, k⟩
end U
set_option Elab.async false
set_option linter.all false
set_option maxRecDepth 100000
set_option maxHeartbeats 4000000
namespace U
open PySem PySem.Spec L2 PySem.W PyProof.Rows
/-! ### sorted(d): the keys in order, however many -/
theorem each_flat {h : Heap} {a : Addr} : ∀ {ks : List Key} {us : List Value}, Vals (ks.map kV) us → EachIs (fun u (b : V × PyData) => ∃ as, Reads h u b.2 as ∧ a ∉ as) us ((ks.map kV).zip (ks.map datK))
  | [], _, .nil => .nil
  | .inl i :: ks, _, .cons r t => by
    obtain ⟨k, rfl⟩ := r
    exact .cons ⟨[], .int _ _, by simp⟩ (each_flat t)
  | .inr x :: ks, _, .cons r t => by
    obtain ⟨k, rfl⟩ := r
    exact .cons ⟨[], .str _ _, by simp⟩ (each_flat t)
def qSortD : RCl := fun xs H Q => ∃ (a : Addr) (kvs : List (Key × V)), xs = [V.ref a] ∧ Rd H a (.dK kvs) ∧ AllAlike (kvs.map fun kv => datK kv.1) ∧ Sortable (kvs.map fun kv => datK kv.1) ∧
  ∀ l, H l = none → Q (.ref l) (upd H l (.lst (srtV (kvs.map fun kv => kV kv.1) (kvs.map fun kv => datK kv.1))))
theorem c_sortedDL {X : Cx} {n : Nat} (hr : Room n X.A) (hcalm : X.calm = true) : CallR X (.builtin "sorted") qSortD := by
  intro pins s σ H xs us Q I r q
  obtain ⟨a, kvs, ex, hd, ha, hs, q⟩ := q
  subst ex
  obtain ⟨u, eu, rx⟩ := vals1 r
  subst eu
  cases rx
  obtain ⟨z, lo, vs, rel, dd⟩ := dk_rd I.hok hd
  obtain ⟨ep, hat⟩ := dd.dictAt
  have hl : kvs.length = vs.length := Paired.length rel
  have h16 : vs.length ≤ sizeLine := by omega
  refine Calls.call_function_entry PyProof.Rows.kind_sorted PyProof.Rows.plain_sorted PyProof.Rows.entry_sorted (PyProof.Rows.args_sorted1 _) ?_
  unfold Builtin.«sorted»
  refine wpAny_bind (m := checkCount "sorted" 1 1 _) (wpAny_pure ?_)
  refine wpAny_bind (PySem.W.kdu_collect (A := X.A.in1) (PySem.W.kdl_dict (knd := mixKind X.prog X.w) (kvs := vs) (ep := ep) lo) (I.ok.hd hcalm) hat h16 fun h' tk acc hk hacc => ?_)
  have hal : acc.toList.length = vs.length := by rw [Array.length_toList, hacc.1]
  have rv0 : Vals (vs.map fun p => kV p.1) acc.toList := keys_at hal fun j v e => hacc.2 j v (by rw [← Array.getElem?_toList]; exact e)
  have ek : (vs.map fun p => kV p.1) = (kvs.map (·.1)).map kV := by
    rw [rel.keys, List.map_map]; rfl
  have rv : Vals ((kvs.map (·.1)).map kV) acc.toList := by rw [← ek]; exact rv0
  have I1 : Inv X pins σ H { s with heap := h', toks := tk } := I.kept hk
  refine wpAny_bind (wpAny_newList ?_ (by rw [hal]; exact h16))
  have hoL : (h'.push (seqObj "list" acc.toList.toArray 0)).get? h'.objs.size = some (seqObj "list" acc.toList.toArray 0) := Heap.get?_push_size _ rfl
  show wpAny _ _ _ _ _ { s with heap := h'.push (seqObj "list" acc.toList.toArray 0), toks := tk }
  have e1 : ((kvs.map (·.1)).map kV) = kvs.map fun kv => kV kv.1 := by rw [List.map_map]; rfl
  have e2 : ((kvs.map (·.1)).map datK) = kvs.map fun kv => datK kv.1 := by rw [List.map_map]; rfl
  have hlen : ((kvs.map (·.1)).map kV).length = ((kvs.map (·.1)).map datK).length := by simp
  have es := map_snd_zip _ _ hlen
  refine wpAny_bind (wpAny_holding (PySem.W.list_sort_data (s := { s with heap := h'.push (seqObj "list" acc.toList.toArray 0), toks := tk }) (R := fun u (b : V × PyData) => RelV b.1 u) (enc := Prod.snd) (bs := ((kvs.map (·.1)).map kV).zip ((kvs.map (·.1)).map datK)) hoL (each_zip rv hlen) (each_flat rv)
    (by rw [es, e2]; exact ha) (by rw [es, e2]; exact hs) (by rw [List.length_zip]; simp; omega) (fun b hb => ?_) fun out ho eo => ?_))
  · have hb2 : b.2 ∈ ((kvs.map (·.1)).map datK) := (List.of_mem_zip (a := b.1) (b := b.2) hb).2
    obtain ⟨k, _, e⟩ := List.mem_map.mp hb2
    have hdp : b.2.depth ≤ 1 := by
      rw [← e]
      cases k <;> simp [datK, PyData.depth]
    have := hr.un
    show X.A.units + 1 + 1 + _ < _
    omega
  · obtain ⟨e', he'⟩ := PyProof.Rows.sortedHeap_at (vs := acc.toList) (out := out.toArray) hoL
    refine wpAny_pure ⟨_, rfl, .ref h'.objs.size, upd H h'.objs.size (.lst (srtV (kvs.map fun kv => kV kv.1) (kvs.map fun kv => datK kv.1))), I1.laid (t' := tk) (fun b u e => ?_) (Nat.le_refl _)
      (show ObjOk X.prog X.w _ _ _ (.lst _) from ⟨?_, out, e', ?_, he'⟩), rfl, q _ (I1.hok.fresh (Nat.le_refl _))⟩
    · have hb : b < h'.objs.size := Heap.lt_size e
      rw [PyProof.Rows.sortedHeap_old (Nat.ne_of_lt hb) (by rw [size_push']; exact Nat.lt_succ_of_lt hb)]
      exact Heap.get?_push_of_some _ e
    · unfold srtV
      rw [List.length_map, List.length_mergeSort, List.length_zip]
      simp
      omega
    · unfold srtV
      rw [← e1, ← e2]
      exact each_fst eo
section
variable {β : Type} {u : Rp β} {F H : Hp} {Q : VK} {p : Addr} {kvs : List (Key × V)} {xs : List (Sg × β)}
theorem keys_txt (h : Pr (dyK keS) u F kvs xs) : (xs.all fun x => szB x.1.length) = true → Al eS F (kvs.map fun kv => kV kv.1) (xs.map Prod.fst) ∧ (kvs.map fun kv => datK kv.1) = (xs.map Prod.fst).map dS.d := by
  induction h with
  | nil => exact fun _ => ⟨.nil, rfl⟩
  | @cons kv x kvs xs r t ih =>
    intro hz
    rw [List.all_cons, Bool.and_eq_true] at hz
    obtain ⟨i1, i2⟩ := ih hz.2
    have r1 : kv.1 = Sum.inr (S x.1) := r.1
    refine ⟨.cons ⟨by show kV kv.1 = V.str (S x.1); rw [r1]; rfl, sz_ok hz.1⟩ i1, ?_⟩
    rw [List.map_cons, List.map_cons, List.map_cons, i2, r1]
    rfl
theorem v_sortDF (hs : Sub F H) (hd : Rd H p (.dK kvs)) (h : Pr (dyK keS) u F kvs xs) (hz : (xs.all fun x => szB x.1.length) = true) (k : ∀ p' us F' H', Gr [] F H F' H' → F' p' = some (.lst us) → Al eS F' us (srtL ltS (xs.map Prod.fst)) → Q (.ref p') H') : qSortD [.ref p] H Q := by
  obtain ⟨e1, e2⟩ := keys_txt h hz
  refine ⟨p, kvs, rfl, hd, by rw [e2]; exact so_alike soS _, by rw [e2]; exact so_sortable soS _, fun l hl => k l _ _ _ (gr_newF hs hl) upd_same (Al.mono (by rw [e2]; exact al_sorted soS e1) (Sub.up1 (hs.nn hl)))⟩
theorem v_sortDM (hs : Sub F H) (hd : Rd H p (.dK kvs)) (h : Pr (dyK keS) u F kvs xs) (hz : (xs.all fun x => szB x.1.length) = true) (k : ∀ p' us H', H p' = none → Gr [] F H F H' → F p' = none → H' p' = some (.lst us) → Al eS F us (srtL ltS (xs.map Prod.fst)) → Q (.ref p') H') : qSortD [.ref p] H Q := by
  obtain ⟨e1, e2⟩ := keys_txt h hz
  refine ⟨p, kvs, rfl, hd, by rw [e2]; exact so_alike soS _, by rw [e2]; exact so_sortable soS _, fun l hl => k l _ _ hl (gr_newM hs hl) (hs.nn hl) upd_same (by rw [e2]; exact al_sorted soS e1)⟩
end
/-! ### len of a text that is there; lists of unlike things -/
theorem v_lenSO {F H : Hp} {Q : VK} {v : V} {x : Option Sg} {b : Sg} (hr : (eO eS).r F v x) (h : x = some b) (k : Q (.int b.length) H) : qLenS [v] H Q := by
  subst h
  obtain ⟨_, e, hl⟩ := hr
  subst e
  exact v_lenS hl k
theorem v_mkLy {F H : Hp} {Q : VK} {us : List V} (hs : Sub F H) (hz : szB us.length = true) (k : ∀ p F' H', Gr [] F H F' H' → F' p = some (.lst us) → Q (.ref p) H') : qNewL Q us H := ⟨sz_ok hz, fun p hp => k _ _ _ (gr_newF hs hp) upd_same⟩
/-! ### a dict display of one item; get with None -/
def qDisp1 (p : Addr) (x y : V) (Q : VK) : Hp → Prop := fun H2 => H2 p = some (.dK []) ∧ ∃ kvs : List (Key × V), [(x, y)] = kvs.map (fun kv => (kV kv.1, kv.2)) ∧ kvs.length ≤ 15 ∧ Q (.ref p) (upd H2 p (.dK (mergeK [] kvs)))
def qDispN (P : Addr → Hp → Prop) (H : Hp) : Prop := ∀ p, H p = none → P p (upd H p (.dK []))
theorem n_disp1 {tk tv : TE} {σ : L2.St} {H : Hp} {Q : VK} (h : qDispN (fun p H1 => tk σ H1 fun x H2 => tv σ H2 fun y H3 => qDisp1 p x y Q H3) H) : L2.tDisp [(tk, tv)] σ H Q := h
theorem v_dispN {P : Addr → Hp → Prop} {F H : Hp} (hs : Sub F H) (k : ∀ p H', H p = none → Gr [] F H F H' → F p = none → H' p = some (.dK []) → P p H') : qDispN P H := fun p hp => k p _ hp (gr_newM hs hp) (hs.nn hp) upd_same
theorem v_disp1 {α : Type} {t : Rp α} {D : Dt t} {A : Ke D} {F H : Hp} {Q : VK} {p : Addr} {x y : V} {a : α} (hp : H p = some (.dK [])) (hk : t.r F x a) (k : Q (.ref p) (upd H p ((dyK A).ho (@putK _ (dyK A).dec [] ((dyK A).k a) y)))) : qDisp1 p x y Q H :=
  ⟨hp, [(A.k a, y)], by rw [A.r hk]; rfl, (by simp), k⟩
theorem v_dget2N {α : Type} {t : Rp α} {Y : Dy t} [DecidableEq α] {F H : Hp} {p : Addr} {kvs : List (Y.κ × V)} {xs : List (α × Int)} {y : V} {a : α} {Q : VK} (hs : Sub F H) (hp : H p = some (Y.ho kvs)) (h : Pr Y eI F kvs xs) (hk : t.r F y a) (k : ∀ v, (eO eI).r F v (lkp xs a) → Q v H) : qDGet2 y .non Q p H := by
  refine ⟨_, Y.get hs hp hk, ?_⟩
  cases e : lkp xs a with
  | none => rw [pr_none h e]; rw [e] at k; exact k _ rfl
  | some c =>
    obtain ⟨v, e2, r⟩ := pr_some h e
    rw [e2]; rw [e] at k
    have r1 : v = .int c := r
    exact k v ⟨(by rw [r1]; exact fun z => nomatch z), r⟩
end U
set_option Elab.async false
set_option linter.all false
set_option maxRecDepth 100000
set_option maxHeartbeats 4000000
namespace U
open PySem PySem.Spec L2 PySem.W PyProof.Rows
/-! ### len(set(xs)) -/
def qLenSet (K : PySem.W.Frag) {κ : Type} (R : Hp → V → κ → Prop) (most : Nat) : RCl := fun xs H Q => ∃ (p : Addr) (ks : List (κ × V)), xs = [V.ref p] ∧ SqL K H p (ks.map Prod.snd) ∧ (∀ x ∈ ks, R H x.2 x.1) ∧ ks.length ≤ most ∧
  ∀ L : List κ, L.Nodup → (∀ k, k ∈ L ↔ k ∈ ks.map Prod.fst) → Q (.int (L.length : Int)) H
section
variable {X : Cx} {e : Expr} {ta : TA} {p1 p2 q1 pos : Pos}
theorem pe_lenSetD {n : Nat} (D : Ekd X.prog X.w) {R : Hp → V → D.κ → Prop} (hR : RelD X D R) (hr : Room n X.A) (hg : Gl X "len") (hm : X.mg "len" = none) (hg2 : Gl X "set") (hm2 : X.mg "set" = none) (ha : PA X [e] ta)
    (he : starEach [e] X.env = [(false, eval e X.env)] := by rfl) : PE X (.Call (.Name "len" p1) [.Call (.Name "set" p2) [e] [] q1] [] pos) (tCB (qLenSet X.K R D.most) ta) := by
  refine ⟨fun pins s σ H Q I h => ?_⟩
  refine Call_ (ld_blt I hg hm bo_len ?_)
  refine PyProof.Rows.callWith_builtin1 (PyProof.Rows.args_cons ?_ rfl) rfl rfl
  refine Call_ (ld_blt I hg2 hm2 bo_set ?_)
  refine PyProof.Rows.callWith_type1 (thn (ha.run q1 pins s σ H _ I h) fun us s1 ⟨vs, H1, I1, r1, z⟩ => ?_) he rfl
  obtain ⟨p, ks, rfl, sq, rel, few, z⟩ := z
  obtain ⟨u, rfl, ru⟩ := vals1 r1
  obtain rfl : u = Value.ref p := ru
  obtain ⟨its, rv, pl, hz⟩ := I1.list sq
  obtain ⟨zs, rfl, rfl, hzs⟩ := zip_rel rv
  let f : (D.κ × V) × Value → D.κ × Value := fun z => (z.1.1, z.2)
  have un := hr.un
  have bd := D.bound
  refine set_made (D := D) (zs.map f) hr.hd pl.isList (by rw [List.map_map]; rfl) (fun q hq => ?_) (by rw [List.length_map] at few ⊢; exact few) (by omega) fun g tk L es ep t ok got kp => ?_
  · obtain ⟨y, hy, rfl⟩ := List.mem_map.mp hq
    exact hR pins σ H1 s1 y.1.2 y.2 y.1.1 I1 (rel y.1 (List.mem_map.mpr ⟨y, hy, rfl⟩)) (hzs y hy)
  refine PyProof.Rows.args_nil ?_
  obtain ⟨o, go, ex, da⟩ := D.ob ok
  have few2 := D.few ok
  have esz : es.size = L.length := by
    have := congrArg List.length (D.row ok)
    rw [List.length_map, List.length_map, Array.length_toList] at this
    exact this
  have I2 : Inv X pins σ H1 { s1 with heap := g, toks := tk } := I1.kept kp
  refine call_len_set go ex da (D.fits ok) (by rw [esz]; omega) ⟨.int es.size, H1, I2.tok _, ⟨_, rfl⟩, ?_⟩
  have := z (L.map Prod.fst) (D.nd ok) fun k => ?_
  · rw [List.length_map] at this
    rw [esz]; exact this
  · rw [List.map_map]
    have got2 := got.all
    rw [List.take_length] at got2
    constructor
    · intro h
      obtain ⟨q, hq, rfl⟩ := List.mem_map.mp h
      obtain ⟨y, hy, e⟩ := List.mem_map.mp (List.mem_of_mem_take (got.sub q hq))
      rw [← e]
      exact List.mem_map.mpr ⟨y, hy, rfl⟩
    · intro h
      obtain ⟨y, hy, rfl⟩ := List.mem_map.mp h
      exact got2 (f y) (List.mem_map.mpr ⟨y, hy, rfl⟩)
variable {n : Nat} {K : PySem.W.Frag}
theorem pe_lenSetK (hK : X.K = K) (hr : Room n X.A) (hg : Gl X "len") (hm : X.mg "len" = none) (hg2 : Gl X "set") (hm2 : X.mg "set" = none) (ha : PA X [e] ta) (he : starEach [e] X.env = [(false, eval e X.env)] := by rfl) :
    PE X (.Call (.Name "len" p1) [.Call (.Name "set" p2) [e] [] q1] [] pos) (tCB (qLenSet K RK 3999) ta) := by
  subst hK; exact pe_lenSetD (ekKey X.prog X.w) relK hr hg hm hg2 hm2 ha he
end
section
variable {α : Type} [DecidableEq α] {t : Rp α} {D : Dt t} {K : PySem.W.Frag} {F H : Hp} {p : Addr} {vs : List V} {xs : List α} {Q : VK}
theorem v_lenSet (A : Ke D) (hs : Sub F H) (hq : SqL K H p vs) (hr : Al t F vs xs) (hb : ssetB 3999 xs = true) (k : Q (.int ((uq xs).length : Int)) H) : qLenSet K RK 3999 [.ref p] H Q := by
  obtain ⟨e1, e2, e3⟩ := zip_parts hr
  have inj : ∀ x y : α, A.k x = A.k y → x = y := fun x y e => by
    have e2 : D.d x = D.d y := by rw [A.d, A.d, e]
    exact (D.eqv x y).mp (by rw [← e2]; exact (D.eqv x x).mpr rfl)
  refine ⟨p, (vs.zip xs).map fun z => (A.k z.2, z.1), rfl, ?_, fun x hx => ?_, ?_, fun L nd mem => ?_⟩
  · rw [List.map_map]
    show SqL K H p ((vs.zip xs).map Prod.fst)
    rw [e1]; exact hq
  · obtain ⟨z, hz, rfl⟩ := List.mem_map.mp hx
    exact A.r (e3 z hz)
  · have := of_decide_eq_true hb
    rw [List.length_map, List.length_zip]; omega
  · have ek : ((vs.zip xs).map fun z => (A.k z.2, z.1)).map Prod.fst = xs.map A.k := by
      rw [List.map_map]
      conv => rhs; rw [← e2]
      rw [List.map_map]; rfl
    rw [ek] at mem
    have nd2 : ((uq xs).map A.k).Nodup := List.pairwise_map.mpr ((uq_nodup xs).imp fun h e => h (inj _ _ e))
    have pm : L.Perm ((uq xs).map A.k) := (List.perm_ext_iff_of_nodup nd nd2).mpr fun a => by
      rw [mem, List.mem_map, List.mem_map]
      exact ⟨fun ⟨x, h, e⟩ => ⟨x, mem_uq.mpr h, e⟩, fun ⟨x, h, e⟩ => ⟨x, mem_uq.mp h, e⟩⟩
    rw [pm.length_eq, List.length_map]
    exact k
end
section
variable {α : Type} [DecidableEq α] {t : Rp α} {K : PySem.W.Frag} {H F : Hp} {Q : VK} {p : Addr} {vs : List V} {xs : List α} {a : α} {v w : V} {d e : PyData}
theorem v_inDi [i : Decidable (a ∈ xs)] (D : Dt t) (h1 : Dp K H v (D.d a)) (h2 : Dp K H w (.list (xs.map D.d))) (hb : eqB (D.d a) (.list (xs.map D.d)) = true) (k : Q (.bl (@decide (a ∈ xs) i)) H) : rInD K v w H Q :=
  v_inD D h1 h2 hb (Eq.mp (congrArg (fun j => Q (.bl (@decide (a ∈ xs) j)) H) (Subsingleton.elim i _)) k)
theorem v_notInDi [i : Decidable (a ∈ xs)] (D : Dt t) (h1 : Dp K H v (D.d a)) (h2 : Dp K H w (.list (xs.map D.d))) (hb : eqB (D.d a) (.list (xs.map D.d)) = true) (k : Q (.bl (!@decide (a ∈ xs) i)) H) : rNotInD K v w H Q :=
  v_notInD D h1 h2 hb (Eq.mp (congrArg (fun j => Q (.bl (!@decide (a ∈ xs) j)) H) (Subsingleton.elim i _)) k)
end
end U
set_option Elab.async false
set_option linter.all false
set_option maxRecDepth 100000
set_option maxHeartbeats 4000000
/-! ### list(zip(xs, ys)) of two lists -/
namespace U
open PySem PySem.Calls PyProof.Rows PyProof.V PySem.Spec PySem.W
open PySem.W (kdx_alive)
/-- new pairs drawn one by one, each stays -/
structure TuS (prog : Program) (w : World) (A : Around) (I S : Addr) (wr : List Addr) (n : Nat) (Rel : Nat → Value → Value → Prop) (St : Nat → Heap → Prop) : Prop where
  off : ∀ b ∈ wr, b < S
  self : I < S
  frame : ∀ i h h', St i h → (∀ b o, b ≠ S → h.get? b = some o → h'.get? b = some o) → St i h'
  item : ∀ i (s : Shared) (Q : Option Value → Shared → Prop) (E : Value → Shared → Prop), i < n → St i s.heap → S < s.heap.objs.size →
    (∀ k v h', Rel i k v → h'.get? s.heap.objs.size = some { cls := .type "tuple", data := .seq #[k, v] } → St (i + 1) h' → (∀ b o, b ∉ wr → s.heap.get? b = some o → h'.get? b = some o) → Q (some (.ref s.heap.objs.size)) { s with heap := h' }) → wpAny (model prog w) A (pyNext (.ref I)) Q E s
  done : ∀ (s : Shared) (Q : Option Value → Shared → Prop) (E : Value → Shared → Prop), St n s.heap →
    (∀ h', (∀ b o, b ∉ wr → s.heap.get? b = some o → h'.get? b = some o) → Q none { s with heap := h' }) → wpAny (model prog w) A (pyNext (.ref I)) Q E s
structure TuG (n : Nat) (Rel : Nat → Value → Value → Prop) (lo : Addr) (h : Heap) (as : List Addr) : Prop where
  rise : as.Pairwise (· < ·)
  above : ∀ a ∈ as, lo < a
  pairs : ∀ (j : Nat) (a : Addr), as[j]? = some a → ∃ k v, Rel j k v ∧ h.get? a = some { cls := .type "tuple", data := .seq #[k, v] }
section
variable {prog : Program} {w : World} {A : Around} {s : Shared} {R : Result → Shared → Prop} {n : Nat} {Rel : Nat → Value → Value → Prop} {St : Nat → Heap → Prop} {wr : List Addr}
theorem TuG.there {lo : Addr} {h : Heap} {as : List Addr} (g : TuG n Rel lo h as) {a : Addr} (ha : a ∈ as) : a < h.objs.size := by
  obtain ⟨j, hj⟩ := List.mem_iff_getElem?.mp ha
  obtain ⟨_, _, _, e⟩ := g.pairs j a hj
  exact Heap.lt_size e
theorem tu_loop {S I : Addr} (W : TuS prog w A.in1 I S wr n Rel St) (hn : n ≤ sizeLine) (res : Value) {h₁ : Heap}
    (hR : ∀ h' tk acc c as, (∀ b o, b ≠ S → b ∉ wr → h₁.get? b = some o → h'.get? b = some o) → h'.get? S = some { cls := .type "list", dict := none, data := .seq acc c, slots := #[] } → as.length = n → TuG n Rel S h' as →
      acc.toList = as.map Value.ref → R (.ok (.ret res)) { s with heap := h', toks := tk }) :
    ∀ (k i : Nat) (h : Heap) (tk c : Nat) (acc : Array Value) (as : List Addr), n - i = k → i ≤ n → St i h → (∀ b o, b ≠ S → b ∉ wr → h₁.get? b = some o → h.get? b = some o) →
      h.get? S = some { cls := .type "list", dict := none, data := .seq acc c, slots := #[] } → acc.toList = as.map Value.ref → as.length = i → TuG n Rel S h as →
      codeAny (model prog w) A (.builtin "list.extend.loop" ⟨[.ref S, .ref I, res], []⟩) R { s with heap := h, toks := tk } := by
  have offS : ∀ b ∈ wr, S ≠ b := fun b hb => Nat.ne_of_gt (W.off b hb)
  have offT : ∀ a, S < a → a ∉ wr := fun a ha hb => Nat.lt_asymm ha (W.off a hb)
  have Sn : S ∉ wr := fun hb => Nat.lt_irrefl _ (W.off S hb)
  intro k
  induction k with
  | zero =>
    intro i h tk c acc as hk hi hst hkeep hS hacc hal hG
    have hin : i = n := by omega
    subst hin
    refine codeAny_builtin PySem.F.entry_extend_loop ?_
    rw [Around.under_plainId PySem.F.plain_extend_loop _]
    show wpAny _ A.in1 (pyNext (.ref I) >>= _) _ _ _
    refine wpAny_bind (W.done { s with heap := h, toks := tk } _ _ hst fun h' he => ?_)
    refine wpAny_pure (hR h' tk acc c as (fun b o h1 h2 e => he b o h2 (hkeep b o h1 h2 e)) (he S _ Sn hS) hal ⟨hG.rise, hG.above, fun j a hj => ?_⟩ hacc)
    obtain ⟨k, v, r, e3⟩ := hG.pairs j a hj
    exact ⟨k, v, r, he a _ (offT a (hG.above a (List.mem_of_getElem? hj))) e3⟩
  | succ k ih =>
    intro i h tk c acc as hk hi hst hkeep hS hacc hal hG
    have hlt : i < n := by omega
    have hsz : acc.size = i := by rw [← Array.length_toList, hacc, List.length_map, hal]
    have hSl : S < h.objs.size := Heap.lt_size hS
    refine codeAny_builtin PySem.F.entry_extend_loop ?_
    rw [Around.under_plainId PySem.F.plain_extend_loop _]
    show wpAny _ A.in1 (pyNext (.ref I) >>= _) _ _ _
    refine wpAny_bind (W.item i { s with heap := h, toks := tk } _ _ hlt hst hSl fun kk vv h' hrel ht hst' hkp => ?_)
    dsimp only at ht hkp ⊢
    have hS' := hkp S _ Sn hS
    have up : ∀ b o, b ≠ S → h'.get? b = some o → (h'.update S (Obj.mapSeq (·.push (Value.ref h.objs.size)))).get? b = some o := fun b o hb e => (Heap.get?_update_other _ _ (Ne.symm hb)).trans e
    show wpAny _ A.in1 (updateSeq S (·.push (Value.ref h.objs.size)) >>= _) _ _ _
    refine wpAny_bind ?_
    refine wpAny_updateSeq hS' rfl (wpAny_pure ⟨plainId_quiet PySem.F.plain_extend_loop _, ih (i + 1) _ tk _ (acc.push (Value.ref h.objs.size)) (as ++ [h.objs.size]) (by omega) hlt (W.frame (i + 1) _ _ hst' up)
      (fun b o h1 h2 e => up b o h1 (hkp b o h2 (hkeep b o h1 h2 e))) (Heap.get?_update_self _ hS' rfl) (by rw [Array.toList_push, hacc, List.map_append]; rfl) (by rw [List.length_append, hal]; rfl) ⟨?_, ?_, ?_⟩⟩) (by rw [hsz]; omega) (by show (acc.push (Value.ref h.objs.size)).size ≤ sizeLine + 1; rw [Array.size_push, hsz]; omega)
    · refine List.pairwise_append.mpr ⟨hG.rise, List.pairwise_singleton _ _, fun a ha b hb => ?_⟩
      rw [List.mem_singleton.mp hb]
      exact hG.there ha
    · intro a ha
      rcases List.mem_append.mp ha with ha | ha
      · exact hG.above a ha
      · rw [List.mem_singleton.mp ha]; exact hSl
    · intro j b hj
      rcases Nat.lt_trichotomy j as.length with h1 | h1 | h1
      · rw [List.getElem?_append_left h1] at hj
        obtain ⟨k, v, r, e3⟩ := hG.pairs j b hj
        have hb := hG.above b (List.mem_of_getElem? hj)
        exact ⟨k, v, r, up b _ (Nat.ne_of_gt hb) (hkp b _ (offT b hb) e3)⟩
      · subst h1
        have hb : h.objs.size = b := by simpa using hj
        subst hb
        exact ⟨kk, vv, by subst hal; exact hrel, up _ _ (Nat.ne_of_gt hSl) ht⟩
      · have hnone : (as ++ [h.objs.size])[j]? = none := List.getElem?_eq_none (by rw [List.length_append, List.length_singleton]; omega)
        rw [hnone] at hj; cases hj
end
theorem zip_no_len : typeLookup (.type "zip") "__len__" = pure none := by rw [typeLookup_type, builtinLookup_eq_fast]; kernel_rfl
theorem zip_no_hint : typeLookup (.type "zip") "__length_hint__" = pure none := by rw [typeLookup_type, builtinLookup_eq_fast]; kernel_rfl
section
variable {prog : Program} {w : World} {A : Around} {s : Shared} {n : Nat} {Rel : Nat → Value → Value → Prop} {St : Nat → Heap → Prop} {wr : List Addr}
theorem tu_extend {R : Result → Shared → Prop} {S I : Addr} (W : TuS prog w A.in1 I S wr n Rel St) (hn : n ≤ sizeLine) (hty : ∀ i h, St i h → ∃ o, h.get? I = some o ∧ o.cls = .type "zip") (hself : ∀ (s : Shared) (Q : Value → Shared → Prop) (E : Value → Shared → Prop), St 0 s.heap → Q (.ref I) s → wpAny (model prog w) A.in1 (pyIter (.ref I)) Q E s)
    (st : St 0 s.heap) (res : Value) (c₀ : Nat) (hS : s.heap.get? S = some { cls := .type "list", data := .seq #[] c₀ })
    (hR : ∀ h' tk acc c as, (∀ b o, b ≠ S → b ∉ wr → s.heap.get? b = some o → h'.get? b = some o) → h'.get? S = some { cls := .type "list", dict := none, data := .seq acc c, slots := #[] } → as.length = n → TuG n Rel S h' as →
      acc.toList = as.map Value.ref → R (.ok (.ret res)) { s with heap := h', toks := tk }) :
    wpAny (model prog w) A.in1 (Builtin.List.listExtendWith (.ref S) (.ref I) res)
      (fun fin s' => match fin with | .done f => R (.ok f) s' | .again c' => c'.quiet = true ∧ codeAny (model prog w) A c' R s') (fun e s' => R (.error e) s') s := by
  have hSI : S ≠ I := Nat.ne_of_gt W.self
  have hT : s.TypeIs (.ref I) "zip" := hty 0 _ st
  unfold Builtin.List.listExtendWith
  refine wpAny_bind (wpAny_typeOf (T := "zip") hT ?_)
  have h1 : Builtin.List.listSameRef (.ref S) (.ref I) = false := by simp [Builtin.List.listSameRef, hSI]
  have h2 : (Value.type "zip" == Value.type "list") = false := by decide
  have h3 : (Value.type "zip" == Value.type "tuple") = false := by decide
  simp only [h1, h2, h3, Bool.or_false, Bool.false_eq_true, if_false]
  refine wpAny_bind (hself _ _ _ st ?_)
  refine wpAny_bind (wpAny_holding ?_)
  unfold Builtin.List.listLengthHint
  refine wpAny_bind (wpAny_specialOf hT zip_no_len ?_)
  show wpAny _ A.in1 (specialOf (Value.ref I) (Str.ofString "__length_hint__") >>= _) _ _ _
  refine wpAny_bind (wpAny_specialOf hT zip_no_hint ?_)
  refine wpAny_pure ?_
  show wpAny _ A.in1 (rule "list.extend.makes-room" >>= fun _ => Builtin.List.listTouch (.ref S) >>= fun _ =>
    again (.builtin "list.extend.loop" ⟨[.ref S, .ref I, res], []⟩)) _ _ _
  refine wpAny_bind (wpAny_rule ?_)
  refine wpAny_bind ?_
  show wpAny _ A.in1 (updateSeq S (·.push .none) >>= fun _ => updateSeq S (·.pop)) _ _ _
  refine wpAny_bind (wpAny_updateSeq hS rfl ?_)
  have hS₂ := Heap.get?_update_self (Obj.mapSeq (·.push Value.none)) hS rfl
  refine wpAny_updateSeq (hz := by seq_fits) hS₂ rfl ?_
  have hS₃ := Heap.get?_update_self (Obj.mapSeq (·.pop)) hS₂ rfl
  have oth : ∀ b o, b ≠ S → s.heap.get? b = some o → ((s.heap.update S (Obj.mapSeq (·.push Value.none))).update S (Obj.mapSeq (·.pop))).get? b = some o :=
    fun b o hb e => (Heap.get?_update_other _ _ (Ne.symm hb)).trans ((Heap.get?_update_other _ _ (Ne.symm hb)).trans e)
  refine wpAny_pure ⟨plainId_quiet PySem.F.plain_extend_loop _, ?_⟩
  refine tu_loop (s := s) (h₁ := s.heap) W hn res hR n 0 _ s.toks _ _ [] (Nat.sub_zero _) (Nat.zero_le _) (W.frame 0 _ _ st oth) (fun b o hb _ e => oth b o hb e) hS₃ rfl rfl ⟨List.Pairwise.nil, (fun _ ha => nomatch ha), (fun j a hj => by simp at hj)⟩
theorem tu_init {R : Result → Shared → Prop} {S I : Addr} (W : TuS prog w A.in1 I S wr n Rel St) (hn : n ≤ sizeLine) (hty : ∀ i h, St i h → ∃ o, h.get? I = some o ∧ o.cls = .type "zip") (hself : ∀ (s : Shared) (Q : Value → Shared → Prop) (E : Value → Shared → Prop), St 0 s.heap → Q (.ref I) s → wpAny (model prog w) A.in1 (pyIter (.ref I)) Q E s)
    (st : St 0 s.heap) (hS : s.heap.get? S = some { cls := .type "list", data := .seq #[] })
    (hR : ∀ h' tk acc c as, (∀ b o, b ≠ S → b ∉ wr → s.heap.get? b = some o → h'.get? b = some o) → h'.get? S = some { cls := .type "list", dict := none, data := .seq acc c, slots := #[] } → as.length = n → TuG n Rel S h' as →
      acc.toList = as.map Value.ref → R (.ok (.ret .none)) { s with heap := h', toks := tk }) :
    wpAny (model prog w) A.in1 (Builtin.«list.__init__» ⟨[.ref S, .ref I], []⟩)
      (fun fin s' => match fin with | .done f => R (.ok f) s' | .again c' => c'.quiet = true ∧ codeAny (model prog w) A c' R s') (fun e s' => R (.error e) s') s := by
  show wpAny _ _ (do let old ← Builtin.List.listItems (.ref S); Builtin.List.listUpdate (.ref S) (fun _ => #[]); letGo old.toList.reverse; Builtin.List.listExtendWith (.ref S) (.ref I) .none) _ _ s
  refine wpAny_bind ?_
  unfold Builtin.List.listItems
  refine wpAny_bind (wpAny_seqItems hS rfl (wpAny_pure ?_))
  show wpAny _ _ (updateSeq S (fun _ => #[]) >>= fun _ => letGo (#[] : Array Value).toList.reverse >>= fun _ => Builtin.List.listExtendWith (.ref S) (.ref I) .none) _ _ s
  refine wpAny_bind (wpAny_updateSeq hS rfl ?_)
  have hS₂ := Heap.get?_update_self (Obj.mapSeq (fun _ => (#[] : Array Value))) hS rfl
  have oth : ∀ b o, b ≠ S → s.heap.get? b = some o → (s.heap.update S (Obj.mapSeq (fun _ => (#[] : Array Value)))).get? b = some o :=
    fun b o hb e => (Heap.get?_update_other _ _ (Ne.symm hb)).trans e
  refine wpAny_bind (wpAny_letGo ?_)
  exact tu_extend W hn hty hself (W.frame 0 _ _ st oth) .none _ hS₂ fun h' tk acc c as hk hS' hl hG hacc => hR h' tk acc c as (fun b o hb hw e => hk b o hb hw (oth b o hb e)) hS' hl hG hacc
theorem tu_call {E : Value → Shared → Prop} {Q : Value → Shared → Prop} {I : Addr} (W : TuS prog w A.in1.in1 I s.heap.objs.size wr n Rel St) (hn : n ≤ sizeLine) (hty : ∀ i h, St i h → ∃ o, h.get? I = some o ∧ o.cls = .type "zip") (hself : ∀ (s : Shared) (Q : Value → Shared → Prop) (E : Value → Shared → Prop), St 0 s.heap → Q (.ref I) s → wpAny (model prog w) A.in1.in1 (pyIter (.ref I)) Q E s)
    (st : St 0 s.heap)
    (hQ : ∀ h' tk acc c as, (∀ b o, b ∉ wr → s.heap.get? b = some o → h'.get? b = some o) → h'.get? s.heap.objs.size = some { cls := .type "list", dict := none, data := .seq acc c, slots := #[] } → as.length = n → TuG n Rel s.heap.objs.size h' as →
      acc.toList = as.map Value.ref → Q (.ref s.heap.objs.size) { s with heap := h', toks := tk }) :
    wpAny (model prog w) A (call (.type "list") [.ref I]) Q E s := by
  refine callType_codes (Q₁ := fun obj s₁ => obj = .ref s.heap.objs.size ∧ s₁ = { s with heap := s.heap.push { cls := .type "list", data := .seq #[] } }) PySem.F.called_list (PySem.F.typeCall_list_1 _) PySem.F.entry_list_init
    (code_list_new _ ⟨rfl, rfl⟩) fun obj s₁ h₁ => ?_
  obtain ⟨rfl, rfl⟩ := h₁
  have hS : (s.heap.push { cls := .type "list", data := .seq #[] }).get? s.heap.objs.size = some { cls := .type "list", data := .seq #[] } := Heap.get?_push_size _ rfl
  refine ⟨⟨_, hS, rfl⟩, PySem.F.args_list_init_2 _ _, tu_init (A := A.in1) (s := { s with heap := s.heap.push { cls := .type "list", data := .seq #[] } }) W hn hty hself (W.frame 0 _ _ st fun b o _ e => Heap.get?_push_of_some _ e) hS fun h' tk acc c as hk hS' hl hG hacc => ?_⟩
  exact ⟨rfl, hQ h' tk acc c as (fun b o hw e => hk b o (Nat.ne_of_lt (Heap.lt_size e)) hw (Heap.get?_push_of_some _ e)) hS' hl hG hacc⟩
theorem tus_zip (hA : A.handled = none) {z TI TO i1 i2 l1 l2 S : Addr} (D : ZipApart z TI TO i1 i2 l1 l2) (xs ys : Array Value) (z1 : z < S) (z2 : TI < S) (z3 : TO < S) (z4 : i1 < S) (z5 : i2 < S) (z6 : l1 < S) (z7 : l2 < S) :
    TuS prog w A z S [z, TO, i1, i2] (min xs.size ys.size) (fun i k v => xs[i]? = some k ∧ ys[i]? = some v)
      (fun i h => IsPair h TI (.ref i1) (.ref i2) ∧ h.IsListIter i1 l1 i ∧ h.IsListIter i2 l2 i ∧ h.IsList l1 xs ∧ h.IsList l2 ys ∧
      ((IsZip h z TI TO .none ∧ ∃ a b, IsPair h TO a b) ∨ ∃ T f oT, IsZipHeld h z TI TO T f ∧ h.get? T = some oT ∧ T ≠ z ∧ T ≠ i1 ∧ T ≠ i2 ∧ T ≠ S)) where
  off := fun b hb => by
    simp only [List.mem_cons, List.not_mem_nil, or_false] at hb
    rcases hb with rfl | rfl | rfl | rfl <;> assumption
  self := z1
  frame := fun i h₁ h₂ st hk => by
    obtain ⟨hTI, h1, h2, hl1, hl2, hz⟩ := st
    refine ⟨hk _ _ (Nat.ne_of_lt z2) hTI, h1.at fun o e => hk _ o (Nat.ne_of_lt z4) e, h2.at fun o e => hk _ o (Nat.ne_of_lt z5) e, hl1.at fun o e => hk _ o (Nat.ne_of_lt z6) e, hl2.at fun o e => hk _ o (Nat.ne_of_lt z7) e, ?_⟩
    rcases hz with ⟨hz, a, b, hTO⟩ | ⟨T, f, oT, hz, hT, r1, r2, r3, r4⟩
    · exact .inl ⟨hk _ _ (Nat.ne_of_lt z1) hz, a, b, hk _ _ (Nat.ne_of_lt z3) hTO⟩
    · exact .inr ⟨T, f, oT, hk _ _ (Nat.ne_of_lt z1) hz, hk _ _ r4 hT, r1, r2, r3, r4⟩
  item := fun i s₁ Q₁ E₁ hi st hds hQ => by
    obtain ⟨hTI, h1, h2, hl1, hl2, hz⟩ := st
    have hix : i < xs.size := Nat.lt_of_lt_of_le hi (Nat.min_le_left ..)
    have hiy : i < ys.size := Nat.lt_of_lt_of_le hi (Nat.min_le_right ..)
    have ex := Array.getElem?_eq_getElem hix
    have ey := Array.getElem?_eq_getElem hiy
    have lt : ∀ {c o}, s₁.heap.get? c = some o → s₁.heap.objs.size ≠ c := fun e => Nat.ne_of_gt (Heap.lt_size e)
    have n1 : s₁.heap.objs.size ≠ i1 := let ⟨_, e, _⟩ := h1; lt e
    have n2 : s₁.heap.objs.size ≠ i2 := let ⟨_, e, _⟩ := h2; lt e
    rcases hz with ⟨hz, a, b, hTO⟩ | ⟨T, f, oT, hz, hT, r1, r2, r3, r4⟩
    · refine wpAny_pyNext_zip_item D hz hTI hTO h1 h2 hl1 hl2 ex ey fun h' a1 a2 a3 a4 a5 a6 hk => ?_
      exact hQ _ _ h' ⟨ex, ey⟩ a5
        ⟨hk _ _ D.TIz D.TITO D.TIi1 D.TIi2 hTI, a3, a4, hl1.at fun o e => hk _ o D.l1z D.l1TO D.l1i1 D.l1i2 e, hl2.at fun o e => hk _ o D.l2z D.l2TO D.l2i1 D.l2i2 e,
          .inr ⟨s₁.heap.objs.size, false, _, a1, a5, lt hz, n1, n2, Nat.ne_of_gt hds⟩⟩
        fun c o hc e => hk c o (fun x => hc (by simp [x])) (fun x => hc (by simp [x])) (fun x => hc (by simp [x])) (fun x => hc (by simp [x])) e
    · refine wpAny_pyNext_zip_item_held D hz hT hTI h1 h2 hl1 hl2 ex ey fun h' a1 a3 a4 a5 a6 hk => ?_
      exact hQ _ _ h' ⟨ex, ey⟩ a5
        ⟨hk _ _ D.TIz D.TIi1 D.TIi2 hTI, a3, a4, hl1.at fun o e => hk _ o D.l1z D.l1i1 D.l1i2 e, hl2.at fun o e => hk _ o D.l2z D.l2i1 D.l2i2 e,
          .inr ⟨T, true, oT, a1, hk _ _ r1 r2 r3 hT, r1, r2, r3, r4⟩⟩
        fun c o hc e => hk c o (fun x => hc (by simp [x])) (fun x => hc (by simp [x])) (fun x => hc (by simp [x])) e
  done := fun s₁ Q₁ E₁ st hQ => by
    obtain ⟨hTI, h1, h2, hl1, hl2, hz⟩ := st
    have hend : xs[min xs.size ys.size]? = none ∨ ys[min xs.size ys.size]? = none := by
      rcases Nat.le_total xs.size ys.size with h | h
      · exact .inl (Array.getElem?_eq_none (by rw [Nat.min_eq_left h]; exact Nat.le_refl _))
      · exact .inr (Array.getElem?_eq_none (by rw [Nat.min_eq_right h]; exact Nat.le_refl _))
    rcases hz with ⟨hz, a, b, hTO⟩ | ⟨T, f, oT, hz, hT, r1, r2, r3, r4⟩
    · exact wpAny_pyNext_zip_end hA D hz hTI hTO h1 h2 hl1 hl2 hend fun h' hk => hQ h' fun c o hc e => hk c o (fun x => hc (by simp [x])) (fun x => hc (by simp [x])) (fun x => hc (by simp [x])) (fun x => hc (by simp [x])) e
    · exact wpAny_pyNext_zip_end_held hA D hz hT hTI h1 h2 hl1 hl2 hend fun h' hk => hQ h' fun c o hc e => hk c o (fun x => hc (by simp [x])) (fun x => hc (by simp [x])) (fun x => hc (by simp [x])) e
end
end U
namespace U
open PySem PySem.Spec PyProof.Rows L2
/-- new pairs at their addresses -/
def putZ : Hp → List Addr → List (V × V) → Hp
  | H, a :: as, p :: ps => putZ (upd H a (.tup [p.1, p.2])) as ps
  | H, _, _ => H
theorem putZ_off {b : Addr} : ∀ (as : List Addr) (ps : List (V × V)) (H : Hp), b ∉ as → putZ H as ps b = H b
  | [], _, _, _ => rfl
  | _ :: _, [], _, _ => rfl
  | a :: as, p :: ps, H, h => by
    show putZ (upd H a (.tup [p.1, p.2])) as ps b = H b
    rw [putZ_off as ps _ (fun z => h (List.mem_cons_of_mem _ z)), upd_ne (fun z => h (by rw [z]; exact List.mem_cons_self))]
theorem putZ_at : ∀ (as : List Addr) (ps : List (V × V)) (H : Hp), as.length = ps.length → as.Nodup → Paired (fun (t : Addr) (p : V × V) => putZ H as ps t = some (.tup [p.1, p.2])) as ps
  | [], [], _, _, _ => .nil
  | [], _ :: _, _, h, _ => by cases h
  | _ :: _, [], _, h, _ => by cases h
  | a :: as, p :: ps, H, h, hn => by
    have hn' := List.nodup_cons.mp hn
    have ih := putZ_at as ps (upd H a (.tup [p.1, p.2])) (Nat.succ.inj h) hn'.2
    refine .cons ?_ ih
    show putZ (upd H a (.tup [p.1, p.2])) as ps a = some (.tup [p.1, p.2])
    rw [putZ_off as ps _ hn'.1, upd_same]
def qLZip (K : PySem.W.Frag) : RCl := fun vs H Q => ∃ (a b : Addr) (xs ys : List V), vs = [V.ref a, V.ref b] ∧ SqL K H a xs ∧ SqL K H b ys ∧
  ∀ (H' : Hp) (p : Addr) (ts : List Addr), (∀ b o, H b = some o → H' b = some o) → H p = none → (∀ t ∈ ts, H t = none) → p ∉ ts → H' p = some (.lst (ts.map V.ref)) → Paired (fun (t : Addr) (q : V × V) => H' t = some (.tup [q.1, q.2])) ts (xs.zip ys) → Q (.ref p) H'
section
variable {X : Cx}
theorem zips_laid {pins : List (Addr × Obj)} {σ : L2.St} {H : Hp} {s : Shared} {h' : Heap} {tk : Nat} {xs ys : List V} {us ws : List Value} {acc : Array Value} {c n : Nat} {as : List Addr} {S : Addr} (I : Inv X pins σ H s) (hS0 : s.heap.objs.size ≤ S) (hz : xs.length ≤ sizeLine) (rv : Vals xs us) (rw' : Vals ys ws)
    (hk : ∀ b o, s.heap.get? b = some o → h'.get? b = some o) (hS : h'.get? S = some { cls := .type "list", dict := none, data := .seq acc c, slots := #[] }) (hl : as.length = min xs.length ys.length) (hG : TuG n (fun i k v => us.toArray[i]? = some k ∧ ws.toArray[i]? = some v) S h' as) (hacc : acc.toList = as.map Value.ref) :
    ∃ H' : Hp, (∀ b o, H b = some o → H' b = some o) ∧ H S = none ∧ (∀ t ∈ as, H t = none) ∧ S ∉ as ∧ H' S = some (.lst (as.map V.ref)) ∧ Paired (fun (t : Addr) (q : V × V) => H' t = some (.tup [q.1, q.2])) as (xs.zip ys) ∧ Inv X pins σ H' { s with heap := h', toks := tk } := by
  have lk : as.length = (xs.zip ys).length := by rw [List.length_zip]; exact hl
  have hSn : S ∉ as := fun z => Nat.lt_irrefl _ (hG.above _ z)
  have nd : as.Nodup := List.Pairwise.imp (fun {a b} (h : a < b) => Nat.ne_of_lt h) hG.rise
  have new : ∀ t ∈ as, H t = none := fun t ht => I.hok.fresh (Nat.le_trans hS0 (Nat.le_of_lt (hG.above t ht)))
  have newS : H S = none := I.hok.fresh hS0
  have atP := putZ_at as (xs.zip ys) (upd H S (.lst (as.map V.ref))) lk nd
  have off : ∀ b, b ∉ as → b ≠ S → putZ (upd H S (.lst (as.map V.ref))) as (xs.zip ys) b = H b := fun b h1 h2 => by rw [putZ_off as _ _ h1, upd_ne h2]
  have low : ∀ b o, s.heap.get? b = some o → b ∉ as ∧ b ≠ S := fun b o e => ⟨fun z => absurd (Heap.lt_size e) (Nat.not_lt.mpr (Nat.le_trans hS0 (Nat.le_of_lt (hG.above b z)))), Nat.ne_of_lt (Nat.lt_of_lt_of_le (Heap.lt_size e) hS0)⟩
  have kp : ∀ b u, H b = some u → (putZ (upd H S (.lst (as.map V.ref))) as (xs.zip ys)) b = some u := fun b u e => by
    rw [off b (fun z => by rw [new b z] at e; cases e) (fun z => by rw [z, newS] at e; cases e)]
    exact e
  have eS : putZ (upd H S (.lst (as.map V.ref))) as (xs.zip ys) S = some (.lst (as.map V.ref)) := by rw [putZ_off as _ _ hSn, upd_same]
  refine ⟨putZ (upd H S (.lst (as.map V.ref))) as (xs.zip ys), kp, newS, new, hSn, eS, atP, ?_⟩
  refine I.call' (ch := []) rfl ⟨fun b o q _ _ _ => hk b o q, fun b o q _ _ _ => ⟨o.slots, hk b o q⟩, fun b o q n _ => ?_, fun b o q _ => ⟨o, hk b o q⟩, fun b xs q => kp b _ q, fun b o u q => kp b _ q, fun b ps q => ⟨#[], by rw [kp b _ q]; simp⟩⟩ (fun b u q => ?_) I.bare fun b z => by simp at z
  · obtain ⟨z1, z2⟩ := low b o q
    rw [off b z1 z2]
    exact n
  · by_cases hb : b ∈ as
    · obtain ⟨j, pk, e1, e2, e3⟩ := LiI.paired_ix atP hb
      rw [e3] at q
      cases q
      obtain ⟨kk, vv, ⟨f1, f2⟩, f3⟩ := hG.pairs j b e1
      rw [List.getElem?_zip_eq_some] at e2
      obtain ⟨u1, g1, g2⟩ := rv.get e2.1
      obtain ⟨u2, g3, g4⟩ := rw'.get e2.2
      have h1 : u1 = kk := Option.some.inj (g1.symm.trans (by simpa using f1))
      have h2 : u2 = vv := Option.some.inj (g3.symm.trans (by simpa using f2))
      subst h1
      subst h2
      exact ⟨by show 2 ≤ sizeLine; decide, [u1, u2], .cons g2 (.cons g4 .nil), ⟨_, f3, rfl, _, rfl⟩⟩
    · by_cases hb2 : b = S
      · rw [hb2] at q ⊢
        rw [eS] at q
        cases q
        refine ⟨by rw [List.length_map]; omega, acc.toList, c, by rw [hacc]; exact LiI.vals_refs as, ?_⟩
        rw [Array.toArray_toList]
        exact hS
      · rw [off b hb hb2] at q
        exact (I.hok b u q).stay (fun d v _ y => hk d v y) (fun d y => kp d _ y) fun d xs y => kp d _ y
variable {e e2 : Expr} {ta : TA} {p1 p2 q1 pos : Pos} {K : PySem.W.Frag}
theorem pe_lzip (hK : X.K = K) (hc : X.calm = true) (hg : Gl X "list") (hm : X.mg "list" = none) (hg2 : Gl X "zip") (hm2 : X.mg "zip" = none) (ha : PA X [e, e2] ta)
    (he : starEach [e, e2] X.env = (false, eval e X.env) :: starEach [e2] X.env := by rfl) (hpl : (backTo q1 (starEach [e2] X.env)).any (·.1) = false := by rfl) :
    PE X (.Call (.Name "list" p1) [.Call (.Name "zip" p2) [e, e2] [] q1] [] pos) (tCB (qLZip K) ta) := by
  subst hK
  refine ⟨fun pins s σ H Q I h => ?_⟩
  refine Call_ (ld_blt I hg hm bo_list ?_)
  refine PyProof.Rows.callWith_type1 (PyProof.Rows.args_cons ?_ rfl) rfl rfl
  refine Call_ (ld_blt I hg2 hm2 PyProof.Rows.boot_zip ?_)
  refine PyProof.Rows.callWith_type1 (thn (ha.run q1 pins s σ H _ I h) fun us s1 ⟨vs, H1, I1, r1, z⟩ => ?_) he hpl
  obtain ⟨a, b, xs, ys, rfl, sq, sq2, z⟩ := z
  cases r1 with
  | cons r rr =>
  cases rr with
  | cons r' rr =>
  cases rr
  cases r
  cases r'
  obtain ⟨its, rv, pl, hz⟩ := I1.list sq
  obtain ⟨its2, rv2, pl2, hz2⟩ := I1.list sq2
  refine zip_begins2 (begins_list a its.toArray) (begins_list b its2.toArray) pl.isList pl2.isList fun h' hz1 hI hO ho ho' hsz hk => ?_
  refine PyProof.Rows.args_nil ?_
  have lxs : xs.length = its.length := rv.length
  have lys : ys.length = its2.length := rv2.length
  have la : a < s1.heap.objs.size := pl.lt
  have lb : b < s1.heap.objs.size := pl2.lt
  have hlt : ∀ k, k < 5 → s1.heap.objs.size + k < h'.objs.size := fun k hk5 => by rw [hsz]; exact Nat.add_lt_add_left hk5 _
  have l0 : s1.heap.objs.size < h'.objs.size := hlt 0 (by decide)
  have up : ∀ (l : Addr) {xs : Array Value}, s1.heap.IsList l xs → h'.IsList l xs := fun l _ hl => hl.at fun o e => hk _ o e
  have hh : X.A.handled = none := I1.ok.hd hc
  refine tu_call (s := { s1 with heap := h' }) (tus_zip (A := X.A.in1.in1) hh (zipApart_new la lb) its.toArray its2.toArray (hlt 4 (by decide)) (hlt 2 (by decide)) (hlt 3 (by decide)) l0 (hlt 1 (by decide)) (Nat.lt_trans la l0) (Nat.lt_trans lb l0)) (by simp only [List.size_toArray]; omega)
    (fun i h st => ?_) (fun s' Q' E' st q => ?_) ⟨hI, ⟨_, ho, rfl, rfl⟩, ⟨_, ho', rfl, rfl⟩, up a pl.isList, up b pl2.isList, .inl ⟨hz1, _, _, hO⟩⟩ fun h2 tk acc c as hk2 hS hl hG hacc => ?_
  · rcases st.2.2.2.2.2 with ⟨q, _⟩ | ⟨_, _, _, q, _⟩
    · exact ⟨_, q, rfl⟩
    · exact ⟨_, q, rfl⟩
  · rcases st.2.2.2.2.2 with ⟨q1, _⟩ | ⟨T, f, oT, q1, q2⟩
    · exact wpAny_pyIter_zip q1 q
    · have hT : s'.TypeIs (.ref (s1.heap.objs.size + 4)) "zip" := ⟨_, q1, rfl⟩
      refine wpAny_pyIter_slot hT F.slot_zip_iter (wpAny_call_entry F.slot_zip_iter hT F.entry_zip_iter ?_ (F.args_zip_iter_1 _))
      show wpAny _ _ (ret (.ref _)) _ _ s'
      exact wpAny_pure ⟨_, rfl, "zip", _, hT, F.slot_zip_next.lookup, q⟩
  · have low : ∀ b o, s1.heap.get? b = some o → b ∉ [s1.heap.objs.size + 4, s1.heap.objs.size + 3, s1.heap.objs.size, s1.heap.objs.size + 1] := fun b o e hb => by
      have hlt2 := Heap.lt_size e
      simp only [List.mem_cons, List.not_mem_nil, or_false] at hb
      rcases hb with z | z | z | z <;> (rw [z] at hlt2; first | exact Nat.lt_irrefl _ hlt2 | exact absurd hlt2 (Nat.not_lt.mpr (Nat.le_add_right _ _)))
    obtain ⟨H', k1, k2, k3, k4, k5, k6, J⟩ := zips_laid (tk := tk) (S := h'.objs.size) I1 (Nat.le_of_lt l0) hz rv rv2 (fun b o e => hk2 b o (low b o e) (hk b o e)) hS (by rw [hl]; simp only [List.size_toArray]; omega) hG hacc
    exact ⟨.ref _, H', J, rfl, z H' _ as k1 k2 k3 k4 k5 k6⟩
end
section
variable {α β : Type} {t : Rp α} {u : Rp β} {K : PySem.W.Frag} {F H : Hp} {a b : Addr} {vs ws : List V} {xs : List α} {ys : List β} {Q : VK}
theorem al_zips {F' : Hp} : ∀ {ts : List Addr} {vs ws : List V} {xs : List α} {ys : List β}, Al t F' vs xs → Al u F' ws ys → Paired (fun (t : Addr) (q : V × V) => F' t = some (.tup [q.1, q.2])) ts (vs.zip ws) → Al (eP2 t u) F' (ts.map V.ref) (xs.zip ys)
  | _, _, _, _, _, .nil, _, p => by cases p; exact .nil
  | _, _, _, _, _, .cons _ _, .nil, p => by cases p; exact .nil
  | _, _, _, _, _, .cons h1 t1, .cons h2 t2, p => by
    cases p with
    | cons q r => exact .cons ⟨_, _, _, rfl, q, h1, h2⟩ (al_zips t1 t2 r)
theorem v_lzip (hs : Sub F H) (hq : SqL K H a vs) (al : Al t F vs xs) (hq2 : SqL K H b ws) (al2 : Al u F ws ys)
    (k : ∀ p us F' H', Gr [] F H F' H' → F' p = some (.lst us) → Al (eP2 t u) F' us (xs.zip ys) → Q (.ref p) H') : qLZip K [.ref a, .ref b] H Q := by
  refine ⟨a, b, vs, ws, rfl, hq, hq2, fun H' p ts e1 e2 e3 e4 e5 e6 => ?_⟩
  let F' : Hp := fun b => if (H b).isSome then F b else H' b
  have f1 : Sub F F' := fun a o e => by
    show (if (H a).isSome then F a else H' a) = some o
    rw [hs _ _ e]; exact e
  have f2 : Sub F' H' := fun a o e => by
    have e : (if (H a).isSome then F a else H' a) = some o := e
    cases hh : H a with
    | none => rw [hh] at e; exact e
    | some u => rw [hh] at e; exact e1 _ _ (hs _ _ e)
  have f3 : ∀ a, H a = none → F' a = H' a := fun a e => by
    show (if (H a).isSome then F a else H' a) = H' a
    rw [e]; rfl
  have g : Gr [] F H F' H' := ⟨f1, f2, fun a o _ e => e1 _ _ e, fun a e => by
      cases hh : H a with
      | none => exact absurd hh e
      | some u => rw [e1 _ _ hh]; exact (fun z => nomatch z), fun a e n => by
      show (if (H a).isSome then F a else H' a) = none
      cases hh : H a with
      | none => exact absurd hh e
      | some u => exact n⟩
  refine k p (ts.map V.ref) F' H' g (by rw [f3 p e2]; exact e5) (al_zips (Al.mono al f1) (Al.mono al2 f1) ?_)
  have lm : ∀ {ts : List Addr} {ps : List (V × V)}, (∀ t ∈ ts, H t = none) → Paired (fun (t : Addr) (q : V × V) => H' t = some (.tup [q.1, q.2])) ts ps → Paired (fun (t : Addr) (q : V × V) => F' t = some (.tup [q.1, q.2])) ts ps := fun {ts ps} hn p => by
    induction p with
    | nil => exact .nil
    | cons r _ ih => exact .cons (by rw [f3 _ (hn _ List.mem_cons_self)]; exact r) (ih fun t ht => hn t (List.mem_cons_of_mem _ ht))
  exact lm e3 e6
end
end U
/-! ### xs[i] += k -/
namespace U
open PySem PySem.Spec PyProof.Rows L2
section
variable {X : Cx} {K : PySem.W.Frag}
theorem pget_list (hK : X.K = K) : PGet X (rIxL K) := by
  subst hK
  intro pins s σ H o i ov iv Q I ro ri h
  obtain ⟨p, xs, k, z, rfl, rfl, hq, he, q⟩ := h
  cases ro
  obtain ⟨t, rfl⟩ := ri
  obtain ⟨its, r, pl, hz⟩ := I.list hq
  obtain ⟨j, h1, h2, h3, h4, h5⟩ := atI_get he
  obtain ⟨w, ew, rw'⟩ := r.get h2
  have hl := r.length
  have hn := line63
  have fin : EP X pins σ Q w s := ⟨z, H, I, rw', q⟩
  by_cases h0 : 0 ≤ k
  · have hj : k.toNat = j := by
      rw [seqIndex_of h0 h5] at h1
      exact Option.some.inj h1
    exact wpAny_getItem_list pl.isList h0 (by omega) (by rw [hj]; simpa using ew) fin
  · have hj : (k + (its.toArray.size : Int)).toNat = j := by
      rw [seqIndex_neg (by omega) h4] at h1
      rw [List.size_toArray, ← hl]
      exact Option.some.inj h1
    exact wpAny_getItem_list_neg pl.isList (by omega) (by rw [List.size_toArray] <;> omega) (by omega) (by rw [hj]; simpa using ew) fin
end
theorem n_augS {σ : L2.St} {H : Hp} {nx : L2.St → Hp → Prop} {to ti te : TE} {tget : V → V → Hp → VK → Prop} {tip : TIp} {tset : TSet} {rt bk ct} (h : to σ H fun o H1 => ti σ H1 fun i H2 => tget o i H2 fun x H3 => te σ H3 fun y H4 => tip x y H4 fun z H5 => tset o i z H5 fun H6 => nx σ H6) : tAugS to ti te tget tip tset ⟨nx, rt, bk, ct⟩ σ H := h
end U
set_option Elab.async false
set_option linter.all false
set_option maxRecDepth 100000
set_option maxHeartbeats 4000000
namespace U
open PySem PySem.Spec L2
/-! ### plain: what a mirror gives -/
section
variable {α β σ ρ : Type} {P Q : α → Prop} {R : β → Prop} {x : Option α} {f : α → Option β} {a : α}
def Ret (x : Option α) (P : α → Prop) : Prop := ∃ a, x = some a ∧ P a
theorem Ret.pure (h : P a) : Ret (some a) P := ⟨a, rfl, h⟩
theorem Ret.bind (h : Ret x P) (k : ∀ a, P a → Ret (f a) R) : Ret (x.bind f) R := by
  obtain ⟨a, rfl, p⟩ := h
  exact k a p
theorem Ret.mono (h : Ret x P) (k : ∀ a, P a → Q a) : Ret x Q := by
  obtain ⟨a, e, p⟩ := h
  exact ⟨a, e, k a p⟩
theorem Ret.eq (h : x = some a) (k : Ret (f a) R) : Ret (x.bind f) R := by subst h; exact k
theorem Ret.of (h : x = some a) (p : P a) : Ret x P := ⟨a, h, p⟩
theorem Ret.val {b : α} (h : Ret x P) (k : ∀ a, P a → a = b) : x = some b := by
  obtain ⟨a, e, p⟩ := h
  rw [e, k a p]
theorem ret_need {c : Bool} (h : c = true) (k : Ret (f a) R) : Ret ((need c a).bind f) R := by subst h; exact k
theorem need_eq {c : Bool} (h : c = true) : need c a = some a := by subst h; rfl
theorem Ret.ite {c : Bool} {x y : Option α} (h1 : c = true → Ret x P) (h2 : c = false → Ret y P) : Ret (if c = true then x else y) P := by
  cases c with
  | true => rw [if_pos rfl]; exact h1 rfl
  | false => rw [if_neg Bool.false_ne_true]; exact h2 rfl
theorem atI_of {xs : List α} {i : Int} {a : α} (h0 : 0 ≤ i) (h : xs[i.toNat]? = some a) : atI xs i = some a := by
  have := atI_nat h
  rw [show ((i.toNat : Nat) : Int) = i by omega] at this
  exact this
theorem atI_lt {xs : List α} {i : Int} (h0 : 0 ≤ i) (h : i < xs.length) : atI xs i = some (xs[i.toNat]'(by omega)) := atI_of h0 (List.getElem?_eq_getElem (by omega))
theorem ret_at {xs : List α} {i : Int} (h0 : 0 ≤ i) (h : i < xs.length) : Ret (atI xs i) (fun a => xs[i.toNat]? = some a) := ⟨_, atI_lt h0 h, List.getElem?_eq_getElem (by omega)⟩
theorem atI_neg {xs : List α} {i : Int} (h0 : i < 0) (h : -(xs.length : Int) ≤ i) : atI xs i = xs[(i + xs.length).toNat]? := by
  unfold atI ixN
  rw [if_neg (by omega), if_pos h]
  rfl
theorem ixN_of {n : Nat} {i : Int} (h0 : 0 ≤ i) (h : i < n) : ixN n i = some i.toNat := by
  unfold ixN
  rw [if_pos h0, if_pos h]
theorem setM_of {xs : List α} {i : Int} {a : α} (h0 : 0 ≤ i) (h : i < xs.length) : setM xs i a = some (xs.set i.toNat a) := by
  unfold setM
  rw [ixN_of h0 h]; rfl
theorem szB_of {n : Nat} (h : n ≤ 16777216) : szB n = true := decide_eq_true h
theorem snocM_of {xs : List α} {a : α} (h : xs.length < 16777216) : snocM xs a = some (xs ++ [a]) := need_eq (decide_eq_true h)
theorem catLM_of {xs ys : List α} (h : xs.length + ys.length ≤ 16777216) : catLM xs ys = some (xs ++ ys) := need_eq (szB_of h)
theorem catM_of {xs ys : Sg} (h : xs.length + ys.length ≤ 16777216) : catM xs ys = some (xs ++ ys) := need_eq (szB_of h)
theorem modM_of {i j : Int} (h : 0 < j) : modM i j = some (i % j) := need_eq (decide_eq_true h)
theorem divM_of {i j : Int} (h : 0 < j) (h2 : j < 1073741824) : divM i j = some (i / j) := need_eq (decide_eq_true ⟨h, h2⟩)
theorem mulM_of {i j : Int} (h : (-(2 ^ 64) < i ∧ i < 2 ^ 64) ∨ (-(2 ^ 64) < j ∧ j < 2 ^ 64)) : mulM i j = some (i * j) := by
  refine need_eq ?_
  unfold mulB
  rcases h with h | h
  · rw [decide_eq_true h]; rfl
  · rw [decide_eq_true h, Bool.or_true]
theorem uptoM_of {lo hi : Int} (h1 : -(2 ^ 62) ≤ lo) (h2 : lo < 2 ^ 62) (h3 : -(2 ^ 62) ≤ hi) (h4 : hi < 2 ^ 62) : uptoM lo hi = some (upto lo hi) := by
  refine need_eq ?_
  unfold rngB
  rw [decide_eq_true ⟨h1, h2⟩, decide_eq_true ⟨h3, h4⟩]; rfl
theorem upto_get {lo hi : Int} {i : Nat} {a : Int} (h : (upto lo hi)[i]? = some a) : a = lo + i ∧ lo + i < hi := by
  unfold upto at h
  rw [List.getElem?_map] at h
  cases e : (List.range (hi - lo).toNat)[i]? with
  | none => rw [e] at h; cases h
  | some j =>
    rw [e] at h
    obtain ⟨h1, h2⟩ := List.getElem?_eq_some_iff.mp e
    rw [List.length_range] at h1
    have ej : j = i := by simpa using h2.symm
    subst ej
    have e3 : lo + (j : Int) = a := Option.some.inj h
    exact ⟨e3.symm, by omega⟩
theorem upto_mem {lo hi a : Int} (h : a ∈ upto lo hi) : lo ≤ a ∧ a < hi := by
  obtain ⟨i, hi'⟩ := List.getElem?_of_mem h
  have := upto_get hi'
  omega
theorem mx_eq (i j : Int) : mx i j = max i j := by unfold mx; split <;> omega
theorem mn_eq (i j : Int) : mn i j = min i j := by unfold mn; split <;> omega
theorem ret_foldO {xs : List α} {s : σ} {f : σ → α → Option σ} (I : Nat → σ → Prop) (h0 : I 0 s) (step : ∀ i s x, xs[i]? = some x → I i s → Ret (f s x) (I (i + 1))) : Ret (foldO xs s f) (I xs.length) := by
  induction xs generalizing s I with
  | nil => exact ⟨s, rfl, h0⟩
  | cons x xs ih =>
    obtain ⟨s', e, h1⟩ := step 0 s x rfl h0
    have := ih (s := s') (fun i => I (i + 1)) h1 fun i s y hy hi => step (i + 1) s y (by simpa using hy) hi
    obtain ⟨z, e2, h2⟩ := this
    refine ⟨z, ?_, by simpa using h2⟩
    show (f s x).bind _ = _
    rw [e]; exact e2
theorem ret_foldR {xs : List α} {s : σ} {f : σ → α → Option (Fl σ ρ)} (I : Nat → σ → Prop) (h0 : I 0 s) (step : ∀ i s x, xs[i]? = some x → I i s → Ret (f s x) (fun z => ∃ s', z = .nx s' ∧ I (i + 1) s')) :
    Ret (foldR xs s f) (fun z => ∃ s', z = .nx s' ∧ I xs.length s') := by
  induction xs generalizing s I with
  | nil => exact ⟨_, rfl, s, rfl, h0⟩
  | cons x xs ih =>
    obtain ⟨_, e, s', rfl, h1⟩ := step 0 s x rfl h0
    have := ih (s := s') (fun i => I (i + 1)) h1 fun i s y hy hi => step (i + 1) s y (by simpa using hy) hi
    obtain ⟨z, e2, h2⟩ := this
    refine ⟨z, ?_, by simpa using h2⟩
    show (f s x).bind _ = _
    rw [e]; exact e2
theorem ret_whileO {n : Nat} {s : σ} {c : σ → Option Bool} {b : σ → Option σ} (I : σ → Prop) (μ : σ → Nat) (h0 : I s) (hn : μ s < n)
    (step : ∀ s, I s → Ret (c s) (fun t => t = true → Ret (b s) (fun s' => I s' ∧ μ s' < μ s))) : Ret (whileO n s c b) (fun s => I s ∧ c s = some false) := by
  induction n generalizing s with
  | zero => omega
  | succ n ih =>
    obtain ⟨t, e, h⟩ := step s h0
    unfold whileO
    rw [e]
    cases t with
    | false => exact ⟨s, rfl, h0, e⟩
    | true =>
      obtain ⟨s', e2, h1, h2⟩ := h rfl
      show Ret ((b s).bind _) _
      rw [e2]
      exact ih h1 (by omega)
theorem compS_of {xs : List α} {f : α → Option (Option β)} (g : α → Option β) (h : ∀ x ∈ xs, f x = some (g x)) : compS xs f = some (xs.filterMap g) := by
  induction xs with
  | nil => rfl
  | cons x xs ih =>
    show (f x).bind _ = _
    rw [h x (by simp)]
    show (compS xs f).bind _ = _
    rw [ih fun y hy => h y (by simp [hy])]
    show some _ = some _
    rw [List.filterMap_cons]
    cases g x <;> rfl
theorem compS_map {xs : List α} {f : α → Option (Option β)} (g : α → β) (h : ∀ x ∈ xs, f x = some (some (g x))) : compS xs f = some (xs.map g) := by
  rw [compS_of (fun x => some (g x)) h]
  congr 1
  rw [List.filterMap_eq_map']
/-- items made one by one, each with a property -/
theorem ret_compS {xs : List α} {f : α → Option (Option β)} (P : β → Prop) (h : ∀ x ∈ xs, Ret (f x) (fun r => ∃ y, r = some y ∧ P y)) : Ret (compS xs f) (fun ys => ys.length = xs.length ∧ ∀ y ∈ ys, P y) := by
  induction xs with
  | nil => exact ⟨[], rfl, rfl, by simp⟩
  | cons x xs ih =>
    obtain ⟨_, e, y, rfl, p⟩ := h x (by simp)
    obtain ⟨ys, e2, l, q⟩ := ih fun z hz => h z (by simp [hz])
    refine ⟨y :: ys, ?_, by simp [l], by simp; exact ⟨p, q⟩⟩
    show (f x).bind _ = _
    rw [e]
    show (compS xs f).bind _ = _
    rw [e2]; rfl
theorem cutL_from {xs : List α} {a : Int} (h : 0 ≤ a) : cutL xs (some a) none = xs.drop a.toNat := by
  unfold cutL
  obtain ⟨n, rfl⟩ : ∃ n : Nat, a = n := ⟨a.toNat, by omega⟩
  rw [HT.sIx_nat, HT.sIx_none, Int.toNat_natCast]
  by_cases hn : n ≤ xs.length
  · rw [Nat.min_eq_left hn]
    exact List.take_of_length_le (by rw [List.length_drop]; omega)
  · rw [Nat.min_eq_right (by omega)]
    simp
    omega
theorem cutL_to {xs : List α} {b : Int} (h : 0 ≤ b) : cutL xs none (some b) = xs.take b.toNat := by
  unfold cutL
  obtain ⟨n, rfl⟩ : ∃ n : Nat, b = n := ⟨b.toNat, by omega⟩
  rw [HT.sIx_nat, HT.sIx_none, Int.toNat_natCast]
  rw [List.drop_zero, Nat.sub_zero]
  by_cases hn : n ≤ xs.length
  · rw [Nat.min_eq_left hn]
  · rw [Nat.min_eq_right (by omega), List.take_of_length_le (Nat.le_refl _), List.take_of_length_le (by omega)]
theorem joinL_nil : ∀ xs : List Sg, TL.joinL [] xs = xs.flatten
  | [] => rfl
  | [x] => by simp [TL.joinL]
  | x :: y :: r => by
    show x ++ ([] ++ TL.joinL [] (y :: r)) = _
    rw [joinL_nil (y :: r)]
    simp
theorem joinM_of {sep : Sg} {xs : List Sg} (h : (xs.map List.length).sum + xs.length * sep.length ≤ 16777216) : joinM sep xs = some (TL.joinL sep xs) := need_eq (szB_of h)
end
end U
set_option Elab.async false
set_option linter.all false
set_option maxRecDepth 100000
set_option maxHeartbeats 4000000
namespace U
open PySem PySem.Spec L2
/-! ### trees, words: plain -/
abbrev Tre := List Int × Sg
inductive Anc (ups : List Int) : Nat → Nat → Prop where
  | refl (k : Nat) : Anc ups k k
  | up {k a : Nat} {u : Int} (h : ups[k]? = some u) (hu : 0 ≤ u) (r : Anc ups u.toNat a) : Anc ups k a
theorem get_app {α : Type} {xs ys : List α} {i : Nat} {a : α} (h : xs[i]? = some a) : (xs ++ ys)[i]? = some a := by
  rw [List.getElem?_append_left (List.getElem?_eq_some_iff.mp h).1]; exact h
theorem Anc.app {ups more : List Int} {k a : Nat} (h : Anc ups k a) : Anc (ups ++ more) k a := by
  induction h with
  | refl k => exact .refl k
  | up h hu _ ih => exact .up (get_app h) hu ih
theorem Anc.trans {ups : List Int} {k a b : Nat} (h : Anc ups k a) (h' : Anc ups a b) : Anc ups k b := by
  induction h with
  | refl k => exact h'
  | up h hu _ ih => exact .up h hu (ih h')
structure UpsOk (ups : List Int) : Prop where
  root : ups[0]? = some (-1)
  up : ∀ (k : Nat) (u : Int), 0 < k → ups[k]? = some u → 0 ≤ u ∧ u < k
  ch : ∀ (k : Nat) (u : Int), 0 < k → ups[k]? = some u → Anc ups (k - 1) u.toNat
structure TreeOk (t : Tre) : Prop where
  len : t.1.length = t.2.length
  most : t.1.length ≤ 60
  ups : UpsOk t.1
  low : ∀ c ∈ t.2, 97 ≤ c ∧ c ≤ 122
theorem UpsOk.pos {ups : List Int} (h : UpsOk ups) : 0 < ups.length := by
  have := h.root
  cases ups with
  | nil => cases this
  | cons _ _ => simp
theorem UpsOk.one : UpsOk [-1] := ⟨rfl, fun k u hk h => by
  cases k with
  | zero => omega
  | succ k => simp at h, fun k u hk h => by
  cases k with
  | zero => omega
  | succ k => simp at h⟩
theorem UpsOk.snoc {ups : List Int} {p : Int} (h : UpsOk ups) (h0 : 0 ≤ p) (hp : p < ups.length) (ha : Anc ups (ups.length - 1) p.toNat) : UpsOk (ups ++ [p]) := by
  have hl := h.pos
  refine ⟨get_app h.root, fun k u hk e => ?_, fun k u hk e => ?_⟩
  · by_cases hlt : k < ups.length
    · rw [List.getElem?_append_left hlt] at e; exact h.up k u hk e
    · rw [List.getElem?_append_right (by omega)] at e
      have hk2 : k = ups.length := by
        by_cases h9 : k - ups.length = 0
        · omega
        · rw [List.getElem?_eq_none (by simp; omega)] at e; cases e
      subst hk2
      simp at e; subst e
      exact ⟨h0, hp⟩
  · by_cases hlt : k < ups.length
    · rw [List.getElem?_append_left hlt] at e; exact (h.ch k u hk e).app
    · rw [List.getElem?_append_right (by omega)] at e
      have hk2 : k = ups.length := by
        by_cases h9 : k - ups.length = 0
        · omega
        · rw [List.getElem?_eq_none (by simp; omega)] at e; cases e
      subst hk2
      simp at e; subst e
      exact ha.app
/-- all come to the root -/
theorem UpsOk.toRoot {ups : List Int} (h : UpsOk ups) : ∀ k, k < ups.length → Anc ups k 0 := by
  intro k
  induction k using Nat.strongRecOn with
  | _ k ih =>
    intro hk
    by_cases h0 : k = 0
    · subst h0; exact .refl 0
    · have e := List.getElem?_eq_getElem hk
      obtain ⟨a, b⟩ := h.up k _ (by omega) e
      exact .up e a (ih _ (by omega) (by omega))
/-- the word of a place -/
def wdF (ups : List Int) (labels : Sg) : Nat → Nat → Sg
  | 0, _ => []
  | n + 1, k => labels.getD k 0 :: (if 0 ≤ ups.getD k (-1) then wdF ups labels n (ups.getD k (-1)).toNat else [])
def wd (t : Tre) (k : Nat) : Sg := wdF t.1 t.2 (k + 1) k
theorem getD_of {α : Type} {xs : List α} {i : Nat} {a d : α} (h : xs[i]? = some a) : xs.getD i d = a := by
  rw [List.getD_eq_getElem?_getD, h]; rfl
theorem wdF_eq {ups : List Int} (labels : Sg) (ok : UpsOk ups) : ∀ (n m k : Nat), k < n → k < m → k < ups.length → wdF ups labels n k = wdF ups labels m k
  | 0, _, _, h, _, _ => by omega
  | _, 0, _, _, h, _ => by omega
  | n + 1, m + 1, k, h1, h2, h3 => by
    unfold wdF
    congr 1
    have e := List.getElem?_eq_getElem h3
    rw [getD_of e]
    by_cases h0 : 0 ≤ ups[k]
    · rw [if_pos h0, if_pos h0]
      by_cases hk : k = 0
      · subst hk
        rw [ok.root] at e
        have e2 : -1 = ups[0] := Option.some.inj e
        omega
      · obtain ⟨a, b⟩ := ok.up k _ (by omega) e
        exact wdF_eq labels ok n m _ (by omega) (by omega) (by omega)
    · rw [if_neg h0, if_neg h0]
theorem wd_root {t : Tre} (ok : UpsOk t.1) : wd t 0 = [t.2.getD 0 0] := by
  unfold wd wdF
  rw [getD_of ok.root]
  rfl
theorem wd_up {t : Tre} (ok : UpsOk t.1) {k : Nat} {u : Int} (h0 : 0 < k) (h : t.1[k]? = some u) : wd t k = t.2.getD k 0 :: wd t u.toNat := by
  have hk := (List.getElem?_eq_some_iff.mp h).1
  obtain ⟨a, b⟩ := ok.up k u h0 h
  show wdF t.1 t.2 (k + 1) k = _ :: wdF t.1 t.2 (u.toNat + 1) u.toNat
  rw [wdF.eq_def]
  simp only [getD_of h, if_pos a]
  rw [wdF_eq t.2 ok k (u.toNat + 1) u.toNat (by omega) (by omega) (by omega)]
theorem wd_len {t : Tre} (ok : UpsOk t.1) : ∀ k, k < t.1.length → 1 ≤ (wd t k).length ∧ (wd t k).length ≤ k + 1 := by
  intro k
  induction k using Nat.strongRecOn with
  | _ k ih =>
    intro hk
    by_cases h0 : k = 0
    · subst h0; rw [wd_root ok]; simp
    · have e := List.getElem?_eq_getElem hk
      obtain ⟨a, b⟩ := ok.up k _ (by omega) e
      rw [wd_up ok (by omega) e]
      have := ih _ (show (t.1[k]).toNat < k by omega) (by omega)
      simp; omega
/-- going up from a place: the word of an int, none below 0 -/
def wdI (t : Tre) (i : Int) : Sg := if 0 ≤ i then wd t i.toNat else []
theorem wdI_eq {t : Tre} (ok : UpsOk t.1) {i u : Int} (h0 : 0 ≤ i) (h : t.1[i.toNat]? = some u) : wdI t i = t.2.getD i.toNat 0 :: wdI t u := by
  unfold wdI
  rw [if_pos h0]
  by_cases hk : i.toNat = 0
  · rw [hk] at h ⊢
    rw [wd_root ok]
    rw [ok.root] at h
    have : u = -1 := (Option.some.inj h).symm
    subst this; rfl
  · obtain ⟨a, b⟩ := ok.up _ u (by omega) h
    rw [if_pos a, wd_up ok (by omega) h]
end U
set_option Elab.async false
set_option linter.all false
set_option maxRecDepth 100000
set_option maxHeartbeats 4000000
namespace U
open PySem PySem.Spec L2
/-! ### plain: numbers of things in order -/
section
variable {α β : Type} [DecidableEq α] [DecidableEq β] {lt : α → α → Bool} {lt' : β → β → Bool} {xs ys : List α} {a b : α}
/-- how many unlike ones are less -/
def rk (lt : α → α → Bool) (xs : List α) (a : α) : Nat := ((uq xs).filter fun x => lt x a).length
theorem sset_mem : a ∈ ssetL lt xs ↔ a ∈ xs := by unfold ssetL; rw [srt_mem, mem_uq]
theorem sset_nd : (ssetL lt xs).Nodup := (srt_perm.nodup_iff).mpr (uq_nodup xs)
theorem sset_len : (ssetL lt xs).length ≤ xs.length := by unfold ssetL; rw [srt_len]; exact uq_len xs
theorem sset_lt (O : Lo lt) : (ssetL lt xs).Pairwise fun a b => lt a b = true := by
  have h1 : (ssetL lt xs).Pairwise fun a b => lt b a = false := srt_sorted O
  have h2 : (ssetL lt xs).Pairwise fun a b => a ≠ b := sset_nd
  refine (h1.and h2).imp fun {x y} ⟨h, n⟩ => ?_
  cases e : lt x y with
  | true => rfl
  | false => exact absurd (O.tot x y e h) n
theorem cnt_at (O : Lo lt) : ∀ {l : List α} {i : Nat}, l.Pairwise (fun a b => lt a b = true) → l[i]? = some a → (l.filter fun x => lt x a).length = i
  | [], _, _, h => by simp at h
  | y :: ys, 0, hp, h => by
    have e : y = a := by simpa using h
    subst e
    have hp := (List.pairwise_cons.mp hp).1
    rw [List.filter_cons, if_neg (by rw [O.irr]; decide)]
    rw [List.length_eq_zero_iff, List.filter_eq_nil_iff]
    intro z hz
    rw [O.asym (hp z hz)]; decide
  | y :: ys, i + 1, hp, h => by
    have h' : ys[i]? = some a := by simpa using h
    obtain ⟨h1, h2⟩ := List.pairwise_cons.mp hp
    rw [List.filter_cons, if_pos (h1 a (List.mem_of_getElem? h')), List.length_cons, cnt_at O h2 h']
theorem rk_at (O : Lo lt) {i : Nat} (h : (ssetL lt xs)[i]? = some a) : rk lt xs a = i := by
  unfold rk
  rw [← cnt_at O (sset_lt O) h]
  exact ((srt_perm (lt := lt) (xs := uq xs)).filter _).length_eq.symm
theorem rk_get (O : Lo lt) (h : a ∈ xs) : (ssetL lt xs)[rk lt xs a]? = some a := by
  obtain ⟨i, hi⟩ := List.getElem?_of_mem (sset_mem (lt := lt).mpr h)
  rw [rk_at O hi]; exact hi
theorem rk_lt (O : Lo lt) (ha : a ∈ xs) (hb : b ∈ xs) : rk lt xs a < rk lt xs b ↔ lt a b = true := by
  have h1 := rk_get O ha
  have h2 := rk_get O hb
  have hp := List.pairwise_iff_getElem.mp (sset_lt O (xs := xs))
  obtain ⟨l1, e1⟩ := List.getElem?_eq_some_iff.mp h1
  obtain ⟨l2, e2⟩ := List.getElem?_eq_some_iff.mp h2
  constructor
  · intro h
    have := hp _ _ l1 l2 h
    rw [e1, e2] at this; exact this
  · intro h
    rcases Nat.lt_trichotomy (rk lt xs a) (rk lt xs b) with z | z | z
    · exact z
    · rw [z] at h1
      rw [h1] at h2
      have := Option.some.inj h2
      subst this
      rw [O.irr] at h; cases h
    · have := hp _ _ l2 l1 z
      rw [e1, e2] at this
      rw [O.asym this] at h; cases h
theorem rk_eq (O : Lo lt) (ha : a ∈ xs) (hb : b ∈ xs) : rk lt xs a = rk lt xs b ↔ a = b := by
  refine ⟨fun h => ?_, fun h => by rw [h]⟩
  have h1 := rk_get O ha
  have h2 := rk_get O hb
  rw [h] at h1
  rw [h1] at h2
  exact Option.some.inj h2
theorem rk_len (O : Lo lt) (ha : a ∈ xs) : rk lt xs a < xs.length := Nat.lt_of_lt_of_le (List.getElem?_eq_some_iff.mp (rk_get O ha)).1 sset_len
/-- the same of things in step -/
theorem rk_iso {γ : Type} (u : γ → α) (v : γ → β) (O : Lo lt) (O' : Lo lt') (ks : List γ) (h : ∀ j ∈ ks, ∀ k ∈ ks, lt (u j) (u k) = lt' (v j) (v k)) {k : γ} (hk : k ∈ ks) : rk lt (ks.map u) (u k) = rk lt' (ks.map v) (v k) := by
  have eqi : ∀ j ∈ ks, ∀ k ∈ ks, u j = u k ↔ v j = v k := fun j hj k hk => by
    constructor
    · intro e
      refine O'.tot _ _ ?_ ?_
      · rw [← h j hj k hk, e]; exact O.irr _
      · rw [← h k hk j hj, e]; exact O.irr _
    · intro e
      refine O.tot _ _ ?_ ?_
      · rw [h j hj k hk, e]; exact O'.irr _
      · rw [h k hk j hj, e]; exact O'.irr _
  unfold rk
  have key : ∀ js : List γ, (∀ j ∈ js, j ∈ ks) → ((uq (js.map u)).filter fun x => lt x (u k)).length = ((uq (js.map v)).filter fun x => lt' x (v k)).length := fun js => by
    induction js with
    | nil => intro _; rfl
    | cons j js ih =>
      intro hs
      have hj := hs j List.mem_cons_self
      have ih := ih fun i hi => hs i (List.mem_cons_of_mem _ hi)
      have hm : u j ∈ js.map u ↔ v j ∈ js.map v := by
        constructor
        · intro hm
          obtain ⟨i, hi, e⟩ := List.mem_map.mp hm
          exact List.mem_map.mpr ⟨i, hi, (eqi i (hs i (List.mem_cons_of_mem _ hi)) j hj).mp e⟩
        · intro hm
          obtain ⟨i, hi, e⟩ := List.mem_map.mp hm
          exact List.mem_map.mpr ⟨i, hi, (eqi i (hs i (List.mem_cons_of_mem _ hi)) j hj).mpr e⟩
      show ((uq (u j :: js.map u)).filter _).length = ((uq (v j :: js.map v)).filter _).length
      unfold uq
      by_cases hin : u j ∈ js.map u
      · rw [if_pos hin, if_pos (hm.mp hin)]; exact ih
      · rw [if_neg hin, if_neg (fun z => hin (hm.mpr z)), List.filter_cons, List.filter_cons, h j hj k hk]
        split
        · rw [List.length_cons, List.length_cons, ih]
        · exact ih
  exact key ks fun j hj => hj
/-- the order of things in step -/
theorem srt_iso {γ : Type} (u : γ → α) (v : γ → β) (ks : List γ) (h : ∀ j ∈ ks, ∀ k ∈ ks, lt (u j) (u k) = lt' (v j) (v k)) :
    ∃ js : List γ, js.Perm ks ∧ srtL lt (ks.map u) = js.map u ∧ srtL lt' (ks.map v) = js.map v := by
  refine ⟨ks.mergeSort fun a b => !lt (u b) (u a), List.mergeSort_perm _ _, ?_, ?_⟩
  · unfold srtL
    exact (List.map_mergeSort (s := fun a b => !lt b a) (f := u) (l := ks) (r := fun a b => !lt (u b) (u a)) fun a _ b _ => rfl).symm
  · unfold srtL
    exact (List.map_mergeSort fun a ha b hb => by
      show (!lt (u b) (u a)) = (!lt' (v b) (v a))
      rw [h b hb a ha]).symm
end
/-! ### plain: dicts of pairs -/
section
variable {α β : Type} [DecidableEq α] {ps : List (α × β)} {a : α} {b : β}
theorem dput_new {xs : List (α × β)} (h : a ∉ xs.map Prod.fst) : dput xs a b = xs ++ [(a, b)] := by
  unfold dput
  rw [if_neg]
  rw [List.any_eq_true]
  rintro ⟨x, hx, e⟩
  exact h (List.mem_map.mpr ⟨x, hx, of_decide_eq_true e⟩)
theorem ofPairs_nd (h : (ps.map Prod.fst).Nodup) : ofPairs ps = ps := by
  have key : ∀ (ps acc : List (α × β)), ((acc ++ ps).map Prod.fst).Nodup → ps.foldl (fun acc kv => dput acc kv.1 kv.2) acc = acc ++ ps := fun ps => by
    induction ps with
    | nil => intro acc _; simp
    | cons p ps ih =>
      intro acc hn
      rw [List.foldl_cons, dput_new, ih]
      · simp
      · simpa using hn
      · intro hm
        rw [List.map_append, List.map_cons] at hn
        exact (List.nodup_append.mp hn).2.2 p.1 hm p.1 (by simp) rfl
  have := key ps [] (by simpa using h)
  unfold ofPairs
  simpa using this
theorem lkp_of : ∀ {ps : List (α × β)}, (ps.map Prod.fst).Nodup → (a, b) ∈ ps → lkp ps a = some b
  | [], _, h => by cases h
  | p :: ps, hn, h => by
    rw [List.map_cons, List.nodup_cons] at hn
    unfold lkp
    rw [List.find?_cons]
    rcases List.mem_cons.mp h with e | e
    · subst e; simp
    · have hne : p.1 ≠ a := fun z => hn.1 (List.mem_map.mpr ⟨(a, b), e, z.symm⟩)
      rw [decide_eq_false hne]
      exact lkp_of hn.2 e
end
theorem enumL_get {α : Type} {xs : List α} {i : Nat} {x : Int × α} (h : (enumL xs)[i]? = some x) : x.1 = i ∧ xs[i]? = some x.2 := by
  unfold enumL at h
  rw [List.getElem?_mapIdx] at h
  cases e : xs[i]? with
  | none => rw [e] at h; cases h
  | some b =>
    rw [e] at h
    have ea : ((i : Int), b) = x := Option.some.inj h
    subst ea; exact ⟨rfl, rfl⟩
theorem enumL_at {α : Type} {xs : List α} {i : Nat} {a : α} (h : xs[i]? = some a) : (enumL xs)[i]? = some ((i : Int), a) := by
  unfold enumL
  rw [List.getElem?_mapIdx, h]; rfl
theorem enumL_len {α : Type} (xs : List α) : (enumL xs).length = xs.length := by simp [enumL]
theorem enumL_mem {α : Type} {xs : List α} {x : Int × α} (h : x ∈ enumL xs) : ∃ i : Nat, x.1 = i ∧ xs[i]? = some x.2 := by
  obtain ⟨i, hi⟩ := List.getElem?_of_mem h
  exact ⟨i, enumL_get hi⟩
theorem enumL_snd {α : Type} (xs : List α) : (enumL xs).map Prod.snd = xs := by
  refine List.ext_getElem? fun i => ?_
  rw [List.getElem?_map]
  unfold enumL
  rw [List.getElem?_mapIdx]
  cases xs[i]? <;> rfl
/-- each key's place in a list of unlike ones -/
theorem lkp_enum {α : Type} [DecidableEq α] {l : List α} (hn : l.Nodup) {i : Nat} {a : α} (h : l[i]? = some a) : lkp (ofPairs ((enumL l).map fun p => (p.2, p.1))) a = some (i : Int) := by
  have e : ((enumL l).map fun p => (p.2, p.1)).map Prod.fst = l := by rw [List.map_map]; exact enumL_snd l
  rw [ofPairs_nd (by rw [e]; exact hn)]
  exact lkp_of (by rw [e]; exact hn) (List.mem_map.mpr ⟨((i : Int), a), List.mem_of_getElem? (enumL_at h), rfl⟩)
/-! ### plain: words in a tree -/
theorem wd_low {t : Tre} (T : TreeOk t) : ∀ k, k < t.1.length → ∀ c ∈ wd t k, 97 ≤ c ∧ c ≤ 122 := by
  intro k
  have hl := T.len
  have ng : ∀ k, k < t.1.length → 97 ≤ t.2.getD k 0 ∧ t.2.getD k 0 ≤ 122 := fun k hk => by
    have h := List.getElem?_eq_getElem (show k < t.2.length by omega)
    rw [getD_of h]
    exact T.low _ (List.getElem_mem _)
  induction k using Nat.strongRecOn with
  | _ k ih =>
    intro hk c hc
    by_cases h0 : k = 0
    · subst h0
      rw [wd_root T.ups] at hc
      simp at hc
      subst hc
      exact ng 0 hk
    · have e := List.getElem?_eq_getElem hk
      obtain ⟨a, b⟩ := T.ups.up k _ (by omega) e
      rw [wd_up T.ups (by omega) e] at hc
      rcases List.mem_cons.mp hc with h | h
      · subst h; exact ng k hk
      · exact ih _ (by omega) (by omega) c h
theorem wdI_nat {t : Tre} (k : Nat) : wdI t (k : Int) = wd t k := by unfold wdI; rw [if_pos (by omega)]; simp
theorem up_bd {t : Tre} (T : TreeOk t) {k : Nat} {u : Int} (h : t.1[k]? = some u) : -1 ≤ u ∧ u < k := by
  by_cases h0 : k = 0
  · subst h0
    rw [T.ups.root] at h
    have : -1 = u := Option.some.inj h
    omega
  · have := T.ups.up k u (by omega) h
    omega
theorem wd_cons {t : Tre} (T : TreeOk t) {k : Nat} {u : Int} (h : t.1[k]? = some u) : wd t k = t.2.getD k 0 :: wdI t u := by
  have := wdI_eq T.ups (i := (k : Int)) (by omega) (by rw [Int.toNat_natCast]; exact h)
  rw [wdI_nat, Int.toNat_natCast] at this
  exact this
theorem wd_ne {t : Tre} (T : TreeOk t) {k : Nat} (h : k < t.1.length) : wd t k ≠ [] := fun e => by
  have := wd_len T.ups k h
  rw [e] at this
  simp at this
theorem ltS_cons (c d : Nat) (x y : Sg) : ltS (c :: x) (d :: y) = (decide (c < d) || (decide (c = d) && ltS x y)) := by
  unfold ltS
  rw [Bool.eq_iff_iff]
  simp only [decide_eq_true_eq, Bool.or_eq_true, Bool.and_eq_true]
  exact List.cons_lt_cons_iff
theorem ltS_nil (y : Sg) : ltS [] y = !y.isEmpty := by
  cases y with
  | nil => simp [ltS]
  | cons c r => simp [ltS]
theorem ltS_nil2 (x : Sg) : ltS x [] = false := by simp [ltS]
theorem ltS_one (c d : Nat) : ltS [c] [d] = decide (c < d) := by
  rw [ltS_cons, ltS_nil]
  simp
end U
namespace U
open PySem PySem.Spec L2
section
variable {α β σ ρ : Type} {P : β → Prop}
theorem ret_compO {xs : List α} {s : σ} {f : σ → α → Option (σ × Option β)} (I : σ → Prop) (P : β → Prop) (h0 : I s) (h : ∀ x ∈ xs, ∀ s, I s → Ret (f s x) (fun r => I r.1 ∧ ∃ y, r.2 = some y ∧ P y)) :
    Ret (compO xs s f) (fun r => I r.1 ∧ r.2.length = xs.length ∧ ∀ y ∈ r.2, P y) := by
  induction xs generalizing s with
  | nil => exact ⟨_, rfl, h0, rfl, nofun⟩
  | cons x xs ih =>
    obtain ⟨r, e, h1, y, e2, p⟩ := h x List.mem_cons_self s h0
    obtain ⟨q, e3, h2, l, h3⟩ := ih h1 fun z hz => h z (List.mem_cons_of_mem _ hz)
    refine ⟨(q.1, y :: q.2), ?_, h2, by simp [l], fun z hz => (List.mem_cons.mp hz).elim (fun e => e ▸ p) (h3 z)⟩
    show (f s x).bind _ = _
    rw [e]
    show (compO xs r.1 f).bind _ = _
    rw [e3, e2]; rfl
theorem idx_rk [DecidableEq α] {lt : α → α → Bool} (O : Lo lt) {xs : List α} {a : α} (h : a ∈ xs) : idxM (ssetL lt xs) a = some (rk lt xs a : Int) := by
  unfold idxM
  have h1 := rk_get O h
  obtain ⟨l, e⟩ := List.getElem?_eq_some_iff.mp h1
  have : (ssetL lt xs).findIdx? (fun x => decide (x = a)) = some (rk lt xs a) := by
    rw [List.findIdx?_eq_some_iff_getElem]
    refine ⟨l, decide_eq_true e, fun j hj => ?_⟩
    intro z
    have z := of_decide_eq_true z
    have hp := List.pairwise_iff_getElem.mp (sset_lt O (xs := xs)) j _ (by omega) l hj
    rw [z, e, O.irr] at hp
    cases hp
  rw [this]; rfl
end
/-- how many letters two words have in common at the beginning -/
def cp : Sg → Sg → Nat
  | c :: x, d :: y => if c = d then cp x y + 1 else 0
  | _, _ => 0
theorem cp_le : ∀ x y : Sg, cp x y ≤ x.length ∧ cp x y ≤ y.length
  | [], _ => ⟨Nat.le_refl _, Nat.zero_le _⟩
  | _ :: _, [] => ⟨Nat.zero_le _, Nat.le_refl _⟩
  | c :: x, d :: y => by
    unfold cp
    have := cp_le x y
    split
    · simp; omega
    · simp
/-! ### plain: the order of a tree's places -/
def wlt (t : Tre) (j k : Nat) : Bool := ltP ltS ltI (wd t j, (j : Int)) (wd t k, (k : Int))
theorem lo_w (t : Tre) : Lo (wlt t) := by
  have O : Lo (ltP ltS ltI) := lo_P lo_S lo_I
  refine ⟨fun x => O.irr _, fun x y z h k => O.tr _ _ _ h k, fun x y h k => ?_⟩
  have e := congrArg Prod.snd (O.tot _ _ h k)
  have e2 : (x : Int) = (y : Int) := e
  omega
def ordL (t : Tre) : List Nat := srtL (wlt t) (List.range t.1.length)
theorem ordL_perm (t : Tre) : (ordL t).Perm (List.range t.1.length) := srt_perm
theorem ordL_len (t : Tre) : (ordL t).length = t.1.length := by rw [(ordL_perm t).length_eq, List.length_range]
theorem ordL_nd (t : Tre) : (ordL t).Nodup := (ordL_perm t).nodup_iff.mpr List.nodup_range
theorem ordL_mem {t : Tre} {k : Nat} : k ∈ ordL t ↔ k < t.1.length := by rw [(ordL_perm t).mem_iff, List.mem_range]
theorem ordL_lt (t : Tre) : (ordL t).Pairwise fun a b => wlt t a b = true := by
  have h1 : (ordL t).Pairwise fun a b => wlt t b a = false := srt_sorted (lo_w t)
  have h2 : (ordL t).Pairwise fun a b => a ≠ b := ordL_nd t
  refine (h1.and h2).imp fun {x y} ⟨h, n⟩ => ?_
  cases e : wlt t x y with
  | true => rfl
  | false => exact absurd ((lo_w t).tot x y e h) n
/-- a place's rank -/
def pos (t : Tre) (k : Nat) : Nat := ((List.range t.1.length).filter fun j => wlt t j k).length
theorem pos_at {t : Tre} {i k : Nat} (h : (ordL t)[i]? = some k) : pos t k = i := by
  rw [← cnt_at (lo_w t) (ordL_lt t) h]
  exact ((ordL_perm t).filter _).length_eq.symm
theorem pos_get {t : Tre} {k : Nat} (h : k < t.1.length) : (ordL t)[pos t k]? = some k := by
  obtain ⟨i, hi⟩ := List.getElem?_of_mem (ordL_mem.mpr h)
  rw [pos_at hi]; exact hi
theorem wds_sorted (t : Tre) : srtL ltS ((List.range t.1.length).map (wd t)) = (ordL t).map (wd t) := by
  refine srt_of lo_S ((ordL_perm t).map _).symm ?_
  refine List.pairwise_map.mpr ((ordL_lt t).imp fun {a b} h => ?_)
  unfold wlt ltP at h
  dsimp only at h
  by_cases e : wd t a = wd t b
  · rw [e]; exact lo_S.irr _
  · rw [if_neg e] at h; exact lo_S.asym h
theorem range_of_upto (n : Nat) : upto 0 (n : Int) = (List.range n).map fun k : Nat => (k : Int) := by
  unfold upto
  rw [show ((n : Int) - 0).toNat = n by omega]
  exact List.map_congr_left fun k _ => Int.zero_add _
end U
namespace U
open PySem PySem.Spec L2
section
variable {α β σ : Type}
theorem ret_compOi {xs : List α} {s : σ} {f : σ → α → Option (σ × Option β)} (I : Nat → σ → Prop) (P : β → Prop) (h0 : I 0 s) (h : ∀ i x, xs[i]? = some x → i < xs.length → ∀ s, I i s → Ret (f s x) (fun r => I (i + 1) r.1 ∧ ∃ y, r.2 = some y ∧ P y)) :
    Ret (compO xs s f) (fun r => I xs.length r.1 ∧ r.2.length = xs.length ∧ ∀ y ∈ r.2, P y) := by
  induction xs generalizing s I with
  | nil => exact ⟨_, rfl, h0, rfl, nofun⟩
  | cons x xs ih =>
    obtain ⟨r, e, h1, y, e2, p⟩ := h 0 x rfl (Nat.succ_pos _) s h0
    obtain ⟨q, e3, h2, l, h3⟩ := ih (fun i => I (i + 1)) h1 fun i z hz hi => h (i + 1) z hz (Nat.succ_lt_succ hi)
    refine ⟨(q.1, y :: q.2), ?_, h2, by simp [l], fun z hz => (List.mem_cons.mp hz).elim (fun e => e ▸ p) (h3 z)⟩
    show (f s x).bind _ = _
    rw [e]
    show (compO xs r.1 f).bind _ = _
    rw [e3, e2]; rfl
end
theorem powM_of {i j : Int} (h : 0 ≤ j ∧ j ≤ 1000000) (k : i.natAbs < 18446744073709551616) : powM i j = some (i ^ j.toNat) := need_eq (decide_eq_true ⟨h.1, h.2, k⟩)
theorem ret_in {α : Type} {xs : List α} {i : Int} (h0 : 0 ≤ i) (h : i < xs.length) : Ret (atI xs i) (fun a => a ∈ xs) := (ret_at h0 h).mono fun _ e => List.mem_of_getElem? e
theorem b2_01 (b : Bool) : 0 ≤ b2 b ∧ b2 b ≤ 1 := by cases b <;> decide
end U
namespace U
open PySem PySem.Spec L2
theorem pos_lt {t : Tre} {j k : Nat} (hj : j < t.1.length) (hk : k < t.1.length) : pos t j < pos t k ↔ wlt t j k = true := by
  have h1 := pos_get hj
  have h2 := pos_get hk
  have hp := List.pairwise_iff_getElem.mp (ordL_lt t)
  obtain ⟨l1, e1⟩ := List.getElem?_eq_some_iff.mp h1
  obtain ⟨l2, e2⟩ := List.getElem?_eq_some_iff.mp h2
  constructor
  · intro h
    have := hp _ _ l1 l2 h
    rw [e1, e2] at this; exact this
  · intro h
    rcases Nat.lt_trichotomy (pos t j) (pos t k) with z | z | z
    · exact z
    · rw [z] at h1
      rw [h1] at h2
      have := Option.some.inj h2
      subst this
      rw [(lo_w t).irr] at h; cases h
    · have := hp _ _ l2 l1 z
      rw [e1, e2] at this
      rw [(lo_w t).asym this] at h; cases h
theorem pos_eq {t : Tre} {j k : Nat} (hj : j < t.1.length) (hk : k < t.1.length) : pos t j = pos t k ↔ j = k := by
  refine ⟨fun h => ?_, fun h => by rw [h]⟩
  have h1 := pos_get hj
  have h2 := pos_get hk
  rw [h, h2] at h1
  exact (Option.some.inj h1).symm
theorem pos_bd {t : Tre} {k : Nat} (hk : k < t.1.length) : pos t k < t.1.length := by
  have := (List.getElem?_eq_some_iff.mp (pos_get hk)).1
  rw [ordL_len] at this; exact this
theorem enumL_range {α : Type} (xs : List α) (d : α) : enumL xs = (List.range xs.length).map fun k : Nat => ((k : Int), xs.getD k d) := by
  refine List.ext_getElem? fun k => ?_
  rw [List.getElem?_map]
  by_cases hk : k < xs.length
  · rw [enumL_at (List.getElem?_eq_getElem hk), List.getElem?_range hk, ← getD_of (d := d) (List.getElem?_eq_getElem hk)]; rfl
  · rw [List.getElem?_eq_none (by rw [enumL_len]; omega), List.getElem?_eq_none (by simp; omega)]; rfl
/-- the place above -/
def upN (t : Tre) (k : Nat) : Nat := (t.1.getD k 0).toNat
theorem upN_bd {t : Tre} (T : TreeOk t) {k : Nat} (h0 : 0 < k) (hk : k < t.1.length) : upN t k < k ∧ t.1[k]? = some (upN t k : Int) := by
  have e := List.getElem?_eq_getElem hk
  obtain ⟨a, b⟩ := T.ups.up k _ h0 e
  unfold upN
  rw [getD_of e]
  exact ⟨by omega, by rw [e]; exact congrArg some (by omega)⟩
/-- all places but the root, in the kept order: by the word of the place above, by that place, by their numbers -/
def klt (t : Tre) (j k : Nat) : Bool := ltP ltS (ltP ltI ltI) (wd t (upN t j), (upN t j : Int), (j : Int)) (wd t (upN t k), (upN t k : Int), (k : Int))
def others (t : Tre) : List Nat := (List.range (t.1.length - 1)).map (· + 1)
def keptL (t : Tre) : List Nat := 0 :: srtL (klt t) (others t)
theorem lo_k (t : Tre) : Lo (klt t) := by
  have O : Lo (ltP ltS (ltP ltI ltI)) := lo_P lo_S (lo_P lo_I lo_I)
  refine ⟨fun x => O.irr _, fun x y z h k => O.tr _ _ _ h k, fun x y h k => ?_⟩
  have e := congrArg (fun p : Sg × Int × Int => p.2.2) (O.tot _ _ h k)
  have e2 : (x : Int) = (y : Int) := e
  omega
theorem others_mem {t : Tre} {k : Nat} : k ∈ others t ↔ 0 < k ∧ k < t.1.length := by
  unfold others
  rw [List.mem_map]
  constructor
  · rintro ⟨j, hj, rfl⟩
    have := List.mem_range.mp hj
    omega
  · intro h
    exact ⟨k - 1, List.mem_range.mpr (by omega), by omega⟩
theorem others_nd (t : Tre) : (others t).Nodup := by
  refine List.pairwise_map.mpr (List.Pairwise.imp (fun h e => h (by omega)) List.nodup_range)
theorem keptL_perm {t : Tre} (h : 0 < t.1.length) : (keptL t).Perm (List.range t.1.length) := by
  have e : List.range t.1.length = 0 :: others t := by
    obtain ⟨n, hn⟩ : ∃ n, t.1.length = n + 1 := ⟨t.1.length - 1, by omega⟩
    unfold others
    rw [hn, List.range_succ_eq_map]; rfl
  rw [e]
  exact (srt_perm (lt := klt t) (xs := others t)).cons 0
theorem reprM_ints {xs : List Int} (h : ∀ x ∈ xs, x.natAbs < 2 ^ 60) (hl : xs.length ≤ 100000) : ∃ s, reprM ((dL dI).d xs) = some s := by
  refine ⟨_, reprM_of (e := 1) (B := 100000 * 63 + 2) ?_ (by decide) (by decide)⟩
  show Rk 1 _ (.list (xs.map dI.d))
  have h9 := rks_all (e := 0) (B := 61) (ds := xs.map dI.d) fun d hd => by
    obtain ⟨x, hx, rfl⟩ := List.mem_map.mp hd
    exact rk_int (k := 60) (by decide) (h x hx) (by decide)
  refine (rk_list h9).mono (Nat.le_refl _) ?_
  rw [List.length_map]
  omega
end U
set_option Elab.async false
set_option linter.all false
set_option maxRecDepth 100000
set_option maxHeartbeats 4000000
namespace G
open PySem PySem.Spec L2 U

def topS (i : Nat) : Stmt := PySem.Challenge.pw_upwords_k57_laid_under_told.main.body.getD i (.Pass ⟨0, 0, 0, 0⟩)
abbrev s_is_whole : Stmt := topS 6
abbrev s_are_letters : Stmt := topS 7
abbrev s_can_stand : Stmt := topS 8
abbrev s_are_ups : Stmt := topS 9
abbrev s_is_tree : Stmt := topS 10
abbrev s_is_trie : Stmt := topS 12
abbrev s_ways_down : Stmt := topS 13
abbrev s_places_by_way : Stmt := topS 14
abbrev s_trie_by : Stmt := topS 15
abbrev s_need_tries : Stmt := topS 16
abbrev s_laid_by : Stmt := topS 17
abbrev s_laid_under : Stmt := topS 18
abbrev s__law_cell_at : Stmt := topS 20
abbrev s__law_pool : Stmt := topS 21
abbrev s__law_take : Stmt := topS 22
abbrev s__law_letters : Stmt := topS 23
abbrev s__law_grown : Stmt := topS 24
abbrev s__law_copies : Stmt := topS 25
abbrev s__law_tree : Stmt := topS 26
abbrev s__law_ways : Stmt := topS 27
abbrev s__law_trie : Stmt := topS 28
abbrev s__law_part : Stmt := topS 29
abbrev s__law_two : Stmt := topS 30
abbrev s__law_right : Stmt := topS 31
abbrev s_law : Stmt := topS 32
section
variable {P : Program} {w : World} {K : PySem.W.Frag} {mg : Str → Option Value} {base : Heap}
def m_is_whole (x_thing : Int) : Option Bool :=
  some (true && (!false))
def sp_is_whole (K : PySem.W.Frag) : Sp := fun vs H Q _ => ∃ (F : Hp) (v_thing : V) (x_thing : Int) (r : Bool), vs = [v_thing] ∧ Sub F H ∧ eI.r F v_thing x_thing ∧ m_is_whole x_thing = some r ∧ ∀ (v : V) (F' H' : Hp) , Gr [] F H F' H' → eB.r F' v r → Q v H'
theorem sc_is_whole : FnScope ["thing"] ["thing"] (defScope s_is_whole) := ⟨rfl, rfl, rfl, by decide +kernel, rfl, by decide +kernel, by decide +kernel⟩
theorem ok_is_whole {f : Addr} {fd : FuncData} (F : FnP K "is_whole" s_is_whole f fd) (b_isinstance : mg "isinstance" = none) (b_int : mg "int" = none) (b_bool : mg "bool" = none) : FnG P w K mg base CX0 1 f fd ["thing"] (sp_is_whole K) := by
  refine FnDok F sc_is_whole (fun vs H Q E h => ?_) (fun cdv A outer s H0 vs Q E gd hr h => ?_)
  · obtain ⟨_, _, _, _, rfl, _⟩ := h
    rfl
  · obtain ⟨F0, v_thing, x_thing, r0, rfl, hs0, r_thing, hm, hk⟩ := h
    have g0 : Gr [] F0 H0 F0 H0 := Gr.refl hs0
    have er_thing : v_thing = V.int x_thing := r_thing
    subst er_thing
    refine ⟨_, PSs.nox (pss_one (ps_ret (pe_and (pe_callB (c_isi (K := K) rfl) (by rfl) b_isinstance bo_isinstance (pa_cons (pv 0) (pa_cons (pe_bltn (v := .ty "int") (by rfl) b_int bo_int rfl) pa_nil))) (pe_one (pe_not (pe_callB (c_isi (K := K) rfl) (by rfl) b_isinstance bo_isinstance (pa_cons (pv 0) (pa_cons (pe_bltn (v := .ty "bool") (by rfl) b_bool bo_bool rfl) pa_nil)))))))), ?_⟩
    refine n_ret ?_
    refine n_andV ?_
    refine n_cb ?_
    refine n_cons ?_
    refine n_var rfl ?_
    refine n_cons ?_
    refine n_c ?_
    refine n_nil ?_
    refine v_isi (b := true) (.base (.int _)) (by decide +kernel) ?_
    refine v_bl ?_
    refine br_andV (b := (!false)) (fun hb1 Q7 k7 => ?_) ?_
    · refine n_notV ?_
      refine n_cb ?_
      refine n_cons ?_
      refine n_var rfl ?_
      refine n_cons ?_
      refine n_c ?_
      refine n_nil ?_
      refine v_isi (b := false) (.base (.int _)) (by decide +kernel) ?_
      refine v_bl ?_
      exact k7
    obtain rfl := Option.some.inj hm
    exact hk _ _ _  g0   rfl

def m_are_letters (x_thing : Sg) : Option Bool :=
  (if true = true then
  (need (szB (signs x_thing).length) ()).bind fun u6 =>
  (compS (signs x_thing) fun a8 =>
  some (some (inSg a8 ([97, 98, 99, 100, 101, 102, 103, 104, 105, 106, 107, 108, 109, 110, 111, 112, 113, 114, 115, 116, 117, 118, 119, 120, 121, 122] : Sg)))).bind fun q7 =>
  some (q7.all id)
  else
  some false).bind fun c2 =>
  some c2
def sp_are_letters (K : PySem.W.Frag) : Sp := fun vs H Q _ => ∃ (F : Hp) (v_thing : V) (x_thing : Sg) (r : Bool), vs = [v_thing] ∧ Sub F H ∧ eS.r F v_thing x_thing ∧ m_are_letters x_thing = some r ∧ ∀ (v : V) (F' H' : Hp) , Gr [] F H F' H' → eB.r F' v r → Q v H'
theorem sc_are_letters : FnScope ["thing", "sign"] ["thing"] (defScope s_are_letters) := ⟨rfl, rfl, rfl, by decide +kernel, rfl, by decide +kernel, by decide +kernel⟩
theorem ok_are_letters {f : Addr} {fd : FuncData} (F : FnP K "are_letters" s_are_letters f fd) (b_isinstance : mg "isinstance" = none) (b_str : mg "str" = none) (b_all : mg "all" = none) (c_LETTERS : ∃ t, mg "LETTERS" = some (.str "abcdefghijklmnopqrstuvwxyz" t)) : FnG P w K mg base CX0 1 f fd ["thing"] (sp_are_letters K) := by
  obtain ⟨t_LETTERS, c_LETTERS⟩ := c_LETTERS
  refine FnDok F sc_are_letters (fun vs H Q E h => ?_) (fun cdv A outer s H0 vs Q E gd hr h => ?_)
  · obtain ⟨_, _, _, _, rfl, _⟩ := h
    rfl
  · obtain ⟨F0, v_thing, x_thing, r0, rfl, hs0, r_thing, hm, hk⟩ := h
    have g0 : Gr [] F0 H0 F0 H0 := Gr.refl hs0
    obtain ⟨er_thing, lr_thing⟩ : v_thing = V.str (S x_thing) ∧ x_thing.length ≤ sizeLine := r_thing
    subst er_thing
    refine ⟨_, PSs.nox (pss_one (ps_ret (pe_and (pe_callB (c_isi (K := K) rfl) (by rfl) b_isinstance bo_isinstance (pa_cons (pv 0) (pa_cons (pe_bltn (v := .ty "str") (by rfl) b_str bo_str rfl) pa_nil))) (pe_one (pe_callB (c_all (K := K) rfl (by rfl)) (by rfl) b_all bo_all (pa_cons (pe_lc (own := [("sign", 1)]) (g := gName 1) (by rfl) sc_are_letters.nd (pi_str (pv 0)) (blkOk_by (own := [("sign", 1)]) (N := ["thing", "sign"]) (sc := defScope s_are_letters) (by decide +kernel)) (fun _ _ _ _ _ => (pg_name (i := 1) sc_are_letters.nd rfl (Or.inl rfl))) (fun _ _ _ _ _ => pts_nil) (fun _ _ _ _ _ => (pe_cmpR c_inS (pv 1) (pe_glob (v := .str "abcdefghijklmnopqrstuvwxyz") (by rfl) c_LETTERS ⟨_, rfl⟩) (by with_unfolding_all rfl)))) pa_nil)))))), ?_⟩
    refine n_ret ?_
    refine n_andV ?_
    refine n_cb ?_
    refine n_cons ?_
    refine n_var rfl ?_
    refine n_cons ?_
    refine n_c ?_
    refine n_nil ?_
    refine v_isi (b := true) (.base (.str _)) (by decide +kernel) ?_
    refine v_bl ?_
    obtain ⟨c2, hc2, hm⟩ := bnd hm
    refine br_andVM (c := c2) (fun H7 => ∃ F3, Gr [] F0 H0 F3 H7 ∧ Sub F0 F3) (fun hb1 Q7 k7 => ?_) (fun hb1 => ?_) ?_
    · have hm := ifT hb1 hc2
      refine n_cb ?_
      refine n_cons ?_
      refine n_lc ?_
      refine n_itS ?_
      refine n_var rfl ?_
      refine v_itS ?_
      obtain ⟨u6, hu6, hm⟩ := bnd hm
      obtain ⟨q7, hq7, hm⟩ := bnd hm
      intro D4 nD5
      have goD4 := g0.old nD5
      have gg32 := gr_newM (W := []) (o := .lst []) g0.fh nD5
      refine comp_s (sr_S x_thing) hq7 (need_ok hu6).1 (fun (acc7 : List Bool) H7 => ∃ (F7 : Hp) (vs7 : List V), Gr [] F0 H0 F7 H7 ∧ Sub F0 F7 ∧ F7 D4 = none ∧ H7 D4 = some (.lst vs7) ∧ Al eB F7 vs7 acc7) ⟨_, [], g0.trans0 gg32, Sub.refl _, g0.fh.nn nD5, upd_same, .nil⟩ ?_ ?_ ?_
      · intros; exact trivial
      · rintro a8 r10 acc11 x12 H13 H14 ⟨F19, vs20, g21, sb22, fD23, hD24, al25⟩ hY15 hm hl18 N16 hN17
        have m26 : Mu [] H0 F19 H13 D4 (.lst vs20) := ⟨fD23, hD24, .inl goD4⟩
        refine wipe_to (σ' := [some (.str (S x_thing)), none]) rfl ?_
        refine v_nmS hY15 fun l27 => ?_
        refine n_name (setS set0) ?_
        refine ⟨rfl, ?_⟩
        refine n_yes ?_ rfl
        refine n_op ?_
        refine n_var rfl ?_
        refine n_str (s := [97, 98, 99, 100, 101, 102, 103, 104, 105, 106, 107, 108, 109, 110, 111, 112, 113, 114, 115, 116, 117, 118, 119, 120, 121, 122]) (by decide +kernel) ?_
        refine v_inS ?_
        obtain rfl := Option.some.inj hm
        refine ⟨_, m26.hp, by rw [al_len al25]; exact hl18, hN17 _ ?_⟩
        exact ⟨_, _, m26.gr g21, sb22, m26.fr, upd_same, pd_snoc al25 (show eB.r F19 (.bl (inSg a8 ([97, 98, 99, 100, 101, 102, 103, 104, 105, 106, 107, 108, 109, 110, 111, 112, 113, 114, 115, 116, 117, 118, 119, 120, 121, 122] : Sg))) (inSg a8 ([97, 98, 99, 100, 101, 102, 103, 104, 105, 106, 107, 108, 109, 110, 111, 112, 113, 114, 115, 116, 117, 118, 119, 120, 121, 122] : Sg)) from rfl)⟩
      rintro H33 ⟨F34, vs35, g36, sb37, fD38, hD39, al40⟩
      have m41 : Mu [] H0 F34 H33 D4 (.lst vs35) := ⟨fD38, hD39, .inl goD4⟩
      obtain ⟨F42, q44, sb46, g45, d43⟩ := freeze g36 m41 (m41.own.resolve_right (by simp))
      have al47 := (Al.mono al40 sb46)
      refine n_nil ?_
      refine v_all (SqL.of (g45.fh _ _ q44)) al47 ?_
      obtain rfl := Option.some.inj hm
      exact k7 _ ⟨_, g45, (Sub.trans sb37 sb46)⟩
    · have hm := ifF hb1 hc2
      exact ⟨(Option.some.inj hm).symm, ⟨_, g0, Sub.refl _⟩⟩
    rintro H48 ⟨F51, g49, sb50⟩
    obtain rfl := Option.some.inj hm
    exact hk _ _ _  g49   rfl

def m_can_stand (x_ups : List Int) (x_k : Int) : Option Bool :=
  (atI x_ups x_k).bind fun a1 =>
  if (!((decide ((0 : Int) ≤ a1)) && (decide (a1 < x_k)))) = true then
  some false
  else
  (whileO 1000000 (x_k - (1 : Int)) (fun s11 =>
  (atI x_ups x_k).bind fun a19 =>
  some (decide (a19 < s11))) (fun s22 =>
  (atI x_ups s22).bind fun a30 =>
  some a30)).bind fun s10 =>
  (atI x_ups x_k).bind fun a37 =>
  some (decide (s10 = a37))
def sp_can_stand (K : PySem.W.Frag) : Sp := fun vs H Q _ => ∃ (F : Hp) (v_ups : V) (x_ups : List Int) (v_k : V) (x_k : Int) (r : Bool), vs = [v_ups, v_k] ∧ Sub F H ∧ (eT eI).r F v_ups x_ups ∧ eI.r F v_k x_k ∧ m_can_stand x_ups x_k = some r ∧ ∀ (v : V) (F' H' : Hp) , Gr [] F H F' H' → eB.r F' v r → Q v H'
theorem sc_can_stand : FnScope ["ups", "k", "place"] ["ups", "k"] (defScope s_can_stand) := ⟨rfl, rfl, rfl, by decide +kernel, rfl, by decide +kernel, by decide +kernel⟩
theorem ok_can_stand {f : Addr} {fd : FuncData} (F : FnP K "can_stand" s_can_stand f fd)  : FnG P w K mg base CX0 1 f fd ["ups", "k"] (sp_can_stand K) := by
  refine FnDok F sc_can_stand (fun vs H Q E h => ?_) (fun cdv A outer s H0 vs Q E gd hr h => ?_)
  · obtain ⟨_, _, _, _, _, _, rfl, _⟩ := h
    rfl
  · obtain ⟨F0, v_ups, x_ups, v_k, x_k, r0, rfl, hs0, r_ups, r_k, hm, hk⟩ := h
    have g0 : Gr [] F0 H0 F0 H0 := Gr.refl hs0
    have er_k : v_k = V.int x_k := r_k
    subst er_k
    refine ⟨_, PSs.nox (pss_cons (ps_if (pt_not (pt_chain op_le op_lt pe_int (pe_ix (c_ixT (K := K) rfl) (pv 0) (pv 1) (fun _ _ => rfl)) (pv 1))) (pss_one (ps_ret pe_bl)) pss_nil)
(pss_cons (ps_set (i := 2) sc_can_stand.nd rfl (by first | exact Or.inl rfl | exact Or.inr rfl) (pe_op op_sub (pv 1) pe_int))
(pss_cons (ps_while PassesOwn.never (pt_cmpR op_gt (pv 2) (pe_ix (c_ixT (K := K) rfl) (pv 0) (pv 1) (fun _ _ => rfl)) (nomark _)) (pss_one (ps_set (i := 2) sc_can_stand.nd rfl (by first | exact Or.inl rfl | exact Or.inr rfl) (pe_ix (c_ixT (K := K) rfl) (pv 0) (pv 2) (fun _ _ => rfl)))))
(pss_one (ps_ret (pe_cmpR op_eq (pv 2) (pe_ix (c_ixT (K := K) rfl) (pv 0) (pv 1) (fun _ _ => rfl)) (nomark _))))))), ?_⟩
    refine n_seq ?_
    refine n_ifs ?_
    refine n_not ?_
    refine n_test ?_
    refine n_chain ?_
    refine n_c ?_
    refine n_op ?_
    refine n_var rfl ?_
    refine n_var rfl ?_
    obtain ⟨a1, ha1, hm⟩ := bnd hm
    obtain ⟨p2, vs3, ep2, q4, al5⟩ := r_ups
    subst ep2
    refine v_ixT (SqT.of (g0.fh _ _ q4)) al5 ha1 fun v6 r7 => ?_
    have er7 : v6 = V.int a1 := r7
    subst er7
    refine v_i2 ?_
    refine v_bl ?_
    refine br_chain (b := (decide (a1 < x_k))) (fun _ Q7 k7 => ?_) ?_
    · refine n_var rfl ?_
      refine v_i2 ?_
      exact k7
    refine v_bl ?_
    refine br (fun hb9 => ?_) (fun hb9 => ?_)
    · replace hm := ifT hb9 hm
      refine n_ret ?_
      refine n_c ?_
      obtain rfl := Option.some.inj hm
      exact hk _ _ _  g0   rfl
    replace hm := ifF hb9 hm
    refine n_nextS ?_
    refine n_seq ?_
    refine n_asg ?_
    refine n_op ?_
    refine n_var rfl ?_
    refine n_c ?_
    refine v_i2 ?_
    refine n_name (setS (setS set0)) ?_
    refine n_seq ?_
    obtain ⟨s10, hs10, hm⟩ := bnd hm
    refine while_o hs10 (fun (s7 : Int) σ7 H7 => ∃ (F7 : Hp), σ7 = [some (.ref p2), some (.int x_k), some (.int s7)] ∧ Gr [] F0 H0 F7 H7 ∧ Sub F0 F7) ⟨_, rfl, g0, Sub.refl _⟩ ?_ ?_ ?_
    · rintro s11 b12 _ H13 ⟨F16, rfl, g17, sb18⟩ hm P14 hP15
      refine n_test ?_
      refine n_op ?_
      refine n_var rfl ?_
      refine n_op ?_
      refine n_var rfl ?_
      refine n_var rfl ?_
      obtain ⟨a19, ha19, hm⟩ := bnd hm
      refine v_ixT (SqT.of (g17.fh _ _ (sb18 _ _ q4))) (Al.mono al5 sb18) ha19 fun v20 r21 => ?_
      have er21 : v20 = V.int a19 := r21
      subst er21
      refine v_i2 ?_
      refine v_bl ?_
      obtain rfl := Option.some.inj hm
      exact hP15 _ ⟨_, rfl, g17, sb18⟩
    · rintro s22 s23 _ H24 ⟨F27, rfl, g28, sb29⟩ _ hm N25 hN26
      refine n_asg ?_
      refine n_op ?_
      refine n_var rfl ?_
      refine n_var rfl ?_
      obtain ⟨a30, ha30, hm⟩ := bnd hm
      refine v_ixT (SqT.of (g28.fh _ _ (sb29 _ _ q4))) (Al.mono al5 sb29) ha30 fun v31 r32 => ?_
      have er32 : v31 = V.int a30 := r32
      subst er32
      refine n_name (setS (setS set0)) ?_
      obtain rfl := Option.some.inj hm
      exact hN26 _ _ ⟨_, rfl, g28, sb29⟩
    rintro _ H33 ⟨F34, rfl, g35, sb36⟩ _
    refine n_ret ?_
    refine n_op ?_
    refine n_var rfl ?_
    refine n_op ?_
    refine n_var rfl ?_
    refine n_var rfl ?_
    obtain ⟨a37, ha37, hm⟩ := bnd hm
    refine v_ixT (SqT.of (g35.fh _ _ (sb36 _ _ q4))) (Al.mono al5 sb36) ha37 fun v38 r39 => ?_
    have er39 : v38 = V.int a37 := r39
    subst er39
    refine v_eqI ?_
    obtain rfl := Option.some.inj hm
    exact hk _ _ _  g35   rfl

def m_are_ups (x_ups : List Int) : Option Bool :=
  (atI x_ups (0 : Int)).bind fun a1 =>
  if (!decide (a1 = ((0 : Int) - (1 : Int)))) = true then
  some false
  else
  (uptoM (1 : Int) (x_ups.length : Int)).bind fun l9 =>
  (foldR l9 () fun s13 a12 =>
  (m_can_stand x_ups a12).bind fun r26 =>
  if (!r26) = true then
  some (.rt false)
  else
  some (.nx ())).bind fun z10 =>
  thenF z10 (fun s35 =>
  some true) (fun r7 => some r7)
def sp_are_ups (K : PySem.W.Frag) : Sp := fun vs H Q _ => ∃ (F : Hp) (v_ups : V) (x_ups : List Int) (r : Bool), vs = [v_ups] ∧ Sub F H ∧ (eT eI).r F v_ups x_ups ∧ m_are_ups x_ups = some r ∧ ∀ (v : V) (F' H' : Hp) , Gr [] F H F' H' → eB.r F' v r → Q v H'
theorem sc_are_ups : FnScope ["ups", "k"] ["ups"] (defScope s_are_ups) := ⟨rfl, rfl, rfl, by decide +kernel, rfl, by decide +kernel, by decide +kernel⟩
theorem ok_are_ups {f : Addr} {fd : FuncData} (F : FnP K "are_ups" s_are_ups f fd) (H_can_stand : HasG P w K mg base "can_stand" ["ups", "k"] 1 (sp_can_stand K)) (b_range : mg "range" = none) (b_len : mg "len" = none) : FnG P w K mg base CX0 2 f fd ["ups"] (sp_are_ups K) := by
  obtain ⟨f_can_stand, fd_can_stand, G0_can_stand, g_can_stand, k_can_stand, b_can_stand⟩ := H_can_stand
  have G_can_stand := G0_can_stand.mono (show 1 ≤ 1 by decide)
  refine FnDok F sc_are_ups (fun vs H Q E h => ?_) (fun cdv A outer s H0 vs Q E gd hr h => ?_)
  · obtain ⟨_, _, _, _, rfl, _⟩ := h
    rfl
  · obtain ⟨F0, v_ups, x_ups, r0, rfl, hs0, r_ups, hm, hk⟩ := h
    have g0 : Gr [] F0 H0 F0 H0 := Gr.refl hs0
    refine ⟨_, PSs.nox (pss_cons (ps_if (pt_cmpR op_ne (pe_ix (c_ixT (K := K) rfl) (pv 0) pe_int (fun _ _ => rfl)) (pe_op op_sub pe_int pe_int) (nomark _)) (pss_one (ps_ret pe_bl)) pss_nil)
(pss_cons (ps_for PassesOwn.never rfl (pi_range2 (by rfl) b_range (pa_cons pe_int (pa_cons (pe_callB (c_len (K := K) rfl) (by rfl) b_len bo_len (pa_cons (pv 0) pa_nil)) pa_nil))) (pg_name (i := 1) sc_are_ups.nd rfl (by first | exact Or.inl rfl | exact Or.inr rfl)) (pss_one (ps_if (pt_not (pt_val (pe_callG G_can_stand gd hr (by rfl) g_can_stand k_can_stand b_can_stand pass0 (pa_cons (pv 0) (pa_cons (pv 1) pa_nil))))) (pss_one (ps_ret pe_bl)) pss_nil)))
(pss_one (ps_ret pe_bl)))), ?_⟩
    refine n_seq ?_
    refine n_ifs ?_
    refine n_test ?_
    refine n_op ?_
    refine n_op ?_
    refine n_var rfl ?_
    refine n_c ?_
    obtain ⟨a1, ha1, hm⟩ := bnd hm
    obtain ⟨p2, vs3, ep2, q4, al5⟩ := r_ups
    subst ep2
    refine v_ixT (SqT.of (g0.fh _ _ q4)) al5 ha1 fun v6 r7 => ?_
    have er7 : v6 = V.int a1 := r7
    subst er7
    refine n_op ?_
    refine n_c ?_
    refine n_c ?_
    refine v_i2 ?_
    refine v_neI ?_
    refine v_bl ?_
    refine br (fun hb8 => ?_) (fun hb8 => ?_)
    · replace hm := ifT hb8 hm
      refine n_ret ?_
      refine n_c ?_
      obtain rfl := Option.some.inj hm
      exact hk _ _ _  g0   rfl
    replace hm := ifF hb8 hm
    refine n_nextS ?_
    refine n_seq ?_
    refine n_for ?_
    refine n_rng2 ?_
    refine n_cons ?_
    refine n_c ?_
    refine n_cons ?_
    refine n_cb ?_
    refine n_cons ?_
    refine n_var rfl ?_
    refine n_nil ?_
    refine v_len (.inr (SqT.of (g0.fh _ _ q4))) al5 ?_
    refine n_nil ?_
    obtain ⟨l9, hl9, hm⟩ := bnd hm
    refine v_rng2 hl9 ?_
    obtain ⟨z10, hz10, hm⟩ := bnd hm
    have hmo11 := hm
    refine for_r (sr_R2 hl9) hz10 (fun (s7 : Unit) σ7 H7 => ∃ (F7 : Hp) (o_k : Option V), σ7 = [some (.ref p2), o_k] ∧ Gr [] F0 H0 F7 H7 ∧ Sub F0 F7) ⟨_, _, rfl, g0, Sub.refl _⟩ ?_ ?_ ?_
    · intros; exact trivial
    · rintro a12 s13 s14 x15 _ H16 H17 ⟨F21, o24, rfl, g22, sb23⟩ hY18 hm hrt25 N19 hN20
      refine v_nmR hY18 ?_
      refine n_name (setS set0) ?_
      refine n_ifs ?_
      refine n_not ?_
      refine n_tB ?_
      refine n_call ?_
      refine n_cons ?_
      refine n_var rfl ?_
      refine n_cons ?_
      refine n_var rfl ?_
      refine n_nil ?_
      obtain ⟨r26, hr26, hm⟩ := bnd hm
      refine ⟨F21, (.ref p2), x_ups, .int a12, a12, r26, rfl, g22.fh, (Rp.mono (eT eI) sb23 (⟨p2, vs3, rfl, q4, al5⟩ : (eT eI).r F0 (.ref p2) x_ups)), rfl, hr26, fun v30 F27 H28 d29 r31 => ?_⟩
      have g32 := g22.trans0 d29
      have er31 : v30 = V.bl r26 := r31
      subst er31
      refine v_bl ?_
      refine br (fun hb33 => ?_) (fun hb33 => ?_)
      · replace hm := ifT hb33 hm
        refine n_ret ?_
        refine n_c ?_
        obtain rfl := Option.some.inj hm
        have hm := thenF_rt (hrt25 _ rfl) hmo11
        obtain rfl := Option.some.inj hm
        exact hk _ _ _  g32   rfl
      replace hm := ifF hb33 hm
      refine n_nextS ?_
      obtain rfl := Option.some.inj hm
      exact hN20 _ _ _ rfl ⟨_, _, rfl, g32, (Sub.trans sb23 d29.ff)⟩
    rintro s35 _ H34 e36 ⟨F37, o40, rfl, g38, sb39⟩
    subst e36
    replace hm := thenF_nx hm
    refine n_ret ?_
    refine n_c ?_
    obtain rfl := Option.some.inj hm
    exact hk _ _ _  g38   rfl

def m_is_tree (x_thing : (List Int × Sg)) : Option Bool :=
  if ((!true) || (!decide ((2 : Int) = (2 : Int)))) = true then
  some false
  else
  (m_are_letters x_thing.2).bind fun r7 =>
  if ((!r7) || (!((decide ((1 : Int) ≤ (x_thing.2.length : Int))) && (decide ((x_thing.2.length : Int) ≤ (60 : Int)))))) = true then
  some false
  else
  (if (!true) = true then
  some true
  else
  (if (!decide ((x_thing.1.length : Int) = (x_thing.2.length : Int))) = true then
  some true
  else
  (need (szB x_thing.1.length) ()).bind fun u29 =>
  (compS x_thing.1 fun a31 =>
  (m_is_whole a31).bind fun r51 =>
  some (some r51)).bind fun q30 =>
  some (!(q30.all id))).bind fun c25 =>
  some c25).bind fun c18 =>
  if c18 = true then
  some false
  else
  (m_are_ups x_thing.1).bind fun r88 =>
  some r88
def sp_is_tree (K : PySem.W.Frag) : Sp := fun vs H Q _ => ∃ (F : Hp) (v_thing : V) (x_thing : (List Int × Sg)) (r : Bool), vs = [v_thing] ∧ Sub F H ∧ (eP2 (eT eI) eS).r F v_thing x_thing ∧ m_is_tree x_thing = some r ∧ ∀ (v : V) (F' H' : Hp) , Gr [] F H F' H' → eB.r F' v r → Q v H'
theorem sc_is_tree : FnScope ["thing", "ups", "labels", "up"] ["thing"] (defScope s_is_tree) := ⟨rfl, rfl, rfl, by decide +kernel, rfl, by decide +kernel, by decide +kernel⟩
theorem ok_is_tree {f : Addr} {fd : FuncData} (F : FnP K "is_tree" s_is_tree f fd) (H_are_ups : HasG P w K mg base "are_ups" ["ups"] 2 (sp_are_ups K)) (H_are_letters : HasG P w K mg base "are_letters" ["thing"] 1 (sp_are_letters K)) (H_is_whole : HasG P w K mg base "is_whole" ["thing"] 1 (sp_is_whole K)) (b_isinstance : mg "isinstance" = none) (b_tuple : mg "tuple" = none) (b_len : mg "len" = none) (b_all : mg "all" = none) (c_MOST_PLACES : ∃ t, mg "MOST_PLACES" = some (.int 60 t)) : FnG P w K mg base CX0 3 f fd ["thing"] (sp_is_tree K) := by
  obtain ⟨f_are_ups, fd_are_ups, G0_are_ups, g_are_ups, k_are_ups, b_are_ups⟩ := H_are_ups
  have G_are_ups := G0_are_ups.mono (show 2 ≤ 2 by decide)
  obtain ⟨f_are_letters, fd_are_letters, G0_are_letters, g_are_letters, k_are_letters, b_are_letters⟩ := H_are_letters
  have G_are_letters := G0_are_letters.mono (show 1 ≤ 2 by decide)
  obtain ⟨f_is_whole, fd_is_whole, G0_is_whole, g_is_whole, k_is_whole, b_is_whole⟩ := H_is_whole
  have G_is_whole := G0_is_whole.mono (show 1 ≤ 2 by decide)
  obtain ⟨t_MOST_PLACES, c_MOST_PLACES⟩ := c_MOST_PLACES
  refine FnDok F sc_is_tree (fun vs H Q E h => ?_) (fun cdv A outer s H0 vs Q E gd hr h => ?_)
  · obtain ⟨_, _, _, _, rfl, _⟩ := h
    rfl
  · obtain ⟨F0, v_thing, x_thing, r0, rfl, hs0, r_thing, hm, hk⟩ := h
    have g0 : Gr [] F0 H0 F0 H0 := Gr.refl hs0
    refine ⟨_, PSs.nox (pss_cons (ps_if (PW.pt (pw_or (pt_not (pt_val (pe_callB (c_isi (K := K) rfl) (by rfl) b_isinstance bo_isinstance (pa_cons (pv 0) (pa_cons (pe_bltn (v := .ty "tuple") (by rfl) b_tuple bo_tuple rfl) pa_nil))))) (pw_or1 (pt_cmpR op_ne (pe_callB (c_len (K := K) rfl) (by rfl) b_len bo_len (pa_cons (pv 0) pa_nil)) pe_int (nomark _))))) (pss_one (ps_ret pe_bl)) pss_nil)
(pss_cons (ps_asg (pv 0) (c_pgtup (K := K) rfl (by rfl) (pgs_cons (pg_name (i := 1) sc_is_tree.nd rfl (by first | exact Or.inl rfl | exact Or.inr rfl)) (pgs_cons (pg_name (i := 2) sc_is_tree.nd rfl (by first | exact Or.inl rfl | exact Or.inr rfl)) pgs_nil))))
(pss_cons (ps_if (PW.pt (pw_or (pt_not (pt_val (pe_callG G_are_letters gd hr (by rfl) g_are_letters k_are_letters b_are_letters pass0 (pa_cons (pv 2) pa_nil)))) (pw_or1 (pt_not (pt_chain op_le op_le pe_int (pe_callB c_lenS (by rfl) b_len bo_len (pa_cons (pv 2) pa_nil)) (pe_glob (v := .int 60) (by rfl) c_MOST_PLACES ⟨_, rfl⟩)))))) (pss_one (ps_ret pe_bl)) pss_nil)
(pss_cons (ps_if (PW.pt (pw_or (pt_not (pt_val (pe_callB (c_isi (K := K) rfl) (by rfl) b_isinstance bo_isinstance (pa_cons (pv 1) (pa_cons (pe_bltn (v := .ty "tuple") (by rfl) b_tuple bo_tuple rfl) pa_nil))))) (pw_or (pt_cmpR op_ne (pe_callB (c_len (K := K) rfl) (by rfl) b_len bo_len (pa_cons (pv 1) pa_nil)) (pe_callB c_lenS (by rfl) b_len bo_len (pa_cons (pv 2) pa_nil)) (nomark _)) (pw_or1 (pt_not (pt_val (pe_callB (c_all (K := K) rfl (by rfl)) (by rfl) b_all bo_all (pa_cons (pe_lc (own := [("up", 3)]) (g := gName 3) (by rfl) sc_is_tree.nd (c_pitup (K := K) rfl (pv 1)) (blkOk_by (own := [("up", 3)]) (N := ["thing", "ups", "labels", "up"]) (sc := defScope s_is_tree) (by decide +kernel)) (fun _ _ _ _ _ => (pg_name (i := 3) sc_is_tree.nd rfl (Or.inl rfl))) (fun _ _ _ _ _ => pts_nil) (fun _ _ _ _ _ => (pe_callG G_is_whole gd hr (by rfl) g_is_whole k_is_whole b_is_whole pass0 (pa_cons (pv 3) pa_nil)))) pa_nil)))))))) (pss_one (ps_ret pe_bl)) pss_nil)
(pss_one (ps_ret (pe_callG G_are_ups gd hr (by rfl) g_are_ups k_are_ups b_are_ups pass0 (pa_cons (pv 1) pa_nil)))))))), ?_⟩
    refine n_seq ?_
    refine n_ifs ?_
    refine n_or ?_
    refine n_not ?_
    refine n_tB ?_
    refine n_cb ?_
    refine n_cons ?_
    refine n_var rfl ?_
    refine n_cons ?_
    refine n_c ?_
    refine n_nil ?_
    refine v_isi (b := true) (ty_frz g0.fh r_thing) (by decide +kernel) ?_
    refine v_bl ?_
    refine br_orT (b := (!decide ((2 : Int) = (2 : Int)))) (fun hb1 Q7 k7 => ?_) ?_
    · refine n_test ?_
      refine n_op ?_
      refine n_cb ?_
      refine n_cons ?_
      refine n_var rfl ?_
      refine n_nil ?_
      refine v_lenP2 g0.fh r_thing ?_
      refine n_c ?_
      refine v_neI ?_
      refine v_bl ?_
      exact k7
    refine br (fun hb2 => ?_) (fun hb2 => ?_)
    · replace hm := ifT hb2 hm
      refine n_ret ?_
      refine n_c ?_
      obtain rfl := Option.some.inj hm
      exact hk _ _ _  g0   rfl
    replace hm := ifF hb2 hm
    refine n_nextS ?_
    refine n_seq ?_
    refine n_asg ?_
    refine n_var rfl ?_
    refine v_unp2 g0.fh r_thing fun v3 v5 r4 r6 => ?_
    obtain ⟨er6, lr6⟩ : v5 = V.str (S x_thing.2) ∧ x_thing.2.length ≤ sizeLine := r6
    subst er6
    refine n_gcons ?_
    refine n_name (setS set0) ?_
    refine n_gcons ?_
    refine n_name (setS (setS set0)) ?_
    refine n_gnil ?_
    refine n_seq ?_
    refine n_ifs ?_
    refine n_or ?_
    refine n_not ?_
    refine n_tB ?_
    refine n_call ?_
    refine n_cons ?_
    refine n_var rfl ?_
    refine n_nil ?_
    obtain ⟨r7, hr7, hm⟩ := bnd hm
    refine ⟨F0, .str (S x_thing.2), x_thing.2, r7, rfl, g0.fh, ⟨rfl, lr6⟩, hr7, fun v11 F8 H9 d10 r12 => ?_⟩
    have g13 := g0.trans0 d10
    have er12 : v11 = V.bl r7 := r12
    subst er12
    refine v_bl ?_
    refine br_orT (b := (!((decide ((1 : Int) ≤ (x_thing.2.length : Int))) && (decide ((x_thing.2.length : Int) ≤ (60 : Int)))))) (fun hb14 Q7 k7 => ?_) ?_
    · refine n_not ?_
      refine n_test ?_
      refine n_chain ?_
      refine n_c ?_
      refine n_cb ?_
      refine n_cons ?_
      refine n_var rfl ?_
      refine n_nil ?_
      refine v_lenS lr6 ?_
      refine v_i2 ?_
      refine v_bl ?_
      refine br_chain (b := (decide ((x_thing.2.length : Int) ≤ (60 : Int)))) (fun _ Q7 k7 => ?_) ?_
      · refine n_c ?_
        refine v_i2 ?_
        exact k7
      refine v_bl ?_
      exact k7
    refine br (fun hb16 => ?_) (fun hb16 => ?_)
    · replace hm := ifT hb16 hm
      refine n_ret ?_
      refine n_c ?_
      obtain rfl := Option.some.inj hm
      exact hk _ _ _  g13   rfl
    replace hm := ifF hb16 hm
    refine n_nextS ?_
    refine n_seq ?_
    refine n_ifs ?_
    refine n_or ?_
    refine n_not ?_
    refine n_tB ?_
    refine n_cb ?_
    refine n_cons ?_
    refine n_var rfl ?_
    refine n_cons ?_
    refine n_c ?_
    refine n_nil ?_
    refine v_isi (b := true) (ty_vt g13.fh (Rp.mono (eT eI) d10.ff r4)) (by decide +kernel) ?_
    refine v_bl ?_
    obtain ⟨c18, hc18, hm⟩ := bnd hm
    refine br_orTM (c := c18) (fun H7 => ∃ F19, Gr [] F0 H0 F19 H7 ∧ Sub F8 F19) (fun hb17 Q7 k7 => ?_) (fun hb17 => ?_) ?_
    · have hm := ifF hb17 hc18
      refine n_or ?_
      refine n_test ?_
      refine n_op ?_
      refine n_cb ?_
      refine n_cons ?_
      refine n_var rfl ?_
      refine n_nil ?_
      obtain ⟨p20, vs21, ep20, q22, al23⟩ := (Rp.mono (eT eI) d10.ff r4)
      subst ep20
      refine v_len (.inr (SqT.of (g13.fh _ _ q22))) al23 ?_
      refine n_cb ?_
      refine n_cons ?_
      refine n_var rfl ?_
      refine n_nil ?_
      refine v_lenS lr6 ?_
      refine v_neI ?_
      refine v_bl ?_
      obtain ⟨c25, hc25, hm⟩ := bnd hm
      refine br_orTM (c := c25) (fun H7 => ∃ F26, Gr [] F0 H0 F26 H7 ∧ Sub F8 F26) (fun hb24 Q7 k7 => ?_) (fun hb24 => ?_) ?_
      · have hm := ifF hb24 hc25
        refine n_not ?_
        refine n_tB ?_
        refine n_cb ?_
        refine n_cons ?_
        refine n_lc ?_
        refine n_itT ?_
        refine n_var rfl ?_
        refine v_itT (SqT.of (g13.fh _ _ q22)) ?_
        obtain ⟨u29, hu29, hm⟩ := bnd hm
        obtain ⟨q30, hq30, hm⟩ := bnd hm
        intro D27 nD28
        have goD27 := g13.old nD28
        have gg63 := gr_newM (W := []) (o := .lst []) g13.fh nD28
        refine comp_s (sr_T al23) hq30 (need_ok hu29).1 (fun (acc7 : List Bool) H7 => ∃ (F7 : Hp) (vs7 : List V), Gr [] F0 H0 F7 H7 ∧ Sub F8 F7 ∧ F7 D27 = none ∧ H7 D27 = some (.lst vs7) ∧ Al eB F7 vs7 acc7) ⟨_, [], g13.trans0 gg63, Sub.refl _, g13.fh.nn nD28, upd_same, .nil⟩ ?_ ?_ ?_
        · rintro _ _ ⟨F42, vs43, g44, sb45, _, _, _⟩
          exact (SqT.of (g44.fh _ _ (sb45 _ _ q22)))
        · rintro a31 r33 acc34 x35 H36 H37 ⟨F42, vs43, g44, sb45, fD46, hD47, al48⟩ hY38 hm hl41 N39 hN40
          have m49 : Mu [] H0 F42 H36 D27 (.lst vs43) := ⟨fD46, hD47, .inl goD27⟩
          refine wipe_to (σ' := [some v_thing, some (.ref p20), some (.str (S x_thing.2)), none]) rfl ?_
          refine v_nmY hY38 fun r50 => ?_
          have er50 : x35 = V.int a31 := r50
          subst er50
          refine n_name (setS (setS (setS set0))) ?_
          refine ⟨rfl, ?_⟩
          refine n_yes ?_ rfl
          refine n_call ?_
          refine n_cons ?_
          refine n_var rfl ?_
          refine n_nil ?_
          obtain ⟨r51, hr51, hm⟩ := bnd hm
          refine ⟨F42, .int a31, a31, r51, rfl, g44.fh, rfl, hr51, fun v55 F52 H53 d54 r56 => ?_⟩
          have g57 := g44.trans0 d54
          have m58 := m49.call0 d54
          have er56 : v55 = V.bl r51 := r56
          subst er56
          obtain rfl := Option.some.inj hm
          refine ⟨_, m58.hp, by rw [al_len (Al.mono al48 d54.ff)]; exact hl41, hN40 _ ?_⟩
          exact ⟨_, _, m58.gr g57, (Sub.trans sb45 d54.ff), m58.fr, upd_same, pd_snoc (Al.mono al48 d54.ff) (show eB.r F52 (.bl r51) r51 from rfl)⟩
        rintro H64 ⟨F65, vs66, g67, sb68, fD69, hD70, al71⟩
        have m72 : Mu [] H0 F65 H64 D27 (.lst vs66) := ⟨fD69, hD70, .inl goD27⟩
        obtain ⟨F73, q75, sb77, g76, d74⟩ := freeze g67 m72 (m72.own.resolve_right (by simp))
        have al78 := (Al.mono al71 sb77)
        refine n_nil ?_
        refine v_all (SqL.of (g76.fh _ _ q75)) al78 ?_
        refine v_bl ?_
        obtain rfl := Option.some.inj hm
        exact k7 _ ⟨_, g76, (Sub.trans sb68 sb77)⟩
      · have hm := ifT hb24 hc25
        exact ⟨(Option.some.inj hm).symm, ⟨_, g13, Sub.refl _⟩⟩
      rintro H79 ⟨F82, g80, sb81⟩
      obtain rfl := Option.some.inj hm
      exact k7 _ ⟨_, g80, sb81⟩
    · have hm := ifT hb17 hc18
      exact ⟨(Option.some.inj hm).symm, ⟨_, g13, Sub.refl _⟩⟩
    rintro H83 ⟨F86, g84, sb85⟩
    refine br (fun hb87 => ?_) (fun hb87 => ?_)
    · replace hm := ifT hb87 hm
      refine n_ret ?_
      refine n_c ?_
      obtain rfl := Option.some.inj hm
      exact hk _ _ _  g84   rfl
    replace hm := ifF hb87 hm
    refine n_nextS ?_
    refine n_ret ?_
    refine n_call ?_
    refine n_cons ?_
    refine n_var rfl ?_
    refine n_nil ?_
    obtain ⟨r88, hr88, hm⟩ := bnd hm
    refine ⟨F86, v3, x_thing.1, r88, rfl, g84.fh, (Rp.mono (eT eI) (Sub.trans d10.ff sb85) r4), hr88, fun v92 F89 H90 d91 r93 => ?_⟩
    have g94 := g84.trans0 d91
    have er93 : v92 = V.bl r88 := r93
    subst er93
    obtain rfl := Option.some.inj hm
    exact hk _ _ _  g94   rfl

def m_is_trie (x_thing : (List Int × Sg)) : Option Bool :=
  (m_is_tree x_thing).bind fun r1 =>
  if (!r1) = true then
  some false
  else
  (repM [([] : Sg)] (x_thing.1.length : Int)).bind fun l24 =>
  (foldR (enumL x_thing.1) l24 fun s47 a46 =>
  if (decide ((0 : Int) ≤ a46.2)) = true then
  (atI s47 a46.2).bind fun a70 =>
  (atI x_thing.2 a46.1).bind fun c73 =>
  if (!decide (a70 < [c73])) = true then
  some (.rt false)
  else
  (atI x_thing.2 a46.1).bind fun c75 =>
  (setM s47 a46.2 [c75]).bind fun l76 =>
  some (.nx l76)
  else
  some (.nx s47)).bind fun z36 =>
  thenF z36 (fun s85 =>
  some true) (fun r7 => some r7)
def sp_is_trie (K : PySem.W.Frag) : Sp := fun vs H Q _ => ∃ (F : Hp) (v_thing : V) (x_thing : (List Int × Sg)) (r : Bool), vs = [v_thing] ∧ Sub F H ∧ (eP2 (eT eI) eS).r F v_thing x_thing ∧ m_is_trie x_thing = some r ∧ ∀ (v : V) (F' H' : Hp) , Gr [] F H F' H' → eB.r F' v r → Q v H'
theorem sc_is_trie : FnScope ["thing", "lasts", "ups", "labels", "place", "up"] ["thing"] (defScope s_is_trie) := ⟨rfl, rfl, rfl, by decide +kernel, rfl, by decide +kernel, by decide +kernel⟩
theorem ok_is_trie {f : Addr} {fd : FuncData} (F : FnP K "is_trie" s_is_trie f fd) (H_is_tree : HasG P w K mg base "is_tree" ["thing"] 3 (sp_is_tree K)) (b_enumerate : mg "enumerate" = none) (b_len : mg "len" = none) : FnG P w K mg base CX0 4 f fd ["thing"] (sp_is_trie K) := by
  obtain ⟨f_is_tree, fd_is_tree, G0_is_tree, g_is_tree, k_is_tree, b_is_tree⟩ := H_is_tree
  have G_is_tree := G0_is_tree.mono (show 3 ≤ 3 by decide)
  refine FnDok F sc_is_trie (fun vs H Q E h => ?_) (fun cdv A outer s H0 vs Q E gd hr h => ?_)
  · obtain ⟨_, _, _, _, rfl, _⟩ := h
    rfl
  · obtain ⟨F0, v_thing, x_thing, r0, rfl, hs0, r_thing, hm, hk⟩ := h
    have g0 : Gr [] F0 H0 F0 H0 := Gr.refl hs0
    refine ⟨_, PSs.nox (pss_cons (ps_if (pt_not (pt_val (pe_callG G_is_tree gd hr (by rfl) g_is_tree k_is_tree b_is_tree pass0 (pa_cons (pv 0) pa_nil)))) (pss_one (ps_ret pe_bl)) pss_nil)
(pss_cons (ps_asg (pv 0) (c_pgtup (K := K) rfl (by rfl) (pgs_cons (pg_name (i := 2) sc_is_trie.nd rfl (by first | exact Or.inl rfl | exact Or.inr rfl)) (pgs_cons (pg_name (i := 3) sc_is_trie.nd rfl (by first | exact Or.inl rfl | exact Or.inr rfl)) pgs_nil))))
(pss_cons (ps_set (i := 1) sc_is_trie.nd rfl (by first | exact Or.inl rfl | exact Or.inr rfl) (pe_op op_rep (pe_lst (pa_cons pe_str pa_nil)) (pe_callB (c_len (K := K) rfl) (by rfl) b_len bo_len (pa_cons (pv 2) pa_nil))))
(pss_cons (ps_for PassesOwn.never rfl (pi_en (K := K) rfl (by rfl) b_enumerate (pa_cons (pv 2) pa_nil)) (c_pgtup (K := K) rfl (by rfl) (pgs_cons (pg_name (i := 4) sc_is_trie.nd rfl (by first | exact Or.inl rfl | exact Or.inr rfl)) (pgs_cons (pg_name (i := 5) sc_is_trie.nd rfl (by first | exact Or.inl rfl | exact Or.inr rfl)) pgs_nil))) (pss_one (ps_if (pt_cmpR op_ge (pv 5) pe_int (nomark _)) (pss_cons (ps_if (pt_cmpR c_geS (pe_ix (c_ixL (K := K) rfl) (pv 1) (pv 5) (fun _ _ => rfl)) (pe_ix ix_str (pv 3) (pv 4) (fun _ _ => rfl)) (nomark _)) (pss_one (ps_ret pe_bl)) pss_nil)
(pss_one (ps_asg (pe_ix ix_str (pv 3) (pv 4) (fun _ _ => rfl)) (pg_sub (pv 1) (pv 5) set_list)))) pss_nil)))
(pss_one (ps_ret pe_bl)))))), ?_⟩
    refine n_seq ?_
    refine n_ifs ?_
    refine n_not ?_
    refine n_tB ?_
    refine n_call ?_
    refine n_cons ?_
    refine n_var rfl ?_
    refine n_nil ?_
    obtain ⟨r1, hr1, hm⟩ := bnd hm
    refine ⟨F0, v_thing, x_thing, r1, rfl, g0.fh, r_thing, hr1, fun v5 F2 H3 d4 r6 => ?_⟩
    have g7 := g0.trans0 d4
    have er6 : v5 = V.bl r1 := r6
    subst er6
    refine v_bl ?_
    refine br (fun hb8 => ?_) (fun hb8 => ?_)
    · replace hm := ifT hb8 hm
      refine n_ret ?_
      refine n_c ?_
      obtain rfl := Option.some.inj hm
      exact hk _ _ _  g7   rfl
    replace hm := ifF hb8 hm
    refine n_nextS ?_
    refine n_seq ?_
    refine n_asg ?_
    refine n_var rfl ?_
    refine v_unp2 g7.fh (Rp.mono (eP2 (eT eI) eS) d4.ff r_thing) fun v9 v11 r10 r12 => ?_
    obtain ⟨er12, lr12⟩ : v11 = V.str (S x_thing.2) ∧ x_thing.2.length ≤ sizeLine := r12
    subst er12
    refine n_gcons ?_
    refine n_name (setS (setS set0)) ?_
    refine n_gcons ?_
    refine n_name (setS (setS (setS set0))) ?_
    refine n_gnil ?_
    refine n_seq ?_
    refine n_asg ?_
    refine n_op ?_
    refine n_lst ?_
    refine n_cons ?_
    refine n_str (s := []) (by decide +kernel) ?_
    refine n_nil ?_
    refine v_mkLF (t := eS) (xs := [([] : Sg)]) g7.fh (.cons ⟨rfl, (sz_ok (n := 0) rfl)⟩ .nil) rfl fun p13 F14 H15 d16 q17 al18 => ?_
    have g19 := g7.trans0 d16
    refine n_cb ?_
    refine n_cons ?_
    refine n_var rfl ?_
    refine n_nil ?_
    obtain ⟨p20, vs21, ep20, q22, al23⟩ := (Rp.mono (eT eI) d16.ff r10)
    subst ep20
    refine v_len (.inr (SqT.of (g19.fh _ _ q22))) al23 ?_
    obtain ⟨l24, hl24, hm⟩ := bnd hm
    refine v_repM g19.fh (g19.fh _ _ q17) al18 hl24 fun p25 vs26 H28 np29 d30 fp31 hp32 al27 => ?_
    have go33 := g19.old np29
    have g34 := g19.trans0 d30
    have m35 : Mu [] H0 F14 H28 p25 (.lst vs26) := ⟨fp31, hp32, .inl go33⟩
    refine n_name (setS set0) ?_
    refine n_seq ?_
    refine n_for ?_
    refine n_en ?_
    refine n_cons ?_
    refine n_var rfl ?_
    refine n_nil ?_
    refine v_en (k := (.t p20)) (vs := vs21) (SqT.of (g34.fh _ _ q22)) ?_
    obtain ⟨z36, hz36, hm⟩ := bnd hm
    have hmo37 := hm
    refine for_r (sr_En (k := (.t p20)) al23) hz36 (fun (s7 : List Sg) σ7 H7 => ∃ (F7 : Hp) (o_place : Option V) (o_up : Option V) (us_lasts : List V), σ7 = [some v_thing, some (.ref p25), some (.ref p20), some (.str (S x_thing.2)), o_place, o_up] ∧ Gr [] F0 H0 F7 H7 ∧ Sub F14 F7 ∧ Mu [] H0 F7 H7 p25 (.lst us_lasts) ∧ Al eS F7 us_lasts s7) ⟨_, _, _, vs26, rfl, g34, Sub.refl _, m35, al27⟩ ?_ ?_ ?_
    · rintro s7 _ H7 ⟨F38, o41, o42, vs43, rfl, g39, sb40, m44, al45⟩
      exact (SqT.of (g39.fh _ _ (sb40 _ _ q22)))
    · rintro a46 s47 s48 x49 _ H50 H51 ⟨F55, o58, o59, vs60, rfl, g56, sb57, m61, al62⟩ hY52 hm hrt63 N53 hN54
      refine v_unpE g56.fh hY52 fun v65 d64 r66 => ?_
      have g67 := g56.trans0 d64
      have m68 := m61.call0 d64
      have er66 : v65 = V.int a46.2 := r66
      subst er66
      refine n_gcons ?_
      refine n_name (setS (setS (setS (setS set0)))) ?_
      refine n_gcons ?_
      refine n_name (setS (setS (setS (setS (setS set0))))) ?_
      refine n_gnil ?_
      refine n_ifs ?_
      refine n_test ?_
      refine n_op ?_
      refine n_var rfl ?_
      refine n_c ?_
      refine v_i2 ?_
      refine v_bl ?_
      refine br (fun hb69 => ?_) (fun hb69 => ?_)
      · replace hm := ifT hb69 hm
        refine n_seq ?_
        refine n_ifs ?_
        refine n_test ?_
        refine n_op ?_
        refine n_op ?_
        refine n_var rfl ?_
        refine n_var rfl ?_
        obtain ⟨a70, ha70, hm⟩ := bnd hm
        refine v_ixL m68.l al62 ha70 fun v71 r72 => ?_
        obtain ⟨er72, lr72⟩ : v71 = V.str (S a70) ∧ a70.length ≤ sizeLine := r72
        subst er72
        refine n_op ?_
        refine n_var rfl ?_
        refine n_var rfl ?_
        obtain ⟨c73, hc73, hm⟩ := bnd hm
        refine v_ixS lr12 hc73 ?_
        refine v_geS ?_
        refine v_bl ?_
        refine br (fun hb74 => ?_) (fun hb74 => ?_)
        · replace hm := ifT hb74 hm
          refine n_ret ?_
          refine n_c ?_
          obtain rfl := Option.some.inj hm
          have hm := thenF_rt (hrt63 _ rfl) hmo37
          obtain rfl := Option.some.inj hm
          exact hk _ _ _  g67   rfl
        replace hm := ifF hb74 hm
        refine n_nextS ?_
        refine n_asg ?_
        refine n_op ?_
        refine n_var rfl ?_
        refine n_var rfl ?_
        obtain ⟨c75, hc75, hm⟩ := bnd hm
        refine v_ixS lr12 hc75 ?_
        refine n_sub ?_
        refine n_var rfl ?_
        refine n_var rfl ?_
        obtain ⟨l76, hl76, hm⟩ := bnd hm
        obtain ⟨n77, en78, al79⟩ := setM_ok al62 hl76 (show eS.r F55 (.str (S [c75])) [c75] from ⟨rfl, one_le⟩)
        refine v_setL m68.hp en78 ?_
        obtain ⟨vs80, H81, g82, evs80, eH81⟩ := st_ok g67 m68 ((vs60 : List V).set n77 (.str (S [c75])))
        rw [← evs80, ← eH81]
        rw [← evs80] at al79
        have m83 := mu_self m68 eH81
        obtain rfl := Option.some.inj hm
        exact hN54 _ _ _ rfl ⟨_, _, _, vs80, rfl, g82, sb57, m83, al79⟩
      replace hm := ifF hb69 hm
      refine n_nextS ?_
      obtain rfl := Option.some.inj hm
      exact hN54 _ _ _ rfl ⟨_, _, _, vs60, rfl, g67, sb57, m68, al62⟩
    rintro s85 _ H84 e86 ⟨F87, o90, o91, vs92, rfl, g88, sb89, m93, al94⟩
    subst e86
    replace hm := thenF_nx hm
    refine n_ret ?_
    refine n_c ?_
    obtain rfl := Option.some.inj hm
    exact hk _ _ _  g88   rfl

def m_ways_down (x_tree : (List Int × Sg)) : Option (List Sg) :=
  (foldO (enumL x_tree.1) ([] : List Sg) fun s30 a29 =>
  (if (decide ((0 : Int) ≤ a29.2)) = true then
  (atI s30 a29.2).bind fun a57 =>
  some a57
  else
  some ([] : Sg)).bind fun c55 =>
  (atI x_tree.2 a29.1).bind fun c61 =>
  (catM c55 [c61]).bind fun t62 =>
  (snocM s30 t62).bind fun l63 =>
  some l63).bind fun s20 =>
  some s20
def sp_ways_down (K : PySem.W.Frag) : Sp := fun vs H Q _ => ∃ (F : Hp) (v_tree : V) (x_tree : (List Int × Sg)) (r : List Sg), vs = [v_tree] ∧ Sub F H ∧ (eP2 (eT eI) eS).r F v_tree x_tree ∧ m_ways_down x_tree = some r ∧ ∀ (v : V) (F' H' : Hp) , Gr [] F H F' H' → New eS H F' H' v r → Q v H'
theorem sc_ways_down : FnScope ["tree", "found", "ups", "labels", "place", "up"] ["tree"] (defScope s_ways_down) := ⟨rfl, rfl, rfl, by decide +kernel, rfl, by decide +kernel, by decide +kernel⟩
theorem ok_ways_down {f : Addr} {fd : FuncData} (F : FnP K "ways_down" s_ways_down f fd) (b_enumerate : mg "enumerate" = none) : FnG P w K mg base CX0 1 f fd ["tree"] (sp_ways_down K) := by
  refine FnDok F sc_ways_down (fun vs H Q E h => ?_) (fun cdv A outer s H0 vs Q E gd hr h => ?_)
  · obtain ⟨_, _, _, _, rfl, _⟩ := h
    rfl
  · obtain ⟨F0, v_tree, x_tree, r0, rfl, hs0, r_tree, hm, hk⟩ := h
    have g0 : Gr [] F0 H0 F0 H0 := Gr.refl hs0
    refine ⟨_, PSs.nox (pss_cons (ps_asg (pv 0) (c_pgtup (K := K) rfl (by rfl) (pgs_cons (pg_name (i := 2) sc_ways_down.nd rfl (by first | exact Or.inl rfl | exact Or.inr rfl)) (pgs_cons (pg_name (i := 3) sc_ways_down.nd rfl (by first | exact Or.inl rfl | exact Or.inr rfl)) pgs_nil))))
(pss_cons (ps_set (i := 1) sc_ways_down.nd rfl (by first | exact Or.inl rfl | exact Or.inr rfl) (pe_lst pa_nil))
(pss_cons (ps_for PassesOwn.never rfl (pi_en (K := K) rfl (by rfl) b_enumerate (pa_cons (pv 2) pa_nil)) (c_pgtup (K := K) rfl (by rfl) (pgs_cons (pg_name (i := 4) sc_ways_down.nd rfl (by first | exact Or.inl rfl | exact Or.inr rfl)) (pgs_cons (pg_name (i := 5) sc_ways_down.nd rfl (by first | exact Or.inl rfl | exact Or.inr rfl)) pgs_nil))) (pss_one (ps_expr (c_bm (K := K) rfl PySem.F.plainAttrs_list PySem.F.slot_list_append PySem.F.type_list_append mt_append (pv 1) (pa_cons (pe_op c_catS (pe_ifExp (pt_cmpR op_ge (pv 5) pe_int (nomark _)) (pe_ix (c_ixL (K := K) rfl) (pv 1) (pv 5) (fun _ _ => rfl)) pe_str) (pe_ix ix_str (pv 3) (pv 4) (fun _ _ => rfl))) pa_nil)))))
(pss_one (ps_ret (pv 1)))))), ?_⟩
    refine n_seq ?_
    refine n_asg ?_
    refine n_var rfl ?_
    refine v_unp2 g0.fh r_tree fun v1 v3 r2 r4 => ?_
    obtain ⟨er4, lr4⟩ : v3 = V.str (S x_tree.2) ∧ x_tree.2.length ≤ sizeLine := r4
    subst er4
    refine n_gcons ?_
    refine n_name (setS (setS set0)) ?_
    refine n_gcons ?_
    refine n_name (setS (setS (setS set0))) ?_
    refine n_gnil ?_
    refine n_seq ?_
    refine n_asg ?_
    refine n_lst ?_
    refine n_nil ?_
    have al12 : Al eS F0 [] ([] : List Sg) := .nil
    refine v_mkLM g0.fh rfl fun p5 H6 np7 d8 fp9 hp10 => ?_
    have go13 := g0.old np7
    have g14 := g0.trans0 d8
    have m15 : Mu [] H0 F0 H6 p5 (.lst []) := ⟨fp9, hp10, .inl go13⟩
    refine n_name (setS set0) ?_
    refine n_seq ?_
    refine n_for ?_
    refine n_en ?_
    refine n_cons ?_
    refine n_var rfl ?_
    refine n_nil ?_
    obtain ⟨p16, vs17, ep16, q18, al19⟩ := r2
    subst ep16
    refine v_en (k := (.t p16)) (vs := vs17) (SqT.of (g14.fh _ _ q18)) ?_
    obtain ⟨s20, hs20, hm⟩ := bnd hm
    refine for_o (sr_En (k := (.t p16)) al19) hs20 (fun (s7 : List Sg) σ7 H7 => ∃ (F7 : Hp) (o_place : Option V) (o_up : Option V) (us_found : List V), σ7 = [some v_tree, some (.ref p5), some (.ref p16), some (.str (S x_tree.2)), o_place, o_up] ∧ Gr [] F0 H0 F7 H7 ∧ Sub F0 F7 ∧ Mu [] H0 F7 H7 p5 (.lst us_found) ∧ Al eS F7 us_found s7) ⟨_, _, _, [], rfl, g14, Sub.refl _, m15, al12⟩ ?_ ?_ ?_
    · rintro s7 _ H7 ⟨F21, o24, o25, vs26, rfl, g22, sb23, m27, al28⟩
      exact (SqT.of (g22.fh _ _ (sb23 _ _ q18)))
    · rintro a29 s30 s31 x32 _ H33 H34 ⟨F38, o41, o42, vs43, rfl, g39, sb40, m44, al45⟩ hY35 hm N36 hN37
      refine v_unpE g39.fh hY35 fun v47 d46 r48 => ?_
      have g49 := g39.trans0 d46
      have m50 := m44.call0 d46
      have er48 : v47 = V.int a29.2 := r48
      subst er48
      refine n_gcons ?_
      refine n_name (setS (setS (setS (setS set0)))) ?_
      refine n_gcons ?_
      refine n_name (setS (setS (setS (setS (setS set0))))) ?_
      refine n_gnil ?_
      refine n_drop ?_
      refine n_bm ?_
      refine n_var rfl ?_
      refine ⟨tyL m50.l, ?_⟩
      refine n_cons ?_
      refine n_op ?_
      refine n_ifE ?_
      refine n_test ?_
      refine n_op ?_
      refine n_var rfl ?_
      refine n_c ?_
      refine v_i2 ?_
      refine v_bl ?_
      obtain ⟨c55, hc54, hm⟩ := bnd hm
      refine n_cutS c55 (fun Q7 k7 => br (fun hb56 => ?_) (fun hb56 => ?_)) ?_
      · replace hc54 := ifT hb56 hc54
        have hm := hc54
        refine n_op ?_
        refine n_var rfl ?_
        refine n_var rfl ?_
        obtain ⟨a57, ha57, hm⟩ := bnd hm
        refine v_ixL m50.l al45 ha57 fun v58 r59 => ?_
        obtain ⟨er59, lr59⟩ : v58 = V.str (S a57) ∧ a57.length ≤ sizeLine := r59
        subst er59
        obtain rfl := Option.some.inj hm
        exact k7 lr59
      · replace hc54 := ifF hb56 hc54
        have hm := hc54
        refine n_str (s := []) (by decide +kernel) ?_
        obtain rfl := Option.some.inj hm
        exact k7 (sz_ok (n := 0) rfl)
      intro l60
      refine n_op ?_
      refine n_var rfl ?_
      refine n_var rfl ?_
      obtain ⟨c61, hc61, hm⟩ := bnd hm
      refine v_ixS lr4 hc61 ?_
      obtain ⟨t62, ht62, hm⟩ := bnd hm
      refine v_catS ht62 ?_
      refine n_nil ?_
      obtain ⟨l63, hl63, hm⟩ := bnd hm
      obtain ⟨vs67, H64, g68, al66, evs67, eH64⟩ := app_ok g49 m50 al45 hl63 (show eS.r F38 (.str (S t62)) t62 from ⟨rfl, (catM_le ht62)⟩)
      refine v_append m50.hp (snoc_lt al45 hl63) ?_
      rw [← evs67, ← eH64]
      have m69 := mu_self m50 eH64
      obtain rfl := Option.some.inj hm
      exact hN37 _ _ ⟨_, _, _, vs67, rfl, g68, sb40, m69, al66⟩
    rintro _ H70 ⟨F71, o74, o75, vs76, rfl, g72, sb73, m77, al78⟩
    refine n_ret ?_
    refine n_var rfl ?_
    obtain rfl := Option.some.inj hm
    exact hk _ _ _  g72   ⟨p5, vs76, rfl, (m77.own.resolve_right (by simp)), m77.fr, m77.hp, al78⟩

def m_places_by_way (x_ways : List Sg) : Option (List (Sg × Int)) :=
  (need (szB (enumL x_ways).length) ()).bind fun u7 =>
  (compS (enumL x_ways) fun a9 =>
  some (some (a9.2, a9.1))).bind fun q8 =>
  some (ofPairs q8)
def sp_places_by_way (K : PySem.W.Frag) : Sp := fun vs H Q _ => ∃ (F : Hp) (v_ways : V) (x_ways : List Sg) (r : List (Sg × Int)), vs = [v_ways] ∧ Sub F H ∧ (eL eS).r F v_ways x_ways ∧ m_places_by_way x_ways = some r ∧ ∀ (v : V) (F' H' : Hp) , Gr [] F H F' H' → (eD (dyK keS) eI).r F' v r → Q v H'
theorem sc_places_by_way : FnScope ["ways", "place", "way"] ["ways"] (defScope s_places_by_way) := ⟨rfl, rfl, rfl, by decide +kernel, rfl, by decide +kernel, by decide +kernel⟩
theorem ok_places_by_way {f : Addr} {fd : FuncData} (F : FnP K "places_by_way" s_places_by_way f fd) (b_dict : mg "dict" = none) (b_enumerate : mg "enumerate" = none) : FnG P w K mg base CX0 1 f fd ["ways"] (sp_places_by_way K) := by
  refine FnDok F sc_places_by_way (fun vs H Q E h => ?_) (fun cdv A outer s H0 vs Q E gd hr h => ?_)
  · obtain ⟨_, _, _, _, rfl, _⟩ := h
    rfl
  · obtain ⟨F0, v_ways, x_ways, r0, rfl, hs0, r_ways, hm, hk⟩ := h
    have g0 : Gr [] F0 H0 F0 H0 := Gr.refl hs0
    refine ⟨_, PSs.nox (pss_one (ps_ret (pe_callTy (c_dictK (K := K) rfl (by rfl)) (by rfl) b_dict bo_dict (pa_cons (pe_lc (own := [("place", 1), ("way", 2)]) (g := gTup K 2 (gCons (gName 1) (gCons (gName 2) gNil))) (by rfl) sc_places_by_way.nd (pi_en (K := K) rfl (by rfl) b_enumerate (pa_cons (pv 0) pa_nil)) (blkOk_by (own := [("place", 1), ("way", 2)]) (N := ["ways", "place", "way"]) (sc := defScope s_places_by_way) (by decide +kernel)) (fun _ _ _ _ _ => (c_pgtup (K := K) rfl (by rfl) (pgs_cons (pg_name (i := 1) sc_places_by_way.nd rfl (Or.inl rfl)) (pgs_cons (pg_name (i := 2) sc_places_by_way.nd rfl (Or.inl rfl)) pgs_nil)))) (fun _ _ _ _ _ => pts_nil) (fun _ _ _ _ _ => (pe_tup (pa_cons (pv 2) (pa_cons (pv 1) pa_nil))))) pa_nil)))), ?_⟩
    refine n_ret ?_
    refine n_cb ?_
    refine n_cons ?_
    refine n_lc ?_
    refine n_en ?_
    refine n_cons ?_
    refine n_var rfl ?_
    refine n_nil ?_
    obtain ⟨p1, vs2, ep1, q3, al4⟩ := r_ways
    subst ep1
    refine v_en (k := (.l p1)) (vs := vs2) (SqL.of (g0.fh _ _ q3)) ?_
    obtain ⟨u7, hu7, hm⟩ := bnd hm
    obtain ⟨q8, hq8, hm⟩ := bnd hm
    intro D5 nD6
    have goD5 := g0.old nD6
    have gg44 := gr_newM (W := []) (o := .lst []) g0.fh nD6
    refine comp_s (sr_En (k := (.l p1)) al4) hq8 (need_ok hu7).1 (fun (acc7 : List (Sg × Int)) H7 => ∃ (F7 : Hp) (vs7 : List V), Gr [] F0 H0 F7 H7 ∧ Sub F0 F7 ∧ F7 D5 = none ∧ H7 D5 = some (.lst vs7) ∧ Al (eP2 eS eI) F7 vs7 acc7) ⟨_, [], g0.trans0 gg44, Sub.refl _, g0.fh.nn nD6, upd_same, .nil⟩ ?_ ?_ ?_
    · rintro _ _ ⟨F20, vs21, g22, sb23, _, _, _⟩
      exact (SqL.of (g22.fh _ _ (sb23 _ _ q3)))
    · rintro a9 r11 acc12 x13 H14 H15 ⟨F20, vs21, g22, sb23, fD24, hD25, al26⟩ hY16 hm hl19 N17 hN18
      have m27 : Mu [] H0 F20 H14 D5 (.lst vs21) := ⟨fD24, hD25, .inl goD5⟩
      refine wipe_to (σ' := [some (.ref p1), none, none]) rfl ?_
      refine v_unpE g22.fh hY16 fun v29 d28 r30 => ?_
      have g31 := g22.trans0 d28
      have m32 := m27.call0 d28
      obtain ⟨er30, lr30⟩ : v29 = V.str (S a9.2) ∧ a9.2.length ≤ sizeLine := r30
      subst er30
      refine n_gcons ?_
      refine n_name (setS set0) ?_
      refine n_gcons ?_
      refine n_name (setS (setS set0)) ?_
      refine n_gnil ?_
      refine ⟨rfl, ?_⟩
      refine n_yes ?_ rfl
      refine n_tup ?_
      refine n_cons ?_
      refine n_var rfl ?_
      refine n_cons ?_
      refine n_var rfl ?_
      refine n_nil ?_
      refine v_mk2 g31.fh (show eS.r F20 (.str (S a9.2)) a9.2 from ⟨rfl, lr30⟩) (show eI.r F20 (.int a9.1) a9.1 from rfl) fun v33 F34 H35 d36 r37 => ?_
      have g38 := g31.trans0 d36
      have m39 := m32.call0 d36
      obtain rfl := Option.some.inj hm
      refine ⟨_, m39.hp, by rw [al_len (Al.mono al26 d36.ff)]; exact hl19, hN18 _ ?_⟩
      exact ⟨_, _, m39.gr g38, (Sub.trans sb23 d36.ff), m39.fr, upd_same, pd_snoc (Al.mono al26 d36.ff) (show (eP2 eS eI).r F34 v33 (a9.2, a9.1) from r37)⟩
    rintro H45 ⟨F46, vs47, g48, sb49, fD50, hD51, al52⟩
    have m53 : Mu [] H0 F46 H45 D5 (.lst vs47) := ⟨fD50, hD51, .inl goD5⟩
    obtain ⟨F54, q56, sb58, g57, d55⟩ := freeze g48 m53 (m53.own.resolve_right (by simp))
    have al59 := (Al.mono al52 sb58)
    refine n_nil ?_
    refine v_dictKF keS g57.fh (SqL.of (g57.fh _ _ q56)) al59 fun p60 vs61 F63 H64 d65 q66 al62 => ?_
    have g67 := g57.trans0 d65
    obtain rfl := Option.some.inj hm
    exact hk _ _ _  g67   (⟨p60, vs61, rfl, q66, al62⟩ : (eD (dyK keS) eI).r F63 (.ref p60) (ofPairs q8))

def m_trie_by (x_ways : List Sg) : Option (List Int × Sg) :=
  (need (ssetB 3999 x_ways) ()).bind fun u1 =>
  (m_places_by_way (ssetL ltS x_ways)).bind fun r14 =>
  (need (szB (ssetL ltS x_ways).length) ()).bind fun u23 =>
  (compS (ssetL ltS x_ways) fun a25 =>
  some (some (getD2 r14 (cutL a25 none (some (-1 : Int))) (-1 : Int)))).bind fun q24 =>
  (need (szB (ssetL ltS x_ways).length) ()).bind fun u80 =>
  (compS (ssetL ltS x_ways) fun a82 =>
  (atI a82 (-1 : Int)).bind fun c102 =>
  some (some [c102])).bind fun q81 =>
  (joinM ([] : Sg) q81).bind fun t123 =>
  some (q24, t123)
def sp_trie_by (K : PySem.W.Frag) : Sp := fun vs H Q _ => ∃ (F : Hp) (v_ways : V) (x_ways : List Sg) (r : (List Int × Sg)), vs = [v_ways] ∧ Sub F H ∧ (eL eS).r F v_ways x_ways ∧ m_trie_by x_ways = some r ∧ ∀ (v : V) (F' H' : Hp) , Gr [] F H F' H' → (eP2 (eT eI) eS).r F' v r → Q v H'
theorem sc_trie_by : FnScope ["ways", "rows", "known", "ups", "way"] ["ways"] (defScope s_trie_by) := ⟨rfl, rfl, rfl, by decide +kernel, rfl, by decide +kernel, by decide +kernel⟩
theorem ok_trie_by {f : Addr} {fd : FuncData} (F : FnP K "trie_by" s_trie_by f fd) (H_places_by_way : HasG P w K mg base "places_by_way" ["ways"] 1 (sp_places_by_way K)) (b_sorted : mg "sorted" = none) (b_tuple : mg "tuple" = none) (b_set : mg "set" = none) : FnG P w K mg base CX0 2 f fd ["ways"] (sp_trie_by K) := by
  obtain ⟨f_places_by_way, fd_places_by_way, G0_places_by_way, g_places_by_way, k_places_by_way, b_places_by_way⟩ := H_places_by_way
  have G_places_by_way := G0_places_by_way.mono (show 1 ≤ 1 by decide)
  refine FnDok F sc_trie_by (fun vs H Q E h => ?_) (fun cdv A outer s H0 vs Q E gd hr h => ?_)
  · obtain ⟨_, _, _, _, rfl, _⟩ := h
    rfl
  · obtain ⟨F0, v_ways, x_ways, r0, rfl, hs0, r_ways, hm, hk⟩ := h
    have g0 : Gr [] F0 H0 F0 H0 := Gr.refl hs0
    refine ⟨_, PSs.nox (pss_cons (ps_set (i := 1) sc_trie_by.nd rfl (by first | exact Or.inl rfl | exact Or.inr rfl) (pe_ssetK (K := K) rfl hr (by rfl) b_sorted (by rfl) b_set (pa_cons (pv 0) pa_nil)))
(pss_cons (ps_set (i := 2) sc_trie_by.nd rfl (by first | exact Or.inl rfl | exact Or.inr rfl) (pe_callG G_places_by_way gd hr (by rfl) g_places_by_way k_places_by_way b_places_by_way pass0 (pa_cons (pv 1) pa_nil)))
(pss_cons (ps_set (i := 3) sc_trie_by.nd rfl (by first | exact Or.inl rfl | exact Or.inr rfl) (pe_callTy (c_tuple (K := K) rfl) (by rfl) b_tuple bo_tuple (pa_cons (pe_lc (own := [("way", 4)]) (g := gName 4) (by rfl) sc_trie_by.nd (c_pilist (K := K) rfl (pv 1)) (blkOk_by (own := [("way", 4)]) (N := ["ways", "rows", "known", "ups", "way"]) (sc := defScope s_trie_by) (by decide +kernel)) (fun _ _ _ _ _ => (pg_name (i := 4) sc_trie_by.nd rfl (Or.inl rfl))) (fun _ _ _ _ _ => pts_nil) (fun _ _ _ _ _ => (pe_dget2 (un1 hr) (pv 2) (pe_slice sl_str (pv 4) po_none (po_some (pe_un un_neg pe_int))) (pe_un un_neg pe_int) ⟨by rfl, by rfl, by rfl, by rfl⟩))) pa_nil)))
(pss_one (ps_ret (pe_tup (pa_cons (pv 3) (pa_cons (c_bm (K := K) rfl PySem.F.plainAttrs_str PySem.F.slot_str_join PySem.F.type_str_join (c_join (K := K) rfl) pe_str (pa_cons (pe_lc (own := [("way", 4)]) (g := gName 4) (by rfl) sc_trie_by.nd (c_pilist (K := K) rfl (pv 1)) (blkOk_by (own := [("way", 4)]) (N := ["ways", "rows", "known", "ups", "way"]) (sc := defScope s_trie_by) (by decide +kernel)) (fun _ _ _ _ _ => (pg_name (i := 4) sc_trie_by.nd rfl (Or.inl rfl))) (fun _ _ _ _ _ => pts_nil) (fun _ _ _ _ _ => (pe_ix ix_str (pv 4) (pe_un un_neg pe_int) (fun _ _ => rfl)))) pa_nil)) pa_nil)))))))), ?_⟩
    refine n_seq ?_
    refine n_asg ?_
    refine n_cb ?_
    refine n_cons ?_
    refine n_var rfl ?_
    refine n_nil ?_
    obtain ⟨u1, hu1, hm⟩ := bnd hm
    obtain ⟨p2, vs3, ep2, q4, al5⟩ := r_ways
    subst ep2
    refine v_ssetKF soS keS lo_S g0.fh (SqL.of (g0.fh _ _ q4)) al5 (need_ok hu1).1 fun p6 vs7 F9 H10 d11 q12 al8 => ?_
    have g13 := g0.trans0 d11
    refine n_name (setS set0) ?_
    refine n_seq ?_
    refine n_asg ?_
    refine n_call ?_
    refine n_cons ?_
    refine n_var rfl ?_
    refine n_nil ?_
    obtain ⟨r14, hr14, hm⟩ := bnd hm
    refine ⟨F9, (.ref p6), (ssetL ltS x_ways), r14, rfl, g13.fh, (⟨p6, vs7, rfl, q12, al8⟩ : (eL eS).r F9 (.ref p6) (ssetL ltS x_ways)), hr14, fun v18 F15 H16 d17 r19 => ?_⟩
    have g20 := g13.trans0 d17
    refine n_name (setS (setS set0)) ?_
    refine n_seq ?_
    refine n_asg ?_
    refine n_cb ?_
    refine n_cons ?_
    refine n_lc ?_
    refine n_itL ?_
    refine n_var rfl ?_
    refine v_itL (SqL.of (g20.fh _ _ (d17.ff _ _ q12))) ?_
    obtain ⟨u23, hu23, hm⟩ := bnd hm
    obtain ⟨q24, hq24, hm⟩ := bnd hm
    intro D21 nD22
    have goD21 := g20.old nD22
    have gg55 := gr_newM (W := []) (o := .lst []) g20.fh nD22
    refine comp_s (sr_L (Al.mono al8 d17.ff)) hq24 (need_ok hu23).1 (fun (acc7 : List Int) H7 => ∃ (F7 : Hp) (vs7 : List V), Gr [] F0 H0 F7 H7 ∧ Sub F15 F7 ∧ F7 D21 = none ∧ H7 D21 = some (.lst vs7) ∧ Al eI F7 vs7 acc7) ⟨_, [], g20.trans0 gg55, Sub.refl _, g20.fh.nn nD22, upd_same, .nil⟩ ?_ ?_ ?_
    · rintro _ _ ⟨F36, vs37, g38, sb39, _, _, _⟩
      exact (SqL.of (g38.fh _ _ ((Sub.trans d17.ff sb39) _ _ q12)))
    · rintro a25 r27 acc28 x29 H30 H31 ⟨F36, vs37, g38, sb39, fD40, hD41, al42⟩ hY32 hm hl35 N33 hN34
      have m43 : Mu [] H0 F36 H30 D21 (.lst vs37) := ⟨fD40, hD41, .inl goD21⟩
      refine wipe_to (σ' := [some (.ref p2), some (.ref p6), some v18, none, none]) rfl ?_
      refine v_nmY hY32 fun r44 => ?_
      obtain ⟨er44, lr44⟩ : x29 = V.str (S a25) ∧ a25.length ≤ sizeLine := r44
      subst er44
      refine n_name (setS (setS (setS (setS set0)))) ?_
      refine ⟨rfl, ?_⟩
      refine n_yes ?_ rfl
      refine n_dget2 ?_
      refine n_var rfl ?_
      obtain ⟨p45, vs46, ep45, q47, al48⟩ := (Rp.mono (eD (dyK keS) eI) sb39 r19)
      subst ep45
      refine ⟨_, rfl, (dyK keS).isd (g38.fh _ _ q47), ?_⟩
      refine n_sl ?_
      refine n_var rfl ?_
      refine n_nopart ?_
      refine n_part ?_
      refine n_un ?_
      refine n_c ?_
      refine v_neg ?_
      refine v_part ?_
      refine v_slS lr44 ?_
      refine n_un ?_
      refine n_c ?_
      refine v_neg ?_
      refine v_dget2 (Y := (dyK keS)) g38.fh (g38.fh _ _ q47) al48 (show eS.r F36 (.str (S (cutL a25 none (some (-1 : Int))))) (cutL a25 none (some (-1 : Int))) from ⟨rfl, (cut_le lr44)⟩) (show eI.r F36 (.int (-(1 : Int))) (-1 : Int) from rfl) fun v49 r50 => ?_
      have er50 : v49 = V.int (getD2 r14 (cutL a25 none (some (-1 : Int))) (-1 : Int)) := r50
      subst er50
      obtain rfl := Option.some.inj hm
      refine ⟨_, m43.hp, by rw [al_len al42]; exact hl35, hN34 _ ?_⟩
      exact ⟨_, _, m43.gr g38, sb39, m43.fr, upd_same, pd_snoc al42 (show eI.r F36 (.int (getD2 r14 (cutL a25 none (some (-1 : Int))) (-1 : Int))) (getD2 r14 (cutL a25 none (some (-1 : Int))) (-1 : Int)) from rfl)⟩
    rintro H56 ⟨F57, vs58, g59, sb60, fD61, hD62, al63⟩
    have m64 : Mu [] H0 F57 H56 D21 (.lst vs58) := ⟨fD61, hD62, .inl goD21⟩
    obtain ⟨F65, q67, sb69, g68, d66⟩ := freeze g59 m64 (m64.own.resolve_right (by simp))
    have al70 := (Al.mono al63 sb69)
    refine n_nil ?_
    refine v_tuple g68.fh (SqL.of (g68.fh _ _ q67)) al70 fun p71 F72 H73 d74 q75 al76 => ?_
    have g77 := g68.trans0 d74
    refine n_name (setS (setS (setS set0))) ?_
    refine n_ret ?_
    refine n_tup ?_
    refine n_cons ?_
    refine n_var rfl ?_
    refine n_cons ?_
    refine n_bm ?_
    refine n_str (s := []) (by decide +kernel) ?_
    refine ⟨tyS, ?_⟩
    refine n_cons ?_
    refine n_lc ?_
    refine n_itL ?_
    refine n_var rfl ?_
    refine v_itL (SqL.of (g77.fh _ _ ((Sub.trans d17.ff (Sub.trans sb60 (Sub.trans sb69 d74.ff))) _ _ q12))) ?_
    obtain ⟨u80, hu80, hm⟩ := bnd hm
    obtain ⟨q81, hq81, hm⟩ := bnd hm
    intro D78 nD79
    have goD78 := g77.old nD79
    have gg107 := gr_newM (W := []) (o := .lst []) g77.fh nD79
    refine comp_s (sr_L (Al.mono al8 (Sub.trans d17.ff (Sub.trans sb60 (Sub.trans sb69 d74.ff))))) hq81 (need_ok hu80).1 (fun (acc7 : List Sg) H7 => ∃ (F7 : Hp) (vs7 : List V), Gr [] F0 H0 F7 H7 ∧ Sub F72 F7 ∧ F7 D78 = none ∧ H7 D78 = some (.lst vs7) ∧ Al eS F7 vs7 acc7) ⟨_, [], g77.trans0 gg107, Sub.refl _, g77.fh.nn nD79, upd_same, .nil⟩ ?_ ?_ ?_
    · rintro _ _ ⟨F93, vs94, g95, sb96, _, _, _⟩
      exact (SqL.of (g95.fh _ _ ((Sub.trans d17.ff (Sub.trans sb60 (Sub.trans sb69 (Sub.trans d74.ff sb96)))) _ _ q12)))
    · rintro a82 r84 acc85 x86 H87 H88 ⟨F93, vs94, g95, sb96, fD97, hD98, al99⟩ hY89 hm hl92 N90 hN91
      have m100 : Mu [] H0 F93 H87 D78 (.lst vs94) := ⟨fD97, hD98, .inl goD78⟩
      refine wipe_to (σ' := [some (.ref p2), some (.ref p6), some v18, some (.ref p71), none]) rfl ?_
      refine v_nmY hY89 fun r101 => ?_
      obtain ⟨er101, lr101⟩ : x86 = V.str (S a82) ∧ a82.length ≤ sizeLine := r101
      subst er101
      refine n_name (setS (setS (setS (setS set0)))) ?_
      refine ⟨rfl, ?_⟩
      refine n_yes ?_ rfl
      refine n_op ?_
      refine n_var rfl ?_
      refine n_un ?_
      refine n_c ?_
      refine v_neg ?_
      obtain ⟨c102, hc102, hm⟩ := bnd hm
      refine v_ixS lr101 hc102 ?_
      obtain rfl := Option.some.inj hm
      refine ⟨_, m100.hp, by rw [al_len al99]; exact hl92, hN91 _ ?_⟩
      exact ⟨_, _, m100.gr g95, sb96, m100.fr, upd_same, pd_snoc al99 (show eS.r F93 (.str (S [c102])) [c102] from ⟨rfl, one_le⟩)⟩
    rintro H108 ⟨F109, vs110, g111, sb112, fD113, hD114, al115⟩
    have m116 : Mu [] H0 F109 H108 D78 (.lst vs110) := ⟨fD113, hD114, .inl goD78⟩
    obtain ⟨F117, q119, sb121, g120, d118⟩ := freeze g111 m116 (m116.own.resolve_right (by simp))
    have al122 := (Al.mono al115 sb121)
    refine n_nil ?_
    obtain ⟨t123, ht123, hm⟩ := bnd hm
    refine v_join (.inl (SqL.of (g120.fh _ _ q119))) al122 ht123 ?_
    refine n_nil ?_
    refine v_mk2 g120.fh (show (eT eI).r F117 (.ref p71) q24 from (Rp.mono (eT eI) (Sub.trans sb112 sb121) (⟨p71, vs58, rfl, q75, al76⟩ : (eT eI).r F72 (.ref p71) q24))) (show eS.r F117 (.str (S t123)) t123 from ⟨rfl, (joinM_le ht123)⟩) fun v124 F125 H126 d127 r128 => ?_
    have g129 := g120.trans0 d127
    obtain rfl := Option.some.inj hm
    exact hk _ _ _  g129   r128

def m_need_tries (x_one : (List Int × Sg)) (x_other : (List Int × Sg)) : Option Unit :=
  (m_is_trie x_one).bind fun r1 =>
  (if (!r1) = true then
  some true
  else
  (m_is_trie x_other).bind fun r11 =>
  (if (!r11) = true then
  some true
  else
  (atI x_one.2 (0 : Int)).bind fun c35 =>
  (atI x_other.2 (0 : Int)).bind fun c40 =>
  some (!decide ([c35] = [c40]))).bind fun c29 =>
  some c29).bind fun c9 =>
  if c9 = true then
  none
  else
  some ()
def sp_need_tries (K : PySem.W.Frag) : Sp := fun vs H Q _ => ∃ (F : Hp) (v_one : V) (x_one : (List Int × Sg)) (v_other : V) (x_other : (List Int × Sg)) (r : Unit), vs = [v_one, v_other] ∧ Sub F H ∧ (eP2 (eT eI) eS).r F v_one x_one ∧ (eP2 (eT eI) eS).r F v_other x_other ∧ m_need_tries x_one x_other = some r ∧ ∀ (v : V) (F' H' : Hp) , Gr [] F H F' H' → eN.r F' v r → Q v H'
theorem sc_need_tries : FnScope ["one", "other"] ["one", "other"] (defScope s_need_tries) := ⟨rfl, rfl, rfl, by decide +kernel, rfl, by decide +kernel, by decide +kernel⟩
theorem ok_need_tries {f : Addr} {fd : FuncData} (F : FnP K "need_tries" s_need_tries f fd) (H_is_trie : HasG P w K mg base "is_trie" ["thing"] 4 (sp_is_trie K)) : FnG P w K mg base CX0 5 f fd ["one", "other"] (sp_need_tries K) := by
  obtain ⟨f_is_trie, fd_is_trie, G0_is_trie, g_is_trie, k_is_trie, b_is_trie⟩ := H_is_trie
  have G_is_trie := G0_is_trie.mono (show 4 ≤ 4 by decide)
  refine FnDok F sc_need_tries (fun vs H Q E h => ?_) (fun cdv A outer s H0 vs Q E gd hr h => ?_)
  · obtain ⟨_, _, _, _, _, _, rfl, _⟩ := h
    rfl
  · obtain ⟨F0, v_one, x_one, v_other, x_other, r0, rfl, hs0, r_one, r_other, hm, hk⟩ := h
    have g0 : Gr [] F0 H0 F0 H0 := Gr.refl hs0
    refine ⟨_, PSs.nox (pss_one (ps_if (PW.pt (pw_or (pt_not (pt_val (pe_callG G_is_trie gd hr (by rfl) g_is_trie k_is_trie b_is_trie pass0 (pa_cons (pv 0) pa_nil)))) (pw_or (pt_not (pt_val (pe_callG G_is_trie gd hr (by rfl) g_is_trie k_is_trie b_is_trie pass0 (pa_cons (pv 1) pa_nil)))) (pw_or1 (pt_cmpR op_ne (pe_ix ix_str (pe_ix (c_ixT (K := K) rfl) (pv 0) pe_int (fun _ _ => rfl)) pe_int (fun _ _ => rfl)) (pe_ix ix_str (pe_ix (c_ixT (K := K) rfl) (pv 1) pe_int (fun _ _ => rfl)) pe_int (fun _ _ => rfl)) (nomark _)))))) (pss_one st_no) pss_nil)), ?_⟩
    refine n_ifs ?_
    refine n_or ?_
    refine n_not ?_
    refine n_tB ?_
    refine n_call ?_
    refine n_cons ?_
    refine n_var rfl ?_
    refine n_nil ?_
    obtain ⟨r1, hr1, hm⟩ := bnd hm
    refine ⟨F0, v_one, x_one, r1, rfl, g0.fh, r_one, hr1, fun v5 F2 H3 d4 r6 => ?_⟩
    have g7 := g0.trans0 d4
    have er6 : v5 = V.bl r1 := r6
    subst er6
    refine v_bl ?_
    obtain ⟨c9, hc9, hm⟩ := bnd hm
    refine br_orTM (c := c9) (fun H7 => ∃ F10, Gr [] F0 H0 F10 H7 ∧ Sub F2 F10) (fun hb8 Q7 k7 => ?_) (fun hb8 => ?_) ?_
    · have hm := ifF hb8 hc9
      refine n_or ?_
      refine n_not ?_
      refine n_tB ?_
      refine n_call ?_
      refine n_cons ?_
      refine n_var rfl ?_
      refine n_nil ?_
      obtain ⟨r11, hr11, hm⟩ := bnd hm
      refine ⟨F2, v_other, x_other, r11, rfl, g7.fh, (Rp.mono (eP2 (eT eI) eS) d4.ff r_other), hr11, fun v15 F12 H13 d14 r16 => ?_⟩
      have g17 := g7.trans0 d14
      have er16 : v15 = V.bl r11 := r16
      subst er16
      refine v_bl ?_
      obtain ⟨c29, hc29, hm⟩ := bnd hm
      refine br_orTM (c := c29) (fun H7 => ∃ F30, Gr [] F0 H0 F30 H7 ∧ Sub F12 F30) (fun hb18 Q7 k7 => ?_) (fun hb18 => ?_) ?_
      · have hm := ifF hb18 hc29
        refine n_test ?_
        refine n_op ?_
        refine n_op ?_
        refine n_op ?_
        refine n_var rfl ?_
        refine n_c ?_
        refine v_ix21 g17.fh (Rp.mono (eP2 (eT eI) eS) (Sub.trans d4.ff d14.ff) r_one) fun v33 r34 => ?_
        obtain ⟨er34, lr34⟩ : v33 = V.str (S x_one.2) ∧ x_one.2.length ≤ sizeLine := r34
        subst er34
        refine n_c ?_
        obtain ⟨c35, hc35, hm⟩ := bnd hm
        refine v_ixS lr34 hc35 ?_
        refine n_op ?_
        refine n_op ?_
        refine n_var rfl ?_
        refine n_c ?_
        refine v_ix21 g17.fh (Rp.mono (eP2 (eT eI) eS) (Sub.trans d4.ff d14.ff) r_other) fun v38 r39 => ?_
        obtain ⟨er39, lr39⟩ : v38 = V.str (S x_other.2) ∧ x_other.2.length ≤ sizeLine := r39
        subst er39
        refine n_c ?_
        obtain ⟨c40, hc40, hm⟩ := bnd hm
        refine v_ixS lr39 hc40 ?_
        refine v_neS ?_
        refine v_bl ?_
        obtain rfl := Option.some.inj hm
        exact k7 _ ⟨_, g17, Sub.refl _⟩
      · have hm := ifT hb18 hc29
        exact ⟨(Option.some.inj hm).symm, ⟨_, g17, Sub.refl _⟩⟩
      rintro H41 ⟨F44, g42, sb43⟩
      obtain rfl := Option.some.inj hm
      exact k7 _ ⟨_, g42, (Sub.trans d14.ff sb43)⟩
    · have hm := ifT hb8 hc9
      exact ⟨(Option.some.inj hm).symm, ⟨_, g7, Sub.refl _⟩⟩
    rintro H45 ⟨F48, g46, sb47⟩
    refine br (fun hb49 => ?_) (fun hb49 => ?_)
    · replace hm := ifT hb49 hm
      cases hm
    replace hm := ifF hb49 hm
    refine n_nextS ?_
    obtain rfl := Option.some.inj hm
    exact hk V.non _ _ g46 rfl

def m_laid_by (x_one : (List Int × Sg)) (x_other : (List Int × Sg)) (x_ways : List Sg) : Option ((List Int × Sg) × List (Option Int × Option Int)) :=
  (m_ways_down x_one).bind fun r1 =>
  (m_places_by_way r1).bind fun r22 =>
  (m_ways_down x_other).bind fun r29 =>
  (m_places_by_way r29).bind fun r50 =>
  (m_trie_by x_ways).bind fun r57 =>
  (m_ways_down r57).bind fun r85 =>
  (need (szB r85.length) ()).bind fun u108 =>
  (compS r85 fun a110 =>
  some (some ((lkp r22 a110), (lkp r50 a110)))).bind fun q109 =>
  some (r57, q109)
def sp_laid_by (K : PySem.W.Frag) : Sp := fun vs H Q _ => ∃ (F : Hp) (v_one : V) (x_one : (List Int × Sg)) (v_other : V) (x_other : (List Int × Sg)) (v_ways : V) (x_ways : List Sg) (r : ((List Int × Sg) × List (Option Int × Option Int))), vs = [v_one, v_other, v_ways] ∧ Sub F H ∧ (eP2 (eT eI) eS).r F v_one x_one ∧ (eP2 (eT eI) eS).r F v_other x_other ∧ (eL eS).r F v_ways x_ways ∧ m_laid_by x_one x_other x_ways = some r ∧ ∀ (v : V) (F' H' : Hp) , Gr [] F H F' H' → NewP (eP2 (eT eI) eS) (eP2 (eO eI) (eO eI)) H F' H' v r → Q v H'
theorem sc_laid_by : FnScope ["one", "other", "ways", "here", "there", "trie", "way"] ["one", "other", "ways"] (defScope s_laid_by) := ⟨rfl, rfl, rfl, by decide +kernel, rfl, by decide +kernel, by decide +kernel⟩
theorem ok_laid_by {f : Addr} {fd : FuncData} (F : FnP K "laid_by" s_laid_by f fd) (H_places_by_way : HasG P w K mg base "places_by_way" ["ways"] 1 (sp_places_by_way K)) (H_trie_by : HasG P w K mg base "trie_by" ["ways"] 2 (sp_trie_by K)) (H_ways_down : HasG P w K mg base "ways_down" ["tree"] 1 (sp_ways_down K)) : FnG P w K mg base CX0 3 f fd ["one", "other", "ways"] (sp_laid_by K) := by
  obtain ⟨f_places_by_way, fd_places_by_way, G0_places_by_way, g_places_by_way, k_places_by_way, b_places_by_way⟩ := H_places_by_way
  have G_places_by_way := G0_places_by_way.mono (show 1 ≤ 2 by decide)
  obtain ⟨f_trie_by, fd_trie_by, G0_trie_by, g_trie_by, k_trie_by, b_trie_by⟩ := H_trie_by
  have G_trie_by := G0_trie_by.mono (show 2 ≤ 2 by decide)
  obtain ⟨f_ways_down, fd_ways_down, G0_ways_down, g_ways_down, k_ways_down, b_ways_down⟩ := H_ways_down
  have G_ways_down := G0_ways_down.mono (show 1 ≤ 2 by decide)
  refine FnDok F sc_laid_by (fun vs H Q E h => ?_) (fun cdv A outer s H0 vs Q E gd hr h => ?_)
  · obtain ⟨_, _, _, _, _, _, _, _, rfl, _⟩ := h
    rfl
  · obtain ⟨F0, v_one, x_one, v_other, x_other, v_ways, x_ways, r0, rfl, hs0, r_one, r_other, r_ways, hm, hk⟩ := h
    have g0 : Gr [] F0 H0 F0 H0 := Gr.refl hs0
    refine ⟨_, PSs.nox (pss_cons (ps_set (i := 3) sc_laid_by.nd rfl (by first | exact Or.inl rfl | exact Or.inr rfl) (pe_callG G_places_by_way gd hr (by rfl) g_places_by_way k_places_by_way b_places_by_way pass0 (pa_cons (pe_callG G_ways_down gd hr (by rfl) g_ways_down k_ways_down b_ways_down pass0 (pa_cons (pv 0) pa_nil)) pa_nil)))
(pss_cons (ps_set (i := 4) sc_laid_by.nd rfl (by first | exact Or.inl rfl | exact Or.inr rfl) (pe_callG G_places_by_way gd hr (by rfl) g_places_by_way k_places_by_way b_places_by_way pass0 (pa_cons (pe_callG G_ways_down gd hr (by rfl) g_ways_down k_ways_down b_ways_down pass0 (pa_cons (pv 1) pa_nil)) pa_nil)))
(pss_cons (ps_set (i := 5) sc_laid_by.nd rfl (by first | exact Or.inl rfl | exact Or.inr rfl) (pe_callG G_trie_by gd hr (by rfl) g_trie_by k_trie_by b_trie_by pass0 (pa_cons (pv 2) pa_nil)))
(pss_one (ps_ret (pe_tup (pa_cons (pv 5) (pa_cons (pe_lc (own := [("way", 6)]) (g := gName 6) (by rfl) sc_laid_by.nd (c_pilist (K := K) rfl (pe_callG G_ways_down gd hr (by rfl) g_ways_down k_ways_down b_ways_down pass0 (pa_cons (pv 5) pa_nil))) (blkOk_by (own := [("way", 6)]) (N := ["one", "other", "ways", "here", "there", "trie", "way"]) (sc := defScope s_laid_by) (by decide +kernel)) (fun _ _ _ _ _ => (pg_name (i := 6) sc_laid_by.nd rfl (Or.inl rfl))) (fun _ _ _ _ _ => pts_nil) (fun _ _ _ _ _ => (pe_tup (pa_cons (pe_dget2 (un1 hr) (pv 3) (pv 6) pe_non ⟨by rfl, by rfl, by rfl, by rfl⟩) (pa_cons (pe_dget2 (un1 hr) (pv 4) (pv 6) pe_non ⟨by rfl, by rfl, by rfl, by rfl⟩) pa_nil))))) pa_nil)))))))), ?_⟩
    refine n_seq ?_
    refine n_asg ?_
    refine n_call ?_
    refine n_cons ?_
    refine n_call ?_
    refine n_cons ?_
    refine n_var rfl ?_
    refine n_nil ?_
    obtain ⟨r1, hr1, hm⟩ := bnd hm
    refine ⟨F0, v_one, x_one, r1, rfl, g0.fh, r_one, hr1, fun v11 F2 H3 d4 r12 => ?_⟩
    obtain ⟨p5, vs6, ev11, np7, fp8, hp9, al10⟩ := r12
    subst ev11
    have go13 := g0.old np7
    have g14 := g0.trans0 d4
    have m15 : Mu [] H0 F2 H3 p5 (.lst vs6) := ⟨fp8, hp9, .inl go13⟩
    obtain ⟨F16, q18, sb20, g19, d17⟩ := freeze g14 m15 (m15.own.resolve_right (by simp))
    have al21 := (Al.mono al10 sb20)
    refine n_nil ?_
    obtain ⟨r22, hr22, hm⟩ := bnd hm
    refine ⟨F16, (.ref p5), r1, r22, rfl, g19.fh, (⟨p5, vs6, rfl, q18, al21⟩ : (eL eS).r F16 (.ref p5) r1), hr22, fun v26 F23 H24 d25 r27 => ?_⟩
    have g28 := g19.trans0 d25
    refine n_name (setS (setS (setS set0))) ?_
    refine n_seq ?_
    refine n_asg ?_
    refine n_call ?_
    refine n_cons ?_
    refine n_call ?_
    refine n_cons ?_
    refine n_var rfl ?_
    refine n_nil ?_
    obtain ⟨r29, hr29, hm⟩ := bnd hm
    refine ⟨F23, v_other, x_other, r29, rfl, g28.fh, (Rp.mono (eP2 (eT eI) eS) (Sub.trans d4.ff (Sub.trans sb20 d25.ff)) r_other), hr29, fun v39 F30 H31 d32 r40 => ?_⟩
    obtain ⟨p33, vs34, ev39, np35, fp36, hp37, al38⟩ := r40
    subst ev39
    have go41 := g28.old np35
    have g42 := g28.trans0 d32
    have m43 : Mu [] H0 F30 H31 p33 (.lst vs34) := ⟨fp36, hp37, .inl go41⟩
    obtain ⟨F44, q46, sb48, g47, d45⟩ := freeze g42 m43 (m43.own.resolve_right (by simp))
    have al49 := (Al.mono al38 sb48)
    refine n_nil ?_
    obtain ⟨r50, hr50, hm⟩ := bnd hm
    refine ⟨F44, (.ref p33), r29, r50, rfl, g47.fh, (⟨p33, vs34, rfl, q46, al49⟩ : (eL eS).r F44 (.ref p33) r29), hr50, fun v54 F51 H52 d53 r55 => ?_⟩
    have g56 := g47.trans0 d53
    refine n_name (setS (setS (setS (setS set0)))) ?_
    refine n_seq ?_
    refine n_asg ?_
    refine n_call ?_
    refine n_cons ?_
    refine n_var rfl ?_
    refine n_nil ?_
    obtain ⟨r57, hr57, hm⟩ := bnd hm
    refine ⟨F51, v_ways, x_ways, r57, rfl, g56.fh, (Rp.mono (eL eS) (Sub.trans d4.ff (Sub.trans sb20 (Sub.trans d25.ff (Sub.trans d32.ff (Sub.trans sb48 d53.ff))))) r_ways), hr57, fun v61 F58 H59 d60 r62 => ?_⟩
    have g63 := g56.trans0 d60
    refine n_name (setS (setS (setS (setS (setS set0))))) ?_
    refine n_ret ?_
    refine n_tup ?_
    refine n_cons ?_
    refine n_var rfl ?_
    refine n_cons ?_
    refine n_lc ?_
    refine n_itL ?_
    refine n_call ?_
    refine n_cons ?_
    refine n_var rfl ?_
    refine n_nil ?_
    obtain ⟨r85, hr85, hm⟩ := bnd hm
    refine ⟨F58, v61, r57, r85, rfl, g63.fh, r62, hr85, fun v95 F86 H87 d88 r96 => ?_⟩
    obtain ⟨p89, vs90, ev95, np91, fp92, hp93, al94⟩ := r96
    subst ev95
    have go97 := g63.old np91
    have g98 := g63.trans0 d88
    have m99 : Mu [] H0 F86 H87 p89 (.lst vs90) := ⟨fp92, hp93, .inl go97⟩
    obtain ⟨F100, q102, sb104, g103, d101⟩ := freeze g98 m99 (m99.own.resolve_right (by simp))
    have al105 := (Al.mono al94 sb104)
    refine v_itL (SqL.of (g103.fh _ _ q102)) ?_
    obtain ⟨u108, hu108, hm⟩ := bnd hm
    obtain ⟨q109, hq109, hm⟩ := bnd hm
    intro D106 nD107
    have goD106 := g103.old nD107
    have gg153 := gr_newM (W := []) (o := .lst []) g103.fh nD107
    refine comp_s (sr_L al105) hq109 (need_ok hu108).1 (fun (acc7 : List (Option Int × Option Int)) H7 => ∃ (F7 : Hp) (vs7 : List V), Gr [] F0 H0 F7 H7 ∧ Sub F100 F7 ∧ F7 D106 = none ∧ H7 D106 = some (.lst vs7) ∧ Al (eP2 (eO eI) (eO eI)) F7 vs7 acc7) ⟨_, [], g103.trans0 gg153, Sub.refl _, g103.fh.nn nD107, upd_same, .nil⟩ ?_ ?_ ?_
    · rintro _ _ ⟨F121, vs122, g123, sb124, _, _, _⟩
      exact (SqL.of (g123.fh _ _ (sb124 _ _ q102)))
    · rintro a110 r112 acc113 x114 H115 H116 ⟨F121, vs122, g123, sb124, fD125, hD126, al127⟩ hY117 hm hl120 N118 hN119
      have m128 : Mu [] H0 F121 H115 D106 (.lst vs122) := ⟨fD125, hD126, .inl goD106⟩
      refine wipe_to (σ' := [some v_one, some v_other, some v_ways, some v26, some v54, some v61, none]) rfl ?_
      refine v_nmY hY117 fun r129 => ?_
      obtain ⟨er129, lr129⟩ : x114 = V.str (S a110) ∧ a110.length ≤ sizeLine := r129
      subst er129
      refine n_name (setS (setS (setS (setS (setS (setS set0)))))) ?_
      refine ⟨rfl, ?_⟩
      refine n_yes ?_ rfl
      refine n_tup ?_
      refine n_cons ?_
      refine n_dget2 ?_
      refine n_var rfl ?_
      obtain ⟨p130, vs131, ep130, q132, al133⟩ := (Rp.mono (eD (dyK keS) eI) (Sub.trans d32.ff (Sub.trans sb48 (Sub.trans d53.ff (Sub.trans d60.ff (Sub.trans d88.ff (Sub.trans sb104 sb124)))))) r27)
      subst ep130
      refine ⟨_, rfl, (dyK keS).isd (g123.fh _ _ q132), ?_⟩
      refine n_var rfl ?_
      refine n_c ?_
      refine v_dget2N (Y := (dyK keS)) g123.fh (g123.fh _ _ q132) al133 (show eS.r F121 (.str (S a110)) a110 from ⟨rfl, lr129⟩) fun v134 r135 => ?_
      refine n_cons ?_
      refine n_dget2 ?_
      refine n_var rfl ?_
      obtain ⟨p136, vs137, ep136, q138, al139⟩ := (Rp.mono (eD (dyK keS) eI) (Sub.trans d60.ff (Sub.trans d88.ff (Sub.trans sb104 sb124))) r55)
      subst ep136
      refine ⟨_, rfl, (dyK keS).isd (g123.fh _ _ q138), ?_⟩
      refine n_var rfl ?_
      refine n_c ?_
      refine v_dget2N (Y := (dyK keS)) g123.fh (g123.fh _ _ q138) al139 (show eS.r F121 (.str (S a110)) a110 from ⟨rfl, lr129⟩) fun v140 r141 => ?_
      refine n_nil ?_
      refine v_mk2 g123.fh (show (eO eI).r F121 v134 (lkp r22 a110) from r135) (show (eO eI).r F121 v140 (lkp r50 a110) from r141) fun v142 F143 H144 d145 r146 => ?_
      have g147 := g123.trans0 d145
      have m148 := m128.call0 d145
      obtain rfl := Option.some.inj hm
      refine ⟨_, m148.hp, by rw [al_len (Al.mono al127 d145.ff)]; exact hl120, hN119 _ ?_⟩
      exact ⟨_, _, m148.gr g147, (Sub.trans sb124 d145.ff), m148.fr, upd_same, pd_snoc (Al.mono al127 d145.ff) (show (eP2 (eO eI) (eO eI)).r F143 v142 ((lkp r22 a110), (lkp r50 a110)) from r146)⟩
    rintro H154 ⟨F155, vs156, g157, sb158, fD159, hD160, al161⟩
    have m162 : Mu [] H0 F155 H154 D106 (.lst vs156) := ⟨fD159, hD160, .inl goD106⟩
    refine n_nil ?_
    refine v_mkTy g157.fh rfl fun p163 F164 H165 d166 q167 => ?_
    have g168 := g157.trans0 d166
    have m169 := m162.call0 d166
    obtain rfl := Option.some.inj hm
    exact hk _ _ _  g168   ⟨p163, D106, v61, vs156, rfl, q167, (show (eP2 (eT eI) eS).r F164 v61 r57 from (Rp.mono (eP2 (eT eI) eS) (Sub.trans d88.ff (Sub.trans sb104 (Sub.trans sb158 d166.ff))) r62)), (m169.own.resolve_right (by simp)), m169.fr, m169.hp, (Al.mono al161 d166.ff)⟩

def m_laid_under (x_one : (List Int × Sg)) (x_other : (List Int × Sg)) : Option ((List Int × Sg) × List (Option Int × Option Int)) :=
  (m_need_tries x_one x_other).bind fun r1 =>
  (m_ways_down x_other).bind fun r8 =>
  (m_ways_down x_one).bind fun r50 =>
  (need (szB r50.length) ()).bind fun u73 =>
  (compS r50 fun a75 =>
  (need (eqB (dS.d a75) (.list (r8.map dS.d))) ()).bind fun u95 =>
  if (decide (a75 ∈ r8)) = true then
  some (some a75)
  else
  some none).bind fun q74 =>
  (m_laid_by x_one x_other q74).bind fun r117 =>
  some r117
def sp_laid_under (K : PySem.W.Frag) : Sp := fun vs H Q _ => ∃ (F : Hp) (v_one : V) (x_one : (List Int × Sg)) (v_other : V) (x_other : (List Int × Sg)) (r : ((List Int × Sg) × List (Option Int × Option Int))), vs = [v_one, v_other] ∧ Sub F H ∧ (eP2 (eT eI) eS).r F v_one x_one ∧ (eP2 (eT eI) eS).r F v_other x_other ∧ m_laid_under x_one x_other = some r ∧ ∀ (v : V) (F' H' : Hp) , Gr [] F H F' H' → NewP (eP2 (eT eI) eS) (eP2 (eO eI) (eO eI)) H F' H' v r → Q v H'
theorem sc_laid_under : FnScope ["one", "other", "there", "way"] ["one", "other"] (defScope s_laid_under) := ⟨rfl, rfl, rfl, by decide +kernel, rfl, by decide +kernel, by decide +kernel⟩
theorem ok_laid_under {f : Addr} {fd : FuncData} (F : FnP K "laid_under" s_laid_under f fd) (H_need_tries : HasG P w K mg base "need_tries" ["one", "other"] 5 (sp_need_tries K)) (H_ways_down : HasG P w K mg base "ways_down" ["tree"] 1 (sp_ways_down K)) (H_laid_by : HasG P w K mg base "laid_by" ["one", "other", "ways"] 3 (sp_laid_by K)) : FnG P w K mg base CX0 6 f fd ["one", "other"] (sp_laid_under K) := by
  obtain ⟨f_need_tries, fd_need_tries, G0_need_tries, g_need_tries, k_need_tries, b_need_tries⟩ := H_need_tries
  have G_need_tries := G0_need_tries.mono (show 5 ≤ 5 by decide)
  obtain ⟨f_ways_down, fd_ways_down, G0_ways_down, g_ways_down, k_ways_down, b_ways_down⟩ := H_ways_down
  have G_ways_down := G0_ways_down.mono (show 1 ≤ 5 by decide)
  obtain ⟨f_laid_by, fd_laid_by, G0_laid_by, g_laid_by, k_laid_by, b_laid_by⟩ := H_laid_by
  have G_laid_by := G0_laid_by.mono (show 3 ≤ 5 by decide)
  refine FnDok F sc_laid_under (fun vs H Q E h => ?_) (fun cdv A outer s H0 vs Q E gd hr h => ?_)
  · obtain ⟨_, _, _, _, _, _, rfl, _⟩ := h
    rfl
  · obtain ⟨F0, v_one, x_one, v_other, x_other, r0, rfl, hs0, r_one, r_other, hm, hk⟩ := h
    have g0 : Gr [] F0 H0 F0 H0 := Gr.refl hs0
    refine ⟨_, PSs.nox (pss_cons (ps_expr (pe_callG G_need_tries gd hr (by rfl) g_need_tries k_need_tries b_need_tries pass0 (pa_cons (pv 0) (pa_cons (pv 1) pa_nil))))
(pss_cons (ps_set (i := 2) sc_laid_under.nd rfl (by first | exact Or.inl rfl | exact Or.inr rfl) (pe_callG G_ways_down gd hr (by rfl) g_ways_down k_ways_down b_ways_down pass0 (pa_cons (pv 1) pa_nil)))
(pss_one (ps_ret (pe_callG G_laid_by gd hr (by rfl) g_laid_by k_laid_by b_laid_by pass0 (pa_cons (pv 0) (pa_cons (pv 1) (pa_cons (pe_lc (own := [("way", 3)]) (g := gName 3) (by rfl) sc_laid_under.nd (c_pilist (K := K) rfl (pe_callG G_ways_down gd hr (by rfl) g_ways_down k_ways_down b_ways_down pass0 (pa_cons (pv 0) pa_nil))) (blkOk_by (own := [("way", 3)]) (N := ["one", "other", "there", "way"]) (sc := defScope s_laid_under) (by decide +kernel)) (fun _ _ _ _ _ => (pg_name (i := 3) sc_laid_under.nd rfl (Or.inl rfl))) (fun _ _ _ _ _ => pts_one (pt_cmpR (c_inD (K := K) rfl hr) (pv 3) (pv 2) (by with_unfolding_all rfl))) (fun _ _ _ _ _ => (pv 3))) pa_nil)))))))), ?_⟩
    refine n_seq ?_
    refine n_drop ?_
    refine n_call ?_
    refine n_cons ?_
    refine n_var rfl ?_
    refine n_cons ?_
    refine n_var rfl ?_
    refine n_nil ?_
    obtain ⟨r1, hr1, hm⟩ := bnd hm
    refine ⟨F0, v_one, x_one, v_other, x_other, r1, rfl, g0.fh, r_one, r_other, hr1, fun v5 F2 H3 d4 r6 => ?_⟩
    have g7 := g0.trans0 d4
    have er6 : v5 = V.non := r6
    subst er6
    refine n_seq ?_
    refine n_asg ?_
    refine n_call ?_
    refine n_cons ?_
    refine n_var rfl ?_
    refine n_nil ?_
    obtain ⟨r8, hr8, hm⟩ := bnd hm
    refine ⟨F2, v_other, x_other, r8, rfl, g7.fh, (Rp.mono (eP2 (eT eI) eS) d4.ff r_other), hr8, fun v18 F9 H10 d11 r19 => ?_⟩
    obtain ⟨p12, vs13, ev18, np14, fp15, hp16, al17⟩ := r19
    subst ev18
    have go20 := g7.old np14
    have g21 := g7.trans0 d11
    have m22 : Mu [] H0 F9 H10 p12 (.lst vs13) := ⟨fp15, hp16, .inl go20⟩
    obtain ⟨F23, q25, sb27, g26, d24⟩ := freeze g21 m22 (m22.own.resolve_right (by simp))
    have al28 := (Al.mono al17 sb27)
    refine n_name (setS (setS set0)) ?_
    refine n_ret ?_
    refine n_call ?_
    refine n_cons ?_
    refine n_var rfl ?_
    refine n_cons ?_
    refine n_var rfl ?_
    refine n_cons ?_
    refine n_lc ?_
    refine n_itL ?_
    refine n_call ?_
    refine n_cons ?_
    refine n_var rfl ?_
    refine n_nil ?_
    obtain ⟨r50, hr50, hm⟩ := bnd hm
    refine ⟨F23, v_one, x_one, r50, rfl, g26.fh, (Rp.mono (eP2 (eT eI) eS) (Sub.trans d4.ff (Sub.trans d11.ff sb27)) r_one), hr50, fun v60 F51 H52 d53 r61 => ?_⟩
    obtain ⟨p54, vs55, ev60, np56, fp57, hp58, al59⟩ := r61
    subst ev60
    have go62 := g26.old np56
    have g63 := g26.trans0 d53
    have m64 : Mu [] H0 F51 H52 p54 (.lst vs55) := ⟨fp57, hp58, .inl go62⟩
    obtain ⟨F65, q67, sb69, g68, d66⟩ := freeze g63 m64 (m64.own.resolve_right (by simp))
    have al70 := (Al.mono al59 sb69)
    refine v_itL (SqL.of (g68.fh _ _ q67)) ?_
    obtain ⟨u73, hu73, hm⟩ := bnd hm
    obtain ⟨q74, hq74, hm⟩ := bnd hm
    intro D71 nD72
    have goD71 := g68.old nD72
    have gg101 := gr_newM (W := []) (o := .lst []) g68.fh nD72
    refine comp_s (sr_L al70) hq74 (need_ok hu73).1 (fun (acc7 : List Sg) H7 => ∃ (F7 : Hp) (vs7 : List V), Gr [] F0 H0 F7 H7 ∧ Sub F65 F7 ∧ F7 D71 = none ∧ H7 D71 = some (.lst vs7) ∧ Al eS F7 vs7 acc7) ⟨_, [], g68.trans0 gg101, Sub.refl _, g68.fh.nn nD72, upd_same, .nil⟩ ?_ ?_ ?_
    · rintro _ _ ⟨F86, vs87, g88, sb89, _, _, _⟩
      exact (SqL.of (g88.fh _ _ (sb89 _ _ q67)))
    · rintro a75 r77 acc78 x79 H80 H81 ⟨F86, vs87, g88, sb89, fD90, hD91, al92⟩ hY82 hm hl85 N83 hN84
      have m93 : Mu [] H0 F86 H80 D71 (.lst vs87) := ⟨fD90, hD91, .inl goD71⟩
      refine wipe_to (σ' := [some v_one, some v_other, some (.ref p12), none]) rfl ?_
      refine v_nmY hY82 fun r94 => ?_
      obtain ⟨er94, lr94⟩ : x79 = V.str (S a75) ∧ a75.length ≤ sizeLine := r94
      subst er94
      refine n_name (setS (setS (setS set0))) ?_
      refine ⟨rfl, ?_⟩
      refine n_test ?_
      refine n_op ?_
      refine n_var rfl ?_
      refine n_var rfl ?_
      obtain ⟨u95, hu95, hm⟩ := bnd hm
      refine v_inDi dS (dS.ok g88.fh (show eS.r F86 (.str (S a75)) a75 from ⟨rfl, lr94⟩)) ((dL dS).ok g88.fh (show (eL eS).r F86 (.ref p12) r8 from (Rp.mono (eL eS) (Sub.trans d53.ff (Sub.trans sb69 sb89)) (⟨p12, vs13, rfl, q25, al28⟩ : (eL eS).r F23 (.ref p12) r8)))) (need_ok hu95).1 ?_
      refine v_bl ?_
      refine br (fun hb96 => ?_) (fun hb96 => ?_)
      · replace hm := ifT hb96 hm
        refine n_var rfl ?_
        obtain rfl := Option.some.inj hm
        refine ⟨_, m93.hp, by rw [al_len al92]; exact hl85, hN84 _ ?_⟩
        exact ⟨_, _, m93.gr g88, sb89, m93.fr, upd_same, pd_snoc al92 (show eS.r F86 (.str (S a75)) a75 from ⟨rfl, lr94⟩)⟩
      · replace hm := ifF hb96 hm
        obtain rfl := Option.some.inj hm
        refine hN84 _ ?_
        simp only [Option.toList, List.append_nil]
        exact ⟨_, _, g88, sb89, m93.fr, m93.hp, al92⟩
    rintro H102 ⟨F103, vs104, g105, sb106, fD107, hD108, al109⟩
    have m110 : Mu [] H0 F103 H102 D71 (.lst vs104) := ⟨fD107, hD108, .inl goD71⟩
    obtain ⟨F111, q113, sb115, g114, d112⟩ := freeze g105 m110 (m110.own.resolve_right (by simp))
    have al116 := (Al.mono al109 sb115)
    refine n_nil ?_
    obtain ⟨r117, hr117, hm⟩ := bnd hm
    refine ⟨F111, v_one, x_one, v_other, x_other, (.ref D71), q74, r117, rfl, g114.fh, (Rp.mono (eP2 (eT eI) eS) (Sub.trans d4.ff (Sub.trans d11.ff (Sub.trans sb27 (Sub.trans d53.ff (Sub.trans sb69 (Sub.trans sb106 sb115)))))) r_one), (Rp.mono (eP2 (eT eI) eS) (Sub.trans d4.ff (Sub.trans d11.ff (Sub.trans sb27 (Sub.trans d53.ff (Sub.trans sb69 (Sub.trans sb106 sb115)))))) r_other), (⟨D71, vs104, rfl, q113, al116⟩ : (eL eS).r F111 (.ref D71) q74), hr117, fun v121 F118 H119 d120 r122 => ?_⟩
    obtain ⟨p123, p124, v125, vs126, ev121, q127, r128, np129, fp130, hp131, al132⟩ := r122
    subst ev121
    have go133 := g114.old np129
    have g134 := g114.trans0 d120
    have m135 : Mu [] H0 F118 H119 p124 (.lst vs126) := ⟨fp130, hp131, .inl go133⟩
    obtain rfl := Option.some.inj hm
    exact hk _ _ _  g134   ⟨p123, p124, v125, vs126, rfl, q127, (show (eP2 (eT eI) eS).r F118 v125 r117.1 from r128), (m135.own.resolve_right (by simp)), m135.fr, m135.hp, al132⟩

def m__law_cell_at (x_script : List Int) (x_k : Int) : Option Int :=
  if (decide (x_k < (x_script.length : Int))) = true then
  (atI x_script x_k).bind fun a2 =>
  some a2
  else
  some (0 : Int)
def sp__law_cell_at (K : PySem.W.Frag) : Sp := fun vs H Q _ => ∃ (F : Hp) (v_script : V) (x_script : List Int) (v_k : V) (x_k : Int) (r : Int), vs = [v_script, v_k] ∧ Sub F H ∧ (eQ K).r F v_script x_script ∧ eI.r F v_k x_k ∧ m__law_cell_at x_script x_k = some r ∧ ∀ (v : V) (F' H' : Hp) , Gr [] F H F' H' → eI.r F' v r → Q v H'
theorem sc__law_cell_at : FnScope ["script", "k"] ["script", "k"] (defScope s__law_cell_at) := ⟨rfl, rfl, rfl, by decide +kernel, rfl, by decide +kernel, by decide +kernel⟩
theorem ok__law_cell_at {f : Addr} {fd : FuncData} (F : FnP K "_law_cell_at" s__law_cell_at f fd) (b_len : mg "len" = none) : FnG P w K mg base CX0 1 f fd ["script", "k"] (sp__law_cell_at K) := by
  refine FnDok F sc__law_cell_at (fun vs H Q E h => ?_) (fun cdv A outer s H0 vs Q E gd hr h => ?_)
  · obtain ⟨_, _, _, _, _, _, rfl, _⟩ := h
    rfl
  · obtain ⟨F0, v_script, x_script, v_k, x_k, r0, rfl, hs0, r_script, r_k, hm, hk⟩ := h
    have g0 : Gr [] F0 H0 F0 H0 := Gr.refl hs0
    have er_k : v_k = V.int x_k := r_k
    subst er_k
    refine ⟨_, PSs.nox (pss_cons (ps_if (pt_cmpR op_lt (pv 1) (pe_callB (c_len (K := K) rfl) (by rfl) b_len bo_len (pa_cons (pv 0) pa_nil)) (nomark _)) (pss_one (ps_ret (pe_ix (c_ixL (K := K) rfl) (pv 0) (pv 1) (fun _ _ => rfl)))) pss_nil)
(pss_one (ps_ret pe_int))), ?_⟩
    refine n_seq ?_
    refine n_ifs ?_
    refine n_test ?_
    refine n_op ?_
    refine n_var rfl ?_
    refine n_cb ?_
    refine n_cons ?_
    refine n_var rfl ?_
    refine n_nil ?_
    refine v_lenQ g0.fh r_script ?_
    refine v_i2 ?_
    refine v_bl ?_
    refine br (fun hb1 => ?_) (fun hb1 => ?_)
    · replace hm := ifT hb1 hm
      refine n_ret ?_
      refine n_op ?_
      refine n_var rfl ?_
      refine n_var rfl ?_
      obtain ⟨a2, ha2, hm⟩ := bnd hm
      refine v_ixQ g0.fh r_script ha2 ?_
      obtain rfl := Option.some.inj hm
      exact hk _ _ _  g0   rfl
    replace hm := ifF hb1 hm
    refine n_nextS ?_
    refine n_ret ?_
    refine n_c ?_
    obtain rfl := Option.some.inj hm
    exact hk _ _ _  g0   rfl

def m__law_pool (x_script : List Int) (x_at : Int) : Option (List Int) :=
  (m__law_cell_at x_script x_at).bind fun r1 =>
  (uptoM 0 (99 : Int)).bind fun l8 =>
  (foldO l8 (0 : Int) fun s11 a10 =>
  (mulM ((89 : Int) * a10) a10).bind fun a24 =>
  (mulM ((((((r1 % (998244353 : Int)) + a24) + ((7 : Int) * x_at)) + (1 : Int)) * (48271 : Int)) % (2147483647 : Int)) ((((((r1 % (998244353 : Int)) + a24) + ((7 : Int) * x_at)) + (1 : Int)) * (48271 : Int)) % (2147483647 : Int))).bind fun a25 =>
  some ((s11 * (1000003 : Int)) + ((((((a25 % (1000000007 : Int)) + ((7919 : Int) * a10)) * (69621 : Int)) % (2147483587 : Int)) / (8 : Int)) % (1000003 : Int)))).bind fun s9 =>
  (mulM r1 (b2 (decide ((1000000000000000000 : Int) ≤ r1)))).bind fun a32 =>
  some [a32, s9]
def sp__law_pool (K : PySem.W.Frag) : Sp := fun vs H Q _ => ∃ (F : Hp) (v_script : V) (x_script : List Int) (v_at : V) (x_at : Int) (r : List Int), vs = [v_script, v_at] ∧ Sub F H ∧ (eQ K).r F v_script x_script ∧ eI.r F v_at x_at ∧ m__law_pool x_script x_at = some r ∧ ∀ (v : V) (F' H' : Hp) , Gr [] F H F' H' → New eI H F' H' v r → Q v H'
theorem sc__law_pool : FnScope ["script", "at", "cell", "big", "turn", "one"] ["script", "at"] (defScope s__law_pool) := ⟨rfl, rfl, rfl, by decide +kernel, rfl, by decide +kernel, by decide +kernel⟩
theorem ok__law_pool {f : Addr} {fd : FuncData} (F : FnP K "_law_pool" s__law_pool f fd) (H__law_cell_at : HasG P w K mg base "_law_cell_at" ["script", "k"] 1 (sp__law_cell_at K)) (b_range : mg "range" = none) (b_int : mg "int" = none) : FnG P w K mg base CX0 2 f fd ["script", "at"] (sp__law_pool K) := by
  obtain ⟨f__law_cell_at, fd__law_cell_at, G0__law_cell_at, g__law_cell_at, k__law_cell_at, b__law_cell_at⟩ := H__law_cell_at
  have G__law_cell_at := G0__law_cell_at.mono (show 1 ≤ 1 by decide)
  refine FnDok F sc__law_pool (fun vs H Q E h => ?_) (fun cdv A outer s H0 vs Q E gd hr h => ?_)
  · obtain ⟨_, _, _, _, _, _, rfl, _⟩ := h
    rfl
  · obtain ⟨F0, v_script, x_script, v_at, x_at, r0, rfl, hs0, r_script, r_at, hm, hk⟩ := h
    have g0 : Gr [] F0 H0 F0 H0 := Gr.refl hs0
    have er_at : v_at = V.int x_at := r_at
    subst er_at
    refine ⟨_, PSs.nox (pss_cons (ps_set (i := 2) sc__law_pool.nd rfl (by first | exact Or.inl rfl | exact Or.inr rfl) (pe_callG G__law_cell_at gd hr (by rfl) g__law_cell_at k__law_cell_at b__law_cell_at pass0 (pa_cons (pv 0) (pa_cons (pv 1) pa_nil))))
(pss_cons (ps_set (i := 3) sc__law_pool.nd rfl (by first | exact Or.inl rfl | exact Or.inr rfl) pe_int)
(pss_cons (ps_for PassesOwn.never rfl (pi_range1 (by rfl) b_range (pa_cons pe_int pa_nil)) (pg_name (i := 4) sc__law_pool.nd rfl (by first | exact Or.inl rfl | exact Or.inr rfl)) (pss_cons (ps_set (i := 5) sc__law_pool.nd rfl (by first | exact Or.inl rfl | exact Or.inr rfl) (pe_op op_mod (pe_op op_mul (pe_op op_add (pe_op op_add (pe_op op_add (pe_op op_mod (pv 2) pe_int) (pe_op op_mul (pe_op op_mul pe_int (pv 4)) (pv 4))) (pe_op op_mul pe_int (pv 1))) pe_int) pe_int) pe_int))
(pss_cons (ps_set (i := 5) sc__law_pool.nd rfl (by first | exact Or.inl rfl | exact Or.inr rfl) (pe_op op_mod (pe_op op_mul (pv 5) (pv 5)) pe_int))
(pss_cons (ps_set (i := 5) sc__law_pool.nd rfl (by first | exact Or.inl rfl | exact Or.inr rfl) (pe_op op_mod (pe_op op_mul (pe_op op_add (pv 5) (pe_op op_mul pe_int (pv 4))) pe_int) pe_int))
(pss_one (ps_set (i := 3) sc__law_pool.nd rfl (by first | exact Or.inl rfl | exact Or.inr rfl) (pe_op op_add (pe_op op_mul (pv 3) pe_int) (pe_op op_mod (pe_op op_fdiv (pv 5) pe_int) pe_int))))))))
(pss_one (ps_ret (pe_lst (pa_cons (pe_op op_mul (pv 2) (pe_callTy c_int1 (by rfl) b_int bo_int (pa_cons (pe_cmpR op_ge (pv 2) (pe_op op_pow pe_int pe_int) (nomark _)) pa_nil))) (pa_cons (pv 3) pa_nil)))))))), ?_⟩
    refine n_seq ?_
    refine n_asg ?_
    refine n_call ?_
    refine n_cons ?_
    refine n_var rfl ?_
    refine n_cons ?_
    refine n_var rfl ?_
    refine n_nil ?_
    obtain ⟨r1, hr1, hm⟩ := bnd hm
    refine ⟨F0, v_script, x_script, .int x_at, x_at, r1, rfl, g0.fh, r_script, rfl, hr1, fun v5 F2 H3 d4 r6 => ?_⟩
    have g7 := g0.trans0 d4
    have er6 : v5 = V.int r1 := r6
    subst er6
    refine n_name (setS (setS set0)) ?_
    refine n_seq ?_
    refine n_asg ?_
    refine n_c ?_
    refine n_name (setS (setS (setS set0))) ?_
    refine n_seq ?_
    refine n_for ?_
    refine n_rng1 ?_
    refine n_cons ?_
    refine n_c ?_
    refine n_nil ?_
    obtain ⟨l8, hl8, hm⟩ := bnd hm
    refine v_rng1 hl8 ?_
    obtain ⟨s9, hs9, hm⟩ := bnd hm
    refine for_o (sr_R1 hl8) hs9 (fun (s7 : Int) σ7 H7 => ∃ (F7 : Hp) (o_turn : Option V) (o_one : Option V), σ7 = [some v_script, some (.int x_at), some (.int r1), some (.int s7), o_turn, o_one] ∧ Gr [] F0 H0 F7 H7 ∧ Sub F2 F7) ⟨_, _, _, rfl, g7, Sub.refl _⟩ ?_ ?_ ?_
    · intros; exact trivial
    · rintro a10 s11 s12 x13 _ H14 H15 ⟨F19, o22, o23, rfl, g20, sb21⟩ hY16 hm N17 hN18
      refine v_nmR hY16 ?_
      refine n_name (setS (setS (setS (setS set0)))) ?_
      refine n_seq ?_
      refine n_asg ?_
      refine n_op ?_
      refine n_op ?_
      refine n_op ?_
      refine n_op ?_
      refine n_op ?_
      refine n_op ?_
      refine n_var rfl ?_
      refine n_c ?_
      refine v_modK (by decide) ?_
      refine n_op ?_
      refine n_op ?_
      refine n_c ?_
      refine n_var rfl ?_
      refine v_mulL (by decide) ?_
      refine n_var rfl ?_
      obtain ⟨a24, ha24, hm⟩ := bnd hm
      refine v_mul ha24 ?_
      refine v_i2 ?_
      refine n_op ?_
      refine n_c ?_
      refine n_var rfl ?_
      refine v_mulL (by decide) ?_
      refine v_i2 ?_
      refine n_c ?_
      refine v_i2 ?_
      refine n_c ?_
      refine v_mulR (by decide) ?_
      refine n_c ?_
      refine v_modK (by decide) ?_
      refine n_name (setS (setS (setS (setS (setS set0))))) ?_
      refine n_seq ?_
      refine n_asg ?_
      refine n_op ?_
      refine n_op ?_
      refine n_var rfl ?_
      refine n_var rfl ?_
      obtain ⟨a25, ha25, hm⟩ := bnd hm
      refine v_mul ha25 ?_
      refine n_c ?_
      refine v_modK (by decide) ?_
      refine n_name (setS (setS (setS (setS (setS set0))))) ?_
      refine n_seq ?_
      refine n_asg ?_
      refine n_op ?_
      refine n_op ?_
      refine n_op ?_
      refine n_var rfl ?_
      refine n_op ?_
      refine n_c ?_
      refine n_var rfl ?_
      refine v_mulL (by decide) ?_
      refine v_i2 ?_
      refine n_c ?_
      refine v_mulR (by decide) ?_
      refine n_c ?_
      refine v_modK (by decide) ?_
      refine n_name (setS (setS (setS (setS (setS set0))))) ?_
      refine n_asg ?_
      refine n_op ?_
      refine n_op ?_
      refine n_var rfl ?_
      refine n_c ?_
      refine v_mulR (by decide) ?_
      refine n_op ?_
      refine n_op ?_
      refine n_var rfl ?_
      refine n_c ?_
      refine v_divK (by decide) ?_
      refine n_c ?_
      refine v_modK (by decide) ?_
      refine v_i2 ?_
      refine n_name (setS (setS (setS set0))) ?_
      obtain rfl := Option.some.inj hm
      exact hN18 _ _ ⟨_, _, _, rfl, g20, sb21⟩
    rintro _ H26 ⟨F27, o30, o31, rfl, g28, sb29⟩
    refine n_ret ?_
    refine n_lst ?_
    refine n_cons ?_
    refine n_op ?_
    refine n_var rfl ?_
    refine n_cb ?_
    refine n_cons ?_
    refine n_op ?_
    refine n_var rfl ?_
    refine n_op ?_
    refine n_c ?_
    refine n_c ?_
    refine v_powK (a := 1000000000000000000) ⟨by decide, by decide, by decide⟩ (by decide +kernel) ?_
    refine v_i2 ?_
    refine n_nil ?_
    refine v_intB ?_
    obtain ⟨a32, ha32, hm⟩ := bnd hm
    refine v_mul ha32 ?_
    refine n_cons ?_
    refine n_var rfl ?_
    refine n_nil ?_
    have al40 : Al eI F27 [.int a32, .int s9] [a32, s9] := (.cons rfl (.cons rfl .nil))
    refine v_mkLM g28.fh rfl fun p33 H34 np35 d36 fp37 hp38 => ?_
    have go41 := g28.old np35
    have g42 := g28.trans0 d36
    have m43 : Mu [] H0 F27 H34 p33 (.lst [.int a32, .int s9]) := ⟨fp37, hp38, .inl go41⟩
    obtain rfl := Option.some.inj hm
    exact hk _ _ _  g42   ⟨p33, [.int a32, .int s9], rfl, (m43.own.resolve_right (by simp)), m43.fr, m43.hp, al40⟩

def m__law_take (x_pool : List Int) (x_many : Int) : Option (Int × List Int) :=
  (atI x_pool (0 : Int)).bind fun a2 =>
  (atI x_pool (b2 (decide (a2 = (0 : Int))))).bind fun a5 =>
  (modM a5 x_many).bind fun a8 =>
  (atI x_pool (b2 (decide (a2 = (0 : Int))))).bind fun a9 =>
  (divM a9 x_many).bind fun a12 =>
  (setM x_pool (b2 (decide (a2 = (0 : Int)))) a12).bind fun l13 =>
  some (a8, l13)
def sp__law_take (K : PySem.W.Frag) : Sp := fun vs H Q _ => ∃ (F : Hp) (p_pool : Addr) (vs_pool : List V) (x_pool : List Int) (v_many : V) (x_many : Int) (r : (Int × List Int)), vs = [.ref p_pool, v_many] ∧ Sub F H ∧ F p_pool = none ∧ H p_pool = some (.lst vs_pool) ∧ Al eI F vs_pool x_pool ∧ eI.r F v_many x_many ∧ m__law_take x_pool x_many = some r ∧ ∀ (v : V) (F' H' : Hp) (us_pool : List V), Gr [p_pool] F H F' H' → H' p_pool = some (.lst us_pool) → Al eI F' us_pool r.2 → eI.r F' v r.1 → Q v H'
theorem sc__law_take : FnScope ["pool", "many", "at", "number"] ["pool", "many"] (defScope s__law_take) := ⟨rfl, rfl, rfl, by decide +kernel, rfl, by decide +kernel, by decide +kernel⟩
theorem ok__law_take {f : Addr} {fd : FuncData} (F : FnP K "_law_take" s__law_take f fd) (b_int : mg "int" = none) : FnG P w K mg base CX0 1 f fd ["pool", "many"] (sp__law_take K) := by
  refine FnDok F sc__law_take (fun vs H Q E h => ?_) (fun cdv A outer s H0 vs Q E gd hr h => ?_)
  · obtain ⟨_, _, _, _, _, _, _, rfl, _⟩ := h
    rfl
  · obtain ⟨F0, p_pool, vs_pool, x_pool, v_many, x_many, r0, rfl, hs0, fr_pool, hp_pool, al_pool, r_many, hm, hk⟩ := h
    have g0 : Gr [p_pool] F0 H0 F0 H0 := Gr.refl hs0
    have m1 : Mu [p_pool] H0 F0 H0 p_pool (.lst vs_pool) := ⟨fr_pool, hp_pool, .inr (by simp)⟩
    have er_many : v_many = V.int x_many := r_many
    subst er_many
    refine ⟨_, PSs.nox (pss_cons (ps_set (i := 2) sc__law_take.nd rfl (by first | exact Or.inl rfl | exact Or.inr rfl) (pe_callTy c_int1 (by rfl) b_int bo_int (pa_cons (pe_cmpR op_eq (pe_ix (c_ixL (K := K) rfl) (pv 0) pe_int (fun _ _ => rfl)) pe_int (nomark _)) pa_nil)))
(pss_cons (ps_set (i := 3) sc__law_take.nd rfl (by first | exact Or.inl rfl | exact Or.inr rfl) (pe_op op_mod (pe_ix (c_ixL (K := K) rfl) (pv 0) (pv 2) (fun _ _ => rfl)) (pv 1)))
(pss_cons (ps_asg (pe_op op_fdiv (pe_ix (c_ixL (K := K) rfl) (pv 0) (pv 2) (fun _ _ => rfl)) (pv 1)) (pg_sub (pv 0) (pv 2) set_list))
(pss_one (ps_ret (pv 3)))))), ?_⟩
    refine n_seq ?_
    refine n_asg ?_
    refine n_cb ?_
    refine n_cons ?_
    refine n_op ?_
    refine n_op ?_
    refine n_var rfl ?_
    refine n_c ?_
    obtain ⟨a2, ha2, hm⟩ := bnd hm
    refine v_ixL m1.l al_pool ha2 fun v3 r4 => ?_
    have er4 : v3 = V.int a2 := r4
    subst er4
    refine n_c ?_
    refine v_eqI ?_
    refine n_nil ?_
    refine v_intB ?_
    refine n_name (setS (setS set0)) ?_
    refine n_seq ?_
    refine n_asg ?_
    refine n_op ?_
    refine n_op ?_
    refine n_var rfl ?_
    refine n_var rfl ?_
    obtain ⟨a5, ha5, hm⟩ := bnd hm
    refine v_ixL m1.l al_pool ha5 fun v6 r7 => ?_
    have er7 : v6 = V.int a5 := r7
    subst er7
    refine n_var rfl ?_
    obtain ⟨a8, ha8, hm⟩ := bnd hm
    refine v_mod ha8 ?_
    refine n_name (setS (setS (setS set0))) ?_
    refine n_seq ?_
    refine n_asg ?_
    refine n_op ?_
    refine n_op ?_
    refine n_var rfl ?_
    refine n_var rfl ?_
    obtain ⟨a9, ha9, hm⟩ := bnd hm
    refine v_ixL m1.l al_pool ha9 fun v10 r11 => ?_
    have er11 : v10 = V.int a9 := r11
    subst er11
    refine n_var rfl ?_
    obtain ⟨a12, ha12, hm⟩ := bnd hm
    refine v_div ha12 ?_
    refine n_sub ?_
    refine n_var rfl ?_
    refine n_var rfl ?_
    obtain ⟨l13, hl13, hm⟩ := bnd hm
    obtain ⟨n14, en15, al16⟩ := setM_ok al_pool hl13 (show eI.r F0 (.int a12) a12 from rfl)
    refine v_setL m1.hp en15 ?_
    obtain ⟨vs17, H18, g19, evs17, eH18⟩ := st_ok g0 m1 ((vs_pool : List V).set n14 (.int a12))
    rw [← evs17, ← eH18]
    rw [← evs17] at al16
    have m20 := mu_self m1 eH18
    refine n_ret ?_
    refine n_var rfl ?_
    obtain rfl := Option.some.inj hm
    exact hk _ _ _ _ g19 m20.hp al16 rfl

def m__law_letters (x_pool : List Int) : Option (List Sg × List Int) :=
  (m__law_take x_pool (6 : Int)).bind fun r18 =>
  (atI [(1 : Int), (2 : Int), (2 : Int), (3 : Int), (5 : Int), (26 : Int)] r18.1).bind fun a29 =>
  (m__law_take r18.2 (26 : Int)).bind fun r32 =>
  (m__law_take r32.2 (3 : Int)).bind fun r59 =>
  (atI [(1 : Int), (3 : Int), (25 : Int)] r59.1).bind fun a70 =>
  (uptoM 0 a29).bind fun l73 =>
  (need (szB l73.length) ()).bind fun u76 =>
  (compS l73 fun a78 =>
  (mulM a70 a78).bind fun a99 =>
  (atI ([97, 98, 99, 100, 101, 102, 103, 104, 105, 106, 107, 108, 109, 110, 111, 112, 113, 114, 115, 116, 117, 118, 119, 120, 121, 122] : Sg) ((r32.1 + a99) % (26 : Int))).bind fun c100 =>
  some (some [c100])).bind fun q77 =>
  some (q77, r59.2)
def sp__law_letters (K : PySem.W.Frag) : Sp := fun vs H Q _ => ∃ (F : Hp) (p_pool : Addr) (vs_pool : List V) (x_pool : List Int) (r : (List Sg × List Int)), vs = [.ref p_pool] ∧ Sub F H ∧ F p_pool = none ∧ H p_pool = some (.lst vs_pool) ∧ Al eI F vs_pool x_pool ∧ m__law_letters x_pool = some r ∧ ∀ (v : V) (F' H' : Hp) (us_pool : List V), Gr [p_pool] F H F' H' → H' p_pool = some (.lst us_pool) → Al eI F' us_pool r.2 → New eS H F' H' v r.1 → Q v H'
theorem sc__law_letters : FnScope ["pool", "many", "first", "by", "k"] ["pool"] (defScope s__law_letters) := ⟨rfl, rfl, rfl, by decide +kernel, rfl, by decide +kernel, by decide +kernel⟩
theorem ok__law_letters {f : Addr} {fd : FuncData} (F : FnP K "_law_letters" s__law_letters f fd) (H__law_take : HasG P w K mg base "_law_take" ["pool", "many"] 1 (sp__law_take K)) (b_range : mg "range" = none) : FnG P w K mg base CX0 2 f fd ["pool"] (sp__law_letters K) := by
  obtain ⟨f__law_take, fd__law_take, G0__law_take, g__law_take, k__law_take, b__law_take⟩ := H__law_take
  have G__law_take := G0__law_take.mono (show 1 ≤ 1 by decide)
  refine FnDok F sc__law_letters (fun vs H Q E h => ?_) (fun cdv A outer s H0 vs Q E gd hr h => ?_)
  · obtain ⟨_, _, _, _, _, rfl, _⟩ := h
    rfl
  · obtain ⟨F0, p_pool, vs_pool, x_pool, r0, rfl, hs0, fr_pool, hp_pool, al_pool, hm, hk⟩ := h
    have g0 : Gr [p_pool] F0 H0 F0 H0 := Gr.refl hs0
    have m1 : Mu [p_pool] H0 F0 H0 p_pool (.lst vs_pool) := ⟨fr_pool, hp_pool, .inr (by simp)⟩
    refine ⟨_, PSs.nox (pss_cons (ps_set (i := 1) sc__law_letters.nd rfl (by first | exact Or.inl rfl | exact Or.inr rfl) (pe_ix (c_ixL (K := K) rfl) (pe_lst (pa_cons pe_int (pa_cons pe_int (pa_cons pe_int (pa_cons pe_int (pa_cons pe_int (pa_cons pe_int pa_nil))))))) (pe_callG G__law_take gd hr (by rfl) g__law_take k__law_take b__law_take pass0 (pa_cons (pv 0) (pa_cons pe_int pa_nil))) (fun _ _ => rfl)))
(pss_cons (ps_set (i := 2) sc__law_letters.nd rfl (by first | exact Or.inl rfl | exact Or.inr rfl) (pe_callG G__law_take gd hr (by rfl) g__law_take k__law_take b__law_take pass0 (pa_cons (pv 0) (pa_cons pe_int pa_nil))))
(pss_cons (ps_set (i := 3) sc__law_letters.nd rfl (by first | exact Or.inl rfl | exact Or.inr rfl) (pe_ix (c_ixL (K := K) rfl) (pe_lst (pa_cons pe_int (pa_cons pe_int (pa_cons pe_int pa_nil)))) (pe_callG G__law_take gd hr (by rfl) g__law_take k__law_take b__law_take pass0 (pa_cons (pv 0) (pa_cons pe_int pa_nil))) (fun _ _ => rfl)))
(pss_one (ps_ret (pe_lc (own := [("k", 4)]) (g := gName 4) (by rfl) sc__law_letters.nd (pi_range1 (by rfl) b_range (pa_cons (pv 1) pa_nil)) (blkOk_by (own := [("k", 4)]) (N := ["pool", "many", "first", "by", "k"]) (sc := defScope s__law_letters) (by decide +kernel)) (fun _ _ _ _ _ => (pg_name (i := 4) sc__law_letters.nd rfl (Or.inl rfl))) (fun _ _ _ _ _ => pts_nil) (fun _ _ _ _ _ => (pe_ix ix_str pe_str (pe_op op_mod (pe_op op_add (pv 2) (pe_op op_mul (pv 3) (pv 4))) pe_int) (fun _ _ => rfl))))))))), ?_⟩
    refine n_seq ?_
    refine n_asg ?_
    refine n_op ?_
    refine n_lst ?_
    refine n_cons ?_
    refine n_c ?_
    refine n_cons ?_
    refine n_c ?_
    refine n_cons ?_
    refine n_c ?_
    refine n_cons ?_
    refine n_c ?_
    refine n_cons ?_
    refine n_c ?_
    refine n_cons ?_
    refine n_c ?_
    refine n_nil ?_
    refine v_mkLF (t := eI) (xs := [(1 : Int), (2 : Int), (2 : Int), (3 : Int), (5 : Int), (26 : Int)]) g0.fh (.cons rfl (.cons rfl (.cons rfl (.cons rfl (.cons rfl (.cons rfl .nil)))))) rfl fun p10 F11 H12 d13 q14 al15 => ?_
    have g16 := g0.trans0 d13
    have m17 := m1.call0 d13
    refine n_call ?_
    refine n_cons ?_
    refine n_var rfl ?_
    refine n_cons ?_
    refine n_c ?_
    refine n_nil ?_
    obtain ⟨r18, hr18, hm⟩ := bnd hm
    refine ⟨F11, p_pool, vs_pool, x_pool, .int (6 : Int), (6 : Int), r18, rfl, g16.fh, m17.fr, m17.hp, (Al.mono al_pool d13.ff), rfl, hr18, fun v25 F19 H20 vs22 d21 hp23 al24 r26 => ?_⟩
    have g27 := g16.trans d21 (fun a ha => (List.mem_cons.mp ha).elim (fun e => e ▸ m17.own) (fun ha => absurd ha (by simp)))
    have m28 := m17.back d21 hp23
    have er26 : v25 = V.int r18.1 := r26
    subst er26
    obtain ⟨a29, ha29, hm⟩ := bnd hm
    refine v_ixL (SqL.of (g27.fh _ _ (d21.ff _ _ q14))) (Al.mono al15 d21.ff) ha29 fun v30 r31 => ?_
    have er31 : v30 = V.int a29 := r31
    subst er31
    refine n_name (setS set0) ?_
    refine n_seq ?_
    refine n_asg ?_
    refine n_call ?_
    refine n_cons ?_
    refine n_var rfl ?_
    refine n_cons ?_
    refine n_c ?_
    refine n_nil ?_
    obtain ⟨r32, hr32, hm⟩ := bnd hm
    refine ⟨F19, p_pool, vs22, r18.2, .int (26 : Int), (26 : Int), r32, rfl, g27.fh, m28.fr, m28.hp, al24, rfl, hr32, fun v39 F33 H34 vs36 d35 hp37 al38 r40 => ?_⟩
    have g41 := g27.trans d35 (fun a ha => (List.mem_cons.mp ha).elim (fun e => e ▸ m28.own) (fun ha => absurd ha (by simp)))
    have m42 := m28.back d35 hp37
    have er40 : v39 = V.int r32.1 := r40
    subst er40
    refine n_name (setS (setS set0)) ?_
    refine n_seq ?_
    refine n_asg ?_
    refine n_op ?_
    refine n_lst ?_
    refine n_cons ?_
    refine n_c ?_
    refine n_cons ?_
    refine n_c ?_
    refine n_cons ?_
    refine n_c ?_
    refine n_nil ?_
    refine v_mkLF (t := eI) (xs := [(1 : Int), (3 : Int), (25 : Int)]) g41.fh (.cons rfl (.cons rfl (.cons rfl .nil))) rfl fun p51 F52 H53 d54 q55 al56 => ?_
    have g57 := g41.trans0 d54
    have m58 := m42.call0 d54
    refine n_call ?_
    refine n_cons ?_
    refine n_var rfl ?_
    refine n_cons ?_
    refine n_c ?_
    refine n_nil ?_
    obtain ⟨r59, hr59, hm⟩ := bnd hm
    refine ⟨F52, p_pool, vs36, r32.2, .int (3 : Int), (3 : Int), r59, rfl, g57.fh, m58.fr, m58.hp, (Al.mono al38 d54.ff), rfl, hr59, fun v66 F60 H61 vs63 d62 hp64 al65 r67 => ?_⟩
    have g68 := g57.trans d62 (fun a ha => (List.mem_cons.mp ha).elim (fun e => e ▸ m58.own) (fun ha => absurd ha (by simp)))
    have m69 := m58.back d62 hp64
    have er67 : v66 = V.int r59.1 := r67
    subst er67
    obtain ⟨a70, ha70, hm⟩ := bnd hm
    refine v_ixL (SqL.of (g68.fh _ _ (d62.ff _ _ q55))) (Al.mono al56 d62.ff) ha70 fun v71 r72 => ?_
    have er72 : v71 = V.int a70 := r72
    subst er72
    refine n_name (setS (setS (setS set0))) ?_
    refine n_ret ?_
    refine n_lc ?_
    refine n_rng1 ?_
    refine n_cons ?_
    refine n_var rfl ?_
    refine n_nil ?_
    obtain ⟨l73, hl73, hm⟩ := bnd hm
    refine v_rng1 hl73 ?_
    obtain ⟨u76, hu76, hm⟩ := bnd hm
    obtain ⟨q77, hq77, hm⟩ := bnd hm
    intro D74 nD75
    have goD74 := g68.old nD75
    have neD74_p_pool := m69.ne nD75
    have gg105 := gr_newM (W := []) (o := .lst []) g68.fh nD75
    refine comp_s (sr_R1 hl73) hq77 (need_ok hu76).1 (fun (acc7 : List Sg) H7 => ∃ (F7 : Hp) (vs7 : List V), Gr [p_pool] F0 H0 F7 H7 ∧ Sub F60 F7 ∧ F7 D74 = none ∧ H7 D74 = some (.lst vs7) ∧ Al eS F7 vs7 acc7 ∧ Mu [p_pool] H0 F7 H7 p_pool (.lst vs63)) ⟨_, [], g68.trans0 gg105, Sub.refl _, g68.fh.nn nD75, upd_same, .nil, m69.call0 gg105⟩ ?_ ?_ ?_
    · intros; exact trivial
    · rintro a78 r80 acc81 x82 H83 H84 ⟨F89, vs90, g91, sb92, fD93, hD94, al95, m96⟩ hY85 hm hl88 N86 hN87
      have m98 : Mu [p_pool] H0 F89 H83 D74 (.lst vs90) := ⟨fD93, hD94, .inl goD74⟩
      refine wipe_to (σ' := [some (.ref p_pool), some (.int a29), some (.int r32.1), some (.int a70), none]) rfl ?_
      refine v_nmR hY85 ?_
      refine n_name (setS (setS (setS (setS set0)))) ?_
      refine ⟨rfl, ?_⟩
      refine n_yes ?_ rfl
      refine n_op ?_
      refine n_str (s := [97, 98, 99, 100, 101, 102, 103, 104, 105, 106, 107, 108, 109, 110, 111, 112, 113, 114, 115, 116, 117, 118, 119, 120, 121, 122]) (by decide +kernel) ?_
      refine n_op ?_
      refine n_op ?_
      refine n_var rfl ?_
      refine n_op ?_
      refine n_var rfl ?_
      refine n_var rfl ?_
      obtain ⟨a99, ha99, hm⟩ := bnd hm
      refine v_mul ha99 ?_
      refine v_i2 ?_
      refine n_c ?_
      refine v_modK (by decide) ?_
      obtain ⟨c100, hc100, hm⟩ := bnd hm
      refine v_ixS (sz_ok (n := 26) rfl) hc100 ?_
      obtain rfl := Option.some.inj hm
      refine ⟨_, m98.hp, by rw [al_len al95]; exact hl88, hN87 _ ?_⟩
      exact ⟨_, _, m98.gr g91, sb92, m98.fr, upd_same, pd_snoc al95 (show eS.r F89 (.str (S [c100])) [c100] from ⟨rfl, one_le⟩), m96.mut neD74_p_pool⟩
    rintro H106 ⟨F107, vs108, g109, sb110, fD111, hD112, al113, m114⟩
    have m116 : Mu [p_pool] H0 F107 H106 D74 (.lst vs108) := ⟨fD111, hD112, .inl goD74⟩
    obtain rfl := Option.some.inj hm
    exact hk _ _ _ _ g109 m114.hp (Al.mono al65 sb110) ⟨D74, vs108, rfl, (m116.own.resolve_right (nin1 (Ne.symm neD74_p_pool))), m116.fr, m116.hp, al113⟩

def m__law_grown (x_pool : List Int) (x_many : Int) (x_kind : Int) (x_letters : List Sg) : Option ((List Int × Sg) × List Int) :=
  (uptoM (1 : Int) x_many).bind fun l24 =>
  (foldO l24 ([(0 : Int)], x_pool, [(-1 : Int)]) fun s27 a26 =>
  (m__law_take s27.2.1 (4 : Int)).bind fun r77 =>
  (atI [(s27.1.length : Int), ((1 : Int) + r77.1)] (b2 (decide ((4 : Int) < (s27.1.length : Int))))).bind fun a98 =>
  (m__law_take r77.2 (3 : Int)).bind fun r101 =>
  (m__law_take r101.2 (s27.1.length : Int)).bind fun r134 =>
  (atI [(s27.1.length : Int), (1 : Int), ((1 : Int) + r134.1), (mx (1 : Int) ((s27.1.length : Int) - r101.1)), (mx (1 : Int) (((s27.1.length : Int) - (1 : Int)) + (a26 % (2 : Int)))), a98] x_kind).bind fun a155 =>
  (atI s27.1 (a155 - (1 : Int))).bind fun a158 =>
  (snocM s27.2.2 a158).bind fun l161 =>
  (catLM (cutL s27.1 none (some a155)) [a26]).bind fun l188 =>
  some (l188, r134.2, l161)).bind fun s25 =>
  (m__law_take s25.2.1 (6 : Int)).bind fun r217 =>
  (m__law_take r217.2 x_many).bind fun r250 =>
  (m__law_take r250.2 (2 : Int)).bind fun r271 =>
  (atI [r250.1, (0 : Int)] r271.1).bind fun a283 =>
  (uptoM 0 x_many).bind fun l286 =>
  (foldO l286 (([] : Sg), r271.2) fun s289 a288 =>
  (m__law_take s289.2 (x_letters.length : Int)).bind fun r311 =>
  (if ((decide ((0 : Int) < r217.1)) && (decide (r217.1 < (4 : Int)))) = true then
  (modM a288 r217.1).bind fun a328 =>
  (modM a328 (x_letters.length : Int)).bind fun a329 =>
  some a329
  else
  some r311.1).bind fun s325 =>
  (if (decide ((4 : Int) < r217.1)) = true then
  (modM (b2 (decide (a288 = a283))) (x_letters.length : Int)).bind fun a340 =>
  some a340
  else
  some s325).bind fun s337 =>
  (atI x_letters s337).bind fun a347 =>
  (catM s289.1 a347).bind fun t350 =>
  some (t350, r311.2)).bind fun s287 =>
  some ((s25.2.2, s287.1), s287.2)
def sp__law_grown (K : PySem.W.Frag) : Sp := fun vs H Q _ => ∃ (F : Hp) (p_pool : Addr) (vs_pool : List V) (x_pool : List Int) (v_many : V) (x_many : Int) (v_kind : V) (x_kind : Int) (v_letters : V) (x_letters : List Sg) (r : ((List Int × Sg) × List Int)), vs = [.ref p_pool, v_many, v_kind, v_letters] ∧ Sub F H ∧ F p_pool = none ∧ H p_pool = some (.lst vs_pool) ∧ Al eI F vs_pool x_pool ∧ eI.r F v_many x_many ∧ eI.r F v_kind x_kind ∧ (eL eS).r F v_letters x_letters ∧ m__law_grown x_pool x_many x_kind x_letters = some r ∧ ∀ (v : V) (F' H' : Hp) (us_pool : List V), Gr [p_pool] F H F' H' → H' p_pool = some (.lst us_pool) → Al eI F' us_pool r.2 → (eP2 (eT eI) eS).r F' v r.1 → Q v H'
theorem sc__law_grown : FnScope ["pool", "many", "kind", "letters", "ups", "line", "k", "way", "other", "labels", "deep", "low", "near", "comb", "cut", "at"] ["pool", "many", "kind", "letters"] (defScope s__law_grown) := ⟨rfl, rfl, rfl, by decide +kernel, rfl, by decide +kernel, by decide +kernel⟩
theorem ok__law_grown {f : Addr} {fd : FuncData} (F : FnP K "_law_grown" s__law_grown f fd) (H__law_take : HasG P w K mg base "_law_take" ["pool", "many"] 1 (sp__law_take K)) (b_range : mg "range" = none) (b_len : mg "len" = none) (b_max : mg "max" = none) (b_tuple : mg "tuple" = none) (b_int : mg "int" = none) : FnG P w K mg base CX0 2 f fd ["pool", "many", "kind", "letters"] (sp__law_grown K) := by
  obtain ⟨f__law_take, fd__law_take, G0__law_take, g__law_take, k__law_take, b__law_take⟩ := H__law_take
  have G__law_take := G0__law_take.mono (show 1 ≤ 1 by decide)
  refine FnDok F sc__law_grown (fun vs H Q E h => ?_) (fun cdv A outer s H0 vs Q E gd hr h => ?_)
  · obtain ⟨_, _, _, _, _, _, _, _, _, _, _, rfl, _⟩ := h
    rfl
  · obtain ⟨F0, p_pool, vs_pool, x_pool, v_many, x_many, v_kind, x_kind, v_letters, x_letters, r0, rfl, hs0, fr_pool, hp_pool, al_pool, r_many, r_kind, r_letters, hm, hk⟩ := h
    have g0 : Gr [p_pool] F0 H0 F0 H0 := Gr.refl hs0
    have m1 : Mu [p_pool] H0 F0 H0 p_pool (.lst vs_pool) := ⟨fr_pool, hp_pool, .inr (by simp)⟩
    have er_many : v_many = V.int x_many := r_many
    subst er_many
    have er_kind : v_kind = V.int x_kind := r_kind
    subst er_kind
    refine ⟨_, PSs.nox (pss_cons (ps_set (i := 4) sc__law_grown.nd rfl (by first | exact Or.inl rfl | exact Or.inr rfl) (pe_lst (pa_cons (pe_un un_neg pe_int) pa_nil)))
(pss_cons (ps_set (i := 5) sc__law_grown.nd rfl (by first | exact Or.inl rfl | exact Or.inr rfl) (pe_lst (pa_cons pe_int pa_nil)))
(pss_cons (ps_for PassesOwn.never rfl (pi_range2 (by rfl) b_range (pa_cons pe_int (pa_cons (pv 1) pa_nil))) (pg_name (i := 6) sc__law_grown.nd rfl (by first | exact Or.inl rfl | exact Or.inr rfl)) (pss_cons (ps_set (i := 10) sc__law_grown.nd rfl (by first | exact Or.inl rfl | exact Or.inr rfl) (pe_callB (c_len (K := K) rfl) (by rfl) b_len bo_len (pa_cons (pv 5) pa_nil)))
(pss_cons (ps_set (i := 11) sc__law_grown.nd rfl (by first | exact Or.inl rfl | exact Or.inr rfl) (pe_ix (c_ixL (K := K) rfl) (pe_lst (pa_cons (pv 10) (pa_cons (pe_op op_add pe_int (pe_callG G__law_take gd hr (by rfl) g__law_take k__law_take b__law_take pass0 (pa_cons (pv 0) (pa_cons pe_int pa_nil)))) pa_nil))) (pe_callTy c_int1 (by rfl) b_int bo_int (pa_cons (pe_cmpR op_gt (pv 10) pe_int (nomark _)) pa_nil)) (fun _ _ => rfl)))
(pss_cons (ps_set (i := 12) sc__law_grown.nd rfl (by first | exact Or.inl rfl | exact Or.inr rfl) (pe_callB (c_max2 rfl) (by rfl) b_max bo_max (pa_cons pe_int (pa_cons (pe_op op_sub (pv 10) (pe_callG G__law_take gd hr (by rfl) g__law_take k__law_take b__law_take pass0 (pa_cons (pv 0) (pa_cons pe_int pa_nil)))) pa_nil))))
(pss_cons (ps_set (i := 13) sc__law_grown.nd rfl (by first | exact Or.inl rfl | exact Or.inr rfl) (pe_callB (c_max2 rfl) (by rfl) b_max bo_max (pa_cons pe_int (pa_cons (pe_op op_add (pe_op op_sub (pv 10) pe_int) (pe_op op_mod (pv 6) pe_int)) pa_nil))))
(pss_cons (ps_set (i := 14) sc__law_grown.nd rfl (by first | exact Or.inl rfl | exact Or.inr rfl) (pe_ix (c_ixL (K := K) rfl) (pe_lst (pa_cons (pv 10) (pa_cons pe_int (pa_cons (pe_op op_add pe_int (pe_callG G__law_take gd hr (by rfl) g__law_take k__law_take b__law_take pass0 (pa_cons (pv 0) (pa_cons (pv 10) pa_nil)))) (pa_cons (pv 12) (pa_cons (pv 13) (pa_cons (pv 11) pa_nil))))))) (pv 2) (fun _ _ => rfl)))
(pss_cons (ps_expr (c_bm (K := K) rfl PySem.F.plainAttrs_list PySem.F.slot_list_append PySem.F.type_list_append mt_append (pv 4) (pa_cons (pe_ix (c_ixL (K := K) rfl) (pv 5) (pe_op op_sub (pv 14) pe_int) (fun _ _ => rfl)) pa_nil)))
(pss_one (ps_set (i := 5) sc__law_grown.nd rfl (by first | exact Or.inl rfl | exact Or.inr rfl) (pe_op op_cat (pe_slice (c_slL (K := K) rfl) (pv 5) po_none (po_some (pv 14))) (pe_lst (pa_cons (pv 6) pa_nil))))))))))))
(pss_cons (ps_set (i := 7) sc__law_grown.nd rfl (by first | exact Or.inl rfl | exact Or.inr rfl) (pe_callG G__law_take gd hr (by rfl) g__law_take k__law_take b__law_take pass0 (pa_cons (pv 0) (pa_cons pe_int pa_nil))))
(pss_cons (ps_set (i := 8) sc__law_grown.nd rfl (by first | exact Or.inl rfl | exact Or.inr rfl) (pe_ix (c_ixL (K := K) rfl) (pe_lst (pa_cons (pe_callG G__law_take gd hr (by rfl) g__law_take k__law_take b__law_take pass0 (pa_cons (pv 0) (pa_cons (pv 1) pa_nil))) (pa_cons pe_int pa_nil))) (pe_callG G__law_take gd hr (by rfl) g__law_take k__law_take b__law_take pass0 (pa_cons (pv 0) (pa_cons pe_int pa_nil))) (fun _ _ => rfl)))
(pss_cons (ps_set (i := 9) sc__law_grown.nd rfl (by first | exact Or.inl rfl | exact Or.inr rfl) pe_str)
(pss_cons (ps_for PassesOwn.never rfl (pi_range1 (by rfl) b_range (pa_cons (pv 1) pa_nil)) (pg_name (i := 6) sc__law_grown.nd rfl (by first | exact Or.inl rfl | exact Or.inr rfl)) (pss_cons (ps_set (i := 15) sc__law_grown.nd rfl (by first | exact Or.inl rfl | exact Or.inr rfl) (pe_callG G__law_take gd hr (by rfl) g__law_take k__law_take b__law_take pass0 (pa_cons (pv 0) (pa_cons (pe_callB (c_len (K := K) rfl) (by rfl) b_len bo_len (pa_cons (pv 3) pa_nil)) pa_nil))))
(pss_cons (ps_if (pt_chain op_lt op_lt pe_int (pv 7) pe_int) (pss_one (ps_set (i := 15) sc__law_grown.nd rfl (by first | exact Or.inl rfl | exact Or.inr rfl) (pe_op op_mod (pe_op op_mod (pv 6) (pv 7)) (pe_callB (c_len (K := K) rfl) (by rfl) b_len bo_len (pa_cons (pv 3) pa_nil))))) pss_nil)
(pss_cons (ps_if (pt_cmpR op_gt (pv 7) pe_int (nomark _)) (pss_one (ps_set (i := 15) sc__law_grown.nd rfl (by first | exact Or.inl rfl | exact Or.inr rfl) (pe_op op_mod (pe_callTy c_int1 (by rfl) b_int bo_int (pa_cons (pe_cmpR op_eq (pv 6) (pv 8) (nomark _)) pa_nil)) (pe_callB (c_len (K := K) rfl) (by rfl) b_len bo_len (pa_cons (pv 3) pa_nil))))) pss_nil)
(pss_one (ps_set (i := 9) sc__law_grown.nd rfl (by first | exact Or.inl rfl | exact Or.inr rfl) (pe_op c_catS (pv 9) (pe_ix (c_ixL (K := K) rfl) (pv 3) (pv 15) (fun _ _ => rfl)))))))))
(pss_one (ps_ret (pe_tup (pa_cons (pe_callTy (c_tuple (K := K) rfl) (by rfl) b_tuple bo_tuple (pa_cons (pv 4) pa_nil)) (pa_cons (pv 9) pa_nil)))))))))))), ?_⟩
    refine n_seq ?_
    refine n_asg ?_
    refine n_lst ?_
    refine n_cons ?_
    refine n_un ?_
    refine n_c ?_
    refine v_neg ?_
    refine n_nil ?_
    have al9 : Al eI F0 [.int (-(1 : Int))] [(-1 : Int)] := (.cons rfl .nil)
    refine v_mkLM g0.fh rfl fun p2 H3 np4 d5 fp6 hp7 => ?_
    have go10 := g0.old np4
    have ne11 := m1.ne np4
    have g12 := g0.trans0 d5
    have m13 := m1.call0 d5
    have m14 : Mu [p_pool] H0 F0 H3 p2 (.lst [.int (-(1 : Int))]) := ⟨fp6, hp7, .inl go10⟩
    refine n_name (setS (setS (setS (setS set0)))) ?_
    refine n_seq ?_
    refine n_asg ?_
    refine n_lst ?_
    refine n_cons ?_
    refine n_c ?_
    refine n_nil ?_
    refine v_mkLF (t := eI) (xs := [(0 : Int)]) g12.fh (.cons rfl .nil) rfl fun p15 F16 H17 d18 q19 al20 => ?_
    have g21 := g12.trans0 d18
    have m22 := m13.call0 d18
    have m23 := m14.call0 d18
    refine n_name (setS (setS (setS (setS (setS set0))))) ?_
    refine n_seq ?_
    refine n_for ?_
    refine n_rng2 ?_
    refine n_cons ?_
    refine n_c ?_
    refine n_cons ?_
    refine n_var rfl ?_
    refine n_nil ?_
    obtain ⟨l24, hl24, hm⟩ := bnd hm
    refine v_rng2 hl24 ?_
    obtain ⟨s25, hs25, hm⟩ := bnd hm
    refine for_o (sr_R2 hl24) hs25 (fun (s7 : List Int × List Int × List Int) σ7 H7 => ∃ (F7 : Hp) (v_line : V) (o_k : Option V) (o_deep : Option V) (o_low : Option V) (o_near : Option V) (o_comb : Option V) (o_cut : Option V) (us_pool : List V) (us_ups : List V), σ7 = [some (.ref p_pool), some (.int x_many), some (.int x_kind), some v_letters, some (.ref p2), some v_line, o_k, none, none, none, o_deep, o_low, o_near, o_comb, o_cut, none] ∧ Gr [p_pool] F0 H0 F7 H7 ∧ Sub F16 F7 ∧ (eL eI).r F7 v_line s7.1 ∧ Mu [p_pool] H0 F7 H7 p_pool (.lst us_pool) ∧ Al eI F7 us_pool s7.2.1 ∧ Mu [p_pool] H0 F7 H7 p2 (.lst us_ups) ∧ Al eI F7 us_ups s7.2.2) ⟨_, (.ref p15), _, _, _, _, _, _, vs_pool, [.int (-(1 : Int))], rfl, g21, Sub.refl _, (⟨p15, [.int (0 : Int)], rfl, q19, al20⟩ : (eL eI).r F16 (.ref p15) [(0 : Int)]), m22, (Al.mono al_pool d18.ff), m23, (Al.mono al9 d18.ff)⟩ ?_ ?_ ?_
    · intros; exact trivial
    · rintro a26 s27 s28 x29 _ H30 H31 ⟨F35, v38, o39, o40, o41, o42, o43, o44, vs45, vs46, rfl, g36, sb37, r47, m48, al49, m50, al51⟩ hY32 hm N33 hN34
      refine v_nmR hY32 ?_
      refine n_name (setS (setS (setS (setS (setS (setS set0)))))) ?_
      refine n_seq ?_
      refine n_asg ?_
      refine n_cb ?_
      refine n_cons ?_
      refine n_var rfl ?_
      refine n_nil ?_
      obtain ⟨p52, vs53, ep52, q54, al55⟩ := r47
      subst ep52
      refine v_len (.inl (SqL.of (g36.fh _ _ q54))) al55 ?_
      refine n_name (setS (setS (setS (setS (setS (setS (setS (setS (setS (setS set0)))))))))) ?_
      refine n_seq ?_
      refine n_asg ?_
      refine n_op ?_
      refine n_lst ?_
      refine n_cons ?_
      refine n_var rfl ?_
      refine n_cons ?_
      refine n_op ?_
      refine n_c ?_
      refine n_call ?_
      refine n_cons ?_
      refine n_var rfl ?_
      refine n_cons ?_
      refine n_c ?_
      refine n_nil ?_
      obtain ⟨r77, hr77, hm⟩ := bnd hm
      refine ⟨F35, p_pool, vs45, s27.2.1, .int (4 : Int), (4 : Int), r77, rfl, g36.fh, m48.fr, m48.hp, al49, rfl, hr77, fun v84 F78 H79 vs81 d80 hp82 al83 r85 => ?_⟩
      have g86 := g36.trans d80 (fun a ha => (List.mem_cons.mp ha).elim (fun e => e ▸ m48.own) (fun ha => absurd ha (by simp)))
      have m87 := m48.back d80 hp82
      have m88 := m50.call d80 (nin1 (Ne.symm ne11))
      have er85 : v84 = V.int r77.1 := r85
      subst er85
      refine v_i2 ?_
      refine n_nil ?_
      refine v_mkLF (t := eI) (xs := [(s27.1.length : Int), ((1 : Int) + r77.1)]) g86.fh (.cons rfl (.cons rfl .nil)) rfl fun p89 F90 H91 d92 q93 al94 => ?_
      have g95 := g86.trans0 d92
      have m96 := m87.call0 d92
      have m97 := m88.call0 d92
      refine n_cb ?_
      refine n_cons ?_
      refine n_op ?_
      refine n_var rfl ?_
      refine n_c ?_
      refine v_i2 ?_
      refine n_nil ?_
      refine v_intB ?_
      obtain ⟨a98, ha98, hm⟩ := bnd hm
      refine v_ixL (SqL.of (g95.fh _ _ q93)) al94 ha98 fun v99 r100 => ?_
      have er100 : v99 = V.int a98 := r100
      subst er100
      refine n_name (setS (setS (setS (setS (setS (setS (setS (setS (setS (setS (setS set0))))))))))) ?_
      refine n_seq ?_
      refine n_asg ?_
      refine n_cb ?_
      refine n_cons ?_
      refine n_c ?_
      refine n_cons ?_
      refine n_op ?_
      refine n_var rfl ?_
      refine n_call ?_
      refine n_cons ?_
      refine n_var rfl ?_
      refine n_cons ?_
      refine n_c ?_
      refine n_nil ?_
      obtain ⟨r101, hr101, hm⟩ := bnd hm
      refine ⟨F90, p_pool, vs81, r77.2, .int (3 : Int), (3 : Int), r101, rfl, g95.fh, m96.fr, m96.hp, (Al.mono al83 d92.ff), rfl, hr101, fun v108 F102 H103 vs105 d104 hp106 al107 r109 => ?_⟩
      have g110 := g95.trans d104 (fun a ha => (List.mem_cons.mp ha).elim (fun e => e ▸ m96.own) (fun ha => absurd ha (by simp)))
      have m111 := m96.back d104 hp106
      have m112 := m97.call d104 (nin1 (Ne.symm ne11))
      have er109 : v108 = V.int r101.1 := r109
      subst er109
      refine v_i2 ?_
      refine n_nil ?_
      refine v_max2 ?_
      refine n_name (setS (setS (setS (setS (setS (setS (setS (setS (setS (setS (setS (setS set0)))))))))))) ?_
      refine n_seq ?_
      refine n_asg ?_
      refine n_cb ?_
      refine n_cons ?_
      refine n_c ?_
      refine n_cons ?_
      refine n_op ?_
      refine n_op ?_
      refine n_var rfl ?_
      refine n_c ?_
      refine v_i2 ?_
      refine n_op ?_
      refine n_var rfl ?_
      refine n_c ?_
      refine v_modK (by decide) ?_
      refine v_i2 ?_
      refine n_nil ?_
      refine v_max2 ?_
      refine n_name (setS (setS (setS (setS (setS (setS (setS (setS (setS (setS (setS (setS (setS set0))))))))))))) ?_
      refine n_seq ?_
      refine n_asg ?_
      refine n_op ?_
      refine n_lst ?_
      refine n_cons ?_
      refine n_var rfl ?_
      refine n_cons ?_
      refine n_c ?_
      refine n_cons ?_
      refine n_op ?_
      refine n_c ?_
      refine n_call ?_
      refine n_cons ?_
      refine n_var rfl ?_
      refine n_cons ?_
      refine n_var rfl ?_
      refine n_nil ?_
      obtain ⟨r134, hr134, hm⟩ := bnd hm
      refine ⟨F102, p_pool, vs105, r101.2, .int (s27.1.length : Int), (s27.1.length : Int), r134, rfl, g110.fh, m111.fr, m111.hp, al107, rfl, hr134, fun v141 F135 H136 vs138 d137 hp139 al140 r142 => ?_⟩
      have g143 := g110.trans d137 (fun a ha => (List.mem_cons.mp ha).elim (fun e => e ▸ m111.own) (fun ha => absurd ha (by simp)))
      have m144 := m111.back d137 hp139
      have m145 := m112.call d137 (nin1 (Ne.symm ne11))
      have er142 : v141 = V.int r134.1 := r142
      subst er142
      refine v_i2 ?_
      refine n_cons ?_
      refine n_var rfl ?_
      refine n_cons ?_
      refine n_var rfl ?_
      refine n_cons ?_
      refine n_var rfl ?_
      refine n_nil ?_
      refine v_mkLF (t := eI) (xs := [(s27.1.length : Int), (1 : Int), ((1 : Int) + r134.1), (mx (1 : Int) ((s27.1.length : Int) - r101.1)), (mx (1 : Int) (((s27.1.length : Int) - (1 : Int)) + (a26 % (2 : Int)))), a98]) g143.fh (.cons rfl (.cons rfl (.cons rfl (.cons rfl (.cons rfl (.cons rfl .nil)))))) rfl fun p146 F147 H148 d149 q150 al151 => ?_
      have g152 := g143.trans0 d149
      have m153 := m144.call0 d149
      have m154 := m145.call0 d149
      refine n_var rfl ?_
      obtain ⟨a155, ha155, hm⟩ := bnd hm
      refine v_ixL (SqL.of (g152.fh _ _ q150)) al151 ha155 fun v156 r157 => ?_
      have er157 : v156 = V.int a155 := r157
      subst er157
      refine n_name (setS (setS (setS (setS (setS (setS (setS (setS (setS (setS (setS (setS (setS (setS set0)))))))))))))) ?_
      refine n_seq ?_
      refine n_drop ?_
      refine n_bm ?_
      refine n_var rfl ?_
      refine ⟨tyL m154.l, ?_⟩
      refine n_cons ?_
      refine n_op ?_
      refine n_var rfl ?_
      refine n_op ?_
      refine n_var rfl ?_
      refine n_c ?_
      refine v_i2 ?_
      obtain ⟨a158, ha158, hm⟩ := bnd hm
      refine v_ixL (SqL.of (g152.fh _ _ ((Sub.trans d80.ff (Sub.trans d92.ff (Sub.trans d104.ff (Sub.trans d137.ff d149.ff)))) _ _ q54))) (Al.mono al55 (Sub.trans d80.ff (Sub.trans d92.ff (Sub.trans d104.ff (Sub.trans d137.ff d149.ff))))) ha158 fun v159 r160 => ?_
      have er160 : v159 = V.int a158 := r160
      subst er160
      refine n_nil ?_
      obtain ⟨l161, hl161, hm⟩ := bnd hm
      obtain ⟨vs165, H162, g166, al164, evs165, eH162⟩ := app_ok g152 m154 (Al.mono al51 (Sub.trans d80.ff (Sub.trans d92.ff (Sub.trans d104.ff (Sub.trans d137.ff d149.ff))))) hl161 (show eI.r F147 (.int a158) a158 from rfl)
      refine v_append m154.hp (snoc_lt (Al.mono al51 (Sub.trans d80.ff (Sub.trans d92.ff (Sub.trans d104.ff (Sub.trans d137.ff d149.ff))))) hl161) ?_
      rw [← evs165, ← eH162]
      have m167 := mu_oth m153 ne11 eH162
      have m168 := mu_self m154 eH162
      refine n_asg ?_
      refine n_op ?_
      refine n_sl ?_
      refine n_var rfl ?_
      refine n_nopart ?_
      refine n_part ?_
      refine n_var rfl ?_
      refine v_part ?_
      refine v_slLF g166.fh (SqL.of (g166.fh _ _ ((Sub.trans d80.ff (Sub.trans d92.ff (Sub.trans d104.ff (Sub.trans d137.ff d149.ff)))) _ _ q54))) (Al.mono al55 (Sub.trans d80.ff (Sub.trans d92.ff (Sub.trans d104.ff (Sub.trans d137.ff d149.ff))))) fun p169 vs170 F172 H173 d174 q175 al171 => ?_
      have g176 := g166.trans0 d174
      have m177 := m167.call0 d174
      have m178 := m168.call0 d174
      refine n_lst ?_
      refine n_cons ?_
      refine n_var rfl ?_
      refine n_nil ?_
      refine v_mkLF (t := eI) (xs := [a26]) g176.fh (.cons rfl .nil) rfl fun p179 F180 H181 d182 q183 al184 => ?_
      have g185 := g176.trans0 d182
      have m186 := m177.call0 d182
      have m187 := m178.call0 d182
      obtain ⟨l188, hl188, hm⟩ := bnd hm
      refine v_catF g185.fh (g185.fh _ _ (d182.ff _ _ q175)) (g185.fh _ _ q183) (Al.mono al171 d182.ff) al184 hl188 fun p189 vs190 F192 H193 d194 q195 al191 => ?_
      have g196 := g185.trans0 d194
      have m197 := m186.call0 d194
      have m198 := m187.call0 d194
      refine n_name (setS (setS (setS (setS (setS set0))))) ?_
      obtain rfl := Option.some.inj hm
      exact hN34 _ _ ⟨_, (.ref p189), _, _, _, _, _, _, vs138, vs165, rfl, g196, (Sub.trans sb37 (Sub.trans d80.ff (Sub.trans d92.ff (Sub.trans d104.ff (Sub.trans d137.ff (Sub.trans d149.ff (Sub.trans d174.ff (Sub.trans d182.ff d194.ff)))))))), (⟨p189, vs190, rfl, q195, al191⟩ : (eL eI).r F192 (.ref p189) l188), m197, (Al.mono al140 (Sub.trans d149.ff (Sub.trans d174.ff (Sub.trans d182.ff d194.ff)))), m198, (Al.mono al164 (Sub.trans d174.ff (Sub.trans d182.ff d194.ff)))⟩
    rintro _ H199 ⟨F200, v203, o204, o205, o206, o207, o208, o209, vs210, vs211, rfl, g201, sb202, r212, m213, al214, m215, al216⟩
    refine n_seq ?_
    refine n_asg ?_
    refine n_call ?_
    refine n_cons ?_
    refine n_var rfl ?_
    refine n_cons ?_
    refine n_c ?_
    refine n_nil ?_
    obtain ⟨r217, hr217, hm⟩ := bnd hm
    refine ⟨F200, p_pool, vs210, s25.2.1, .int (6 : Int), (6 : Int), r217, rfl, g201.fh, m213.fr, m213.hp, al214, rfl, hr217, fun v224 F218 H219 vs221 d220 hp222 al223 r225 => ?_⟩
    have g226 := g201.trans d220 (fun a ha => (List.mem_cons.mp ha).elim (fun e => e ▸ m213.own) (fun ha => absurd ha (by simp)))
    have m227 := m213.back d220 hp222
    have m228 := m215.call d220 (nin1 (Ne.symm ne11))
    have er225 : v224 = V.int r217.1 := r225
    subst er225
    refine n_name (setS (setS (setS (setS (setS (setS (setS set0))))))) ?_
    refine n_seq ?_
    refine n_asg ?_
    refine n_op ?_
    refine n_lst ?_
    refine n_cons ?_
    refine n_call ?_
    refine n_cons ?_
    refine n_var rfl ?_
    refine n_cons ?_
    refine n_var rfl ?_
    refine n_nil ?_
    obtain ⟨r250, hr250, hm⟩ := bnd hm
    refine ⟨F218, p_pool, vs221, r217.2, .int x_many, x_many, r250, rfl, g226.fh, m227.fr, m227.hp, al223, rfl, hr250, fun v257 F251 H252 vs254 d253 hp255 al256 r258 => ?_⟩
    have g259 := g226.trans d253 (fun a ha => (List.mem_cons.mp ha).elim (fun e => e ▸ m227.own) (fun ha => absurd ha (by simp)))
    have m260 := m227.back d253 hp255
    have m261 := m228.call d253 (nin1 (Ne.symm ne11))
    have er258 : v257 = V.int r250.1 := r258
    subst er258
    refine n_cons ?_
    refine n_c ?_
    refine n_nil ?_
    refine v_mkLF (t := eI) (xs := [r250.1, (0 : Int)]) g259.fh (.cons rfl (.cons rfl .nil)) rfl fun p262 F263 H264 d265 q266 al267 => ?_
    have g268 := g259.trans0 d265
    have m269 := m260.call0 d265
    have m270 := m261.call0 d265
    refine n_call ?_
    refine n_cons ?_
    refine n_var rfl ?_
    refine n_cons ?_
    refine n_c ?_
    refine n_nil ?_
    obtain ⟨r271, hr271, hm⟩ := bnd hm
    refine ⟨F263, p_pool, vs254, r250.2, .int (2 : Int), (2 : Int), r271, rfl, g268.fh, m269.fr, m269.hp, (Al.mono al256 d265.ff), rfl, hr271, fun v278 F272 H273 vs275 d274 hp276 al277 r279 => ?_⟩
    have g280 := g268.trans d274 (fun a ha => (List.mem_cons.mp ha).elim (fun e => e ▸ m269.own) (fun ha => absurd ha (by simp)))
    have m281 := m269.back d274 hp276
    have m282 := m270.call d274 (nin1 (Ne.symm ne11))
    have er279 : v278 = V.int r271.1 := r279
    subst er279
    obtain ⟨a283, ha283, hm⟩ := bnd hm
    refine v_ixL (SqL.of (g280.fh _ _ (d274.ff _ _ q266))) (Al.mono al267 d274.ff) ha283 fun v284 r285 => ?_
    have er285 : v284 = V.int a283 := r285
    subst er285
    refine n_name (setS (setS (setS (setS (setS (setS (setS (setS set0)))))))) ?_
    refine n_seq ?_
    refine n_asg ?_
    refine n_str (s := []) (by decide +kernel) ?_
    refine n_name (setS (setS (setS (setS (setS (setS (setS (setS (setS set0))))))))) ?_
    refine n_seq ?_
    refine n_for ?_
    refine n_rng1 ?_
    refine n_cons ?_
    refine n_var rfl ?_
    refine n_nil ?_
    obtain ⟨l286, hl286, hm⟩ := bnd hm
    refine v_rng1 hl286 ?_
    obtain ⟨s287, hs287, hm⟩ := bnd hm
    refine for_o (sr_R1 hl286) hs287 (fun (s7 : Sg × List Int) σ7 H7 => ∃ (F7 : Hp) (o_k : Option V) (o_at : Option V) (us_pool : List V), σ7 = [some (.ref p_pool), some (.int x_many), some (.int x_kind), some v_letters, some (.ref p2), some v203, o_k, some (.int r217.1), some (.int a283), some (.str (S s7.1)), o205, o206, o207, o208, o209, o_at] ∧ Gr [p_pool] F0 H0 F7 H7 ∧ Sub F272 F7 ∧ s7.1.length ≤ sizeLine ∧ Mu [p_pool] H0 F7 H7 p_pool (.lst us_pool) ∧ Al eI F7 us_pool s7.2 ∧ Mu [p_pool] H0 F7 H7 p2 (.lst vs211)) ⟨_, _, _, vs275, rfl, g280, Sub.refl _, (sz_ok (n := 0) rfl), m281, al277, m282⟩ ?_ ?_ ?_
    · intros; exact trivial
    · rintro a288 s289 s290 x291 _ H292 H293 ⟨F297, o300, o301, vs302, rfl, g298, sb299, l303, m304, al305, m306⟩ hY294 hm N295 hN296
      refine v_nmR hY294 ?_
      refine n_name (setS (setS (setS (setS (setS (setS set0)))))) ?_
      refine n_seq ?_
      refine n_asg ?_
      refine n_call ?_
      refine n_cons ?_
      refine n_var rfl ?_
      refine n_cons ?_
      refine n_cb ?_
      refine n_cons ?_
      refine n_var rfl ?_
      refine n_nil ?_
      obtain ⟨p307, vs308, ep307, q309, al310⟩ := (Rp.mono (eL eS) (Sub.trans d18.ff (Sub.trans sb202 (Sub.trans d220.ff (Sub.trans d253.ff (Sub.trans d265.ff (Sub.trans d274.ff sb299)))))) r_letters)
      subst ep307
      refine v_len (.inl (SqL.of (g298.fh _ _ q309))) al310 ?_
      refine n_nil ?_
      obtain ⟨r311, hr311, hm⟩ := bnd hm
      refine ⟨F297, p_pool, vs302, s289.2, .int (x_letters.length : Int), (x_letters.length : Int), r311, rfl, g298.fh, m304.fr, m304.hp, al305, rfl, hr311, fun v318 F312 H313 vs315 d314 hp316 al317 r319 => ?_⟩
      have g320 := g298.trans d314 (fun a ha => (List.mem_cons.mp ha).elim (fun e => e ▸ m304.own) (fun ha => absurd ha (by simp)))
      have m321 := m304.back d314 hp316
      have m322 := m306.call d314 (nin1 (Ne.symm ne11))
      have er319 : v318 = V.int r311.1 := r319
      subst er319
      refine n_name (setS (setS (setS (setS (setS (setS (setS (setS (setS (setS (setS (setS (setS (setS (setS set0))))))))))))))) ?_
      refine n_seq ?_
      refine n_ifs ?_
      refine n_test ?_
      refine n_chain ?_
      refine n_c ?_
      refine n_var rfl ?_
      refine v_i2 ?_
      refine v_bl ?_
      refine br_chain (b := (decide (r217.1 < (4 : Int)))) (fun _ Q7 k7 => ?_) ?_
      · refine n_c ?_
        refine v_i2 ?_
        exact k7
      refine v_bl ?_
      obtain ⟨s325, hs325, hm⟩ := bnd hm
      refine br_join (fun σ7 H7 => ∃ (F7 : Hp), σ7 = [some (.ref p_pool), some (.int x_many), some (.int x_kind), some (.ref p307), some (.ref p2), some v203, some (.int a288), some (.int r217.1), some (.int a283), some (.str (S s289.1)), o205, o206, o207, o208, o209, some (.int s325)] ∧ Gr [p_pool] F0 H0 F7 H7 ∧ Sub F312 F7 ∧ Mu [p_pool] H0 F7 H7 p_pool (.lst vs315) ∧ Mu [p_pool] H0 F7 H7 p2 (.lst vs211)) ?_ (fun hb324 nx326 hnx327 => ?_) (fun hb324 nx326 hnx327 => ?_)
      rotate_left
      · have hm := ifT hb324 hs325
        refine n_asg ?_
        refine n_op ?_
        refine n_op ?_
        refine n_var rfl ?_
        refine n_var rfl ?_
        obtain ⟨a328, ha328, hm⟩ := bnd hm
        refine v_mod ha328 ?_
        refine n_cb ?_
        refine n_cons ?_
        refine n_var rfl ?_
        refine n_nil ?_
        refine v_len (.inl (SqL.of (g320.fh _ _ (d314.ff _ _ q309)))) (Al.mono al310 d314.ff) ?_
        obtain ⟨a329, ha329, hm⟩ := bnd hm
        refine v_mod ha329 ?_
        refine n_name (setS (setS (setS (setS (setS (setS (setS (setS (setS (setS (setS (setS (setS (setS (setS set0))))))))))))))) ?_
        obtain rfl := Option.some.inj hm
        exact hnx327 _ _ ⟨_, rfl, g320, Sub.refl _, m321, m322⟩
      · have hm := ifF hb324 hs325
        refine n_nextS ?_
        obtain rfl := Option.some.inj hm
        exact hnx327 _ _ ⟨_, rfl, g320, Sub.refl _, m321, m322⟩
      rintro _ H335 ⟨F330, rfl, g331, sb332, m333, m334⟩
      refine n_seq ?_
      refine n_ifs ?_
      refine n_test ?_
      refine n_op ?_
      refine n_var rfl ?_
      refine n_c ?_
      refine v_i2 ?_
      refine v_bl ?_
      obtain ⟨s337, hs337, hm⟩ := bnd hm
      refine br_join (fun σ7 H7 => ∃ (F7 : Hp), σ7 = [some (.ref p_pool), some (.int x_many), some (.int x_kind), some (.ref p307), some (.ref p2), some v203, some (.int a288), some (.int r217.1), some (.int a283), some (.str (S s289.1)), o205, o206, o207, o208, o209, some (.int s337)] ∧ Gr [p_pool] F0 H0 F7 H7 ∧ Sub F330 F7 ∧ Mu [p_pool] H0 F7 H7 p_pool (.lst vs315) ∧ Mu [p_pool] H0 F7 H7 p2 (.lst vs211)) ?_ (fun hb336 nx338 hnx339 => ?_) (fun hb336 nx338 hnx339 => ?_)
      rotate_left
      · have hm := ifT hb336 hs337
        refine n_asg ?_
        refine n_op ?_
        refine n_cb ?_
        refine n_cons ?_
        refine n_op ?_
        refine n_var rfl ?_
        refine n_var rfl ?_
        refine v_eqI ?_
        refine n_nil ?_
        refine v_intB ?_
        refine n_cb ?_
        refine n_cons ?_
        refine n_var rfl ?_
        refine n_nil ?_
        refine v_len (.inl (SqL.of (g331.fh _ _ ((Sub.trans d314.ff sb332) _ _ q309)))) (Al.mono al310 (Sub.trans d314.ff sb332)) ?_
        obtain ⟨a340, ha340, hm⟩ := bnd hm
        refine v_mod ha340 ?_
        refine n_name (setS (setS (setS (setS (setS (setS (setS (setS (setS (setS (setS (setS (setS (setS (setS set0))))))))))))))) ?_
        obtain rfl := Option.some.inj hm
        exact hnx339 _ _ ⟨_, rfl, g331, Sub.refl _, m333, m334⟩
      · have hm := ifF hb336 hs337
        refine n_nextS ?_
        obtain rfl := Option.some.inj hm
        exact hnx339 _ _ ⟨_, rfl, g331, Sub.refl _, m333, m334⟩
      rintro _ H346 ⟨F341, rfl, g342, sb343, m344, m345⟩
      refine n_asg ?_
      refine n_op ?_
      refine n_var rfl ?_
      refine n_op ?_
      refine n_var rfl ?_
      refine n_var rfl ?_
      obtain ⟨a347, ha347, hm⟩ := bnd hm
      refine v_ixL (SqL.of (g342.fh _ _ ((Sub.trans d314.ff (Sub.trans sb332 sb343)) _ _ q309))) (Al.mono al310 (Sub.trans d314.ff (Sub.trans sb332 sb343))) ha347 fun v348 r349 => ?_
      obtain ⟨er349, lr349⟩ : v348 = V.str (S a347) ∧ a347.length ≤ sizeLine := r349
      subst er349
      obtain ⟨t350, ht350, hm⟩ := bnd hm
      refine v_catS ht350 ?_
      refine n_name (setS (setS (setS (setS (setS (setS (setS (setS (setS set0))))))))) ?_
      obtain rfl := Option.some.inj hm
      exact hN296 _ _ ⟨_, _, _, vs315, rfl, g342, (Sub.trans sb299 (Sub.trans d314.ff (Sub.trans sb332 sb343))), (catM_le ht350), m344, (Al.mono al317 (Sub.trans sb332 sb343)), m345⟩
    rintro _ H351 ⟨F352, o355, o356, vs357, rfl, g353, sb354, l358, m359, al360, m361⟩
    refine n_ret ?_
    refine n_tup ?_
    refine n_cons ?_
    refine n_cb ?_
    refine n_cons ?_
    refine n_var rfl ?_
    refine n_nil ?_
    refine v_tuple g353.fh m361.l (Al.mono al216 (Sub.trans d220.ff (Sub.trans d253.ff (Sub.trans d265.ff (Sub.trans d274.ff sb354))))) fun p362 F363 H364 d365 q366 al367 => ?_
    have g368 := g353.trans0 d365
    have m369 := m359.call0 d365
    have m370 := m361.call0 d365
    refine n_cons ?_
    refine n_var rfl ?_
    refine n_nil ?_
    refine v_mk2 g368.fh (show (eT eI).r F363 (.ref p362) s25.2.2 from (⟨p362, vs211, rfl, q366, al367⟩ : (eT eI).r F363 (.ref p362) s25.2.2)) (show eS.r F363 (.str (S s287.1)) s287.1 from ⟨rfl, l358⟩) fun v371 F372 H373 d374 r375 => ?_
    have g376 := g368.trans0 d374
    have m377 := m369.call0 d374
    have m378 := m370.call0 d374
    obtain rfl := Option.some.inj hm
    exact hk _ _ _ _ g376 m377.hp (Al.mono al360 (Sub.trans d365.ff d374.ff)) r375

def m__law_copies (x_pool : List Int) (x_most : Int) (x_letters : List Sg) : Option ((List Int × Sg) × List Int) :=
  (m__law_take x_pool (6 : Int)).bind fun r2 =>
  (m__law_grown r2.2 ((1 : Int) + r2.1) (2 : Int) x_letters).bind fun r13 =>
  (m__law_take r13.2 (2 : Int)).bind fun r24 =>
  (m__law_take r24.2 (x_letters.length : Int)).bind fun r52 =>
  (atI x_letters r52.1).bind fun a64 =>
  (m__law_take r52.2 (12 : Int)).bind fun r67 =>
  (uptoM 0 ((1 : Int) + r67.1)).bind fun l79 =>
  (foldO l79 (a64, [(-1 : Int)]) fun s82 a81 =>
  if (decide (((s82.2.length : Int) + (r13.1.1.length : Int)) ≤ x_most)) = true then
  (atI [(0 : Int), ((s82.2.length : Int) - (1 : Int))] r24.1).bind fun a125 =>
  (need (szB (cutL r13.1.1 (some (1 : Int)) none).length) ()).bind fun u171 =>
  (compS (cutL r13.1.1 (some (1 : Int)) none) fun a173 =>
  some (some (a173 + (s82.2.length : Int)))).bind fun q172 =>
  (catLM [a125] q172).bind fun l223 =>
  (catLM s82.2 l223).bind fun l234 =>
  (catM s82.1 r13.1.2).bind fun t243 =>
  some (t243, l234)
  else
  some (s82.1, s82.2)).bind fun s80 =>
  some ((s80.2, s80.1), r67.2)
def sp__law_copies (K : PySem.W.Frag) : Sp := fun vs H Q _ => ∃ (F : Hp) (p_pool : Addr) (vs_pool : List V) (x_pool : List Int) (v_most : V) (x_most : Int) (v_letters : V) (x_letters : List Sg) (r : ((List Int × Sg) × List Int)), vs = [.ref p_pool, v_most, v_letters] ∧ Sub F H ∧ F p_pool = none ∧ H p_pool = some (.lst vs_pool) ∧ Al eI F vs_pool x_pool ∧ eI.r F v_most x_most ∧ (eL eS).r F v_letters x_letters ∧ m__law_copies x_pool x_most x_letters = some r ∧ ∀ (v : V) (F' H' : Hp) (us_pool : List V), Gr [p_pool] F H F' H' → H' p_pool = some (.lst us_pool) → Al eI F' us_pool r.2 → (eP2 (eT eI) eS).r F' v r.1 → Q v H'
theorem sc__law_copies : FnScope ["pool", "most", "letters", "one", "chain", "ups", "labels", "turn", "here", "up"] ["pool", "most", "letters"] (defScope s__law_copies) := ⟨rfl, rfl, rfl, by decide +kernel, rfl, by decide +kernel, by decide +kernel⟩
theorem ok__law_copies {f : Addr} {fd : FuncData} (F : FnP K "_law_copies" s__law_copies f fd) (H__law_grown : HasG P w K mg base "_law_grown" ["pool", "many", "kind", "letters"] 2 (sp__law_grown K)) (H__law_take : HasG P w K mg base "_law_take" ["pool", "many"] 1 (sp__law_take K)) (b_range : mg "range" = none) (b_tuple : mg "tuple" = none) (b_len : mg "len" = none) : FnG P w K mg base CX0 3 f fd ["pool", "most", "letters"] (sp__law_copies K) := by
  obtain ⟨f__law_grown, fd__law_grown, G0__law_grown, g__law_grown, k__law_grown, b__law_grown⟩ := H__law_grown
  have G__law_grown := G0__law_grown.mono (show 2 ≤ 2 by decide)
  obtain ⟨f__law_take, fd__law_take, G0__law_take, g__law_take, k__law_take, b__law_take⟩ := H__law_take
  have G__law_take := G0__law_take.mono (show 1 ≤ 2 by decide)
  refine FnDok F sc__law_copies (fun vs H Q E h => ?_) (fun cdv A outer s H0 vs Q E gd hr h => ?_)
  · obtain ⟨_, _, _, _, _, _, _, _, _, rfl, _⟩ := h
    rfl
  · obtain ⟨F0, p_pool, vs_pool, x_pool, v_most, x_most, v_letters, x_letters, r0, rfl, hs0, fr_pool, hp_pool, al_pool, r_most, r_letters, hm, hk⟩ := h
    have g0 : Gr [p_pool] F0 H0 F0 H0 := Gr.refl hs0
    have m1 : Mu [p_pool] H0 F0 H0 p_pool (.lst vs_pool) := ⟨fr_pool, hp_pool, .inr (by simp)⟩
    have er_most : v_most = V.int x_most := r_most
    subst er_most
    refine ⟨_, PSs.nox (pss_cons (ps_set (i := 3) sc__law_copies.nd rfl (by first | exact Or.inl rfl | exact Or.inr rfl) (pe_callG G__law_grown gd hr (by rfl) g__law_grown k__law_grown b__law_grown pass0 (pa_cons (pv 0) (pa_cons (pe_op op_add pe_int (pe_callG G__law_take gd hr (by rfl) g__law_take k__law_take b__law_take pass0 (pa_cons (pv 0) (pa_cons pe_int pa_nil)))) (pa_cons pe_int (pa_cons (pv 2) pa_nil))))))
(pss_cons (ps_set (i := 4) sc__law_copies.nd rfl (by first | exact Or.inl rfl | exact Or.inr rfl) (pe_callG G__law_take gd hr (by rfl) g__law_take k__law_take b__law_take pass0 (pa_cons (pv 0) (pa_cons pe_int pa_nil))))
(pss_cons (ps_set (i := 5) sc__law_copies.nd rfl (by first | exact Or.inl rfl | exact Or.inr rfl) (pe_lst (pa_cons (pe_un un_neg pe_int) pa_nil)))
(pss_cons (ps_set (i := 6) sc__law_copies.nd rfl (by first | exact Or.inl rfl | exact Or.inr rfl) (pe_ix (c_ixL (K := K) rfl) (pv 2) (pe_callG G__law_take gd hr (by rfl) g__law_take k__law_take b__law_take pass0 (pa_cons (pv 0) (pa_cons (pe_callB (c_len (K := K) rfl) (by rfl) b_len bo_len (pa_cons (pv 2) pa_nil)) pa_nil))) (fun _ _ => rfl)))
(pss_cons (ps_for PassesOwn.never rfl (pi_range1 (by rfl) b_range (pa_cons (pe_op op_add pe_int (pe_callG G__law_take gd hr (by rfl) g__law_take k__law_take b__law_take pass0 (pa_cons (pv 0) (pa_cons pe_int pa_nil)))) pa_nil)) (pg_name (i := 7) sc__law_copies.nd rfl (by first | exact Or.inl rfl | exact Or.inr rfl)) (pss_one (ps_if (pt_cmpR op_le (pe_op op_add (pe_callB (c_len (K := K) rfl) (by rfl) b_len bo_len (pa_cons (pv 5) pa_nil)) (pe_callB (c_len (K := K) rfl) (by rfl) b_len bo_len (pa_cons (pe_ix (c_ixT (K := K) rfl) (pv 3) pe_int (fun _ _ => rfl)) pa_nil))) (pv 1) (nomark _)) (pss_cons (ps_set (i := 8) sc__law_copies.nd rfl (by first | exact Or.inl rfl | exact Or.inr rfl) (pe_callB (c_len (K := K) rfl) (by rfl) b_len bo_len (pa_cons (pv 5) pa_nil)))
(pss_cons (ps_expr (c_bm (K := K) rfl PySem.F.plainAttrs_list PySem.F.slot_list_extend PySem.F.type_list_extend mt_extend (pv 5) (pa_cons (pe_op op_cat (pe_lst (pa_cons (pe_ix (c_ixL (K := K) rfl) (pe_lst (pa_cons pe_int (pa_cons (pe_op op_sub (pv 8) pe_int) pa_nil))) (pv 4) (fun _ _ => rfl)) pa_nil)) (pe_lc (own := [("up", 9)]) (g := gName 9) (by rfl) sc__law_copies.nd (c_pitup (K := K) rfl (pe_slice (c_slT (K := K) rfl) (pe_ix (c_ixT (K := K) rfl) (pv 3) pe_int (fun _ _ => rfl)) (po_some pe_int) po_none)) (blkOk_by (own := [("up", 9)]) (N := ["pool", "most", "letters", "one", "chain", "ups", "labels", "turn", "here", "up"]) (sc := defScope s__law_copies) (by decide +kernel)) (fun _ _ _ _ _ => (pg_name (i := 9) sc__law_copies.nd rfl (Or.inl rfl))) (fun _ _ _ _ _ => pts_nil) (fun _ _ _ _ _ => (pe_op op_add (pv 9) (pv 8))))) pa_nil)))
(pss_one (ps_set (i := 6) sc__law_copies.nd rfl (by first | exact Or.inl rfl | exact Or.inr rfl) (pe_op c_catS (pv 6) (pe_ix (c_ixT (K := K) rfl) (pv 3) pe_int (fun _ _ => rfl))))))) pss_nil)))
(pss_one (ps_ret (pe_tup (pa_cons (pe_callTy (c_tuple (K := K) rfl) (by rfl) b_tuple bo_tuple (pa_cons (pv 5) pa_nil)) (pa_cons (pv 6) pa_nil)))))))))), ?_⟩
    refine n_seq ?_
    refine n_asg ?_
    refine n_call ?_
    refine n_cons ?_
    refine n_var rfl ?_
    refine n_cons ?_
    refine n_op ?_
    refine n_c ?_
    refine n_call ?_
    refine n_cons ?_
    refine n_var rfl ?_
    refine n_cons ?_
    refine n_c ?_
    refine n_nil ?_
    obtain ⟨r2, hr2, hm⟩ := bnd hm
    refine ⟨F0, p_pool, vs_pool, x_pool, .int (6 : Int), (6 : Int), r2, rfl, g0.fh, m1.fr, m1.hp, al_pool, rfl, hr2, fun v9 F3 H4 vs6 d5 hp7 al8 r10 => ?_⟩
    have g11 := g0.trans d5 (fun a ha => (List.mem_cons.mp ha).elim (fun e => e ▸ m1.own) (fun ha => absurd ha (by simp)))
    have m12 := m1.back d5 hp7
    have er10 : v9 = V.int r2.1 := r10
    subst er10
    refine v_i2 ?_
    refine n_cons ?_
    refine n_c ?_
    refine n_cons ?_
    refine n_var rfl ?_
    refine n_nil ?_
    obtain ⟨r13, hr13, hm⟩ := bnd hm
    refine ⟨F3, p_pool, vs6, r2.2, .int ((1 : Int) + r2.1), ((1 : Int) + r2.1), .int (2 : Int), (2 : Int), v_letters, x_letters, r13, rfl, g11.fh, m12.fr, m12.hp, al8, rfl, rfl, (Rp.mono (eL eS) d5.ff r_letters), hr13, fun v20 F14 H15 vs17 d16 hp18 al19 r21 => ?_⟩
    have g22 := g11.trans d16 (fun a ha => (List.mem_cons.mp ha).elim (fun e => e ▸ m12.own) (fun ha => absurd ha (by simp)))
    have m23 := m12.back d16 hp18
    refine n_name (setS (setS (setS set0))) ?_
    refine n_seq ?_
    refine n_asg ?_
    refine n_call ?_
    refine n_cons ?_
    refine n_var rfl ?_
    refine n_cons ?_
    refine n_c ?_
    refine n_nil ?_
    obtain ⟨r24, hr24, hm⟩ := bnd hm
    refine ⟨F14, p_pool, vs17, r13.2, .int (2 : Int), (2 : Int), r24, rfl, g22.fh, m23.fr, m23.hp, al19, rfl, hr24, fun v31 F25 H26 vs28 d27 hp29 al30 r32 => ?_⟩
    have g33 := g22.trans d27 (fun a ha => (List.mem_cons.mp ha).elim (fun e => e ▸ m23.own) (fun ha => absurd ha (by simp)))
    have m34 := m23.back d27 hp29
    have er32 : v31 = V.int r24.1 := r32
    subst er32
    refine n_name (setS (setS (setS (setS set0)))) ?_
    refine n_seq ?_
    refine n_asg ?_
    refine n_lst ?_
    refine n_cons ?_
    refine n_un ?_
    refine n_c ?_
    refine v_neg ?_
    refine n_nil ?_
    have al42 : Al eI F25 [.int (-(1 : Int))] [(-1 : Int)] := (.cons rfl .nil)
    refine v_mkLM g33.fh rfl fun p35 H36 np37 d38 fp39 hp40 => ?_
    have go43 := g33.old np37
    have ne44 := m34.ne np37
    have g45 := g33.trans0 d38
    have m46 := m34.call0 d38
    have m47 : Mu [p_pool] H0 F25 H36 p35 (.lst [.int (-(1 : Int))]) := ⟨fp39, hp40, .inl go43⟩
    refine n_name (setS (setS (setS (setS (setS set0))))) ?_
    refine n_seq ?_
    refine n_asg ?_
    refine n_op ?_
    refine n_var rfl ?_
    refine n_call ?_
    refine n_cons ?_
    refine n_var rfl ?_
    refine n_cons ?_
    refine n_cb ?_
    refine n_cons ?_
    refine n_var rfl ?_
    refine n_nil ?_
    obtain ⟨p48, vs49, ep48, q50, al51⟩ := (Rp.mono (eL eS) (Sub.trans d5.ff (Sub.trans d16.ff d27.ff)) r_letters)
    subst ep48
    refine v_len (.inl (SqL.of (g45.fh _ _ q50))) al51 ?_
    refine n_nil ?_
    obtain ⟨r52, hr52, hm⟩ := bnd hm
    refine ⟨F25, p_pool, vs28, r24.2, .int (x_letters.length : Int), (x_letters.length : Int), r52, rfl, g45.fh, m46.fr, m46.hp, al30, rfl, hr52, fun v59 F53 H54 vs56 d55 hp57 al58 r60 => ?_⟩
    have g61 := g45.trans d55 (fun a ha => (List.mem_cons.mp ha).elim (fun e => e ▸ m46.own) (fun ha => absurd ha (by simp)))
    have m62 := m46.back d55 hp57
    have m63 := m47.call d55 (nin1 (Ne.symm ne44))
    have er60 : v59 = V.int r52.1 := r60
    subst er60
    obtain ⟨a64, ha64, hm⟩ := bnd hm
    refine v_ixL (SqL.of (g61.fh _ _ (d55.ff _ _ q50))) (Al.mono al51 d55.ff) ha64 fun v65 r66 => ?_
    obtain ⟨er66, lr66⟩ : v65 = V.str (S a64) ∧ a64.length ≤ sizeLine := r66
    subst er66
    refine n_name (setS (setS (setS (setS (setS (setS set0)))))) ?_
    refine n_seq ?_
    refine n_for ?_
    refine n_rng1 ?_
    refine n_cons ?_
    refine n_op ?_
    refine n_c ?_
    refine n_call ?_
    refine n_cons ?_
    refine n_var rfl ?_
    refine n_cons ?_
    refine n_c ?_
    refine n_nil ?_
    obtain ⟨r67, hr67, hm⟩ := bnd hm
    refine ⟨F53, p_pool, vs56, r52.2, .int (12 : Int), (12 : Int), r67, rfl, g61.fh, m62.fr, m62.hp, al58, rfl, hr67, fun v74 F68 H69 vs71 d70 hp72 al73 r75 => ?_⟩
    have g76 := g61.trans d70 (fun a ha => (List.mem_cons.mp ha).elim (fun e => e ▸ m62.own) (fun ha => absurd ha (by simp)))
    have m77 := m62.back d70 hp72
    have m78 := m63.call d70 (nin1 (Ne.symm ne44))
    have er75 : v74 = V.int r67.1 := r75
    subst er75
    refine v_i2 ?_
    refine n_nil ?_
    obtain ⟨l79, hl79, hm⟩ := bnd hm
    refine v_rng1 hl79 ?_
    obtain ⟨s80, hs80, hm⟩ := bnd hm
    refine for_o (sr_R1 hl79) hs80 (fun (s7 : Sg × List Int) σ7 H7 => ∃ (F7 : Hp) (o_turn : Option V) (o_here : Option V) (us_ups : List V), σ7 = [some (.ref p_pool), some (.int x_most), some (.ref p48), some v20, some (.int r24.1), some (.ref p35), some (.str (S s7.1)), o_turn, o_here, none] ∧ Gr [p_pool] F0 H0 F7 H7 ∧ Sub F68 F7 ∧ s7.1.length ≤ sizeLine ∧ Mu [p_pool] H0 F7 H7 p35 (.lst us_ups) ∧ Al eI F7 us_ups s7.2 ∧ Mu [p_pool] H0 F7 H7 p_pool (.lst vs71)) ⟨_, _, _, [.int (-(1 : Int))], rfl, g76, Sub.refl _, lr66, m78, (Al.mono al42 (Sub.trans d55.ff d70.ff)), m77⟩ ?_ ?_ ?_
    · intros; exact trivial
    · rintro a81 s82 s83 x84 _ H85 H86 ⟨F90, o93, o94, vs95, rfl, g91, sb92, l96, m97, al98, m99⟩ hY87 hm N88 hN89
      refine v_nmR hY87 ?_
      refine n_name (setS (setS (setS (setS (setS (setS (setS set0))))))) ?_
      refine n_ifs ?_
      refine n_test ?_
      refine n_op ?_
      refine n_op ?_
      refine n_cb ?_
      refine n_cons ?_
      refine n_var rfl ?_
      refine n_nil ?_
      refine v_len (.inl m97.l) al98 ?_
      refine n_cb ?_
      refine n_cons ?_
      refine n_op ?_
      refine n_var rfl ?_
      refine n_c ?_
      refine v_ix20 g91.fh (Rp.mono (eP2 (eT eI) eS) (Sub.trans d27.ff (Sub.trans d55.ff (Sub.trans d70.ff sb92))) r21) fun v100 r101 => ?_
      refine n_nil ?_
      obtain ⟨p102, vs103, ep102, q104, al105⟩ := r101
      subst ep102
      refine v_len (.inr (SqT.of (g91.fh _ _ q104))) al105 ?_
      refine v_i2 ?_
      refine n_var rfl ?_
      refine v_i2 ?_
      refine v_bl ?_
      refine br (fun hb106 => ?_) (fun hb106 => ?_)
      · replace hm := ifT hb106 hm
        refine n_seq ?_
        refine n_asg ?_
        refine n_cb ?_
        refine n_cons ?_
        refine n_var rfl ?_
        refine n_nil ?_
        refine v_len (.inl m97.l) al98 ?_
        refine n_name (setS (setS (setS (setS (setS (setS (setS (setS set0)))))))) ?_
        refine n_seq ?_
        refine n_drop ?_
        refine n_bm ?_
        refine n_var rfl ?_
        refine ⟨tyL m97.l, ?_⟩
        refine n_cons ?_
        refine n_op ?_
        refine n_lst ?_
        refine n_cons ?_
        refine n_op ?_
        refine n_lst ?_
        refine n_cons ?_
        refine n_c ?_
        refine n_cons ?_
        refine n_op ?_
        refine n_var rfl ?_
        refine n_c ?_
        refine v_i2 ?_
        refine n_nil ?_
        refine v_mkLF (t := eI) (xs := [(0 : Int), ((s82.2.length : Int) - (1 : Int))]) g91.fh (.cons rfl (.cons rfl .nil)) rfl fun p116 F117 H118 d119 q120 al121 => ?_
        have g122 := g91.trans0 d119
        have m123 := m99.call0 d119
        have m124 := m97.call0 d119
        refine n_var rfl ?_
        obtain ⟨a125, ha125, hm⟩ := bnd hm
        refine v_ixL (SqL.of (g122.fh _ _ q120)) al121 ha125 fun v126 r127 => ?_
        have er127 : v126 = V.int a125 := r127
        subst er127
        refine n_nil ?_
        refine v_mkLF (t := eI) (xs := [a125]) g122.fh (.cons rfl .nil) rfl fun p128 F129 H130 d131 q132 al133 => ?_
        have g134 := g122.trans0 d131
        have m135 := m123.call0 d131
        have m136 := m124.call0 d131
        refine n_lc ?_
        refine n_itT ?_
        refine n_sl ?_
        refine n_op ?_
        refine n_var rfl ?_
        refine n_c ?_
        refine v_ix20 g134.fh (Rp.mono (eP2 (eT eI) eS) (Sub.trans d27.ff (Sub.trans d55.ff (Sub.trans d70.ff (Sub.trans sb92 (Sub.trans d119.ff d131.ff))))) r21) fun v153 r154 => ?_
        refine n_part ?_
        refine n_c ?_
        refine v_part ?_
        refine n_nopart ?_
        obtain ⟨p155, vs156, ep155, q157, al158⟩ := r154
        subst ep155
        refine v_slT g134.fh q157 al158 fun p159 vs160 F161 H162 d163 q164 al165 => ?_
        have g166 := g134.trans0 d163
        have m167 := m135.call0 d163
        have m168 := m136.call0 d163
        refine v_itT (SqT.of (g166.fh _ _ q164)) ?_
        obtain ⟨u171, hu171, hm⟩ := bnd hm
        obtain ⟨q172, hq172, hm⟩ := bnd hm
        intro D169 nD170
        have goD169 := g166.old nD170
        have neD169_p_pool := m167.ne nD170
        have neD169_p35 := m168.ne nD170
        have gg201 := gr_newM (W := []) (o := .lst []) g166.fh nD170
        refine comp_s (sr_T al165) hq172 (need_ok hu171).1 (fun (acc7 : List Int) H7 => ∃ (F7 : Hp) (vs7 : List V), Gr [p_pool] F0 H0 F7 H7 ∧ Sub F161 F7 ∧ F7 D169 = none ∧ H7 D169 = some (.lst vs7) ∧ Al eI F7 vs7 acc7 ∧ Mu [p_pool] H0 F7 H7 p_pool (.lst vs71) ∧ Mu [p_pool] H0 F7 H7 p35 (.lst vs95)) ⟨_, [], g166.trans0 gg201, Sub.refl _, g166.fh.nn nD170, upd_same, .nil, m167.call0 gg201, m168.call0 gg201⟩ ?_ ?_ ?_
        · rintro _ _ ⟨F184, vs185, g186, sb187, _, _, _, _, _⟩
          exact (SqT.of (g186.fh _ _ (sb187 _ _ q164)))
        · rintro a173 r175 acc176 x177 H178 H179 ⟨F184, vs185, g186, sb187, fD188, hD189, al190, m191, m193⟩ hY180 hm hl183 N181 hN182
          have m195 : Mu [p_pool] H0 F184 H178 D169 (.lst vs185) := ⟨fD188, hD189, .inl goD169⟩
          refine wipe_to (σ' := [some (.ref p_pool), some (.int x_most), some (.ref p48), some v20, some (.int r24.1), some (.ref p35), some (.str (S s82.1)), some (.int a81), some (.int (s82.2.length : Int)), none]) rfl ?_
          refine v_nmY hY180 fun r196 => ?_
          have er196 : x177 = V.int a173 := r196
          subst er196
          refine n_name (setS (setS (setS (setS (setS (setS (setS (setS (setS set0))))))))) ?_
          refine ⟨rfl, ?_⟩
          refine n_yes ?_ rfl
          refine n_op ?_
          refine n_var rfl ?_
          refine n_var rfl ?_
          refine v_i2 ?_
          obtain rfl := Option.some.inj hm
          refine ⟨_, m195.hp, by rw [al_len al190]; exact hl183, hN182 _ ?_⟩
          exact ⟨_, _, m195.gr g186, sb187, m195.fr, upd_same, pd_snoc al190 (show eI.r F184 (.int (a173 + (s82.2.length : Int))) (a173 + (s82.2.length : Int)) from rfl), m191.mut neD169_p_pool, m193.mut neD169_p35⟩
        rintro H202 ⟨F203, vs204, g205, sb206, fD207, hD208, al209, m210, m212⟩
        have m214 : Mu [p_pool] H0 F203 H202 D169 (.lst vs204) := ⟨fD207, hD208, .inl goD169⟩
        obtain ⟨F215, q217, sb219, g218, d216⟩ := freeze g205 m214 (m214.own.resolve_right (nin1 (Ne.symm neD169_p_pool)))
        have m220 := d216 _ _ neD169_p_pool m210
        have m221 := d216 _ _ neD169_p35 m212
        have al222 := (Al.mono al209 sb219)
        obtain ⟨l223, hl223, hm⟩ := bnd hm
        refine v_catF g218.fh (g218.fh _ _ ((Sub.trans d163.ff (Sub.trans sb206 sb219)) _ _ q132)) (g218.fh _ _ q217) (Al.mono al133 (Sub.trans d163.ff (Sub.trans sb206 sb219))) al222 hl223 fun p224 vs225 F227 H228 d229 q230 al226 => ?_
        have g231 := g218.trans0 d229
        have m232 := m220.call0 d229
        have m233 := m221.call0 d229
        refine n_nil ?_
        obtain ⟨l234, hl234, hm⟩ := bnd hm
        obtain ⟨vs237, H235, g238, al236, evs237, eH235⟩ := ext_ok g231 m233 (Al.mono al98 (Sub.trans d119.ff (Sub.trans d131.ff (Sub.trans d163.ff (Sub.trans sb206 (Sub.trans sb219 d229.ff)))))) al226 hl234
        refine v_extend m233.hp (g231.fh _ _ q230) (cat_le (Al.mono al98 (Sub.trans d119.ff (Sub.trans d131.ff (Sub.trans d163.ff (Sub.trans sb206 (Sub.trans sb219 d229.ff)))))) al226 hl234) ?_
        rw [← evs237, ← eH235]
        have m239 := mu_oth m232 ne44 eH235
        have m240 := mu_self m233 eH235
        refine n_asg ?_
        refine n_op ?_
        refine n_var rfl ?_
        refine n_op ?_
        refine n_var rfl ?_
        refine n_c ?_
        refine v_ix21 g238.fh (Rp.mono (eP2 (eT eI) eS) (Sub.trans d27.ff (Sub.trans d55.ff (Sub.trans d70.ff (Sub.trans sb92 (Sub.trans d119.ff (Sub.trans d131.ff (Sub.trans d163.ff (Sub.trans sb206 (Sub.trans sb219 d229.ff))))))))) r21) fun v241 r242 => ?_
        obtain ⟨er242, lr242⟩ : v241 = V.str (S r13.1.2) ∧ r13.1.2.length ≤ sizeLine := r242
        subst er242
        obtain ⟨t243, ht243, hm⟩ := bnd hm
        refine v_catS ht243 ?_
        refine n_name (setS (setS (setS (setS (setS (setS set0)))))) ?_
        obtain rfl := Option.some.inj hm
        exact hN89 _ _ ⟨_, _, _, vs237, rfl, g238, (Sub.trans sb92 (Sub.trans d119.ff (Sub.trans d131.ff (Sub.trans d163.ff (Sub.trans sb206 (Sub.trans sb219 d229.ff)))))), (catM_le ht243), m240, al236, m239⟩
      replace hm := ifF hb106 hm
      refine n_nextS ?_
      obtain rfl := Option.some.inj hm
      exact hN89 _ _ ⟨_, _, _, vs95, rfl, g91, sb92, l96, m97, al98, m99⟩
    rintro _ H244 ⟨F245, o248, o249, vs250, rfl, g246, sb247, l251, m252, al253, m254⟩
    refine n_ret ?_
    refine n_tup ?_
    refine n_cons ?_
    refine n_cb ?_
    refine n_cons ?_
    refine n_var rfl ?_
    refine n_nil ?_
    refine v_tuple g246.fh m252.l al253 fun p255 F256 H257 d258 q259 al260 => ?_
    have g261 := g246.trans0 d258
    have m262 := m254.call0 d258
    have m263 := m252.call0 d258
    refine n_cons ?_
    refine n_var rfl ?_
    refine n_nil ?_
    refine v_mk2 g261.fh (show (eT eI).r F256 (.ref p255) s80.2 from (⟨p255, vs250, rfl, q259, al260⟩ : (eT eI).r F256 (.ref p255) s80.2)) (show eS.r F256 (.str (S s80.1)) s80.1 from ⟨rfl, l251⟩) fun v264 F265 H266 d267 r268 => ?_
    have g269 := g261.trans0 d267
    have m270 := m262.call0 d267
    have m271 := m263.call0 d267
    obtain rfl := Option.some.inj hm
    exact hk _ _ _ _ g269 m270.hp (Al.mono al73 (Sub.trans sb247 (Sub.trans d258.ff d267.ff))) r268

def m__law_tree (x_pool : List Int) (x_most : Int) (x_letters : List Sg) : Option ((List Int × Sg) × List Int) :=
  (m__law_take x_pool (8 : Int)).bind fun r2 =>
  (m__law_take r2.2 (9 : Int)).bind fun r43 =>
  (m__law_take r43.2 x_most).bind fun r54 =>
  (m__law_take r54.2 (3 : Int)).bind fun r73 =>
  (atI [((1 : Int) + r43.1), ((1 : Int) + r54.1), x_most] r73.1).bind fun a84 =>
  if (decide ((5 : Int) < r2.1)) = true then
  (m__law_copies r73.2 x_most x_letters).bind fun r88 =>
  some (r88.1, r88.2)
  else
  (m__law_grown r73.2 a84 r2.1 x_letters).bind fun r99 =>
  some (r99.1, r99.2)
def sp__law_tree (K : PySem.W.Frag) : Sp := fun vs H Q _ => ∃ (F : Hp) (p_pool : Addr) (vs_pool : List V) (x_pool : List Int) (v_most : V) (x_most : Int) (v_letters : V) (x_letters : List Sg) (r : ((List Int × Sg) × List Int)), vs = [.ref p_pool, v_most, v_letters] ∧ Sub F H ∧ F p_pool = none ∧ H p_pool = some (.lst vs_pool) ∧ Al eI F vs_pool x_pool ∧ eI.r F v_most x_most ∧ (eL eS).r F v_letters x_letters ∧ m__law_tree x_pool x_most x_letters = some r ∧ ∀ (v : V) (F' H' : Hp) (us_pool : List V), Gr [p_pool] F H F' H' → H' p_pool = some (.lst us_pool) → Al eI F' us_pool r.2 → (eP2 (eT eI) eS).r F' v r.1 → Q v H'
theorem sc__law_tree : FnScope ["pool", "most", "letters", "kind", "many"] ["pool", "most", "letters"] (defScope s__law_tree) := ⟨rfl, rfl, rfl, by decide +kernel, rfl, by decide +kernel, by decide +kernel⟩
theorem ok__law_tree {f : Addr} {fd : FuncData} (F : FnP K "_law_tree" s__law_tree f fd) (H__law_take : HasG P w K mg base "_law_take" ["pool", "many"] 1 (sp__law_take K)) (H__law_grown : HasG P w K mg base "_law_grown" ["pool", "many", "kind", "letters"] 2 (sp__law_grown K)) (H__law_copies : HasG P w K mg base "_law_copies" ["pool", "most", "letters"] 3 (sp__law_copies K)) : FnG P w K mg base CX0 4 f fd ["pool", "most", "letters"] (sp__law_tree K) := by
  obtain ⟨f__law_take, fd__law_take, G0__law_take, g__law_take, k__law_take, b__law_take⟩ := H__law_take
  have G__law_take := G0__law_take.mono (show 1 ≤ 3 by decide)
  obtain ⟨f__law_grown, fd__law_grown, G0__law_grown, g__law_grown, k__law_grown, b__law_grown⟩ := H__law_grown
  have G__law_grown := G0__law_grown.mono (show 2 ≤ 3 by decide)
  obtain ⟨f__law_copies, fd__law_copies, G0__law_copies, g__law_copies, k__law_copies, b__law_copies⟩ := H__law_copies
  have G__law_copies := G0__law_copies.mono (show 3 ≤ 3 by decide)
  refine FnDok F sc__law_tree (fun vs H Q E h => ?_) (fun cdv A outer s H0 vs Q E gd hr h => ?_)
  · obtain ⟨_, _, _, _, _, _, _, _, _, rfl, _⟩ := h
    rfl
  · obtain ⟨F0, p_pool, vs_pool, x_pool, v_most, x_most, v_letters, x_letters, r0, rfl, hs0, fr_pool, hp_pool, al_pool, r_most, r_letters, hm, hk⟩ := h
    have g0 : Gr [p_pool] F0 H0 F0 H0 := Gr.refl hs0
    have m1 : Mu [p_pool] H0 F0 H0 p_pool (.lst vs_pool) := ⟨fr_pool, hp_pool, .inr (by simp)⟩
    have er_most : v_most = V.int x_most := r_most
    subst er_most
    refine ⟨_, PSs.nox (pss_cons (ps_set (i := 3) sc__law_tree.nd rfl (by first | exact Or.inl rfl | exact Or.inr rfl) (pe_callG G__law_take gd hr (by rfl) g__law_take k__law_take b__law_take pass0 (pa_cons (pv 0) (pa_cons pe_int pa_nil))))
(pss_cons (ps_set (i := 4) sc__law_tree.nd rfl (by first | exact Or.inl rfl | exact Or.inr rfl) (pe_ix (c_ixL (K := K) rfl) (pe_lst (pa_cons (pe_op op_add pe_int (pe_callG G__law_take gd hr (by rfl) g__law_take k__law_take b__law_take pass0 (pa_cons (pv 0) (pa_cons pe_int pa_nil)))) (pa_cons (pe_op op_add pe_int (pe_callG G__law_take gd hr (by rfl) g__law_take k__law_take b__law_take pass0 (pa_cons (pv 0) (pa_cons (pv 1) pa_nil)))) (pa_cons (pv 1) pa_nil)))) (pe_callG G__law_take gd hr (by rfl) g__law_take k__law_take b__law_take pass0 (pa_cons (pv 0) (pa_cons pe_int pa_nil))) (fun _ _ => rfl)))
(pss_cons (ps_if (pt_cmpR op_gt (pv 3) pe_int (nomark _)) (pss_one (ps_ret (pe_callG G__law_copies gd hr (by rfl) g__law_copies k__law_copies b__law_copies pass0 (pa_cons (pv 0) (pa_cons (pv 1) (pa_cons (pv 2) pa_nil)))))) pss_nil)
(pss_one (ps_ret (pe_callG G__law_grown gd hr (by rfl) g__law_grown k__law_grown b__law_grown pass0 (pa_cons (pv 0) (pa_cons (pv 4) (pa_cons (pv 3) (pa_cons (pv 2) pa_nil)))))))))), ?_⟩
    refine n_seq ?_
    refine n_asg ?_
    refine n_call ?_
    refine n_cons ?_
    refine n_var rfl ?_
    refine n_cons ?_
    refine n_c ?_
    refine n_nil ?_
    obtain ⟨r2, hr2, hm⟩ := bnd hm
    refine ⟨F0, p_pool, vs_pool, x_pool, .int (8 : Int), (8 : Int), r2, rfl, g0.fh, m1.fr, m1.hp, al_pool, rfl, hr2, fun v9 F3 H4 vs6 d5 hp7 al8 r10 => ?_⟩
    have g11 := g0.trans d5 (fun a ha => (List.mem_cons.mp ha).elim (fun e => e ▸ m1.own) (fun ha => absurd ha (by simp)))
    have m12 := m1.back d5 hp7
    have er10 : v9 = V.int r2.1 := r10
    subst er10
    refine n_name (setS (setS (setS set0))) ?_
    refine n_seq ?_
    refine n_asg ?_
    refine n_op ?_
    refine n_lst ?_
    refine n_cons ?_
    refine n_op ?_
    refine n_c ?_
    refine n_call ?_
    refine n_cons ?_
    refine n_var rfl ?_
    refine n_cons ?_
    refine n_c ?_
    refine n_nil ?_
    obtain ⟨r43, hr43, hm⟩ := bnd hm
    refine ⟨F3, p_pool, vs6, r2.2, .int (9 : Int), (9 : Int), r43, rfl, g11.fh, m12.fr, m12.hp, al8, rfl, hr43, fun v50 F44 H45 vs47 d46 hp48 al49 r51 => ?_⟩
    have g52 := g11.trans d46 (fun a ha => (List.mem_cons.mp ha).elim (fun e => e ▸ m12.own) (fun ha => absurd ha (by simp)))
    have m53 := m12.back d46 hp48
    have er51 : v50 = V.int r43.1 := r51
    subst er51
    refine v_i2 ?_
    refine n_cons ?_
    refine n_op ?_
    refine n_c ?_
    refine n_call ?_
    refine n_cons ?_
    refine n_var rfl ?_
    refine n_cons ?_
    refine n_var rfl ?_
    refine n_nil ?_
    obtain ⟨r54, hr54, hm⟩ := bnd hm
    refine ⟨F44, p_pool, vs47, r43.2, .int x_most, x_most, r54, rfl, g52.fh, m53.fr, m53.hp, al49, rfl, hr54, fun v61 F55 H56 vs58 d57 hp59 al60 r62 => ?_⟩
    have g63 := g52.trans d57 (fun a ha => (List.mem_cons.mp ha).elim (fun e => e ▸ m53.own) (fun ha => absurd ha (by simp)))
    have m64 := m53.back d57 hp59
    have er62 : v61 = V.int r54.1 := r62
    subst er62
    refine v_i2 ?_
    refine n_cons ?_
    refine n_var rfl ?_
    refine n_nil ?_
    refine v_mkLF (t := eI) (xs := [((1 : Int) + r43.1), ((1 : Int) + r54.1), x_most]) g63.fh (.cons rfl (.cons rfl (.cons rfl .nil))) rfl fun p65 F66 H67 d68 q69 al70 => ?_
    have g71 := g63.trans0 d68
    have m72 := m64.call0 d68
    refine n_call ?_
    refine n_cons ?_
    refine n_var rfl ?_
    refine n_cons ?_
    refine n_c ?_
    refine n_nil ?_
    obtain ⟨r73, hr73, hm⟩ := bnd hm
    refine ⟨F66, p_pool, vs58, r54.2, .int (3 : Int), (3 : Int), r73, rfl, g71.fh, m72.fr, m72.hp, (Al.mono al60 d68.ff), rfl, hr73, fun v80 F74 H75 vs77 d76 hp78 al79 r81 => ?_⟩
    have g82 := g71.trans d76 (fun a ha => (List.mem_cons.mp ha).elim (fun e => e ▸ m72.own) (fun ha => absurd ha (by simp)))
    have m83 := m72.back d76 hp78
    have er81 : v80 = V.int r73.1 := r81
    subst er81
    obtain ⟨a84, ha84, hm⟩ := bnd hm
    refine v_ixL (SqL.of (g82.fh _ _ (d76.ff _ _ q69))) (Al.mono al70 d76.ff) ha84 fun v85 r86 => ?_
    have er86 : v85 = V.int a84 := r86
    subst er86
    refine n_name (setS (setS (setS (setS set0)))) ?_
    refine n_seq ?_
    refine n_ifs ?_
    refine n_test ?_
    refine n_op ?_
    refine n_var rfl ?_
    refine n_c ?_
    refine v_i2 ?_
    refine v_bl ?_
    refine br (fun hb87 => ?_) (fun hb87 => ?_)
    · replace hm := ifT hb87 hm
      refine n_ret ?_
      refine n_call ?_
      refine n_cons ?_
      refine n_var rfl ?_
      refine n_cons ?_
      refine n_var rfl ?_
      refine n_cons ?_
      refine n_var rfl ?_
      refine n_nil ?_
      obtain ⟨r88, hr88, hm⟩ := bnd hm
      refine ⟨F74, p_pool, vs77, r73.2, .int x_most, x_most, v_letters, x_letters, r88, rfl, g82.fh, m83.fr, m83.hp, al79, rfl, (Rp.mono (eL eS) (Sub.trans d5.ff (Sub.trans d46.ff (Sub.trans d57.ff (Sub.trans d68.ff d76.ff)))) r_letters), hr88, fun v95 F89 H90 vs92 d91 hp93 al94 r96 => ?_⟩
      have g97 := g82.trans d91 (fun a ha => (List.mem_cons.mp ha).elim (fun e => e ▸ m83.own) (fun ha => absurd ha (by simp)))
      have m98 := m83.back d91 hp93
      obtain rfl := Option.some.inj hm
      exact hk _ _ _ _ g97 m98.hp al94 r96
    replace hm := ifF hb87 hm
    refine n_nextS ?_
    refine n_ret ?_
    refine n_call ?_
    refine n_cons ?_
    refine n_var rfl ?_
    refine n_cons ?_
    refine n_var rfl ?_
    refine n_cons ?_
    refine n_var rfl ?_
    refine n_cons ?_
    refine n_var rfl ?_
    refine n_nil ?_
    obtain ⟨r99, hr99, hm⟩ := bnd hm
    refine ⟨F74, p_pool, vs77, r73.2, .int a84, a84, .int r2.1, r2.1, v_letters, x_letters, r99, rfl, g82.fh, m83.fr, m83.hp, al79, rfl, rfl, (Rp.mono (eL eS) (Sub.trans d5.ff (Sub.trans d46.ff (Sub.trans d57.ff (Sub.trans d68.ff d76.ff)))) r_letters), hr99, fun v106 F100 H101 vs103 d102 hp104 al105 r107 => ?_⟩
    have g108 := g82.trans d102 (fun a ha => (List.mem_cons.mp ha).elim (fun e => e ▸ m83.own) (fun ha => absurd ha (by simp)))
    have m109 := m83.back d102 hp104
    obtain rfl := Option.some.inj hm
    exact hk _ _ _ _ g108 m109.hp al105 r107

def m__law_ways (x_tree : (List Int × Sg)) : Option (List Sg) :=
  (foldO (enumL x_tree.1) ([] : List Sg) fun s29 a28 =>
  (if (decide ((0 : Int) ≤ a28.2)) = true then
  (atI s29 a28.2).bind fun a55 =>
  some a55
  else
  some ([] : Sg)).bind fun s52 =>
  (atI x_tree.2 a28.1).bind fun c68 =>
  (catM s52 [c68]).bind fun t69 =>
  (snocM s29 t69).bind fun l70 =>
  some l70).bind fun s18 =>
  some s18
def sp__law_ways (K : PySem.W.Frag) : Sp := fun vs H Q _ => ∃ (F : Hp) (v_tree : V) (x_tree : (List Int × Sg)) (r : List Sg), vs = [v_tree] ∧ Sub F H ∧ (eP2 (eT eI) eS).r F v_tree x_tree ∧ m__law_ways x_tree = some r ∧ ∀ (v : V) (F' H' : Hp) , Gr [] F H F' H' → New eS H F' H' v r → Q v H'
theorem sc__law_ways : FnScope ["tree", "found", "place", "up", "ahead"] ["tree"] (defScope s__law_ways) := ⟨rfl, rfl, rfl, by decide +kernel, rfl, by decide +kernel, by decide +kernel⟩
theorem ok__law_ways {f : Addr} {fd : FuncData} (F : FnP K "_law_ways" s__law_ways f fd) (b_enumerate : mg "enumerate" = none) : FnG P w K mg base CX0 1 f fd ["tree"] (sp__law_ways K) := by
  refine FnDok F sc__law_ways (fun vs H Q E h => ?_) (fun cdv A outer s H0 vs Q E gd hr h => ?_)
  · obtain ⟨_, _, _, _, rfl, _⟩ := h
    rfl
  · obtain ⟨F0, v_tree, x_tree, r0, rfl, hs0, r_tree, hm, hk⟩ := h
    have g0 : Gr [] F0 H0 F0 H0 := Gr.refl hs0
    refine ⟨_, PSs.nox (pss_cons (ps_set (i := 1) sc__law_ways.nd rfl (by first | exact Or.inl rfl | exact Or.inr rfl) (pe_lst pa_nil))
(pss_cons (ps_for PassesOwn.never rfl (pi_en (K := K) rfl (by rfl) b_enumerate (pa_cons (pe_ix (c_ixT (K := K) rfl) (pv 0) pe_int (fun _ _ => rfl)) pa_nil)) (c_pgtup (K := K) rfl (by rfl) (pgs_cons (pg_name (i := 2) sc__law_ways.nd rfl (by first | exact Or.inl rfl | exact Or.inr rfl)) (pgs_cons (pg_name (i := 3) sc__law_ways.nd rfl (by first | exact Or.inl rfl | exact Or.inr rfl)) pgs_nil))) (pss_cons (ps_set (i := 4) sc__law_ways.nd rfl (by first | exact Or.inl rfl | exact Or.inr rfl) pe_str)
(pss_cons (ps_if (pt_cmpR op_ge (pv 3) pe_int (nomark _)) (pss_one (ps_set (i := 4) sc__law_ways.nd rfl (by first | exact Or.inl rfl | exact Or.inr rfl) (pe_ix (c_ixL (K := K) rfl) (pv 1) (pv 3) (fun _ _ => rfl)))) pss_nil)
(pss_one (ps_expr (c_bm (K := K) rfl PySem.F.plainAttrs_list PySem.F.slot_list_append PySem.F.type_list_append mt_append (pv 1) (pa_cons (pe_op c_catS (pv 4) (pe_ix ix_str (pe_ix (c_ixT (K := K) rfl) (pv 0) pe_int (fun _ _ => rfl)) (pv 2) (fun _ _ => rfl))) pa_nil)))))))
(pss_one (ps_ret (pv 1))))), ?_⟩
    refine n_seq ?_
    refine n_asg ?_
    refine n_lst ?_
    refine n_nil ?_
    have al8 : Al eS F0 [] ([] : List Sg) := .nil
    refine v_mkLM g0.fh rfl fun p1 H2 np3 d4 fp5 hp6 => ?_
    have go9 := g0.old np3
    have g10 := g0.trans0 d4
    have m11 : Mu [] H0 F0 H2 p1 (.lst []) := ⟨fp5, hp6, .inl go9⟩
    refine n_name (setS set0) ?_
    refine n_seq ?_
    refine n_for ?_
    refine n_en ?_
    refine n_cons ?_
    refine n_op ?_
    refine n_var rfl ?_
    refine n_c ?_
    refine v_ix20 g10.fh r_tree fun v12 r13 => ?_
    refine n_nil ?_
    obtain ⟨p14, vs15, ep14, q16, al17⟩ := r13
    subst ep14
    refine v_en (k := (.t p14)) (vs := vs15) (SqT.of (g10.fh _ _ q16)) ?_
    obtain ⟨s18, hs18, hm⟩ := bnd hm
    refine for_o (sr_En (k := (.t p14)) al17) hs18 (fun (s7 : List Sg) σ7 H7 => ∃ (F7 : Hp) (o_place : Option V) (o_up : Option V) (o_ahead : Option V) (us_found : List V), σ7 = [some v_tree, some (.ref p1), o_place, o_up, o_ahead] ∧ Gr [] F0 H0 F7 H7 ∧ Sub F0 F7 ∧ Mu [] H0 F7 H7 p1 (.lst us_found) ∧ Al eS F7 us_found s7) ⟨_, _, _, _, [], rfl, g10, Sub.refl _, m11, al8⟩ ?_ ?_ ?_
    · rintro s7 _ H7 ⟨F19, o22, o23, o24, vs25, rfl, g20, sb21, m26, al27⟩
      exact (SqT.of (g20.fh _ _ (sb21 _ _ q16)))
    · rintro a28 s29 s30 x31 _ H32 H33 ⟨F37, o40, o41, o42, vs43, rfl, g38, sb39, m44, al45⟩ hY34 hm N35 hN36
      refine v_unpE g38.fh hY34 fun v47 d46 r48 => ?_
      have g49 := g38.trans0 d46
      have m50 := m44.call0 d46
      have er48 : v47 = V.int a28.2 := r48
      subst er48
      refine n_gcons ?_
      refine n_name (setS (setS set0)) ?_
      refine n_gcons ?_
      refine n_name (setS (setS (setS set0))) ?_
      refine n_gnil ?_
      refine n_seq ?_
      refine n_asg ?_
      refine n_str (s := []) (by decide +kernel) ?_
      refine n_name (setS (setS (setS (setS set0)))) ?_
      refine n_seq ?_
      refine n_ifs ?_
      refine n_test ?_
      refine n_op ?_
      refine n_var rfl ?_
      refine n_c ?_
      refine v_i2 ?_
      refine v_bl ?_
      obtain ⟨s52, hs52, hm⟩ := bnd hm
      refine br_join (fun σ7 H7 => ∃ (F7 : Hp), σ7 = [some v_tree, some (.ref p1), some (.int a28.1), some (.int a28.2), some (.str (S s52))] ∧ Gr [] F0 H0 F7 H7 ∧ Sub F37 F7 ∧ s52.length ≤ sizeLine ∧ Mu [] H0 F7 H7 p1 (.lst vs43)) ?_ (fun hb51 nx53 hnx54 => ?_) (fun hb51 nx53 hnx54 => ?_)
      rotate_left
      · have hm := ifT hb51 hs52
        refine n_asg ?_
        refine n_op ?_
        refine n_var rfl ?_
        refine n_var rfl ?_
        obtain ⟨a55, ha55, hm⟩ := bnd hm
        refine v_ixL m50.l al45 ha55 fun v56 r57 => ?_
        obtain ⟨er57, lr57⟩ : v56 = V.str (S a55) ∧ a55.length ≤ sizeLine := r57
        subst er57
        refine n_name (setS (setS (setS (setS set0)))) ?_
        obtain rfl := Option.some.inj hm
        exact hnx54 _ _ ⟨_, rfl, g49, Sub.refl _, lr57, m50⟩
      · have hm := ifF hb51 hs52
        refine n_nextS ?_
        obtain rfl := Option.some.inj hm
        exact hnx54 _ _ ⟨_, rfl, g49, Sub.refl _, (sz_ok (n := 0) rfl), m50⟩
      rintro _ H63 ⟨F58, rfl, g59, sb60, l61, m62⟩
      refine n_drop ?_
      refine n_bm ?_
      refine n_var rfl ?_
      refine ⟨tyL m62.l, ?_⟩
      refine n_cons ?_
      refine n_op ?_
      refine n_var rfl ?_
      refine n_op ?_
      refine n_op ?_
      refine n_var rfl ?_
      refine n_c ?_
      refine v_ix21 g59.fh (Rp.mono (eP2 (eT eI) eS) (Sub.trans sb39 sb60) r_tree) fun v66 r67 => ?_
      obtain ⟨er67, lr67⟩ : v66 = V.str (S x_tree.2) ∧ x_tree.2.length ≤ sizeLine := r67
      subst er67
      refine n_var rfl ?_
      obtain ⟨c68, hc68, hm⟩ := bnd hm
      refine v_ixS lr67 hc68 ?_
      obtain ⟨t69, ht69, hm⟩ := bnd hm
      refine v_catS ht69 ?_
      refine n_nil ?_
      obtain ⟨l70, hl70, hm⟩ := bnd hm
      obtain ⟨vs74, H71, g75, al73, evs74, eH71⟩ := app_ok g59 m62 (Al.mono al45 sb60) hl70 (show eS.r F58 (.str (S t69)) t69 from ⟨rfl, (catM_le ht69)⟩)
      refine v_append m62.hp (snoc_lt (Al.mono al45 sb60) hl70) ?_
      rw [← evs74, ← eH71]
      have m76 := mu_self m62 eH71
      obtain rfl := Option.some.inj hm
      exact hN36 _ _ ⟨_, _, _, _, vs74, rfl, g75, (Sub.trans sb39 sb60), m76, al73⟩
    rintro _ H77 ⟨F78, o81, o82, o83, vs84, rfl, g79, sb80, m85, al86⟩
    refine n_ret ?_
    refine n_var rfl ?_
    obtain rfl := Option.some.inj hm
    exact hk _ _ _  g79   ⟨p1, vs84, rfl, (m85.own.resolve_right (by simp)), m85.fr, m85.hp, al86⟩

def m__law_trie (x_ways : List Sg) : Option (List Int × Sg) :=
  (need (ssetB 3999 x_ways) ()).bind fun u1 =>
  (foldO (ssetL ltS x_ways) ([] : List Int) fun s35 a34 =>
  (if (decide ((1 : Int) < (a34.length : Int))) = true then
  (need (eqB (dS.d (cutL a34 none (some (-1 : Int)))) (.list ((ssetL ltS x_ways).map dS.d))) ()).bind fun u56 =>
  (idxM (ssetL ltS x_ways) (cutL a34 none (some (-1 : Int)))).bind fun a57 =>
  some a57
  else
  some (-1 : Int)).bind fun s53 =>
  (snocM s35 s53).bind fun l63 =>
  some l63).bind fun s25 =>
  (need (szB (ssetL ltS x_ways).length) ()).bind fun u89 =>
  (compS (ssetL ltS x_ways) fun a91 =>
  (atI a91 (-1 : Int)).bind fun c113 =>
  some (some [c113])).bind fun q90 =>
  (joinM ([] : Sg) q90).bind fun t137 =>
  some (s25, t137)
def sp__law_trie (K : PySem.W.Frag) : Sp := fun vs H Q _ => ∃ (F : Hp) (v_ways : V) (x_ways : List Sg) (r : (List Int × Sg)), vs = [v_ways] ∧ Sub F H ∧ (eL eS).r F v_ways x_ways ∧ m__law_trie x_ways = some r ∧ ∀ (v : V) (F' H' : Hp) , Gr [] F H F' H' → (eP2 (eT eI) eS).r F' v r → Q v H'
theorem sc__law_trie : FnScope ["ways", "rows", "ups", "way", "up"] ["ways"] (defScope s__law_trie) := ⟨rfl, rfl, rfl, by decide +kernel, rfl, by decide +kernel, by decide +kernel⟩
theorem ok__law_trie {f : Addr} {fd : FuncData} (F : FnP K "_law_trie" s__law_trie f fd) (b_sorted : mg "sorted" = none) (b_set : mg "set" = none) (b_tuple : mg "tuple" = none) (b_len : mg "len" = none) : FnG P w K mg base CX0 1 f fd ["ways"] (sp__law_trie K) := by
  refine FnDok F sc__law_trie (fun vs H Q E h => ?_) (fun cdv A outer s H0 vs Q E gd hr h => ?_)
  · obtain ⟨_, _, _, _, rfl, _⟩ := h
    rfl
  · obtain ⟨F0, v_ways, x_ways, r0, rfl, hs0, r_ways, hm, hk⟩ := h
    have g0 : Gr [] F0 H0 F0 H0 := Gr.refl hs0
    refine ⟨_, PSs.nox (pss_cons (ps_set (i := 1) sc__law_trie.nd rfl (by first | exact Or.inl rfl | exact Or.inr rfl) (pe_ssetK (K := K) rfl hr (by rfl) b_sorted (by rfl) b_set (pa_cons (pv 0) pa_nil)))
(pss_cons (ps_set (i := 2) sc__law_trie.nd rfl (by first | exact Or.inl rfl | exact Or.inr rfl) (pe_lst pa_nil))
(pss_cons (ps_for PassesOwn.never rfl (c_pilist (K := K) rfl (pv 1)) (pg_name (i := 3) sc__law_trie.nd rfl (by first | exact Or.inl rfl | exact Or.inr rfl)) (pss_cons (ps_set (i := 4) sc__law_trie.nd rfl (by first | exact Or.inl rfl | exact Or.inr rfl) (pe_un un_neg pe_int))
(pss_cons (ps_if (pt_cmpR op_gt (pe_callB c_lenS (by rfl) b_len bo_len (pa_cons (pv 3) pa_nil)) pe_int (nomark _)) (pss_one (ps_set (i := 4) sc__law_trie.nd rfl (by first | exact Or.inl rfl | exact Or.inr rfl) (c_bm (K := K) rfl PySem.F.plainAttrs_list PySem.F.slot_list_index PySem.F.type_list_index (c_indexD (K := K) rfl hr) (pv 1) (pa_cons (pe_slice sl_str (pv 3) po_none (po_some (pe_un un_neg pe_int))) pa_nil)))) pss_nil)
(pss_one (ps_expr (c_bm (K := K) rfl PySem.F.plainAttrs_list PySem.F.slot_list_append PySem.F.type_list_append mt_append (pv 2) (pa_cons (pv 4) pa_nil)))))))
(pss_one (ps_ret (pe_tup (pa_cons (pe_callTy (c_tuple (K := K) rfl) (by rfl) b_tuple bo_tuple (pa_cons (pv 2) pa_nil)) (pa_cons (c_bm (K := K) rfl PySem.F.plainAttrs_str PySem.F.slot_str_join PySem.F.type_str_join (c_join (K := K) rfl) pe_str (pa_cons (pe_lc (own := [("way", 3)]) (g := gName 3) (by rfl) sc__law_trie.nd (c_pilist (K := K) rfl (pv 1)) (blkOk_by (own := [("way", 3)]) (N := ["ways", "rows", "ups", "way", "up"]) (sc := defScope s__law_trie) (by decide +kernel)) (fun _ _ _ _ _ => (pg_name (i := 3) sc__law_trie.nd rfl (Or.inl rfl))) (fun _ _ _ _ _ => pts_nil) (fun _ _ _ _ _ => (pe_ix ix_str (pv 3) (pe_un un_neg pe_int) (fun _ _ => rfl)))) pa_nil)) pa_nil)))))))), ?_⟩
    refine n_seq ?_
    refine n_asg ?_
    refine n_cb ?_
    refine n_cons ?_
    refine n_var rfl ?_
    refine n_nil ?_
    obtain ⟨u1, hu1, hm⟩ := bnd hm
    obtain ⟨p2, vs3, ep2, q4, al5⟩ := r_ways
    subst ep2
    refine v_ssetKF soS keS lo_S g0.fh (SqL.of (g0.fh _ _ q4)) al5 (need_ok hu1).1 fun p6 vs7 F9 H10 d11 q12 al8 => ?_
    have g13 := g0.trans0 d11
    refine n_name (setS set0) ?_
    refine n_seq ?_
    refine n_asg ?_
    refine n_lst ?_
    refine n_nil ?_
    have al21 : Al eI F9 [] ([] : List Int) := .nil
    refine v_mkLM g13.fh rfl fun p14 H15 np16 d17 fp18 hp19 => ?_
    have go22 := g13.old np16
    have g23 := g13.trans0 d17
    have m24 : Mu [] H0 F9 H15 p14 (.lst []) := ⟨fp18, hp19, .inl go22⟩
    refine n_name (setS (setS set0)) ?_
    refine n_seq ?_
    refine n_for ?_
    refine n_itL ?_
    refine n_var rfl ?_
    refine v_itL (SqL.of (g23.fh _ _ q12)) ?_
    obtain ⟨s25, hs25, hm⟩ := bnd hm
    refine for_o (sr_L al8) hs25 (fun (s7 : List Int) σ7 H7 => ∃ (F7 : Hp) (o_way : Option V) (o_up : Option V) (us_ups : List V), σ7 = [some (.ref p2), some (.ref p6), some (.ref p14), o_way, o_up] ∧ Gr [] F0 H0 F7 H7 ∧ Sub F9 F7 ∧ Mu [] H0 F7 H7 p14 (.lst us_ups) ∧ Al eI F7 us_ups s7) ⟨_, _, _, [], rfl, g23, Sub.refl _, m24, al21⟩ ?_ ?_ ?_
    · rintro s7 _ H7 ⟨F26, o29, o30, vs31, rfl, g27, sb28, m32, al33⟩
      exact (SqL.of (g27.fh _ _ (sb28 _ _ q12)))
    · rintro a34 s35 s36 x37 _ H38 H39 ⟨F43, o46, o47, vs48, rfl, g44, sb45, m49, al50⟩ hY40 hm N41 hN42
      refine v_nmY hY40 fun r51 => ?_
      obtain ⟨er51, lr51⟩ : x37 = V.str (S a34) ∧ a34.length ≤ sizeLine := r51
      subst er51
      refine n_name (setS (setS (setS set0))) ?_
      refine n_seq ?_
      refine n_asg ?_
      refine n_un ?_
      refine n_c ?_
      refine v_neg ?_
      refine n_name (setS (setS (setS (setS set0)))) ?_
      refine n_seq ?_
      refine n_ifs ?_
      refine n_test ?_
      refine n_op ?_
      refine n_cb ?_
      refine n_cons ?_
      refine n_var rfl ?_
      refine n_nil ?_
      refine v_lenS lr51 ?_
      refine n_c ?_
      refine v_i2 ?_
      refine v_bl ?_
      obtain ⟨s53, hs53, hm⟩ := bnd hm
      refine br_join (fun σ7 H7 => ∃ (F7 : Hp), σ7 = [some (.ref p2), some (.ref p6), some (.ref p14), some (.str (S a34)), some (.int s53)] ∧ Gr [] F0 H0 F7 H7 ∧ Sub F43 F7 ∧ Mu [] H0 F7 H7 p14 (.lst vs48)) ?_ (fun hb52 nx54 hnx55 => ?_) (fun hb52 nx54 hnx55 => ?_)
      rotate_left
      · have hm := ifT hb52 hs53
        refine n_asg ?_
        refine n_bm ?_
        refine n_var rfl ?_
        refine ⟨tyL (SqL.of (g44.fh _ _ (sb45 _ _ q12))), ?_⟩
        refine n_cons ?_
        refine n_sl ?_
        refine n_var rfl ?_
        refine n_nopart ?_
        refine n_part ?_
        refine n_un ?_
        refine n_c ?_
        refine v_neg ?_
        refine v_part ?_
        refine v_slS lr51 ?_
        refine n_nil ?_
        obtain ⟨u56, hu56, hm⟩ := bnd hm
        obtain ⟨a57, ha57, hm⟩ := bnd hm
        refine v_indexD dS (dS.ok g44.fh (show eS.r F43 (.str (S (cutL a34 none (some (-1 : Int))))) (cutL a34 none (some (-1 : Int))) from ⟨rfl, (cut_le lr51)⟩)) ((dL dS).ok g44.fh (show (eL eS).r F43 (.ref p6) (ssetL ltS x_ways) from (Rp.mono (eL eS) sb45 (⟨p6, vs7, rfl, q12, al8⟩ : (eL eS).r F9 (.ref p6) (ssetL ltS x_ways))))) (need_ok hu56).1 ha57 ?_
        refine n_name (setS (setS (setS (setS set0)))) ?_
        obtain rfl := Option.some.inj hm
        exact hnx55 _ _ ⟨_, rfl, g44, Sub.refl _, m49⟩
      · have hm := ifF hb52 hs53
        refine n_nextS ?_
        obtain rfl := Option.some.inj hm
        exact hnx55 _ _ ⟨_, rfl, g44, Sub.refl _, m49⟩
      rintro _ H62 ⟨F58, rfl, g59, sb60, m61⟩
      refine n_drop ?_
      refine n_bm ?_
      refine n_var rfl ?_
      refine ⟨tyL m61.l, ?_⟩
      refine n_cons ?_
      refine n_var rfl ?_
      refine n_nil ?_
      obtain ⟨l63, hl63, hm⟩ := bnd hm
      obtain ⟨vs67, H64, g68, al66, evs67, eH64⟩ := app_ok g59 m61 (Al.mono al50 sb60) hl63 (show eI.r F58 (.int s53) s53 from rfl)
      refine v_append m61.hp (snoc_lt (Al.mono al50 sb60) hl63) ?_
      rw [← evs67, ← eH64]
      have m69 := mu_self m61 eH64
      obtain rfl := Option.some.inj hm
      exact hN42 _ _ ⟨_, _, _, vs67, rfl, g68, (Sub.trans sb45 sb60), m69, al66⟩
    rintro _ H70 ⟨F71, o74, o75, vs76, rfl, g72, sb73, m77, al78⟩
    refine n_ret ?_
    refine n_tup ?_
    refine n_cons ?_
    refine n_cb ?_
    refine n_cons ?_
    refine n_var rfl ?_
    refine n_nil ?_
    refine v_tuple g72.fh m77.l al78 fun p79 F80 H81 d82 q83 al84 => ?_
    have g85 := g72.trans0 d82
    have m86 := m77.call0 d82
    refine n_cons ?_
    refine n_bm ?_
    refine n_str (s := []) (by decide +kernel) ?_
    refine ⟨tyS, ?_⟩
    refine n_cons ?_
    refine n_lc ?_
    refine n_itL ?_
    refine n_var rfl ?_
    refine v_itL (SqL.of (g85.fh _ _ ((Sub.trans sb73 d82.ff) _ _ q12))) ?_
    obtain ⟨u89, hu89, hm⟩ := bnd hm
    obtain ⟨q90, hq90, hm⟩ := bnd hm
    intro D87 nD88
    have goD87 := g85.old nD88
    have neD87_p14 := m86.ne nD88
    have gg118 := gr_newM (W := []) (o := .lst []) g85.fh nD88
    refine comp_s (sr_L (Al.mono al8 (Sub.trans sb73 d82.ff))) hq90 (need_ok hu89).1 (fun (acc7 : List Sg) H7 => ∃ (F7 : Hp) (vs7 : List V), Gr [] F0 H0 F7 H7 ∧ Sub F80 F7 ∧ F7 D87 = none ∧ H7 D87 = some (.lst vs7) ∧ Al eS F7 vs7 acc7 ∧ Mu [] H0 F7 H7 p14 (.lst vs76)) ⟨_, [], g85.trans0 gg118, Sub.refl _, g85.fh.nn nD88, upd_same, .nil, m86.call0 gg118⟩ ?_ ?_ ?_
    · rintro _ _ ⟨F102, vs103, g104, sb105, _, _, _, _⟩
      exact (SqL.of (g104.fh _ _ ((Sub.trans sb73 (Sub.trans d82.ff sb105)) _ _ q12)))
    · rintro a91 r93 acc94 x95 H96 H97 ⟨F102, vs103, g104, sb105, fD106, hD107, al108, m109⟩ hY98 hm hl101 N99 hN100
      have m111 : Mu [] H0 F102 H96 D87 (.lst vs103) := ⟨fD106, hD107, .inl goD87⟩
      refine wipe_to (σ' := [some (.ref p2), some (.ref p6), some (.ref p14), none, o75]) rfl ?_
      refine v_nmY hY98 fun r112 => ?_
      obtain ⟨er112, lr112⟩ : x95 = V.str (S a91) ∧ a91.length ≤ sizeLine := r112
      subst er112
      refine n_name (setS (setS (setS set0))) ?_
      refine ⟨rfl, ?_⟩
      refine n_yes ?_ rfl
      refine n_op ?_
      refine n_var rfl ?_
      refine n_un ?_
      refine n_c ?_
      refine v_neg ?_
      obtain ⟨c113, hc113, hm⟩ := bnd hm
      refine v_ixS lr112 hc113 ?_
      obtain rfl := Option.some.inj hm
      refine ⟨_, m111.hp, by rw [al_len al108]; exact hl101, hN100 _ ?_⟩
      exact ⟨_, _, m111.gr g104, sb105, m111.fr, upd_same, pd_snoc al108 (show eS.r F102 (.str (S [c113])) [c113] from ⟨rfl, one_le⟩), m109.mut neD87_p14⟩
    rintro H119 ⟨F120, vs121, g122, sb123, fD124, hD125, al126, m127⟩
    have m129 : Mu [] H0 F120 H119 D87 (.lst vs121) := ⟨fD124, hD125, .inl goD87⟩
    obtain ⟨F130, q132, sb134, g133, d131⟩ := freeze g122 m129 (m129.own.resolve_right (by simp))
    have m135 := d131 _ _ neD87_p14 m127
    have al136 := (Al.mono al126 sb134)
    refine n_nil ?_
    obtain ⟨t137, ht137, hm⟩ := bnd hm
    refine v_join (.inl (SqL.of (g133.fh _ _ q132))) al136 ht137 ?_
    refine n_nil ?_
    refine v_mk2 g133.fh (show (eT eI).r F130 (.ref p79) s25 from (Rp.mono (eT eI) (Sub.trans sb123 sb134) (⟨p79, vs76, rfl, q83, al84⟩ : (eT eI).r F80 (.ref p79) s25))) (show eS.r F130 (.str (S t137)) t137 from ⟨rfl, (joinM_le ht137)⟩) fun v138 F139 H140 d141 r142 => ?_
    have g143 := g133.trans0 d141
    have m144 := m135.call0 d141
    obtain rfl := Option.some.inj hm
    exact hk _ _ _  g143   r142

def m__law_part (x_pool : List Int) (x_ways : List Sg) (x_most : Int) : Option (List Sg × List Int) :=
  (atI x_ways (0 : Int)).bind fun a14 =>
  (dputM ([] : List (Sg × Bool)) a14 true).bind fun l21 =>
  (need (ssetB 3999 x_ways) ()).bind fun u39 =>
  (foldO (ssetL ltS x_ways) (x_pool, l21) fun s65 a64 =>
  (m__law_take s65.1 (5 : Int)).bind fun r87 =>
  (m__law_take r87.2 (26 : Int)).bind fun r99 =>
  (atI ([97, 98, 99, 100, 101, 102, 103, 104, 105, 106, 107, 108, 109, 110, 111, 112, 113, 114, 115, 116, 117, 118, 119, 120, 121, 122] : Sg) r99.1).bind fun c111 =>
  (repSM [c111] (b2 (decide (r87.1 = (0 : Int))))).bind fun t112 =>
  (catM a64 t112).bind fun t113 =>
  if (decide (r87.1 < (3 : Int))) = true then
  (uptoM (1 : Int) ((t113.length : Int) + (1 : Int))).bind fun l115 =>
  (foldO l115 s65.2 fun s118 a117 =>
  (dputM s118 (cutL t113 none (some a117)) true).bind fun l134 =>
  some l134).bind fun s116 =>
  some (r99.2, s116)
  else
  some (r99.2, s65.2)).bind fun s50 =>
  (need (s50.2.all fun x => szB x.1.length) ()).bind fun u164 =>
  some ((cutL (srtL ltS (s50.2.map Prod.fst)) none (some x_most)), s50.1)
def sp__law_part (K : PySem.W.Frag) : Sp := fun vs H Q _ => ∃ (F : Hp) (p_pool : Addr) (vs_pool : List V) (x_pool : List Int) (v_ways : V) (x_ways : List Sg) (v_most : V) (x_most : Int) (r : (List Sg × List Int)), vs = [.ref p_pool, v_ways, v_most] ∧ Sub F H ∧ F p_pool = none ∧ H p_pool = some (.lst vs_pool) ∧ Al eI F vs_pool x_pool ∧ (eL eS).r F v_ways x_ways ∧ eI.r F v_most x_most ∧ m__law_part x_pool x_ways x_most = some r ∧ ∀ (v : V) (F' H' : Hp) (us_pool : List V), Gr [p_pool] F H F' H' → H' p_pool = some (.lst us_pool) → Al eI F' us_pool r.2 → New eS H F' H' v r.1 → Q v H'
theorem sc__law_part : FnScope ["pool", "ways", "most", "found", "way", "kind", "more", "many"] ["pool", "ways", "most"] (defScope s__law_part) := ⟨rfl, rfl, rfl, by decide +kernel, rfl, by decide +kernel, by decide +kernel⟩
theorem ok__law_part {f : Addr} {fd : FuncData} (F : FnP K "_law_part" s__law_part f fd) (H__law_take : HasG P w K mg base "_law_take" ["pool", "many"] 1 (sp__law_take K)) (b_sorted : mg "sorted" = none) (b_set : mg "set" = none) (b_range : mg "range" = none) (b_int : mg "int" = none) (b_len : mg "len" = none) : FnG P w K mg base CX0 2 f fd ["pool", "ways", "most"] (sp__law_part K) := by
  obtain ⟨f__law_take, fd__law_take, G0__law_take, g__law_take, k__law_take, b__law_take⟩ := H__law_take
  have G__law_take := G0__law_take.mono (show 1 ≤ 1 by decide)
  refine FnDok F sc__law_part (fun vs H Q E h => ?_) (fun cdv A outer s H0 vs Q E gd hr h => ?_)
  · obtain ⟨_, _, _, _, _, _, _, _, _, rfl, _⟩ := h
    rfl
  · obtain ⟨F0, p_pool, vs_pool, x_pool, v_ways, x_ways, v_most, x_most, r0, rfl, hs0, fr_pool, hp_pool, al_pool, r_ways, r_most, hm, hk⟩ := h
    have g0 : Gr [p_pool] F0 H0 F0 H0 := Gr.refl hs0
    have m1 : Mu [p_pool] H0 F0 H0 p_pool (.lst vs_pool) := ⟨fr_pool, hp_pool, .inr (by simp)⟩
    have er_most : v_most = V.int x_most := r_most
    subst er_most
    refine ⟨_, PSs.nox (pss_cons (ps_set (i := 3) sc__law_part.nd rfl (by first | exact Or.inl rfl | exact Or.inr rfl) (pe_disp (pps_cons (pe_ix (c_ixL (K := K) rfl) (pv 1) pe_int (fun _ _ => rfl)) pe_bl pps_nil) rfl rfl (by simp) (by decide)))
(pss_cons (ps_for PassesOwn.never rfl (c_pilist (K := K) rfl (pe_ssetK (K := K) rfl hr (by rfl) b_sorted (by rfl) b_set (pa_cons (pv 1) pa_nil))) (pg_name (i := 4) sc__law_part.nd rfl (by first | exact Or.inl rfl | exact Or.inr rfl)) (pss_cons (ps_set (i := 5) sc__law_part.nd rfl (by first | exact Or.inl rfl | exact Or.inr rfl) (pe_callG G__law_take gd hr (by rfl) g__law_take k__law_take b__law_take pass0 (pa_cons (pv 0) (pa_cons pe_int pa_nil))))
(pss_cons (ps_set (i := 6) sc__law_part.nd rfl (by first | exact Or.inl rfl | exact Or.inr rfl) (pe_op c_catS (pv 4) (pe_op c_mulS (pe_ix ix_str pe_str (pe_callG G__law_take gd hr (by rfl) g__law_take k__law_take b__law_take pass0 (pa_cons (pv 0) (pa_cons pe_int pa_nil))) (fun _ _ => rfl)) (pe_callTy c_int1 (by rfl) b_int bo_int (pa_cons (pe_cmpR op_eq (pv 5) pe_int (nomark _)) pa_nil)))))
(pss_one (ps_if (pt_cmpR op_lt (pv 5) pe_int (nomark _)) (pss_one (ps_for PassesOwn.never rfl (pi_range2 (by rfl) b_range (pa_cons pe_int (pa_cons (pe_op op_add (pe_callB c_lenS (by rfl) b_len bo_len (pa_cons (pv 6) pa_nil)) pe_int) pa_nil))) (pg_name (i := 7) sc__law_part.nd rfl (by first | exact Or.inl rfl | exact Or.inr rfl)) (pss_one (ps_dput (un1 hr) (pv 3) (pe_slice sl_str (pv 6) po_none (po_some (pv 7))) pe_bl (by rfl))))) pss_nil)))))
(pss_one (ps_ret (pe_slice (c_slL (K := K) rfl) (pe_callB (c_sortedDL hr rfl) (by rfl) b_sorted bo_sorted (pa_cons (pv 3) pa_nil)) po_none (po_some (pv 2))))))), ?_⟩
    refine n_seq ?_
    refine n_asg ?_
    refine n_disp1 ?_
    refine v_dispN g0.fh fun p2 H3 np4 d5 fp6 hp7 => ?_
    have al8 : Pr (dyK keS) eB F0 [] [] := .nil
    have go9 := g0.old np4
    have ne10 := m1.ne np4
    have g11 := g0.trans0 d5
    have m12 := m1.call0 d5
    have m13 : Mu [p_pool] H0 F0 H3 p2 ((dyK keS).ho []) := ⟨fp6, hp7, .inl go9⟩
    refine n_op ?_
    refine n_var rfl ?_
    refine n_c ?_
    obtain ⟨a14, ha14, hm⟩ := bnd hm
    obtain ⟨p15, vs16, ep15, q17, al18⟩ := r_ways
    subst ep15
    refine v_ixL (SqL.of (g11.fh _ _ q17)) al18 ha14 fun v19 r20 => ?_
    obtain ⟨er20, lr20⟩ : v19 = V.str (S a14) ∧ a14.length ≤ sizeLine := r20
    subst er20
    refine n_c ?_
    obtain ⟨l21, hl21, hm⟩ := bnd hm
    refine v_disp1 (A := keS) m13.hp (show eS.r F0 (.str (S a14)) a14 from ⟨rfl, lr20⟩) ?_
    obtain ⟨vs23, H24, g25, al22, evs23, eH24⟩ := dput_ok g11 m13 al8 hl21 (show eB.r F0 (.bl true) true from rfl)
    rw [← evs23, ← eH24]
    have m26 := mu_oth m12 ne10 eH24
    have m27 := mu_self m13 eH24
    refine n_name (setS (setS (setS set0))) ?_
    refine n_seq ?_
    refine n_for ?_
    refine n_itL ?_
    refine n_cb ?_
    refine n_cons ?_
    refine n_var rfl ?_
    refine n_nil ?_
    obtain ⟨u39, hu39, hm⟩ := bnd hm
    refine v_ssetKF soS keS lo_S g25.fh (SqL.of (g25.fh _ _ q17)) al18 (need_ok hu39).1 fun p40 vs41 F43 H44 d45 q46 al42 => ?_
    have g47 := g25.trans0 d45
    have m48 := m26.call0 d45
    have m49 := m27.call0 d45
    refine v_itL (SqL.of (g47.fh _ _ q46)) ?_
    obtain ⟨s50, hs50, hm⟩ := bnd hm
    refine for_o (sr_L al42) hs50 (fun (s7 : List Int × List (Sg × Bool)) σ7 H7 => ∃ (F7 : Hp) (o_way : Option V) (o_kind : Option V) (o_more : Option V) (o_many : Option V) (us_pool : List V) (us_found : List ((dyK keS).κ × V)), σ7 = [some (.ref p_pool), some (.ref p15), some (.int x_most), some (.ref p2), o_way, o_kind, o_more, o_many] ∧ Gr [p_pool] F0 H0 F7 H7 ∧ Sub F43 F7 ∧ Mu [p_pool] H0 F7 H7 p_pool (.lst us_pool) ∧ Al eI F7 us_pool s7.1 ∧ Mu [p_pool] H0 F7 H7 p2 ((dyK keS).ho us_found) ∧ Pr (dyK keS) eB F7 us_found s7.2) ⟨_, _, _, _, _, vs_pool, vs23, rfl, g47, Sub.refl _, m48, (Al.mono al_pool d45.ff), m49, (Pr.mono al22 d45.ff)⟩ ?_ ?_ ?_
    · rintro s7 _ H7 ⟨F51, o54, o55, o56, o57, vs58, vs59, rfl, g52, sb53, m60, al61, m62, al63⟩
      exact (SqL.of (g52.fh _ _ (sb53 _ _ q46)))
    · rintro a64 s65 s66 x67 _ H68 H69 ⟨F73, o76, o77, o78, o79, vs80, vs81, rfl, g74, sb75, m82, al83, m84, al85⟩ hY70 hm N71 hN72
      refine v_nmY hY70 fun r86 => ?_
      obtain ⟨er86, lr86⟩ : x67 = V.str (S a64) ∧ a64.length ≤ sizeLine := r86
      subst er86
      refine n_name (setS (setS (setS (setS set0)))) ?_
      refine n_seq ?_
      refine n_asg ?_
      refine n_call ?_
      refine n_cons ?_
      refine n_var rfl ?_
      refine n_cons ?_
      refine n_c ?_
      refine n_nil ?_
      obtain ⟨r87, hr87, hm⟩ := bnd hm
      refine ⟨F73, p_pool, vs80, s65.1, .int (5 : Int), (5 : Int), r87, rfl, g74.fh, m82.fr, m82.hp, al83, rfl, hr87, fun v94 F88 H89 vs91 d90 hp92 al93 r95 => ?_⟩
      have g96 := g74.trans d90 (fun a ha => (List.mem_cons.mp ha).elim (fun e => e ▸ m82.own) (fun ha => absurd ha (by simp)))
      have m97 := m82.back d90 hp92
      have m98 := m84.call d90 (nin1 (Ne.symm ne10))
      have er95 : v94 = V.int r87.1 := r95
      subst er95
      refine n_name (setS (setS (setS (setS (setS set0))))) ?_
      refine n_seq ?_
      refine n_asg ?_
      refine n_op ?_
      refine n_var rfl ?_
      refine n_op ?_
      refine n_op ?_
      refine n_str (s := [97, 98, 99, 100, 101, 102, 103, 104, 105, 106, 107, 108, 109, 110, 111, 112, 113, 114, 115, 116, 117, 118, 119, 120, 121, 122]) (by decide +kernel) ?_
      refine n_call ?_
      refine n_cons ?_
      refine n_var rfl ?_
      refine n_cons ?_
      refine n_c ?_
      refine n_nil ?_
      obtain ⟨r99, hr99, hm⟩ := bnd hm
      refine ⟨F88, p_pool, vs91, r87.2, .int (26 : Int), (26 : Int), r99, rfl, g96.fh, m97.fr, m97.hp, al93, rfl, hr99, fun v106 F100 H101 vs103 d102 hp104 al105 r107 => ?_⟩
      have g108 := g96.trans d102 (fun a ha => (List.mem_cons.mp ha).elim (fun e => e ▸ m97.own) (fun ha => absurd ha (by simp)))
      have m109 := m97.back d102 hp104
      have m110 := m98.call d102 (nin1 (Ne.symm ne10))
      have er107 : v106 = V.int r99.1 := r107
      subst er107
      obtain ⟨c111, hc111, hm⟩ := bnd hm
      refine v_ixS (sz_ok (n := 26) rfl) hc111 ?_
      refine n_cb ?_
      refine n_cons ?_
      refine n_op ?_
      refine n_var rfl ?_
      refine n_c ?_
      refine v_eqI ?_
      refine n_nil ?_
      refine v_intB ?_
      obtain ⟨t112, ht112, hm⟩ := bnd hm
      refine v_mulS ht112 ?_
      obtain ⟨t113, ht113, hm⟩ := bnd hm
      refine v_catS ht113 ?_
      refine n_name (setS (setS (setS (setS (setS (setS set0)))))) ?_
      refine n_ifs ?_
      refine n_test ?_
      refine n_op ?_
      refine n_var rfl ?_
      refine n_c ?_
      refine v_i2 ?_
      refine v_bl ?_
      refine br (fun hb114 => ?_) (fun hb114 => ?_)
      · replace hm := ifT hb114 hm
        refine n_for ?_
        refine n_rng2 ?_
        refine n_cons ?_
        refine n_c ?_
        refine n_cons ?_
        refine n_op ?_
        refine n_cb ?_
        refine n_cons ?_
        refine n_var rfl ?_
        refine n_nil ?_
        refine v_lenS (catM_le ht113) ?_
        refine n_c ?_
        refine v_i2 ?_
        refine n_nil ?_
        obtain ⟨l115, hl115, hm⟩ := bnd hm
        refine v_rng2 hl115 ?_
        obtain ⟨s116, hs116, hm⟩ := bnd hm
        refine for_o (sr_R2 hl115) hs116 (fun (s7 : List (Sg × Bool)) σ7 H7 => ∃ (F7 : Hp) (o_many : Option V) (us_found : List ((dyK keS).κ × V)), σ7 = [some (.ref p_pool), some (.ref p15), some (.int x_most), some (.ref p2), some (.str (S a64)), some (.int r87.1), some (.str (S t113)), o_many] ∧ Gr [p_pool] F0 H0 F7 H7 ∧ Sub F100 F7 ∧ Mu [p_pool] H0 F7 H7 p2 ((dyK keS).ho us_found) ∧ Pr (dyK keS) eB F7 us_found s7 ∧ Mu [p_pool] H0 F7 H7 p_pool (.lst vs103)) ⟨_, _, vs81, rfl, g108, Sub.refl _, m110, (Pr.mono al85 (Sub.trans d90.ff d102.ff)), m109⟩ ?_ ?_ ?_
        · intros; exact trivial
        · rintro a117 s118 s119 x120 _ H121 H122 ⟨F126, o129, vs130, rfl, g127, sb128, m131, al132, m133⟩ hY123 hm N124 hN125
          refine v_nmR hY123 ?_
          refine n_name (setS (setS (setS (setS (setS (setS (setS set0))))))) ?_
          refine n_dput ?_
          refine n_c ?_
          refine n_var rfl ?_
          refine n_sl ?_
          refine n_var rfl ?_
          refine n_nopart ?_
          refine n_part ?_
          refine n_var rfl ?_
          refine v_part ?_
          refine v_slS (catM_le ht113) ?_
          obtain ⟨l134, hl134, hm⟩ := bnd hm
          refine v_dput (Y := (dyK keS)) g127.fh m131.hp al132 (show eS.r F126 (.str (S (cutL t113 none (some a117)))) (cutL t113 none (some a117)) from ⟨rfl, (cut_le (catM_le ht113))⟩) hl134 ?_
          obtain ⟨vs136, H137, g138, al135, evs136, eH137⟩ := dput_ok g127 m131 al132 hl134 (show eB.r F126 (.bl true) true from rfl)
          rw [← evs136, ← eH137]
          have m139 := mu_oth m133 ne10 eH137
          have m140 := mu_self m131 eH137
          obtain rfl := Option.some.inj hm
          exact hN125 _ _ ⟨_, _, vs136, rfl, g138, sb128, m140, al135, m139⟩
        rintro _ H141 ⟨F142, o145, vs146, rfl, g143, sb144, m147, al148, m149⟩
        obtain rfl := Option.some.inj hm
        exact hN72 _ _ ⟨_, _, _, _, _, vs103, vs146, rfl, g143, (Sub.trans sb75 (Sub.trans d90.ff (Sub.trans d102.ff sb144))), m149, (Al.mono al105 sb144), m147, al148⟩
      replace hm := ifF hb114 hm
      refine n_nextS ?_
      obtain rfl := Option.some.inj hm
      exact hN72 _ _ ⟨_, _, _, _, _, vs103, vs81, rfl, g108, (Sub.trans sb75 (Sub.trans d90.ff d102.ff)), m109, al105, m110, (Pr.mono al85 (Sub.trans d90.ff d102.ff))⟩
    rintro _ H150 ⟨F151, o154, o155, o156, o157, vs158, vs159, rfl, g152, sb153, m160, al161, m162, al163⟩
    refine n_ret ?_
    refine n_sl ?_
    refine n_cb ?_
    refine n_cons ?_
    refine n_var rfl ?_
    refine n_nil ?_
    obtain ⟨u164, hu164, hm⟩ := bnd hm
    refine v_sortDF g152.fh (.inl m162.hp) al163 (need_ok hu164).1 fun p165 vs166 F168 H169 d170 q171 al167 => ?_
    have g172 := g152.trans0 d170
    have m173 := m160.call0 d170
    have m174 := m162.call0 d170
    refine n_nopart ?_
    refine n_part ?_
    refine n_var rfl ?_
    refine v_part ?_
    refine v_slLM g172.fh (SqL.of (g172.fh _ _ q171)) al167 fun p175 vs176 H178 np179 d180 fp181 hp182 al177 => ?_
    have go183 := g172.old np179
    have ne184 := m173.ne np179
    have ne185 := m174.ne np179
    have g186 := g172.trans0 d180
    have m187 := m173.call0 d180
    have m188 := m174.call0 d180
    have m189 : Mu [p_pool] H0 F168 H178 p175 (.lst vs176) := ⟨fp181, hp182, .inl go183⟩
    obtain rfl := Option.some.inj hm
    exact hk _ _ _ _ g186 m187.hp (Al.mono al161 d170.ff) ⟨p175, vs176, rfl, (m189.own.resolve_right (nin1 (Ne.symm ne184))), m189.fr, m189.hp, al177⟩

def m__law_two (x_pool : List Int) (x_most : Int) : Option ((List Sg × List Sg) × List Int) :=
  (m__law_take x_pool (6 : Int)).bind fun r2 =>
  (m__law_letters r2.2).bind fun r13 =>
  (m__law_tree r13.2 x_most r13.1).bind fun r40 =>
  (m__law_ways r40.1).bind fun r51 =>
  (m__law_tree r40.2 x_most r13.1).bind fun r110 =>
  (m__law_ways r110.1).bind fun r121 =>
  (need (szB r121.length) ()).bind fun u147 =>
  (compS r121 fun a149 =>
  (atI r51 (0 : Int)).bind fun a171 =>
  (catM a171 (cutL a149 (some (1 : Int)) none)).bind fun t174 =>
  some (some t174)).bind fun q148 =>
  (if (decide (r2.1 ∈ [((3 : Int), (4 : Int)).1, ((3 : Int), (4 : Int)).2])) = true then
  (m__law_part r110.2 r51 x_most).bind fun r227 =>
  some (r227.1, r227.2)
  else
  some (q148, r110.2)).bind fun s224 =>
  (if (decide (r2.1 = (5 : Int))) = true then
  some r51
  else
  some s224.1).bind fun s264 =>
  some ((r51, s264), s224.2)
def sp__law_two (K : PySem.W.Frag) : Sp := fun vs H Q _ => ∃ (F : Hp) (p_pool : Addr) (vs_pool : List V) (x_pool : List Int) (v_most : V) (x_most : Int) (r : ((List Sg × List Sg) × List Int)), vs = [.ref p_pool, v_most] ∧ Sub F H ∧ F p_pool = none ∧ H p_pool = some (.lst vs_pool) ∧ Al eI F vs_pool x_pool ∧ eI.r F v_most x_most ∧ m__law_two x_pool x_most = some r ∧ ∀ (v : V) (F' H' : Hp) (us_pool : List V), Gr [p_pool] F H F' H' → H' p_pool = some (.lst us_pool) → Al eI F' us_pool r.2 → (eP2 (eL eS) (eL eS)).r F' v r.1 → Q v H'
theorem sc__law_two : FnScope ["pool", "most", "kind", "letters", "one", "other", "way"] ["pool", "most"] (defScope s__law_two) := ⟨rfl, rfl, rfl, by decide +kernel, rfl, by decide +kernel, by decide +kernel⟩
theorem ok__law_two {f : Addr} {fd : FuncData} (F : FnP K "_law_two" s__law_two f fd) (H__law_take : HasG P w K mg base "_law_take" ["pool", "many"] 1 (sp__law_take K)) (H__law_letters : HasG P w K mg base "_law_letters" ["pool"] 2 (sp__law_letters K)) (H__law_ways : HasG P w K mg base "_law_ways" ["tree"] 1 (sp__law_ways K)) (H__law_tree : HasG P w K mg base "_law_tree" ["pool", "most", "letters"] 4 (sp__law_tree K)) (H__law_part : HasG P w K mg base "_law_part" ["pool", "ways", "most"] 2 (sp__law_part K)) : FnG P w K mg base CX0 5 f fd ["pool", "most"] (sp__law_two K) := by
  obtain ⟨f__law_take, fd__law_take, G0__law_take, g__law_take, k__law_take, b__law_take⟩ := H__law_take
  have G__law_take := G0__law_take.mono (show 1 ≤ 4 by decide)
  obtain ⟨f__law_letters, fd__law_letters, G0__law_letters, g__law_letters, k__law_letters, b__law_letters⟩ := H__law_letters
  have G__law_letters := G0__law_letters.mono (show 2 ≤ 4 by decide)
  obtain ⟨f__law_ways, fd__law_ways, G0__law_ways, g__law_ways, k__law_ways, b__law_ways⟩ := H__law_ways
  have G__law_ways := G0__law_ways.mono (show 1 ≤ 4 by decide)
  obtain ⟨f__law_tree, fd__law_tree, G0__law_tree, g__law_tree, k__law_tree, b__law_tree⟩ := H__law_tree
  have G__law_tree := G0__law_tree.mono (show 4 ≤ 4 by decide)
  obtain ⟨f__law_part, fd__law_part, G0__law_part, g__law_part, k__law_part, b__law_part⟩ := H__law_part
  have G__law_part := G0__law_part.mono (show 2 ≤ 4 by decide)
  refine FnDok F sc__law_two (fun vs H Q E h => ?_) (fun cdv A outer s H0 vs Q E gd hr h => ?_)
  · obtain ⟨_, _, _, _, _, _, _, rfl, _⟩ := h
    rfl
  · obtain ⟨F0, p_pool, vs_pool, x_pool, v_most, x_most, r0, rfl, hs0, fr_pool, hp_pool, al_pool, r_most, hm, hk⟩ := h
    have g0 : Gr [p_pool] F0 H0 F0 H0 := Gr.refl hs0
    have m1 : Mu [p_pool] H0 F0 H0 p_pool (.lst vs_pool) := ⟨fr_pool, hp_pool, .inr (by simp)⟩
    have er_most : v_most = V.int x_most := r_most
    subst er_most
    refine ⟨_, PSs.nox (pss_cons (ps_set (i := 2) sc__law_two.nd rfl (by first | exact Or.inl rfl | exact Or.inr rfl) (pe_callG G__law_take gd hr (by rfl) g__law_take k__law_take b__law_take pass0 (pa_cons (pv 0) (pa_cons pe_int pa_nil))))
(pss_cons (ps_set (i := 3) sc__law_two.nd rfl (by first | exact Or.inl rfl | exact Or.inr rfl) (pe_callG G__law_letters gd hr (by rfl) g__law_letters k__law_letters b__law_letters pass0 (pa_cons (pv 0) pa_nil)))
(pss_cons (ps_set (i := 4) sc__law_two.nd rfl (by first | exact Or.inl rfl | exact Or.inr rfl) (pe_callG G__law_ways gd hr (by rfl) g__law_ways k__law_ways b__law_ways pass0 (pa_cons (pe_callG G__law_tree gd hr (by rfl) g__law_tree k__law_tree b__law_tree pass0 (pa_cons (pv 0) (pa_cons (pv 1) (pa_cons (pv 3) pa_nil)))) pa_nil)))
(pss_cons (ps_setLc (i := 5) (own := [("way", 6)]) (g := gName 6) (by rfl) sc__law_two.nd rfl rfl (sw_true rfl rfl rfl (by decide +kernel)) (c_pilist (K := K) rfl (pe_callG G__law_ways gd hr (by rfl) g__law_ways k__law_ways b__law_ways pass0 (pa_cons (pe_callG G__law_tree gd hr (by rfl) g__law_tree k__law_tree b__law_tree pass0 (pa_cons (pv 0) (pa_cons (pv 1) (pa_cons (pv 3) pa_nil)))) pa_nil))) (blkOk_by (own := [("way", 6)]) (N := ["pool", "most", "kind", "letters", "one", "other", "way"]) (sc := defScope s__law_two) (by decide +kernel)) (fun _ _ _ _ _ => (pg_name (i := 6) sc__law_two.nd rfl (Or.inl rfl))) (fun _ _ _ _ _ => pts_nil) (fun _ _ _ _ _ => (pe_op c_catS (pe_ix (c_ixL (K := K) rfl) (pv 4) pe_int (fun _ _ => rfl)) (pe_slice sl_str (pv 6) (po_some pe_int) po_none))))
(pss_cons (ps_if (pt_cmpR (c_inQ (K := K) rfl) (pv 2) (pe_tup (pa_cons pe_int (pa_cons pe_int pa_nil))) (by with_unfolding_all rfl)) (pss_one (ps_set (i := 5) sc__law_two.nd rfl (by first | exact Or.inl rfl | exact Or.inr rfl) (pe_callG G__law_part gd hr (by rfl) g__law_part k__law_part b__law_part pass0 (pa_cons (pv 0) (pa_cons (pv 4) (pa_cons (pv 1) pa_nil)))))) pss_nil)
(pss_cons (ps_if (pt_cmpR op_eq (pv 2) pe_int (nomark _)) (pss_one (ps_set (i := 5) sc__law_two.nd rfl (by first | exact Or.inl rfl | exact Or.inr rfl) (pv 4))) pss_nil)
(pss_one (ps_ret (pe_tup (pa_cons (pv 4) (pa_cons (pv 5) pa_nil))))))))))), ?_⟩
    refine n_seq ?_
    refine n_asg ?_
    refine n_call ?_
    refine n_cons ?_
    refine n_var rfl ?_
    refine n_cons ?_
    refine n_c ?_
    refine n_nil ?_
    obtain ⟨r2, hr2, hm⟩ := bnd hm
    refine ⟨F0, p_pool, vs_pool, x_pool, .int (6 : Int), (6 : Int), r2, rfl, g0.fh, m1.fr, m1.hp, al_pool, rfl, hr2, fun v9 F3 H4 vs6 d5 hp7 al8 r10 => ?_⟩
    have g11 := g0.trans d5 (fun a ha => (List.mem_cons.mp ha).elim (fun e => e ▸ m1.own) (fun ha => absurd ha (by simp)))
    have m12 := m1.back d5 hp7
    have er10 : v9 = V.int r2.1 := r10
    subst er10
    refine n_name (setS (setS set0)) ?_
    refine n_seq ?_
    refine n_asg ?_
    refine n_call ?_
    refine n_cons ?_
    refine n_var rfl ?_
    refine n_nil ?_
    obtain ⟨r13, hr13, hm⟩ := bnd hm
    refine ⟨F3, p_pool, vs6, r2.2, r13, rfl, g11.fh, m12.fr, m12.hp, al8, hr13, fun v26 F14 H15 vs17 d16 hp18 al19 r27 => ?_⟩
    obtain ⟨p20, vs21, ev26, np22, fp23, hp24, al25⟩ := r27
    subst ev26
    have go28 := g11.old np22
    have ne29 := m12.ne np22
    have g30 := g11.trans d16 (fun a ha => (List.mem_cons.mp ha).elim (fun e => e ▸ m12.own) (fun ha => absurd ha (by simp)))
    have m31 := m12.back d16 hp18
    have m32 : Mu [p_pool] H0 F14 H15 p20 (.lst vs21) := ⟨fp23, hp24, .inl go28⟩
    obtain ⟨F33, q35, sb37, g36, d34⟩ := freeze g30 m32 (m32.own.resolve_right (nin1 (Ne.symm ne29)))
    have m38 := d34 _ _ ne29 m31
    have al39 := (Al.mono al25 sb37)
    refine n_name (setS (setS (setS set0))) ?_
    refine n_seq ?_
    refine n_asg ?_
    refine n_call ?_
    refine n_cons ?_
    refine n_call ?_
    refine n_cons ?_
    refine n_var rfl ?_
    refine n_cons ?_
    refine n_var rfl ?_
    refine n_cons ?_
    refine n_var rfl ?_
    refine n_nil ?_
    obtain ⟨r40, hr40, hm⟩ := bnd hm
    refine ⟨F33, p_pool, vs17, r13.2, .int x_most, x_most, (.ref p20), r13.1, r40, rfl, g36.fh, m38.fr, m38.hp, (Al.mono al19 sb37), rfl, (⟨p20, vs21, rfl, q35, al39⟩ : (eL eS).r F33 (.ref p20) r13.1), hr40, fun v47 F41 H42 vs44 d43 hp45 al46 r48 => ?_⟩
    have g49 := g36.trans d43 (fun a ha => (List.mem_cons.mp ha).elim (fun e => e ▸ m38.own) (fun ha => absurd ha (by simp)))
    have m50 := m38.back d43 hp45
    refine n_nil ?_
    obtain ⟨r51, hr51, hm⟩ := bnd hm
    refine ⟨F41, v47, r40.1, r51, rfl, g49.fh, r48, hr51, fun v61 F52 H53 d54 r62 => ?_⟩
    obtain ⟨p55, vs56, ev61, np57, fp58, hp59, al60⟩ := r62
    subst ev61
    have go63 := g49.old np57
    have ne64 := m50.ne np57
    have g65 := g49.trans0 d54
    have m66 := m50.call0 d54
    have m67 : Mu [p_pool] H0 F52 H53 p55 (.lst vs56) := ⟨fp58, hp59, .inl go63⟩
    obtain ⟨F68, q70, sb72, g71, d69⟩ := freeze g65 m67 (m67.own.resolve_right (nin1 (Ne.symm ne64)))
    have m73 := d69 _ _ ne64 m66
    have al74 := (Al.mono al60 sb72)
    refine n_name (setS (setS (setS (setS set0)))) ?_
    refine n_seq ?_
    refine n_asg ?_
    refine n_lc ?_
    refine n_itL ?_
    refine n_call ?_
    refine n_cons ?_
    refine n_call ?_
    refine n_cons ?_
    refine n_var rfl ?_
    refine n_cons ?_
    refine n_var rfl ?_
    refine n_cons ?_
    refine n_var rfl ?_
    refine n_nil ?_
    obtain ⟨r110, hr110, hm⟩ := bnd hm
    refine ⟨F68, p_pool, vs44, r40.2, .int x_most, x_most, (.ref p20), r13.1, r110, rfl, g71.fh, m73.fr, m73.hp, (Al.mono al46 (Sub.trans d54.ff sb72)), rfl, (Rp.mono (eL eS) (Sub.trans d43.ff (Sub.trans d54.ff sb72)) (⟨p20, vs21, rfl, q35, al39⟩ : (eL eS).r F33 (.ref p20) r13.1)), hr110, fun v117 F111 H112 vs114 d113 hp115 al116 r118 => ?_⟩
    have g119 := g71.trans d113 (fun a ha => (List.mem_cons.mp ha).elim (fun e => e ▸ m73.own) (fun ha => absurd ha (by simp)))
    have m120 := m73.back d113 hp115
    refine n_nil ?_
    obtain ⟨r121, hr121, hm⟩ := bnd hm
    refine ⟨F111, v117, r110.1, r121, rfl, g119.fh, r118, hr121, fun v131 F122 H123 d124 r132 => ?_⟩
    obtain ⟨p125, vs126, ev131, np127, fp128, hp129, al130⟩ := r132
    subst ev131
    have go133 := g119.old np127
    have ne134 := m120.ne np127
    have g135 := g119.trans0 d124
    have m136 := m120.call0 d124
    have m137 : Mu [p_pool] H0 F122 H123 p125 (.lst vs126) := ⟨fp128, hp129, .inl go133⟩
    obtain ⟨F138, q140, sb142, g141, d139⟩ := freeze g135 m137 (m137.own.resolve_right (nin1 (Ne.symm ne134)))
    have m143 := d139 _ _ ne134 m136
    have al144 := (Al.mono al130 sb142)
    refine v_itL (SqL.of (g141.fh _ _ q140)) ?_
    obtain ⟨u147, hu147, hm⟩ := bnd hm
    obtain ⟨q148, hq148, hm⟩ := bnd hm
    intro D145 nD146
    have goD145 := g141.old nD146
    have neD145_p_pool := m143.ne nD146
    have gg179 := gr_newM (W := []) (o := .lst []) g141.fh nD146
    refine comp_s (sr_L al144) hq148 (need_ok hu147).1 (fun (acc7 : List Sg) H7 => ∃ (F7 : Hp) (vs7 : List V), Gr [p_pool] F0 H0 F7 H7 ∧ Sub F138 F7 ∧ F7 D145 = none ∧ H7 D145 = some (.lst vs7) ∧ Al eS F7 vs7 acc7 ∧ Mu [p_pool] H0 F7 H7 p_pool (.lst vs114)) ⟨_, [], g141.trans0 gg179, Sub.refl _, g141.fh.nn nD146, upd_same, .nil, m143.call0 gg179⟩ ?_ ?_ ?_
    · rintro _ _ ⟨F160, vs161, g162, sb163, _, _, _, _⟩
      exact (SqL.of (g162.fh _ _ (sb163 _ _ q140)))
    · rintro a149 r151 acc152 x153 H154 H155 ⟨F160, vs161, g162, sb163, fD164, hD165, al166, m167⟩ hY156 hm hl159 N157 hN158
      have m169 : Mu [p_pool] H0 F160 H154 D145 (.lst vs161) := ⟨fD164, hD165, .inl goD145⟩
      refine wipe_to (σ' := [some (.ref p_pool), some (.int x_most), some (.int r2.1), some (.ref p20), some (.ref p55), none, none]) rfl ?_
      refine v_nmY hY156 fun r170 => ?_
      obtain ⟨er170, lr170⟩ : x153 = V.str (S a149) ∧ a149.length ≤ sizeLine := r170
      subst er170
      refine n_name (setS (setS (setS (setS (setS (setS set0)))))) ?_
      refine ⟨rfl, ?_⟩
      refine n_yes ?_ rfl
      refine n_op ?_
      refine n_op ?_
      refine n_var rfl ?_
      refine n_c ?_
      obtain ⟨a171, ha171, hm⟩ := bnd hm
      refine v_ixL (SqL.of (g162.fh _ _ ((Sub.trans d113.ff (Sub.trans d124.ff (Sub.trans sb142 sb163))) _ _ q70))) (Al.mono al74 (Sub.trans d113.ff (Sub.trans d124.ff (Sub.trans sb142 sb163)))) ha171 fun v172 r173 => ?_
      obtain ⟨er173, lr173⟩ : v172 = V.str (S a171) ∧ a171.length ≤ sizeLine := r173
      subst er173
      refine n_sl ?_
      refine n_var rfl ?_
      refine n_part ?_
      refine n_c ?_
      refine v_part ?_
      refine n_nopart ?_
      refine v_slS lr170 ?_
      obtain ⟨t174, ht174, hm⟩ := bnd hm
      refine v_catS ht174 ?_
      obtain rfl := Option.some.inj hm
      refine ⟨_, m169.hp, by rw [al_len al166]; exact hl159, hN158 _ ?_⟩
      exact ⟨_, _, m169.gr g162, sb163, m169.fr, upd_same, pd_snoc al166 (show eS.r F160 (.str (S t174)) t174 from ⟨rfl, (catM_le ht174)⟩), m167.mut neD145_p_pool⟩
    rintro H180 ⟨F181, vs182, g183, sb184, fD185, hD186, al187, m188⟩
    have m190 : Mu [p_pool] H0 F181 H180 D145 (.lst vs182) := ⟨fD185, hD186, .inl goD145⟩
    obtain ⟨F191, q193, sb195, g194, d192⟩ := freeze g183 m190 (m190.own.resolve_right (nin1 (Ne.symm neD145_p_pool)))
    have m196 := d192 _ _ neD145_p_pool m188
    have al197 := (Al.mono al187 sb195)
    refine n_name (setS (setS (setS (setS (setS set0))))) ?_
    refine n_seq ?_
    refine n_ifs ?_
    refine n_test ?_
    refine n_op ?_
    refine n_var rfl ?_
    refine n_tup ?_
    refine n_cons ?_
    refine n_c ?_
    refine n_cons ?_
    refine n_c ?_
    refine n_nil ?_
    refine v_mk2 g194.fh (show eI.r F191 (.int (3 : Int)) (3 : Int) from rfl) (show eI.r F191 (.int (4 : Int)) (4 : Int) from rfl) fun v212 F213 H214 d215 r216 => ?_
    have g217 := g194.trans0 d215
    have m218 := m196.call0 d215
    obtain ⟨p219, vs220, ep219, q221, al222⟩ := (p2_T r216)
    subst ep219
    refine v_inQ (.inr (SqT.of (g217.fh _ _ q221))) al222 ?_
    refine v_bl ?_
    obtain ⟨s224, hs224, hm⟩ := bnd hm
    refine br_join (fun σ7 H7 => ∃ (F7 : Hp) (v_other : V) (us_pool : List V), σ7 = [some (.ref p_pool), some (.int x_most), some (.int r2.1), some (.ref p20), some (.ref p55), some v_other, none] ∧ Gr [p_pool] F0 H0 F7 H7 ∧ Sub F213 F7 ∧ (eL eS).r F7 v_other s224.1 ∧ Mu [p_pool] H0 F7 H7 p_pool (.lst us_pool) ∧ Al eI F7 us_pool s224.2) ?_ (fun hb223 nx225 hnx226 => ?_) (fun hb223 nx225 hnx226 => ?_)
    rotate_left
    · have hm := ifT hb223 hs224
      refine n_asg ?_
      refine n_call ?_
      refine n_cons ?_
      refine n_var rfl ?_
      refine n_cons ?_
      refine n_var rfl ?_
      refine n_cons ?_
      refine n_var rfl ?_
      refine n_nil ?_
      obtain ⟨r227, hr227, hm⟩ := bnd hm
      refine ⟨F213, p_pool, vs114, r110.2, (.ref p55), r51, .int x_most, x_most, r227, rfl, g217.fh, m218.fr, m218.hp, (Al.mono al116 (Sub.trans d124.ff (Sub.trans sb142 (Sub.trans sb184 (Sub.trans sb195 d215.ff))))), (Rp.mono (eL eS) (Sub.trans d113.ff (Sub.trans d124.ff (Sub.trans sb142 (Sub.trans sb184 (Sub.trans sb195 d215.ff))))) (⟨p55, vs56, rfl, q70, al74⟩ : (eL eS).r F68 (.ref p55) r51)), rfl, hr227, fun v240 F228 H229 vs231 d230 hp232 al233 r241 => ?_⟩
      obtain ⟨p234, vs235, ev240, np236, fp237, hp238, al239⟩ := r241
      subst ev240
      have go242 := g217.old np236
      have ne243 := m218.ne np236
      have g244 := g217.trans d230 (fun a ha => (List.mem_cons.mp ha).elim (fun e => e ▸ m218.own) (fun ha => absurd ha (by simp)))
      have m245 := m218.back d230 hp232
      have m246 : Mu [p_pool] H0 F228 H229 p234 (.lst vs235) := ⟨fp237, hp238, .inl go242⟩
      obtain ⟨F247, q249, sb251, g250, d248⟩ := freeze g244 m246 (m246.own.resolve_right (nin1 (Ne.symm ne243)))
      have m252 := d248 _ _ ne243 m245
      have al253 := (Al.mono al239 sb251)
      refine n_name (setS (setS (setS (setS (setS set0))))) ?_
      obtain rfl := Option.some.inj hm
      exact hnx226 _ _ ⟨_, (.ref p234), vs231, rfl, g250, (Sub.trans d230.ff sb251), (⟨p234, vs235, rfl, q249, al253⟩ : (eL eS).r F247 (.ref p234) r227.1), m252, (Al.mono al233 sb251)⟩
    · have hm := ifF hb223 hs224
      refine n_nextS ?_
      obtain rfl := Option.some.inj hm
      exact hnx226 _ _ ⟨_, (.ref D145), vs114, rfl, g217, Sub.refl _, (Rp.mono (eL eS) d215.ff (⟨D145, vs182, rfl, q193, al197⟩ : (eL eS).r F191 (.ref D145) q148)), m218, (Al.mono al116 (Sub.trans d124.ff (Sub.trans sb142 (Sub.trans sb184 (Sub.trans sb195 d215.ff)))))⟩
    rintro _ H262 ⟨F254, v257, vs258, rfl, g255, sb256, r259, m260, al261⟩
    refine n_seq ?_
    refine n_ifs ?_
    refine n_test ?_
    refine n_op ?_
    refine n_var rfl ?_
    refine n_c ?_
    refine v_eqI ?_
    refine v_bl ?_
    obtain ⟨s264, hs264, hm⟩ := bnd hm
    refine br_join (fun σ7 H7 => ∃ (F7 : Hp) (v_other : V), σ7 = [some (.ref p_pool), some (.int x_most), some (.int r2.1), some (.ref p20), some (.ref p55), some v_other, none] ∧ Gr [p_pool] F0 H0 F7 H7 ∧ Sub F254 F7 ∧ (eL eS).r F7 v_other s264 ∧ Mu [p_pool] H0 F7 H7 p_pool (.lst vs258)) ?_ (fun hb263 nx265 hnx266 => ?_) (fun hb263 nx265 hnx266 => ?_)
    rotate_left
    · have hm := ifT hb263 hs264
      refine n_asg ?_
      refine n_var rfl ?_
      refine n_name (setS (setS (setS (setS (setS set0))))) ?_
      obtain rfl := Option.some.inj hm
      exact hnx266 _ _ ⟨_, (.ref p55), rfl, g255, Sub.refl _, (Rp.mono (eL eS) (Sub.trans d113.ff (Sub.trans d124.ff (Sub.trans sb142 (Sub.trans sb184 (Sub.trans sb195 (Sub.trans d215.ff sb256)))))) (⟨p55, vs56, rfl, q70, al74⟩ : (eL eS).r F68 (.ref p55) r51)), m260⟩
    · have hm := ifF hb263 hs264
      refine n_nextS ?_
      obtain rfl := Option.some.inj hm
      exact hnx266 _ _ ⟨_, v257, rfl, g255, Sub.refl _, r259, m260⟩
    rintro _ H273 ⟨F267, v270, rfl, g268, sb269, r271, m272⟩
    refine n_ret ?_
    refine n_tup ?_
    refine n_cons ?_
    refine n_var rfl ?_
    refine n_cons ?_
    refine n_var rfl ?_
    refine n_nil ?_
    refine v_mk2 g268.fh (show (eL eS).r F267 (.ref p55) r51 from (Rp.mono (eL eS) (Sub.trans d113.ff (Sub.trans d124.ff (Sub.trans sb142 (Sub.trans sb184 (Sub.trans sb195 (Sub.trans d215.ff (Sub.trans sb256 sb269))))))) (⟨p55, vs56, rfl, q70, al74⟩ : (eL eS).r F68 (.ref p55) r51))) (show (eL eS).r F267 v270 s264 from r271) fun v274 F275 H276 d277 r278 => ?_
    have g279 := g268.trans0 d277
    have m280 := m272.call0 d277
    obtain rfl := Option.some.inj hm
    exact hk _ _ _ _ g279 m280.hp (Al.mono al261 (Sub.trans sb269 d277.ff)) r278

def m__law_right (x_one : List Sg) (x_other : List Sg) : Option Bool :=
  (need (ssetB 3999 x_one) ()).bind fun u1 =>
  (need (ssetB 3999 x_other) ()).bind fun u14 =>
  (need (szB (ssetL ltS x_one).length) ()).bind fun u29 =>
  (compS (ssetL ltS x_one) fun a31 =>
  (need (eqB (dS.d a31) (.list ((ssetL ltS x_other).map dS.d))) ()).bind fun u51 =>
  if (decide (a31 ∈ (ssetL ltS x_other))) = true then
  some (some a31)
  else
  some none).bind fun q30 =>
  (need (szB q30.length) ()).bind fun u75 =>
  (compS q30 fun a77 =>
  (need (eqB (dS.d a77) (.list ((ssetL ltS x_one).map dS.d))) ()).bind fun u97 =>
  (idxM (ssetL ltS x_one) a77).bind fun a98 =>
  (need (eqB (dS.d a77) (.list ((ssetL ltS x_other).map dS.d))) ()).bind fun u99 =>
  (idxM (ssetL ltS x_other) a77).bind fun a100 =>
  some (some (a98, a100))).bind fun q76 =>
  (m__law_trie q30).bind fun r128 =>
  (uptoM 0 (2 : Int)).bind fun l141 =>
  (foldR l141 () fun s145 a144 =>
  (m__law_trie (ssetL ltS x_one)).bind fun r159 =>
  (m__law_trie (ssetL ltS x_other)).bind fun r166 =>
  (m_laid_under r159 r166).bind fun r173 =>
  (reprM (.tuple [(dP2 (dT dI) dS).d r173.1, .list (r173.2.map (dP2 (dO dI (fun _ => rfl)) (dO dI (fun _ => rfl))).d)])).bind fun t192 =>
  (reprM ((dP2 (dP2 (dT dI) dS) (dL (dP2 dI dI))).d (r128, q76))).bind fun t193 =>
  if (!decide (t192 = t193)) = true then
  some (.rt false)
  else
  (popM r173.2).bind fun l195 =>
  some (.nx ())).bind fun z142 =>
  thenF z142 (fun s205 =>
  some true) (fun r7 => some r7)
def sp__law_right (K : PySem.W.Frag) : Sp := fun vs H Q _ => ∃ (F : Hp) (v_one : V) (x_one : List Sg) (v_other : V) (x_other : List Sg) (r : Bool), vs = [v_one, v_other] ∧ Sub F H ∧ (eL eS).r F v_one x_one ∧ (eL eS).r F v_other x_other ∧ m__law_right x_one x_other = some r ∧ ∀ (v : V) (F' H' : Hp) , Gr [] F H F' H' → eB.r F' v r → Q v H'
theorem sc__law_right : FnScope ["one", "other", "here", "there", "rows", "pairs", "due", "turn", "found", "way"] ["one", "other"] (defScope s__law_right) := ⟨rfl, rfl, rfl, by decide +kernel, rfl, by decide +kernel, by decide +kernel⟩
theorem ok__law_right {f : Addr} {fd : FuncData} (F : FnP K "_law_right" s__law_right f fd) (H__law_trie : HasG P w K mg base "_law_trie" ["ways"] 1 (sp__law_trie K)) (H_laid_under : HasG P w K mg base "laid_under" ["one", "other"] 6 (sp_laid_under K)) (b_sorted : mg "sorted" = none) (b_range : mg "range" = none) (b_set : mg "set" = none) (b_repr : mg "repr" = none) : FnG P w K mg base CX0 7 f fd ["one", "other"] (sp__law_right K) := by
  obtain ⟨f__law_trie, fd__law_trie, G0__law_trie, g__law_trie, k__law_trie, b__law_trie⟩ := H__law_trie
  have G__law_trie := G0__law_trie.mono (show 1 ≤ 6 by decide)
  obtain ⟨f_laid_under, fd_laid_under, G0_laid_under, g_laid_under, k_laid_under, b_laid_under⟩ := H_laid_under
  have G_laid_under := G0_laid_under.mono (show 6 ≤ 6 by decide)
  refine FnDok F sc__law_right (fun vs H Q E h => ?_) (fun cdv A outer s H0 vs Q E gd hr h => ?_)
  · obtain ⟨_, _, _, _, _, _, rfl, _⟩ := h
    rfl
  · obtain ⟨F0, v_one, x_one, v_other, x_other, r0, rfl, hs0, r_one, r_other, hm, hk⟩ := h
    have g0 : Gr [] F0 H0 F0 H0 := Gr.refl hs0
    refine ⟨_, PSs.nox (pss_cons (ps_set (i := 2) sc__law_right.nd rfl (by first | exact Or.inl rfl | exact Or.inr rfl) (pe_ssetK (K := K) rfl hr (by rfl) b_sorted (by rfl) b_set (pa_cons (pv 0) pa_nil)))
(pss_cons (ps_set (i := 3) sc__law_right.nd rfl (by first | exact Or.inl rfl | exact Or.inr rfl) (pe_ssetK (K := K) rfl hr (by rfl) b_sorted (by rfl) b_set (pa_cons (pv 1) pa_nil)))
(pss_cons (ps_setLc (i := 4) (own := [("way", 9)]) (g := gName 9) (by rfl) sc__law_right.nd rfl rfl (sw_true rfl rfl rfl (by decide +kernel)) (c_pilist (K := K) rfl (pv 2)) (blkOk_by (own := [("way", 9)]) (N := ["one", "other", "here", "there", "rows", "pairs", "due", "turn", "found", "way"]) (sc := defScope s__law_right) (by decide +kernel)) (fun _ _ _ _ _ => (pg_name (i := 9) sc__law_right.nd rfl (Or.inl rfl))) (fun _ _ _ _ _ => pts_one (pt_cmpR (c_inD (K := K) rfl hr) (pv 9) (pv 3) (by with_unfolding_all rfl))) (fun _ _ _ _ _ => (pv 9)))
(pss_cons (ps_setLc (i := 5) (own := [("way", 9)]) (g := gName 9) (by rfl) sc__law_right.nd rfl rfl (sw_true rfl rfl rfl (by decide +kernel)) (c_pilist (K := K) rfl (pv 4)) (blkOk_by (own := [("way", 9)]) (N := ["one", "other", "here", "there", "rows", "pairs", "due", "turn", "found", "way"]) (sc := defScope s__law_right) (by decide +kernel)) (fun _ _ _ _ _ => (pg_name (i := 9) sc__law_right.nd rfl (Or.inl rfl))) (fun _ _ _ _ _ => pts_nil) (fun _ _ _ _ _ => (pe_tup (pa_cons (c_bm (K := K) rfl PySem.F.plainAttrs_list PySem.F.slot_list_index PySem.F.type_list_index (c_indexD (K := K) rfl hr) (pv 2) (pa_cons (pv 9) pa_nil)) (pa_cons (c_bm (K := K) rfl PySem.F.plainAttrs_list PySem.F.slot_list_index PySem.F.type_list_index (c_indexD (K := K) rfl hr) (pv 3) (pa_cons (pv 9) pa_nil)) pa_nil)))))
(pss_cons (ps_set (i := 6) sc__law_right.nd rfl (by first | exact Or.inl rfl | exact Or.inr rfl) (pe_tup (pa_cons (pe_callG G__law_trie gd hr (by rfl) g__law_trie k__law_trie b__law_trie pass0 (pa_cons (pv 4) pa_nil)) (pa_cons (pv 5) pa_nil))))
(pss_cons (ps_for PassesOwn.never rfl (pi_range1 (by rfl) b_range (pa_cons pe_int pa_nil)) (pg_name (i := 7) sc__law_right.nd rfl (by first | exact Or.inl rfl | exact Or.inr rfl)) (pss_cons (ps_set (i := 8) sc__law_right.nd rfl (by first | exact Or.inl rfl | exact Or.inr rfl) (pe_callG G_laid_under gd hr (by rfl) g_laid_under k_laid_under b_laid_under pass0 (pa_cons (pe_callG G__law_trie gd hr (by rfl) g__law_trie k__law_trie b__law_trie pass0 (pa_cons (pv 2) pa_nil)) (pa_cons (pe_callG G__law_trie gd hr (by rfl) g__law_trie k__law_trie b__law_trie pass0 (pa_cons (pv 3) pa_nil)) pa_nil))))
(pss_cons (ps_if (pt_cmpR op_ne (pe_callB (c_repr (K := K) rfl gd hr) (by rfl) b_repr bo_repr (pa_cons (pv 8) pa_nil)) (pe_callB (c_repr (K := K) rfl gd hr) (by rfl) b_repr bo_repr (pa_cons (pv 6) pa_nil)) (nomark _)) (pss_one (ps_ret pe_bl)) pss_nil)
(pss_one (ps_expr (c_bm0 (K := K) rfl PySem.F.plainAttrs_list PySem.F.slot_list_pop PySem.F.type_list_pop mt_pop (pe_ix (c_ixT (K := K) rfl) (pv 8) pe_int (fun _ _ => rfl))))))))
(pss_one (ps_ret pe_bl)))))))), ?_⟩
    refine n_seq ?_
    refine n_asg ?_
    refine n_cb ?_
    refine n_cons ?_
    refine n_var rfl ?_
    refine n_nil ?_
    obtain ⟨u1, hu1, hm⟩ := bnd hm
    obtain ⟨p2, vs3, ep2, q4, al5⟩ := r_one
    subst ep2
    refine v_ssetKF soS keS lo_S g0.fh (SqL.of (g0.fh _ _ q4)) al5 (need_ok hu1).1 fun p6 vs7 F9 H10 d11 q12 al8 => ?_
    have g13 := g0.trans0 d11
    refine n_name (setS (setS set0)) ?_
    refine n_seq ?_
    refine n_asg ?_
    refine n_cb ?_
    refine n_cons ?_
    refine n_var rfl ?_
    refine n_nil ?_
    obtain ⟨u14, hu14, hm⟩ := bnd hm
    obtain ⟨p15, vs16, ep15, q17, al18⟩ := (Rp.mono (eL eS) d11.ff r_other)
    subst ep15
    refine v_ssetKF soS keS lo_S g13.fh (SqL.of (g13.fh _ _ q17)) al18 (need_ok hu14).1 fun p19 vs20 F22 H23 d24 q25 al21 => ?_
    have g26 := g13.trans0 d24
    refine n_name (setS (setS (setS set0))) ?_
    refine n_seq ?_
    refine n_asg ?_
    refine n_lc ?_
    refine n_itL ?_
    refine n_var rfl ?_
    refine v_itL (SqL.of (g26.fh _ _ (d24.ff _ _ q12))) ?_
    obtain ⟨u29, hu29, hm⟩ := bnd hm
    obtain ⟨q30, hq30, hm⟩ := bnd hm
    intro D27 nD28
    have goD27 := g26.old nD28
    have gg57 := gr_newM (W := []) (o := .lst []) g26.fh nD28
    refine comp_s (sr_L (Al.mono al8 d24.ff)) hq30 (need_ok hu29).1 (fun (acc7 : List Sg) H7 => ∃ (F7 : Hp) (vs7 : List V), Gr [] F0 H0 F7 H7 ∧ Sub F22 F7 ∧ F7 D27 = none ∧ H7 D27 = some (.lst vs7) ∧ Al eS F7 vs7 acc7) ⟨_, [], g26.trans0 gg57, Sub.refl _, g26.fh.nn nD28, upd_same, .nil⟩ ?_ ?_ ?_
    · rintro _ _ ⟨F42, vs43, g44, sb45, _, _, _⟩
      exact (SqL.of (g44.fh _ _ ((Sub.trans d24.ff sb45) _ _ q12)))
    · rintro a31 r33 acc34 x35 H36 H37 ⟨F42, vs43, g44, sb45, fD46, hD47, al48⟩ hY38 hm hl41 N39 hN40
      have m49 : Mu [] H0 F42 H36 D27 (.lst vs43) := ⟨fD46, hD47, .inl goD27⟩
      refine wipe_to (σ' := [some (.ref p2), some (.ref p15), some (.ref p6), some (.ref p19), none, none, none, none, none, none]) rfl ?_
      refine v_nmY hY38 fun r50 => ?_
      obtain ⟨er50, lr50⟩ : x35 = V.str (S a31) ∧ a31.length ≤ sizeLine := r50
      subst er50
      refine n_name (setS (setS (setS (setS (setS (setS (setS (setS (setS set0))))))))) ?_
      refine ⟨rfl, ?_⟩
      refine n_test ?_
      refine n_op ?_
      refine n_var rfl ?_
      refine n_var rfl ?_
      obtain ⟨u51, hu51, hm⟩ := bnd hm
      refine v_inDi dS (dS.ok g44.fh (show eS.r F42 (.str (S a31)) a31 from ⟨rfl, lr50⟩)) ((dL dS).ok g44.fh (show (eL eS).r F42 (.ref p19) (ssetL ltS x_other) from (Rp.mono (eL eS) sb45 (⟨p19, vs20, rfl, q25, al21⟩ : (eL eS).r F22 (.ref p19) (ssetL ltS x_other))))) (need_ok hu51).1 ?_
      refine v_bl ?_
      refine br (fun hb52 => ?_) (fun hb52 => ?_)
      · replace hm := ifT hb52 hm
        refine n_var rfl ?_
        obtain rfl := Option.some.inj hm
        refine ⟨_, m49.hp, by rw [al_len al48]; exact hl41, hN40 _ ?_⟩
        exact ⟨_, _, m49.gr g44, sb45, m49.fr, upd_same, pd_snoc al48 (show eS.r F42 (.str (S a31)) a31 from ⟨rfl, lr50⟩)⟩
      · replace hm := ifF hb52 hm
        obtain rfl := Option.some.inj hm
        refine hN40 _ ?_
        simp only [Option.toList, List.append_nil]
        exact ⟨_, _, g44, sb45, m49.fr, m49.hp, al48⟩
    rintro H58 ⟨F59, vs60, g61, sb62, fD63, hD64, al65⟩
    have m66 : Mu [] H0 F59 H58 D27 (.lst vs60) := ⟨fD63, hD64, .inl goD27⟩
    obtain ⟨F67, q69, sb71, g70, d68⟩ := freeze g61 m66 (m66.own.resolve_right (by simp))
    have al72 := (Al.mono al65 sb71)
    refine n_name (setS (setS (setS (setS set0)))) ?_
    refine n_seq ?_
    refine n_asg ?_
    refine n_lc ?_
    refine n_itL ?_
    refine n_var rfl ?_
    refine v_itL (SqL.of (g70.fh _ _ q69)) ?_
    obtain ⟨u75, hu75, hm⟩ := bnd hm
    obtain ⟨q76, hq76, hm⟩ := bnd hm
    intro D73 nD74
    have goD73 := g70.old nD74
    have gg112 := gr_newM (W := []) (o := .lst []) g70.fh nD74
    refine comp_s (sr_L al72) hq76 (need_ok hu75).1 (fun (acc7 : List (Int × Int)) H7 => ∃ (F7 : Hp) (vs7 : List V), Gr [] F0 H0 F7 H7 ∧ Sub F67 F7 ∧ F7 D73 = none ∧ H7 D73 = some (.lst vs7) ∧ Al (eP2 eI eI) F7 vs7 acc7) ⟨_, [], g70.trans0 gg112, Sub.refl _, g70.fh.nn nD74, upd_same, .nil⟩ ?_ ?_ ?_
    · rintro _ _ ⟨F88, vs89, g90, sb91, _, _, _⟩
      exact (SqL.of (g90.fh _ _ (sb91 _ _ q69)))
    · rintro a77 r79 acc80 x81 H82 H83 ⟨F88, vs89, g90, sb91, fD92, hD93, al94⟩ hY84 hm hl87 N85 hN86
      have m95 : Mu [] H0 F88 H82 D73 (.lst vs89) := ⟨fD92, hD93, .inl goD73⟩
      refine wipe_to (σ' := [some (.ref p2), some (.ref p15), some (.ref p6), some (.ref p19), some (.ref D27), none, none, none, none, none]) rfl ?_
      refine v_nmY hY84 fun r96 => ?_
      obtain ⟨er96, lr96⟩ : x81 = V.str (S a77) ∧ a77.length ≤ sizeLine := r96
      subst er96
      refine n_name (setS (setS (setS (setS (setS (setS (setS (setS (setS set0))))))))) ?_
      refine ⟨rfl, ?_⟩
      refine n_yes ?_ rfl
      refine n_tup ?_
      refine n_cons ?_
      refine n_bm ?_
      refine n_var rfl ?_
      refine ⟨tyL (SqL.of (g90.fh _ _ ((Sub.trans d24.ff (Sub.trans sb62 (Sub.trans sb71 sb91))) _ _ q12))), ?_⟩
      refine n_cons ?_
      refine n_var rfl ?_
      refine n_nil ?_
      obtain ⟨u97, hu97, hm⟩ := bnd hm
      obtain ⟨a98, ha98, hm⟩ := bnd hm
      refine v_indexD dS (dS.ok g90.fh (show eS.r F88 (.str (S a77)) a77 from ⟨rfl, lr96⟩)) ((dL dS).ok g90.fh (show (eL eS).r F88 (.ref p6) (ssetL ltS x_one) from (Rp.mono (eL eS) (Sub.trans d24.ff (Sub.trans sb62 (Sub.trans sb71 sb91))) (⟨p6, vs7, rfl, q12, al8⟩ : (eL eS).r F9 (.ref p6) (ssetL ltS x_one))))) (need_ok hu97).1 ha98 ?_
      refine n_cons ?_
      refine n_bm ?_
      refine n_var rfl ?_
      refine ⟨tyL (SqL.of (g90.fh _ _ ((Sub.trans sb62 (Sub.trans sb71 sb91)) _ _ q25))), ?_⟩
      refine n_cons ?_
      refine n_var rfl ?_
      refine n_nil ?_
      obtain ⟨u99, hu99, hm⟩ := bnd hm
      obtain ⟨a100, ha100, hm⟩ := bnd hm
      refine v_indexD dS (dS.ok g90.fh (show eS.r F88 (.str (S a77)) a77 from ⟨rfl, lr96⟩)) ((dL dS).ok g90.fh (show (eL eS).r F88 (.ref p19) (ssetL ltS x_other) from (Rp.mono (eL eS) (Sub.trans sb62 (Sub.trans sb71 sb91)) (⟨p19, vs20, rfl, q25, al21⟩ : (eL eS).r F22 (.ref p19) (ssetL ltS x_other))))) (need_ok hu99).1 ha100 ?_
      refine n_nil ?_
      refine v_mk2 g90.fh (show eI.r F88 (.int a98) a98 from rfl) (show eI.r F88 (.int a100) a100 from rfl) fun v101 F102 H103 d104 r105 => ?_
      have g106 := g90.trans0 d104
      have m107 := m95.call0 d104
      obtain rfl := Option.some.inj hm
      refine ⟨_, m107.hp, by rw [al_len (Al.mono al94 d104.ff)]; exact hl87, hN86 _ ?_⟩
      exact ⟨_, _, m107.gr g106, (Sub.trans sb91 d104.ff), m107.fr, upd_same, pd_snoc (Al.mono al94 d104.ff) (show (eP2 eI eI).r F102 v101 (a98, a100) from r105)⟩
    rintro H113 ⟨F114, vs115, g116, sb117, fD118, hD119, al120⟩
    have m121 : Mu [] H0 F114 H113 D73 (.lst vs115) := ⟨fD118, hD119, .inl goD73⟩
    obtain ⟨F122, q124, sb126, g125, d123⟩ := freeze g116 m121 (m121.own.resolve_right (by simp))
    have al127 := (Al.mono al120 sb126)
    refine n_name (setS (setS (setS (setS (setS set0))))) ?_
    refine n_seq ?_
    refine n_asg ?_
    refine n_tup ?_
    refine n_cons ?_
    refine n_call ?_
    refine n_cons ?_
    refine n_var rfl ?_
    refine n_nil ?_
    obtain ⟨r128, hr128, hm⟩ := bnd hm
    refine ⟨F122, (.ref D27), q30, r128, rfl, g125.fh, (Rp.mono (eL eS) (Sub.trans sb117 sb126) (⟨D27, vs60, rfl, q69, al72⟩ : (eL eS).r F67 (.ref D27) q30)), hr128, fun v132 F129 H130 d131 r133 => ?_⟩
    have g134 := g125.trans0 d131
    refine n_cons ?_
    refine n_var rfl ?_
    refine n_nil ?_
    refine v_mk2 g134.fh (show (eP2 (eT eI) eS).r F129 v132 r128 from r133) (show (eL (eP2 eI eI)).r F129 (.ref D73) q76 from (Rp.mono (eL (eP2 eI eI)) d131.ff (⟨D73, vs115, rfl, q124, al127⟩ : (eL (eP2 eI eI)).r F122 (.ref D73) q76))) fun v135 F136 H137 d138 r139 => ?_
    have g140 := g134.trans0 d138
    refine n_name (setS (setS (setS (setS (setS (setS set0)))))) ?_
    refine n_seq ?_
    refine n_for ?_
    refine n_rng1 ?_
    refine n_cons ?_
    refine n_c ?_
    refine n_nil ?_
    obtain ⟨l141, hl141, hm⟩ := bnd hm
    refine v_rng1 hl141 ?_
    obtain ⟨z142, hz142, hm⟩ := bnd hm
    have hmo143 := hm
    refine for_r (sr_R1 hl141) hz142 (fun (s7 : Unit) σ7 H7 => ∃ (F7 : Hp) (o_turn : Option V) (o_found : Option V), σ7 = [some (.ref p2), some (.ref p15), some (.ref p6), some (.ref p19), some (.ref D27), some (.ref D73), some v135, o_turn, o_found, none] ∧ Gr [] F0 H0 F7 H7 ∧ Sub F136 F7) ⟨_, _, _, rfl, g140, Sub.refl _⟩ ?_ ?_ ?_
    · intros; exact trivial
    · rintro a144 s145 s146 x147 _ H148 H149 ⟨F153, o156, o157, rfl, g154, sb155⟩ hY150 hm hrt158 N151 hN152
      refine v_nmR hY150 ?_
      refine n_name (setS (setS (setS (setS (setS (setS (setS set0))))))) ?_
      refine n_seq ?_
      refine n_asg ?_
      refine n_call ?_
      refine n_cons ?_
      refine n_call ?_
      refine n_cons ?_
      refine n_var rfl ?_
      refine n_nil ?_
      obtain ⟨r159, hr159, hm⟩ := bnd hm
      refine ⟨F153, (.ref p6), (ssetL ltS x_one), r159, rfl, g154.fh, (Rp.mono (eL eS) (Sub.trans d24.ff (Sub.trans sb62 (Sub.trans sb71 (Sub.trans sb117 (Sub.trans sb126 (Sub.trans d131.ff (Sub.trans d138.ff sb155))))))) (⟨p6, vs7, rfl, q12, al8⟩ : (eL eS).r F9 (.ref p6) (ssetL ltS x_one))), hr159, fun v163 F160 H161 d162 r164 => ?_⟩
      have g165 := g154.trans0 d162
      refine n_cons ?_
      refine n_call ?_
      refine n_cons ?_
      refine n_var rfl ?_
      refine n_nil ?_
      obtain ⟨r166, hr166, hm⟩ := bnd hm
      refine ⟨F160, (.ref p19), (ssetL ltS x_other), r166, rfl, g165.fh, (Rp.mono (eL eS) (Sub.trans sb62 (Sub.trans sb71 (Sub.trans sb117 (Sub.trans sb126 (Sub.trans d131.ff (Sub.trans d138.ff (Sub.trans sb155 d162.ff))))))) (⟨p19, vs20, rfl, q25, al21⟩ : (eL eS).r F22 (.ref p19) (ssetL ltS x_other))), hr166, fun v170 F167 H168 d169 r171 => ?_⟩
      have g172 := g165.trans0 d169
      refine n_nil ?_
      obtain ⟨r173, hr173, hm⟩ := bnd hm
      refine ⟨F167, v163, r159, v170, r166, r173, rfl, g172.fh, (Rp.mono (eP2 (eT eI) eS) d169.ff r164), r171, hr173, fun v177 F174 H175 d176 r178 => ?_⟩
      obtain ⟨p179, p180, v181, vs182, ev177, q183, r184, np185, fp186, hp187, al188⟩ := r178
      subst ev177
      have go189 := g172.old np185
      have g190 := g172.trans0 d176
      have m191 : Mu [] H0 F174 H175 p180 (.lst vs182) := ⟨fp186, hp187, .inl go189⟩
      refine n_name (setS (setS (setS (setS (setS (setS (setS (setS set0)))))))) ?_
      refine n_seq ?_
      refine n_ifs ?_
      refine n_test ?_
      refine n_op ?_
      refine n_cb ?_
      refine n_cons ?_
      refine n_var rfl ?_
      refine n_nil ?_
      obtain ⟨t192, ht192, hm⟩ := bnd hm
      refine v_reprD (Dp.tup (.inl (.inl (g190.fh _ _ q183))) (.cons ((dP2 (dT dI) dS).ok g190.fh (show (eP2 (eT eI) eS).r F174 v181 r173.1 from r184)) (.cons (Dp.lst (.inl (.inl m191.hp)) (dt_all (dP2 (dO dI (fun _ => rfl)) (dO dI (fun _ => rfl))) g190.fh al188)) .nil))) ht192 ?_
      refine n_cb ?_
      refine n_cons ?_
      refine n_var rfl ?_
      refine n_nil ?_
      obtain ⟨t193, ht193, hm⟩ := bnd hm
      refine v_reprD ((dP2 (dP2 (dT dI) dS) (dL (dP2 dI dI))).ok g190.fh (show (eP2 (eP2 (eT eI) eS) (eL (eP2 eI eI))).r F174 v135 (r128, q76) from (Rp.mono (eP2 (eP2 (eT eI) eS) (eL (eP2 eI eI))) (Sub.trans sb155 (Sub.trans d162.ff (Sub.trans d169.ff d176.ff))) r139))) ht193 ?_
      refine v_neS ?_
      refine v_bl ?_
      refine br (fun hb194 => ?_) (fun hb194 => ?_)
      · replace hm := ifT hb194 hm
        refine n_ret ?_
        refine n_c ?_
        obtain rfl := Option.some.inj hm
        have hm := thenF_rt (hrt158 _ rfl) hmo143
        obtain rfl := Option.some.inj hm
        exact hk _ _ _  g190   rfl
      replace hm := ifF hb194 hm
      refine n_nextS ?_
      refine n_drop ?_
      refine n_bm0 ?_
      refine n_op ?_
      refine n_var rfl ?_
      refine n_c ?_
      refine v_ixRaw1 g190.fh q183 ?_
      refine ⟨tyL m191.l, ?_⟩
      obtain ⟨l195, hl195, hm⟩ := bnd hm
      refine v_pop m191.hp al188 hl195 fun v196 r197 al198 => ?_
      obtain ⟨vs201, H199, g200, evs201, eH199⟩ := pop_ok g190 m191
      rw [← evs201, ← eH199]
      have al202 := al198
      rw [← evs201] at al202
      have m203 := mu_self m191 eH199
      obtain rfl := Option.some.inj hm
      exact hN152 _ _ _ rfl ⟨_, _, _, rfl, g200, (Sub.trans sb155 (Sub.trans d162.ff (Sub.trans d169.ff d176.ff)))⟩
    rintro s205 _ H204 e206 ⟨F207, o210, o211, rfl, g208, sb209⟩
    subst e206
    replace hm := thenF_nx hm
    refine n_ret ?_
    refine n_c ?_
    obtain rfl := Option.some.inj hm
    exact hk _ _ _  g208   rfl

def m_law (x_script : List Int) : Option Bool :=
  (uptoM 0 (mx (1 : Int) (mn (10 : Int) (x_script.length : Int)))).bind fun l1 =>
  (foldR l1 () fun s5 a4 =>
  (m__law_pool x_script a4).bind fun r20 =>
  (m__law_two r20 (60 : Int)).bind fun r35 =>
  (m__law_right r35.1.1 r35.1.2).bind fun r49 =>
  (if (!r49) = true then
  some true
  else
  (m__law_right r35.1.2 r35.1.1).bind fun r59 =>
  some (!r59)).bind fun c57 =>
  if c57 = true then
  some (.rt false)
  else
  some (.nx ())).bind fun z2 =>
  thenF z2 (fun s72 =>
  some true) (fun r7 => some r7)
def sp_law (K : PySem.W.Frag) : Sp := fun vs H Q _ => ∃ (F : Hp) (v_script : V) (x_script : List Int) (r : Bool), vs = [v_script] ∧ Sub F H ∧ (eQ K).r F v_script x_script ∧ m_law x_script = some r ∧ ∀ (v : V) (F' H' : Hp) , Gr [] F H F' H' → eB.r F' v r → Q v H'
theorem sc_law : FnScope ["script", "at", "one", "other"] ["script"] (defScope s_law) := ⟨rfl, rfl, rfl, by decide +kernel, rfl, by decide +kernel, by decide +kernel⟩
theorem ok_law {f : Addr} {fd : FuncData} (F : FnP K "law" s_law f fd) (H__law_two : HasG P w K mg base "_law_two" ["pool", "most"] 5 (sp__law_two K)) (H__law_pool : HasG P w K mg base "_law_pool" ["script", "at"] 2 (sp__law_pool K)) (H__law_right : HasG P w K mg base "_law_right" ["one", "other"] 7 (sp__law_right K)) (b_range : mg "range" = none) (b_max : mg "max" = none) (b_min : mg "min" = none) (b_len : mg "len" = none) : FnG P w K mg base CX0 8 f fd ["script"] (sp_law K) := by
  obtain ⟨f__law_two, fd__law_two, G0__law_two, g__law_two, k__law_two, b__law_two⟩ := H__law_two
  have G__law_two := G0__law_two.mono (show 5 ≤ 7 by decide)
  obtain ⟨f__law_pool, fd__law_pool, G0__law_pool, g__law_pool, k__law_pool, b__law_pool⟩ := H__law_pool
  have G__law_pool := G0__law_pool.mono (show 2 ≤ 7 by decide)
  obtain ⟨f__law_right, fd__law_right, G0__law_right, g__law_right, k__law_right, b__law_right⟩ := H__law_right
  have G__law_right := G0__law_right.mono (show 7 ≤ 7 by decide)
  refine FnDok F sc_law (fun vs H Q E h => ?_) (fun cdv A outer s H0 vs Q E gd hr h => ?_)
  · obtain ⟨_, _, _, _, rfl, _⟩ := h
    rfl
  · obtain ⟨F0, v_script, x_script, r0, rfl, hs0, r_script, hm, hk⟩ := h
    have g0 : Gr [] F0 H0 F0 H0 := Gr.refl hs0
    refine ⟨_, PSs.nox (pss_cons (ps_for PassesOwn.never rfl (pi_range1 (by rfl) b_range (pa_cons (pe_callB (c_max2 rfl) (by rfl) b_max bo_max (pa_cons pe_int (pa_cons (pe_callB (c_min2 rfl) (by rfl) b_min bo_min (pa_cons pe_int (pa_cons (pe_callB (c_len (K := K) rfl) (by rfl) b_len bo_len (pa_cons (pv 0) pa_nil)) pa_nil))) pa_nil))) pa_nil)) (pg_name (i := 1) sc_law.nd rfl (by first | exact Or.inl rfl | exact Or.inr rfl)) (pss_cons (ps_asg (pe_callG G__law_two gd hr (by rfl) g__law_two k__law_two b__law_two pass0 (pa_cons (pe_callG G__law_pool gd hr (by rfl) g__law_pool k__law_pool b__law_pool pass0 (pa_cons (pv 0) (pa_cons (pv 1) pa_nil))) (pa_cons pe_int pa_nil))) (c_pgtup (K := K) rfl (by rfl) (pgs_cons (pg_name (i := 2) sc_law.nd rfl (by first | exact Or.inl rfl | exact Or.inr rfl)) (pgs_cons (pg_name (i := 3) sc_law.nd rfl (by first | exact Or.inl rfl | exact Or.inr rfl)) pgs_nil))))
(pss_one (ps_if (PW.pt (pw_or (pt_not (pt_val (pe_callG G__law_right gd hr (by rfl) g__law_right k__law_right b__law_right pass0 (pa_cons (pv 2) (pa_cons (pv 3) pa_nil))))) (pw_or1 (pt_not (pt_val (pe_callG G__law_right gd hr (by rfl) g__law_right k__law_right b__law_right pass0 (pa_cons (pv 3) (pa_cons (pv 2) pa_nil)))))))) (pss_one (ps_ret pe_bl)) pss_nil))))
(pss_one (ps_ret pe_bl))), ?_⟩
    refine n_seq ?_
    refine n_for ?_
    refine n_rng1 ?_
    refine n_cons ?_
    refine n_cb ?_
    refine n_cons ?_
    refine n_c ?_
    refine n_cons ?_
    refine n_cb ?_
    refine n_cons ?_
    refine n_c ?_
    refine n_cons ?_
    refine n_cb ?_
    refine n_cons ?_
    refine n_var rfl ?_
    refine n_nil ?_
    refine v_lenQ g0.fh r_script ?_
    refine n_nil ?_
    refine v_min2 ?_
    refine n_nil ?_
    refine v_max2 ?_
    refine n_nil ?_
    obtain ⟨l1, hl1, hm⟩ := bnd hm
    refine v_rng1 hl1 ?_
    obtain ⟨z2, hz2, hm⟩ := bnd hm
    have hmo3 := hm
    refine for_r (sr_R1 hl1) hz2 (fun (s7 : Unit) σ7 H7 => ∃ (F7 : Hp) (o_at : Option V) (o_one : Option V) (o_other : Option V), σ7 = [some v_script, o_at, o_one, o_other] ∧ Gr [] F0 H0 F7 H7 ∧ Sub F0 F7) ⟨_, _, _, _, rfl, g0, Sub.refl _⟩ ?_ ?_ ?_
    · intros; exact trivial
    · rintro a4 s5 s6 x7 _ H8 H9 ⟨F13, o16, o17, o18, rfl, g14, sb15⟩ hY10 hm hrt19 N11 hN12
      refine v_nmR hY10 ?_
      refine n_name (setS set0) ?_
      refine n_seq ?_
      refine n_asg ?_
      refine n_call ?_
      refine n_cons ?_
      refine n_call ?_
      refine n_cons ?_
      refine n_var rfl ?_
      refine n_cons ?_
      refine n_var rfl ?_
      refine n_nil ?_
      obtain ⟨r20, hr20, hm⟩ := bnd hm
      refine ⟨F13, v_script, x_script, .int a4, a4, r20, rfl, g14.fh, (Rp.mono (eQ K) sb15 r_script), rfl, hr20, fun v30 F21 H22 d23 r31 => ?_⟩
      obtain ⟨p24, vs25, ev30, np26, fp27, hp28, al29⟩ := r31
      subst ev30
      have go32 := g14.old np26
      have g33 := g14.trans0 d23
      have m34 : Mu [] H0 F21 H22 p24 (.lst vs25) := ⟨fp27, hp28, .inl go32⟩
      refine n_cons ?_
      refine n_c ?_
      refine n_nil ?_
      obtain ⟨r35, hr35, hm⟩ := bnd hm
      refine ⟨F21, p24, vs25, r20, .int (60 : Int), (60 : Int), r35, rfl, g33.fh, m34.fr, m34.hp, al29, rfl, hr35, fun v42 F36 H37 vs39 d38 hp40 al41 r43 => ?_⟩
      have g44 := g33.trans d38 (fun a ha => (List.mem_cons.mp ha).elim (fun e => e ▸ m34.own) (fun ha => absurd ha (by simp)))
      refine v_unp2 g44.fh r43 fun v45 v47 r46 r48 => ?_
      refine n_gcons ?_
      refine n_name (setS (setS set0)) ?_
      refine n_gcons ?_
      refine n_name (setS (setS (setS set0))) ?_
      refine n_gnil ?_
      refine n_ifs ?_
      refine n_or ?_
      refine n_not ?_
      refine n_tB ?_
      refine n_call ?_
      refine n_cons ?_
      refine n_var rfl ?_
      refine n_cons ?_
      refine n_var rfl ?_
      refine n_nil ?_
      obtain ⟨r49, hr49, hm⟩ := bnd hm
      refine ⟨F36, v45, r35.1.1, v47, r35.1.2, r49, rfl, g44.fh, r46, r48, hr49, fun v53 F50 H51 d52 r54 => ?_⟩
      have g55 := g44.trans0 d52
      have er54 : v53 = V.bl r49 := r54
      subst er54
      refine v_bl ?_
      obtain ⟨c57, hc57, hm⟩ := bnd hm
      refine br_orTM (c := c57) (fun H7 => ∃ F58, Gr [] F0 H0 F58 H7 ∧ Sub F50 F58) (fun hb56 Q7 k7 => ?_) (fun hb56 => ?_) ?_
      · have hm := ifF hb56 hc57
        refine n_not ?_
        refine n_tB ?_
        refine n_call ?_
        refine n_cons ?_
        refine n_var rfl ?_
        refine n_cons ?_
        refine n_var rfl ?_
        refine n_nil ?_
        obtain ⟨r59, hr59, hm⟩ := bnd hm
        refine ⟨F50, v47, r35.1.2, v45, r35.1.1, r59, rfl, g55.fh, (Rp.mono (eL eS) d52.ff r48), (Rp.mono (eL eS) d52.ff r46), hr59, fun v63 F60 H61 d62 r64 => ?_⟩
        have g65 := g55.trans0 d62
        have er64 : v63 = V.bl r59 := r64
        subst er64
        refine v_bl ?_
        obtain rfl := Option.some.inj hm
        exact k7 _ ⟨_, g65, d62.ff⟩
      · have hm := ifT hb56 hc57
        exact ⟨(Option.some.inj hm).symm, ⟨_, g55, Sub.refl _⟩⟩
      rintro H66 ⟨F69, g67, sb68⟩
      refine br (fun hb70 => ?_) (fun hb70 => ?_)
      · replace hm := ifT hb70 hm
        refine n_ret ?_
        refine n_c ?_
        obtain rfl := Option.some.inj hm
        have hm := thenF_rt (hrt19 _ rfl) hmo3
        obtain rfl := Option.some.inj hm
        exact hk _ _ _  g67   rfl
      replace hm := ifF hb70 hm
      refine n_nextS ?_
      obtain rfl := Option.some.inj hm
      exact hN12 _ _ _ rfl ⟨_, _, _, _, rfl, g67, (Sub.trans sb15 (Sub.trans d23.ff (Sub.trans d38.ff (Sub.trans d52.ff sb68))))⟩
    rintro s72 _ H71 e73 ⟨F74, o77, o78, o79, rfl, g75, sb76⟩
    subst e73
    replace hm := thenF_nx hm
    refine n_ret ?_
    refine n_c ?_
    obtain rfl := Option.some.inj hm
    exact hk _ _ _  g75   rfl

end
def d_is_whole : He.DefD := ⟨("is_whole", none), "is_whole", "is_whole", defArgs s_is_whole, defBody s_is_whole, defScope s_is_whole, [], []⟩
def d_are_letters : He.DefD := ⟨("are_letters", none), "are_letters", "are_letters", defArgs s_are_letters, defBody s_are_letters, defScope s_are_letters, [], []⟩
def d_can_stand : He.DefD := ⟨("can_stand", none), "can_stand", "can_stand", defArgs s_can_stand, defBody s_can_stand, defScope s_can_stand, [], []⟩
def d_are_ups : He.DefD := ⟨("are_ups", none), "are_ups", "are_ups", defArgs s_are_ups, defBody s_are_ups, defScope s_are_ups, [], []⟩
def d_is_tree : He.DefD := ⟨("is_tree", none), "is_tree", "is_tree", defArgs s_is_tree, defBody s_is_tree, defScope s_is_tree, [], []⟩
def d_is_trie : He.DefD := ⟨("is_trie", none), "is_trie", "is_trie", defArgs s_is_trie, defBody s_is_trie, defScope s_is_trie, [], []⟩
def d_ways_down : He.DefD := ⟨("ways_down", none), "ways_down", "ways_down", defArgs s_ways_down, defBody s_ways_down, defScope s_ways_down, [], []⟩
def d_places_by_way : He.DefD := ⟨("places_by_way", none), "places_by_way", "places_by_way", defArgs s_places_by_way, defBody s_places_by_way, defScope s_places_by_way, [], []⟩
def d_trie_by : He.DefD := ⟨("trie_by", none), "trie_by", "trie_by", defArgs s_trie_by, defBody s_trie_by, defScope s_trie_by, [], []⟩
def d_need_tries : He.DefD := ⟨("need_tries", none), "need_tries", "need_tries", defArgs s_need_tries, defBody s_need_tries, defScope s_need_tries, [], []⟩
def d_laid_by : He.DefD := ⟨("laid_by", none), "laid_by", "laid_by", defArgs s_laid_by, defBody s_laid_by, defScope s_laid_by, [], []⟩
def d_laid_under : He.DefD := ⟨("laid_under", none), "laid_under", "laid_under", defArgs s_laid_under, defBody s_laid_under, defScope s_laid_under, [], []⟩
def d__law_cell_at : He.DefD := ⟨("_law_cell_at", none), "_law_cell_at", "_law_cell_at", defArgs s__law_cell_at, defBody s__law_cell_at, defScope s__law_cell_at, [], []⟩
def d__law_pool : He.DefD := ⟨("_law_pool", none), "_law_pool", "_law_pool", defArgs s__law_pool, defBody s__law_pool, defScope s__law_pool, [], []⟩
def d__law_take : He.DefD := ⟨("_law_take", none), "_law_take", "_law_take", defArgs s__law_take, defBody s__law_take, defScope s__law_take, [], []⟩
def d__law_letters : He.DefD := ⟨("_law_letters", none), "_law_letters", "_law_letters", defArgs s__law_letters, defBody s__law_letters, defScope s__law_letters, [], []⟩
def d__law_grown : He.DefD := ⟨("_law_grown", none), "_law_grown", "_law_grown", defArgs s__law_grown, defBody s__law_grown, defScope s__law_grown, [], []⟩
def d__law_copies : He.DefD := ⟨("_law_copies", none), "_law_copies", "_law_copies", defArgs s__law_copies, defBody s__law_copies, defScope s__law_copies, [], []⟩
def d__law_tree : He.DefD := ⟨("_law_tree", none), "_law_tree", "_law_tree", defArgs s__law_tree, defBody s__law_tree, defScope s__law_tree, [], []⟩
def d__law_ways : He.DefD := ⟨("_law_ways", none), "_law_ways", "_law_ways", defArgs s__law_ways, defBody s__law_ways, defScope s__law_ways, [], []⟩
def d__law_trie : He.DefD := ⟨("_law_trie", none), "_law_trie", "_law_trie", defArgs s__law_trie, defBody s__law_trie, defScope s__law_trie, [], []⟩
def d__law_part : He.DefD := ⟨("_law_part", none), "_law_part", "_law_part", defArgs s__law_part, defBody s__law_part, defScope s__law_part, [], []⟩
def d__law_two : He.DefD := ⟨("_law_two", none), "_law_two", "_law_two", defArgs s__law_two, defBody s__law_two, defScope s__law_two, [], []⟩
def d__law_right : He.DefD := ⟨("_law_right", none), "_law_right", "_law_right", defArgs s__law_right, defBody s__law_right, defScope s__law_right, [], []⟩
def d_law : He.DefD := ⟨("law", none), "law", "law", defArgs s_law, defBody s_law, defScope s_law, [], []⟩
def fn0 : List He.DefD := [d_is_whole, d_are_letters, d_can_stand, d_are_ups, d_is_tree, d_is_trie, d_ways_down, d_places_by_way, d_trie_by, d_need_tries, d_laid_by, d_laid_under, d__law_cell_at, d__law_pool, d__law_take, d__law_letters, d__law_grown, d__law_copies, d__law_tree, d__law_ways, d__law_trie, d__law_part, d__law_two, d__law_right, d_law]
def fn : List He.DefD := fn0
def fa0 : List He.Fa := [.glo "is_whole", .glo "are_letters", .glo "can_stand", .glo "are_ups", .glo "is_tree", .glo "is_trie", .glo "ways_down", .glo "places_by_way", .glo "trie_by", .glo "need_tries", .glo "laid_by", .glo "laid_under", .glo "_law_cell_at", .glo "_law_pool", .glo "_law_take", .glo "_law_letters", .glo "_law_grown", .glo "_law_copies", .glo "_law_tree", .glo "_law_ways", .glo "_law_trie", .glo "_law_part", .glo "_law_two", .glo "_law_right", .glo "law", .free "isinstance", .free "int", .free "bool", .free "str", .free "all"]
def fa1 : List He.Fa := [.free "range", .free "len", .free "tuple", .free "enumerate", .free "dict", .free "sorted", .free "set", .free "max", .free "repr", .free "min", .str "LETTERS" "abcdefghijklmnopqrstuvwxyz", .int "MOST_PLACES" 60]
def fa : List He.Fa := fa0 ++ fa1
def loose0 : List PySem.Str := ["is_whole", "are_letters", "can_stand", "are_ups", "is_tree", "is_trie", "ways_down", "places_by_way", "trie_by", "need_tries", "laid_by", "laid_under", "_law_cell_at", "_law_pool", "_law_take", "_law_letters", "_law_grown", "_law_copies", "_law_tree", "_law_ways", "_law_trie", "_law_part", "_law_two", "_law_right", "LETTERS", "MOST_PLACES", "UpError", "NoTries"]
def loose : List PySem.Str := loose0
abbrev R : PySem.W.OpenRow := PySem.W.OpenLaw.row PySem.Challenge.rw_upwords_k57_laid_under_told
abbrev hk : PySem.W.Hook := He.hookD 4 fa fn
def ob (s : PySem.W.SharedT) : He.AlD := He.obsDG 4 fa fn (HandSHeadRun.getT s)
theorem ob_eq (s : PySem.W.SharedT) : ob s = hk.obs s.abs := He.obsDG_eq (HandSHeadRun.getT_eq s)
theorem run (w : World) : HandSHeadRun.RunEq R (PySem.W.view R.prog [32]) hk ob 4000 loose w := by
  intro os
  kernel_rfl
theorem facts {P : Program} {w : World} {K : PySem.W.Frag} {h : Heap} {mg : Str → Option Value} {f : Addr} (X : K.In h) (G : h.Ns mainGlobals mg) (hfa : mg ("law" : Str) = some (.ref f)) (c : He.SaysD fa fn K) :
    ∃ fd : FuncData, (∀ (s : Shared) (v : Value), BindsTo s fd ⟨[v], []⟩ [("script", v)]) ∧ ∀ base : Heap, K.In base → base.Ns mainGlobals mg → FnG P w K mg base CX0 8 f fd ["script"] (sp_law K) := by
  obtain ⟨fd_is_whole, F_is_whole⟩ := c.def_ 0 (d := d_is_whole) rfl
  have g_is_whole := He.glo_ok X G (c.fact 0 (f := .glo "is_whole") rfl)
  obtain ⟨fd_are_letters, F_are_letters⟩ := c.def_ 1 (d := d_are_letters) rfl
  have g_are_letters := He.glo_ok X G (c.fact 1 (f := .glo "are_letters") rfl)
  obtain ⟨fd_can_stand, F_can_stand⟩ := c.def_ 2 (d := d_can_stand) rfl
  have g_can_stand := He.glo_ok X G (c.fact 2 (f := .glo "can_stand") rfl)
  obtain ⟨fd_are_ups, F_are_ups⟩ := c.def_ 3 (d := d_are_ups) rfl
  have g_are_ups := He.glo_ok X G (c.fact 3 (f := .glo "are_ups") rfl)
  obtain ⟨fd_is_tree, F_is_tree⟩ := c.def_ 4 (d := d_is_tree) rfl
  have g_is_tree := He.glo_ok X G (c.fact 4 (f := .glo "is_tree") rfl)
  obtain ⟨fd_is_trie, F_is_trie⟩ := c.def_ 5 (d := d_is_trie) rfl
  have g_is_trie := He.glo_ok X G (c.fact 5 (f := .glo "is_trie") rfl)
  obtain ⟨fd_ways_down, F_ways_down⟩ := c.def_ 6 (d := d_ways_down) rfl
  have g_ways_down := He.glo_ok X G (c.fact 6 (f := .glo "ways_down") rfl)
  obtain ⟨fd_places_by_way, F_places_by_way⟩ := c.def_ 7 (d := d_places_by_way) rfl
  have g_places_by_way := He.glo_ok X G (c.fact 7 (f := .glo "places_by_way") rfl)
  obtain ⟨fd_trie_by, F_trie_by⟩ := c.def_ 8 (d := d_trie_by) rfl
  have g_trie_by := He.glo_ok X G (c.fact 8 (f := .glo "trie_by") rfl)
  obtain ⟨fd_need_tries, F_need_tries⟩ := c.def_ 9 (d := d_need_tries) rfl
  have g_need_tries := He.glo_ok X G (c.fact 9 (f := .glo "need_tries") rfl)
  obtain ⟨fd_laid_by, F_laid_by⟩ := c.def_ 10 (d := d_laid_by) rfl
  have g_laid_by := He.glo_ok X G (c.fact 10 (f := .glo "laid_by") rfl)
  obtain ⟨fd_laid_under, F_laid_under⟩ := c.def_ 11 (d := d_laid_under) rfl
  have g_laid_under := He.glo_ok X G (c.fact 11 (f := .glo "laid_under") rfl)
  obtain ⟨fd__law_cell_at, F__law_cell_at⟩ := c.def_ 12 (d := d__law_cell_at) rfl
  have g__law_cell_at := He.glo_ok X G (c.fact 12 (f := .glo "_law_cell_at") rfl)
  obtain ⟨fd__law_pool, F__law_pool⟩ := c.def_ 13 (d := d__law_pool) rfl
  have g__law_pool := He.glo_ok X G (c.fact 13 (f := .glo "_law_pool") rfl)
  obtain ⟨fd__law_take, F__law_take⟩ := c.def_ 14 (d := d__law_take) rfl
  have g__law_take := He.glo_ok X G (c.fact 14 (f := .glo "_law_take") rfl)
  obtain ⟨fd__law_letters, F__law_letters⟩ := c.def_ 15 (d := d__law_letters) rfl
  have g__law_letters := He.glo_ok X G (c.fact 15 (f := .glo "_law_letters") rfl)
  obtain ⟨fd__law_grown, F__law_grown⟩ := c.def_ 16 (d := d__law_grown) rfl
  have g__law_grown := He.glo_ok X G (c.fact 16 (f := .glo "_law_grown") rfl)
  obtain ⟨fd__law_copies, F__law_copies⟩ := c.def_ 17 (d := d__law_copies) rfl
  have g__law_copies := He.glo_ok X G (c.fact 17 (f := .glo "_law_copies") rfl)
  obtain ⟨fd__law_tree, F__law_tree⟩ := c.def_ 18 (d := d__law_tree) rfl
  have g__law_tree := He.glo_ok X G (c.fact 18 (f := .glo "_law_tree") rfl)
  obtain ⟨fd__law_ways, F__law_ways⟩ := c.def_ 19 (d := d__law_ways) rfl
  have g__law_ways := He.glo_ok X G (c.fact 19 (f := .glo "_law_ways") rfl)
  obtain ⟨fd__law_trie, F__law_trie⟩ := c.def_ 20 (d := d__law_trie) rfl
  have g__law_trie := He.glo_ok X G (c.fact 20 (f := .glo "_law_trie") rfl)
  obtain ⟨fd__law_part, F__law_part⟩ := c.def_ 21 (d := d__law_part) rfl
  have g__law_part := He.glo_ok X G (c.fact 21 (f := .glo "_law_part") rfl)
  obtain ⟨fd__law_two, F__law_two⟩ := c.def_ 22 (d := d__law_two) rfl
  have g__law_two := He.glo_ok X G (c.fact 22 (f := .glo "_law_two") rfl)
  obtain ⟨fd__law_right, F__law_right⟩ := c.def_ 23 (d := d__law_right) rfl
  have g__law_right := He.glo_ok X G (c.fact 23 (f := .glo "_law_right") rfl)
  obtain ⟨fd_law, F_law⟩ := c.def_ 24 (d := d_law) rfl
  have g_law := He.glo_ok X G (c.fact 24 (f := .glo "law") rfl)
  have b_isinstance := He.free_ok X G (c.fact 25 (f := .free "isinstance") rfl)
  have b_int := He.free_ok X G (c.fact 26 (f := .free "int") rfl)
  have b_bool := He.free_ok X G (c.fact 27 (f := .free "bool") rfl)
  have b_str := He.free_ok X G (c.fact 28 (f := .free "str") rfl)
  have b_all := He.free_ok X G (c.fact 29 (f := .free "all") rfl)
  have b_range := He.free_ok X G (c.fact 30 (f := .free "range") rfl)
  have b_len := He.free_ok X G (c.fact 31 (f := .free "len") rfl)
  have b_tuple := He.free_ok X G (c.fact 32 (f := .free "tuple") rfl)
  have b_enumerate := He.free_ok X G (c.fact 33 (f := .free "enumerate") rfl)
  have b_dict := He.free_ok X G (c.fact 34 (f := .free "dict") rfl)
  have b_sorted := He.free_ok X G (c.fact 35 (f := .free "sorted") rfl)
  have b_set := He.free_ok X G (c.fact 36 (f := .free "set") rfl)
  have b_max := He.free_ok X G (c.fact 37 (f := .free "max") rfl)
  have b_repr := He.free_ok X G (c.fact 38 (f := .free "repr") rfl)
  have b_min := He.free_ok X G (c.fact 39 (f := .free "min") rfl)
  have c_LETTERS := He.str_ok X G (c.fact 40 (f := .str "LETTERS" "abcdefghijklmnopqrstuvwxyz") rfl)
  have c_MOST_PLACES := He.int_ok X G (c.fact 41 (f := .int "MOST_PLACES" 60) rfl)
  refine ⟨fd_law, fun s v => FunD.bindsA (ps := ["script"]) F_law (fun _ _ _ _ _ _ us hl => match us, hl with | [_], _ => rfl) s [v] rfl, fun base _ _ => ?_⟩
  have e := hfa.symm.trans g_law
  cases e
  have O_is_whole := ok_is_whole (P := P) (w := w) (mg := mg) (base := base) F_is_whole b_isinstance b_int b_bool
  have H_is_whole : HasG P w K mg base "is_whole" ["thing"] 1 (sp_is_whole K) := ⟨_, _, O_is_whole, g_is_whole, F_is_whole.kp, F_is_whole.bindsN fun _ _ _ _ _ _ us hl => match us, hl with | [_], _ => rfl⟩
  have O_are_letters := ok_are_letters (P := P) (w := w) (mg := mg) (base := base) F_are_letters b_isinstance b_str b_all c_LETTERS
  have H_are_letters : HasG P w K mg base "are_letters" ["thing"] 1 (sp_are_letters K) := ⟨_, _, O_are_letters, g_are_letters, F_are_letters.kp, F_are_letters.bindsN fun _ _ _ _ _ _ us hl => match us, hl with | [_], _ => rfl⟩
  have O_can_stand := ok_can_stand (P := P) (w := w) (mg := mg) (base := base) F_can_stand 
  have H_can_stand : HasG P w K mg base "can_stand" ["ups", "k"] 1 (sp_can_stand K) := ⟨_, _, O_can_stand, g_can_stand, F_can_stand.kp, F_can_stand.bindsN fun _ _ _ _ _ _ us hl => match us, hl with | [_, _], _ => rfl⟩
  have O_are_ups := ok_are_ups (P := P) (w := w) (mg := mg) (base := base) F_are_ups H_can_stand b_range b_len
  have H_are_ups : HasG P w K mg base "are_ups" ["ups"] 2 (sp_are_ups K) := ⟨_, _, O_are_ups, g_are_ups, F_are_ups.kp, F_are_ups.bindsN fun _ _ _ _ _ _ us hl => match us, hl with | [_], _ => rfl⟩
  have O_is_tree := ok_is_tree (P := P) (w := w) (mg := mg) (base := base) F_is_tree H_are_ups H_are_letters H_is_whole b_isinstance b_tuple b_len b_all c_MOST_PLACES
  have H_is_tree : HasG P w K mg base "is_tree" ["thing"] 3 (sp_is_tree K) := ⟨_, _, O_is_tree, g_is_tree, F_is_tree.kp, F_is_tree.bindsN fun _ _ _ _ _ _ us hl => match us, hl with | [_], _ => rfl⟩
  have O_is_trie := ok_is_trie (P := P) (w := w) (mg := mg) (base := base) F_is_trie H_is_tree b_enumerate b_len
  have H_is_trie : HasG P w K mg base "is_trie" ["thing"] 4 (sp_is_trie K) := ⟨_, _, O_is_trie, g_is_trie, F_is_trie.kp, F_is_trie.bindsN fun _ _ _ _ _ _ us hl => match us, hl with | [_], _ => rfl⟩
  have O_ways_down := ok_ways_down (P := P) (w := w) (mg := mg) (base := base) F_ways_down b_enumerate
  have H_ways_down : HasG P w K mg base "ways_down" ["tree"] 1 (sp_ways_down K) := ⟨_, _, O_ways_down, g_ways_down, F_ways_down.kp, F_ways_down.bindsN fun _ _ _ _ _ _ us hl => match us, hl with | [_], _ => rfl⟩
  have O_places_by_way := ok_places_by_way (P := P) (w := w) (mg := mg) (base := base) F_places_by_way b_dict b_enumerate
  have H_places_by_way : HasG P w K mg base "places_by_way" ["ways"] 1 (sp_places_by_way K) := ⟨_, _, O_places_by_way, g_places_by_way, F_places_by_way.kp, F_places_by_way.bindsN fun _ _ _ _ _ _ us hl => match us, hl with | [_], _ => rfl⟩
  have O_trie_by := ok_trie_by (P := P) (w := w) (mg := mg) (base := base) F_trie_by H_places_by_way b_sorted b_tuple b_set
  have H_trie_by : HasG P w K mg base "trie_by" ["ways"] 2 (sp_trie_by K) := ⟨_, _, O_trie_by, g_trie_by, F_trie_by.kp, F_trie_by.bindsN fun _ _ _ _ _ _ us hl => match us, hl with | [_], _ => rfl⟩
  have O_need_tries := ok_need_tries (P := P) (w := w) (mg := mg) (base := base) F_need_tries H_is_trie
  have H_need_tries : HasG P w K mg base "need_tries" ["one", "other"] 5 (sp_need_tries K) := ⟨_, _, O_need_tries, g_need_tries, F_need_tries.kp, F_need_tries.bindsN fun _ _ _ _ _ _ us hl => match us, hl with | [_, _], _ => rfl⟩
  have O_laid_by := ok_laid_by (P := P) (w := w) (mg := mg) (base := base) F_laid_by H_places_by_way H_trie_by H_ways_down
  have H_laid_by : HasG P w K mg base "laid_by" ["one", "other", "ways"] 3 (sp_laid_by K) := ⟨_, _, O_laid_by, g_laid_by, F_laid_by.kp, F_laid_by.bindsN fun _ _ _ _ _ _ us hl => match us, hl with | [_, _, _], _ => rfl⟩
  have O_laid_under := ok_laid_under (P := P) (w := w) (mg := mg) (base := base) F_laid_under H_need_tries H_ways_down H_laid_by
  have H_laid_under : HasG P w K mg base "laid_under" ["one", "other"] 6 (sp_laid_under K) := ⟨_, _, O_laid_under, g_laid_under, F_laid_under.kp, F_laid_under.bindsN fun _ _ _ _ _ _ us hl => match us, hl with | [_, _], _ => rfl⟩
  have O__law_cell_at := ok__law_cell_at (P := P) (w := w) (mg := mg) (base := base) F__law_cell_at b_len
  have H__law_cell_at : HasG P w K mg base "_law_cell_at" ["script", "k"] 1 (sp__law_cell_at K) := ⟨_, _, O__law_cell_at, g__law_cell_at, F__law_cell_at.kp, F__law_cell_at.bindsN fun _ _ _ _ _ _ us hl => match us, hl with | [_, _], _ => rfl⟩
  have O__law_pool := ok__law_pool (P := P) (w := w) (mg := mg) (base := base) F__law_pool H__law_cell_at b_range b_int
  have H__law_pool : HasG P w K mg base "_law_pool" ["script", "at"] 2 (sp__law_pool K) := ⟨_, _, O__law_pool, g__law_pool, F__law_pool.kp, F__law_pool.bindsN fun _ _ _ _ _ _ us hl => match us, hl with | [_, _], _ => rfl⟩
  have O__law_take := ok__law_take (P := P) (w := w) (mg := mg) (base := base) F__law_take b_int
  have H__law_take : HasG P w K mg base "_law_take" ["pool", "many"] 1 (sp__law_take K) := ⟨_, _, O__law_take, g__law_take, F__law_take.kp, F__law_take.bindsN fun _ _ _ _ _ _ us hl => match us, hl with | [_, _], _ => rfl⟩
  have O__law_letters := ok__law_letters (P := P) (w := w) (mg := mg) (base := base) F__law_letters H__law_take b_range
  have H__law_letters : HasG P w K mg base "_law_letters" ["pool"] 2 (sp__law_letters K) := ⟨_, _, O__law_letters, g__law_letters, F__law_letters.kp, F__law_letters.bindsN fun _ _ _ _ _ _ us hl => match us, hl with | [_], _ => rfl⟩
  have O__law_grown := ok__law_grown (P := P) (w := w) (mg := mg) (base := base) F__law_grown H__law_take b_range b_len b_max b_tuple b_int
  have H__law_grown : HasG P w K mg base "_law_grown" ["pool", "many", "kind", "letters"] 2 (sp__law_grown K) := ⟨_, _, O__law_grown, g__law_grown, F__law_grown.kp, F__law_grown.bindsN fun _ _ _ _ _ _ us hl => match us, hl with | [_, _, _, _], _ => rfl⟩
  have O__law_copies := ok__law_copies (P := P) (w := w) (mg := mg) (base := base) F__law_copies H__law_grown H__law_take b_range b_tuple b_len
  have H__law_copies : HasG P w K mg base "_law_copies" ["pool", "most", "letters"] 3 (sp__law_copies K) := ⟨_, _, O__law_copies, g__law_copies, F__law_copies.kp, F__law_copies.bindsN fun _ _ _ _ _ _ us hl => match us, hl with | [_, _, _], _ => rfl⟩
  have O__law_tree := ok__law_tree (P := P) (w := w) (mg := mg) (base := base) F__law_tree H__law_take H__law_grown H__law_copies
  have H__law_tree : HasG P w K mg base "_law_tree" ["pool", "most", "letters"] 4 (sp__law_tree K) := ⟨_, _, O__law_tree, g__law_tree, F__law_tree.kp, F__law_tree.bindsN fun _ _ _ _ _ _ us hl => match us, hl with | [_, _, _], _ => rfl⟩
  have O__law_ways := ok__law_ways (P := P) (w := w) (mg := mg) (base := base) F__law_ways b_enumerate
  have H__law_ways : HasG P w K mg base "_law_ways" ["tree"] 1 (sp__law_ways K) := ⟨_, _, O__law_ways, g__law_ways, F__law_ways.kp, F__law_ways.bindsN fun _ _ _ _ _ _ us hl => match us, hl with | [_], _ => rfl⟩
  have O__law_trie := ok__law_trie (P := P) (w := w) (mg := mg) (base := base) F__law_trie b_sorted b_set b_tuple b_len
  have H__law_trie : HasG P w K mg base "_law_trie" ["ways"] 1 (sp__law_trie K) := ⟨_, _, O__law_trie, g__law_trie, F__law_trie.kp, F__law_trie.bindsN fun _ _ _ _ _ _ us hl => match us, hl with | [_], _ => rfl⟩
  have O__law_part := ok__law_part (P := P) (w := w) (mg := mg) (base := base) F__law_part H__law_take b_sorted b_set b_range b_int b_len
  have H__law_part : HasG P w K mg base "_law_part" ["pool", "ways", "most"] 2 (sp__law_part K) := ⟨_, _, O__law_part, g__law_part, F__law_part.kp, F__law_part.bindsN fun _ _ _ _ _ _ us hl => match us, hl with | [_, _, _], _ => rfl⟩
  have O__law_two := ok__law_two (P := P) (w := w) (mg := mg) (base := base) F__law_two H__law_take H__law_letters H__law_ways H__law_tree H__law_part
  have H__law_two : HasG P w K mg base "_law_two" ["pool", "most"] 5 (sp__law_two K) := ⟨_, _, O__law_two, g__law_two, F__law_two.kp, F__law_two.bindsN fun _ _ _ _ _ _ us hl => match us, hl with | [_, _], _ => rfl⟩
  have O__law_right := ok__law_right (P := P) (w := w) (mg := mg) (base := base) F__law_right H__law_trie H_laid_under b_sorted b_range b_set b_repr
  have H__law_right : HasG P w K mg base "_law_right" ["one", "other"] 7 (sp__law_right K) := ⟨_, _, O__law_right, g__law_right, F__law_right.kp, F__law_right.bindsN fun _ _ _ _ _ _ us hl => match us, hl with | [_, _], _ => rfl⟩
  have O_law := ok_law (P := P) (w := w) (mg := mg) (base := base) F_law H__law_two H__law_pool H__law_right b_range b_max b_min b_len
  exact O_law
/-! ### plain: what the law draws -/
def PoolOk (p : List Int) : Prop := ∃ a b : Int, p = [a, b] ∧ 0 ≤ a ∧ 0 ≤ b
theorem take_ret {p : List Int} {many : Int} (hp : PoolOk p) (h : 0 < many) (h2 : many < 1073741824) : Ret (m__law_take p many) (fun r => (0 ≤ r.1 ∧ r.1 < many) ∧ PoolOk r.2) := by
  obtain ⟨a, b, rfl, ha, hb⟩ := hp
  unfold m__law_take
  refine Ret.eq (atI_of (Int.le_refl 0) rfl) ?_
  cases hd : decide (a = 0) with
  | true =>
    refine Ret.eq (a := b) (atI_of (i := 1) (by decide) rfl) ?_
    refine Ret.eq (modM_of h) ?_
    refine Ret.eq (a := b) (atI_of (i := 1) (by decide) rfl) ?_
    refine Ret.eq (divM_of h h2) ?_
    refine Ret.eq (setM_of (i := 1) (by decide) (by show (1 : Int) < 2; decide)) ?_
    exact Ret.pure ⟨⟨Int.emod_nonneg _ (by omega), Int.emod_lt_of_pos _ h⟩, a, b / many, rfl, ha, Int.ediv_nonneg hb (by omega)⟩
  | false =>
    refine Ret.eq (a := a) (atI_of (i := 0) (by decide) rfl) ?_
    refine Ret.eq (modM_of h) ?_
    refine Ret.eq (a := a) (atI_of (i := 0) (by decide) rfl) ?_
    refine Ret.eq (divM_of h h2) ?_
    refine Ret.eq (setM_of (i := 0) (by decide) (by show (0 : Int) < 2; decide)) ?_
    exact Ret.pure ⟨⟨Int.emod_nonneg _ (by omega), Int.emod_lt_of_pos _ h⟩, a / many, b, rfl, Int.ediv_nonneg ha (by omega), hb⟩
theorem cell_ret (s : List Int) {k : Int} (h0 : 0 ≤ k) : Ret (m__law_cell_at s k) (fun _ => True) := by
  unfold m__law_cell_at
  refine Ret.ite (fun h => ?_) fun _ => Ret.pure trivial
  exact Ret.eq (atI_lt h0 (of_decide_eq_true h)) (Ret.pure trivial)
theorem pool_ret (s : List Int) {k : Int} (h0 : 0 ≤ k) : Ret (m__law_pool s k) PoolOk := by
  unfold m__law_pool
  refine Ret.bind (cell_ret s h0) fun cell _ => ?_
  refine Ret.eq (uptoM_of (by decide) (by decide) (by decide) (by decide)) ?_
  refine Ret.bind (ret_foldO (fun _ s => (0 : Int) ≤ s) (Int.le_refl 0) fun i big turn hx hb => ?_) fun big hb => ?_
  · have ht := upto_get hx
    refine Ret.eq (mulM_of (.inr (by omega))) ?_
    refine Ret.eq (mulM_of (.inl (by omega))) ?_
    exact Ret.pure (by omega)
  · have hb2 : b2 (decide ((1000000000000000000 : Int) ≤ cell)) = 0 ∨ (b2 (decide ((1000000000000000000 : Int) ≤ cell)) = 1 ∧ 0 ≤ cell) := by
      by_cases h : (1000000000000000000 : Int) ≤ cell
      · rw [decide_eq_true h]; exact .inr ⟨rfl, by omega⟩
      · rw [decide_eq_false h]; exact .inl rfl
    refine Ret.eq (mulM_of (.inr (by rcases hb2 with h | ⟨h, _⟩ <;> rw [h] <;> decide))) ?_
    refine Ret.pure ⟨_, _, rfl, ?_, hb⟩
    rcases hb2 with h | ⟨h, h1⟩ <;> rw [h] <;> omega
def LettersOk (ls : List Sg) : Prop := 1 ≤ ls.length ∧ ls.length ≤ 26 ∧ ∀ x ∈ ls, ∃ c, x = [c] ∧ 97 ≤ c ∧ c ≤ 122
theorem letters_ret {p : List Int} (hp : PoolOk p) : Ret (m__law_letters p) (fun r => LettersOk r.1 ∧ PoolOk r.2) := by
  unfold m__law_letters
  refine Ret.bind (take_ret hp (by decide) (by decide)) fun r1 ⟨h1, hp⟩ => ?_
  refine Ret.bind (ret_in h1.1 h1.2) fun many hm => ?_
  have hm2 : 1 ≤ many ∧ many ≤ 26 := by simp at hm; omega
  refine Ret.bind (take_ret hp (by decide) (by decide)) fun r2 ⟨h2, hp⟩ => ?_
  refine Ret.bind (take_ret hp (by decide) (by decide)) fun r3 ⟨h3, hp⟩ => ?_
  refine Ret.bind (ret_in h3.1 h3.2) fun by_ hb => ?_
  have hb2 : 1 ≤ by_ ∧ by_ ≤ 25 := by simp at hb; omega
  refine Ret.eq (uptoM_of (by decide) (by decide) (by omega) (by omega)) ?_
  have hl : (upto 0 many).length = many.toNat := by rw [upto_len]; simp
  refine ret_need (szB_of (by omega)) ?_
  refine Ret.bind (ret_compS (fun x => ∃ c, x = [c] ∧ 97 ≤ c ∧ c ≤ 122) fun k hk => ?_) fun ls hls => ?_
  · have hk2 := upto_mem hk
    refine Ret.eq (mulM_of (.inl (by omega))) ?_
    refine Ret.bind (ret_in (by omega) (by show _ < (26 : Int); omega)) fun c hc => ?_
    refine Ret.pure ⟨_, rfl, c, rfl, ?_⟩
    simp at hc; omega
  · exact Ret.pure ⟨⟨by simp only; omega, by simp only; omega, hls.2⟩, hp⟩
/-- the line of places above the last one -/
structure LineOk (line ups : List Int) : Prop where
  pos : 1 ≤ line.length
  most : line.length ≤ ups.length
  low : ∀ (i j : Nat) (a b : Int), i ≤ j → line[i]? = some a → line[j]? = some b → (0 ≤ a ∧ 0 ≤ b ∧ b < ups.length) ∧ Anc ups b.toNat a.toNat
  last : line[line.length - 1]? = some ((ups.length : Int) - 1)
theorem line_one : LineOk [0] [-1] := by
  refine ⟨by simp, by simp, fun i j a b h e1 e2 => ?_, rfl⟩
  cases i with
  | succ i => simp at e1
  | zero => cases j with
    | succ j => simp at e2
    | zero =>
      simp at e1 e2; subst e1; subst e2
      exact ⟨⟨by decide, by decide, by simp⟩, .refl 0⟩
theorem line_step {line ups : List Int} {cut p : Int} (L : LineOk line ups) (U : UpsOk ups) (h1 : 1 ≤ cut) (h2 : cut ≤ line.length) (hp : line[(cut - 1).toNat]? = some p) :
    UpsOk (ups ++ [p]) ∧ LineOk (line.take cut.toNat ++ [(ups.length : Int)]) (ups ++ [p]) := by
  have hl := L.low _ _ p _ (show (cut - 1).toNat ≤ line.length - 1 by have := L.pos; omega) hp L.last
  have ha : Anc ups (ups.length - 1) p.toNat := by
    have := hl.2
    rw [show (((ups.length : Int) - 1).toNat) = ups.length - 1 by omega] at this
    exact this
  have hpb : p < ups.length := by
    have := L.low _ _ p p (Nat.le_refl _) hp hp
    omega
  refine ⟨U.snoc hl.1.1 hpb ha, ?_⟩
  have ht : (line.take cut.toNat).length = cut.toNat := by rw [List.length_take]; omega
  refine ⟨by simp, by have := L.most; simp; omega, fun i j a b hij e1 e2 => ?_, ?_⟩
  · have tk : ∀ (i : Nat) (a : Int), i < cut.toNat → (line.take cut.toNat ++ [(ups.length : Int)])[i]? = some a → line[i]? = some a := fun i a hi e => by
      rw [List.getElem?_append_left (by omega), List.getElem?_take_of_lt hi] at e; exact e
    have tl : ∀ (j : Nat) (b : Int), ¬ j < cut.toNat → (line.take cut.toNat ++ [(ups.length : Int)])[j]? = some b → j = cut.toNat ∧ b = ups.length := fun j b hj e => by
      rw [List.getElem?_append_right (by omega), ht] at e
      by_cases h9 : j - cut.toNat = 0
      · rw [h9] at e; simp at e; exact ⟨by omega, e.symm⟩
      · rw [List.getElem?_eq_none (by simp; omega)] at e; cases e
    by_cases hj : j < cut.toNat
    · have q := L.low i j a b hij (tk i a (by omega) e1) (tk j b hj e2)
      exact ⟨⟨q.1.1, q.1.2.1, by simp; omega⟩, q.2.app⟩
    · obtain ⟨ej, eb⟩ := tl j b hj e2
      subst eb
      by_cases hi : i < cut.toNat
      · have e3 := tk i a hi e1
        have q := L.low i (cut - 1).toNat a p (by omega) e3 hp
        refine ⟨⟨q.1.1, by omega, by simp; omega⟩, ?_⟩
        rw [Int.toNat_natCast]
        refine .up (u := p) (by simp) q.1.2.1 q.2.app
      · obtain ⟨ei, ea⟩ := tl i a hi e1
        subst ea
        exact ⟨⟨by omega, by omega, by simp; omega⟩, .refl _⟩
  · rw [List.length_append, ht, show cut.toNat + [(ups.length : Int)].length - 1 = cut.toNat from by simp, List.getElem?_append_right (by omega), ht, Nat.sub_self, List.length_append]
    show some (ups.length : Int) = some (((ups.length + 1 : Nat) : Int) - 1)
    congr 1
    omega
theorem grown_ret {p : List Int} {many kind : Int} {letters : List Sg} (hp : PoolOk p) (h1 : 1 ≤ many) (h2 : many ≤ 60) (hk : 0 ≤ kind) (hk2 : kind ≤ 5) (hl : LettersOk letters) :
    Ret (m__law_grown p many kind letters) (fun r => TreeOk r.1 ∧ (r.1.1.length : Int) = many ∧ PoolOk r.2) := by
  unfold m__law_grown
  refine Ret.eq (uptoM_of (by decide) (by decide) (by omega) (by omega)) ?_
  refine Ret.bind (ret_foldO (fun i s => PoolOk s.2.1 ∧ s.2.2.length = i + 1 ∧ UpsOk s.2.2 ∧ LineOk s.1 s.2.2) ⟨hp, rfl, UpsOk.one, line_one⟩ fun i s k hx ⟨hp, hu, U, L⟩ => ?_) fun s ⟨hp, hu, U, L⟩ => ?_
  · obtain ⟨line, pool, ups⟩ := s
    have hx := upto_get hx
    have L1 : 1 ≤ line.length := L.pos
    have L2 : line.length ≤ ups.length := L.most
    simp only at hu U L hp ⊢
    refine Ret.bind (take_ret hp (by decide) (by decide)) fun r1 ⟨g1, hp⟩ => ?_
    refine Ret.bind (P := fun low : Int => 1 ≤ low ∧ low ≤ (line.length : Int)) ?_ fun low hlow => ?_
    · cases hd : decide ((4 : Int) < (line.length : Int)) with
      | true =>
        have hd := of_decide_eq_true hd
        exact Ret.of (a := 1 + r1.1) (atI_of (i := 1) (by decide) rfl) (by omega)
      | false => exact Ret.of (a := (line.length : Int)) (atI_of (i := 0) (by decide) rfl) (by omega)
    refine Ret.bind (take_ret hp (by decide) (by decide)) fun r2 ⟨g2, hp⟩ => ?_
    refine Ret.bind (take_ret hp (by omega) (by omega)) fun r3 ⟨g3, hp⟩ => ?_
    refine Ret.bind (P := fun cut : Int => 1 ≤ cut ∧ cut ≤ (line.length : Int)) ((ret_in hk (by show kind < (6 : Int); omega)).mono fun a ha => ?_) fun cut hc => ?_
    · simp only [mx_eq, List.mem_cons, List.not_mem_nil, or_false] at ha
      omega
    refine Ret.bind (ret_at (by omega) (by omega)) fun q hq => ?_
    refine Ret.eq (snocM_of (by omega)) ?_
    rw [cutL_to (by omega)]
    have ht : (line.take cut.toNat).length = cut.toNat := by rw [List.length_take]; omega
    refine Ret.eq (catLM_of (by rw [ht]; simp; omega)) ?_
    have st := line_step L U hc.1 hc.2 hq
    have ek : k = (ups.length : Int) := by omega
    subst ek
    exact Ret.pure ⟨hp, by simp [hu], st.1, st.2⟩
  · obtain ⟨line, pool, ups⟩ := s
    rw [upto_len] at hu
    simp only at hu U L hp ⊢
    obtain ⟨l1, l2, l3⟩ := hl
    refine Ret.bind (take_ret hp (by decide) (by decide)) fun way ⟨g1, hp⟩ => ?_
    refine Ret.bind (take_ret hp (by omega) (by omega)) fun r2 ⟨g2, hp⟩ => ?_
    refine Ret.bind (take_ret hp (by decide) (by decide)) fun r3 ⟨g3, hp⟩ => ?_
    refine Ret.bind (ret_in g3.1 g3.2) fun other _ => ?_
    refine Ret.eq (uptoM_of (by decide) (by decide) (by omega) (by omega)) ?_
    refine Ret.bind (ret_foldO (fun i s => s.1.length = i ∧ (∀ c ∈ s.1, 97 ≤ c ∧ c ≤ 122) ∧ PoolOk s.2) ⟨rfl, by simp, hp⟩ fun i s k hx ⟨hs, hc, hp⟩ => ?_) fun s ⟨hs, hc, hp⟩ => ?_
    · obtain ⟨labels, pool⟩ := s
      have hx := upto_get hx
      simp only at hs hc hp ⊢
      refine Ret.bind (take_ret hp (by omega) (by omega)) fun r4 ⟨g4, hp⟩ => ?_
      refine Ret.bind (P := fun x : Int => 0 ≤ x ∧ x < (letters.length : Int)) (Ret.ite (fun hw => ?_) fun _ => Ret.pure g4) fun at_ ha => ?_
      · rw [Bool.and_eq_true, decide_eq_true_iff, decide_eq_true_iff] at hw
        refine Ret.eq (modM_of (by omega)) (Ret.eq (modM_of (by omega)) (Ret.pure ⟨Int.emod_nonneg _ (by omega), Int.emod_lt_of_pos _ (by omega)⟩))
      refine Ret.bind (P := fun x : Int => 0 ≤ x ∧ x < (letters.length : Int)) (Ret.ite (fun hw => ?_) fun _ => Ret.pure ha) fun at2 ha2 => ?_
      · exact Ret.eq (modM_of (by omega)) (Ret.pure ⟨Int.emod_nonneg _ (by omega), Int.emod_lt_of_pos _ (by omega)⟩)
      refine Ret.bind (ret_in ha2.1 ha2.2) fun x hx3 => ?_
      obtain ⟨c, rfl, h97, h122⟩ := l3 x hx3
      refine Ret.eq (catM_of (by simp; omega)) ?_
      refine Ret.pure ⟨by simp [hs], fun d hd => ?_, hp⟩
      rcases List.mem_append.mp hd with h | h
      · exact hc d h
      · simp at h; subst h; exact ⟨h97, h122⟩
    · rw [upto_len] at hs
      refine Ret.pure ⟨⟨by simp only; omega, by simp only; omega, U, hc⟩, by simp only; omega, hp⟩
/-- a bough put beneath the root or behind the last place -/
theorem ups_more {ups one : List Int} {a : Int} (U : UpsOk ups) (O : UpsOk one) (ha : a = 0 ∨ a = (ups.length : Int) - 1) : UpsOk (ups ++ (a :: (one.drop 1).map fun u => u + (ups.length : Int))) := by
  have hu := U.pos
  have ho := O.pos
  have shift : ∀ k : Nat, 0 < k → k < one.length → (ups ++ (a :: (one.drop 1).map fun u => u + (ups.length : Int)))[ups.length + k]? = (one[k]?).map fun u => u + (ups.length : Int) := fun k h0 hk => by
    rw [List.getElem?_append_right (by omega), show ups.length + k - ups.length = (k - 1) + 1 by omega, List.getElem?_cons_succ, List.getElem?_map, List.getElem?_drop, show 1 + (k - 1) = k by omega]
  have anc : ∀ k b : Nat, k < one.length → Anc one k b → Anc (ups ++ (a :: (one.drop 1).map fun u => u + (ups.length : Int))) (ups.length + k) (ups.length + b) := fun k b hk h => by
    induction h with
    | refl k => exact .refl _
    | @up k b u h hu2 r ih =>
      by_cases h0 : k = 0
      · subst h0; rw [O.root] at h
        have e : -1 = u := Option.some.inj h
        omega
      · have q := O.up k u (by omega) h
        refine .up (u := u + (ups.length : Int)) (by rw [shift k (by omega) hk, h]; rfl) (by omega) ?_
        rw [show (u + (ups.length : Int)).toNat = ups.length + u.toNat by omega]
        exact ih (by omega)
  have cases_ : ∀ (k : Nat) (u : Int), (ups ++ (a :: (one.drop 1).map fun u => u + (ups.length : Int)))[k]? = some u → (k < ups.length ∧ ups[k]? = some u) ∨ (k = ups.length ∧ u = a) ∨ ∃ j v, 0 < j ∧ j < one.length ∧ k = ups.length + j ∧ one[j]? = some v ∧ u = v + (ups.length : Int) := fun k u h => by
    by_cases hk : k < ups.length
    · rw [List.getElem?_append_left hk] at h; exact .inl ⟨hk, h⟩
    · by_cases hk2 : k = ups.length
      · subst hk2
        rw [List.getElem?_append_right (by omega)] at h
        simp at h; exact .inr (.inl ⟨rfl, h.symm⟩)
      · have hl := (List.getElem?_eq_some_iff.mp h).1
        simp at hl
        have hj : k - ups.length < one.length := by omega
        have e2 : k = ups.length + (k - ups.length) := by omega
        rw [e2, shift (k - ups.length) (by omega) hj, List.getElem?_eq_getElem hj] at h
        exact .inr (.inr ⟨k - ups.length, _, by omega, hj, e2, List.getElem?_eq_getElem hj, (Option.some.inj h).symm⟩)
  have toRoot : ∀ k, k < ups.length → Anc (ups ++ (a :: (one.drop 1).map fun u => u + (ups.length : Int))) k 0 := fun k hk => (U.toRoot k hk).app
  refine ⟨get_app U.root, fun k u h0 h => ?_, fun k u h0 h => ?_⟩
  · rcases cases_ k u h with ⟨hk, e⟩ | ⟨hk, e⟩ | ⟨j, v, h1, h2, e, e2, e3⟩
    · exact U.up k u h0 e
    · rcases ha with ha | ha <;> omega
    · have := O.up j v h1 e2
      omega
  · rcases cases_ k u h with ⟨hk, e⟩ | ⟨hk, e⟩ | ⟨j, v, h1, h2, e, e2, e3⟩
    · exact (U.ch k u h0 e).app
    · subst e; subst hk
      rcases ha with ha | ha
      · subst ha; exact toRoot _ (by omega)
      · subst ha
        rw [show (((ups.length : Int) - 1).toNat) = ups.length - 1 by omega]
        exact .refl _
    · subst e; subst e3
      rw [show (v + (ups.length : Int)).toNat = ups.length + v.toNat by have := O.up j v h1 e2; omega, show ups.length + j - 1 = ups.length + (j - 1) by omega]
      exact anc (j - 1) v.toNat (by omega) (O.ch j v h1 e2)
theorem copies_ret {p : List Int} {most : Int} {letters : List Sg} (hp : PoolOk p) (h1 : 1 ≤ most) (h2 : most ≤ 60) (hl : LettersOk letters) :
    Ret (m__law_copies p most letters) (fun r => TreeOk r.1 ∧ (r.1.1.length : Int) ≤ most ∧ PoolOk r.2) := by
  unfold m__law_copies
  obtain ⟨l1, l2, l3⟩ := id hl
  refine Ret.bind (take_ret hp (by decide) (by decide)) fun r1 ⟨g1, hp⟩ => ?_
  refine Ret.bind (grown_ret hp (by omega) (by omega) (by decide) (by decide) hl) fun r2 ⟨T, hT, hp⟩ => ?_
  refine Ret.bind (take_ret hp (by decide) (by decide)) fun r3 ⟨g3, hp⟩ => ?_
  refine Ret.bind (take_ret hp (by omega) (by omega)) fun r4 ⟨g4, hp⟩ => ?_
  refine Ret.bind (ret_in g4.1 g4.2) fun x hx => ?_
  obtain ⟨c, rfl, h97, h122⟩ := l3 x hx
  refine Ret.bind (take_ret hp (by decide) (by decide)) fun r5 ⟨g5, hp⟩ => ?_
  refine Ret.eq (uptoM_of (by decide) (by decide) (by omega) (by omega)) ?_
  have hlen := T.len
  refine Ret.bind (ret_foldO (fun _ s => UpsOk s.2 ∧ s.1.length = s.2.length ∧ (s.2.length : Int) ≤ most ∧ ∀ c ∈ s.1, 97 ≤ c ∧ c ≤ 122) ⟨UpsOk.one, rfl, h1, by simp; omega⟩ fun i s k hk ⟨U, e, hm, hc⟩ => ?_) fun s ⟨U, e, hm, hc⟩ => ?_
  · obtain ⟨labels, ups⟩ := s
    simp only at U e hm hc ⊢
    have hu := U.pos
    refine Ret.ite (fun hd => ?_) fun _ => Ret.pure ⟨U, e, hm, hc⟩
    have hd := of_decide_eq_true hd
    refine Ret.bind (P := fun a => a = 0 ∨ a = (ups.length : Int) - 1) ((ret_in g3.1 (by show r3.1 < (2 : Int); omega)).mono fun a ha => by simpa using ha) fun a ha => ?_
    rw [cutL_from (by decide)]
    refine ret_need (szB_of (by rw [List.length_drop]; omega)) ?_
    refine Ret.eq (compS_map (fun u => u + (ups.length : Int)) fun _ _ => rfl) ?_
    have hl9 : (([a] : List Int) ++ (r2.1.1.drop (1 : Int).toNat).map fun u => u + (ups.length : Int)).length = r2.1.1.length := by
      have := T.ups.pos
      simp; omega
    refine Ret.eq (catLM_of (by rw [List.length_map, List.length_drop]; simp; omega)) ?_
    refine Ret.eq (catLM_of (by rw [hl9]; omega)) ?_
    refine Ret.eq (catM_of (by omega)) ?_
    refine Ret.pure ⟨ups_more U T.ups ha, ?_, ?_, fun d hd => ?_⟩
    · simp only [List.length_append, hl9]; omega
    · simp only [List.length_append, hl9]; omega
    · rcases List.mem_append.mp hd with h | h
      · exact hc d h
      · exact T.low d h
  · exact Ret.pure ⟨⟨by simp only; omega, by simp only; omega, U, hc⟩, hm, hp⟩

theorem tree_ret {p : List Int} {most : Int} {letters : List Sg} (hp : PoolOk p) (h1 : 9 ≤ most) (h2 : most ≤ 60) (hl : LettersOk letters) : Ret (m__law_tree p most letters) (fun r => TreeOk r.1 ∧ (r.1.1.length : Int) ≤ most ∧ PoolOk r.2) := by
  unfold m__law_tree
  refine Ret.bind (take_ret hp (by decide) (by decide)) fun kind ⟨g1, hp⟩ => ?_
  refine Ret.bind (take_ret hp (by decide) (by decide)) fun r2 ⟨g2, hp⟩ => ?_
  refine Ret.bind (take_ret hp (by omega) (by omega)) fun r3 ⟨g3, hp⟩ => ?_
  refine Ret.bind (take_ret hp (by decide) (by decide)) fun r4 ⟨g4, hp⟩ => ?_
  refine Ret.bind (P := fun many => 1 ≤ many ∧ many ≤ most) ((ret_in g4.1 (by show r4.1 < (3 : Int); omega)).mono fun a ha => by simp at ha; omega) fun many hm => ?_
  refine Ret.ite (fun _ => ?_) fun hd => ?_
  · exact Ret.bind (copies_ret hp (by omega) h2 hl) fun r hr => Ret.pure hr
  · have hd := of_decide_eq_false hd
    exact Ret.bind (grown_ret hp (by omega) (by omega) g1.1 (by omega) hl) fun r hr => Ret.pure ⟨hr.1, by have := hr.2.1; simp only; omega, hr.2.2⟩

theorem take_lt : ∀ (n : Nat) (x y : Sg), ltS (y.take n) (x.take n) = true → ltS y x = true
  | 0, x, y, h => by simp [ltS] at h
  | n + 1, [], y, h => by rw [List.take_nil, ltS_nil2] at h; cases h
  | n + 1, c :: x, [], h => by rw [ltS_nil]; rfl
  | n + 1, c :: x, d :: y, h => by
    rw [List.take_succ_cons, List.take_succ_cons, ltS_cons] at h
    rw [ltS_cons]
    rw [Bool.or_eq_true, Bool.and_eq_true] at *
    exact h.imp id fun ⟨a, b⟩ => ⟨a, take_lt n x y b⟩
/-- less, begins with, greater -/
theorem tri : ∀ (w x : Sg), (!ltS w (x.take w.length)) = (ltS x w || swB x w) ∧ (ltS x w && swB x w) = false
  | [], x => by
    have : swB x [] = true := by simp [swB]
    rw [this, ltS_nil2]
    simp [ltS]
  | c :: w, [] => by
    have : swB [] (c :: w) = false := by simp [swB]
    rw [this, List.take_nil, ltS_nil2, ltS_nil]
    simp
  | c :: w, d :: x => by
    have e : swB (d :: x) (c :: w) = (decide (d = c) && swB x w) := by
      unfold swB
      rw [List.length_cons, List.take_succ_cons, Bool.eq_iff_iff]
      simp
    obtain ⟨h1, h2⟩ := tri w x
    rw [e, List.length_cons, List.take_succ_cons, ltS_cons, ltS_cons]
    rcases Nat.lt_trichotomy d c with h | h | h
    · have a1 : decide (c < d) = false := decide_eq_false (by omega)
      have a2 : decide (c = d) = false := decide_eq_false (by omega)
      have a3 : decide (d < c) = true := decide_eq_true h
      have a4 : decide (d = c) = false := decide_eq_false (by omega)
      rw [a1, a2, a3, a4]; simp
    · subst h
      have a1 : decide (d < d) = false := decide_eq_false (by omega)
      have a2 : decide (d = d) = true := decide_eq_true rfl
      rw [a1, a2]
      simp only [Bool.false_or, Bool.true_and]
      exact ⟨h1, h2⟩
    · have a1 : decide (c < d) = true := decide_eq_true h
      have a2 : decide (c = d) = false := decide_eq_false (by omega)
      have a3 : decide (d < c) = false := decide_eq_false (by omega)
      have a4 : decide (d = c) = false := decide_eq_false (by omega)
      rw [a1, a2, a3, a4]; simp

def wy (t : Tre) (k : Nat) : Sg := (wd t k).reverse
def ways (t : Tre) : List Sg := (List.range t.1.length).map (wy t)
theorem ways_eq {t : Tre} (T : TreeOk t) : m_ways_down t = some (ways t) := by
  have hl := T.len
  have hm := T.most
  unfold m_ways_down
  obtain ⟨s, e, hs⟩ := ret_foldO (xs := enumL t.1) (s := ([] : List Sg)) (f := fun s30 a29 => (if (decide ((0 : Int) ≤ a29.2)) = true then (atI s30 a29.2).bind fun a54 => some a54 else some ([] : Sg)).bind fun c52 => (atI t.2 a29.1).bind fun c58 => (catM c52 [c58]).bind fun t59 => (snocM s30 t59).bind fun l60 => some l60)
    (fun i s => s = (List.range i).map (wy t)) rfl fun i s x hx hs => by
      obtain ⟨h1, h2⟩ := enumL_get hx
      have hi := (List.getElem?_eq_some_iff.mp h2).1
      have hc := List.getElem?_eq_getElem (show i < t.2.length by omega)
      have wl := wd_len T.ups i hi
      refine Ret.bind (P := fun c => c ++ [t.2[i]] = wy t i) ?_ fun c hcw => ?_
      · refine Ret.ite (fun hd => ?_) fun hd => ?_
        · have hd := of_decide_eq_true hd
          have h0 : 0 < i := by
            rcases Nat.eq_zero_or_pos i with z | z
            · subst z; rw [T.ups.root] at h2; have := Option.some.inj h2; omega
            · exact z
          obtain ⟨a, b⟩ := T.ups.up i _ h0 h2
          have hb : x.2.toNat < i := by omega
          refine Ret.eq (a := wy t x.2.toNat) (atI_of hd (by subst hs; rw [List.getElem?_map, List.getElem?_range hb]; rfl)) (Ret.pure ?_)
          unfold wy
          rw [wd_up T.ups h0 h2, getD_of hc, List.reverse_cons]
        · have hd := of_decide_eq_false hd
          have h0 : i = 0 := by
            rcases Nat.eq_zero_or_pos i with z | z
            · exact z
            · obtain ⟨a, b⟩ := T.ups.up i _ z h2
              omega
          subst h0
          refine Ret.pure ?_
          unfold wy
          rw [wd_root T.ups, getD_of hc]; rfl
      rw [h1]
      refine Ret.eq (atI_nat hc) ?_
      have hlen : (c ++ [t.2[i]]).length ≤ i + 1 := by rw [hcw]; unfold wy; rw [List.length_reverse]; exact wl.2
      refine Ret.eq (catM_of (by rw [List.length_append] at hlen; omega)) ?_
      rw [hcw]
      refine Ret.eq (snocM_of (by subst hs; simp; omega)) (Ret.pure ?_)
      rw [hs, List.range_succ, List.map_append]; rfl
  rw [e]
  show some s = _
  rw [hs, enumL_len]; rfl

theorem law_ways_eq {t : Tre} (T : TreeOk t) : m__law_ways t = some (ways t) := by
  have hl := T.len
  have hm := T.most
  unfold m__law_ways
  obtain ⟨s, e, hs⟩ := ret_foldO (xs := enumL t.1) (s := ([] : List Sg)) (f := fun s30 a29 => (if (decide ((0 : Int) ≤ a29.2)) = true then (atI s30 a29.2).bind fun a54 => some a54 else some ([] : Sg)).bind fun c52 => (atI t.2 a29.1).bind fun c58 => (catM c52 [c58]).bind fun t59 => (snocM s30 t59).bind fun l60 => some l60)
    (fun i s => s = (List.range i).map (wy t)) rfl fun i s x hx hs => by
      obtain ⟨h1, h2⟩ := enumL_get hx
      have hi := (List.getElem?_eq_some_iff.mp h2).1
      have hc := List.getElem?_eq_getElem (show i < t.2.length by omega)
      have wl := wd_len T.ups i hi
      refine Ret.bind (P := fun c => c ++ [t.2[i]] = wy t i) ?_ fun c hcw => ?_
      · refine Ret.ite (fun hd => ?_) fun hd => ?_
        · have hd := of_decide_eq_true hd
          have h0 : 0 < i := by
            rcases Nat.eq_zero_or_pos i with z | z
            · subst z; rw [T.ups.root] at h2; have := Option.some.inj h2; omega
            · exact z
          obtain ⟨a, b⟩ := T.ups.up i _ h0 h2
          have hb : x.2.toNat < i := by omega
          refine Ret.eq (a := wy t x.2.toNat) (atI_of hd (by subst hs; rw [List.getElem?_map, List.getElem?_range hb]; rfl)) (Ret.pure ?_)
          unfold wy
          rw [wd_up T.ups h0 h2, getD_of hc, List.reverse_cons]
        · have hd := of_decide_eq_false hd
          have h0 : i = 0 := by
            rcases Nat.eq_zero_or_pos i with z | z
            · exact z
            · obtain ⟨a, b⟩ := T.ups.up i _ z h2
              omega
          subst h0
          refine Ret.pure ?_
          unfold wy
          rw [wd_root T.ups, getD_of hc]; rfl
      rw [h1]
      refine Ret.eq (atI_nat hc) ?_
      have hlen : (c ++ [t.2[i]]).length ≤ i + 1 := by rw [hcw]; unfold wy; rw [List.length_reverse]; exact wl.2
      refine Ret.eq (catM_of (by rw [List.length_append] at hlen; omega)) ?_
      rw [hcw]
      refine Ret.eq (snocM_of (by subst hs; simp; omega)) (Ret.pure ?_)
      rw [hs, List.range_succ, List.map_append]; rfl
  rw [e]
  show some s = _
  rw [hs, enumL_len]; rfl

/-! ### plain: tries -/
structure WaysOk (ws : List Sg) (c0 : Nat) : Prop where
  len : ws.length ≤ 60
  root : [c0] ∈ ws
  fst : ∀ w ∈ ws, ∃ r, w = c0 :: r
  low : ∀ w ∈ ws, ∀ c ∈ w, 97 ≤ c ∧ c ≤ 122
  most : ∀ w ∈ ws, w.length ≤ 60
  clo : ∀ w ∈ ws, 1 < w.length → w.dropLast ∈ ws
def upR (ws : List Sg) (w : Sg) : Int := if 1 < w.length then (rk ltS ws w.dropLast : Int) else -1
def trieL (ws : List Sg) : Tre := ((ssetL ltS ws).map (upR ws), (ssetL ltS ws).map fun w => w.getD (w.length - 1) 0)
theorem WaysOk.ne {ws : List Sg} {c0 : Nat} (W : WaysOk ws c0) {w : Sg} (h : w ∈ ws) : w ≠ [] := by
  obtain ⟨r, e⟩ := W.fst w h
  rw [e]; exact List.cons_ne_nil _ _
theorem places_eq (l : List Sg) (h : l.length ≤ 1000) : m_places_by_way l = some (ofPairs ((enumL l).map fun p => (p.2, p.1))) := by
  unfold m_places_by_way
  exact Ret.val (P := fun r => r = ofPairs ((enumL l).map fun p => (p.2, p.1))) (ret_need (szB_of (by rw [enumL_len]; omega)) (Ret.eq (compS_map (fun p : Int × Sg => (p.2, p.1)) fun _ _ => rfl) (Ret.pure rfl))) fun _ e => e
theorem lkp_in {ws : List Sg} {a : Sg} (h : a ∈ ws) : lkp (ofPairs ((enumL (ssetL ltS ws)).map fun p => (p.2, p.1))) a = some (rk ltS ws a : Int) := lkp_enum sset_nd (rk_get lo_S h)
theorem lkp_out {ws : List Sg} {a : Sg} (h : a ∉ ws) : lkp (ofPairs ((enumL (ssetL ltS ws)).map fun p => (p.2, p.1))) a = none := by
  have e : ((enumL (ssetL ltS ws)).map fun p => (p.2, p.1)).map Prod.fst = ssetL ltS ws := by rw [List.map_map]; exact enumL_snd _
  rw [ofPairs_nd (by rw [e]; exact sset_nd)]
  unfold lkp
  rw [List.find?_eq_none.mpr fun p hp => ?_]
  · rfl
  · intro z
    have : p.1 ∈ ssetL ltS ws := by rw [← e]; exact List.mem_map.mpr ⟨p, hp, rfl⟩
    rw [of_decide_eq_true z] at this
    exact h (sset_mem.mp this)
theorem cut_last (w : Sg) : cutL w none (some (-1 : Int)) = w.dropLast := by
  unfold cutL
  have e : HT.sIx w.length w.length (some (-1 : Int)) = w.length - 1 := by
    unfold HT.sIx
    simp
    omega
  rw [HT.sIx_none, e, List.drop_zero, Nat.sub_zero, List.dropLast_eq_take]
theorem atI_last {w : Sg} (h : w ≠ []) : atI w (-1) = some (w.getD (w.length - 1) 0) := by
  have hl : 0 < w.length := List.length_pos_iff.mpr h
  have e := List.getElem?_eq_getElem (show w.length - 1 < w.length by omega)
  rw [atI_neg (by decide) (by omega), show ((-1 : Int) + (w.length : Int)).toNat = w.length - 1 by omega, e, getD_of e]
theorem join_one (xs : List Nat) (h : xs.length ≤ 1000) : joinM [] (xs.map fun c => [c]) = some xs := by
  have e : (xs.map fun c => [c]).flatten = xs := by
    induction xs with
    | nil => rfl
    | cons x xs ih => rw [List.map_cons, List.flatten_cons, ih (by simp at h; omega)]; rfl
  have s : ((xs.map fun c => [c]).map List.length).sum = xs.length := by
    clear e h
    induction xs with
    | nil => rfl
    | cons x xs ih => rw [List.map_cons, List.map_cons, List.sum_cons, ih]; simp; omega
  rw [joinM_of (by rw [s]; simp; omega), joinL_nil, e]
theorem labels_ret {ws : List Sg} {c0 : Nat} (W : WaysOk ws c0) : Ret ((need (szB (ssetL ltS ws).length) ()).bind fun _ => (compS (ssetL ltS ws) fun a82 => (atI a82 (-1 : Int)).bind fun c102 => some (some [c102])).bind fun q81 => joinM ([] : Sg) q81) (fun r => r = (trieL ws).2) := by
  have hl := sset_len (lt := ltS) (xs := ws)
  have hw := W.len
  refine ret_need (szB_of (by omega)) (Ret.eq (compS_map (fun w : Sg => [w.getD (w.length - 1) 0]) fun w hw => ?_) (Ret.of ?_ rfl))
  · rw [atI_last (W.ne (sset_mem.mp hw))]; rfl
  · have := join_one (trieL ws).2 (by unfold trieL; rw [List.length_map]; omega)
    rw [show (trieL ws).2.map (fun c => [c]) = (ssetL ltS ws).map fun w => [w.getD (w.length - 1) 0] by unfold trieL; rw [List.map_map]; rfl] at this
    exact this
theorem trie_by_eq {ws : List Sg} {c0 : Nat} (W : WaysOk ws c0) : m_trie_by ws = some (trieL ws) := by
  have hl := sset_len (lt := ltS) (xs := ws)
  have hw := W.len
  unfold m_trie_by
  refine Ret.val (P := fun r => r = trieL ws) (ret_need (show ssetB 3999 ws = true from decide_eq_true (by omega)) (Ret.eq (places_eq _ (by omega)) (ret_need (szB_of (by omega)) (Ret.eq (compS_map (upR ws) fun w hw => ?_) ?_)))) fun _ e => e
  · have hm := sset_mem.mp hw
    rw [cut_last]
    refine congrArg (fun x => some (some x)) ?_
    unfold getD2 upR
    by_cases h1 : 1 < w.length
    · rw [if_pos h1, lkp_in (W.clo w hm h1)]; rfl
    · obtain ⟨r, e⟩ := W.fst w hm
      have e2 : w = [c0] := by
        subst e
        rw [List.length_cons] at h1
        rw [List.length_eq_zero_iff.mp (show r.length = 0 by omega)]
      rw [if_neg h1, lkp_out (fun z => W.ne z (by rw [e2]; rfl))]; rfl
  · obtain ⟨r, hr, rfl⟩ := labels_ret W
    obtain ⟨u, hu, hr⟩ := Option.bind_eq_some_iff.mp hr
    obtain ⟨q, hq, hr⟩ := Option.bind_eq_some_iff.mp hr
    exact Ret.eq hu (Ret.eq hq (Ret.eq hr (Ret.pure rfl)))
theorem sk_txt {s : Sg} (h : ∀ c ∈ s, 97 ≤ c ∧ c ≤ 122) : Sk1 0 (dS.d s) := sk_str fun c hc => by have := h c hc; omega
theorem eqB_in {ws : List Sg} {c0 : Nat} (W : WaysOk ws c0) {a : Sg} (h : a ∈ ws) : eqB (dS.d a) (.list ((ssetL ltS ws).map dS.d)) = true :=
  eqB_of (sk_txt (W.low a h)) (sk_list (sks_all fun d hd => by
    obtain ⟨x, hx, rfl⟩ := List.mem_map.mp hd
    exact sk_txt (W.low x (sset_mem.mp hx)))) (by decide) (by decide)
theorem law_trie_eq {ws : List Sg} {c0 : Nat} (W : WaysOk ws c0) : m__law_trie ws = some (trieL ws) := by
  have hl := sset_len (lt := ltS) (xs := ws)
  have hw := W.len
  unfold m__law_trie
  refine Ret.val (P := fun r => r = trieL ws) (ret_need (show ssetB 3999 ws = true from decide_eq_true (by omega)) (Ret.bind (P := fun s => s = (trieL ws).1) ((ret_foldO (fun i s => s = ((ssetL ltS ws).take i).map (upR ws)) rfl fun i s w hw hs => ?_).mono fun s hs => by rw [hs, List.take_length]; rfl) fun s hs => ?_)) fun _ e => e
  · have hm := sset_mem.mp (List.mem_of_getElem? hw)
    have hi := (List.getElem?_eq_some_iff.mp hw).1
    rw [cut_last]
    refine Ret.bind (P := fun r => r = upR ws w) (Ret.ite (fun h => ?_) fun h => Ret.pure ?_) fun r hr => ?_
    · have h1 : 1 < w.length := by have := of_decide_eq_true h; omega
      refine ret_need (eqB_in W (W.clo w hm h1)) (Ret.eq (idx_rk lo_S (W.clo w hm h1)) (Ret.pure ?_))
      unfold upR
      rw [if_pos h1]
    · have := of_decide_eq_false h
      unfold upR
      rw [if_neg (by omega)]
    · subst hr
      refine Ret.eq (snocM_of (by rw [hs, List.length_map, List.length_take]; omega)) (Ret.pure ?_)
      rw [hs, List.take_succ_eq_append_getElem hi, List.map_append, (List.getElem?_eq_some_iff.mp hw).2]
      rfl
  · subst hs
    obtain ⟨r, hr, rfl⟩ := labels_ret W
    obtain ⟨u, hu, hr⟩ := Option.bind_eq_some_iff.mp hr
    obtain ⟨q, hq, hr⟩ := Option.bind_eq_some_iff.mp hr
    exact Ret.eq hu (Ret.eq hq (Ret.eq hr (Ret.pure rfl)))
/-! ### plain: a trie is a tree -/
theorem lt_dropLast : ∀ w : Sg, w ≠ [] → ltS w.dropLast w = true
  | [], h => absurd rfl h
  | [c], _ => by rw [show ([c] : Sg).dropLast = [] from rfl, ltS_nil]; rfl
  | c :: d :: r, _ => by
    rw [List.dropLast_cons₂, ltS_cons, lt_dropLast (d :: r) (List.cons_ne_nil _ _), decide_eq_true rfl]
    simp
theorem lt_past : ∀ (p x : Sg) (c : Nat), ltS p (x.take p.length) = true → ltS (p ++ [c]) x = true
  | [], x, c, h => by simp [ltS] at h
  | a :: p, [], c, h => by rw [List.take_nil, ltS_nil2] at h; cases h
  | a :: p, b :: x, c, h => by
    rw [List.length_cons, List.take_succ_cons, ltS_cons, Bool.or_eq_true, Bool.and_eq_true] at h
    rw [List.cons_append, ltS_cons, Bool.or_eq_true, Bool.and_eq_true]
    exact h.imp id fun ⟨e, h⟩ => ⟨e, lt_past p x c h⟩
theorem anc_pref {ws : List Sg} {c0 : Nat} (W : WaysOk ws c0) {p : Sg} (hp : p ≠ []) : ∀ (n : Nat) (x : Sg), x ∈ ws → x.length = p.length + n → x.take p.length = p → Anc (trieL ws).1 (rk ltS ws x) (rk ltS ws p)
  | 0, x, hx, hl, ht => by
    rw [List.take_of_length_le (by omega)] at ht
    rw [ht]; exact .refl _
  | n + 1, x, hx, hl, ht => by
    have hp2 : 0 < p.length := List.length_pos_iff.mpr hp
    have hd := W.clo x hx (by omega)
    have ih := anc_pref W hp n x.dropLast hd (by rw [List.length_dropLast]; omega) (by
      rw [List.dropLast_eq_take, List.take_take, Nat.min_eq_left (by omega)]; exact ht)
    have e : (trieL ws).1[rk ltS ws x]? = some ((rk ltS ws x.dropLast : Nat) : Int) := by
      unfold trieL
      rw [List.getElem?_map, rk_get lo_S hx]
      show some (upR ws x) = _
      unfold upR
      rw [if_pos (by omega)]
    refine .up e (by omega) ?_
    rw [Int.toNat_natCast]
    exact ih
theorem trie_ok {ws : List Sg} {c0 : Nat} (W : WaysOk ws c0) : TreeOk (trieL ws) := by
  have hl := sset_len (lt := ltS) (xs := ws)
  have hw := W.len
  have l1 : (trieL ws).1.length = (ssetL ltS ws).length := by unfold trieL; rw [List.length_map]
  have l2 : (trieL ws).2.length = (ssetL ltS ws).length := by unfold trieL; rw [List.length_map]
  have r0 : rk ltS ws [c0] = 0 := by
    unfold rk
    rw [List.length_eq_zero_iff, List.filter_eq_nil_iff]
    intro x hx
    obtain ⟨r, e⟩ := W.fst x (mem_uq.mp hx)
    rw [e, ltS_cons, ltS_nil2, decide_eq_false (by omega)]
    simp
  have g0 : (ssetL ltS ws)[0]? = some [c0] := by
    have := rk_get lo_S W.root
    rw [r0] at this; exact this
  -- a place: its way
  have pl : ∀ k u, 0 < k → (trieL ws).1[k]? = some u → ∃ w, (ssetL ltS ws)[k]? = some w ∧ w ∈ ws ∧ 1 < w.length ∧ u = (rk ltS ws w.dropLast : Int) ∧ rk ltS ws w = k := fun k u h0 hu => by
    have hk := (List.getElem?_eq_some_iff.mp hu).1
    rw [l1] at hk
    have e := List.getElem?_eq_getElem hk
    have hm := sset_mem.mp (List.mem_of_getElem? e)
    have rk1 := rk_at lo_S e
    have h1 : 1 < (ssetL ltS ws)[k].length := by
      obtain ⟨r, er⟩ := W.fst _ hm
      rcases Nat.lt_or_ge 1 (ssetL ltS ws)[k].length with h | h
      · exact h
      · exfalso
        rw [er, List.length_cons] at h
        have : r = [] := List.length_eq_zero_iff.mp (by omega)
        rw [er, this] at rk1
        omega
    refine ⟨_, e, hm, h1, ?_, rk1⟩
    unfold trieL at hu
    rw [List.getElem?_map, e] at hu
    have hu : upR ws (ssetL ltS ws)[k] = u := Option.some.inj hu
    unfold upR at hu
    rw [if_pos h1] at hu
    exact hu.symm
  refine ⟨by rw [l1, l2], by omega, ⟨?_, fun k u h0 hu => ?_, fun k u h0 hu => ?_⟩, fun c hc => ?_⟩
  · unfold trieL
    rw [List.getElem?_map, g0]
    rfl
  · obtain ⟨w, e, hm, h1, rfl, rw1⟩ := pl k u h0 hu
    have := (rk_lt lo_S (W.clo w hm h1) hm).mpr (lt_dropLast w (W.ne hm))
    omega
  · obtain ⟨w, e, hm, h1, rfl, rw1⟩ := pl k u h0 hu
    rw [Int.toNat_natCast]
    have hlt := (rk_lt lo_S (W.clo w hm h1) hm).mpr (lt_dropLast w (W.ne hm))
    have hk := (List.getElem?_eq_some_iff.mp e).1
    have ex := List.getElem?_eq_getElem (show k - 1 < (ssetL ltS ws).length by omega)
    have hx := sset_mem.mp (List.mem_of_getElem? ex)
    have rx := rk_at lo_S ex
    generalize (ssetL ltS ws)[k - 1] = x at ex hx rx
    have dne : w.dropLast ≠ [] := W.ne (W.clo w hm h1)
    have ew : w = w.dropLast ++ [w.getLast (W.ne hm)] := (List.dropLast_concat_getLast (W.ne hm)).symm
    -- the way ahead begins with what stands above
    have pre : swB x w.dropLast = true := by
      have t := (tri w.dropLast x).1
      cases es : swB x w.dropLast with
      | true => rfl
      | false =>
        exfalso
        rw [es, Bool.or_false] at t
        have a1 : ltS x w.dropLast = false := by
          cases z : ltS x w.dropLast with
          | false => rfl
          | true =>
            have := (rk_lt lo_S hx (W.clo w hm h1)).mpr z
            omega
        rw [a1] at t
        have a2 : ltS w.dropLast (x.take w.dropLast.length) = true := by simpa using t
        have a3 := lt_past _ _ (w.getLast (W.ne hm)) a2
        rw [← ew] at a3
        have := (rk_lt lo_S hm hx).mpr a3
        omega
    unfold swB at pre
    have pre := of_decide_eq_true pre
    have ll := congrArg List.length pre
    rw [List.length_take] at ll
    have := anc_pref W dne (x.length - w.dropLast.length) x hx (by omega) pre
    rw [rx] at this
    exact this
  · unfold trieL at hc
    obtain ⟨w, hm, rfl⟩ := List.mem_map.mp hc
    have hm := sset_mem.mp hm
    have hl : 0 < w.length := List.length_pos_iff.mpr (W.ne hm)
    have e := List.getElem?_eq_getElem (show w.length - 1 < w.length by omega)
    rw [getD_of e]
    exact W.low w hm _ (List.mem_of_getElem? e)
theorem wy_up {t : Tre} (T : TreeOk t) {k : Nat} {u : Int} (h0 : 0 < k) (h : t.1[k]? = some u) : wy t k = wy t u.toNat ++ [t.2.getD k 0] := by
  unfold wy
  rw [wd_up T.ups h0 h, List.reverse_cons]
theorem ways_ok {t : Tre} (T : TreeOk t) : WaysOk (ways t) (t.2.getD 0 0) := by
  have hn := T.ups.pos
  have hm := T.most
  have w0 : wy t 0 = [t.2.getD 0 0] := by unfold wy; rw [wd_root T.ups]; rfl
  have mem : ∀ k, k < t.1.length → wy t k ∈ ways t := fun k hk => List.mem_map.mpr ⟨k, List.mem_range.mpr hk, rfl⟩
  refine ⟨by unfold ways; rw [List.length_map, List.length_range]; exact hm, by rw [← w0]; exact mem 0 hn, fun w hw => ?_, fun w hw c hc => ?_, fun w hw => ?_, fun w hw h1 => ?_⟩ <;> obtain ⟨k, hk, rfl⟩ := List.mem_map.mp hw <;> have hk := List.mem_range.mp hk
  · clear hw
    induction k using Nat.strongRecOn with
    | _ k ih =>
      rcases Nat.eq_zero_or_pos k with z | z
      · subst z; exact ⟨[], w0⟩
      · have e := List.getElem?_eq_getElem hk
        have hb := T.ups.up _ _ z e
        obtain ⟨r, hr⟩ := ih _ (show t.1[k].toNat < k by omega) (List.mem_range.mpr (by omega)) (by omega)
        exact ⟨r ++ [t.2.getD k 0], by rw [wy_up T z e, hr]; rfl⟩
  · exact wd_low T k hk c (by unfold wy at hc; exact List.mem_reverse.mp hc)
  · have := (wd_len T.ups k hk).2
    unfold wy
    rw [List.length_reverse]; omega
  · rcases Nat.eq_zero_or_pos k with z | z
    · subst z; rw [w0] at h1; simp at h1
    · have e := List.getElem?_eq_getElem hk
      have hb := T.ups.up _ _ z e
      rw [wy_up T z e, List.dropLast_concat]
      exact mem _ (by omega)

theorem compS_fil {α : Type} {xs : List α} {f : α → Option (Option α)} (c : α → Bool) (h : ∀ x ∈ xs, f x = if c x = true then some (some x) else some none) : compS xs f = some (xs.filter c) := by
  rw [compS_of (fun x => if c x = true then some x else none) (fun x hx => by rw [h x hx]; cases c x <;> rfl)]
  congr 1
  induction xs with
  | nil => rfl
  | cons x xs ih =>
    rw [List.filterMap_cons, List.filter_cons, ih fun y hy => h y (List.mem_cons_of_mem _ hy)]
    cases c x <;> rfl

abbrev Dc := List (Sg × Bool)
def KeysOk (P : Sg → Prop) (N : Nat) (d : Dc) : Prop := (d.map Prod.fst).Nodup ∧ (∀ w, w ∈ d.map Prod.fst ↔ P w) ∧ d.length ≤ N
theorem KeysOk.congr {P Q : Sg → Prop} {N M : Nat} {d : Dc} (h : KeysOk P N d) (e : ∀ w, P w ↔ Q w) (hN : N ≤ M) : KeysOk Q M d := ⟨h.1, fun w => (h.2.1 w).trans (e w), by have := h.2.2; omega⟩
theorem dput_ret {P : Sg → Prop} {N : Nat} {d : Dc} {a : Sg} (h : KeysOk P N d) (hN : N ≤ 100000) : Ret (dputM d a true) (KeysOk (fun w => P w ∨ w = a) (N + 1)) := by
  unfold dputM
  have hl := h.2.2
  rw [need_eq (decide_eq_true (by omega))]
  refine Ret.pure ?_
  by_cases ha : a ∈ d.map Prod.fst
  · have e : (dput d a true).map Prod.fst = d.map Prod.fst := by
      unfold dput
      have : (d.any fun kv => decide (kv.1 = a)) = true := by
        rw [List.any_eq_true]
        obtain ⟨p, hp, e⟩ := List.mem_map.mp ha
        exact ⟨p, hp, decide_eq_true e⟩
      rw [if_pos this, List.map_map]
      refine List.map_congr_left fun p _ => ?_
      show (if p.1 = a then (p.1, true) else p).1 = p.1
      split <;> rfl
    refine ⟨by rw [e]; exact h.1, fun w => ?_, ?_⟩
    · rw [e, h.2.1 w]
      constructor
      · exact .inl
      · rintro (h9 | h9)
        · exact h9
        · rw [h9]; exact (h.2.1 a).mp ha
    · have := congrArg List.length e
      rw [List.length_map, List.length_map] at this
      omega
  · rw [dput_new ha]
    refine ⟨?_, fun w => ?_, by rw [List.length_append]; simp; omega⟩
    · rw [List.map_append, List.nodup_append]
      refine ⟨h.1, by simp, fun x hx y hy e => ?_⟩
      simp at hy
      rw [e, hy] at hx
      exact ha hx
    · rw [List.map_append, List.mem_append, h.2.1 w]
      simp
theorem inD_keys {d : Dc} {a : Sg} : inD d a = decide (a ∈ d.map Prod.fst) := by
  unfold inD lkp
  by_cases h : a ∈ d.map Prod.fst
  · rw [decide_eq_true h]
    obtain ⟨p, hp, e⟩ := List.mem_map.mp h
    have : (d.find? fun kv => decide (kv.1 = a)).isSome = true := by
      rw [List.find?_isSome]
      exact ⟨p, hp, decide_eq_true e⟩
    rw [Option.isSome_map]
    exact this
  · rw [decide_eq_false h, List.find?_eq_none.mpr fun p hp z => h (List.mem_map.mpr ⟨p, hp, of_decide_eq_true z⟩)]
    rfl

def LowT (s : Sg) : Prop := ∀ c ∈ s, 97 ≤ c ∧ c ≤ 122

theorem abc_ok : ∀ i : Fin 26, inSg [97 + i.val] ([97, 98, 99, 100, 101, 102, 103, 104, 105, 106, 107, 108, 109, 110, 111, 112, 113, 114, 115, 116, 117, 118, 119, 120, 121, 122] : Sg) = true := by decide +kernel
theorem abc_in2 {c : Nat} (h : 97 ≤ c ∧ c ≤ 122) : inSg [c] ([97, 98, 99, 100, 101, 102, 103, 104, 105, 106, 107, 108, 109, 110, 111, 112, 113, 114, 115, 116, 117, 118, 119, 120, 121, 122] : Sg) = true := by
  have := abc_ok ⟨c - 97, by omega⟩
  rw [show 97 + (c - 97) = c by omega] at this
  exact this

theorem letters_ok {s : Sg} (h : LowT s) (hl : s.length ≤ 60) : m_are_letters s = some true := by
  unfold m_are_letters
  have ls : (signs s).length = s.length := by unfold signs; rw [List.length_map]
  rw [if_pos rfl]
  refine Ret.val (P := fun r => r = true) (Ret.bind (P := fun r => r = true) (ret_need (szB_of (by omega)) (Ret.eq (compS_map (fun a => inSg a ([97, 98, 99, 100, 101, 102, 103, 104, 105, 106, 107, 108, 109, 110, 111, 112, 113, 114, 115, 116, 117, 118, 119, 120, 121, 122] : Sg)) fun _ _ => rfl) (Ret.pure ?_))) fun r hr => Ret.pure hr) fun _ e => e
  rw [List.all_map, List.all_eq_true]
  intro x hx
  unfold signs at hx
  obtain ⟨c, hc, rfl⟩ := List.mem_map.mp hx
  exact abc_in2 (h c hc)
theorem is_tree_eq {u : List Int} {s : Sg} {b : Bool} (h : LowT s) (hl : u.length = s.length) (h1 : 1 ≤ u.length) (h2 : u.length ≤ 60) (hb : m_are_ups u = some b) : m_is_tree (u, s) = some b := by
  unfold m_is_tree
  refine Ret.val (P := fun r => r = b) ?_ fun _ e => e
  rw [if_neg (by decide)]
  have lo : m_are_letters s = some true := letters_ok h (by omega)
  refine Ret.eq lo ?_
  rw [if_neg (by
    show ¬ ((!true || !(decide ((1 : Int) ≤ (s.length : Int)) && decide ((s.length : Int) ≤ (60 : Int)))) = true)
    rw [decide_eq_true (show (1 : Int) ≤ (s.length : Int) by omega), decide_eq_true (show (s.length : Int) ≤ 60 by omega)]; decide)]
  refine Ret.bind (P := fun r => r = false) ?_ fun c hc => ?_
  · rw [if_neg (by decide)]
    refine Ret.bind (P := fun r => r = false) ?_ fun c hc => Ret.pure hc
    rw [if_neg (by
      show ¬ ((!decide ((u.length : Int) = (s.length : Int))) = true)
      rw [decide_eq_true (show (u.length : Int) = (s.length : Int) by omega)]; decide)]
    refine ret_need (szB_of (show u.length ≤ _ by omega)) (Ret.eq (compS_map (fun _ => true) fun _ _ => rfl) (Ret.pure ?_))
    rw [List.all_map]
    have : (List.all u (id ∘ fun _ => true)) = true := by rw [List.all_eq_true]; intros; rfl
    show (!(List.all u (id ∘ fun _ => true))) = false
    rw [this]; rfl
  · subst hc
    rw [if_neg (by decide)]
    exact Ret.eq hb (Ret.pure rfl)

/-! ### plain: a trie's ways -/
theorem pl_trie {ws : List Sg} {c0 : Nat} (W : WaysOk ws c0) {k : Nat} (hk : k < (ssetL ltS ws).length) (h0 : 0 < k) : ∃ w, (ssetL ltS ws)[k]? = some w ∧ w ∈ ws ∧ 1 < w.length ∧ (trieL ws).1[k]? = some ((rk ltS ws w.dropLast : Nat) : Int) := by
  have e := List.getElem?_eq_getElem hk
  have hm := sset_mem.mp (List.mem_of_getElem? e)
  have rk1 := rk_at lo_S e
  have r0 : rk ltS ws [c0] = 0 := by
    unfold rk
    rw [List.length_eq_zero_iff, List.filter_eq_nil_iff]
    intro x hx
    obtain ⟨r, e⟩ := W.fst x (mem_uq.mp hx)
    rw [e, ltS_cons, ltS_nil2, decide_eq_false (by omega)]
    simp
  have h1 : 1 < (ssetL ltS ws)[k].length := by
    obtain ⟨r, er⟩ := W.fst _ hm
    rcases Nat.lt_or_ge 1 (ssetL ltS ws)[k].length with h | h
    · exact h
    · exfalso
      rw [er, List.length_cons] at h
      have : r = [] := List.length_eq_zero_iff.mp (by omega)
      rw [er, this] at rk1
      omega
  refine ⟨_, e, hm, h1, ?_⟩
  unfold trieL
  rw [List.getElem?_map, e]
  show some (upR ws _) = _
  unfold upR
  rw [if_pos h1]
theorem lab_trie {ws : List Sg} {k : Nat} {w : Sg} (h : (ssetL ltS ws)[k]? = some w) : (trieL ws).2.getD k 0 = w.getD (w.length - 1) 0 := getD_of (by unfold trieL; rw [List.getElem?_map, h]; rfl)
theorem last_eq {w : Sg} (h : w ≠ []) : w.dropLast ++ [w.getD (w.length - 1) 0] = w := by
  have hl : 0 < w.length := List.length_pos_iff.mpr h
  have e := List.getElem?_eq_getElem (show w.length - 1 < w.length by omega)
  rw [getD_of e, List.dropLast_eq_take]
  have := List.take_succ_eq_append_getElem (show w.length - 1 < w.length by omega)
  rw [show w.length - 1 + 1 = w.length by omega, List.take_length] at this
  exact this.symm
theorem wy_trie {ws : List Sg} {c0 : Nat} (W : WaysOk ws c0) : ∀ k w, (ssetL ltS ws)[k]? = some w → wy (trieL ws) k = w := by
  have T := trie_ok W
  intro k
  induction k using Nat.strongRecOn with
  | _ k ih =>
    intro w hw
    have hk := (List.getElem?_eq_some_iff.mp hw).1
    have hm := sset_mem.mp (List.mem_of_getElem? hw)
    rcases Nat.eq_zero_or_pos k with z | z
    · subst z
      have e : wy (trieL ws) 0 = [(trieL ws).2.getD 0 0] := by unfold wy; rw [wd_root T.ups]; rfl
      rw [e, lab_trie hw]
      -- the least is the root's letter
      obtain ⟨r, er⟩ := W.fst w hm
      have : r = [] := by
        cases r with
        | nil => rfl
        | cons d r =>
          exfalso
          have rw1 := rk_at lo_S hw
          have := (rk_lt lo_S W.root hm).mpr (by rw [er, ltS_cons, ltS_nil, decide_eq_true rfl]; simp)
          omega
      rw [er, this]; rfl
    · obtain ⟨w', e, _, h1, hu⟩ := pl_trie W hk z
      rw [hw] at e
      cases e
      have hd := W.clo w hm h1
      have hlt := (rk_lt lo_S hd hm).mpr (lt_dropLast w (W.ne hm))
      rw [rk_at lo_S hw] at hlt
      rw [wy_up T z hu, Int.toNat_natCast, ih _ hlt _ (rk_get lo_S hd), lab_trie hw, last_eq (W.ne hm)]
theorem ways_trie {ws : List Sg} {c0 : Nat} (W : WaysOk ws c0) : ways (trieL ws) = ssetL ltS ws := by
  unfold ways
  refine List.ext_getElem? fun k => ?_
  have l1 : (trieL ws).1.length = (ssetL ltS ws).length := by unfold trieL; rw [List.length_map]
  rw [List.getElem?_map, l1]
  by_cases hk : k < (ssetL ltS ws).length
  · have e := List.getElem?_eq_getElem hk
    rw [List.getElem?_range hk, e]
    show some (wy (trieL ws) k) = _
    rw [wy_trie W k _ e]
  · rw [List.getElem?_eq_none (by simp; omega), List.getElem?_eq_none (by omega)]; rfl
/-! ### plain: a tree is one, a trie is one -/
theorem anc_ge {ups : List Int} (U : UpsOk ups) {k p : Nat} (h : Anc ups k p) : k < ups.length → p ≤ k := by
  induction h with
  | refl => exact fun _ => Nat.le_refl _
  | @up k a u hk hu r ih =>
    intro hl
    rcases Nat.eq_zero_or_pos k with z | z
    · subst z
      rw [U.root] at hk
      have : -1 = u := Option.some.inj hk
      omega
    · have hb := U.up _ _ z hk
      have := ih (by omega)
      omega
theorem stand_eq {ups : List Int} (U : UpsOk ups) (hm : ups.length ≤ 60) {k : Nat} (h0 : 0 < k) (hk : k < ups.length) : m_can_stand ups (k : Int) = some true := by
  have e := List.getElem?_eq_getElem hk
  generalize ups[k] = p at e
  obtain ⟨p0, p1⟩ := U.up _ _ h0 e
  have ha := U.ch _ _ h0 e
  unfold m_can_stand
  refine Ret.val (P := fun r => r = true) (Ret.eq (atI_nat e) ?_) fun _ e => e
  rw [if_neg (by rw [decide_eq_true p0, decide_eq_true p1]; decide)]
  refine Ret.bind (ret_whileO (fun s : Int => 0 ≤ s ∧ s < k ∧ Anc ups s.toNat p.toNat) (fun s => s.toNat) ⟨by omega, by omega, by rw [show ((k : Int) - 1).toNat = k - 1 by omega]; exact ha⟩ (by omega) fun s ⟨h1, h2, h3⟩ => ?_) fun s ⟨⟨h1, h2, h3⟩, h4⟩ => ?_
  · refine Ret.eq (atI_nat e) (Ret.pure fun hd => ?_)
    have hd := of_decide_eq_true hd
    have es := List.getElem?_eq_getElem (show s.toNat < ups.length by omega)
    refine Ret.eq (atI_of h1 es) (Ret.pure ?_)
    generalize ups[s.toNat] = v at es
    have key : s.toNat = p.toNat ∨ (0 ≤ v ∧ Anc ups v.toNat p.toNat) := by
      generalize s.toNat = n at h3 es
      generalize p.toNat = m at h3
      cases h3 with
      | refl => exact .inl rfl
      | up hu hu0 r =>
        rw [hu] at es
        have es := Option.some.inj es
        rw [← es]
        exact .inr ⟨hu0, r⟩
    rcases key with z | ⟨z1, z2⟩
    · omega
    · have hb := U.up _ _ (show 0 < s.toNat by omega) es
      exact ⟨⟨z1, by omega, z2⟩, by omega⟩
  · rw [atI_nat e] at h4
    have h4 := of_decide_eq_false (Option.some.inj h4)
    have := anc_ge U h3 (by omega)
    exact Ret.eq (atI_nat e) (Ret.pure (decide_eq_true (by omega)))
theorem are_ups_eq {ups : List Int} (U : UpsOk ups) (hm : ups.length ≤ 60) : m_are_ups ups = some true := by
  unfold m_are_ups
  refine Ret.val (P := fun r => r = true) (Ret.eq (atI_of (Int.le_refl 0) U.root) ?_) fun _ e => e
  rw [if_neg (by decide)]
  refine Ret.eq (uptoM_of (by decide) (by decide) (by omega) (by omega)) ?_
  refine Ret.bind (ret_foldR (fun _ _ => True) trivial fun i s a ha _ => ?_) fun z ⟨s', hz, _⟩ => ?_
  · have ha := upto_get ha
    rw [show a = ((i + 1 : Nat) : Int) by omega]
    refine Ret.eq (stand_eq U hm (by omega) (by omega)) ?_
    rw [if_neg (by decide)]
    exact Ret.pure ⟨(), rfl, trivial⟩
  · subst hz
    exact Ret.pure rfl
theorem trie_is {ws : List Sg} {c0 : Nat} (W : WaysOk ws c0) : m_is_trie (trieL ws) = some true := by
  have T := trie_ok W
  have hm := T.most
  have hl := T.len
  have hn := T.ups.pos
  have l1 : (trieL ws).1.length = (ssetL ltS ws).length := by unfold trieL; rw [List.length_map]
  have it : m_is_tree (trieL ws) = some true := is_tree_eq (u := (trieL ws).1) (s := (trieL ws).2) T.low hl hn hm (are_ups_eq T.ups hm)
  unfold m_is_trie
  refine Ret.val (P := fun r => r = true) (Ret.eq it ?_) fun _ e => e
  rw [if_neg (by decide)]
  have e0 : repM [([] : Sg)] ((trieL ws).1.length : Int) = some (List.replicate (trieL ws).1.length []) := by
    unfold repM
    rw [need_eq (by rw [Bool.and_eq_true]; exact ⟨decide_eq_true (by omega), szB_of (by simp; omega)⟩)]
    simp [repL]
  refine Ret.eq e0 ?_
  refine Ret.bind (ret_foldR (fun i s => s.length = (trieL ws).1.length ∧ ∀ (u : Nat) (x : Sg), s[u]? = some x → x = [] ∨ ∃ j, j < i ∧ 0 < j ∧ (trieL ws).1[j]? = some (u : Int) ∧ x = [(trieL ws).2.getD j 0]) ⟨by simp, fun u x h => .inl (List.eq_of_mem_replicate (List.mem_of_getElem? h))⟩ fun i s a ha ⟨ls, hs⟩ => ?_) fun z ⟨s', hz, _⟩ => ?_
  · obtain ⟨x1, x2⟩ := enumL_get ha
    have hi := (List.getElem?_eq_some_iff.mp x2).1
    have hb := up_bd T x2
    rw [x1]
    refine Ret.ite (fun h => ?_) fun h => Ret.pure ⟨s, rfl, ls, fun u x hx => (hs u x hx).imp id fun ⟨j, h1, h2⟩ => ⟨j, by omega, h2⟩⟩
    have h := of_decide_eq_true h
    have hi0 : 0 < i := by omega
    have es := List.getElem?_eq_getElem (show a.2.toNat < s.length by omega)
    have ec := List.getElem?_eq_getElem (show i < (trieL ws).2.length by omega)
    refine Ret.eq (atI_of h es) (Ret.eq (atI_nat ec) ?_)
    have lt : ltS s[a.2.toNat] [(trieL ws).2[i]] = true := by
      rcases hs _ _ es with e | ⟨j, h1, h2, h3, e⟩
      · rw [e, ltS_nil]; rfl
      · rw [e]
        have hj : j < (trieL ws).1.length := by omega
        have ej := List.getElem?_eq_getElem (show j < (ssetL ltS ws).length by omega)
        have ei := List.getElem?_eq_getElem (show i < (ssetL ltS ws).length by omega)
        have wj := wy_trie W j _ ej
        have wi := wy_trie W i _ ei
        rw [wy_up T h2 h3] at wj
        rw [wy_up T hi0 x2] at wi
        have so := List.pairwise_iff_getElem.mp (sset_lt lo_S (xs := ws)) j i (by omega) (by omega) h1
        rw [← wj, ← wi, Int.toNat_natCast, getD_of ec] at so
        have pre : ∀ (p x y : Sg), ltS (p ++ x) (p ++ y) = ltS x y := fun p x y => by
          induction p with
          | nil => rfl
          | cons c p ih => rw [List.cons_append, List.cons_append, ltS_cons, ih, decide_eq_false (by omega), decide_eq_true rfl]; simp
        rw [pre] at so
        exact so
    rw [if_neg (by
      show ¬ ((!ltS s[a.2.toNat] [(trieL ws).2[i]]) = true)
      rw [lt]; decide)]
    refine Ret.eq (atI_nat ec) (Ret.eq (setM_of h (by omega)) (Ret.pure ⟨_, rfl, by rw [List.length_set]; exact ls, fun u x hx => ?_⟩))
    by_cases hu : a.2.toNat = u
    · subst hu
      rw [List.getElem?_set_self (by omega)] at hx
      refine .inr ⟨i, by omega, hi0, ?_, ?_⟩
      · exact x2.trans (congrArg some (by omega))
      · rw [getD_of ec]; exact (Option.some.inj hx).symm
    · rw [List.getElem?_set_ne hu] at hx
      exact (hs u x hx).imp id fun ⟨j, h1, h2⟩ => ⟨j, by omega, h2⟩
  · subst hz
    exact Ret.pure rfl

/-! ### plain: ways of two tries -/
theorem sset_of_sorted {l : List Sg} (h : l.Pairwise fun a b => ltS a b = true) : ssetL ltS l = l := by
  unfold ssetL
  have nd : l.Nodup := h.imp fun {a b} hab e => by rw [e, lo_S.irr] at hab; cases hab
  exact srt_of lo_S ((List.perm_ext_iff_of_nodup (uq_nodup l) nd).mpr fun a => mem_uq) (h.imp fun hab => lo_S.asym hab)
theorem srt_sset {l : List Sg} (h : l.Nodup) : srtL ltS l = ssetL ltS l := by
  unfold ssetL
  exact sorted_uniq lo_S (srt_perm.trans (((List.perm_ext_iff_of_nodup (uq_nodup l) h).mpr fun a => mem_uq).symm.trans srt_perm.symm)) (srt_sorted lo_S) (srt_sorted lo_S)
theorem sset_idem {l : List Sg} : ssetL ltS (ssetL ltS l) = ssetL ltS l := sset_of_sorted (sset_lt lo_S)
theorem WaysOk.sset {ws : List Sg} {c0 : Nat} (W : WaysOk ws c0) : WaysOk (ssetL ltS ws) c0 :=
  ⟨Nat.le_trans sset_len W.len, sset_mem.mpr W.root, fun w h => W.fst w (sset_mem.mp h), fun w h => W.low w (sset_mem.mp h), fun w h => W.most w (sset_mem.mp h), fun w h h1 => sset_mem.mpr (W.clo w (sset_mem.mp h) h1)⟩
theorem rk_sset {l : List Sg} {w : Sg} (h : w ∈ l) : rk ltS (ssetL ltS l) w = rk ltS l w :=
  rk_at lo_S (by rw [sset_idem]; exact rk_get lo_S h)
theorem WaysOk.both {ws vs : List Sg} {c0 : Nat} (W : WaysOk ws c0) (V : WaysOk vs c0) : WaysOk ((ssetL ltS ws).filter fun w => decide (w ∈ ssetL ltS vs)) c0 := by
  have mem : ∀ w, w ∈ ((ssetL ltS ws).filter fun w => decide (w ∈ ssetL ltS vs)) ↔ w ∈ ws ∧ w ∈ vs := fun w => by
    rw [List.mem_filter, sset_mem, decide_eq_true_iff, sset_mem]
  refine ⟨Nat.le_trans (List.length_filter_le _ _) W.sset.len, (mem _).mpr ⟨W.root, V.root⟩, fun w h => W.fst w ((mem w).mp h).1, fun w h => W.low w ((mem w).mp h).1, fun w h => W.most w ((mem w).mp h).1, fun w h h1 => (mem _).mpr ⟨W.clo w ((mem w).mp h).1 h1, V.clo w ((mem w).mp h).2 h1⟩⟩
theorem WaysOk.head {ws : List Sg} {d0 c0 : Nat} (W : WaysOk ws d0) (hc : 97 ≤ c0 ∧ c0 ≤ 122) : WaysOk (ws.map fun w => c0 :: w.drop 1) c0 := by
  refine ⟨by rw [List.length_map]; exact W.len, List.mem_map.mpr ⟨_, W.root, rfl⟩, fun w h => ?_, fun w h c hc2 => ?_, fun w h => ?_, fun w h h1 => ?_⟩ <;> obtain ⟨v, hv, rfl⟩ := List.mem_map.mp h
  · exact ⟨_, rfl⟩
  · rcases List.mem_cons.mp hc2 with e | e
    · rw [e]; exact hc
    · exact W.low v hv c (List.mem_of_mem_drop e)
  · have := W.most v hv
    obtain ⟨r, e⟩ := W.fst v hv
    subst e
    simp at *
    omega
  · obtain ⟨r, e⟩ := W.fst v hv
    subst e
    rw [List.drop_one, List.tail_cons] at h1 ⊢
    have hr : r ≠ [] := fun z => by subst z; simp at h1
    have hd := W.clo _ hv h1
    rw [List.dropLast_cons_of_ne_nil hr] at hd ⊢
    exact List.mem_map.mpr ⟨_, hd, rfl⟩
/-- what a dict's keys are -/
structure PI (c0 : Nat) (P : Sg → Prop) : Prop where
  root : P [c0]
  fst : ∀ w, P w → ∃ r, w = c0 :: r
  low : ∀ w, P w → ∀ c ∈ w, 97 ≤ c ∧ c ≤ 122
  most : ∀ w, P w → w.length ≤ 61
  clo : ∀ w, P w → 1 < w.length → P w.dropLast
def KI (c0 N : Nat) (d : Dc) : Prop := ∃ P, KeysOk P N d ∧ PI c0 P
theorem cut_ok {keys : List Sg} {c0 : Nat} (nd : keys.Nodup) (I : PI c0 (· ∈ keys)) : WaysOk ((srtL ltS keys).take 60) c0 := by
  rw [srt_sset nd]
  have tk : ∀ w, w ∈ (ssetL ltS keys).take 60 ↔ w ∈ keys ∧ rk ltS keys w < 60 := fun w => by
    constructor
    · intro h
      obtain ⟨i, hi⟩ := List.getElem?_of_mem h
      have hl := (List.getElem?_eq_some_iff.mp hi).1
      rw [List.length_take] at hl
      rw [List.getElem?_take_of_lt (by omega)] at hi
      exact ⟨sset_mem.mp (List.mem_of_getElem? hi), by rw [rk_at lo_S hi]; omega⟩
    · intro ⟨h, hr⟩
      have := rk_get lo_S h
      exact List.mem_of_getElem? (i := rk ltS keys w) (by rw [List.getElem?_take_of_lt hr]; exact this)
  have r0 : rk ltS keys [c0] = 0 := by
    unfold rk
    rw [List.length_eq_zero_iff, List.filter_eq_nil_iff]
    intro x hx
    obtain ⟨r, e⟩ := I.fst x (mem_uq.mp hx)
    rw [e, ltS_cons, ltS_nil2, decide_eq_false (by omega)]
    simp
  have ne : ∀ w, w ∈ keys → w ≠ [] := fun w h e => by
    obtain ⟨r, e2⟩ := I.fst w h
    rw [e2] at e; cases e
  have up : ∀ w, w ∈ keys → 1 < w.length → rk ltS keys w.dropLast < rk ltS keys w := fun w h h1 => (rk_lt lo_S (I.clo w h h1) h).mpr (lt_dropLast w (ne w h))
  have dp : ∀ (n : Nat) (w : Sg), w.length ≤ n → w ∈ keys → w.length ≤ rk ltS keys w + 1 := by
    intro n
    induction n with
    | zero => intro w h _; omega
    | succ n ih =>
      intro w h hk
      by_cases h1 : 1 < w.length
      · have a := up w hk h1
        have b := ih w.dropLast (by rw [List.length_dropLast]; omega) (I.clo w hk h1)
        rw [List.length_dropLast] at b
        omega
      · omega
  refine ⟨by rw [List.length_take]; omega, (tk _).mpr ⟨I.root, by omega⟩, fun w h => I.fst w ((tk w).mp h).1, fun w h => I.low w ((tk w).mp h).1, fun w h => ?_, fun w h h1 => ?_⟩
  · obtain ⟨h1, h2⟩ := (tk w).mp h
    have := dp _ w (Nat.le_refl _) h1
    omega
  · obtain ⟨h2, h3⟩ := (tk w).mp h
    exact (tk _).mpr ⟨I.clo w h2 h1, by have := up w h2 h1; omega⟩
theorem PI.more {c0 : Nat} {P : Sg → Prop} (I : PI c0 P) {t r : Sg} {j : Nat} (e : t = c0 :: r) (hl : t.length ≤ 61) (hw : ∀ c ∈ t, 97 ≤ c ∧ c ≤ 122) (hj : j < t.length) (hp : 0 < j → P (t.take j)) : PI c0 (fun w => P w ∨ w = t.take (j + 1)) := by
  refine ⟨.inl I.root, fun w h => ?_, fun w h => ?_, fun w h => ?_, fun w h h1 => ?_⟩ <;> rcases h with h | h
  · exact I.fst w h
  · rw [h, e]; exact ⟨_, rfl⟩
  · exact I.low w h
  · rw [h]; exact fun c hc => hw c (List.mem_of_mem_take hc)
  · exact I.most w h
  · rw [h, List.length_take]; omega
  · exact .inl (I.clo w h h1)
  · rw [h, List.length_take] at h1
    rw [h, List.dropLast_eq_take, List.length_take, List.take_take, Nat.min_eq_left (show min (j + 1) t.length - 1 ≤ j + 1 by omega), show min (j + 1) t.length - 1 = j by omega]
    exact .inl (hp (by omega))
theorem repSM_b (c : Nat) (b : Bool) : repSM [c] (b2 b) = some (if b = true then [c] else []) := by cases b <;> rfl
theorem abc_all : ∀ c ∈ ([97, 98, 99, 100, 101, 102, 103, 104, 105, 106, 107, 108, 109, 110, 111, 112, 113, 114, 115, 116, 117, 118, 119, 120, 121, 122] : Sg), 97 ≤ c ∧ c ≤ 122 := by decide
theorem part_ret {p : List Int} {ws : List Sg} {c0 : Nat} (hp : PoolOk p) (W : WaysOk ws c0) (h0 : ws[0]? = some [c0]) : Ret (m__law_part p ws 60) (fun r => WaysOk r.1 c0 ∧ PoolOk r.2) := by
  have hl := sset_len (lt := ltS) (xs := ws)
  have hw := W.len
  have hc0 : 97 ≤ c0 ∧ c0 ≤ 122 := W.low _ W.root c0 List.mem_cons_self
  unfold m__law_part
  refine Ret.eq (atI_of (Int.le_refl 0) h0) ?_
  have k0 : KeysOk (fun _ => False) 0 ([] : Dc) := ⟨List.nodup_nil, fun w => by simp, Nat.le_refl _⟩
  refine Ret.bind (dput_ret k0 (by omega)) fun d0 hd0 => ?_
  have kk0 : KI c0 1 d0 := ⟨fun w => w = [c0], hd0.congr (fun w => by simp) (Nat.le_refl _), ⟨rfl, fun w h => ⟨[], h⟩, fun w h c hc => by rw [h] at hc; rw [List.mem_singleton.mp hc]; exact hc0, fun w h => by rw [h]; simp, fun w h h1 => by rw [h] at h1; simp at h1⟩⟩
  refine ret_need (show ssetB 3999 ws = true from decide_eq_true (by omega)) ?_
  refine Ret.bind (ret_foldO (fun i s => PoolOk s.1 ∧ KI c0 (1 + 61 * i) s.2) ⟨hp, kk0⟩ fun i s w hx ⟨hp, hk⟩ => ?_) fun s ⟨hp, P, hk, I⟩ => ?_
  · have hi := (List.getElem?_eq_some_iff.mp hx).1
    have hm := sset_mem.mp (List.mem_of_getElem? hx)
    refine Ret.bind (take_ret hp (by decide) (by decide)) fun r1 ⟨h1, hp⟩ => ?_
    refine Ret.bind (take_ret hp (by decide) (by decide)) fun r2 ⟨h2, hp⟩ => ?_
    refine Ret.bind (ret_in h2.1 (by show _ < (26 : Int); exact h2.2)) fun c hc => ?_
    have hc := abc_all c hc
    refine Ret.eq (repSM_b _ _) ?_
    generalize et : w ++ (if decide (r1.1 = 0) = true then [c] else []) = t
    have lw := W.most w hm
    have lc : (if decide (r1.1 = 0) = true then [c] else []).length ≤ 1 := by split <;> simp
    have lt : t.length ≤ 61 := by rw [← et, List.length_append]; omega
    obtain ⟨r, er⟩ := W.fst w hm
    have ft : ∃ r, t = c0 :: r := ⟨r ++ (if decide (r1.1 = 0) = true then [c] else []), by rw [← et, er]; rfl⟩
    have wt : ∀ d ∈ t, 97 ≤ d ∧ d ≤ 122 := fun d hd => by
      rw [← et] at hd
      rcases List.mem_append.mp hd with h | h
      · exact W.low w hm d h
      · split at h
        · rw [List.mem_singleton.mp h]; exact hc
        · cases h
    refine Ret.eq (a := t) ((catM_of (by omega)).trans (congrArg some et)) ?_
    refine Ret.ite (fun _ => ?_) fun _ => Ret.pure ⟨hp, ?_⟩
    · refine Ret.eq (uptoM_of (by decide) (by decide) (by omega) (by omega)) ?_
      refine Ret.bind (ret_foldO (fun j d => ∃ P, KeysOk P (1 + 61 * i + j) d ∧ PI c0 P ∧ (0 < j → P (t.take j))) ?_ fun j d a ha ⟨P, hk, I, hj⟩ => ?_) fun d ⟨P, hk, I, _⟩ => Ret.pure ⟨hp, P, hk.congr (fun _ => Iff.rfl) ?_, I⟩
      · obtain ⟨P, hk, I⟩ := hk
        exact ⟨P, hk, I, fun h => by omega⟩
      · have ha := upto_get ha
        have hlt : j < t.length := by omega
        rw [cutL_to (by omega), show a.toNat = j + 1 by omega]
        refine Ret.bind (dput_ret hk (by omega)) fun d2 hd2 => Ret.pure ?_
        obtain ⟨r, er⟩ := ft
        exact ⟨_, hd2, I.more er lt wt hlt hj, fun _ => .inr rfl⟩
      · rw [upto_len]; omega
    · obtain ⟨P, hk, I⟩ := hk
      exact ⟨P, hk.congr (fun _ => Iff.rfl) (by omega), I⟩
  · refine ret_need ?_ (Ret.pure ⟨?_, hp⟩)
    · rw [List.all_eq_true]
      intro x hx
      have := I.most x.1 ((hk.2.1 x.1).mp (List.mem_map.mpr ⟨x, hx, rfl⟩))
      exact szB_of (by omega)
    · rw [cutL_to (by decide)]
      refine cut_ok hk.1 ?_
      have e : (fun w => w ∈ s.2.map Prod.fst) = P := funext fun w => propext (hk.2.1 w)
      rw [e]; exact I

theorem ways_0 {t : Tre} (T : TreeOk t) : (ways t)[0]? = some [t.2.getD 0 0] := by
  have hn := T.ups.pos
  have w0 : wy t 0 = [t.2.getD 0 0] := by unfold wy; rw [wd_root T.ups]; rfl
  unfold ways
  rw [List.getElem?_map, List.getElem?_range hn]
  exact congrArg some w0
theorem two_ret {p : List Int} (hp : PoolOk p) : Ret (m__law_two p 60) (fun r => (∃ c0, WaysOk r.1.1 c0 ∧ WaysOk r.1.2 c0) ∧ PoolOk r.2) := by
  unfold m__law_two
  refine Ret.bind (take_ret hp (by decide) (by decide)) fun r1 ⟨h1, hp⟩ => ?_
  refine Ret.bind (letters_ret hp) fun ls ⟨hl, hp⟩ => ?_
  refine Ret.bind (tree_ret hp (by decide) (by decide) hl) fun r ⟨T, hT⟩ => ?_
  have W := ways_ok T
  refine Ret.eq (law_ways_eq T) ?_
  refine Ret.bind (tree_ret hT.2 (by decide) (by decide) hl) fun r3 ⟨T3, hT3⟩ => ?_
  have W3 := ways_ok T3
  have l3 := W3.len
  have hc0 : 97 ≤ r.1.2.getD 0 0 ∧ r.1.2.getD 0 0 ≤ 122 := W.low _ W.root _ List.mem_cons_self
  refine Ret.eq (law_ways_eq T3) (ret_need (szB_of (by omega)) (Ret.eq (compS_map (fun w : Sg => r.1.2.getD 0 0 :: w.drop 1) fun w hw => ?_) ?_))
  · rw [atI_of (Int.le_refl 0) (ways_0 T), cutL_from (by decide)]
    have := W3.most w hw
    show (catM _ _).bind _ = _
    rw [catM_of (by simp; omega)]; rfl
  refine Ret.bind (P := fun s => WaysOk s.1 (r.1.2.getD 0 0) ∧ PoolOk s.2) (Ret.ite (fun _ => ?_) fun _ => Ret.pure ⟨W3.head hc0, hT3.2⟩) fun s ⟨hs, hp⟩ => ?_
  · exact Ret.bind (part_ret hT3.2 W (ways_0 T)) fun q ⟨h1, h2⟩ => Ret.pure ⟨h1, h2⟩
  · exact Ret.bind (P := fun s => WaysOk s (r.1.2.getD 0 0)) (Ret.ite (fun _ => Ret.pure W) fun _ => Ret.pure hs) fun s hs => Ret.pure ⟨⟨_, W, hs⟩, hp⟩
/-! ### plain: laid under -/
theorem trie_0 {ws : List Sg} {c0 : Nat} (W : WaysOk ws c0) : (trieL ws).2[0]? = some c0 := by
  have r0 : rk ltS ws [c0] = 0 := by
    unfold rk
    rw [List.length_eq_zero_iff, List.filter_eq_nil_iff]
    intro x hx
    obtain ⟨r, e⟩ := W.fst x (mem_uq.mp hx)
    rw [e, ltS_cons, ltS_nil2, decide_eq_false (by omega)]
    simp
  have g0 : (ssetL ltS ws)[0]? = some [c0] := by
    have := rk_get lo_S W.root
    rw [r0] at this; exact this
  unfold trieL
  rw [List.getElem?_map, g0]; rfl
theorem need_eq2 {ws vs : List Sg} {c0 : Nat} (W : WaysOk ws c0) (V : WaysOk vs c0) : m_need_tries (trieL ws) (trieL vs) = some () := by
  unfold m_need_tries
  refine Ret.val (P := fun _ => True) (Ret.eq (trie_is W) (Ret.bind (P := fun r => r = false) ?_ fun c hc => ?_)) fun _ _ => rfl
  · rw [if_neg (by decide)]
    refine Ret.eq (trie_is V) (Ret.bind (P := fun r => r = false) ?_ fun c hc => Ret.pure hc)
    rw [if_neg (by decide)]
    refine Ret.eq (atI_of (Int.le_refl 0) (trie_0 W)) (Ret.eq (atI_of (Int.le_refl 0) (trie_0 V)) (Ret.pure ?_))
    rw [decide_eq_true rfl]; rfl
  · subst hc
    rw [if_neg (by decide)]
    exact Ret.pure trivial
def rowsB (ws vs : List Sg) : List Sg := (ssetL ltS ws).filter fun w => decide (w ∈ ssetL ltS vs)
theorem rows_sorted (ws vs : List Sg) : ssetL ltS (rowsB ws vs) = rowsB ws vs := sset_of_sorted ((sset_lt lo_S).filter _)
theorem rows_mem {ws vs : List Sg} {w : Sg} (h : w ∈ rowsB ws vs) : w ∈ ws ∧ w ∈ vs := by
  unfold rowsB at h
  rw [List.mem_filter, sset_mem, decide_eq_true_iff, sset_mem] at h
  exact h
theorem down_eq {ws : List Sg} {c0 : Nat} (W : WaysOk ws c0) : m_ways_down (trieL ws) = some (ssetL ltS ws) := by
  rw [ways_eq (trie_ok W), ways_trie W]
theorem laid_by_eq {ws vs us : List Sg} {c0 : Nat} (W : WaysOk ws c0) (V : WaysOk vs c0) (U : WaysOk us c0) (h : ∀ w ∈ us, w ∈ ws ∧ w ∈ vs) : m_laid_by (trieL ws) (trieL vs) us = some (trieL us, (ssetL ltS us).map fun w => (some (rk ltS ws w : Int), some (rk ltS vs w : Int))) := by
  have l1 := W.sset.len
  have l2 := V.sset.len
  have l3 := U.sset.len
  unfold m_laid_by
  refine Ret.val (P := fun r => r = (trieL us, (ssetL ltS us).map fun w => (some (rk ltS ws w : Int), some (rk ltS vs w : Int)))) (Ret.eq (down_eq W) (Ret.eq (places_eq _ (by omega)) (Ret.eq (down_eq V) (Ret.eq (places_eq _ (by omega)) (Ret.eq (trie_by_eq U) (Ret.eq (down_eq U) (ret_need (szB_of (by omega)) (Ret.eq (compS_map (fun w => (some (rk ltS ws w : Int), some (rk ltS vs w : Int))) fun w hw => ?_) (Ret.pure rfl))))))))) fun _ e => e
  have := h w (sset_mem.mp hw)
  rw [lkp_in this.1, lkp_in this.2]
theorem under_eq {ws vs : List Sg} {c0 : Nat} (W : WaysOk ws c0) (V : WaysOk vs c0) : m_laid_under (trieL ws) (trieL vs) = some (trieL (rowsB ws vs), (rowsB ws vs).map fun w => (some (rk ltS ws w : Int), some (rk ltS vs w : Int))) := by
  have l1 := W.sset.len
  unfold m_laid_under
  refine Ret.val (P := fun r => r = (trieL (rowsB ws vs), (rowsB ws vs).map fun w => (some (rk ltS ws w : Int), some (rk ltS vs w : Int)))) (Ret.eq (need_eq2 W V) (Ret.eq (down_eq V) (Ret.eq (down_eq W) (ret_need (szB_of (by omega)) (Ret.eq (compS_fil (fun w => decide (w ∈ ssetL ltS vs)) fun w hw => ?_) (Ret.eq (a := (trieL (rowsB ws vs), (rowsB ws vs).map fun w => (some (rk ltS ws w : Int), some (rk ltS vs w : Int)))) ?_ (Ret.pure rfl))))))) fun _ e => e
  · have e : eqB (dS.d w) (.list ((ssetL ltS vs).map dS.d)) = true := eqB_of (sk_txt (W.low w (sset_mem.mp hw))) (sk_list (sks_all fun d hd => by
      obtain ⟨x, hx, rfl⟩ := List.mem_map.mp hd
      exact sk_txt (V.low x (sset_mem.mp hx)))) (by decide) (by decide)
    rw [need_eq e]; rfl
  · have := laid_by_eq W V (W.both V) fun w hw => rows_mem hw
    rw [show ((ssetL ltS ws).filter fun w => decide (w ∈ ssetL ltS vs)) = rowsB ws vs from rfl, rows_sorted] at this
    exact this
theorem laid_repr {t : Tre} (T : TreeOk t) {ns : List (Int × Int)} (h : ns.length ≤ 60) (hb : ∀ x ∈ ns, x.1.natAbs < 2 ^ 60 ∧ x.2.natAbs < 2 ^ 60) : ∃ s, reprM ((dP2 (dP2 (dT dI) dS) (dL (dP2 dI dI))).d (t, ns)) = some s := by
  have hm := T.most
  have hl := T.len
  have h1 := rks_all (e := 0) (B := 61) (ds := t.1.map dI.d) fun d hd => by
    obtain ⟨x, hx, rfl⟩ := List.mem_map.mp hd
    obtain ⟨k, hk⟩ := List.getElem?_of_mem hx
    have hk2 := (List.getElem?_eq_some_iff.mp hk).1
    have hb := up_bd T hk
    exact rk_int (k := 60) (by decide) (Nat.lt_of_lt_of_le (show x.natAbs < 61 by omega) (by decide)) (by decide)
  have h2 : Rk 1 (60 * 63 + 3) (.tuple (t.1.map dI.d)) := (rk_tup h1).mono (Nat.le_refl _) (by rw [List.length_map]; omega)
  have h3 : Rk 0 602 (dS.d t.2) := rk_str (n := 60) (fun c hc => by have := T.low c hc; omega) (by omega)
  have h4 : Rk 2 100000 ((dP2 (dT dI) dS).d t) := (rk_tup (rks_cons h2 (rks_cons (h3.mono (e' := 1) (by omega) (Nat.le_refl _)) rks_nil))).mono (Nat.le_refl _) (by decide)
  have h5 := rks_all (e := 1) (B := 1000) (ds := ns.map (dP2 dI dI).d) fun d hd => by
    obtain ⟨x, hx, rfl⟩ := List.mem_map.mp hd
    have hb := hb x hx
    have a1 : Rk 0 61 (dI.d x.1) := rk_int (k := 60) (by decide) hb.1 (by decide)
    have a2 : Rk 0 61 (dI.d x.2) := rk_int (k := 60) (by decide) hb.2 (by decide)
    exact (rk_tup (rks_cons a1 (rks_cons a2 rks_nil))).mono (Nat.le_refl _) (by decide)
  have h6 : Rk 2 100000 ((dL (dP2 dI dI)).d ns) := (show Rk 2 _ (.list (ns.map (dP2 dI dI).d)) from rk_list h5).mono (by omega) (by rw [List.length_map]; omega)
  exact ⟨_, reprM_of (e := 3) (B := 300000) ((rk_tup (rks_cons h4 (rks_cons h6 rks_nil))).mono (Nat.le_refl _) (by decide)) (by decide) (by decide)⟩
theorem right_eq {ws vs : List Sg} {c0 : Nat} (W : WaysOk ws c0) (V : WaysOk vs c0) : m__law_right ws vs = some true := by
  have hw := W.len
  have hv := V.len
  have lw := W.sset.len
  have R : WaysOk (rowsB ws vs) c0 := W.both V
  have lr := R.len
  have T2 := trie_ok R
  have eqi : ∀ {us xs : List Sg}, WaysOk us c0 → WaysOk xs c0 → ∀ w ∈ us, eqB (dS.d w) (.list ((ssetL ltS xs).map dS.d)) = true := fun hu hx w h => eqB_of (sk_txt (hu.low w h)) (sk_list (sks_all fun d hd => by
      obtain ⟨x, h2, rfl⟩ := List.mem_map.mp hd
      exact sk_txt (hx.low x (sset_mem.mp h2)))) (by decide) (by decide)
  obtain ⟨s, hs⟩ := laid_repr T2 (ns := (rowsB ws vs).map fun w => ((rk ltS ws w : Int), (rk ltS vs w : Int))) (by rw [List.length_map]; exact lr) (fun x hx => by
    obtain ⟨w, hw2, rfl⟩ := List.mem_map.mp hx
    obtain ⟨m1, m2⟩ := rows_mem hw2
    have := rk_len lo_S m1
    have := rk_len lo_S m2
    rw [Int.natAbs_natCast, Int.natAbs_natCast]
    exact ⟨Nat.lt_of_lt_of_le (show _ < 61 by omega) (by decide), Nat.lt_of_lt_of_le (show _ < 61 by omega) (by decide)⟩)
  have er : rowsB (ssetL ltS ws) (ssetL ltS vs) = rowsB ws vs := by unfold rowsB; rw [sset_idem, sset_idem]
  have un := under_eq W.sset V.sset
  rw [er] at un
  have es : ((rowsB ws vs).map fun w => ((some (rk ltS (ssetL ltS ws) w : Int) : Option Int), (some (rk ltS (ssetL ltS vs) w : Int) : Option Int))) = (rowsB ws vs).map fun w => ((some (rk ltS ws w : Int) : Option Int), (some (rk ltS vs w : Int) : Option Int)) := by
    refine List.map_congr_left fun w h => ?_
    obtain ⟨m1, m2⟩ := rows_mem h
    rw [rk_sset m1, rk_sset m2]
  rw [es] at un
  unfold m__law_right
  refine Ret.val (P := fun r => r = true) (ret_need (show ssetB 3999 _ = true from decide_eq_true (by omega)) (ret_need (show ssetB 3999 _ = true from decide_eq_true (by omega)) (ret_need (szB_of (by omega)) (Ret.eq (compS_fil (fun w => decide (w ∈ ssetL ltS vs)) fun w hw => ?_) (ret_need (szB_of (show (rowsB ws vs).length ≤ _ by omega)) (Ret.eq (compS_map (fun w => ((rk ltS ws w : Int), (rk ltS vs w : Int))) fun w hw => ?_) (Ret.eq (law_trie_eq R) (Ret.eq (uptoM_of (by decide) (by decide) (by decide) (by decide)) (Ret.bind (ret_foldR (fun _ _ => True) trivial fun i s' k hk _ => ?_) fun z ⟨s', hz, _⟩ => ?_))))))))) fun _ e => e
  · rw [need_eq (eqi W V w (sset_mem.mp hw))]; rfl
  · obtain ⟨m1, m2⟩ := rows_mem (show w ∈ rowsB ws vs from hw)
    rw [need_eq (eqi W W w m1), need_eq (eqi W V w m1)]
    show (idxM _ _).bind _ = _
    rw [idx_rk lo_S m1]
    show (idxM _ _).bind _ = _
    rw [idx_rk lo_S m2]; rfl
  · refine Ret.eq (law_trie_eq W.sset) (Ret.eq (law_trie_eq V.sset) (Ret.eq un (Ret.eq (a := s) ?_ (Ret.eq hs ?_))))
    · rw [← hs]
      refine congrArg reprM ?_
      show PyData.tuple [_, PyData.list _] = PyData.tuple [_, PyData.list _]
      refine congrArg (fun x => PyData.tuple [_, PyData.list x]) ?_
      rw [List.map_map, List.map_map]
      rfl
    · rw [if_neg (by rw [decide_eq_true rfl]; decide)]
      obtain ⟨x, hx⟩ : ∃ x, popM ((rowsB ws vs).map fun w => ((some (rk ltS ws w : Int) : Option Int), (some (rk ltS vs w : Int) : Option Int))) = some x := by
        have h1 : 0 < (rowsB ws vs).length := List.length_pos_of_mem R.root
        unfold popM
        rw [List.getElem?_eq_getElem (by rw [List.length_map]; omega)]
        exact ⟨_, rfl⟩
      exact Ret.eq hx (Ret.pure ⟨(), rfl, trivial⟩)
  · subst hz
    exact Ret.pure rfl
/-! ### plain: the law -/
theorem plain (ns : List Int) (h : ns.length ≤ 63) : m_law ns = some true := by
  unfold m_law
  have hb : -(2 ^ 62) ≤ mx 1 (mn 10 (ns.length : Int)) ∧ mx 1 (mn 10 (ns.length : Int)) < 2 ^ 62 := by
    rw [mx_eq, mn_eq]; omega
  refine Ret.val (P := fun b => b = true) ?_ fun _ e => e
  refine Ret.eq (uptoM_of (by decide) (by decide) hb.1 hb.2) ?_
  refine Ret.bind (ret_foldR (fun _ _ => True) trivial fun i s a ha _ => ?_) fun z ⟨s', hz, _⟩ => ?_
  · have ha := upto_get ha
    refine Ret.bind (pool_ret ns (by omega)) fun p hp => ?_
    refine Ret.bind (two_ret hp) fun r ⟨⟨c0, W, V⟩, _⟩ => ?_
    refine Ret.eq (right_eq W V) ?_
    refine Ret.bind (P := fun b => b = false) ?_ fun b hb => ?_
    · rw [if_neg (by decide)]
      exact Ret.eq (right_eq V W) (Ret.pure rfl)
    · subst hb
      rw [if_neg (by decide)]
      exact Ret.pure ⟨(), rfl, trivial⟩
  · subst hz
    exact Ret.pure rfl

end G
open PySem PySem.W PySem.Calls PyProof.Rows
section
theorem G.holds (plain : ∀ ns : List Int, ns.length ≤ 63 → G.m_law ns = some true) : PySem.Challenge.rw_upwords_k57_laid_under_told.Holds := by
  w_on; o_law
  refine HandSHeadRun.head_any (r := OpenLaw.row PySem.Challenge.rw_upwords_k57_laid_under_told) (q := view (OpenLaw.row PySem.Challenge.rw_upwords_k57_laid_under_told).prog [32]) (H := G.hk) (ob := G.ob) (M := 4000) (loose := G.loose) (d := HandSHeadRun.topDef (OpenLaw.row PySem.Challenge.rw_upwords_k57_laid_under_told).prog 32) (kwd := []) G.ob_eq
    (by kernel_rfl) (fun s => by kernel_rfl) G.run (by kernel_rfl) (by kernel_rfl) (by kernel_rfl) (by rfl) (by first | assumption | decide +kernel) (by decide +kernel) ⟨rfl, rfl, rfl, rfl, rfl, by decide +kernel⟩ ?hw ?hc
  case hw => w_witness2
  case hc =>
    refine U.walkG (l := PySem.Challenge.rw_upwords_k57_laid_under_told) (n := 63) (k := 8) (x := "script") rfl (by decide) (by kernel_rfl) ⟨rfl, by decide, by decide⟩ ?F
    intro w mg fa h Y Gm hmg0
    obtain ⟨K, KX, c⟩ := Y
    have hmg : mg ("law" : PySem.Str) = some (.ref fa) := by
      have e : (HandSHeadRun.topDef (OpenLaw.row PySem.Challenge.rw_upwords_k57_laid_under_told).prog 32).name = ("law" : PySem.Str) := by kernel_rfl
      rw [← e]
      exact hmg0
    obtain ⟨fd, hb, hF⟩ := G.facts (P := (PySem.Challenge.rw_upwords_k57_laid_under_told).prog) (w := w) KX Gm hmg c
    exact ⟨K, fd, G.sp_law K, KX, hb, fun H a ns hl hS => ⟨H, _, ns, true, rfl, fun _ _ e => e, ⟨a, rfl, hS⟩, plain ns hl, fun v _ _ _ e => e⟩, hF⟩
end

set_option maxRecDepth 100000 in
set_option maxHeartbeats 0 in
theorem PySem.Challenge.cw_upwords_k57_laid_under_told_holds : PySem.Challenge.rw_upwords_k57_laid_under_told.Holds :=
  G.holds G.plain
#print axioms PySem.Challenge.cw_upwords_k57_laid_under_told_holds
