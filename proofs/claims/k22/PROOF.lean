import PyProof.Rows.All
import Wide.All
import OpenK.AllK
import Wide.FinOn
import HandS.ForMost
import HandS.Walk
import HandS.TupAny
import HandS.Defaults
import HandS.WordsList
import HandS.IsInst
import HandS.HeadEnd
import KE.GoesEnum
import KE.GoesMore
import KE.SortData
import HandS.TupSets
import HandS.Dict
import KE.KDictPairs
import HandS.Deep
import HandS.Steps
import KE.DataCmp
import HandS.Style
import HandS.Conv
import HandS.WordsDict
import KE.KDictSum
import KE.KDictZip
import HandS.ListItems
import KE.DataMinMax
import HandS.DictEq
import HandS.Wide
import PyProof.Rows.RowBridgeK
import HandS.HeadHook2
import HandS.Head2
import PySem.Challenge.RW_upwords_k22_letters_ahead_and_behind
set_option Elab.async false
set_option linter.all false
set_option maxRecDepth 100000
set_option maxHeartbeats 4000000
namespace U
open PySem PySem.Spec L2

/-! ### heaps: F the part that never changes any more, H all that is tracked -/
def Sub (F H : Hp) : Prop := ∀ a o, F a = some o → H a = some o
theorem Sub.refl (F : Hp) : Sub F F := fun _ _ h => h
theorem Sub.trans {F G H : Hp} (a : Sub F G) (b : Sub G H) : Sub F H := fun x o h => b x o (a x o h)
theorem Sub.nn {F H : Hp} {p : Addr} (s : Sub F H) (h : H p = none) : F p = none := by
  cases e : F p with
  | none => rfl
  | some o => rw [s p o e] at h; cases h
theorem Sub.up1 {F : Hp} {p : Addr} {o : HO} (h : F p = none) : Sub F (upd F p o) := fun a u e => by
  rw [upd_ne (ne_of_none e h)]; exact e
theorem Sub.upd2 {F H : Hp} {p : Addr} {o : HO} (s : Sub F H) : Sub (L2.upd F p o) (L2.upd H p o) := fun a u e => by
  by_cases ha : a = p
  · subst ha; rw [upd_same] at e ⊢; exact e
  · rw [upd_ne ha] at e ⊢; exact s a u e
theorem Sub.rd {F H : Hp} {a : Addr} {u : HO} (s : Sub F H) (h : Rd F a u) : Rd H a u := by
  rcases h with h | ⟨o, h⟩
  · exact .inl (s a _ h)
  · exact .inr ⟨o, s a _ h⟩
theorem Sub.l {K : PySem.W.Frag} {F H : Hp} {a : Addr} {xs : List V} (s : Sub F H) (h : SqL K F a xs) : SqL K H a xs := by
  rcases h with h | h
  · exact .inl (s.rd h)
  · exact .inr h
theorem Sub.t {K : PySem.W.Frag} {F H : Hp} {a : Addr} {xs : List V} (s : Sub F H) (h : SqT K F a xs) : SqT K H a xs := by
  rcases h with h | h
  · exact .inl (s.rd h)
  · exact .inr h

/-- what may change between two points: W the addresses that may be written -/
structure Gr (W : List Addr) (F0 H0 F H : Hp) : Prop where
  ff : Sub F0 F
  fh : Sub F H
  hh : ∀ a o, a ∉ W → H0 a = some o → H a = some o
  lv : ∀ a, H0 a ≠ none → H a ≠ none
  out : ∀ a, H0 a ≠ none → F0 a = none → F a = none
section
variable {W W' : List Addr} {F0 H0 F H F1 H1 F2 H2 : Hp} {p q : Addr} {o u : HO}
theorem Gr.refl (h : Sub F H) : Gr W F H F H := ⟨Sub.refl F, h, fun _ _ _ e => e, fun _ e => e, fun _ _ e => e⟩
theorem Gr.trans (g : Gr W F0 H0 F1 H1) (g' : Gr W' F1 H1 F2 H2) (hW : ∀ a ∈ W', H0 a = none ∨ a ∈ W) : Gr W F0 H0 F2 H2 where
  ff := g.ff.trans g'.ff
  fh := g'.fh
  hh := fun a o hn e => g'.hh a o (fun z => (hW a z).elim (fun n => by rw [n] at e; cases e) hn) (g.hh a o hn e)
  lv := fun a e => g'.lv a (g.lv a e)
  out := fun a e n => g'.out a (g.lv a e) (g.out a e n)
theorem Gr.trans0 (g : Gr W F0 H0 F1 H1) (g' : Gr [] F1 H1 F2 H2) : Gr W F0 H0 F2 H2 := g.trans g' fun a z => absurd z (by simp)
theorem Gr.newF (g : Gr W F0 H0 F H) (hp : H p = none) : Gr W F0 H0 (upd F p o) (upd H p o) where
  ff := g.ff.trans (Sub.up1 (g.fh.nn hp))
  fh := g.fh.upd2
  hh := fun a u hn e => by
    have e1 := g.hh a u hn e
    rw [upd_ne (ne_of_none e1 hp)]; exact e1
  lv := fun a e => by
    have e1 := g.lv a e
    rw [upd_ne (fun z => by rw [z] at e1; exact e1 hp)]; exact e1
  out := fun a e n => by
    have e1 := g.lv a e
    rw [upd_ne (fun z => by rw [z] at e1; exact e1 hp)]; exact g.out a e n
theorem Gr.newM (g : Gr W F0 H0 F H) (hp : H p = none) : Gr W F0 H0 F (upd H p o) where
  ff := g.ff
  fh := g.fh.trans (Sub.up1 hp)
  hh := fun a u hn e => by
    have e1 := g.hh a u hn e
    rw [upd_ne (ne_of_none e1 hp)]; exact e1
  lv := fun a e => by
    have e1 := g.lv a e
    rw [upd_ne (fun z => by rw [z] at e1; exact e1 hp)]; exact e1
  out := g.out
theorem Gr.mut (g : Gr W F0 H0 F H) (hf : F p = none) (hw : H0 p = none ∨ p ∈ W) : Gr W F0 H0 F (upd H p o) where
  ff := g.ff
  fh := fun a u e => by rw [upd_ne (ne_of_none e hf)]; exact g.fh a u e
  hh := fun a u hn e => by
    have hne : a ≠ p := fun z => by
      subst z
      rcases hw with w | w
      · rw [w] at e; cases e
      · exact hn w
    rw [upd_ne hne]; exact g.hh a u hn e
  lv := fun a e => by
    by_cases z : a = p
    · subst z; rw [upd_same]; intro h; cases h
    · rw [upd_ne z]; exact g.lv a e
  out := g.out
theorem Gr.frz (g : Gr W F0 H0 F H) (hf : F p = none) (hh : H p = some o) (h0 : H0 p = none) : Gr W F0 H0 (upd F p o) H where
  ff := g.ff.trans (Sub.up1 hf)
  fh := fun a u e => by
    by_cases z : a = p
    · subst z; rw [upd_same] at e; cases e; exact hh
    · rw [upd_ne z] at e; exact g.fh a u e
  hh := g.hh
  lv := g.lv
  out := fun a e n => by
    rw [upd_ne (fun z => by rw [z] at e; exact e h0)]; exact g.out a e n
/-- an object of the def's own that may still change -/
structure Mu (W : List Addr) (H0 F H : Hp) (p : Addr) (o : HO) : Prop where
  fr : F p = none
  hp : H p = some o
  own : H0 p = none ∨ p ∈ W
theorem Mu.newF (m : Mu W H0 F H q u) (hp : H p = none) : Mu W H0 (upd F p o) (upd H p o) q u := by
  have ne := ne_of_none m.hp hp
  exact ⟨by rw [upd_ne ne]; exact m.fr, by rw [upd_ne ne]; exact m.hp, m.own⟩
theorem Mu.newM (m : Mu W H0 F H q u) (hp : H p = none) : Mu W H0 F (upd H p o) q u := by
  have ne := ne_of_none m.hp hp
  exact ⟨m.fr, by rw [upd_ne ne]; exact m.hp, m.own⟩
theorem Mu.mut (m : Mu W H0 F H q u) (ne : q ≠ p) : Mu W H0 F (upd H p o) q u := ⟨m.fr, by rw [upd_ne ne]; exact m.hp, m.own⟩
theorem Mu.self (m : Mu W H0 F H p u) : Mu W H0 F (upd H p o) p o := ⟨m.fr, upd_same, m.own⟩
theorem Mu.frz (m : Mu W H0 F H q u) (ne : q ≠ p) : Mu W H0 (upd F p o) H q u := ⟨by rw [upd_ne ne]; exact m.fr, m.hp, m.own⟩
theorem Mu.call (m : Mu W H0 F H q u) (g : Gr W' F H F1 H1) (hq : q ∉ W') : Mu W H0 F1 H1 q u :=
  ⟨g.out q (by rw [m.hp]; exact fun z => nomatch z) m.fr, g.hh q u hq m.hp, m.own⟩
theorem Mu.call0 (m : Mu W H0 F H q u) (g : Gr [] F H F1 H1) : Mu W H0 F1 H1 q u := m.call g (by simp)
theorem Mu.back (m : Mu W H0 F H q u) (g : Gr W' F H F1 H1) (h : H1 q = some o) : Mu W H0 F1 H1 q o :=
  ⟨g.out q (by rw [m.hp]; exact fun z => nomatch z) m.fr, h, m.own⟩
/-- a new one -/
theorem Mu.new (g : Gr W F0 H0 F H) (hp : H p = none) : Mu W H0 F (upd H p o) p o := by
  refine ⟨g.fh.nn hp, upd_same, .inl ?_⟩
  cases e : H0 p with
  | none => rfl
  | some x => exact absurd hp (g.lv p (by rw [e]; exact fun z => nomatch z))
theorem Gr.old (g : Gr W F0 H0 F H) (hp : H p = none) : H0 p = none := by
  cases e : H0 p with
  | none => rfl
  | some x => exact absurd hp (g.lv p (by rw [e]; exact fun z => nomatch z))
theorem Mu.gr (m : Mu W H0 F H p u) (g : Gr W F0 H0 F H) : Gr W F0 H0 F (upd H p o) := g.mut m.fr m.own
theorem Mu.ne (m : Mu W H0 F H p u) (hq : H q = none) : p ≠ q := ne_of_none m.hp hq
theorem Mu.l {K : PySem.W.Frag} {vs : List V} (m : Mu W H0 F H p (.lst vs)) : SqL K H p vs := .inl (.inl m.hp)
end

/-! ### what a value stands for -/
structure Rp (α : Type) where
  r : Hp → V → α → Prop
  mono : ∀ {F F' : Hp} {v : V} {x : α}, Sub F F' → r F v x → r F' v x
abbrev Sg := List Nat
abbrev S (l : Sg) : Str := ⟨l.toArray⟩
def eI : Rp Int := ⟨fun _ v x => v = .int x, fun _ h => h⟩
def eB : Rp Bool := ⟨fun _ v x => v = .bl x, fun _ h => h⟩
def eN : Rp Unit := ⟨fun _ v _ => v = .non, fun _ h => h⟩
def eS : Rp Sg := ⟨fun _ v x => v = .str (S x) ∧ x.length ≤ sizeLine, fun _ h => h⟩
def eO {α : Type} (t : Rp α) : Rp (Option α) := ⟨fun F v x => match x with
  | none => v = .non
  | some a => v ≠ .non ∧ t.r F v a, fun {F F' v x} s h => by
    cases x with
    | none => exact h
    | some a => exact ⟨h.1, t.mono s h.2⟩⟩
abbrev Al {α : Type} (t : Rp α) (F : Hp) (vs : List V) (xs : List α) : Prop := Paired (fun v x => t.r F v x) vs xs
theorem Al.mono {α : Type} {t : Rp α} {F F' : Hp} {vs : List V} {xs : List α} (h : Al t F vs xs) (s : Sub F F') : Al t F' vs xs := Paired.mapP h fun _ _ z => t.mono s z
def eP2 {α β : Type} (a : Rp α) (b : Rp β) : Rp (α × β) := ⟨fun F v x => ∃ p y z, v = .ref p ∧ F p = some (.tup [y, z]) ∧ a.r F y x.1 ∧ b.r F z x.2,
  fun s ⟨p, y, z, e, q, h1, h2⟩ => ⟨p, y, z, e, s _ _ q, a.mono s h1, b.mono s h2⟩⟩
def eP3 {α β γ : Type} (a : Rp α) (b : Rp β) (c : Rp γ) : Rp (α × β × γ) := ⟨fun F v x => ∃ p y z w, v = .ref p ∧ F p = some (.tup [y, z, w]) ∧ a.r F y x.1 ∧ b.r F z x.2.1 ∧ c.r F w x.2.2,
  fun s ⟨p, y, z, w, e, q, h1, h2, h3⟩ => ⟨p, y, z, w, e, s _ _ q, a.mono s h1, b.mono s h2, c.mono s h3⟩⟩
def eL {α : Type} (t : Rp α) : Rp (List α) := ⟨fun F v x => ∃ p vs, v = .ref p ∧ F p = some (.lst vs) ∧ Al t F vs x,
  fun s ⟨p, vs, e, q, h⟩ => ⟨p, vs, e, s _ _ q, h.mono s⟩⟩
def eT {α : Type} (t : Rp α) : Rp (List α) := ⟨fun F v x => ∃ p vs, v = .ref p ∧ F p = some (.tup vs) ∧ Al t F vs x,
  fun s ⟨p, vs, e, q, h⟩ => ⟨p, vs, e, s _ _ q, h.mono s⟩⟩
/-- the script: a list of ints, perhaps locked -/
def eQ (K : PySem.W.Frag) : Rp (List Int) := ⟨fun F v x => ∃ p, v = .ref p ∧ SqL K F p (x.map V.int), fun s ⟨p, e, q⟩ => ⟨p, e, s.l q⟩⟩
/-- a new list that is the taker's own -/
def New {α : Type} (t : Rp α) (H F' H' : Hp) (v : V) (x : List α) : Prop := ∃ p vs, v = .ref p ∧ H p = none ∧ F' p = none ∧ H' p = some (.lst vs) ∧ Al t F' vs x

/-! ### lists in step -/
section
variable {α β : Type} {R : α → β → Prop}
theorem pd_get : ∀ {xs : List α} {ys : List β} {i : Nat} {y : β}, Paired R xs ys → ys[i]? = some y → ∃ x, xs[i]? = some x ∧ R x y
  | _, _, _, _, .nil, h => by simp at h
  | _, _, 0, _, .cons r _, h => by simp at h; subst h; exact ⟨_, rfl, r⟩
  | _, _, i + 1, _, .cons _ t, h => by
    obtain ⟨x, e, r⟩ := pd_get (i := i) t (by simpa using h)
    exact ⟨x, by simpa using e, r⟩
theorem pd_getL : ∀ {xs : List α} {ys : List β} {i : Nat} {x : α}, Paired R xs ys → xs[i]? = some x → ∃ y, ys[i]? = some y ∧ R x y
  | _, _, _, _, .nil, h => by simp at h
  | _, _, 0, _, .cons r _, h => by simp at h; subst h; exact ⟨_, rfl, r⟩
  | _, _, i + 1, _, .cons _ t, h => by
    obtain ⟨x, e, r⟩ := pd_getL (i := i) t (by simpa using h)
    exact ⟨x, by simpa using e, r⟩
theorem pd_append : ∀ {xs xs' : List α} {ys ys' : List β}, Paired R xs ys → Paired R xs' ys' → Paired R (xs ++ xs') (ys ++ ys')
  | _, _, _, _, .nil, h => h
  | _, _, _, _, .cons r t, h => .cons r (pd_append t h)
theorem pd_snoc {xs : List α} {ys : List β} {x : α} {y : β} (h : Paired R xs ys) (r : R x y) : Paired R (xs ++ [x]) (ys ++ [y]) := pd_append h (.cons r .nil)
theorem pd_take : ∀ {xs : List α} {ys : List β} (n : Nat), Paired R xs ys → Paired R (xs.take n) (ys.take n)
  | _, _, 0, _ => .nil
  | _, _, _ + 1, .nil => .nil
  | _, _, n + 1, .cons r t => .cons r (pd_take n t)
theorem pd_drop : ∀ {xs : List α} {ys : List β} (n : Nat), Paired R xs ys → Paired R (xs.drop n) (ys.drop n)
  | _, _, 0, h => h
  | _, _, _ + 1, .nil => .nil
  | _, _, n + 1, .cons _ t => pd_drop n t
theorem pd_set : ∀ {xs : List α} {ys : List β} (n : Nat) {x : α} {y : β}, Paired R xs ys → R x y → Paired R (xs.set n x) (ys.set n y)
  | _, _, _, _, _, .nil, _ => .nil
  | _, _, 0, _, _, .cons _ t, h => .cons h t
  | _, _, n + 1, _, _, .cons r t, h => .cons r (pd_set n t h)
theorem pd_rev : ∀ {xs : List α} {ys : List β}, Paired R xs ys → Paired R xs.reverse ys.reverse
  | _, _, .nil => .nil
  | _, _, .cons r t => by
    rw [List.reverse_cons, List.reverse_cons]
    exact pd_snoc (pd_rev t) r
theorem pd_last : ∀ {xs : List α} {ys : List β}, Paired R xs ys → Paired R xs.dropLast ys.dropLast := fun {xs ys} h => by
  rw [List.dropLast_eq_take, List.dropLast_eq_take, Paired.length h]
  exact pd_take _ h
end
theorem al_int {F : Hp} : ∀ {vs : List V} {xs : List Int}, Al eI F vs xs → vs = xs.map V.int
  | _, _, .nil => rfl
  | _, _, .cons r t => by
    have e : _ = V.int _ := r
    rw [e, al_int t]; rfl
theorem al_ofint {F : Hp} : ∀ (xs : List Int), Al eI F (xs.map V.int) xs
  | [] => .nil
  | _ :: r => .cons rfl (al_ofint r)
theorem al_bl {F : Hp} : ∀ {vs : List V} {xs : List Bool}, Al eB F vs xs → vs = xs.map V.bl
  | _, _, .nil => rfl
  | _, _, .cons r t => by
    have e : _ = V.bl _ := r
    rw [e, al_bl t]; rfl
theorem al_str {F : Hp} : ∀ {vs : List V} {xs : List Sg}, Al eS F vs xs → vs = (xs.map S).map V.str
  | _, _, .nil => rfl
  | _, _, .cons r t => by
    have e : _ = V.str _ := r.1
    rw [e, al_str t]; rfl
theorem al_len {α : Type} {t : Rp α} {F : Hp} {vs : List V} {xs : List α} (h : Al t F vs xs) : vs.length = xs.length := Paired.length h
theorem al_at {α : Type} {t : Rp α} {F : Hp} {vs : List V} {xs : List α} {i : Int} {a : α} (h : Al t F vs xs) (e : atI xs i = some a) : ∃ v, atI vs i = some v ∧ t.r F v a := by
  unfold atI at e ⊢
  rw [al_len h]
  cases q : ixN xs.length i with
  | none => rw [q] at e; cases e
  | some j =>
    rw [q] at e
    exact pd_get h e

/-! ### the mirror's words -/
section
variable {α β σ ρ : Type}
theorem bnd {x : Option α} {f : α → Option β} {b : β} (h : x.bind f = some b) : ∃ a, x = some a ∧ f a = some b := Option.bind_eq_some_iff.mp h
def cutL (xs : List α) (lo hi : Option Int) : List α := (xs.drop (HT.sIx xs.length 0 lo)).take (HT.sIx xs.length xs.length hi - HT.sIx xs.length 0 lo)
/-- a condition of the model's limits -/
def need (c : Bool) (x : α) : Option α := if c then some x else none
theorem need_ok {c : Bool} {x a : α} (h : need c x = some a) : c = true ∧ x = a := by
  unfold need at h
  cases c with
  | true => exact ⟨rfl, Option.some.inj h⟩
  | false => cases h
def szB (n : Nat) : Bool := decide (n ≤ 16777216)
theorem sz_ok {n : Nat} (h : szB n = true) : n ≤ sizeLine := by rw [sizeLine_eq]; exact of_decide_eq_true h
def catM (a b : Sg) : Option Sg := need (szB (a.length + b.length)) (a ++ b)
def mulB (i j : Int) : Bool := decide (-(2 ^ 64) < i ∧ i < 2 ^ 64) || decide (-(2 ^ 64) < j ∧ j < 2 ^ 64)
def mulM (i j : Int) : Option Int := need (mulB i j) (i * j)
def modM (i j : Int) : Option Int := need (decide (0 < j)) (i % j)
def divM (i j : Int) : Option Int := need (decide (0 < j ∧ j < 1073741824)) (i / j)
def b2 (b : Bool) : Int := if b then 1 else 0
def mx (i j : Int) : Int := if j > i then j else i
def mn (i j : Int) : Int := if j < i then j else i
def setM (xs : List α) (i : Int) (a : α) : Option (List α) := (ixN xs.length i).map fun j => xs.set j a
def joinM (sep : Sg) (xs : List Sg) : Option Sg := need (szB ((xs.map List.length).sum + xs.length * sep.length)) (TL.joinL sep xs)
def upto (lo hi : Int) : List Int := (List.range (hi - lo).toNat).map fun (i : Nat) => lo + i
def signs (l : Sg) : List Sg := l.map fun c => [c]
def foldO : List α → σ → (σ → α → Option σ) → Option σ
  | [], s, _ => some s
  | x :: xs, s, f => (f s x).bind fun s' => foldO xs s' f
inductive Fl (σ ρ : Type) where
  | nx (s : σ)
  | rt (r : ρ)
def foldR : List α → σ → (σ → α → Option (Fl σ ρ)) → Option (Fl σ ρ)
  | [], s, _ => some (.nx s)
  | x :: xs, s, f => (f s x).bind fun
    | .nx s' => foldR xs s' f
    | .rt r => some (.rt r)
def whileO : Nat → σ → (σ → Option Bool) → (σ → Option σ) → Option σ
  | 0, _, _, _ => none
  | n + 1, s, c, b => (c s).bind fun t => if t = true then (b s).bind fun s' => whileO n s' c b else some s
/-- a comprehension: a state handed on, an item made or none -/
def compO : List α → σ → (σ → α → Option (σ × Option β)) → Option (σ × List β)
  | [], s, _ => some (s, [])
  | x :: xs, s, f => (f s x).bind fun r => (compO xs r.1 f).bind fun q => some (q.1, r.2.toList ++ q.2)
end

/-! ### the readings' nodes -/
section
variable {σ σ' : St} {H : Hp} {Q : VK} {R : V → V → Hp → Prop} {ta tb tc : TE} {t tr : TA} {D : Ends} {v x y : V} {i : Nat}
theorem n_var (h : σ[i]? = some (some v)) (k : Q v H) : tVar i σ H Q := ⟨v, h, k⟩
theorem n_c (k : Q v H) : tC v σ H Q := k
theorem n_op {r : R2} (h : ta σ H fun x H1 => tb σ H1 fun y H2 => r x y H2 Q) : tOp r ta tb σ H Q := h
theorem n_un {r : V → Hp → VK → Prop} (h : ta σ H fun x H1 => r x H1 Q) : tUn r ta σ H Q := h
theorem n_cb {r : List V → Hp → VK → Prop} (h : t σ H fun vs H1 => r vs H1 Q) : tCB r t σ H Q := h
theorem n_cons {Q : List V → Hp → Prop} (h : ta σ H fun x H1 => tr σ H1 fun xs H2 => Q (x :: xs) H2) : tCons ta tr σ H Q := h
theorem n_nil {Q : List V → Hp → Prop} (h : Q [] H) : tNil σ H Q := h
def qT (Q : Bool → Hp → Prop) : VK := fun x H' => ∃ k, x = .bl k ∧ Q k H'
def qNewT (Q : VK) : List V → Hp → Prop := fun xs H1 => xs.length ≤ sizeLine ∧ ∀ p, H1 p = none → Q (.ref p) (upd H1 p (.tup xs))
def qNewL (Q : VK) : List V → Hp → Prop := fun xs H1 => xs.length ≤ sizeLine ∧ ∀ p, H1 p = none → Q (.ref p) (upd H1 p (.lst xs))
theorem n_tup (h : t σ H (qNewT Q)) : tTup t σ H Q := h
theorem n_lst (h : t σ H (qNewL Q)) : tLst t σ H Q := h
theorem n_call {sp : Sp} {dvs : List V} {E : XK} (h : t σ H fun vs H1 => sp (vs ++ dvs) H1 Q E) : tCall sp dvs E t σ H Q := h
theorem n_sl {r : V → Option Int → Option Int → Hp → VK → Prop} {tl th : TO} (h : ta σ H fun x H1 => tl σ H1 fun l H2 => th σ H2 fun u H3 => r x l u H3 Q) : tSl r ta tl th σ H Q := h
def qPart (Q : Option Int → Hp → Prop) : VK := fun x H1 => ∃ i, x = .int i ∧ Q (some i) H1
theorem n_part {Q : Option Int → Hp → Prop} (h : ta σ H (qPart Q)) : tPart ta σ H Q := h
theorem v_part {Q : Option Int → Hp → Prop} {n : Int} (h : Q (some n) H) : qPart Q (.int n) H := ⟨n, rfl, h⟩
theorem n_nopart {Q : Option Int → Hp → Prop} (h : Q none H) : tNoPart σ H Q := h
theorem n_bm {K : PySem.W.Frag} {T : String} {r : V → List V → Hp → VK → Prop} (h : ta σ H fun x H1 => tyV K T x H1 ∧ t σ H1 fun xs H2 => r x xs H2 Q) : tBM K T r ta t σ H Q := h
theorem n_bm0 {K : PySem.W.Frag} {T : String} {r : V → List V → Hp → VK → Prop} (h : ta σ H fun x H1 => tyV K T x H1 ∧ r x [] H1 Q) : tBM0 K T r ta σ H Q := h
theorem n_test {Q : Bool → Hp → Prop} (h : ta σ H (qT Q)) : tTest ta σ H Q := h
variable {nx bk ct : L2.St → Hp → Prop} {rt : VK}
theorem n_seq {t u : TS} (h : t ⟨u ⟨nx, rt, bk, ct⟩, rt, bk, ct⟩ σ H) : tSeq t u ⟨nx, rt, bk, ct⟩ σ H := h
theorem n_asg {g : TG} (h : ta σ H fun x H1 => g x σ H1 nx) : tAsg ta g ⟨nx, rt, bk, ct⟩ σ H := h
theorem n_drop (h : ta σ H fun _ H1 => nx σ H1) : tDrop ta ⟨nx, rt, bk, ct⟩ σ H := h
theorem n_ret (h : ta σ H rt) : tRet ta ⟨nx, rt, bk, ct⟩ σ H := h
theorem n_ifs {c : TT} {t u : TS} (h : c σ H fun b H1 => if b = true then t ⟨nx, rt, bk, ct⟩ σ H1 else u ⟨nx, rt, bk, ct⟩ σ H1) : tIfS c t u ⟨nx, rt, bk, ct⟩ σ H := h
theorem n_nextS (h : nx σ H) : tNext ⟨nx, rt, bk, ct⟩ σ H := h
theorem n_name {Q : St → Hp → Prop} (e : σ.set i (some v) = σ') (k : Q σ' H) : gName i v σ H Q := by rw [← e] at k; exact k
theorem set0 {x y : Option V} {r : St} : (x :: r).set 0 y = y :: r := rfl
theorem setS {x y : Option V} {r r' : St} {n : Nat} (h : r.set n y = r') : (x :: r).set (n + 1) y = x :: r' := by rw [← h]; rfl
theorem br {b : Bool} {A B : Prop} (h1 : b = true → A) (h2 : b = false → B) : if b = true then A else B := by
  cases b with
  | true => rw [if_pos rfl]; exact h1 rfl
  | false => rw [if_neg Bool.false_ne_true]; exact h2 rfl
theorem ifT {α : Type} {b : Bool} {x y : α} {z : α} (hb : b = true) (h : (if b = true then x else y) = z) : x = z := by rw [if_pos hb] at h; exact h
theorem ifF {α : Type} {b : Bool} {x y : α} {z : α} (hb : b = false) (h : (if b = true then x else y) = z) : y = z := by
  rw [if_neg (by rw [hb]; exact Bool.false_ne_true)] at h; exact h
/-- a cut behind an expression -/
theorem n_cut (I : V → Hp → Prop) (h : ∀ Q' : VK, (∀ v H', I v H' → Q' v H') → ta σ H Q') (k : ∀ v H', I v H' → Q v H') : ta σ H Q := h Q k
theorem n_cutT {t : TT} {Q : Bool → Hp → Prop} (I : Bool → Hp → Prop) (h : ∀ Q' : Bool → Hp → Prop, (∀ v H', I v H' → Q' v H') → t σ H Q') (k : ∀ v H', I v H' → Q v H') : t σ H Q := h Q k
end
end U
set_option Elab.async false
set_option linter.all false
set_option maxRecDepth 100000
set_option maxHeartbeats 4000000
namespace U
open PySem PySem.Spec L2

/-! ### what is walked -/
structure Sr {α : Type} (J : It) (G : Hp → Prop) (as : List α) (Y : Hp → V → Hp → α → Prop) : Prop where
  goes : ∀ i H, i < as.length → G H → J.go i H
  stops : ∀ H, G H → J.stop as.length H
  yields : ∀ i H x H', G H → J.yld i H x H' → ∀ a, as[i]? = some a → Y H x H' a
abbrev Forr (J : It) (g : TG) (tb : TS) (nx : L2.St → Hp → Prop) (rt : VK) (σ : L2.St) (H : Hp) : Prop :=
  ∃ W : Nat → Nat → L2.St → Hp → Prop, (∃ m, W 0 m σ H) ∧ ∀ i m σ H, W i m σ H →
    (J.stop i H ∧ nx σ H) ∨ (J.go i H ∧ ∃ N : L2.St → Hp → Prop, (∀ σ' H', N σ' H' → ∃ m', m' < m ∧ W (i + 1) m' σ' H') ∧ ∀ x H', J.yld i H x H' → g x σ H' fun σ2 H2 => tb ⟨N, rt, nx, N⟩ σ2 H2)
section
variable {α τ ρ : Type} {J : It} {G : Hp → Prop} {as : List α} {Y : Hp → V → Hp → α → Prop} {g : TG} {tb : TS} {nx bk ct : L2.St → Hp → Prop} {rt : VK} {σ : L2.St} {H : Hp}
theorem for_o (w : Sr J G as Y) {s0 s1 : τ} {f : τ → α → Option τ} (hm : foldO as s0 f = some s1) (I : τ → L2.St → Hp → Prop) (h0 : I s0 σ H) (hG : ∀ s σ H, I s σ H → G H)
    (hs : ∀ a s s' x σ H H', I s σ H → Y H x H' a → f s a = some s' → ∀ N : L2.St → Hp → Prop, (∀ σ' H', I s' σ' H' → N σ' H') → g x σ H' fun σ2 H2 => tb ⟨N, rt, nx, N⟩ σ2 H2)
    (hd : ∀ σ H, I s1 σ H → nx σ H) : Forr J g tb nx rt σ H := by
  refine ⟨fun i m σ H => m = as.length - i ∧ i ≤ as.length ∧ ∃ s, foldO (as.drop i) s f = some s1 ∧ I s σ H, ⟨as.length, by simp, Nat.zero_le _, s0, by simpa using hm, h0⟩, ?_⟩
  rintro i m σ H ⟨rfl, hi, s, hf, p⟩
  by_cases hlt : i < as.length
  · rw [List.drop_eq_getElem_cons hlt] at hf
    obtain ⟨s', e1, e2⟩ := bnd hf
    refine .inr ⟨w.goes i H hlt (hG _ _ _ p), fun σ' H' => ∃ s, foldO (as.drop (i + 1)) s f = some s1 ∧ I s σ' H', fun σ' H' p' => ⟨as.length - (i + 1), by omega, rfl, hlt, p'⟩, fun x H' y => ?_⟩
    exact hs as[i] s s' x σ H H' p (w.yields i H x H' (hG _ _ _ p) y as[i] (by simp [hlt])) e1 _ fun σ' H' q => ⟨s', e2, q⟩
  · have e : i = as.length := by omega
    subst e
    rw [List.drop_length] at hf
    have e2 : s = s1 := Option.some.inj hf
    subst e2
    exact .inl ⟨w.stops H (hG _ _ _ p), hd σ H p⟩
theorem for_r (w : Sr J G as Y) {s0 : τ} {z : Fl τ ρ} {f : τ → α → Option (Fl τ ρ)} (hm : foldR as s0 f = some z) (I : τ → L2.St → Hp → Prop) (h0 : I s0 σ H) (hG : ∀ s σ H, I s σ H → G H)
    (hs : ∀ a s fl x σ H H', I s σ H → Y H x H' a → f s a = some fl → (∀ r, fl = .rt r → z = .rt r) → ∀ N : L2.St → Hp → Prop, (∀ s' σ' H', fl = .nx s' → I s' σ' H' → N σ' H') → g x σ H' fun σ2 H2 => tb ⟨N, rt, nx, N⟩ σ2 H2)
    (hd : ∀ s1 σ H, z = .nx s1 → I s1 σ H → nx σ H) : Forr J g tb nx rt σ H := by
  refine ⟨fun i m σ H => m = as.length - i ∧ i ≤ as.length ∧ ∃ s, foldR (as.drop i) s f = some z ∧ I s σ H, ⟨as.length, by simp, Nat.zero_le _, s0, by simpa using hm, h0⟩, ?_⟩
  rintro i m σ H ⟨rfl, hi, s, hf, p⟩
  by_cases hlt : i < as.length
  · rw [List.drop_eq_getElem_cons hlt] at hf
    obtain ⟨fl, e1, e2⟩ := bnd hf
    refine .inr ⟨w.goes i H hlt (hG _ _ _ p), fun σ' H' => ∃ s, foldR (as.drop (i + 1)) s f = some z ∧ I s σ' H', fun σ' H' p' => ⟨as.length - (i + 1), by omega, rfl, hlt, p'⟩, fun x H' y => ?_⟩
    refine hs as[i] s fl x σ H H' p (w.yields i H x H' (hG _ _ _ p) y as[i] (by simp [hlt])) e1 (fun r er => ?_) _ fun s' σ' H' es q => ⟨s', ?_, q⟩
    · subst er; exact (Option.some.inj e2).symm
    · subst es; exact e2
  · have e : i = as.length := by omega
    subst e
    rw [List.drop_length] at hf
    have e2 : Fl.nx s = z := Option.some.inj hf
    exact .inl ⟨w.stops H (hG _ _ _ p), hd s σ H e2.symm p⟩
abbrev Compp (J : It) (g : TG) (tt : TT) (te : TE) (ws : List Nat) (σ : L2.St) (H1 : Hp) (Dd : Addr) (Q : VK) : Prop :=
  ∃ W : Nat → Nat → Hp → Prop, (∃ m, W 0 m (upd H1 Dd (.lst []))) ∧ ∀ i m H, W i m H →
    (J.stop i H ∧ Q (.ref Dd) H) ∨ (J.go i H ∧ ∃ Nx : Hp → Prop, (∀ H', Nx H' → ∃ m', m' < m ∧ W (i + 1) m' H') ∧ ∀ x H', J.yld i H x H' → g x (wipe σ ws) H' fun σ2 H2 => wipe σ2 ws = wipe σ ws ∧ tt σ2 H2 fun b H3 =>
      if b = true then te σ2 H3 fun y H4 => ∃ acc, H4 Dd = some (.lst acc) ∧ acc.length < sizeLine ∧ Nx (upd H4 Dd (.lst (acc ++ [y]))) else Nx H3)
theorem compO_len {β : Type} {f : τ → α → Option (τ × Option β)} : ∀ {as : List α} {s s1 : τ} {ys : List β}, compO as s f = some (s1, ys) → ys.length ≤ as.length
  | [], s, s1, ys, h => by
    have e := Option.some.inj h
    have e2 : [] = ys := congrArg Prod.snd e
    subst e2; simp
  | a :: r, s, s1, ys, h => by
    obtain ⟨q, _, h⟩ := bnd h
    obtain ⟨⟨s2, zs⟩, h2, h⟩ := bnd h
    have e := Option.some.inj h
    have e2 : q.2.toList ++ zs = ys := congrArg Prod.snd e
    subst e2
    have l := compO_len h2
    rw [List.length_append, List.length_cons]
    cases q.2 <;> simp <;> omega
theorem comp_p {β : Type} (w : Sr J G as Y) {s0 s1 : τ} {ys : List β} {f : τ → α → Option (τ × Option β)} (hm : compO as s0 f = some (s1, ys)) (hz : szB as.length = true) {tt : TT} {te : TE} {ws : List Nat} {Dd : Addr} {Q : VK}
    (I : τ → List β → Hp → Prop) (h0 : I s0 [] (upd H Dd (.lst []))) (hG : ∀ s acc H, I s acc H → G H)
    (hs : ∀ a s r acc x H H', I s acc H → Y H x H' a → f s a = some r → acc.length < sizeLine → ∀ N : Hp → Prop, (∀ H', I r.1 (acc ++ r.2.toList) H' → N H') → g x (wipe σ ws) H' fun σ2 H2 => wipe σ2 ws = wipe σ ws ∧ tt σ2 H2 fun b H3 =>
      if b = true then te σ2 H3 fun y H4 => ∃ acc, H4 Dd = some (.lst acc) ∧ acc.length < sizeLine ∧ N (upd H4 Dd (.lst (acc ++ [y]))) else N H3)
    (hd : ∀ H, I s1 ys H → Q (.ref Dd) H) : Compp J g tt te ws σ H Dd Q := by
  have hz' := sz_ok hz
  refine ⟨fun i m H => m = as.length - i ∧ i ≤ as.length ∧ ∃ s acc zs, compO (as.drop i) s f = some (s1, zs) ∧ acc ++ zs = ys ∧ acc.length ≤ i ∧ I s acc H, ⟨as.length, by simp, Nat.zero_le _, s0, [], ys, by simpa using hm, rfl, Nat.le_refl _, h0⟩, ?_⟩
  rintro i m H ⟨rfl, hi, s, acc, zs, hf, ez, hl, p⟩
  by_cases hlt : i < as.length
  · rw [List.drop_eq_getElem_cons hlt] at hf
    obtain ⟨r, e1, e2⟩ := bnd hf
    obtain ⟨⟨s2, zs2⟩, e3, e4⟩ := bnd e2
    have e5 := Option.some.inj e4
    have e6 : s2 = s1 := congrArg Prod.fst e5
    have e7 : r.2.toList ++ zs2 = zs := congrArg Prod.snd e5
    subst e6 e7
    refine .inr ⟨w.goes i H hlt (hG _ _ _ p), fun H' => ∃ s acc zs, compO (as.drop (i + 1)) s f = some (s2, zs) ∧ acc ++ zs = ys ∧ acc.length ≤ i + 1 ∧ I s acc H', fun H' p' => ⟨as.length - (i + 1), by omega, rfl, hlt, p'⟩, fun x H' y => ?_⟩
    refine hs as[i] s r acc x H H' p (w.yields i H x H' (hG _ _ _ p) y as[i] (by simp [hlt])) e1 (by omega) _ fun H' q => ⟨r.1, acc ++ r.2.toList, zs2, e3, by rw [List.append_assoc]; exact ez, ?_, q⟩
    rw [List.length_append]
    cases r.2 <;> simp <;> omega
  · have e : i = as.length := by omega
    subst e
    rw [List.drop_length] at hf
    have e2 := Option.some.inj hf
    have e3 : s = s1 := congrArg Prod.fst e2
    have e4 : [] = zs := congrArg Prod.snd e2
    subst e3 e4
    rw [List.append_nil] at ez
    subst ez
    exact .inl ⟨w.stops H (hG _ _ _ p), hd H p⟩
theorem comp_o {β : Type} (w : Sr J G as Y) {s0 : τ} {q : τ × List β} {f : τ → α → Option (τ × Option β)} (hm : compO as s0 f = some q) (hz : szB as.length = true) {tt : TT} {te : TE} {ws : List Nat} {Dd : Addr} {Q : VK}
    (I : τ → List β → Hp → Prop) (h0 : I s0 [] (upd H Dd (.lst []))) (hG : ∀ s acc H, I s acc H → G H)
    (hs : ∀ a s r acc x H H', I s acc H → Y H x H' a → f s a = some r → acc.length < sizeLine → ∀ N : Hp → Prop, (∀ H', I r.1 (acc ++ r.2.toList) H' → N H') → g x (wipe σ ws) H' fun σ2 H2 => wipe σ2 ws = wipe σ ws ∧ tt σ2 H2 fun b H3 =>
      if b = true then te σ2 H3 fun y H4 => ∃ acc, H4 Dd = some (.lst acc) ∧ acc.length < sizeLine ∧ N (upd H4 Dd (.lst (acc ++ [y]))) else N H3)
    (hd : ∀ H, I q.1 q.2 H → Q (.ref Dd) H) : Compp J g tt te ws σ H Dd Q := comp_p (s1 := q.1) (ys := q.2) w hm hz I h0 hG hs hd
def compS {β : Type} : List α → (α → Option (Option β)) → Option (List β)
  | [], _ => some []
  | x :: xs, f => (f x).bind fun r => (compS xs f).bind fun q => some (r.toList ++ q)
theorem compS_o {β : Type} {f : α → Option (Option β)} : ∀ {as : List α} {ys : List β}, compS as f = some ys → compO as () (fun _ a => (f a).bind fun r => some ((), r)) = some ((), ys)
  | [], ys, h => by rw [← Option.some.inj h]; rfl
  | a :: r, ys, h => by
    obtain ⟨q, h1, h2⟩ := bnd h
    obtain ⟨zs, h3, h4⟩ := bnd h2
    rw [← Option.some.inj h4]
    show ((f a).bind fun r => some ((), r)).bind _ = _
    rw [h1]
    show (compO r () _).bind _ = _
    rw [compS_o h3]; rfl
theorem comp_s {β : Type} (w : Sr J G as Y) {q : List β} {f : α → Option (Option β)} (hm : compS as f = some q) (hz : szB as.length = true) {tt : TT} {te : TE} {ws : List Nat} {Dd : Addr} {Q : VK}
    (I : List β → Hp → Prop) (h0 : I [] (upd H Dd (.lst []))) (hG : ∀ acc H, I acc H → G H)
    (hs : ∀ a r acc x H H', I acc H → Y H x H' a → f a = some r → acc.length < sizeLine → ∀ N : Hp → Prop, (∀ H', I (acc ++ r.toList) H' → N H') → g x (wipe σ ws) H' fun σ2 H2 => wipe σ2 ws = wipe σ ws ∧ tt σ2 H2 fun b H3 =>
      if b = true then te σ2 H3 fun y H4 => ∃ acc, H4 Dd = some (.lst acc) ∧ acc.length < sizeLine ∧ N (upd H4 Dd (.lst (acc ++ [y]))) else N H3)
    (hd : ∀ H, I q H → Q (.ref Dd) H) : Compp J g tt te ws σ H Dd Q :=
  comp_p w (compS_o hm) hz (fun _ => I) h0 (fun _ => hG) (fun a s r acc x H H' p y e l N hN => by
    obtain ⟨r', e1, e2⟩ := bnd e
    rw [← Option.some.inj e2] at hN
    exact hs a r' acc x H H' p y e1 l N hN) hd
/-- while -/
theorem while_o {n : Nat} {s0 s1 : τ} {cf : τ → Option Bool} {bf : τ → Option τ} (hm : whileO n s0 cf bf = some s1) {c : TT} (I : τ → L2.St → Hp → Prop) (h0 : I s0 σ H)
    (hc : ∀ s b σ H, I s σ H → cf s = some b → ∀ P : Bool → Hp → Prop, (∀ H1, I s σ H1 → P b H1) → c σ H P)
    (hb : ∀ s s' σ H, I s σ H → cf s = some true → bf s = some s' → ∀ N : L2.St → Hp → Prop, (∀ σ' H', I s' σ' H' → N σ' H') → tb ⟨N, rt, nx, N⟩ σ H)
    (hd : ∀ σ H, I s1 σ H → cf s1 = some false → nx σ H) : tWhile c tb ⟨nx, rt, bk, ct⟩ σ H := by
  refine ⟨fun m σ H => ∃ s, whileO m s cf bf = some s1 ∧ I s σ H, ⟨n, s0, hm, h0⟩, ?_⟩
  rintro m σ H ⟨s, hw, p⟩
  cases m with
  | zero => cases hw
  | succ m =>
    obtain ⟨b, e1, e2⟩ := bnd hw
    refine hc s b σ H p e1 _ fun H1 p1 => ?_
    cases b with
    | true =>
      rw [if_pos rfl] at e2 ⊢
      obtain ⟨s', e3, e4⟩ := bnd e2
      exact ⟨fun σ' H' => ∃ s, whileO m s cf bf = some s1 ∧ I s σ' H', fun σ' H' q => ⟨m, Nat.lt_succ_self m, q⟩, hb s s' σ H1 p1 e1 e3 _ fun σ' H' q => ⟨s', e4, q⟩⟩
    | false =>
      rw [if_neg Bool.false_ne_true] at e2 ⊢
      have e5 : s = s1 := Option.some.inj e2
      subst e5
      exact hd σ H1 p1 e1
def whileR : Nat → τ → (τ → Option Bool) → (τ → Option (Fl τ ρ)) → Option (Fl τ ρ)
  | 0, _, _, _ => none
  | n + 1, s, c, b => (c s).bind fun t => if t = true then (b s).bind fun
    | .nx s' => whileR n s' c b
    | .rt r => some (.rt r) else some (.nx s)
theorem while_r {n : Nat} {s0 : τ} {z : Fl τ ρ} {cf : τ → Option Bool} {bf : τ → Option (Fl τ ρ)} (hm : whileR n s0 cf bf = some z) {c : TT} (I : τ → L2.St → Hp → Prop) (h0 : I s0 σ H)
    (hc : ∀ s b σ H, I s σ H → cf s = some b → ∀ P : Bool → Hp → Prop, (∀ H1, I s σ H1 → P b H1) → c σ H P)
    (hb : ∀ s fl σ H, I s σ H → cf s = some true → bf s = some fl → (∀ r, fl = .rt r → z = .rt r) → ∀ N : L2.St → Hp → Prop, (∀ s' σ' H', fl = .nx s' → I s' σ' H' → N σ' H') → tb ⟨N, rt, nx, N⟩ σ H)
    (hd : ∀ s1 σ H, z = .nx s1 → I s1 σ H → cf s1 = some false → nx σ H) : tWhile c tb ⟨nx, rt, bk, ct⟩ σ H := by
  refine ⟨fun m σ H => ∃ s, whileR m s cf bf = some z ∧ I s σ H, ⟨n, s0, hm, h0⟩, ?_⟩
  rintro m σ H ⟨s, hw, p⟩
  cases m with
  | zero => cases hw
  | succ m =>
    obtain ⟨b, e1, e2⟩ := bnd hw
    refine hc s b σ H p e1 _ fun H1 p1 => ?_
    cases b with
    | true =>
      rw [if_pos rfl] at e2 ⊢
      obtain ⟨fl, e3, e4⟩ := bnd e2
      refine ⟨fun σ' H' => ∃ s, whileR m s cf bf = some z ∧ I s σ' H', fun σ' H' q => ⟨m, Nat.lt_succ_self m, q⟩, hb s fl σ H1 p1 e1 e3 (fun r er => ?_) _ fun s' σ' H' es q => ⟨s', ?_, q⟩⟩
      · subst er; exact (Option.some.inj e4).symm
      · subst es; exact e4
    | false =>
      rw [if_neg Bool.false_ne_true] at e2 ⊢
      have e5 : Fl.nx s = z := Option.some.inj e2
      exact hd s σ H1 e5.symm p1 e1
end
section
variable {α β : Type} {K : PySem.W.Frag} {p q : Addr} {vs ws : List V} {xs : List α} {ys : List β} {t : Rp α} {u : Rp β} {F : Hp}
theorem sr_L (h : Al t F vs xs) : Sr (Itl K p) (fun H => SqL K H p vs) xs (fun H x H' a => H' = H ∧ t.r F x a) := by
  refine ⟨fun i H hi hq => ?_, fun H hq => ⟨vs, hq, by rw [al_len h]; exact Nat.le_refl _⟩, fun i H x H' hq y a ha => ⟨y.1, ?_⟩⟩
  · obtain ⟨v, e, _⟩ := pd_get h (List.getElem?_eq_getElem hi)
    exact ⟨vs, v, hq, e⟩
  · obtain ⟨v, e, r⟩ := pd_get h ha
    have e2 := y.2 vs hq
    rw [e] at e2; cases e2
    exact r
theorem sr_T (h : Al t F vs xs) : Sr (Itt K p) (fun H => SqT K H p vs) xs (fun H x H' a => H' = H ∧ t.r F x a) := by
  refine ⟨fun i H hi hq => ?_, fun H hq => ⟨vs, hq, by rw [al_len h]; exact Nat.le_refl _⟩, fun i H x H' hq y a ha => ⟨y.1, ?_⟩⟩
  · obtain ⟨v, e, _⟩ := pd_get h (List.getElem?_eq_getElem hi)
    exact ⟨vs, v, hq, e⟩
  · obtain ⟨v, e, r⟩ := pd_get h ha
    have e2 := y.2 vs hq
    rw [e] at e2; cases e2
    exact r
theorem upto_len (lo hi : Int) : (upto lo hi).length = (hi - lo).toNat := by simp [upto]
theorem sr_R (lo hi : Int) : Sr (Itr lo (hi - lo).toNat) (fun _ => True) (upto lo hi) (fun H x H' a => H' = H ∧ x = .int a) := by
  refine ⟨fun i H hi _ => by rw [upto_len] at hi; exact hi, fun H _ => by rw [upto_len]; exact Nat.le_refl _, fun i H x H' _ y a ha => ⟨y.1, ?_⟩⟩
  rw [y.2]
  unfold upto at ha
  rw [List.getElem?_map] at ha
  cases e : (List.range (hi - lo).toNat)[i]? with
  | none => rw [e] at ha; cases ha
  | some j =>
    rw [e] at ha
    have ej : j = i := by
      have := List.getElem?_eq_some_iff.mp e
      obtain ⟨h1, h2⟩ := this
      simpa using h2.symm
    subst ej
    exact congrArg V.int (Option.some.inj ha)
theorem sr_R0 (hi : Int) : Sr (Itr 0 hi.toNat) (fun _ => True) (upto 0 hi) (fun H x H' a => H' = H ∧ x = .int a) := by
  have := sr_R 0 hi
  rw [Int.sub_zero] at this
  exact this
theorem sr_S (l : Sg) : Sr (Its (S l)) (fun _ => True) (signs l) (fun H x H' a => H' = H ∧ x = .str (S a) ∧ a.length = 1) := by
  refine ⟨fun i H hi _ => by
    show i < (S l).cps.size
    simpa [signs] using hi, fun H _ => by
    show (S l).cps.size ≤ (signs l).length
    simp [signs], fun i H x H' _ y a ha => ⟨y.1, ?_⟩⟩
  obtain ⟨_, c, hc, e⟩ := y
  unfold signs at ha
  rw [List.getElem?_map] at ha
  have hc' : l[i]? = some c := by simpa using hc
  rw [hc'] at ha
  have ea : [c] = a := Option.some.inj ha
  subst ea
  exact ⟨e, rfl⟩
def enumL (xs : List α) : List (Int × α) := xs.mapIdx fun i x => ((i : Int), x)
theorem sr_E (h : Al t F vs xs) : Sr (Ite K p) (fun H => SqL K H p vs) (enumL xs) (fun H x H' a => ∃ T y, x = .ref T ∧ H T = none ∧ H' = upd H T (.tup [.int a.1, y]) ∧ t.r F y a.2) := by
  refine ⟨fun i H hi hq => ?_, fun H hq => ⟨vs, hq, by rw [al_len h]; simp [enumL]⟩, fun i H x H' hq y a ha => ?_⟩
  · obtain ⟨v, e, _⟩ := pd_get h (List.getElem?_eq_getElem (show i < xs.length by simpa [enumL] using hi))
    exact ⟨vs, v, hq, e⟩
  · obtain ⟨T, z, e1, e2, e3, e4⟩ := y
    unfold enumL at ha
    rw [List.getElem?_mapIdx] at ha
    cases e : xs[i]? with
    | none => rw [e] at ha; cases ha
    | some b =>
      rw [e] at ha
      have ea : ((i : Int), b) = a := Option.some.inj ha
      subst ea
      obtain ⟨v, ev, r⟩ := pd_get h e
      have e5 := e4 vs hq
      rw [ev] at e5; cases e5
      exact ⟨T, _, e1, e2, e3, r⟩
theorem sr_Z (h : Al t F vs xs) (h' : Al u F ws ys) : Sr (Itz K p q) (fun H => SqL K H p vs ∧ SqL K H q ws) (xs.zip ys) (fun H x H' a => ∃ T y z, x = .ref T ∧ H T = none ∧ H' = upd H T (.tup [y, z]) ∧ t.r F y a.1 ∧ u.r F z a.2) := by
  have l1 := al_len h
  have l2 := al_len h'
  refine ⟨fun i H hi hq => ?_, fun H hq => ⟨vs, ws, hq.1, hq.2, by rw [List.length_zip]; omega⟩, fun i H x H' hq y a ha => ?_⟩
  · rw [List.length_zip] at hi
    obtain ⟨v, e, _⟩ := pd_get h (List.getElem?_eq_getElem (show i < xs.length by omega))
    obtain ⟨v', e', _⟩ := pd_get h' (List.getElem?_eq_getElem (show i < ys.length by omega))
    exact ⟨vs, ws, v, v', hq.1, hq.2, e, e'⟩
  · obtain ⟨T, y1, y2, e1, e2, e3, e4, e5⟩ := y
    rw [List.getElem?_zip_eq_some] at ha
    obtain ⟨v, ev, r⟩ := pd_get h ha.1
    obtain ⟨v', ev', r'⟩ := pd_get h' ha.2
    have e6 := e4 vs hq.1
    have e7 := e5 ws hq.2
    rw [ev] at e6; cases e6
    rw [ev'] at e7; cases e7
    exact ⟨T, _, _, e1, e2, e3, r, r'⟩
end
end U
set_option Elab.async false
set_option linter.all false
set_option maxRecDepth 100000
set_option maxHeartbeats 4000000
namespace U
open PySem PySem.Spec L2
/-! ### the rules' readings by names, the written part by its own name -/
abbrev RCl := List V → Hp → VK → Prop
abbrev RMt := V → List V → Hp → VK → Prop
def qLen (K : PySem.W.Frag) : RCl := fun xs H Q => ∃ p ys, xs = [V.ref p] ∧ (SqL K H p ys ∨ SqT K H p ys) ∧ Q (.int (ys.length : Nat)) H
def qLenS : RCl := fun xs H Q => ∃ z, xs = [.str z] ∧ z.length ≤ sizeLine ∧ Q (.int z.length) H
def qMax2 : RCl := fun xs H Q => ∃ i j, xs = [.int i, .int j] ∧ Q (.int (if j > i then j else i)) H
def qMin2 : RCl := fun xs H Q => ∃ i j, xs = [.int i, .int j] ∧ Q (.int (if j < i then j else i)) H
def qInt1 : RCl := fun xs H Q => (∃ i, xs = [.int i] ∧ Q (.int i) H) ∨ ∃ k, xs = [.bl k] ∧ Q (.int (if k then 1 else 0)) H
def qTuple (K : PySem.W.Frag) : RCl := fun xs H Q => ∃ p ys, xs = [V.ref p] ∧ ((SqL K H p ys ∧ ∀ l, H l = none → Q (.ref l) (upd H l (.tup ys))) ∨ (SqT K H p ys ∧ Q (.ref p) H))
def qList (K : PySem.W.Frag) : RCl := fun xs H Q => ∃ p ys, xs = [V.ref p] ∧ (SqL K H p ys ∨ SqT K H p ys) ∧ ∀ l, H l = none → Q (.ref l) (upd H l (.lst ys))
def qJoin (K : PySem.W.Frag) : RMt := fun x xs H Q => ∃ a p, ∃ ys : List Str, x = .str a ∧ xs = [.ref p] ∧ (SqL K H p (ys.map V.str) ∨ SqT K H p (ys.map V.str)) ∧ (ys.map (·.length)).sum + ys.length * a.length ≤ 16777216 ∧ Q (.str (Txt.join a ys)) H
def qCatS : R2 := fun x y H Q => ∃ i j, x = .str i ∧ y = .str j ∧ i.length + j.length ≤ sizeLine ∧ Q (.str (i ++ j)) H
def qLtS : R2 := fun x y H Q => ∃ i j, x = .str i ∧ y = .str j ∧ Q (.bl (decide (i.cps.toList < j.cps.toList))) H
def qLeS : R2 := fun x y H Q => ∃ i j, x = .str i ∧ y = .str j ∧ Q (.bl (!decide (j.cps.toList < i.cps.toList))) H
def qGtS : R2 := fun x y H Q => ∃ i j, x = .str i ∧ y = .str j ∧ Q (.bl (decide (j.cps.toList < i.cps.toList))) H
def qGeS : R2 := fun x y H Q => ∃ i j, x = .str i ∧ y = .str j ∧ Q (.bl (!decide (i.cps.toList < j.cps.toList))) H
section
variable {X : Cx} {K : PySem.W.Frag}
theorem c_len (hK : X.K = K) : CallR X (.builtin "len") (qLen K) := by subst hK; exact call_len_seq
theorem c_lenS : CallR X (.builtin "len") qLenS := call_len_str
theorem c_max2 (hc : X.calm = true) : CallR X (.builtin "max") qMax2 := call_max2 hc
theorem c_min2 (hc : X.calm = true) : CallR X (.builtin "min") qMin2 := call_min2 hc
theorem c_int1 : CallR X (.type "int") qInt1 := call_int1
theorem c_tuple (hK : X.K = K) : CallR X (.type "tuple") (qTuple K) := by subst hK; exact call_tuple_of
theorem c_list (hK : X.K = K) : CallR X (.type "list") (qList K) := by subst hK; exact call_list_of
theorem c_join (hK : X.K = K) : MtR X "str.join" (qJoin K) := by subst hK; exact mt_join
theorem c_catS : OpR X (binaryOp .Add) qCatS := op_add_str
theorem c_ltS : OpR X (compareOp .Lt) qLtS := op_lt_str
theorem c_leS : OpR X (compareOp .LtE) qLeS := op_le_str
theorem c_gtS : OpR X (compareOp .Gt) qGtS := op_gt_str
theorem c_geS : OpR X (compareOp .GtE) qGeS := op_ge_str
theorem c_ixT (hK : X.K = K) : IxR X (rIxT K) := by subst hK; exact ix_tup
theorem c_ixL (hK : X.K = K) : IxR X (rIxL K) := by subst hK; exact ix_list
theorem c_slL (hK : X.K = K) : SlR X (rSlL K) := by subst hK; exact sl_list
theorem c_slT (hK : X.K = K) : SlR X (rSlA K) := by subst hK; exact sl_tupA
variable {name id T : String} {o e : Expr} {es : List Expr} {to : TE} {t : TA} {apos pos : Pos} {nm : Str} {r : V → List V → Hp → VK → Prop} {tg l : Expr} {tl : TE}
theorem c_pgtup {es : List Expr} {k : Nat} {t : TGs} {n : Nat} (hK : X.K = K) (hc : X.calm = true) (h : PGs X es t) (hn : (assignEach es X.env).length = n := by rfl) (hst : (assignEach es X.env).findIdx? (·.1) = none := by rfl) : PG X (.Tuple es k pos) (gTup K n t) := by
  subst hK; exact pg_tup hc h hn hst
theorem c_pilist (hK : X.K = K) (hl : PE X l tl) : PI X tg l (iList K tl) := by subst hK; exact pi_list hl
theorem c_pitup (hK : X.K = K) (hl : PE X l tl) : PI X tg l (iTup K tl) := by subst hK; exact pi_tup hl
end
section
variable {K : PySem.W.Frag} {σ σ' : L2.St} {H F H' : Hp} {Q : VK} {i j a : Int} {x y v : V} {s r : Sg} {b c : Bool} {X : Cx}
/-! ### numbers -/
theorem v_i2 {g : Int → Int → V} (k : Q (g i j) H) : rI0 g (.int i) (.int j) H Q := ⟨i, j, rfl, rfl, k⟩
theorem mulB_ok (h : mulB i j = true) : CMul i j := by
  unfold mulB at h
  rw [Bool.or_eq_true] at h
  exact h.elim (fun z => .inl (of_decide_eq_true z)) fun z => .inr (of_decide_eq_true z)
theorem v_mul (h : mulM i j = some a) (k : Q (.int a) H) : L2.rI CMul (fun i j => .int (i * j)) (.int i) (.int j) H Q := by
  obtain ⟨h1, rfl⟩ := need_ok h
  exact ⟨i, j, rfl, rfl, mulB_ok h1, k⟩
theorem v_mulL (h : -(2 ^ 64) < i ∧ i < 2 ^ 64) (k : Q (.int (i * j)) H) : L2.rI CMul (fun i j => .int (i * j)) (.int i) (.int j) H Q := ⟨i, j, rfl, rfl, .inl h, k⟩
theorem v_mulR (h : -(2 ^ 64) < j ∧ j < 2 ^ 64) (k : Q (.int (i * j)) H) : L2.rI CMul (fun i j => .int (i * j)) (.int i) (.int j) H Q := ⟨i, j, rfl, rfl, .inr h, k⟩
theorem v_mod (h : modM i j = some a) (k : Q (.int a) H) : L2.rI (fun _ j => 0 < j) (fun i j => .int (i % j)) (.int i) (.int j) H Q := by
  obtain ⟨h1, rfl⟩ := need_ok h
  exact ⟨i, j, rfl, rfl, of_decide_eq_true h1, k⟩
theorem v_modK (h : 0 < j) (k : Q (.int (i % j)) H) : L2.rI (fun _ j => 0 < j) (fun i j => .int (i % j)) (.int i) (.int j) H Q := ⟨i, j, rfl, rfl, h, k⟩
theorem v_div (h : divM i j = some a) (k : Q (.int a) H) : L2.rI CDiv (fun i j => .int (i / j)) (.int i) (.int j) H Q := by
  obtain ⟨h1, rfl⟩ := need_ok h
  have h2 : 0 < j ∧ j < 1073741824 := of_decide_eq_true h1
  exact ⟨i, j, rfl, rfl, h2, k⟩
theorem v_divK (h : 0 < j ∧ j < 1073741824) (k : Q (.int (i / j)) H) : L2.rI CDiv (fun i j => .int (i / j)) (.int i) (.int j) H Q := ⟨i, j, rfl, rfl, h, k⟩
theorem v_powK (h : CPow i j) (e : i ^ j.toNat = a) (k : Q (.int a) H) : L2.rI CPow (fun i j => .int (i ^ j.toNat)) (.int i) (.int j) H Q := ⟨i, j, rfl, rfl, h, by subst e; exact k⟩
theorem v_neg (k : Q (.int (-i)) H) : rU (fun i => .int (-i)) (.int i) H Q := ⟨i, rfl, k⟩
theorem v_eqI (k : Q (.bl (decide (i = j))) H) : rEq (.int i) (.int j) H Q := ⟨rfl, by rw [dec_int, Bool.beq_eq_decide_eq]; exact k⟩
theorem v_neI (k : Q (.bl (!decide (i = j))) H) : rNe (.int i) (.int j) H Q := ⟨rfl, by rw [dec_int, Bool.beq_eq_decide_eq]; exact k⟩
theorem v_eqB (k : Q (.bl (decide (b = c))) H) : rEq (.bl b) (.bl c) H Q := ⟨rfl, by rw [dec_bl, Bool.beq_eq_decide_eq]; exact k⟩
theorem v_neB (k : Q (.bl (!decide (b = c))) H) : rNe (.bl b) (.bl c) H Q := ⟨rfl, by rw [dec_bl, Bool.beq_eq_decide_eq]; exact k⟩
theorem S_inj : S s = S r ↔ s = r := ⟨fun h => by
  have h1 := congrArg (fun z : Str => z.cps.toList) h
  exact h1, fun h => by rw [h]⟩
theorem dec_S : decide (V.str (S s) = V.str (S r)) = decide (s = r) := by
  rw [Bool.eq_iff_iff]
  simp only [decide_eq_true_eq, V.str.injEq]
  exact S_inj
theorem v_eqS (k : Q (.bl (decide (s = r))) H) : rEq (.str (S s)) (.str (S r)) H Q := ⟨rfl, by rw [dec_S]; exact k⟩
theorem v_neS (k : Q (.bl (!decide (s = r))) H) : rNe (.str (S s)) (.str (S r)) H Q := ⟨rfl, by rw [dec_S]; exact k⟩
theorem v_ltS (k : Q (.bl (decide (s < r))) H) : qLtS (.str (S s)) (.str (S r)) H Q := ⟨_, _, rfl, rfl, k⟩
theorem v_gtS (k : Q (.bl (decide (r < s))) H) : qGtS (.str (S s)) (.str (S r)) H Q := ⟨_, _, rfl, rfl, k⟩
theorem v_leS (k : Q (.bl (!decide (r < s))) H) : qLeS (.str (S s)) (.str (S r)) H Q := ⟨_, _, rfl, rfl, k⟩
theorem v_geS (k : Q (.bl (!decide (s < r))) H) : qGeS (.str (S s)) (.str (S r)) H Q := ⟨_, _, rfl, rfl, k⟩
theorem v_bl {P : Bool → Hp → Prop} (k : P b H) : qT P (.bl b) H := ⟨b, rfl, k⟩
theorem v_max2 (k : Q (.int (mx i j)) H) : qMax2 [.int i, .int j] H Q := ⟨i, j, rfl, k⟩
theorem v_min2 (k : Q (.int (mn i j)) H) : qMin2 [.int i, .int j] H Q := ⟨i, j, rfl, k⟩
theorem v_intB (k : Q (.int (b2 b)) H) : qInt1 [.bl b] H Q := .inr ⟨b, rfl, k⟩
theorem v_intI (k : Q (.int i) H) : qInt1 [.int i] H Q := .inl ⟨i, rfl, k⟩
/-! ### texts -/
theorem n_str {x : Str} (e : x = S s) (k : Q (.str (S s)) H) : tC (.str x) σ H Q := by rw [e]; exact k
theorem catM_le (h : catM s r = some t) : t.length ≤ sizeLine := by
  obtain ⟨h1, rfl⟩ := need_ok h
  rw [List.length_append]; exact sz_ok h1
theorem v_catS {t : Sg} (h : catM s r = some t) (k : Q (.str (S t)) H) : qCatS (.str (S s)) (.str (S r)) H Q := by
  obtain ⟨h1, rfl⟩ := need_ok h
  refine ⟨_, _, rfl, rfl, by simpa [Str.length] using sz_ok h1, ?_⟩
  have e : (S s ++ S r : Str) = S (s ++ r) := TL.ext_tl (by rw [TL.tl_append])
  rw [e]; exact k
theorem one_le {n : Nat} : ([n] : Sg).length ≤ sizeLine := by show 1 ≤ sizeLine; decide
theorem len1_le (h : s.length = 1) : s.length ≤ sizeLine := by rw [h]; decide
theorem v_ixS {n : Nat} (hl : s.length ≤ sizeLine) (h : atI s i = some n) (k : Q (.str (S [n])) H) : rIxS (.str (S s)) (.int i) H Q := ⟨_, _, n, rfl, rfl, by simpa [Str.length] using hl, h, k⟩
theorem cut_le {lo hi : Option Int} (hl : s.length ≤ sizeLine) : (cutL s lo hi).length ≤ sizeLine := by
  unfold cutL
  rw [List.length_take, List.length_drop]
  omega
theorem v_slS {lo hi : Option Int} (hl : s.length ≤ sizeLine) (k : Q (.str (S (cutL s lo hi))) H) : rSlS (.str (S s)) lo hi H Q := ⟨S s, rfl, by simpa [Str.length] using hl, by
  have e : cutS (S s) lo hi = S (cutL s lo hi) := by unfold cutS cutL; simp [Str.length]
  rw [e]; exact k⟩
theorem v_lenS (hl : s.length ≤ sizeLine) (k : Q (.int s.length) H) : qLenS [.str (S s)] H Q := ⟨S s, rfl, by simpa [Str.length] using hl, by
  have e : (S s).length = s.length := by simp [Str.length]
  rw [e]; exact k⟩
theorem tyS : tyV K "str" (.str (S s)) H := rfl
theorem joinM_le {xs : List Sg} (h : joinM s xs = some r) : r.length ≤ sizeLine := by
  obtain ⟨h1, rfl⟩ := need_ok h
  have h2 := sz_ok h1
  refine Nat.le_trans ?_ h2
  clear h h1 h2
  induction xs with
  | nil => simp [TL.joinL]
  | cons p q ih =>
    cases q with
    | nil => simp [TL.joinL]
    | cons q r =>
      have e : TL.joinL s (p :: q :: r) = p ++ (s ++ TL.joinL s (q :: r)) := rfl
      rw [e]
      simp only [List.length_append, List.map_cons, List.sum_cons, List.length_cons] at ih ⊢
      have : (r.length + 1 + 1) * s.length = (r.length + 1) * s.length + s.length := by rw [Nat.add_mul (r.length + 1) 1]; simp
      omega
theorem join_S (s : Sg) (xs : List Sg) : Txt.join (S s) (xs.map S) = S (TL.joinL s xs) := by
  rw [TL.join_eq]
  refine TL.ext_tl ?_
  rw [TL.tl_join]
  congr 1
  rw [List.map_map]
  exact (List.map_congr_left fun a _ => rfl).trans (List.map_id _)
theorem v_join {p : Addr} {vs : List V} {xs : List Sg} (hq : SqL K H p vs ∨ SqT K H p vs) (hr : Al eS F vs xs) (h : joinM s xs = some r) (k : Q (.str (S r)) H) : qJoin K (.str (S s)) [.ref p] H Q := by
  obtain ⟨h1, rfl⟩ := need_ok h
  have e := al_str hr
  subst e
  refine ⟨S s, p, xs.map S, rfl, rfl, hq, ?_, by rw [join_S]; exact k⟩
  have h2 := of_decide_eq_true h1
  have e1 : (xs.map S).map (·.length) = xs.map List.length := by rw [List.map_map]; exact List.map_congr_left fun a _ => by simp [Str.length]
  rw [e1, List.length_map]
  have e2 : (S s).length = s.length := by simp [Str.length]
  rw [e2]; exact h2
end
section
variable {K : PySem.W.Frag} {σ σ' : L2.St} {H F H' : Hp} {Q : VK} {i j : Int} {x y z v w : V} {α β γ : Type} {t : Rp α} {ta : Rp α} {tb : Rp β} {tc : Rp γ} {p q : Addr} {vs us : List V} {xs zs : List α} {D : Ends}
/-! ### lists and tuples -/
theorem v_len (hq : SqL K H p vs ∨ SqT K H p vs) (hr : Al t F vs xs) (k : Q (.int (xs.length : Int)) H) : qLen K [.ref p] H Q :=
  ⟨p, vs, rfl, hq, by rw [al_len hr]; exact k⟩
theorem v_ixL {a : α} (hq : SqL K H p vs) (hr : Al t F vs xs) (h : atI xs i = some a) (k : ∀ v, t.r F v a → Q v H) : rIxL K (.ref p) (.int i) H Q := by
  obtain ⟨v, e, r⟩ := al_at hr h
  exact ⟨p, vs, i, v, rfl, rfl, hq, e, k v r⟩
theorem v_ixT {a : α} (hq : SqT K H p vs) (hr : Al t F vs xs) (h : atI xs i = some a) (k : ∀ v, t.r F v a → Q v H) : rIxT K (.ref p) (.int i) H Q := by
  obtain ⟨v, e, r⟩ := al_at hr h
  exact ⟨p, vs, i, v, rfl, rfl, hq, e, k v r⟩
theorem v_ix20 {m : α × β} (hs : Sub F H) (hr : (eP2 ta tb).r F x m) (k : ∀ v, ta.r F v m.1 → Q v H) : rIxT K x (.int 0) H Q := by
  obtain ⟨p, y, z, rfl, hq, h1, h2⟩ := hr
  exact ⟨p, _, 0, y, rfl, rfl, .inl (.inl (hs _ _ hq)), rfl, k y h1⟩
theorem v_ix21 {m : α × β} (hs : Sub F H) (hr : (eP2 ta tb).r F x m) (k : ∀ v, tb.r F v m.2 → Q v H) : rIxT K x (.int 1) H Q := by
  obtain ⟨p, y, z, rfl, hq, h1, h2⟩ := hr
  exact ⟨p, _, 1, z, rfl, rfl, .inl (.inl (hs _ _ hq)), rfl, k z h2⟩
theorem v_ix30 {m : α × β × γ} (hs : Sub F H) (hr : (eP3 ta tb tc).r F x m) (k : ∀ v, ta.r F v m.1 → Q v H) : rIxT K x (.int 0) H Q := by
  obtain ⟨p, y, z, w, rfl, hq, h1, h2, h3⟩ := hr
  exact ⟨p, _, 0, y, rfl, rfl, .inl (.inl (hs _ _ hq)), rfl, k y h1⟩
theorem v_ix31 {m : α × β × γ} (hs : Sub F H) (hr : (eP3 ta tb tc).r F x m) (k : ∀ v, tb.r F v m.2.1 → Q v H) : rIxT K x (.int 1) H Q := by
  obtain ⟨p, y, z, w, rfl, hq, h1, h2, h3⟩ := hr
  exact ⟨p, _, 1, z, rfl, rfl, .inl (.inl (hs _ _ hq)), rfl, k z h2⟩
theorem v_ix32 {m : α × β × γ} (hs : Sub F H) (hr : (eP3 ta tb tc).r F x m) (k : ∀ v, tc.r F v m.2.2 → Q v H) : rIxT K x (.int 2) H Q := by
  obtain ⟨p, y, z, w, rfl, hq, h1, h2, h3⟩ := hr
  exact ⟨p, _, 2, w, rfl, rfl, .inl (.inl (hs _ _ hq)), rfl, k w h3⟩
theorem v_unp2 {tg : TGs} {m : α × β} {R : L2.St → Hp → Prop} (hs : Sub F H) (hr : (eP2 ta tb).r F x m) (k : ∀ y z, ta.r F y m.1 → tb.r F z m.2 → tg [y, z] σ H R) : gTup K 2 tg x σ H R := by
  obtain ⟨p, y, z, rfl, hq, h1, h2⟩ := hr
  exact ⟨p, _, rfl, .inl (.inl (hs _ _ hq)), rfl, k y z h1 h2⟩
theorem v_unp3 {tg : TGs} {m : α × β × γ} {R : L2.St → Hp → Prop} (hs : Sub F H) (hr : (eP3 ta tb tc).r F x m) (k : ∀ y z w, ta.r F y m.1 → tb.r F z m.2.1 → tc.r F w m.2.2 → tg [y, z, w] σ H R) : gTup K 3 tg x σ H R := by
  obtain ⟨p, y, z, w, rfl, hq, h1, h2, h3⟩ := hr
  exact ⟨p, _, rfl, .inl (.inl (hs _ _ hq)), rfl, k y z w h1 h2 h3⟩
theorem n_gcons {tg : TG} {tgs : TGs} {R : L2.St → Hp → Prop} (h : tg x σ H fun σ' H' => tgs vs σ' H' R) : gCons tg tgs (x :: vs) σ H R := ⟨_, _, rfl, h⟩
theorem n_gnil {R : L2.St → Hp → Prop} (h : R σ H) : gNil [] σ H R := ⟨rfl, h⟩
/-- new objects -/
theorem gr_newF {W : List Addr} {o : HO} (hs : Sub F H) (hp : H p = none) : Gr W F H (upd F p o) (upd H p o) := (Gr.refl hs).newF hp
theorem gr_newM {W : List Addr} {o : HO} (hs : Sub F H) (hp : H p = none) : Gr W F H F (upd H p o) := (Gr.refl hs).newM hp
theorem v_mk2 {m : α} {n : β} (hs : Sub F H) (h1 : ta.r F x m) (h2 : tb.r F y n) (k : ∀ v F' H', Gr [] F H F' H' → (eP2 ta tb).r F' v (m, n) → Q v H') :
    qNewT Q [x, y] H :=
  ⟨by show 2 ≤ sizeLine; decide, fun p hp => k _ _ _ (gr_newF hs hp) ⟨p, x, y, rfl, upd_same, ta.mono (Sub.up1 (hs.nn hp)) h1, tb.mono (Sub.up1 (hs.nn hp)) h2⟩⟩
theorem v_mk3 {m : α} {n : β} {l : γ} (hs : Sub F H) (h1 : ta.r F x m) (h2 : tb.r F y n) (h3 : tc.r F z l) (k : ∀ v F' H', Gr [] F H F' H' → (eP3 ta tb tc).r F' v (m, n, l) → Q v H') :
    qNewT Q [x, y, z] H :=
  ⟨by show 3 ≤ sizeLine; decide, fun p hp => k _ _ _ (gr_newF hs hp) ⟨p, x, y, z, rfl, upd_same, ta.mono (Sub.up1 (hs.nn hp)) h1, tb.mono (Sub.up1 (hs.nn hp)) h2, tc.mono (Sub.up1 (hs.nn hp)) h3⟩⟩
theorem v_mkT (hs : Sub F H) (hr : Al t F vs xs) (hz : szB vs.length = true) (k : ∀ p F' H', Gr [] F H F' H' → F' p = some (.tup vs) → Al t F' vs xs → Q (.ref p) H') :
    qNewT Q vs H :=
  ⟨sz_ok hz, fun p hp => k _ _ _ (gr_newF hs hp) upd_same (hr.mono (Sub.up1 (hs.nn hp)))⟩
/-- a new list: frozen at once; one's own -/
theorem a_newF (hs : Sub F H) (hr : Al t F vs xs) (k : ∀ p F' H', Gr [] F H F' H' → F' p = some (.lst vs) → Al t F' vs xs → Q (.ref p) H') : ∀ p, H p = none → Q (.ref p) (upd H p (.lst vs)) :=
  fun p hp => k _ _ _ (gr_newF hs hp) upd_same (hr.mono (Sub.up1 (hs.nn hp)))
theorem a_newM (hs : Sub F H) (k : ∀ p H', H p = none → Gr [] F H F H' → F p = none → H' p = some (.lst vs) → Q (.ref p) H') : ∀ p, H p = none → Q (.ref p) (upd H p (.lst vs)) :=
  fun p hp => k _ _ hp (gr_newM hs hp) (hs.nn hp) upd_same
theorem v_mkLF (hs : Sub F H) (hr : Al t F vs xs) (hz : szB vs.length = true) (k : ∀ p F' H', Gr [] F H F' H' → F' p = some (.lst vs) → Al t F' vs xs → Q (.ref p) H') : qNewL Q vs H := ⟨sz_ok hz, a_newF hs hr k⟩
theorem v_mkLM (hs : Sub F H) (hz : szB vs.length = true) (k : ∀ p H', H p = none → Gr [] F H F H' → F p = none → H' p = some (.lst vs) → Q (.ref p) H') : qNewL Q vs H := ⟨sz_ok hz, a_newM hs k⟩
theorem cut_al {lo hi : Option Int} (hr : Al t F vs xs) : Al t F (cutV vs lo hi) (cutL xs lo hi) := by
  unfold cutV cutL
  rw [al_len hr]
  exact pd_take _ (pd_drop _ hr)
theorem v_slT {lo hi : Option Int} (hs : Sub F H) (hq : F p = some (.tup vs)) (hr : Al t F vs xs) (k : ∀ p' us F' H', Gr [] F H F' H' → F' p' = some (.tup us) → Al t F' us (cutL xs lo hi) → Q (.ref p') H') : rSlA K (.ref p) lo hi H Q := by
  refine ⟨p, vs, rfl, .inl (.inl (hs _ _ hq)), fun e => ?_, fun _ p' hp => k p' _ _ _ (gr_newF hs hp) upd_same ((cut_al hr).mono (Sub.up1 (hs.nn hp)))⟩
  have e2 : cutV vs lo hi = vs := by unfold cutV; rw [e.1, e.2]; simp
  have := cut_al (lo := lo) (hi := hi) hr
  rw [e2] at this
  exact k p vs F H (Gr.refl hs) hq this
/-- a list of one's own that changes -/
theorem tyL (hq : SqL K H p vs) : tyV K "list" (.ref p) H := .inl ⟨rfl, _, hq⟩
theorem v_append (hp : H p = some (.lst vs)) (hl : vs.length < sizeLine) (k : Q .non (upd H p (.lst (vs ++ [y])))) : rAppend (.ref p) [y] H Q := ⟨p, vs, y, rfl, rfl, hp, hl, k⟩
theorem v_extend (hp : H p = some (.lst vs)) (hq : H q = some (.lst us)) (hl : vs.length + us.length ≤ sizeLine) (k : Q .non (upd H p (.lst (vs ++ us)))) : rExtend (.ref p) [.ref q] H Q := ⟨p, q, vs, us, rfl, rfl, hp, hq, hl, k⟩
theorem v_setL {n : Nat} {R : Hp → Prop} (hp : H p = some (.lst vs)) (e : ixN vs.length i = some n) (k : R (upd H p (.lst (vs.set n y)))) : rSetL (.ref p) (.int i) y H R := ⟨p, vs, i, n, rfl, rfl, hp, e, k⟩
theorem setM_ok {a : α} {zs : List α} (hr : Al t F vs xs) (h : setM xs i a = some zs) (ha : t.r F y a) : ∃ n, ixN vs.length i = some n ∧ Al t F (vs.set n y) zs := by
  unfold setM at h
  rw [al_len hr]
  cases e : ixN xs.length i with
  | none => rw [e] at h; cases h
  | some n =>
    rw [e] at h
    have e2 : xs.set n a = zs := Option.some.inj h
    subst e2
    exact ⟨n, rfl, pd_set n hr ha⟩
def popM (xs : List α) : Option (α × List α) := (xs[xs.length - 1]?).map fun a => (a, xs.dropLast)
theorem v_pop {m : α × List α} (hp : H p = some (.lst vs)) (hr : Al t F vs xs) (h : popM xs = some m) (k : ∀ v, t.r F v m.1 → Al t F vs.dropLast m.2 → Q v (upd H p (.lst vs.dropLast))) : rPop (.ref p) [] H Q := by
  unfold popM at h
  cases e : xs[xs.length - 1]? with
  | none => rw [e] at h; cases h
  | some a =>
    rw [e] at h
    have e2 : (a, xs.dropLast) = m := Option.some.inj h
    subst e2
    rw [← al_len hr] at e
    obtain ⟨v, ev, rv⟩ := pd_get hr e
    exact ⟨p, vs, v, rfl, rfl, hp, ev, k v rv (pd_last hr)⟩
theorem v_cat (hs : Sub F H) (hp : H p = some (.lst vs)) (hq : H q = some (.lst us)) (hr : Al t F vs xs) (hr' : Al t F us zs) (hz : szB (xs.length + zs.length) = true) (k : ∀ p', H p' = none → Q (.ref p') (upd H p' (.lst (vs ++ us)))) : rCat (.ref p) (.ref q) H Q :=
  ⟨p, q, vs, us, rfl, rfl, hp, hq, by rw [al_len hr, al_len hr']; exact sz_ok hz, k⟩
def repL (xs : List α) (n : Nat) : List α := (List.replicate n xs).flatten
def repM (xs : List α) (i : Int) : Option (List α) := need (decide (-(2 ^ 63) ≤ i ∧ i < 2 ^ 63) && szB (xs.length * i.toNat)) (repL xs i.toNat)
theorem v_tuple (hs : Sub F H) (hq : SqL K H p vs) (hr : Al t F vs xs) (k : ∀ p' F' H', Gr [] F H F' H' → F' p' = some (.tup vs) → Al t F' vs xs → Q (.ref p') H') : qTuple K [.ref p] H Q :=
  ⟨p, vs, rfl, .inl ⟨hq, fun l hl => k _ _ _ (gr_newF hs hl) upd_same (hr.mono (Sub.up1 (hs.nn hl)))⟩⟩
theorem v_tupleT (hq : SqT K H p vs) (k : Q (.ref p) H) : qTuple K [.ref p] H Q := ⟨p, vs, rfl, .inr ⟨hq, k⟩⟩
theorem v_list (hq : SqL K H p vs ∨ SqT K H p vs) (k : ∀ l, H l = none → Q (.ref l) (upd H l (.lst vs))) : qList K [.ref p] H Q := ⟨p, vs, rfl, hq, k⟩
/-! ### loops' targets -/
theorem v_nmY {tg : TG} {P : Prop} {R : L2.St → Hp → Prop} (hY : H' = H ∧ P) (k : P → tg x σ H R) : tg x σ H' R := by
  obtain ⟨e, h⟩ := hY
  subst e; exact k h
theorem v_nmR {tg : TG} {a : Int} {R : L2.St → Hp → Prop} (hY : H' = H ∧ x = .int a) (k : tg (.int a) σ H R) : tg x σ H' R := by
  obtain ⟨e, h⟩ := hY
  subst e; subst h; exact k
theorem v_nmS {tg : TG} {a : Sg} {R : L2.St → Hp → Prop} (hY : H' = H ∧ x = .str (S a) ∧ a.length = 1) (k : a.length = 1 → tg (.str (S a)) σ H R) : tg x σ H' R := by
  obtain ⟨e, h, l⟩ := hY
  subst e; subst h; exact k l
theorem v_unpE {tg : TGs} {Fs : Hp} {a : Int × α} {R : L2.St → Hp → Prop} (hs : Sub F H) (hY : ∃ T y, x = .ref T ∧ H T = none ∧ H' = upd H T (.tup [.int a.1, y]) ∧ t.r Fs y a.2) (k : ∀ y, Gr [] F H F H' → t.r Fs y a.2 → tg [.int a.1, y] σ H' R) : gTup K 2 tg x σ H' R := by
  obtain ⟨T, y, rfl, nT, rfl, r⟩ := hY
  exact ⟨T, _, rfl, .inl (.inl upd_same), rfl, k y (gr_newM hs nT) r⟩
theorem v_unpZ {tg : TGs} {Fs : Hp} {a : α × β} {R : L2.St → Hp → Prop} (hs : Sub F H) (hY : ∃ T y z, x = .ref T ∧ H T = none ∧ H' = upd H T (.tup [y, z]) ∧ ta.r Fs y a.1 ∧ tb.r Fs z a.2) (k : ∀ y z, Gr [] F H F H' → ta.r Fs y a.1 → tb.r Fs z a.2 → tg [y, z] σ H' R) : gTup K 2 tg x σ H' R := by
  obtain ⟨T, y, z, rfl, nT, rfl, r, r'⟩ := hY
  exact ⟨T, _, rfl, .inl (.inl upd_same), rfl, k y z (gr_newM hs nT) r r'⟩
abbrev RIt := It → Hp → Prop
def qRng1 (R : RIt) : List V → Hp → Prop := fun vs H1 => ∃ j : Int, vs = [.int j] ∧ -(2 ^ 62) ≤ j ∧ j < 2 ^ 62 ∧ R (Itr 0 j.toNat) H1
def qRng2 (R : RIt) : List V → Hp → Prop := fun vs H1 => ∃ i j : Int, vs = [.int i, .int j] ∧ (-(2 ^ 62) ≤ i ∧ i < 2 ^ 62 ∧ -(2 ^ 62) ≤ j ∧ j < 2 ^ 62) ∧ R (Itr i (j - i).toNat) H1
def qItL (K : PySem.W.Frag) (R : RIt) : VK := fun x H1 => ∃ a, x = .ref a ∧ (∃ xs, SqL K H1 a xs) ∧ R (Itl K a) H1
def qItT (K : PySem.W.Frag) (R : RIt) : VK := fun x H1 => ∃ a, x = .ref a ∧ (∃ xs, SqT K H1 a xs) ∧ R (Itt K a) H1
def qItS (R : RIt) : VK := fun v H1 => ∃ x, v = .str x ∧ R (Its x) H1
theorem n_rng1 {ta : TA} {R : RIt} (h : ta σ H (qRng1 R)) : iRng1 ta σ H R := h
theorem n_rng2 {ta : TA} {R : RIt} (h : ta σ H (qRng2 R)) : iRng2 ta σ H R := h
theorem n_itL {ta : TE} {R : RIt} (h : ta σ H (qItL K R)) : iList K ta σ H R := h
theorem n_itT {ta : TE} {R : RIt} (h : ta σ H (qItT K R)) : iTup K ta σ H R := h
theorem n_itS {ta : TE} {R : RIt} (h : ta σ H (qItS R)) : iStr ta σ H R := h
def rngB (i : Int) : Bool := decide (-(2 ^ 62) ≤ i ∧ i < 2 ^ 62)
def uptoM (lo hi : Int) : Option (List Int) := need (rngB lo && rngB hi) (upto lo hi)
theorem uptoM_ok {lo hi : Int} {l : List Int} (h : uptoM lo hi = some l) : (-(2 ^ 62) ≤ lo ∧ lo < 2 ^ 62 ∧ -(2 ^ 62) ≤ hi ∧ hi < 2 ^ 62) ∧ upto lo hi = l := by
  obtain ⟨h1, h2⟩ := need_ok h
  unfold rngB at h1
  rw [Bool.and_eq_true] at h1
  have a := of_decide_eq_true h1.1
  have b := of_decide_eq_true h1.2
  exact ⟨⟨a.1, a.2, b.1, b.2⟩, h2⟩
theorem v_rng1 {hi : Int} {l : List Int} {R : It → Hp → Prop} (h : uptoM 0 hi = some l) (k : R (Itr 0 hi.toNat) H) : qRng1 R [.int hi] H :=
  ⟨hi, rfl, (uptoM_ok h).1.2.2.1, (uptoM_ok h).1.2.2.2, k⟩
theorem v_rng2 {lo hi : Int} {l : List Int} {R : It → Hp → Prop} (h : uptoM lo hi = some l) (k : R (Itr lo (hi - lo).toNat) H) : qRng2 R [.int lo, .int hi] H :=
  ⟨lo, hi, rfl, (uptoM_ok h).1, k⟩
theorem sr_R1 {hi : Int} {l : List Int} (h : uptoM 0 hi = some l) : Sr (Itr 0 hi.toNat) (fun _ => True) l (fun H x H' a => H' = H ∧ x = .int a) := by rw [← (uptoM_ok h).2]; exact sr_R0 hi
theorem sr_R2 {lo hi : Int} {l : List Int} (h : uptoM lo hi = some l) : Sr (Itr lo (hi - lo).toNat) (fun _ => True) l (fun H x H' a => H' = H ∧ x = .int a) := by rw [← (uptoM_ok h).2]; exact sr_R lo hi
variable {nx bk ct : L2.St → Hp → Prop} {rt : VK}
theorem n_for {wi : TI} {g : TG} {tb : TS} (h : wi σ H fun J H1 => Forr J g tb nx rt σ H1) : tFor wi g tb ⟨nx, rt, bk, ct⟩ σ H := h
theorem n_lc {wi : TI} {g : TG} {tt : TT} {te : TE} {ws : List Nat} (h : wi σ H fun J H1 => ∀ Dd, H1 Dd = none → Compp J g tt te ws σ H1 Dd Q) : tLc wi g tt te ws σ H Q := h
theorem v_itL (hq : SqL K H p vs) {R : It → Hp → Prop} (k : R (Itl K p) H) : qItL K R (.ref p) H := ⟨p, rfl, ⟨vs, hq⟩, k⟩
theorem v_itT (hq : SqT K H p vs) {R : It → Hp → Prop} (k : R (Itt K p) H) : qItT K R (.ref p) H := ⟨p, rfl, ⟨vs, hq⟩, k⟩
theorem v_itS {s : Sg} {R : It → Hp → Prop} (k : R (Its (S s)) H) : qItS R (.str (S s)) H := ⟨S s, rfl, k⟩
theorem br_join {b : Bool} {t u : TS} (I : L2.St → Hp → Prop) (hr : ∀ σ' H', I σ' H' → nx σ' H') (h1 : b = true → ∀ nx' : L2.St → Hp → Prop, (∀ σ' H', I σ' H' → nx' σ' H') → t ⟨nx', rt, bk, ct⟩ σ H)
    (h2 : b = false → ∀ nx' : L2.St → Hp → Prop, (∀ σ' H', I σ' H' → nx' σ' H') → u ⟨nx', rt, bk, ct⟩ σ H) : if b = true then t ⟨nx, rt, bk, ct⟩ σ H else u ⟨nx, rt, bk, ct⟩ σ H := by
  cases b with
  | true => rw [if_pos rfl]; exact h1 rfl nx hr
  | false => rw [if_neg Bool.false_ne_true]; exact h2 rfl nx hr
/-- and, or: what follows the first part -/
def qAndT (u : TT) (σ : L2.St) (Q : Bool → Hp → Prop) : Bool → Hp → Prop := fun c H1 => if c = true then u σ H1 Q else Q false H1
def qOrT (u : TT) (σ : L2.St) (Q : Bool → Hp → Prop) : Bool → Hp → Prop := fun c H1 => if c = true then Q true H1 else u σ H1 Q
def qAndV (u : TE) (σ : L2.St) (Q : VK) : Bool → Hp → Prop := fun c H1 => if c = true then u σ H1 Q else Q (.bl false) H1
def qOrV (u : TE) (σ : L2.St) (Q : VK) : Bool → Hp → Prop := fun c H1 => if c = true then Q (.bl true) H1 else u σ H1 Q
def qChain (tc : TE) (r' : R2) (y : V) (σ : L2.St) (Q : VK) : Bool → Hp → Prop := fun k H3 => if k = true then tc σ H3 fun w H4 => r' y w H4 Q else Q (.bl false) H3
def qIfE (ta tb : TE) (σ : L2.St) (Q : VK) : Bool → Hp → Prop := fun c H1 => if c = true then ta σ H1 Q else tb σ H1 Q
/-- the later part leaves the heap as it is -/
theorem br_andT {a b : Bool} {u : TT} {Q : Bool → Hp → Prop} (h : a = true → ∀ Q' : Bool → Hp → Prop, Q' b H → u σ H Q') (k : Q (a && b) H) : qAndT u σ Q a H := by
  unfold qAndT
  cases a with
  | true => rw [if_pos rfl]; exact h rfl Q k
  | false => rw [if_neg Bool.false_ne_true]; exact k
theorem br_orT {a b : Bool} {u : TT} {Q : Bool → Hp → Prop} (h : a = false → ∀ Q' : Bool → Hp → Prop, Q' b H → u σ H Q') (k : Q (a || b) H) : qOrT u σ Q a H := by
  unfold qOrT
  cases a with
  | true => rw [if_pos rfl]; exact k
  | false => rw [if_neg Bool.false_ne_true]; exact h rfl Q k
theorem br_andV {a b : Bool} {u : TE} (h : a = true → ∀ Q' : VK, Q' (.bl b) H → u σ H Q') (k : Q (.bl (a && b)) H) : qAndV u σ Q a H := by
  unfold qAndV
  cases a with
  | true => rw [if_pos rfl]; exact h rfl Q k
  | false => rw [if_neg Bool.false_ne_true]; exact k
theorem br_orV {a b : Bool} {u : TE} (h : a = false → ∀ Q' : VK, Q' (.bl b) H → u σ H Q') (k : Q (.bl (a || b)) H) : qOrV u σ Q a H := by
  unfold qOrV
  cases a with
  | true => rw [if_pos rfl]; exact k
  | false => rw [if_neg Bool.false_ne_true]; exact h rfl Q k
theorem br_chain {a b : Bool} {tc : TE} {r' : R2} (h : a = true → ∀ Q' : VK, Q' (.bl b) H → tc σ H fun w H4 => r' y w H4 Q') (k : Q (.bl (a && b)) H) : qChain tc r' y σ Q a H := by
  unfold qChain
  cases a with
  | true => rw [if_pos rfl]; exact h rfl Q k
  | false => rw [if_neg Bool.false_ne_true]; exact k
/-- .. in general: c is the whole's answer, I holds behind it -/
theorem br_andTM {a c : Bool} {u : TT} {Q : Bool → Hp → Prop} (I : Hp → Prop) (h : a = true → ∀ Q' : Bool → Hp → Prop, (∀ H', I H' → Q' c H') → u σ H Q') (hf : a = false → c = false ∧ I H) (k : ∀ H', I H' → Q c H') : qAndT u σ Q a H := by
  unfold qAndT
  cases a with
  | true => rw [if_pos rfl]; exact h rfl Q k
  | false => rw [if_neg Bool.false_ne_true]; have := k H (hf rfl).2; rw [(hf rfl).1] at this; exact this
theorem br_orTM {a c : Bool} {u : TT} {Q : Bool → Hp → Prop} (I : Hp → Prop) (h : a = false → ∀ Q' : Bool → Hp → Prop, (∀ H', I H' → Q' c H') → u σ H Q') (hf : a = true → c = true ∧ I H) (k : ∀ H', I H' → Q c H') : qOrT u σ Q a H := by
  unfold qOrT
  cases a with
  | true => rw [if_pos rfl]; have := k H (hf rfl).2; rw [(hf rfl).1] at this; exact this
  | false => rw [if_neg Bool.false_ne_true]; exact h rfl Q k
theorem br_andVM {a c : Bool} {u : TE} (I : Hp → Prop) (h : a = true → ∀ Q' : VK, (∀ H', I H' → Q' (.bl c) H') → u σ H Q') (hf : a = false → c = false ∧ I H) (k : ∀ H', I H' → Q (.bl c) H') : qAndV u σ Q a H := by
  unfold qAndV
  cases a with
  | true => rw [if_pos rfl]; exact h rfl Q k
  | false => rw [if_neg Bool.false_ne_true]; have := k H (hf rfl).2; rw [(hf rfl).1] at this; exact this
theorem br_orVM {a c : Bool} {u : TE} (I : Hp → Prop) (h : a = false → ∀ Q' : VK, (∀ H', I H' → Q' (.bl c) H') → u σ H Q') (hf : a = true → c = true ∧ I H) (k : ∀ H', I H' → Q (.bl c) H') : qOrV u σ Q a H := by
  unfold qOrV
  cases a with
  | true => rw [if_pos rfl]; have := k H (hf rfl).2; rw [(hf rfl).1] at this; exact this
  | false => rw [if_neg Bool.false_ne_true]; exact h rfl Q k
theorem n_and {t u : TT} {Q : Bool → Hp → Prop} (h : t σ H (qAndT u σ Q)) : tAnd t u σ H Q := h
theorem n_or {t u : TT} {Q : Bool → Hp → Prop} (h : t σ H (qOrT u σ Q)) : tOr t u σ H Q := h
theorem n_not {t : TT} {Q : Bool → Hp → Prop} (h : t σ H fun c H1 => Q (!c) H1) : tNot t σ H Q := h
theorem n_tB {t : TE} {Q : Bool → Hp → Prop} (h : t σ H (qT Q)) : tB t σ H Q := h
theorem n_andV {ta tb : TE} (h : ta σ H (qT (qAndV tb σ Q))) : tAndV ta tb σ H Q := h
theorem n_orV {ta tb : TE} (h : ta σ H (qT (qOrV tb σ Q))) : tOrV ta tb σ H Q := h
theorem n_notV {ta : TE} (h : ta σ H (qT fun c H1 => Q (.bl (!c)) H1)) : tNotV ta σ H Q := h
theorem n_ifE {t : TT} {ta tb : TE} (h : t σ H (qIfE ta tb σ Q)) : tIf t ta tb σ H Q := h
theorem n_chain {r r' : R2} {ta tb tc : TE} (h : ta σ H fun x H1 => tb σ H1 fun y H2 => r x y H2 (qT (qChain tc r' y σ Q))) : tChain r r' ta tb tc σ H Q := h
theorem n_aug {te : TE} {ti : TIp} {n : Nat} (h : σ[n]? = some (some x)) (k : te σ H fun y H1 => ti x y H1 fun z H2 => nx (σ.set n (some z)) H2) : tAug n te ti ⟨nx, rt, bk, ct⟩ σ H := ⟨x, h, k⟩
theorem v_ip {f : Int → Int → Int} (k : Q (.int (f i j)) H) : ipI f (.int i) (.int j) H Q := ⟨i, j, rfl, rfl, k⟩
theorem n_sub {to ti : TE} {st : TSet} {R : L2.St → Hp → Prop} (h : to σ H fun o H1 => ti σ H1 fun i H2 => st o i v H2 fun H3 => R σ H3) : gSub to ti st v σ H R := h
def qPar (σ : L2.St) (i j : Nat) (R : L2.St → Hp → Prop) : List V → Hp → Prop := fun vs H1 => ∃ v w, vs = [v, w] ∧ R ((σ.set i (some v)).set j (some w)) H1
theorem n_par {i j : Nat} {t : TA} (h : t σ H (qPar σ i j nx)) : tPar i j t ⟨nx, rt, bk, ct⟩ σ H := h
theorem v_par {i j : Nat} {τ : L2.St} {R : L2.St → Hp → Prop} (e : (σ.set i (some v)).set j (some w) = τ) (k : R τ H) : qPar σ i j R [v, w] H := ⟨v, w, rfl, by rw [e]; exact k⟩
end
end U
set_option Elab.async false
set_option linter.all false
set_option maxRecDepth 100000
set_option maxHeartbeats 4000000
namespace U
open PySem PySem.Spec L2
section
variable {K : PySem.W.Frag} {σ σ' : L2.St} {H F H' F0 H0 : Hp} {Q : VK} {i j : Int} {x y z v w : V} {α β γ : Type} {t : Rp α} {p q : Addr} {vs us : List V} {xs zs ys : List α} {D : Ends} {W : List Addr} {o u : HO}
def catLM (xs zs : List α) : Option (List α) := need (szB (xs.length + zs.length)) (xs ++ zs)
def snocM (xs : List α) (a : α) : Option (List α) := need (decide (xs.length < 16777216)) (xs ++ [a])
theorem v_catF (hs : Sub F H) (hp : H p = some (.lst vs)) (hq : H q = some (.lst us)) (hr : Al t F vs xs) (hr' : Al t F us zs) (h : catLM xs zs = some ys)
    (k : ∀ p' us' F' H', Gr [] F H F' H' → F' p' = some (.lst us') → Al t F' us' ys → Q (.ref p') H') : rCat (.ref p) (.ref q) H Q := by
  obtain ⟨h1, rfl⟩ := need_ok h
  exact ⟨p, q, vs, us, rfl, rfl, hp, hq, by rw [al_len hr, al_len hr']; exact sz_ok h1, fun p' hp' => k p' _ _ _ (gr_newF hs hp') upd_same (Al.mono (pd_append hr hr') (Sub.up1 (hs.nn hp')))⟩
theorem v_catM (hs : Sub F H) (hp : H p = some (.lst vs)) (hq : H q = some (.lst us)) (hr : Al t F vs xs) (hr' : Al t F us zs) (h : catLM xs zs = some ys)
    (k : ∀ p' us' H', H p' = none → Gr [] F H F H' → F p' = none → H' p' = some (.lst us') → Al t F us' ys → Q (.ref p') H') : rCat (.ref p) (.ref q) H Q := by
  obtain ⟨h1, rfl⟩ := need_ok h
  exact ⟨p, q, vs, us, rfl, rfl, hp, hq, by rw [al_len hr, al_len hr']; exact sz_ok h1, fun p' hp' => k p' _ _ hp' (gr_newM hs hp') (hs.nn hp') upd_same (pd_append hr hr')⟩
theorem pd_rep {n : Nat} (hr : Al t F vs xs) : Al t F (List.replicate n vs).flatten (repL xs n) := by
  unfold repL
  induction n with
  | zero => exact .nil
  | succ n ih => rw [List.replicate_succ, List.replicate_succ, List.flatten_cons, List.flatten_cons]; exact pd_append hr ih
theorem v_repF (hs : Sub F H) (hp : H p = some (.lst vs)) (hr : Al t F vs xs) (h : repM xs i = some ys)
    (k : ∀ p' us' F' H', Gr [] F H F' H' → F' p' = some (.lst us') → Al t F' us' ys → Q (.ref p') H') : rRep (.ref p) (.int i) H Q := by
  obtain ⟨h1, rfl⟩ := need_ok h
  rw [Bool.and_eq_true] at h1
  have h2 := of_decide_eq_true h1.1
  exact ⟨p, i, vs, rfl, rfl, hp, h2.1, h2.2, by rw [al_len hr]; exact sz_ok h1.2, fun p' hp' => k p' _ _ _ (gr_newF hs hp') upd_same (Al.mono (pd_rep hr) (Sub.up1 (hs.nn hp')))⟩
theorem v_repM (hs : Sub F H) (hp : H p = some (.lst vs)) (hr : Al t F vs xs) (h : repM xs i = some ys)
    (k : ∀ p' us' H', H p' = none → Gr [] F H F H' → F p' = none → H' p' = some (.lst us') → Al t F us' ys → Q (.ref p') H') : rRep (.ref p) (.int i) H Q := by
  obtain ⟨h1, rfl⟩ := need_ok h
  rw [Bool.and_eq_true] at h1
  have h2 := of_decide_eq_true h1.1
  exact ⟨p, i, vs, rfl, rfl, hp, h2.1, h2.2, by rw [al_len hr]; exact sz_ok h1.2, fun p' hp' => k p' _ _ hp' (gr_newM hs hp') (hs.nn hp') upd_same (pd_rep hr)⟩
theorem v_slLF {lo hi : Option Int} (hs : Sub F H) (hq : SqL K H p vs) (hr : Al t F vs xs) (k : ∀ p' us' F' H', Gr [] F H F' H' → F' p' = some (.lst us') → Al t F' us' (cutL xs lo hi) → Q (.ref p') H') : rSlL K (.ref p) lo hi H Q :=
  ⟨p, vs, rfl, hq, fun p' hp' => k p' _ _ _ (gr_newF hs hp') upd_same (Al.mono (cut_al hr) (Sub.up1 (hs.nn hp')))⟩
theorem v_slLM {lo hi : Option Int} (hs : Sub F H) (hq : SqL K H p vs) (hr : Al t F vs xs) (k : ∀ p' us' H', H p' = none → Gr [] F H F H' → F p' = none → H' p' = some (.lst us') → Al t F us' (cutL xs lo hi) → Q (.ref p') H') : rSlL K (.ref p) lo hi H Q :=
  ⟨p, vs, rfl, hq, fun p' hp' => k p' _ _ hp' (gr_newM hs hp') (hs.nn hp') upd_same (cut_al hr)⟩
theorem v_ixQ {ns : List Int} {a : Int} (hs : Sub F H) (hr : (eQ K).r F x ns) (h : atI ns i = some a) (k : Q (.int a) H) : rIxL K x (.int i) H Q := by
  obtain ⟨p, rfl, hq⟩ := hr
  obtain ⟨v, e, r⟩ := al_at (al_ofint (F := F) ns) h
  have r' : v = .int a := r
  subst r'
  exact ⟨p, _, i, _, rfl, rfl, hs.l hq, e, k⟩
theorem v_lenQ {ns : List Int} (hs : Sub F H) (hr : (eQ K).r F x ns) (k : Q (.int (ns.length : Int)) H) : qLen K [x] H Q := by
  obtain ⟨p, rfl, hq⟩ := hr
  exact ⟨p, _, rfl, .inl (hs.l hq), by rw [List.length_map]; exact k⟩
theorem snoc_lt {a : α} (hr : Al t F vs xs) (h : snocM xs a = some ys) : vs.length < sizeLine := by
  obtain ⟨h1, _⟩ := need_ok h
  rw [al_len hr, sizeLine_eq]; exact of_decide_eq_true h1
theorem app_ok {a : α} (g : Gr W F0 H0 F H) (m : Mu W H0 F H p (.lst vs)) (hr : Al t F vs xs) (h : snocM xs a = some ys) (ha : t.r F y a) :
    ∃ vs' H', Gr W F0 H0 F H' ∧ Al t F vs' ys ∧ vs' = vs ++ [y] ∧ H' = upd H p (.lst vs') := by
  obtain ⟨_, rfl⟩ := need_ok h
  exact ⟨_, _, m.gr g, pd_snoc hr ha, rfl, rfl⟩
theorem cat_le (hr : Al t F vs xs) (hr' : Al t F us zs) (h : catLM xs zs = some ys) : vs.length + us.length ≤ sizeLine := by
  obtain ⟨h1, _⟩ := need_ok h
  rw [al_len hr, al_len hr']; exact sz_ok h1
theorem ext_ok (g : Gr W F0 H0 F H) (m : Mu W H0 F H p (.lst vs)) (hr : Al t F vs xs) (hr' : Al t F us zs) (h : catLM xs zs = some ys) :
    ∃ vs' H', Gr W F0 H0 F H' ∧ Al t F vs' ys ∧ vs' = vs ++ us ∧ H' = upd H p (.lst vs') := by
  obtain ⟨_, rfl⟩ := need_ok h
  exact ⟨_, _, m.gr g, pd_append hr hr', rfl, rfl⟩
theorem pop_ok (g : Gr W F0 H0 F H) (m : Mu W H0 F H p (.lst vs)) : ∃ vs' H', Gr W F0 H0 F H' ∧ vs' = vs.dropLast ∧ H' = upd H p (.lst vs') := ⟨_, _, m.gr g, rfl, rfl⟩
theorem st_ok (g : Gr W F0 H0 F H) (m : Mu W H0 F H p o) (us : List V) : ∃ vs' H', Gr W F0 H0 F H' ∧ vs' = us ∧ H' = upd H p (.lst vs') := ⟨_, _, m.gr g, rfl, rfl⟩
theorem mu_self (m : Mu W H0 F H p o) (e : H' = upd H p u) : Mu W H0 F H' p u := by subst e; exact m.self
theorem mu_oth (m : Mu W H0 F H q o) (ne : q ≠ p) (e : H' = upd H p u) : Mu W H0 F H' q o := by subst e; exact m.mut ne
theorem freeze (g : Gr W F0 H0 F H) (m : Mu W H0 F H p o) (h0 : H0 p = none) : ∃ F', F' p = some o ∧ Sub F F' ∧ Gr W F0 H0 F' H ∧ (∀ q u, q ≠ p → Mu W H0 F H q u → Mu W H0 F' H q u) :=
  ⟨upd F p o, upd_same, Sub.up1 m.fr, g.frz m.fr m.hp h0, fun _ _ ne m' => m'.frz ne⟩
theorem wipe_to {ws : List Nat} {g : TG} {R : L2.St → Hp → Prop} (e : wipe σ ws = σ') (k : g x σ' H R) : g x (wipe σ ws) H R := by rw [e]; exact k
theorem set_to {n : Nat} {R : L2.St → Hp → Prop} {v : Option V} (e : σ.set n v = σ') (k : R σ' H) : R (σ.set n v) H := by rw [e]; exact k
theorem n_cutI {b : Bool} {ta tb : TE} (x : Int) (h : ∀ Q' : VK, Q' (.int x) H → qIfE ta tb σ Q' b H) (k : Q (.int x) H) : qIfE ta tb σ Q b H := h Q k
theorem n_cutB {b : Bool} {ta tb : TE} (x : Bool) (h : ∀ Q' : VK, Q' (.bl x) H → qIfE ta tb σ Q' b H) (k : Q (.bl x) H) : qIfE ta tb σ Q b H := h Q k
theorem n_cutS {b : Bool} {ta tb : TE} (x : Sg) (h : ∀ Q' : VK, (x.length ≤ sizeLine → Q' (.str (S x)) H) → qIfE ta tb σ Q' b H) (k : x.length ≤ sizeLine → Q (.str (S x)) H) : qIfE ta tb σ Q b H := h Q k
def thenF {σ ρ β : Type} (z : Fl σ ρ) (k : σ → Option β) (e : ρ → Option β) : Option β := match z with
  | .nx s => k s
  | .rt r => e r
theorem thenF_nx {σ ρ β : Type} {s : σ} {k : σ → Option β} {e : ρ → Option β} {b : Option β} (h : thenF (.nx s) k e = b) : k s = b := h
theorem thenF_rt {σ ρ β : Type} {z : Fl σ ρ} {r : ρ} {k : σ → Option β} {e : ρ → Option β} {b : Option β} (hz : z = .rt r) (h : thenF z k e = b) : e r = b := by subst hz; exact h
theorem n_yes {R : Bool → Hp → Prop} {A B : Prop} (k : A) (e : R true H = (if true = true then A else B)) : tYes σ H R := by show R true H; rw [e, if_pos rfl]; exact k
theorem nin1 {a p : Addr} (h : a ≠ p) : a ∉ [p] := by simp [h]
theorem nin2 {a p q : Addr} (h : a ≠ p) (h' : a ≠ q) : a ∉ [p, q] := by simp [h, h']
end
/-- a def of the text -/
abbrev FnP (K : PySem.W.Frag) (x : Str) (st : Stmt) (f : Addr) (fd : FuncData) : Prop := FunD K x x (defArgs st) (defBody st) (defScope st) [] [] f fd
theorem c_isi {X : Cx} {K : PySem.W.Frag} (hK : X.K = K) : CallR X (.builtin "isinstance") (rIsi K) := by subst hK; exact call_isi
section
variable {X : Cx} {K : PySem.W.Frag} {name id T : String} {o e : Expr} {es : List Expr} {to : TE} {t : TA} {apos pos : Pos} {nm : Str} {r : V → List V → Hp → VK → Prop}
theorem c_bm {cpos : Pos} (hK : X.K = K) (pa : PlainAttrs T) (slot : Slot T name id) (hty : typeOf (.builtin id) = pure (.type "method_descriptor")) (hm : MtR X id r) (ho : PE X o to) (ha : PA X (e :: es) t)
    (h1 : attributeBase o name X.env (eval o X.env) = eval o X.env := by rfl)
    (h2 : (((((backTo cpos (starEach (e :: es) X.env)).all fun x => !x.fst) && (backToKw cpos (keywordEach [] X.env)).all fun x => x.fst.isSome) && decide (((e :: es).length + ([] : List Keyword).length + if ([] : List Keyword).isEmpty = true then 0 else 1) < 30)) = true) := by rfl)
    (h3 : (apos.endLine == cpos.line) = true := by rfl) (h4 : starEach (e :: es) X.env = (false, eval e X.env) :: starEach es X.env := by rfl) (h5 : ((backTo cpos (starEach es X.env)).any fun x => x.fst) = false := by rfl) :
    PE X (.Call (.Attribute o name apos) (e :: es) [] cpos) (tBM K T r to t) := by subst hK; exact pe_bm pa slot hty hm ho ha h1 h2 h3 h4 h5
theorem c_bm0 {cpos : Pos} (hK : X.K = K) (pa : PlainAttrs T) (slot : Slot T name id) (hty : typeOf (.builtin id) = pure (.type "method_descriptor")) (hm : MtR X id r) (ho : PE X o to)
    (h1 : attributeBase o name X.env (eval o X.env) = eval o X.env := by rfl) (h3 : (apos.endLine == cpos.line) = true := by rfl) :
    PE X (.Call (.Attribute o name apos) [] [] cpos) (tBM0 K T r to) := by subst hK; exact pe_bm0 pa slot hty hm ho h1 h3
end
def Has (P : Program) (w : World) (K : PySem.W.Frag) (mg : Str → Option Value) (base : Heap) (x : Str) (ps : List Str) (k : Nat) (sp : Sp) : Prop :=
  ∃ f fd, FnOk P w K mg base CX0 k f fd ps sp ∧ mg x = some (.ref f) ∧ PySem.W.keepIn K (.ref f) = true ∧ Binds K fd ps []
end U
namespace U
open PySem PySem.Spec L2
theorem bo_len : bootBuiltins "len" = some (.builtin "len") := by decide +kernel
theorem bo_max : bootBuiltins "max" = some (.builtin "max") := by decide +kernel
theorem bo_min : bootBuiltins "min" = some (.builtin "min") := by decide +kernel
theorem bo_sum : bootBuiltins "sum" = some (.builtin "sum") := by decide +kernel
theorem bo_all : bootBuiltins "all" = some (.builtin "all") := by decide +kernel
theorem bo_any : bootBuiltins "any" = some (.builtin "any") := by decide +kernel
theorem bo_sorted : bootBuiltins "sorted" = some (.builtin "sorted") := by decide +kernel
theorem bo_repr : bootBuiltins "repr" = some (.builtin "repr") := by decide +kernel
theorem bo_isinstance : bootBuiltins "isinstance" = some (.builtin "isinstance") := by decide +kernel
theorem bo_int : bootBuiltins "int" = some (.type "int") := by decide +kernel
theorem bo_bool : bootBuiltins "bool" = some (.type "bool") := by decide +kernel
theorem bo_str : bootBuiltins "str" = some (.type "str") := by decide +kernel
theorem bo_tuple : bootBuiltins "tuple" = some (.type "tuple") := by decide +kernel
theorem bo_list : bootBuiltins "list" = some (.type "list") := by decide +kernel
theorem bo_dict : bootBuiltins "dict" = some (.type "dict") := by decide +kernel
theorem bo_set : bootBuiltins "set" = some (.type "set") := by decide +kernel
theorem bo_type : bootBuiltins "type" = some (.type "type") := by decide +kernel
section
variable {K : PySem.W.Frag} {H F : Hp} {Q : VK} {x : V} {T U : String} {b : Bool}
theorem v_isi (ty : TyX K H x (.type T)) (h : kitB T U = some b) (k : Q (.bl b) H) : rIsi K [x, .ty U] H Q := ⟨x, .ty U, _, _, b, rfl, .ty U, ty, kit_ty h, k⟩
theorem ty_frz {α β : Type} {ta : Rp α} {tb : Rp β} {m : α × β} (hs : Sub F H) (h : (eP2 ta tb).r F x m) : TyX K H x (.type "tuple") := by
  obtain ⟨p, y, z, rfl, q, _⟩ := h
  exact .base (.tup (hs _ _ q))
theorem ty_frz3 {α β γ : Type} {ta : Rp α} {tb : Rp β} {tc : Rp γ} {m : α × β × γ} (hs : Sub F H) (h : (eP3 ta tb tc).r F x m) : TyX K H x (.type "tuple") := by
  obtain ⟨p, y, z, w, rfl, q, _⟩ := h
  exact .base (.tup (hs _ _ q))
theorem ty_vt {α : Type} {ta : Rp α} {m : List α} (hs : Sub F H) (h : (eT ta).r F x m) : TyX K H x (.type "tuple") := by
  obtain ⟨p, vs, rfl, q, _⟩ := h
  exact .base (.tup (hs _ _ q))
theorem ty_list {α : Type} {ta : Rp α} {m : List α} (hs : Sub F H) (h : (eL ta).r F x m) : TyX K H x (.type "list") := by
  obtain ⟨p, vs, rfl, q, _⟩ := h
  exact .base (.lst (hs _ _ q))
end
end U
set_option Elab.async false
set_option linter.all false
set_option maxRecDepth 100000
set_option maxHeartbeats 4000000
namespace U
open PySem PySem.Spec PyProof.Rows L2
/-! ### defs that are called where no repr is under way (a repr within a def asks it) -/
structure FnG (P : Program) (w : World) (K : PySem.W.Frag) (mg : Str → Option Value) (base : Heap) (CX : CXT) (k : Nat) (f : Addr) (fd : FuncData) (ps : List Str) (sp : Sp) : Prop where
  len : ∀ vs H Q E, sp vs H Q E → vs.length = ps.length
  go : ∀ (A : Around) (out : List Env) (s : Shared) (H : Hp) (as : Args) (us : List Value) (vs : List V) (Q : VK) (E : XK), A.guards = some [] → Room k A → Env0 P w K mg base A out s H → BindsTo s fd as (ps.zip us) → Vals vs us →
    sp vs H Q E → codeAny (model P w) A (.call (.ref f) as) (CR CX out P w H s Q E) s
section
variable {P : Program} {w : World} {K : PySem.W.Frag} {mg : Str → Option Value} {base : Heap} {CX : CXT} {k : Nat} {f : Addr} {fd : FuncData} {ps N : List Str} {sp : Sp}
theorem FnG.mono {j : Nat} (G : FnG P w K mg base CX j f fd ps sp) (h : j ≤ k) : FnG P w K mg base CX k f fd ps sp :=
  ⟨G.len, fun A out s H as us vs Q E g hr => G.go A out s H as us vs Q E g (hr.mono h)⟩
theorem FnG.ofOk (F : FnOk P w K mg base CX k f fd ps sp) : FnG P w K mg base CX k f fd ps sp := ⟨F.len, fun A out s H as us vs Q E _ => F.run A out s H as us vs Q E⟩
/-- a def's body -/
theorem body_ok {nm qual : Str} {params : Arguments} {body : List Stmt} {scope : Scope} {dV kV doc pm cdv ct oc : Value} {an od : Option Addr} {osl : Array (Option Value)}
    (lk : K.lookup f = some ⟨oc, od, .func (PySem.W.fnOf nm qual params body scope dV kV doc pm an cdv ct), osl⟩) (hc : PySem.W.codeIn K cdv qual = true) (S : FnScope N ps scope) (hl : ∀ vs H Q E, sp vs H Q E → vs.length = ps.length)
    (hb : ∀ (A : Around) (out : List Env) (s : Shared) (H : Hp) (vs : List V) (Q : VK) (E : XK), A.guards = some [] → Room k (A.deeper (PyProof.Rows.envOfC qual scope s.heap.objs.size f cdv)) → sp vs H Q E →
      ∃ t, PSs (cxOf CX P w K mg base N qual scope f cdv A out s H E) body t ∧ t { nx := fun _ H' => Q .non H', rt := Q } (start N vs) H) :
    FnG P w K mg base CX (k + 1) f (PySem.W.fnOf nm qual params body scope dV kV doc pm an cdv ct) ps sp where
  len := hl
  go := fun A out s H as us vs Q E g hr e0 hbt rv hsp => by
    have kin : K.In s.heap := e0.mod.kin.keeps fun b o e => (e0.bs b o e).1
    have nol : s.heap.NoLimit := e0.mod.nolimit.keeps fun b o e => (e0.bs b o e).1
    have hs : ∀ y ∈ ps.zip us, scope.names.lookup y.1 = some .local ∨ (scope.names.lookup y.1 = some .cell ∧ ((cellsFrom (s.heap.objs.size + 1) scope.names []).lookup y.1).isSome = true) := by
      intro y hy
      rcases S.par y.1 (List.of_mem_zip (a := y.1) (b := y.2) hy).1 with h | h
      · exact .inl h
      · exact .inr ⟨h, PySem.W.cellsFrom_some _ _ _ (.inl h)⟩
    refine codeAny_call_function hr.depth (kin _ _ lk) rfl S.co S.gen rfl (PySem.W.codeRec_of kin hc) (hbt _ _ _ _ ?_)
    refine wpAny_newFunctionEnv_cells S.kind hs fun env he s1 x => ?_
    subst he
    refine ⟨nol.keeps x.toInCall.keep, codeAny_func ?_⟩
    obtain ⟨t, ht, hq⟩ := hb A out s H vs Q E g (hr.deeper _) hsp
    have I := inv_start (CX := CX) (E := E) (cd := cdv) (qual := qual) (f := f) S hr.hd e0 (hl _ _ _ _ hsp) rv x
    refine wpAny_mono (ht.run [] s1 (start N vs) H _ I hq) (fun fl s2 h2 => ?_) fun _ _ h2 => h2
    have done : ∀ {τ : L2.St} {H2 : Hp} {v : V} {u : Value}, Inv (cxOf CX P w K mg base N qual scope f cdv A out s H E) [] τ H2 s2 → RelV v u → Q v H2 → CE out P w H s Q u s2 := fun J r q => ⟨_, _, J.os, J.bare, J.base, J.hok, r, q⟩
    cases fl with
    | next =>
      obtain ⟨_, _, J, q⟩ := h2
      exact done (v := V.non) (u := Value.none) J rfl q
    | ret u =>
      obtain ⟨_, _, _, J, r, q⟩ := h2
      exact done J r q
    | brk =>
      obtain ⟨_, _, _, q⟩ := h2
      exact q.elim
    | cont =>
      obtain ⟨_, _, _, q⟩ := h2
      exact q.elim
theorem FnDok {x qual : Str} {params : Arguments} {body : List Stmt} {scope : Scope} {dvs : List V} {kws : List (Str × V)} (F : FunD K x qual params body scope dvs kws f fd) (S : FnScope N ps scope) (hl : ∀ vs H Q E, sp vs H Q E → vs.length = ps.length)
    (hb : ∀ (cdv : Value) (A : Around) (out : List Env) (s : Shared) (H : Hp) (vs : List V) (Q : VK) (E : XK), A.guards = some [] → Room k (A.deeper (PyProof.Rows.envOfC qual scope s.heap.objs.size f cdv)) → sp vs H Q E →
      ∃ t, PSs (cxOf CX P w K mg base N qual scope f cdv A out s H E) body t ∧ t { nx := fun _ H' => Q .non H', rt := Q } (start N vs) H) : FnG P w K mg base CX (k + 1) f fd ps sp := by
  obtain ⟨_, _, _, _, _, _, _, cdv, _, _, rfl, lk, hc, _, _⟩ := F.ex
  exact body_ok lk hc S hl fun A out s H vs Q E g hr h => hb cdv A out s H vs Q E g hr h
end
section
variable {X : Cx} {CX : CXT} {k : Nat} {f : Addr} {fd : FuncData} {ps : List Str} {sp : Sp} {E : XK} {x : Str} {p pos : Pos} {e : Expr} {es : List Expr} {t : TA}
theorem goG {pins : List (Addr × Obj)} {σ : L2.St} {H : Hp} {s : Shared} {Q : VK} {us : List Value} {vs : List V} (G : FnG X.prog X.w X.K X.mg X.base CX k f fd ps sp) (hg : X.A.guards = some []) (hr : Room k X.A) (hb : Binds X.K fd ps []) (hx : Passes CX X E)
    (I : Inv X pins σ H s) (r : Vals vs us) (h : sp vs H Q E) : wpAny (model X.prog X.w) X.A (call (.ref f) us) (EP X pins σ Q) X.xe s := by
  have hl : (us ++ []).length = ps.length := by rw [List.append_nil, ← r.length]; exact G.len _ _ _ _ h
  have bt := hb s us I.kIn hl
  rw [List.append_nil] at bt
  refine wpAny_call (codeAny_mono (G.go X.A X.stack s H ⟨us, []⟩ us vs Q E hg hr I.env0 bt r h) fun z s2 hz => ?_)
  match z, hz with
  | .error ex, hz => exact hx pins σ H s ex s2 I hz
  | .ok (.ret u), hz => exact I.after hz
theorem pe_callG (G : FnG X.prog X.w X.K X.mg X.base CX k f fd ps sp) (hgd : X.A.guards = some []) (hr : Room k X.A) (hg : Gl X x) (hm : X.mg x = some (.ref f)) (hk : PySem.W.keepIn X.K (.ref f) = true) (hb : Binds X.K fd ps []) (hx : Passes CX X E)
    (ha : PA X (e :: es) t) (hd : (x == ("__debug__" : Str)) = false := by decide) (h1 : starEach (e :: es) X.env = (false, eval e X.env) :: starEach es X.env := by rfl) (h2 : (backTo pos (starEach es X.env)).any (·.1) = false := by rfl) :
    PE X (.Call (.Name x p) (e :: es) [] pos) (tCall sp [] E t) where
  run := fun pins s σ H Q I h => wpAny_Call_Name_kw (ld_glob I hg hm (PySem.W.callWith_K (h₀ := X.base) I.ok.mod.kin hk (thn (ha.run pos pins s σ H _ I h) fun us s1 ⟨vs, H1, I1, r, q⟩ =>
    ⟨I1.kIn, goG G hgd hr hb hx I1 r (List.append_nil vs ▸ q)⟩) h1 h2) hd)
theorem pe_callG0 (G : FnG X.prog X.w X.K X.mg X.base CX k f fd ps sp) (hgd : X.A.guards = some []) (hr : Room k X.A) (hg : Gl X x) (hm : X.mg x = some (.ref f)) (hk : PySem.W.keepIn X.K (.ref f) = true) (hb : Binds X.K fd ps []) (hx : Passes CX X E)
    (hd : (x == ("__debug__" : Str)) = false := by decide) : PE X (.Call (.Name x p) [] [] pos) (tCall sp [] E tNil) where
  run := fun pins s σ H Q I h => wpAny_Call_Name_kw (ld_glob I hg hm (PySem.W.callWith_K0 I.kIn hk (goG G hgd hr hb hx I (us := []) .nil h)) hd)
end
/-- the law's call: from its promise -/
theorem law_goG {P : Program} {w : World} {K : PySem.W.Frag} {mg mb : Str → Option Value} {k : Nat} {fa a : Addr} {fd : FuncData} {x : Str} {sp : Sp} {s1 : Shared} {vs : List Value} {ns : List Int}
    (kin : K.In s1.heap) (hns : s1.heap.Ns mainGlobals mg) (hmb : s1.heap.Ns builtinsNs mb) (hbb : ∀ x : Str, x ≠ "__name__" → mb x = bootBuiltins x) (nol : s1.heap.NoLimit) (hg : s1.gens = #[])
    (ha : s1.heap.get? a = some { cls := .type "list", data := .seq vs.toArray }) (hi : PyProof.Rows.IntsAre vs ns) (hl : ns.length ≤ sizeLine) (hr : Room k callerA)
    (G : ∀ base : Heap, K.In base → base.Ns mainGlobals mg → FnG P w K mg base CX0 k fa fd [x] sp) (hbind : ∀ (s : Shared) (u : Value), BindsTo s fd ⟨[u], []⟩ [(x, u)])
    (hsp : ∀ H : Hp, SqL K H a (ns.map V.int) → sp [.ref a] H (fun v _ => v = .bl true) fun _ _ _ => False) :
    codeAny (model P w) callerA (.call (.ref fa) ⟨[.ref a], []⟩) (fun r s2 => r = .ok (.ret (.bool true)) ∧ OldK s1.heap s2.heap ∧ s2.os = s1.os ∧ AllBare s2.gens) s1 := by
  have rv : Vals (ns.map V.int) vs := vals_ints hi
  have lv := hi.length
  -- what is tracked: the script, where K does not hold it
  have main : ∀ H : Hp, (∀ b u, H b = some u → b = a ∧ K.lookup a = none ∧ ∃ o xs, u = .frz o (.lst xs)) → SqL K H a (ns.map V.int) → HOk P w H s1.heap →
      codeAny (model P w) callerA (.call (.ref fa) ⟨[.ref a], []⟩) (fun r s2 => r = .ok (.ret (.bool true)) ∧ OldK s1.heap s2.heap ∧ s2.os = s1.os ∧ AllBare s2.gens) s1 := by
    intro H hO hS hok
    have isNone : ∀ b, (∀ u, H b ≠ some u) → H b = none := fun b h => by
      cases e : H b with
      | none => rfl
      | some u => exact absurd e (h u)
    have dictNone : ∀ {b : Addr} {o : Obj} {es : Array DictEntry} {ep : Nat}, s1.heap.get? b = some o → o.data = .dict es ep → H b = none := fun {b o es ep} e d => isNone b fun u hu => by
      obtain ⟨rfl, _⟩ := hO b u hu
      rw [ha] at e
      cases e
      exact nomatch (show Data.seq vs.toArray _ = Data.dict es ep from d)
    have nsOf : ∀ {b : Addr} {m : Str → Option Value}, s1.heap.Ns b m → (hidT s1.heap H).Ns b m := fun ⟨o, es, ep, e, d, r⟩ => ⟨o, es, ep, hidT_get e (dictNone e d), d, r⟩
    have hK : K.In (hidT s1.heap H) := fun b o e => hidT_get (kin b o e) (isNone b fun u hu => by
      obtain ⟨rfl, hn, _⟩ := hO b u hu
      rw [hn] at e
      cases e)
    obtain ⟨mc, hc1, hc2⟩ := nol
    have e0 : Env0 P w K mg (hidT s1.heap H) callerA [] s1 H :=
      { frames := rfl, mod := ⟨hK, nsOf hns, ⟨mb, nsOf hmb, hbb⟩, ⟨mc, nsOf hc1, hc2⟩⟩, bs := fun b o e => of_hidT e, bsz := Nat.le_of_eq (hidT_size _ _), funs := trivial, frf := fun b hb => (nomatch hb), hok := hok, bare := .of_eq hg }
    refine codeAny_mono ((G _ hK (nsOf hns)).go callerA [] s1 H ⟨[.ref a], []⟩ [.ref a] [.ref a] _ _ rfl hr e0 (hbind s1 (.ref a)) (.cons rfl .nil) (hsp H hS)) fun r s2 h => ?_
    match r, h with
    | .ok (.ret u), h =>
      obtain ⟨v, H2, os, bare, un, hok2, rr, q⟩ := h
      subst q
      obtain rfl : u = Value.bool true := rr
      refine ⟨rfl, OldK.of_keep fun b o e => ?_, os, bare⟩
      cases hb : H b with
      | none => exact un.keep b o e hb (fun z => nomatch z) (fun z => nomatch z)
      | some u =>
        obtain ⟨_, _, ob, xs, rfl⟩ := hO b u hb
        obtain ⟨e1, _⟩ := hok b _ hb
        obtain ⟨e2, _⟩ := hok2 b _ (un.frzs b ob _ hb)
        rw [e1] at e
        cases e
        exact e2
  cases hk : K.lookup a with
  | none =>
    refine main (upd (fun _ => none) a (.frz { cls := .type "list", data := .seq vs.toArray } (.lst (ns.map V.int)))) (fun b u hb => ?_) (.inl (.inr ⟨_, upd_same⟩)) fun b u hb => ?_
    · by_cases h : b = a
      · subst h
        rw [upd_same] at hb
        exact ⟨rfl, hk, _, _, (Option.some.inj hb).symm⟩
      · rw [upd_ne h] at hb
        cases hb
    · by_cases h : b = a
      · subst h
        rw [upd_same] at hb
        cases hb
        exact ⟨ha, by rw [List.length_map]; exact hl, vs, _, rv, ha⟩
      · rw [upd_ne h] at hb
        cases hb
  | some o =>
    have e := kin a o hk
    rw [ha] at e
    cases e
    exact main (fun _ => none) (fun b u hb => nomatch hb) (.inr ⟨_, vs.toArray, _, hk, rfl, rfl, rfl, by rw [List.size_toArray, lv]; exact hl, by simpa using rv⟩) fun b u hb => nomatch hb
theorem walkG {l : PySem.W.OpenLaw} {n k : Nat} {q : Program} {loose : List Str} {XP : (Str → Option Value) → Heap → Prop} {YP : World → Heap → Prop} {d : DefRec} {x : Str}
    (hn : l.most = some n) (hn2 : n ≤ sizeLine) (hdf : d.params.defaults = []) (hr : Room k callerA)
    (F : ∀ (w : World) (mg : Str → Option Value) (fa : Addr) (h : Heap), YP w h → h.Ns mainGlobals mg → mg d.name = some (.ref fa) →
      ∃ (K : PySem.W.Frag) (fd : FuncData) (sp : Sp), K.In h ∧ (∀ (s : Shared) (u : Value), BindsTo s fd ⟨[u], []⟩ [(x, u)]) ∧
        (∀ (H : Hp) (a : Addr) (ns : List Int), ns.length ≤ n → SqL K H a (ns.map V.int) → sp [.ref a] H (fun v _ => v = .bl true) fun _ _ _ => False) ∧
        ∀ base : Heap, K.In base → base.Ns mainGlobals mg → FnG l.prog w K mg base CX0 k fa fd [x] sp) :
    PySem.W.WalkO q loose XP YP l.row.toRowW d [] (fun f vs => PySem.call f vs) :=
  Att.attach_call hn hdf fun w s0 s1 mg mb fa o pm cd doc a vs ns Gd Y ho hd hcd hmg hobj hints hlen hg => by
    obtain ⟨K, fd, sp, kin, hb, hsp, hF⟩ := F w mg fa _ Y Gd.T.g hmg
    exact law_goG kin Gd.T.g Gd.T.b Gd.T.builtins Gd.T.nolimit hg hobj hints (Nat.le_trans hlen hn2) hr hF hb fun H hS => hsp H a ns hlen hS
def HasG (P : Program) (w : World) (K : PySem.W.Frag) (mg : Str → Option Value) (base : Heap) (x : Str) (ps : List Str) (k : Nat) (sp : Sp) : Prop :=
  ∃ f fd, FnG P w K mg base CX0 k f fd ps sp ∧ mg x = some (.ref f) ∧ PySem.W.keepIn K (.ref f) = true ∧ Binds K fd ps []
end U
set_option Elab.async false
set_option linter.all false
set_option maxRecDepth 100000
set_option maxHeartbeats 4000000
namespace U
open PySem PySem.Spec L2 PyProof.Rows
open Sem (wp)
/-! ### enumerate and zip over lists, tuples, texts -/
/-- the new enumerate's record -/
abbrev enO (it : Addr) : Obj := { cls := .type "enumerate", data := .fields #[.none, .bool false, .ref it, rawInt 0, .none, .none] }
theorem mt_en1 {v : Value} {o : Obj} {Hh : Heap → Prop} (B : Begins v o Hh) : Meets (Builtin.«enumerate.__new__» ⟨[.type "enumerate", v], []⟩)
    (fun _ R s => Hh s.heap ∧ R (.ok (.ret (.ref (s.heap.push o).objs.size))) { s with heap := (s.heap.push o).push (enO s.heap.objs.size) }) :=
  .of_wp fun P w A R s ⟨hh, kk⟩ => by
    obtain ⟨hp, gs, dr, tk, os⟩ := s
    have sb := sub_enumerate
    have it1 : ∀ {A' : Around} {E Q : Value → Shared → Prop}, Q (.ref hp.objs.size) ⟨hp.push o, gs, dr, tk, os⟩ → wpAny (model P w) A' (pyIter v) Q E ⟨hp, gs, dr, tk, os⟩ := fun q => B.iter P w _ _ ⟨hp, gs, dr, tk, os⟩ _ hh q
    wp_walk using it1
    refine wpAny_stack_any fun st => wpAny_pure ?_
    split
    · rename_i c _ _ _ _ _
      cases (c == Value.type "enumerate") <;> (wp_walk using it1; exact ⟨_, rfl, kk⟩)
    · wp_walk using it1
      exact ⟨_, rfl, kk⟩
theorem call_en1 {P : Program} {w : World} {A : Around} {E Q : Value → Shared → Prop} {s : Shared} {v : Value} {o : Obj} {Hh : Heap → Prop} (B : Begins v o Hh) (hh : Hh s.heap)
    (k : ∀ h', IsEnum h' (s.heap.objs.size + 1) s.heap.objs.size 0 .none → h'.get? s.heap.objs.size = some o → (∀ b u, s.heap.get? b = some u → h'.get? b = some u) → Q (.ref (s.heap.objs.size + 1)) { s with heap := h' }) :
    wpAny (model P w) A (call (.type "enumerate") [v]) Q E s := by
  have z1 : (s.heap.push o).objs.size = s.heap.objs.size + 1 := Heap.size_push ..
  refine callType_new F.called_enumerate (by decide) (F.typeCall_enumerate_1 _) (F.newCall_enumerate_1 _) (fun obj => F.args_object_init_2 obj _) F.entry_enumerate_new (mt_en1 B) ⟨hh, ?_⟩
  show _ ∧ _
  rw [z1]
  have e1 : ((s.heap.push o).push (enO s.heap.objs.size)).get? (s.heap.objs.size + 1) = some (enO s.heap.objs.size) := by
    have q := Heap.get?_push_size (s.heap.push o) (o := enO s.heap.objs.size) rfl
    rw [z1] at q; exact q
  exact ⟨⟨_, e1, rfl⟩, k _ e1 (Heap.get?_push_of_some _ (Heap.get?_push_size _ B.free)) fun b u x => Heap.get?_push_of_some _ (Heap.get?_push_of_some _ x)⟩
/-- what is walked by one of these -/
inductive Sk where
  | l (a : Addr)
  | t (a : Addr)
  | s (x : Str)
def Sk.va : Sk → V
  | .l a => .ref a
  | .t a => .ref a
  | .s x => .str x
def sgV (x : Str) : List V := x.cps.toList.map fun c => V.str ⟨#[c]⟩
def Sk.on (K : PySem.W.Frag) (H : Hp) : Sk → List V → Prop
  | .l a, xs => SqL K H a xs
  | .t a, xs => SqT K H a xs
  | .s x, xs => xs = sgV x
def Sk.low (n : Nat) : Sk → Prop
  | .l a => a < n
  | .t a => a < n
  | .s _ => True
def Sk.itr (it : Addr) (i : Nat) (h : Heap) : Sk → Prop
  | .l a => h.IsListIter it a i
  | .t a => h.IsTupleIter it a i
  | .s x => ∃ t, h.IsStrIter it (strIterType x) x t i
theorem Sk.itr_obj {it : Addr} {i : Nat} {h : Heap} {k : Sk} (st : k.itr it i h) : ∃ o, h.get? it = some o ∧ ∀ v, o.data ≠ .cell v := by
  cases k with
  | l a => obtain ⟨o, e, _, d⟩ := st; exact ⟨o, e, fun v z => by rw [d] at z; cases z⟩
  | t a => obtain ⟨o, e, _, d⟩ := st; exact ⟨o, e, fun v z => by rw [d] at z; cases z⟩
  | s x => obtain ⟨t, o, e, _, d⟩ := st; exact ⟨o, e, fun v z => by rw [d] at z; cases z⟩
theorem Sk.itr_keep {it : Addr} {i : Nat} {h h' : Heap} {k : Sk} (st : k.itr it i h) (hk : ∀ o, h.get? it = some o → h'.get? it = some o) : k.itr it i h' := by
  cases k with
  | l a => exact st.at hk
  | t a => exact st.at hk
  | s x => obtain ⟨t, o, e, c, d⟩ := st; exact ⟨t, o, hk o e, c, d⟩
section
variable {X : Cx} {pins : List (Addr × Obj)} {σ : L2.St} {H : Hp} {s : Shared}
theorem vals_get {xs : List V} {us : List Value} {j : Nat} {u : Value} (r : Vals xs us) (h : us[j]? = some u) : ∃ x, xs[j]? = some x ∧ RelV x u := by
  induction r generalizing j with
  | nil => simp at h
  | cons r _ ih =>
    cases j with
    | zero => simp at h; subst h; exact ⟨_, rfl, r⟩
    | succ j => exact ih (by simpa using h)
theorem Sk.draw {k : Sk} {xs : List V} {N : Nat} {it : Addr} {i : Nat} (I : Inv X pins σ H s) (hh : X.A.handled = none) (on : k.on X.K H xs) (lo : k.low N) (hN : N ≤ it) (st : k.itr it i s.heap) :
    ∃ (fp : List Addr) (P : Nat → Value → Prop) (T : Nat → Heap → Prop), Draws X.prog X.w X.A.in1 it (it :: fp) xs.length P T ∧ T i s.heap ∧ (∀ j h', T j h' → k.itr it j h') ∧ (∀ j v, P j v → ∃ x, xs[j]? = some x ∧ RelV x v) ∧ ∀ b ∈ fp, b < N := by
  cases k with
  | l a =>
    obtain ⟨its, rv, p, _⟩ := I.list on
    have lo' : a < N := lo
    have hl : its.toArray.size = xs.length := by rw [List.size_toArray]; exact rv.length.symm
    have D := Draws.list (prog := X.prog) (w := X.w) (A := X.A.in1) hh it a (Nat.ne_of_lt (Nat.lt_of_lt_of_le lo' hN)) its.toArray
    rw [hl] at D
    exact ⟨[a], _, _, D, ⟨st, p.isList⟩, fun j h' z => z.1, fun j v z => vals_get rv (by simpa using z), fun b hb => by rw [List.mem_singleton.mp hb]; exact lo'⟩
  | t a =>
    obtain ⟨its, rv, p, _⟩ := I.tuple on
    have lo' : a < N := lo
    have hl : its.toArray.size = xs.length := by rw [List.size_toArray]; exact rv.length.symm
    have D := Draws.tuple (prog := X.prog) (w := X.w) (A := X.A.in1) hh it a (Nat.ne_of_lt (Nat.lt_of_lt_of_le lo' hN)) its.toArray
    rw [hl] at D
    exact ⟨[a], _, _, D, ⟨st, show s.heap.IsTuple a its.toArray from p⟩, fun j h' z => z.1, fun j v z => vals_get rv (by simpa using z), fun b hb => by rw [List.mem_singleton.mp hb]; exact lo'⟩
  | s x =>
    obtain ⟨t, st⟩ := st
    have e : xs = sgV x := on
    subst e
    have D := Draws.text (prog := X.prog) (w := X.w) (A := X.A.in1) hh it x t
    have hl : x.cps.size = (sgV x).length := by simp [sgV]
    rw [hl] at D
    refine ⟨[], _, _, D, st, fun j h' z => ⟨t, z⟩, fun j v z => ?_, fun b hb => by cases hb⟩
    obtain ⟨c, u, hc, rfl⟩ := z
    refine ⟨.str ⟨#[c]⟩, ?_, u, rfl⟩
    unfold sgV
    rw [List.getElem?_map]
    have : x.cps.toList[j]? = some c := by simpa using hc
    rw [this]; rfl
/-- one new tuple is drawn -/
theorem wt_item {I0 : Addr} {fp wr : List Addr} {n i : Nat} {Pt : Nat → Array Value → Prop} {T : Nat → Heap → Prop} {Mid : Nat → Addr → Heap → Prop} {elts : List Expr} {kk : Nat} {tpos : Pos} {E : Value → Shared → Prop} {Y : List V → Prop}
    (W : WalksT X.prog X.w X.A I0 fp wr n Pt T Mid) (I : Inv X pins σ H s) (hf : ∀ b ∈ wr, FpOk X pins H b) (hw : ∀ b ∈ wr, b < s.heap.objs.size) (hi : i < n) (st : T i s.heap)
    (hP : ∀ vals, Pt i vals → ∃ (xs : List V) (us : List Value), vals = us.toArray ∧ Vals xs us ∧ xs.length ≤ sizeLine ∧ Y xs) :
    wpAny (model X.prog X.w) X.A (pyNext (.ref I0)) (fun r s1 => ∃ u, r = some u ∧ wpAny (model X.prog X.w) X.A (letOwnedTupleGo (.Tuple elts kk tpos) (.ref I0) u)
      (fun _ s2 => ∃ x H', Inv X pins σ H' s2 ∧ RelV x u ∧ (∃ q xs, x = .ref q ∧ s.heap.objs.size ≤ q ∧ H q = none ∧ H' = upd H q (.tup xs) ∧ Y xs) ∧ T (i + 1) s2.heap ∧ ∀ b ∈ wr, H' b = none) E s1) E s := by
  refine W.item i s _ _ hi st fun q vals h1 tk hv hq hT hM k1 => ⟨_, rfl, W.go _ _ _ i q _ _ _ hM fun h2 s2 k2 => ?_⟩
  obtain ⟨xs, us, rfl, rv, hz, y⟩ := hP vals hv
  have hqw := W.apart i q _ hM
  obtain ⟨o, ho, hc, m, hd⟩ := hT
  have new : ObjOk X.prog X.w (upd H q (.tup xs)) h2 q (.tup xs) := ⟨hz, us, rv, ⟨o, k2 q o hqw ho, hc, m, hd⟩⟩
  have I1 : Inv X pins σ (upd H q (.tup xs)) { s with heap := h2, toks := tk } := I.turnedNew (ch := wr) (fun b u hb e => k2 b u hb (k1 b u hb e)) hf hq new
  refine ⟨.ref q, _, I1, rfl, ⟨q, xs, rfl, hq, I.hok.fresh hq, rfl, y⟩, s2, fun b hb => ?_⟩
  rw [upd_ne (Nat.ne_of_lt (Nat.lt_of_lt_of_le (hw b hb) hq))]
  exact (hf b hb).1
end
/-! enumerate -/
def Jen (K : PySem.W.Frag) (k : Sk) (xs : List V) : It :=
  ⟨fun i H => i < xs.length ∧ k.on K H xs, fun i H v H' => ∃ q ys, v = .ref q ∧ H q = none ∧ H' = upd H q (.tup ys) ∧ ∃ x, ys = [.int (i : Nat), x] ∧ xs[i]? = some x, fun i H => xs.length ≤ i ∧ k.on K H xs⟩
theorem turn_en {P : Program} {w : World} {K : PySem.W.Frag} {elts : List Expr} {kk : Nat} {tpos : Pos} {k : Sk} {xs : List V} {N : Nat} (lo : k.low N) :
    Turn P w K (.Tuple elts kk tpos) (Jen K k xs) [N + 1, N] (N + 1) (fun i h => i ≤ xs.length ∧ (∃ old, IsEnum h (N + 1) N ((i : Nat) : Int) old) ∧ k.itr N i h) where
  mem := by simp
  obj := fun i h ⟨_, ⟨old, he⟩, st⟩ b hb => by
    have e : b = N + 1 ∨ b = N := by simpa using hb
    rcases e with rfl | rfl
    · exact ⟨_, he, fun v q => nomatch q⟩
    · exact (Sk.itr_obj st)
  keep := fun i h h' ⟨hi, ⟨old, he⟩, st⟩ hk => ⟨hi, ⟨old, hk _ (by simp) _ he⟩, Sk.itr_keep st (hk N (by simp))⟩
  item := by
    intro X hP hw hK hc i pins s σ H E I hf ⟨hi, he, st⟩ ⟨hlt, on⟩
    subst hP hw hK
    obtain ⟨fp, Pp, T, D, t0, t1, t2, t3⟩ := Sk.draw I (I.ok.hd hc) on lo (Nat.le_refl N) st
    have W := WalksT.enumerateD D (N + 1) (Nat.succ_ne_self N) (fun hm => by
      rcases List.mem_cons.mp hm with e | e
      · exact Nat.succ_ne_self N e
      · exact absurd (t3 _ e) (Nat.not_lt.mpr (Nat.le_succ N))) (by simp)
    have hl : ∀ b ∈ [N + 1, N], b < s.heap.objs.size := fun b hb => by
      have e : b = N + 1 ∨ b = N := by simpa using hb
      rcases e with rfl | rfl
      · obtain ⟨old, he⟩ := he; exact Heap.lt_size he
      · obtain ⟨o, e, _⟩ := (Sk.itr_obj st); exact Heap.lt_size e
    refine wpAny_mono (wt_item (Y := fun ys => ∃ x, ys = [.int (i : Nat), x] ∧ xs[i]? = some x) W I hf hl hlt ⟨he, t0⟩ fun vals ⟨tk, u, hu, e⟩ => ?_) (fun r s1 ⟨u, e, q⟩ => ⟨u, e, wpAny_mono q (fun _ s2 ⟨x, H', a, b, ⟨q1, zs1, c1, _, c⟩, ⟨⟨old, d1⟩, d2⟩, f⟩ => ?_) fun _ _ z => z⟩) fun _ _ z => z
    · obtain ⟨x, hx, r⟩ := t2 i u hu
      exact ⟨[.int (i : Nat), x], [.int i tk, u], by rw [e], .cons ⟨_, rfl⟩ (.cons r .nil), by show 2 ≤ sizeLine; decide, x, rfl, hx⟩
    · refine ⟨x, H', a, b, ⟨q1, zs1, c1, c⟩, ⟨hlt, ⟨old, ?_⟩, t1 _ _ d2⟩, f⟩
      exact d1
  done := by
    intro X hP hw hK hc i pins s σ H E I hf ⟨hi, he, st⟩ ⟨hge, on⟩
    subst hP hw hK
    have ei : i = xs.length := Nat.le_antisymm hi hge
    subst ei
    obtain ⟨old, he⟩ := he
    obtain ⟨fp, Pp, T, D, t0, t1, t2, t3⟩ := Sk.draw I (I.ok.hd hc) on lo (Nat.le_refl N) st
    exact wpAny_pyNext_enum_endD D he t0 fun h' eb => ⟨rfl, I.turnedL (t' := s.toks) (ch := [N + 1, N]) (fun b o hb q => eb b o (fun z => hb (by simp [z])) q) hf⟩
  self := fun A i s Q E ⟨_, ⟨_, he⟩, _⟩ h => wpAny_pyIter_enum he h
def iEn (K : PySem.W.Frag) (ta : TA) : TI := fun σ H R => ta σ H fun vs H1 => ∃ k xs, vs = [k.va] ∧ k.on K H1 xs ∧ R (Jen K k xs) H1
section
variable {X : Cx} {pins : List (Addr × Obj)} {σ : L2.St} {H : Hp} {s : Shared}
/-- it begins -/
theorem Sk.begins {k : Sk} {xs : List V} {u : Value} (I : Inv X pins σ H s) (on : k.on X.K H xs) (r : RelV k.va u) :
    ∃ (o : Obj) (Hh : Heap → Prop), Begins u o Hh ∧ Hh s.heap ∧ k.low s.heap.objs.size ∧ ∀ it h', h'.get? it = some o → k.itr it 0 h' := by
  cases k with
  | l a =>
    cases r
    obtain ⟨its, rv, p, _⟩ := I.list on
    exact ⟨_, _, begins_list a its.toArray, p.isList, p.lt, fun it h' e => ⟨_, e, rfl, rfl⟩⟩
  | t a =>
    cases r
    obtain ⟨its, rv, p, _⟩ := I.tuple on
    exact ⟨_, _, begins_tuple a its.toArray, show s.heap.IsTuple a its.toArray from p, (let ⟨_, e, _⟩ := p; Heap.lt_size e), fun it h' e => ⟨_, e, rfl, rfl⟩⟩
  | s x =>
    obtain ⟨t, rfl⟩ := r
    exact ⟨_, _, begins_text x t, trivial, trivial, fun it h' e => ⟨t, _, e, rfl, rfl⟩⟩
theorem pi_en {e : Expr} {ta : TA} {p pos tpos : Pos} {elts : List Expr} {kk : Nat} {K : PySem.W.Frag} (hK : X.K = K) (hg : Gl X "enumerate") (hm : X.mg "enumerate" = none) (ha : PA X [e] ta) (hs : starEach [e] X.env = [(false, eval e X.env)] := by rfl) :
    PI X (.Tuple elts kk tpos) (.Call (.Name "enumerate" p) [e] [] pos) (iEn K ta) := by
  subst hK
  refine ⟨fun pins s σ H R I h => Call_ (ld_blt I hg hm boot_enumerate (PyProof.Rows.callWith_type1 (thn (ha.run pos pins s σ H _ I h) fun us s1 ⟨vs, H1, I1, r1, k, xs, e1, on, q⟩ => ?_) hs rfl))⟩
  subst e1
  cases r1 with
  | cons r rr =>
    cases rr
    obtain ⟨o, Hh, B, hh, lo, fin⟩ := Sk.begins I1 on r
    refine call_en1 B hh fun h' he ho hk => wpAny_pyIter_enum he ?_
    refine ⟨_, [s1.heap.objs.size + 1, s1.heap.objs.size], _, _, H1, rfl, I1.kept (t' := s1.toks) hk, turn_en (xs := xs) lo, ⟨Nat.zero_le _, ⟨.none, he⟩, fin _ _ ho⟩, fun b hb => ?_, q⟩
    have hle : s1.heap.objs.size ≤ b := by
      have e : b = s1.heap.objs.size + 1 ∨ b = s1.heap.objs.size := by simpa using hb
      rcases e with z | z
      · rw [z]; exact Nat.le_succ _
      · rw [z]; exact Nat.le_refl _
    exact I1.fpOk hle (I1.hok.fresh hle)
end
/-! zip of two -/
def Jzp (K : PySem.W.Frag) (k k' : Sk) (xs ys : List V) : It :=
  ⟨fun i H => i < min xs.length ys.length ∧ k.on K H xs ∧ k'.on K H ys, fun i H v H' => ∃ q zs, v = .ref q ∧ H q = none ∧ H' = upd H q (.tup zs) ∧ ∃ x y, zs = [x, y] ∧ xs[i]? = some x ∧ ys[i]? = some y, fun i H => min xs.length ys.length ≤ i ∧ k.on K H xs ∧ k'.on K H ys⟩
theorem turn_zp {P : Program} {w : World} {K : PySem.W.Frag} {elts : List Expr} {kk : Nat} {tpos : Pos} {k k' : Sk} {xs ys : List V} {N : Nat} (lo : k.low N) (lo' : k'.low N) :
    Turn P w K (.Tuple elts kk tpos) (Jzp K k k' xs ys) [N + 4, N + 2, N + 3, N, N + 1] (N + 4)
      (fun i h => i ≤ min xs.length ys.length ∧ IsZip h (N + 4) (N + 2) (N + 3) .none ∧ IsTupOf2 h (N + 2) (.ref N) (.ref (N + 1)) ∧ (∃ x y, IsTupOf2 h (N + 3) x y) ∧ k.itr N i h ∧ k'.itr (N + 1) i h) where
  mem := by simp
  obj := fun i h ⟨_, hz, hI, ⟨x, y, hO⟩, st, st'⟩ b hb => by
    have e : b = N + 4 ∨ b = N + 2 ∨ b = N + 3 ∨ b = N ∨ b = N + 1 := by simpa using hb
    rcases e with rfl | rfl | rfl | rfl | rfl
    · exact ⟨_, hz, fun v q => nomatch q⟩
    · exact ⟨_, hI, fun v q => nomatch q⟩
    · exact ⟨_, hO, fun v q => nomatch q⟩
    · exact (Sk.itr_obj st)
    · exact (Sk.itr_obj st')
  keep := fun i h h' ⟨hi, hz, hI, ⟨x, y, hO⟩, st, st'⟩ hk => ⟨hi, hk _ (by simp) _ hz, hk _ (by simp) _ hI, ⟨x, y, hk _ (by simp) _ hO⟩, Sk.itr_keep st (hk N (by simp)), Sk.itr_keep st' (hk _ (by simp))⟩
  item := by
    intro X hP hw hK hc i pins s σ H E I hf ⟨hi, hz, hI, hO, st, st'⟩ ⟨hlt, on, on'⟩
    subst hP hw hK
    obtain ⟨fp, Pp, T, D, t0, t1, t2, t3⟩ := Sk.draw I (I.ok.hd hc) on lo (Nat.le_refl N) st
    obtain ⟨fp', Pp', T', D', t0', t1', t2', t3'⟩ := Sk.draw I (I.ok.hd hc) on' lo' (Nat.le_succ N) st'
    have W := WalksT.zipD2 (zip_sep2 t3 t3') D D'
    have sub : ∀ b ∈ [N + 4, N + 3, N, N + 1], b ∈ [N + 4, N + 2, N + 3, N, N + 1] := fun b hb => by
      have e : b = N + 4 ∨ b = N + 3 ∨ b = N ∨ b = N + 1 := by simpa using hb
      rcases e with rfl | rfl | rfl | rfl <;> simp
    have hl : ∀ b ∈ [N + 4, N + 2, N + 3, N, N + 1], b < s.heap.objs.size := fun b hb => by
      have e : b = N + 4 ∨ b = N + 2 ∨ b = N + 3 ∨ b = N ∨ b = N + 1 := by simpa using hb
      rcases e with rfl | rfl | rfl | rfl | rfl
      · exact Heap.lt_size hz
      · exact Heap.lt_size hI
      · obtain ⟨_, _, e⟩ := hO; exact Heap.lt_size e
      · obtain ⟨o, e, _⟩ := (Sk.itr_obj st); exact Heap.lt_size e
      · obtain ⟨o, e, _⟩ := (Sk.itr_obj st'); exact Heap.lt_size e
    refine wpAny_mono (wt_item (Y := fun zs => ∃ x y, zs = [x, y] ∧ xs[i]? = some x ∧ ys[i]? = some y) W I (fun b hb => hf b (sub b hb)) (fun b hb => hl b (sub b hb)) hlt ⟨hz, hI, hO, t0, t0'⟩ fun vals ⟨u, u', hu, hu', e⟩ => ?_)
      (fun r s1 ⟨u, e, q⟩ => ⟨u, e, wpAny_mono q (fun _ s2 ⟨x, H', a, b, c, ⟨d1, d2, d3, d4, d5⟩, f⟩ => ?_) fun _ _ z => z⟩) fun _ _ z => z
    · obtain ⟨x, hx, r⟩ := t2 i u hu
      obtain ⟨y, hy, r'⟩ := t2' i u' hu'
      exact ⟨[x, y], [u, u'], by rw [e], .cons r (.cons r' .nil), by show 2 ≤ sizeLine; decide, x, y, rfl, hx, hy⟩
    · obtain ⟨q, zs, e1, hq, c⟩ := c
      refine ⟨x, H', a, b, ⟨q, zs, e1, c⟩, ⟨hlt, d1, d2, d3, t1 _ _ d4, t1' _ _ d5⟩, fun m hm => ?_⟩
      rw [c.2.1, upd_ne (Nat.ne_of_lt (Nat.lt_of_lt_of_le (hl m hm) hq))]
      exact (hf m hm).1
  done := by
    intro X hP hw hK hc i pins s σ H E I hf ⟨hi, hz, hI, hO, st, st'⟩ ⟨hge, on, on'⟩
    subst hP hw hK
    have ei : i = min xs.length ys.length := Nat.le_antisymm hi hge
    subst ei
    obtain ⟨fp, Pp, T, D, t0, t1, t2, t3⟩ := Sk.draw I (I.ok.hd hc) on lo (Nat.le_refl N) st
    obtain ⟨fp', Pp', T', D', t0', t1', t2', t3'⟩ := Sk.draw I (I.ok.hd hc) on' lo' (Nat.le_succ N) st'
    have W := WalksT.zipD2 (zip_sep2 t3 t3') D D'
    exact W.done s _ _ ⟨hz, hI, hO, t0, t0'⟩ fun h' tk hk => ⟨rfl, I.turnedL (ch := [N + 4, N + 2, N + 3, N, N + 1]) (fun b o hb q => hk b o (fun z => hb (by
      have e : b = N + 4 ∨ b = N + 3 ∨ b = N ∨ b = N + 1 := by simpa using z
      rcases e with rfl | rfl | rfl | rfl <;> simp)) q) hf⟩
  self := fun A i s Q E ⟨_, hz, _⟩ h => wpAny_pyIter_zip hz h
def iZp (K : PySem.W.Frag) (ta : TA) : TI := fun σ H R => ta σ H fun vs H1 => ∃ k k' xs ys, vs = [k.va, k'.va] ∧ k.on K H1 xs ∧ k'.on K H1 ys ∧ R (Jzp K k k' xs ys) H1
section
variable {X : Cx}
theorem pi_zp {e e2 : Expr} {ta : TA} {p pos tpos : Pos} {elts : List Expr} {kk : Nat} {K : PySem.W.Frag} (hK : X.K = K) (hg : Gl X "zip") (hm : X.mg "zip" = none) (ha : PA X [e, e2] ta)
    (hs : starEach [e, e2] X.env = (false, eval e X.env) :: starEach [e2] X.env := by rfl) (hpl : (backTo pos (starEach [e2] X.env)).any (·.1) = false := by rfl) : PI X (.Tuple elts kk tpos) (.Call (.Name "zip" p) [e, e2] [] pos) (iZp K ta) := by
  subst hK
  refine ⟨fun pins s σ H R I h => Call_ (ld_blt I hg hm PyProof.Rows.boot_zip (PyProof.Rows.callWith_type1 (thn (ha.run pos pins s σ H _ I h) fun us s1 ⟨vs, H1, I1, r1, k, k', xs, ys, e1, on, on', q⟩ => ?_) hs hpl))⟩
  subst e1
  cases r1 with
  | cons r rr =>
    cases rr with
    | cons r' rr =>
      cases rr
      obtain ⟨o, Hh, B, hh, lo, fin⟩ := Sk.begins I1 on r
      obtain ⟨o', Hh', B', hh', lo', fin'⟩ := Sk.begins I1 on' r'
      refine zip_begins2 B B' hh hh' fun h' hz hI hO ho ho' hsz hk => wpAny_pyIter_zip hz ?_
      refine ⟨_, [s1.heap.objs.size + 4, s1.heap.objs.size + 2, s1.heap.objs.size + 3, s1.heap.objs.size, s1.heap.objs.size + 1], _, _, H1, rfl, I1.kept (t' := s1.toks) hk, turn_zp (xs := xs) (ys := ys) lo lo', ⟨Nat.zero_le _, hz, hI, ⟨_, _, hO⟩, fin _ _ ho, fin' _ _ ho'⟩, fun b hb => ?_, q⟩
      have hle : s1.heap.objs.size ≤ b := by
        have e : b = s1.heap.objs.size + 4 ∨ b = s1.heap.objs.size + 2 ∨ b = s1.heap.objs.size + 3 ∨ b = s1.heap.objs.size ∨ b = s1.heap.objs.size + 1 := by simpa using hb
        rcases e with z | z | z | z | z <;> (rw [z]; first | exact Nat.le_refl _ | exact Nat.le_add_right _ _)
      exact I1.fpOk hle (I1.hok.fresh hle)
end
section
variable {α β : Type} {K : PySem.W.Frag} {k k' : Sk} {vs ws : List V} {xs : List α} {ys : List β} {t : Rp α} {u : Rp β} {F : Hp}
theorem sr_En (h : Al t F vs xs) : Sr (Jen K k vs) (fun H => k.on K H vs) (enumL xs) (fun H x H' a => ∃ T y, x = .ref T ∧ H T = none ∧ H' = upd H T (.tup [.int a.1, y]) ∧ t.r F y a.2) := by
  refine ⟨fun i H hi hq => ⟨?_, hq⟩, fun H hq => ⟨by rw [al_len h]; simp [enumL], hq⟩, fun i H x H' hq y a ha => ?_⟩
  · rw [al_len h]; simpa [enumL] using hi
  · obtain ⟨q, zs, e1, e2, e3, z, e4, e5⟩ := y
    unfold enumL at ha
    rw [List.getElem?_mapIdx] at ha
    cases e : xs[i]? with
    | none => rw [e] at ha; cases ha
    | some b =>
      rw [e] at ha
      have ea : ((i : Int), b) = a := Option.some.inj ha
      subst ea
      obtain ⟨v, ev, r⟩ := pd_get h e
      rw [ev] at e5; cases e5
      exact ⟨q, _, e1, e2, by rw [e3, e4], r⟩
theorem sr_Zp (h : Al t F vs xs) (h' : Al u F ws ys) : Sr (Jzp K k k' vs ws) (fun H => k.on K H vs ∧ k'.on K H ws) (xs.zip ys) (fun H x H' a => ∃ T y z, x = .ref T ∧ H T = none ∧ H' = upd H T (.tup [y, z]) ∧ t.r F y a.1 ∧ u.r F z a.2) := by
  have l1 := al_len h
  have l2 := al_len h'
  refine ⟨fun i H hi hq => ⟨?_, hq⟩, fun H hq => ⟨by rw [List.length_zip]; omega, hq⟩, fun i H x H' hq y a ha => ?_⟩
  · rw [List.length_zip] at hi; omega
  · obtain ⟨q, zs, e1, e2, e3, y1, y2, e4, e5, e6⟩ := y
    rw [List.getElem?_zip_eq_some] at ha
    obtain ⟨v, ev, r⟩ := pd_get h ha.1
    obtain ⟨v', ev', r'⟩ := pd_get h' ha.2
    rw [ev] at e5; cases e5
    rw [ev'] at e6; cases e6
    exact ⟨q, _, _, e1, e2, by rw [e3, e4], r, r'⟩
theorem al_sg (s : Sg) : Al eS F (sgV (S s)) (signs s) := by
  unfold sgV signs
  show Al eS F (s.map fun c => V.str ⟨#[c]⟩) (s.map fun c => [c])
  induction s with
  | nil => exact .nil
  | cons c r ih => exact .cons ⟨rfl, one_le⟩ ih
end
section
variable {K : PySem.W.Frag} {σ : L2.St} {H : Hp} {k k' : Sk} {vs ws : List V} {ta : TA} {R : RIt}
def qEn (K : PySem.W.Frag) (R : RIt) : List V → Hp → Prop := fun vs H1 => ∃ k xs, vs = [k.va] ∧ k.on K H1 xs ∧ R (Jen K k xs) H1
def qZp (K : PySem.W.Frag) (R : RIt) : List V → Hp → Prop := fun vs H1 => ∃ k k' xs ys, vs = [k.va, k'.va] ∧ k.on K H1 xs ∧ k'.on K H1 ys ∧ R (Jzp K k k' xs ys) H1
theorem n_en (h : ta σ H (qEn K R)) : iEn K ta σ H R := h
theorem n_zp (h : ta σ H (qZp K R)) : iZp K ta σ H R := h
theorem v_en (on : k.on K H vs) (q : R (Jen K k vs) H) : qEn K R [k.va] H := ⟨k, vs, rfl, on, q⟩
theorem v_zp (on : k.on K H vs) (on' : k'.on K H ws) (q : R (Jzp K k k' vs ws) H) : qZp K R [k.va, k'.va] H := ⟨k, k', vs, ws, rfl, on, on', q⟩
end
end U
set_option Elab.async false
set_option linter.all false
set_option maxRecDepth 100000
set_option maxHeartbeats 4000000
namespace U
open PySem PySem.Spec L2
/-! ### data: repr, == and != at any depth -/
mutual
theorem dp_nodict {K : PySem.W.Frag} {H : Hp} : ∀ {v : V} {d : PyData}, Dp K H v d → d.hasDict = false
  | _, _, .non => by simp only [PyData.hasDict]
  | _, _, .bl b => by simp only [PyData.hasDict]
  | _, _, .int i => by simp only [PyData.hasDict]
  | _, _, .str x => by simp only [PyData.hasDict]
  | _, _, .lst _ h => by simp only [PyData.hasDict]; exact dpa_nodict h
  | _, _, .tup _ h => by simp only [PyData.hasDict]; exact dpa_nodict h
theorem dpa_nodict {K : PySem.W.Frag} {H : Hp} : ∀ {vs : List V} {ds : List PyData}, DpAll K H vs ds → PyData.hasDictAll ds = false
  | _, _, .nil => by simp only [PyData.hasDictAll]
  | _, _, .cons h1 h2 => by simp only [PyData.hasDictAll, dp_nodict h1, dpa_nodict h2, Bool.or_self]
end
def reprB (d : PyData) : Bool := d.showable && decide (d.depth ≤ 60 ∧ d.shown.length ≤ 16777216)
def reprM (d : PyData) : Option Sg := need (reprB d) d.shown.cps.toList
def qRepr (K : PySem.W.Frag) : RCl := fun xs H Q => ∃ v d, xs = [v] ∧ Dp K H v d ∧ reprB d = true ∧ Q (.str d.shown) H
theorem c_repr {X : Cx} {K : PySem.W.Frag} {k : Nat} (hK : X.K = K) (hg : X.A.guards = some []) (hr : Room k X.A) : CallR X (.builtin "repr") (qRepr K) := by
  subst hK
  intro pins s σ H xs us Q I rv ⟨v, d, e, hd, hb, q⟩
  subst e
  cases rv with
  | cons r rr =>
    cases rr
    obtain ⟨as, rd⟩ := Dp.reads I d _ _ hd r
    have nd := dp_nodict hd
    unfold reprB at hb
    rw [Bool.and_eq_true] at hb
    obtain ⟨h1, h2⟩ := hb
    have h3 := of_decide_eq_true h2
    have hz : d.shown.length ≤ sizeLine := by rw [sizeLine_eq]; exact h3.2
    cases hd with
    | non =>
      cases r
      exact PySem.P.repr_of_none ⟨.str _, H, I.tok _, ⟨_, rfl⟩, by simpa [PyData.shown] using q⟩
    | bl b =>
      cases r
      exact PySem.P.repr_of_bool ⟨.str _, H, I.tok _, ⟨_, rfl⟩, by simpa [PyData.shown] using q⟩
    | int i =>
      obtain ⟨t, rfl⟩ := r
      exact PySem.P.repr_of_int (by simpa [PyData.showable] using h1) ⟨.str _, H, I.tok _, ⟨_, rfl⟩, by simpa [PyData.shown] using q⟩
    | str x =>
      obtain ⟨t, rfl⟩ := r
      exact PySem.P.repr_of_str ⟨.str _, H, I.tok _, ⟨_, rfl⟩, by simpa [PyData.shown] using q⟩ (by simpa [PyData.shown] using hz)
    | lst _ _ =>
      cases r
      exact PySem.repr_of_reads' rd h1 (fun z => by rw [nd] at z; cases z) hg (by have := hr.un; omega) (fun _ _ e => e) (fun h' u tk hk => ⟨.str _, H, I.kept hk, ⟨u, rfl⟩, q⟩) hz
    | tup _ _ =>
      cases r
      exact PySem.repr_of_reads' rd h1 (fun z => by rw [nd] at z; cases z) hg (by have := hr.un; omega) (fun _ _ e => e) (fun h' u tk hk => ⟨.str _, H, I.kept hk, ⟨u, rfl⟩, q⟩) hz
/-- a typed value's data -/
structure Dt {α : Type} (t : Rp α) where
  d : α → PyData
  ok : ∀ {K : PySem.W.Frag} {F H : Hp} {v : V} {x : α}, Sub F H → t.r F v x → Dp K H v (d x)
  eqv : ∀ x y, PyData.eqv (d x) (d y) = true ↔ x = y
section
variable {α β γ : Type} {t : Rp α} {ta : Rp α} {tb : Rp β} {tc : Rp γ} {K : PySem.W.Frag} {F H : Hp} {v : V} {vs : List V} {xs : List α} {x y : α} {p : Addr} {Q : VK} {r : Sg}
theorem dt_all (D : Dt t) (hs : Sub F H) (h : Al t F vs xs) : DpAll K H vs (xs.map D.d) := by
  induction h with
  | nil => exact .nil
  | cons r _ ih => exact .cons (D.ok hs r) ih
theorem eqv_all (D : Dt t) : ∀ xs ys : List α, PyData.eqvAll (xs.map D.d) (ys.map D.d) = true ↔ xs = ys
  | [], [] => by simp [PyData.eqvAll]
  | [], _ :: _ => by simp [PyData.eqvAll]
  | _ :: _, [] => by simp [PyData.eqvAll]
  | x :: xs, y :: ys => by
    simp only [List.map_cons, PyData.eqvAll, Bool.and_eq_true, List.cons.injEq]
    rw [D.eqv, eqv_all D xs ys]
def dI : Dt eI := ⟨fun i => .int i, fun _ h => by have e : _ = V.int _ := h; subst e; exact .int _, fun x y => by simp [PyData.eqv]⟩
def dB : Dt eB := ⟨fun b => .bool b, fun _ h => by have e : _ = V.bl _ := h; subst e; exact .bl _, fun x y => by simp [PyData.eqv]⟩
def dN : Dt eN := ⟨fun _ => .none, fun _ h => by have e : _ = V.non := h; subst e; exact .non, fun x y => by simp [PyData.eqv]⟩
def dS : Dt eS := ⟨fun s => .str (S s), fun _ h => by obtain ⟨e, _⟩ := h; subst e; exact .str _, fun x y => by simp only [PyData.eqv, beq_iff_eq]; exact S_inj⟩
def dP2 (a : Dt ta) (b : Dt tb) : Dt (eP2 ta tb) := ⟨fun x => .tuple [a.d x.1, b.d x.2], fun hs ⟨p, y, z, e, q, h1, h2⟩ => by
  subst e; exact .tup (.inl (.inl (hs _ _ q))) (.cons (a.ok hs h1) (.cons (b.ok hs h2) .nil)), fun x y => by
  simp only [PyData.eqv, PyData.eqvAll, Bool.and_true, Bool.and_eq_true, a.eqv, b.eqv]; exact (Prod.ext_iff).symm⟩
def dP3 (a : Dt ta) (b : Dt tb) (c : Dt tc) : Dt (eP3 ta tb tc) := ⟨fun x => .tuple [a.d x.1, b.d x.2.1, c.d x.2.2], fun hs ⟨p, y, z, w, e, q, h1, h2, h3⟩ => by
  subst e; exact .tup (.inl (.inl (hs _ _ q))) (.cons (a.ok hs h1) (.cons (b.ok hs h2) (.cons (c.ok hs h3) .nil))), fun x y => by
  simp only [PyData.eqv, PyData.eqvAll, Bool.and_true, Bool.and_eq_true, a.eqv, b.eqv, c.eqv]; rw [Prod.ext_iff, Prod.ext_iff]⟩
def dL (a : Dt t) : Dt (eL t) := ⟨fun x => .list (x.map a.d), fun hs ⟨p, vs, e, q, h⟩ => by subst e; exact .lst (.inl (.inl (hs _ _ q))) (dt_all a hs h), fun x y => by
  simp only [PyData.eqv]; exact eqv_all a x y⟩
def dT (a : Dt t) : Dt (eT t) := ⟨fun x => .tuple (x.map a.d), fun hs ⟨p, vs, e, q, h⟩ => by subst e; exact .tup (.inl (.inl (hs _ _ q))) (dt_all a hs h), fun x y => by
  simp only [PyData.eqv]; exact eqv_all a x y⟩
def isNoneD : PyData → Bool
  | .none => true
  | _ => false
theorem eqv_none {d : PyData} (h : isNoneD d = false) : PyData.eqv .none d = false ∧ PyData.eqv d .none = false := by
  cases d <;> simp [isNoneD, PyData.eqv] at *
def dO (a : Dt t) (nn : ∀ x, isNoneD (a.d x) = false) : Dt (eO t) := ⟨fun x => match x with
  | none => .none
  | some x => a.d x, fun {K F H v x} hs h => by
    cases x with
    | none => have e : _ = V.non := h; subst e; exact .non
    | some x => exact a.ok hs h.2, fun x y => by
    cases x with
    | none => cases y with
      | none => simp [PyData.eqv]
      | some y => simp [(eqv_none (nn y)).1]
    | some x => cases y with
      | none => simp [(eqv_none (nn x)).2]
      | some y => simp only [Option.some.injEq]; exact a.eqv x y⟩
theorem reprM_le {d : PyData} (h : reprM d = some r) : r.length ≤ sizeLine := by
  obtain ⟨h1, rfl⟩ := need_ok h
  unfold reprB at h1
  rw [Bool.and_eq_true] at h1
  have h3 := (of_decide_eq_true h1.2).2
  rw [sizeLine_eq]
  simpa [Str.length] using h3
theorem v_reprD {d : PyData} (hd : Dp K H v d) (h : reprM d = some r) (k : Q (.str (S r)) H) : qRepr K [v] H Q := by
  obtain ⟨h1, rfl⟩ := need_ok h
  exact ⟨v, d, rfl, hd, h1, k⟩
theorem v_repr (D : Dt t) (hs : Sub F H) (hr : t.r F v x) (h : reprM (D.d x) = some r) (k : Q (.str (S r)) H) : qRepr K [v] H Q := v_reprD (D.ok hs hr) h k
theorem v_reprM (D : Dt t) (hs : Sub F H) (hq : H p = some (.lst vs)) (hr : Al t F vs xs) (h : reprM (.list (xs.map D.d)) = some r) (k : Q (.str (S r)) H) : qRepr K [.ref p] H Q :=
  v_reprD (.lst (.inl (.inl hq)) (dt_all D hs hr)) h k
/-! == -/
theorem c_eqD {X : Cx} {k : Nat} (hK : X.K = K) (hr : Room k X.A) : OpR X (compareOp .Eq) (rEqD K) := by subst hK; exact op_eqD hr.units
theorem c_neD {X : Cx} {k : Nat} (hK : X.K = K) (hr : Room k X.A) : OpR X (compareOp .NotEq) (rNeD K) := by subst hK; exact op_neD hr.units
def eqB (d e : PyData) : Bool := SeqAt.shaped d && SeqAt.shaped e
theorem eqv_dec {α : Type} [DecidableEq α] {t : Rp α} (D : Dt t) (x y : α) : PyData.eqv (D.d x) (D.d y) = decide (x = y) := by
  rw [Bool.eq_iff_iff, decide_eq_true_eq]; exact D.eqv x y
theorem v_eqDp {v w : V} {d e : PyData} {b : Bool} (h1 : Dp K H v d) (h2 : Dp K H w e) (hb : eqB d e = true) (he : PyData.eqv d e = b) (k : Q (.bl b) H) : rEqD K v w H Q := by
  unfold eqB at hb
  rw [Bool.and_eq_true] at hb
  exact ⟨d, e, h1, h2, hb.1, hb.2, by rw [he]; exact k⟩
theorem v_neDp {v w : V} {d e : PyData} {b : Bool} (h1 : Dp K H v d) (h2 : Dp K H w e) (hb : eqB d e = true) (he : PyData.eqv d e = b) (k : Q (.bl (!b)) H) : rNeD K v w H Q := by
  unfold eqB at hb
  rw [Bool.and_eq_true] at hb
  exact ⟨d, e, h1, h2, hb.1, hb.2, by rw [he]; exact k⟩
theorem dp_mut (D : Dt t) (hs : Sub F H) (hq : H p = some (.lst vs)) (hr : Al t F vs xs) : Dp K H (.ref p) (.list (xs.map D.d)) := .lst (.inl (.inl hq)) (dt_all D hs hr)
end
/-! ### plain: how long a repr is -/
structure Rk (e B : Nat) (d : PyData) : Prop where
  sh : d.showable = true
  dp : d.depth ≤ e
  ln : d.shown.length ≤ B
structure Rks (e B : Nat) (ds : List PyData) : Prop where
  sh : PyData.showableAll ds = true
  dp : PyData.depthAll ds ≤ e
  ln : piled (PyData.shownAll ds) ≤ B
theorem rks_nil {e : Nat} : Rks e 0 [] := ⟨by simp only [PyData.showableAll], by simp only [PyData.depthAll]; exact Nat.zero_le _, by simp only [PyData.shownAll, piled_nil]; exact Nat.le_refl _⟩
theorem rks_cons {e B C : Nat} {d : PyData} {ds : List PyData} (h : Rk e B d) (h' : Rks e C ds) : Rks e (B + 2 + C) (d :: ds) :=
  ⟨by simp only [PyData.showableAll, h.sh, h'.sh, Bool.and_self], by simp only [PyData.depthAll]; exact Nat.max_le.mpr ⟨h.dp, h'.dp⟩, by
    simp only [PyData.shownAll, piled_cons]
    have := h.ln; have := h'.ln; omega⟩
theorem rks_all {e B : Nat} : ∀ {ds : List PyData}, (∀ d ∈ ds, Rk e B d) → Rks e (ds.length * (B + 2)) ds
  | [], _ => by simpa using rks_nil
  | d :: ds, h => by
    have q := rks_cons (h d (by simp)) (rks_all (ds := ds) fun c hc => h c (List.mem_cons_of_mem _ hc))
    refine ⟨q.sh, q.dp, ?_⟩
    have := q.ln
    rw [List.length_cons, Nat.add_mul, Nat.one_mul]
    omega
theorem Rk.mono {e e' B B' : Nat} {d : PyData} (h : Rk e B d) (he : e ≤ e') (hB : B ≤ B') : Rk e' B' d := ⟨h.sh, Nat.le_trans h.dp he, Nat.le_trans h.ln hB⟩
theorem textFrom_le (ts : List Str) : (listText ts).length ≤ piled ts + 2 := by
  unfold listText
  rw [strLen_append]
  cases ts with
  | nil => exact Nat.le_of_eq rfl
  | cons t r =>
    have e : textFrom 0 "[" (t :: r) = textFrom 1 (("[" : Str) ++ "" ++ t) r := rfl
    rw [e, textFrom_length_pos _ _ _ (Nat.succ_pos 0), strLen_append, strLen_append, piled_cons]
    have e1 : (("[" : String) : Str).length = 1 := rfl
    have e2 : (("" : String) : Str).length = 0 := rfl
    have e3 : (("]" : String) : Str).length = 1 := rfl
    rw [e1, e2, e3]; omega
theorem tupText_le (ts : List Str) : (tupleText ts).length ≤ piled ts + 3 := by
  unfold tupleText
  rw [strLen_append, strLen_append]
  have e1 : (("(" : String) : Str).length = 1 := rfl
  have e3 : (((if ts.length == 1 then ",)" else ")" : String) : Str)).length ≤ 2 := by split <;> decide
  rw [e1]
  by_cases h : ts = []
  · subst h
    have e4 : (Str.join ", " ([] : List Str)).length = 0 := rfl
    rw [e4]; omega
  · have := join_length_add ts h
    omega
theorem rk_list {e B : Nat} {ds : List PyData} (h : Rks e B ds) : Rk (e + 1) (B + 2) (.list ds) :=
  ⟨by simp only [PyData.showable]; exact h.sh, by simp only [PyData.depth]; exact Nat.succ_le_succ h.dp, by simp only [PyData.shown]; exact Nat.le_trans (textFrom_le _) (Nat.add_le_add_right h.ln 2)⟩
theorem rk_tup {e B : Nat} {ds : List PyData} (h : Rks e B ds) : Rk (e + 1) (B + 3) (.tuple ds) :=
  ⟨by simp only [PyData.showable]; exact h.sh, by simp only [PyData.depth]; exact Nat.succ_le_succ h.dp, by simp only [PyData.shown]; exact Nat.le_trans (tupText_le _) (Nat.add_le_add_right h.ln 3)⟩
theorem rk_non : Rk 0 4 .none := ⟨by simp only [PyData.showable], by simp only [PyData.depth]; exact Nat.le_refl _, by simp only [PyData.shown]; decide⟩
theorem rk_bool (b : Bool) : Rk 0 5 (.bool b) := ⟨by simp only [PyData.showable], by simp only [PyData.depth]; exact Nat.le_refl _, by simp only [PyData.shown]; cases b <;> decide⟩
theorem rk_str {s : Sg} {n : Nat} (hs : ∀ c ∈ s, c < 1114112) (hn : s.length ≤ n) : Rk 0 (10 * n + 2) (.str (S s)) :=
  ⟨by simp only [PyData.showable], by simp only [PyData.depth]; exact Nat.le_refl _, by
    simp only [PyData.shown]
    have := StrLaws.reprText_len (S s) (fun c hc => by have := hs c (by simpa using hc); omega)
    have e : (S s).length = s.length := by simp [Str.length]
    omega⟩
theorem rk_int {i : Int} {k : Nat} (hk : 0 < k) (h : i.natAbs < 2 ^ k) (hk2 : k ≤ 1920) : Rk 0 (k + 1) (.int i) := by
  have hl : i.natAbs.log2 < k := by
    by_cases h0 : i.natAbs = 0
    · rw [h0]; simpa using hk
    · exact (Nat.log2_lt h0).mpr h
  refine ⟨by simp only [PyData.showable]; exact decide_eq_true (Nat.lt_of_lt_of_le hl hk2), by simp only [PyData.depth]; exact Nat.le_refl _, ?_⟩
  simp only [PyData.shown]
  have h1 := int_text_length_le hk hl
  rw [ofString_length]; exact h1
theorem reprB_of {e B : Nat} {d : PyData} (h : Rk e B d) (he : e ≤ 60) (hB : B ≤ 16777216) : reprB d = true := by
  unfold reprB
  rw [h.sh, Bool.true_and]
  exact decide_eq_true ⟨Nat.le_trans h.dp he, Nat.le_trans h.ln hB⟩
theorem reprM_of {e B : Nat} {d : PyData} (h : Rk e B d) (he : e ≤ 60) (hB : B ≤ 16777216) : reprM d = some d.shown.cps.toList := by unfold reprM need; rw [reprB_of h he hB]; rfl
end U
set_option Elab.async false
set_option linter.all false
set_option maxRecDepth 100000
set_option maxHeartbeats 4000000
namespace U
open PySem PySem.Spec L2 PySem.W
/-! ### sorted: lists of typed data -/
def srtL {α : Type} (lt : α → α → Bool) (xs : List α) : List α := xs.mergeSort fun a b => !lt b a
def srtV (vs : List V) (ds : List PyData) : List V := ((vs.zip ds).mergeSort (dataLe false Prod.snd)).map Prod.fst
def qSorted (K : PySem.W.Frag) : RCl := fun xs H Q => ∃ p vs ds, xs = [V.ref p] ∧ SqL K H p vs ∧ DpAll K H vs ds ∧ AllAlike ds ∧ Sortable ds ∧ (∀ d ∈ ds, d.depth ≤ 60) ∧ ∀ l, H l = none → Q (.ref l) (upd H l (.lst (srtV vs ds)))
theorem dpa_len {K : PySem.W.Frag} {H : Hp} : ∀ {vs : List V} {ds : List PyData}, DpAll K H vs ds → vs.length = ds.length
  | _, _, .nil => rfl
  | _, _, .cons _ t => congrArg (· + 1) (dpa_len t)
theorem map_snd_zip : ∀ (vs : List V) (ds : List PyData), vs.length = ds.length → (vs.zip ds).map Prod.snd = ds
  | [], [], _ => rfl
  | [], _ :: _, h => by cases h
  | _ :: _, [], h => by cases h
  | v :: vs, d :: ds, h => by
    rw [List.zip_cons_cons, List.map_cons, map_snd_zip vs ds (Nat.succ.inj h)]
theorem each_zip {R : V → Value → Prop} : ∀ {vs : List V} {us : List Value} {ds : List PyData}, Paired R vs us → vs.length = ds.length → EachIs (fun u (b : V × PyData) => R b.1 u) us (vs.zip ds)
  | _, _, [], .nil, _ => .nil
  | _, _, _ :: _, .nil, h => by cases h
  | _, _, [], .cons _ _, h => by cases h
  | _, _, _ :: _, .cons r t, h => .cons r (each_zip t (Nat.succ.inj h))
theorem each_reads {X : Cx} {pins : List (Addr × Obj)} {σ : L2.St} {H : Hp} {s : Shared} (I : Inv X pins σ H s) : ∀ {vs : List V} {us : List Value} {ds : List PyData}, Vals vs us → DpAll X.K H vs ds → EachIs (fun u (b : V × PyData) => ∃ as, Reads s.heap u b.2 as) us (vs.zip ds)
  | _, _, _, .nil, .nil => .nil
  | _, _, _, .cons r t, .cons h k => .cons (Dp.reads I _ _ _ h r) (each_reads I t k)
theorem each_fst {R : V → Value → Prop} : ∀ {us : List Value} {bs : List (V × PyData)}, EachIs (fun u (b : V × PyData) => R b.1 u) us bs → Paired R (bs.map Prod.fst) us
  | _, _, .nil => .nil
  | _, _, .cons r t => .cons r (each_fst t)
theorem c_sorted {X : Cx} {K : PySem.W.Frag} {k : Nat} (hK : X.K = K) (hr : Room k X.A) : CallR X (.builtin "sorted") (qSorted K) := by
  subst hK
  intro pins s σ H xs us Q I rv ⟨p, vs, ds, e, hq, hd, ha, hs, hdp, q⟩
  subst e
  obtain ⟨u, rfl, ru⟩ := vals1 rv
  obtain rfl : u = Value.ref p := ru
  obtain ⟨its, ri, hl, hz⟩ := I.list hq
  have hlen := dpa_len hd
  have es := map_snd_zip vs ds hlen
  refine PySem.W.sorted_data (R := fun u (b : V × PyData) => RelV b.1 u) (enc := Prod.snd) (bs := vs.zip ds) hl.isList (each_zip ri hlen) (each_reads I ri hd) (by rw [es]; exact ha) (by rw [es]; exact hs) (by rw [List.length_zip]; omega) (fun b hb => ?_) fun out ho eo => ?_
  · have h1 := hdp b.2 (List.of_mem_zip (a := b.1) (b := b.2) hb).2
    have := hr.un
    omega
  · obtain ⟨n, hn⟩ := PyProof.Rows.sortedAll_at s.heap its out.toArray
    have hp : s.heap.objs.size ≤ s.heap.objs.size + 1 := Nat.le_succ _
    refine ⟨.ref (s.heap.objs.size + 1), upd H (s.heap.objs.size + 1) (.lst (srtV vs ds)), I.laid (t' := s.toks) (fun _ _ => PyProof.Rows.sortedAll_old) hp ?_, rfl, q _ (I.hok.fresh hp)⟩
    refine ⟨?_, out, n, each_fst eo, hn⟩
    unfold srtV
    rw [List.length_map, List.length_mergeSort, List.length_zip]
    omega
/-- what can be ordered -/
structure So {α : Type} {t : Rp α} (D : Dt t) where
  lt : α → α → Bool
  al : ∀ x y, alike (D.d x) (D.d y) = true
  so : (∀ x, ∃ a r, D.d x = .tuple (a :: r)) ∨ ∀ x, D.d x ≠ .none ∧ ∀ xs, D.d x ≠ .tuple xs
  dp : ∀ x, (D.d x).depth ≤ 60
  ok : ∀ x y, dataLt (D.d x) (D.d y) = lt x y
theorem row_nil : rowLt [] [] = false := PyProof.Rows.lex_irrefl _
theorem row_cons {x y : PyData} (h : alike x y = true) (xs ys : List PyData) : rowLt (x :: xs) (y :: ys) = if PyData.eqv x y = true then rowLt xs ys else dataLt x y := dataLt_cons h xs ys
section
variable {α β γ : Type} {t : Rp α} {u : Rp β} {w : Rp γ} {D : Dt t} {E : Dt u} {G : Dt w}
theorem So.irr (S : So D) (x : α) : S.lt x x = false := by
  rw [← S.ok]; exact PyProof.Rows.lex_irrefl _
theorem row_one (S : So D) (x y : α) : rowLt [D.d x] [D.d y] = S.lt x y := by
  rw [row_cons (S.al x y), row_nil, S.ok]
  by_cases h : PyData.eqv (D.d x) (D.d y) = true
  · rw [if_pos h]
    have e := (D.eqv x y).mp h
    subst e
    exact (S.irr x).symm
  · rw [if_neg h]
def ltI (x y : Int) : Bool := decide (x < y)
def ltS (x y : Sg) : Bool := decide (x < y)
def ltP {α β : Type} [DecidableEq α] (f : α → α → Bool) (g : β → β → Bool) (p q : α × β) : Bool := if p.1 = q.1 then g p.2 q.2 else f p.1 q.1
def soI : So dI := ⟨ltI, fun x y => by simp [dI, alike], .inr fun x => ⟨by simp [dI], by simp [dI]⟩, fun x => by simp [dI, PyData.depth], fun x y => dataLt_int x y⟩
def soS : So dS := ⟨ltS, fun x y => by simp [dS, alike], .inr fun x => ⟨by simp [dS], by simp [dS]⟩, fun x => by simp [dS, PyData.depth], fun x y => by
  show dataLt (.str (S x)) (.str (S y)) = _
  rw [dataLt_str]; rfl⟩
theorem ite_eqv [DecidableEq α] (D : Dt t) (x y : α) (a b : Bool) : (if PyData.eqv (D.d x) (D.d y) = true then a else b) = if x = y then a else b := by
  by_cases h : x = y
  · rw [if_pos h, if_pos ((D.eqv x y).mpr h)]
  · rw [if_neg h, if_neg (fun z => h ((D.eqv x y).mp z))]
def soP2 [DecidableEq α] (S : So D) (T : So E) (hd : ∀ x y, (D.d x).depth ≤ 20 ∧ (E.d y).depth ≤ 20) : So (dP2 D E) := ⟨ltP S.lt T.lt, fun x y => by
  show alike (.tuple [D.d x.1, E.d x.2]) (.tuple [D.d y.1, E.d y.2]) = true
  simp [alike, alikeAll, S.al, T.al], .inl fun x => ⟨_, _, rfl⟩, fun x => by
  have := hd x.1 x.2
  show (PyData.tuple [D.d x.1, E.d x.2]).depth ≤ 60
  simp only [PyData.depth, PyData.depthAll]; omega, fun x y => by
  show dataLt (.tuple [D.d x.1, E.d x.2]) (.tuple [D.d y.1, E.d y.2]) = _
  rw [dataLt_tuple]
  show rowLt _ _ = _
  rw [row_cons (S.al _ _), row_one T, S.ok, ite_eqv]; rfl⟩
def soP3 [DecidableEq α] [DecidableEq β] (S : So D) (T : So E) (U : So G) (hd : ∀ x y z, (D.d x).depth ≤ 20 ∧ (E.d y).depth ≤ 20 ∧ (G.d z).depth ≤ 20) : So (dP3 D E G) := ⟨ltP S.lt (ltP T.lt U.lt), fun x y => by
  show alike (.tuple [D.d x.1, E.d x.2.1, G.d x.2.2]) (.tuple [D.d y.1, E.d y.2.1, G.d y.2.2]) = true
  simp [alike, alikeAll, S.al, T.al, U.al], .inl fun x => ⟨_, _, rfl⟩, fun x => by
  have := hd x.1 x.2.1 x.2.2
  show (PyData.tuple [D.d x.1, E.d x.2.1, G.d x.2.2]).depth ≤ 60
  simp only [PyData.depth, PyData.depthAll]; omega, fun x y => by
  show dataLt (.tuple [D.d x.1, E.d x.2.1, G.d x.2.2]) (.tuple [D.d y.1, E.d y.2.1, G.d y.2.2]) = _
  rw [dataLt_tuple]
  show rowLt _ _ = _
  rw [row_cons (S.al _ _), row_cons (T.al _ _), row_one U, S.ok, T.ok, ite_eqv, ite_eqv]; rfl⟩
theorem so_alike (S : So D) (xs : List α) : AllAlike (xs.map D.d) := fun d hd e he => by
  obtain ⟨x, _, rfl⟩ := List.mem_map.mp hd
  obtain ⟨y, _, rfl⟩ := List.mem_map.mp he
  exact S.al x y
theorem so_sortable (S : So D) (xs : List α) : Sortable (xs.map D.d) := S.so.imp (fun h d hd => by
  obtain ⟨x, _, rfl⟩ := List.mem_map.mp hd
  exact h x) fun h d hd => by
  obtain ⟨x, _, rfl⟩ := List.mem_map.mp hd
  exact h x
theorem pd_zipmem {R : V → α → Prop} : ∀ {vs : List V} {xs : List α}, Paired R vs xs → ∀ b ∈ vs.zip xs, R b.1 b.2
  | _, _, .nil, b, h => by cases h
  | _, _, .cons r t, b, h => by
    rcases List.mem_cons.mp h with e | e
    · subst e; exact r
    · exact pd_zipmem t b e
theorem pd_unzip {R : V → α → Prop} : ∀ zs : List (V × α), (∀ b ∈ zs, R b.1 b.2) → Paired R (zs.map Prod.fst) (zs.map Prod.snd)
  | [], _ => .nil
  | b :: zs, h => .cons (h b (by simp)) (pd_unzip zs fun c hc => h c (by simp [hc]))
theorem map_fst_zipA : ∀ (vs : List V) (xs : List α), vs.length = xs.length → (vs.zip xs).map Prod.snd = xs
  | [], [], _ => rfl
  | [], _ :: _, h => by cases h
  | _ :: _, [], h => by cases h
  | v :: vs, d :: ds, h => by
    rw [List.zip_cons_cons, List.map_cons, map_fst_zipA vs ds (Nat.succ.inj h)]
variable {K : PySem.W.Frag} {F H : Hp} {vs us : List V} {xs : List α} {p : Addr} {Q : VK}
theorem al_sorted (S : So D) (hr : Al t F vs xs) : Al t F (srtV vs (xs.map D.d)) (srtL S.lt xs) := by
  have hl := al_len hr
  have e1 : (vs.zip (xs.map D.d)) = (vs.zip xs).map fun b => (b.1, D.d b.2) := by
    rw [List.zip_map_right]; rfl
  have e2 : ((vs.zip xs).map fun b : V × α => (b.1, D.d b.2)).mergeSort (dataLe false Prod.snd) = ((vs.zip xs).mergeSort fun a b => !S.lt b.2 a.2).map fun b => (b.1, D.d b.2) :=
    (List.map_mergeSort (fun a _ b _ => by
      show (!S.lt b.2 a.2) = (!dataLt (D.d b.2) (D.d a.2))
      rw [S.ok])).symm
  have e3 : ((vs.zip xs).mergeSort fun a b => !S.lt b.2 a.2).map Prod.snd = srtL S.lt xs := by
    rw [List.map_mergeSort (s := fun a b => !S.lt b a) (fun a _ b _ => rfl), map_fst_zipA vs xs hl]; rfl
  unfold srtV
  rw [e1, e2, List.map_map, ← e3]
  show Al t F (List.map (fun b : V × α => b.1) _) _
  exact pd_unzip _ fun b hb => pd_zipmem hr b ((List.mergeSort_perm _ _).mem_iff.mp hb)
theorem v_sortedF (S : So D) (hs : Sub F H) (hq : SqL K H p vs) (hr : Al t F vs xs) (k : ∀ p' us F' H', Gr [] F H F' H' → F' p' = some (.lst us) → Al t F' us (srtL S.lt xs) → Q (.ref p') H') : qSorted K [.ref p] H Q :=
  ⟨p, vs, xs.map D.d, rfl, hq, dt_all D hs hr, so_alike S xs, so_sortable S xs, fun d hd => by obtain ⟨x, _, rfl⟩ := List.mem_map.mp hd; exact S.dp x, fun l hl => k l _ _ _ (gr_newF hs hl) upd_same (Al.mono (al_sorted S hr) (Sub.up1 (hs.nn hl)))⟩
theorem v_sortedM (S : So D) (hs : Sub F H) (hq : SqL K H p vs) (hr : Al t F vs xs) (k : ∀ p' us H', H p' = none → Gr [] F H F H' → F p' = none → H' p' = some (.lst us) → Al t F us (srtL S.lt xs) → Q (.ref p') H') : qSorted K [.ref p] H Q :=
  ⟨p, vs, xs.map D.d, rfl, hq, dt_all D hs hr, so_alike S xs, so_sortable S xs, fun d hd => by obtain ⟨x, _, rfl⟩ := List.mem_map.mp hd; exact S.dp x, fun l hl => k l _ _ hl (gr_newM hs hl) (hs.nn hl) upd_same (al_sorted S hr)⟩
end
/-! ### plain: what is sorted -/
structure Lo {α : Type} (lt : α → α → Bool) : Prop where
  irr : ∀ x, lt x x = false
  tr : ∀ x y z, lt x y = true → lt y z = true → lt x z = true
  tot : ∀ x y, lt x y = false → lt y x = false → x = y
section
variable {α β : Type} {lt : α → α → Bool} {xs ys : List α}
theorem Lo.asym (O : Lo lt) {x y : α} (h : lt x y = true) : lt y x = false := by
  cases e : lt y x with
  | false => rfl
  | true => have := O.tr x y x h e; rw [O.irr] at this; cases this
theorem Lo.ntr (O : Lo lt) {x y z : α} (h : lt y x = false) (k : lt z y = false) : lt z x = false := by
  cases e : lt z x with
  | false => rfl
  | true =>
    cases e2 : lt x y with
    | true => have := O.tr z x y e e2; rw [this] at k; cases k
    | false =>
      have := O.tot x y e2 h
      subst this
      rw [e] at k; cases k
theorem srt_perm : (srtL lt xs).Perm xs := List.mergeSort_perm _ _
theorem srt_len : (srtL lt xs).length = xs.length := srt_perm.length_eq
theorem srt_mem {x : α} : x ∈ srtL lt xs ↔ x ∈ xs := srt_perm.mem_iff
theorem srt_sorted (O : Lo lt) : (srtL lt xs).Pairwise fun a b => lt b a = false := by
  have := List.pairwise_mergeSort (le := fun a b => !lt b a) (fun a b c h1 h2 => by
    simp only [Bool.not_eq_true'] at *
    exact O.ntr h1 h2) (fun a b => by
    cases e : lt b a with
    | false => rfl
    | true => simp [O.asym e]) xs
  exact this.imp fun h => by simpa using h
/-- two orderings of the same things are one -/
theorem sorted_uniq (O : Lo lt) (hp : xs.Perm ys) (h1 : xs.Pairwise fun a b => lt b a = false) (h2 : ys.Pairwise fun a b => lt b a = false) : xs = ys :=
  List.Perm.eq_of_pairwise (fun a b _ _ h k => O.tot a b k h) h1 h2 hp
theorem srt_of (O : Lo lt) (hp : xs.Perm ys) (h2 : ys.Pairwise fun a b => lt b a = false) : srtL lt xs = ys := sorted_uniq O (srt_perm.trans hp) (srt_sorted O) h2
theorem lo_I : Lo ltI := ⟨fun x => by simp [ltI], fun x y z h k => by simp [ltI] at *; omega, fun x y h k => by simp [ltI] at *; omega⟩
theorem sg_tot (x y : Sg) (h : ¬ x < y) (k : ¬ y < x) : x = y := List.le_antisymm k h
theorem lo_S : Lo ltS := ⟨fun x => by simp [ltS], fun x y z h k => by
  simp only [ltS, decide_eq_true_eq] at *; exact List.lt_trans h k, fun x y h k => by
  simp only [ltS, decide_eq_false_iff_not] at *; exact sg_tot x y h k⟩
theorem lo_P [DecidableEq α] {f : α → α → Bool} {g : β → β → Bool} (A : Lo f) (B : Lo g) : Lo (ltP f g) := by
  refine ⟨fun x => ?_, fun x y z h k => ?_, fun x y h k => ?_⟩
  · unfold ltP; rw [if_pos rfl]; exact B.irr _
  · unfold ltP at *
    by_cases e1 : x.1 = y.1
    · rw [if_pos e1] at h
      by_cases e2 : y.1 = z.1
      · rw [if_pos e2] at k; rw [if_pos (e1.trans e2)]; exact B.tr _ _ _ h k
      · rw [if_neg e2] at k; rw [if_neg (by rw [e1]; exact e2), e1]; exact k
    · rw [if_neg e1] at h
      by_cases e2 : y.1 = z.1
      · rw [if_neg (by rw [← e2]; exact e1), ← e2]; exact h
      · rw [if_neg e2] at k
        have := A.tr _ _ _ h k
        by_cases e3 : x.1 = z.1
        · rw [e3, A.irr] at this; cases this
        · rw [if_neg e3]; exact this
  · unfold ltP at h k
    by_cases e1 : x.1 = y.1
    · rw [if_pos e1] at h; rw [if_pos e1.symm] at k
      exact Prod.ext e1 (B.tot _ _ h k)
    · rw [if_neg e1] at h; rw [if_neg (Ne.symm e1)] at k
      exact absurd (A.tot _ _ h k) e1
end
end U
set_option Elab.async false
set_option linter.all false
set_option maxRecDepth 100000
set_option maxHeartbeats 4000000
namespace U
open PySem PySem.Spec L2 PyProof.Rows
/-! ### sets that are built of a list and sorted at once: kinds of elements -/
abbrev nset (w : World) : Obj := { cls := .type "set", dict := none, data := .set #[] 0 (.fresh 0 0 (!w.params.followText "set-order")) }
/-- a kind of element: what a value has to be, its hash; what is known of a set of such (rows: key and value, in the set's own order) -/
structure Ekd (P : Program) (w : World) where
  κ : Type
  dec : DecidableEq κ
  is : Heap → κ → Value → Prop
  hash : κ → Int
  dat : κ → PyData
  most : Nat
  bound : most < 4000
  ok : Heap → Addr → List (κ × Value) → Array (Int × Value) → Nat → SetTable → Prop
  ob : ∀ {h : Heap} {a : Addr} {L : List (κ × Value)} {es : Array (Int × Value)} {ep : Nat} {t : SetTable}, ok h a L es ep t → ∃ o, h.get? a = some o ∧ o.ExactSet ∧ o.data = .set es ep t
  row : ∀ {h : Heap} {a : Addr} {L : List (κ × Value)} {es : Array (Int × Value)} {ep : Nat} {t : SetTable}, ok h a L es ep t → es.toList.map Prod.snd = L.map Prod.snd
  nd : ∀ {h : Heap} {a : Addr} {L : List (κ × Value)} {es : Array (Int × Value)} {ep : Nat} {t : SetTable}, ok h a L es ep t → (L.map Prod.fst).Nodup
  el : ∀ {h : Heap} {a : Addr} {L : List (κ × Value)} {es : Array (Int × Value)} {ep : Nat} {t : SetTable}, ok h a L es ep t → ∀ p ∈ L, is h p.1 p.2
  fits : ∀ {h : Heap} {a : Addr} {L : List (κ × Value)} {es : Array (Int × Value)} {ep : Nat} {t : SetTable}, ok h a L es ep t → t.fits es.size = true
  ris : ∀ {h : Heap} {a : Addr} {L : List (κ × Value)} {es : Array (Int × Value)} {ep : Nat} {t : SetTable}, ok h a L es ep t → Ris t.place.toList
  led : ∀ {h : Heap} {a : Addr} {L : List (κ × Value)} {es : Array (Int × Value)} {ep : Nat} {t : SetTable}, ok h a L es ep t → (w.params.followText "set-order" = true ∨ t.led = true)
  few : ∀ {h : Heap} {a : Addr} {L : List (κ × Value)} {es : Array (Int × Value)} {ep : Nat} {t : SetTable}, ok h a L es ep t → L.length ≤ most
  hold : ∀ {h h' : Heap} {a : Addr} {L : List (κ × Value)} {es : Array (Int × Value)} {ep : Nat} {t : SetTable}, ok h a L es ep t → (∀ o, h.get? a = some o → h'.get? a = some o) → (∀ p ∈ L, is h' p.1 p.2) → ok h' a L es ep t
  keep : ∀ {h h' : Heap} {k : κ} {v : Value}, is h k v → (∀ c o, h.get? c = some o → h'.get? c = some o) → is h' k v
  reads : ∀ {h : Heap} {k : κ} {v : Value}, is h k v → Reads h v (dat k) []
  fresh : ∀ {h : Heap} {a : Addr}, h.get? a = some (nset w) → ok h a [] #[] 0 (.fresh 0 0 (!w.params.followText "set-order"))
  hashed : ∀ {A : Around} {E : Value → Shared → Prop} {s : Shared} {k : κ} {v : Value} {Q : Int → Shared → Prop}, A.units < cLine → is s.heap k v → (∀ tk, s.toks ≤ tk → Q (hash k) { s with toks := tk }) → wpAny (model P w) A (pyHash v) Q E s
  add : ∀ {A : Around} {E : Value → Shared → Prop} {s : Shared} {a : Addr} {L : List (κ × Value)} {es : Array (Int × Value)} {ep : Nat} {t : SetTable} {k : κ} {v : Value} {Q : Bool → Shared → Prop}, A.units < cLine → ok s.heap a L es ep t → is s.heap k v → L.length < most →
    (∀ b h' L' es' ep' t', Heap.SameBut a s.heap h' → ok h' a L' es' ep' t' → (k ∈ L.map Prod.fst → L' = L) → (k ∉ L.map Prod.fst → L'.Perm ((k, v) :: L)) → Q b { s with heap := h' }) → wpAny (model P w) A (setAddHashed a v (hash k)) Q E s
theorem perm_lift {α β : Type} (f : α → β) {xs ys : List β} (h : xs.Perm ys) : ∀ M : List α, ys = M.map f → ∃ M1 : List α, xs = M1.map f ∧ M1.Perm M := by
  induction h with
  | nil => intro M e; exact ⟨M, e, .refl _⟩
  | cons x _ ih =>
    intro M e
    cases M with
    | nil => cases e
    | cons p M =>
      obtain ⟨M1, e1, h1⟩ := ih M (List.cons.inj e).2
      exact ⟨p :: M1, by rw [List.map_cons, ← e1, (List.cons.inj e).1], h1.cons p⟩
  | swap x y l =>
    intro M e
    match M, e with
    | p :: p2 :: M, e =>
      have a1 := (List.cons.inj e).1
      have a2 := (List.cons.inj (List.cons.inj e).2).1
      have a3 := (List.cons.inj (List.cons.inj e).2).2
      exact ⟨p2 :: p :: M, by rw [List.map_cons, List.map_cons, ← a1, ← a2, ← a3], .swap p p2 M⟩
  | trans _ _ ih1 ih2 =>
    intro M e
    obtain ⟨M2, b1, b2⟩ := ih2 M e
    obtain ⟨M3, c1, c2⟩ := ih1 M2 b1
    exact ⟨M3, c1, c2.trans b2⟩
section
variable {P : Program} {w : World} {D : Ekd P w} {A : Around} {E : Value → Shared → Prop} {s : Shared}
/-- the rows that came of the first i items -/
structure GotE (D : Ekd P w) (ks : List (D.κ × Value)) (i : Nat) (L : List (D.κ × Value)) : Prop where
  sub : ∀ p ∈ L, p ∈ ks.take i
  all : ∀ p ∈ ks.take i, p.1 ∈ L.map Prod.fst
  len : L.length ≤ i
theorem gotE_none (ks : List (D.κ × Value)) : GotE D ks 0 [] := ⟨nofun, fun p hp => by simp at hp, Nat.zero_le _⟩
theorem gotE_next {ks L L' : List (D.κ × Value)} {i : Nat} {x : D.κ × Value} (g : GotE D ks i L) (hx : ks[i]? = some x) (c1 : x.1 ∈ L.map Prod.fst → L' = L) (c2 : x.1 ∉ L.map Prod.fst → L'.Perm (x :: L)) : GotE D ks (i + 1) L' := by
  have et : ks.take (i + 1) = ks.take i ++ [x] := by rw [List.take_succ, hx]; rfl
  by_cases hm : x.1 ∈ L.map Prod.fst
  · have e := c1 hm
    subst e
    refine ⟨fun p hp => by rw [et]; exact List.mem_append_left _ (g.sub p hp), fun p hp => ?_, Nat.le_succ_of_le g.len⟩
    rw [et] at hp
    rcases List.mem_append.mp hp with z | z
    · exact g.all p z
    · rw [List.mem_singleton] at z; subst z; exact hm
  · have pm := c2 hm
    refine ⟨fun p hp => ?_, fun p hp => ?_, by rw [pm.length_eq]; exact Nat.succ_le_succ g.len⟩
    · rw [et]
      rcases List.mem_cons.mp (pm.mem_iff.mp hp) with z | z
      · subst z; simp
      · exact List.mem_append_left _ (g.sub p z)
    · refine (pm.map Prod.fst).mem_iff.mpr ?_
      rw [et] at hp
      rw [List.map_cons]
      rcases List.mem_append.mp hp with z | z
      · exact List.mem_cons_of_mem _ (g.all p z)
      · rw [List.mem_singleton] at z; subst z; exact List.mem_cons_self
/-- the loop that takes the items in -/
theorem set_loop {I : Addr} {fp wr : List Addr} {G : Array GenState → Array GenState → Prop} {n : Nat} {Pv : Nat → Value → Prop} {St : Nat → Shared → Prop} {R : Result → Shared → Prop}
    (W : WalksS P w A.in1 I fp wr G n Pv St) (Z : Addr) (hZ : Z ∉ fp) (ks : List (D.κ × Value)) (en : n = ks.length) (few : ks.length ≤ D.most) (vals : ∀ i v, Pv i v → ∃ p, ks[i]? = some p ∧ v = p.2)
    (g0 : Heap) (hk : ∀ p ∈ ks, D.is g0 p.1 p.2) (hZ0 : g0.get? Z = none) (hw0 : ∀ b ∈ wr, g0.get? b = none) (hu : A.in1.units < cLine) :
    ∀ (m i : Nat) (s : Shared), n - i = m → i ≤ n → St i s → (∀ b o, g0.get? b = some o → s.heap.get? b = some o) → (∃ L es ep t, D.ok s.heap Z L es ep t ∧ GotE D ks i L) →
      (∀ s' L es ep t, Moved (Z :: wr) G s s' → D.ok s'.heap Z L es ep t → GotE D ks n L → (∀ b o, g0.get? b = some o → s'.heap.get? b = some o) → R (.ok (.ret .none)) s') →
      codeAny (model P w) A (.builtin "set.update.loop" ⟨[.ref Z, .ref I], []⟩) R s := by
  have nZ : Z ∉ wr := fun z => hZ (W.sub _ z)
  have up : ∀ b ∈ wr, b ∈ Z :: wr := fun b => List.mem_cons_of_mem _
  have old : ∀ {u v : Shared}, Moved wr G u v → (∀ b o, g0.get? b = some o → u.heap.get? b = some o) → ∀ b o, g0.get? b = some o → v.heap.get? b = some o := fun mv k b o e =>
    mv.heap b o (fun z => by rw [hw0 b z] at e; cases e) (k b o e)
  have here : ∀ {L : List (D.κ × Value)} {i : Nat}, GotE D ks i L → ∀ p ∈ L, p ∈ ks := fun g p hp => List.mem_of_mem_take (g.sub p hp)
  intro m
  induction m with
  | zero =>
    rintro i s em hi st kp ⟨L, es, ep, t, ok, g⟩ hR
    obtain rfl : i = n := by omega
    refine codeAny_builtin F.entry_set_update_loop ?_
    rw [Around.under_plainId F.plain_set_update_loop _]
    show wpAny _ A.in1 (_ >>= _) _ _ s
    refine wpAny_bind (W.done s _ _ st fun s1 mv => ?_)
    have kp1 := old mv kp
    show wpAny _ _ (ret .none) _ _ s1
    exact wpAny_pure (hR s1 L es ep t (mv.mono up) (D.hold ok (fun o => mv.heap Z o nZ) fun p hp => D.keep (hk p (here g p hp)) kp1) g kp1)
  | succ m ih =>
    rintro i s em hi st kp ⟨L, es, ep, t, ok, g⟩ hR
    have lt : i < n := by omega
    refine codeAny_builtin F.entry_set_update_loop ?_
    rw [Around.under_plainId F.plain_set_update_loop _]
    show wpAny _ A.in1 (_ >>= _) _ _ s
    refine wpAny_bind (W.item i s _ _ lt st fun v s1 hv st1 mv => ?_)
    obtain ⟨⟨k, u⟩, hp, ev⟩ := vals i v hv
    have eu : u = v := ev.symm
    subst eu
    have kp1 := old mv kp
    have ok1 := D.hold ok (fun o => mv.heap Z o nZ) fun p hp => D.keep (hk p (here g p hp)) kp1
    have x1 : D.is s1.heap k u := D.keep (hk _ (List.mem_of_getElem? hp)) kp1
    show wpAny _ _ (holding [u] (setAdd Z u) >>= _) _ _ s1
    refine wpAny_bind (wpAny_holding ?_)
    unfold setAdd
    refine wpAny_holding (wpAny_bind (D.hashed hu x1 fun tk ht => ?_))
    refine D.add (s := { s1 with toks := tk }) hu ok1 x1 (by have := g.len; omega) fun b g2 L2 es2 ep2 t2 sb ok2 c1 c2 => ?_
    have got := gotE_next g hp c1 c2
    have kp2 : ∀ b o, g0.get? b = some o → g2.get? b = some o := fun b o e => by
      rw [sb.2 b fun z => by rw [z, hZ0] at e; cases e]; exact kp1 b o e
    have oth : ∀ b, b ≠ Z → g2.get? b = s1.heap.get? b := fun b hb => sb.2 b hb
    refine wpAny_pure ⟨plainId_quiet F.plain_set_update_loop _, ih (i + 1) _ (by omega) lt (W.frame _ s1 _ _ st1 ht fun b hb o e => ?_) kp2 ⟨L2, es2, ep2, t2, ok2, got⟩ fun s3 L3 es3 ep3 t3 mv3 ok3 got3 kp3 => ?_⟩
    · rw [oth b fun z => hZ (z ▸ hb)]; exact e
    · refine hR s3 L3 es3 ep3 t3 (Moved.trans W.gtrans ((mv.mono up).then_heap ht fun b o hb e => ?_) mv3) ok3 got3 kp3
      rw [oth b fun z => hb (z ▸ List.mem_cons_self)]; exact e
set_option maxHeartbeats 8000000 in
/-- set(xs), xs a list -/
theorem set_made {l : Addr} {items : Array Value} (ks : List (D.κ × Value)) {Q : Value → Shared → Prop} (hh : A.handled = none) (il : s.heap.IsList l items) (ei : items.toList = ks.map Prod.snd)
    (hk : ∀ p ∈ ks, D.is s.heap p.1 p.2) (few : ks.length ≤ D.most) (hu : A.units + 3 < cLine)
    (q : ∀ (g : Heap) (tk : Nat) L es ep t, D.ok g s.heap.objs.size L es ep t → GotE D ks ks.length L → (∀ b o, s.heap.get? b = some o → g.get? b = some o) → Q (.ref s.heap.objs.size) { s with heap := g, toks := tk }) :
    wpAny (model P w) A (call (.type "set") [.ref l]) Q E s := by
  have sz : items.size = ks.length := by
    rw [← Array.length_toList, ei, List.length_map]
  obtain ⟨c, tl, hmro⟩ := F.called_set.mro
  have hmade := F.called_set.made
  have hsub := F.called_set.sub
  refine wpAny_call (codeAny_of_tree ?_)
  show wpAny _ _ (callAny (.type "set") _) _ _ _
  refine wpAny_pure ⟨Code.quiet_builtin _ (by decide +kernel), codeAny_builtin F.entry_type_call ?_⟩
  rw [Around.under_plain (weight_type_call_type "set" [.ref l] []) rfl]
  have h1 := F.called_set.notType
  have h2 := F.called_set.canCreate
  have hct := F.typeCall_set_1 (.ref l)
  repeat (any_goals (first | assumption | wp_step))
  refine codeAny_mono (code_set_led1 (.ref l) (E := E) (Q₁ := fun v s₁ => v = .ref s.heap.objs.size ∧ s₁ = { s with heap := s.heap.push (nset w) }) ⟨rfl, rfl⟩) fun r s₁ hr => ?_
  match r, hr with
  | .error e, hr => exact hr
  | .ok (.ret v), ⟨ev, es1⟩ =>
    subst ev es1
    have gZ : (s.heap.push (nset w)).get? s.heap.objs.size = some (nset w) := Heap.get?_push_size _ rfl
    have tZ : Shared.TypeIs { s with heap := s.heap.push (nset w) } (.ref s.heap.objs.size) "set" := ⟨_, gZ, rfl⟩
    have hli := F.called_set.init.lookup
    have hbi := F.called_set.init.bind (.ref s.heap.objs.size)
    repeat (any_goals (first | assumption | wp_step))
    refine codeAny_mono (codeAny_call_builtin (R := wants (fun r u => r = .none ∧ ∃ g tk L es ep t, u = { s with heap := g, toks := tk } ∧ D.ok g s.heap.objs.size L es ep t ∧ GotE D ks ks.length L ∧ (∀ b o, s.heap.get? b = some o → g.get? b = some o)) E)
      F.called_set.init.plain F.entry_set_init (check_set_init_1 tZ ?_)) fun r2 s2 hr2 => ?_
    · obtain ⟨ol, gl, cl, nl, dl⟩ := il
      obtain ⟨ocls, odict, odata, oslots⟩ := ol
      simp only at cl dl
      subst cl dl
      have gl1 : (s.heap.push (nset w)).get? l = some { cls := .type "list", dict := odict, data := .seq items nl, slots := oslots } := Heap.get?_push_of_some _ gl
      have nls := F.sub_list_set
      have nlf := F.sub_list_frozenset
      have nld : (Value.type "list" == Value.type "dict") = false := by decide
      have il1 : (s.heap.push (nset w)).IsList l items := ⟨_, gl1, rfl, nl, rfl⟩
      unfold Builtin.«set.__init__» noKeywords Builtin.Frozenset.updateFrom
      generalize hPI : pyIter = PI
      wp_walk
      subst hPI
      refine wpAny_pyIter_list il1 ?_
      refine wpAny_bind (wpAny_runValue ?_)
      have ll : l < s.heap.objs.size := Heap.lt_size gl
      have hh3 : A.in1.in1.in1.handled = none := hh
      have z1 : (s.heap.push (nset w)).objs.size = s.heap.objs.size + 1 := Heap.size_push ..
      have nI : l ≠ (s.heap.push (nset w)).objs.size := by rw [z1]; exact Nat.ne_of_lt (Nat.lt_succ_of_lt ll)
      have nf : s.heap.objs.size ∉ [(s.heap.push (nset w)).objs.size, l] := by
        rw [z1]
        intro z
        simp only [List.mem_cons, List.not_mem_nil, or_false] at z
        exact z.elim (Nat.ne_of_lt (Nat.lt_succ_self _)) (Nat.ne_of_gt ll)
      have vals : ∀ (i : Nat) (v : Value), items[i]? = some v → ∃ p, ks[i]? = some p ∧ v = p.2 := fun i v hv => by
        rw [← Array.getElem?_toList, ei, List.getElem?_map] at hv
        cases e : ks[i]? with
        | none => rw [e] at hv; cases hv
        | some p => rw [e] at hv; exact ⟨p, rfl, (Option.some.inj hv).symm⟩
      have gone : ∀ b, s.heap.objs.size ≤ b → s.heap.get? b = none := fun b hb => by
        cases e : s.heap.get? b with
        | none => rfl
        | some o => exact absurd (Nat.lt_of_lt_of_le (Heap.lt_size e) hb) (Nat.lt_irrefl _)
      refine set_loop (D := D) ((Walks.list hh3 _ l nI items).toS) s.heap.objs.size nf ks sz few vals s.heap hk (gone _ (Nat.le_refl _))
        (fun b hb => gone b (by rw [List.mem_singleton.mp hb, z1]; omega)) hu (items.size - 0) 0 _ (by omega) (Nat.zero_le _) ⟨⟨_, Heap.get?_push_size _ rfl, rfl, rfl⟩, (il1.push _)⟩
        (fun b o e => Heap.get?_push_of_some _ (Heap.get?_push_of_some _ e)) ⟨[], #[], 0, _, D.fresh (Heap.get?_push_of_some _ gZ), gotE_none ks⟩ ?_
      rintro ⟨g, gs, dr, tk, os⟩ L es ep t mv ok got kp
      have e1 : gs = s.gens := mv.gens
      have e2 : dr = s.drawn := mv.drawn
      have e3 : os = s.os := mv.os
      subst e1 e2 e3
      show wpAny _ _ _ _ _ _
      refine wpAny_pure ?_
      show wpAny _ _ (ret .none) _ _ _
      rw [sz] at got
      exact wpAny_pure ⟨rfl, g, tk, L, es, ep, t, rfl, ok, got, kp⟩
    · match r2, hr2 with
      | .error e, hr2 => exact hr2
      | .ok (.ret v2), ⟨e0, g, tk, L, es, ep, t, e1, ok, got, kp⟩ =>
        subst e0 e1
        repeat (any_goals (first | assumption | wp_step))
        exact q _ _ _ _ _ _ ok got kp
/-- sorted(S), S such a set -/
theorem set_sorted {a : Addr} {L : List (D.κ × Value)} {es : Array (Int × Value)} {ep : Nat} {t : SetTable} {Q : Value → Shared → Prop} (ok : D.ok s.heap a L es ep t) (hh : A.handled = none)
    (al : W.AllAlike (L.map fun p => D.dat p.1)) (so : W.Sortable (L.map fun p => D.dat p.1)) (dp : ∀ p ∈ L, (D.dat p.1).depth ≤ 60) (hu : A.units + 100 < cLine)
    (q : ∀ (s1 : Shared) (p : Addr) (out : List Value) (c : Nat) (L2 : List (D.κ × Value)), (∀ b o, s.heap.get? b = some o → s1.heap.get? b = some o) → s1.gens = s.gens → s1.os = s.os → s.heap.objs.size ≤ p → s1.heap.get? p = some (seqObj "list" out.toArray c) → out = L2.map Prod.snd → L2.Perm L →
      L2.Pairwise (fun x y => W.dataLt (D.dat y.1) (D.dat x.1) = false) → Q (.ref p) s1) : wpAny (model P w) A (call (.builtin "sorted") [.ref a]) Q E s := by
  obtain ⟨o, go, ex, da⟩ := D.ob ok
  have few := D.few ok
  have bd := D.bound
  have rw1 := D.row ok
  have esz : es.size = L.length := by
    have := congrArg List.length rw1
    rw [List.length_map, List.length_map, Array.length_toList] at this
    exact this
  refine Calls.call_function_entry kind_sorted plain_sorted entry_sorted (args_sorted1 _) ?_
  unfold Builtin.«sorted»
  refine wpAny_bind (m := checkCount "sorted" 1 1 _) (wpAny_pure ?_)
  refine wpAny_bind (collect_set (A := A.in1) hh ⟨o, go, ex.1, da⟩ (D.fits ok) (by unfold scanBound; omega) (D.ris ok) (D.led ok) fun s1 vs k1 z1 g1 o1 pm => ?_)
  rw [rw1] at pm
  -- the values, with their keys
  obtain ⟨L1, e1, p1⟩ := perm_lift Prod.snd pm L rfl
  subst e1
  have ln : (L1.map Prod.snd).length ≤ sizeLine := by rw [List.length_map, p1.length_eq, sizeLine_eq]; omega
  refine wpAny_bind (wpAny_newList ?_ ln)
  have gL : (s1.heap.push (seqObj "list" (L1.map Prod.snd).toArray 0)).get? s1.heap.objs.size = some (seqObj "list" (L1.map Prod.snd).toArray 0) := Heap.get?_push_size _ rfl
  have pmd : (L1.map fun p => D.dat p.1).Perm (L.map fun p => D.dat p.1) := p1.map _
  have each : ∀ M : List (D.κ × Value), (∀ p ∈ M, p ∈ L) → W.EachIs (fun v (b : D.κ × Value) => (v = b.2) ∧ ∃ as, Reads (s1.heap.push (seqObj "list" (L1.map Prod.snd).toArray 0)) v (D.dat b.1) as ∧ s1.heap.objs.size ∉ as) (M.map Prod.snd) M := by
    intro M
    induction M with
    | nil => intro _; exact .nil
    | cons p M ih =>
      intro hM
      refine .cons ⟨rfl, ?_⟩ (ih fun r hr => hM r (List.mem_cons_of_mem _ hr))
      have i0 := D.keep (D.el ok p (hM p List.mem_cons_self)) k1
      exact ⟨[], Reads.keeps (fun b u e => Heap.get?_push_of_some _ e) (D.reads i0), nofun⟩
  have ea := each L1 fun p hp => p1.mem_iff.mp hp
  refine wpAny_bind (wpAny_holding (W.list_sort_data (s := { s1 with heap := s1.heap.push (seqObj "list" (L1.map Prod.snd).toArray 0) }) (R := fun v (b : D.κ × Value) => v = b.2) (enc := fun b : D.κ × Value => D.dat b.1) (bs := L1) (vs := L1.map Prod.snd) gL (ea.mono fun _ _ z => z.1) (ea.mono fun _ _ z => z.2)
    (fun d hd e he => al d (pmd.mem_iff.mp hd) e (pmd.mem_iff.mp he)) (so.imp (fun f d hd => f d (pmd.mem_iff.mp hd)) fun f d hd => f d (pmd.mem_iff.mp hd)) (by rw [List.length_map] at ln; exact ln) (fun b hb => ?_) fun out lo eo => ?_))
  · have := dp b (p1.mem_iff.mp hb)
    show A.units + 1 + 1 + (D.dat b.1).depth < cLine
    omega
  · obtain ⟨c, gc⟩ := sortedHeap_at (vs := L1.map Prod.snd) (out := out.toArray) gL
    have eo2 : out = (L1.mergeSort (W.dataLe false fun b : D.κ × Value => D.dat b.1)).map Prod.snd := by
      have key : ∀ {us : List Value} {M : List (D.κ × Value)}, W.EachIs (fun v (b : D.κ × Value) => v = b.2) us M → us = M.map Prod.snd := by
        intro us M h
        induction h with
        | nil => rfl
        | cons r _ ih => rw [List.map_cons, r, ih]
      exact key eo
    refine wpAny_pure ⟨_, rfl, q _ s1.heap.objs.size out c _ (fun b u e => ?_) g1 o1 z1 gc eo2 ((List.mergeSort_perm _ _).trans p1) ?_⟩
    · have e2 := k1 b u e
      have lt := Heap.lt_size e2
      show (sortedHeap _ _ _ _).get? b = some u
      rw [sortedHeap_old (Nat.ne_of_lt lt) (by rw [size_push']; exact Nat.lt_succ_of_lt lt)]
      exact Heap.get?_push_of_some _ e2
    · have := List.pairwise_mergeSort (le := W.dataLe false fun b : D.κ × Value => D.dat b.1) (fun a b c => (W.sortLe_total _ _ _).trans a b c) (fun a b => (Bool.or_eq_true _ _).mpr ((W.sortLe_total _ _ _).total a b)) L1
      exact this.imp fun h => by simpa [W.dataLe_eq] using h
end
/-! ### ints and texts -/
def datK : Key → PyData
  | .inl i => .int i
  | .inr x => .str x
def rowK (w : World) (p : Key × Value) : Int × Value := (keyH w p.1, p.2)
structure SetKy (P : Program) (w : World) (h : Heap) (a : Addr) (L : List (Key × Value)) (es : Array (Int × Value)) (ep : Nat) (t : SetTable) : Prop where
  ob : ∃ o, h.get? a = some o ∧ o.ExactSet ∧ o.data = .set es ep t
  rw0 : es.toList = L.map (rowK w)
  nd : (L.map Prod.fst).Nodup
  el : ∀ p ∈ L, (mixKind P w).is p.1 p.2 = true
  ft : t.fits es.size = true
  rs : Ris t.place.toList
  ld : w.params.followText "set-order" = true ∨ t.led = true
  fw : L.length ≤ 3999
section
variable {P : Program} {w : World} {A : Around} {E : Value → Shared → Prop} {s : Shared} {a : Addr} {L : List (Key × Value)} {es : Array (Int × Value)} {ep : Nat} {t : SetTable}
theorem scan_ok {k : Key} {v : Value} (h : (mixKind P w).is k v = true) : v.scannable = true := by
  rcases keyIs_shape h with ⟨i, u, rfl, rfl⟩ | ⟨x, u, rfl, rfl⟩ <;> rfl
theorem elems_ok (el : ∀ p ∈ L, (mixKind P w).is p.1 p.2 = true) : ElemsOf (mixKind P w) (L.map (rowK w)) := fun e he => by
  obtain ⟨p, hp, rfl⟩ := List.mem_map.mp he
  exact ⟨⟨p.1, el p hp, rfl⟩, scan_ok (el p hp)⟩
/-- the state's writing, and the table laid anew where it is full -/
theorem scan_tail {g : Bool → Sem Unit} (hg : ∀ (b : Bool) (u : Shared) (Q : Unit → Shared → Prop), Q () u → wpAny (model P w) A (g b) Q E u) {o : Obj} (go : s.heap.get? a = some o) (ex : o.ExactSet) (da : o.data = .set es ep t)
    {L1 : List (Key × Value)} {es1 : Array (Int × Value)} {t1 : SetTable} (r1 : es1.toList = L1.map (rowK w)) (n1 : (L1.map Prod.fst).Nodup) (l1 : ∀ p ∈ L1, (mixKind P w).is p.1 p.2 = true) (f1 : t1.fits es1.size = true) (s1 : Ris t1.place.toList) (d1 : w.params.followText "set-order" = true ∨ t1.led = true) (w1 : L1.length ≤ 3999)
    {dummy : Bool} {R : Option Bool → Shared → Prop} (q : ∀ h' L' es' ep' t', Heap.SameBut a s.heap h' → SetKy P w h' a L' es' ep' t' → L'.Perm L1 → R (some true) { s with heap := h' }) :
    wpAny (model P w) A (do
      storeSet a es1 t1
      if (!dummy && t1.tooFull) = true then do
        g (relayAll t1 es1 (SetTable.grown es1.size)).2.2
        storeSet a (relayAll t1 es1 (SetTable.grown es1.size)).1 (relayAll t1 es1 (SetTable.grown es1.size)).2.1
        pure (some true)
      else pure (some true)) R E s := by
  have z1 : es1.size = L1.length := by rw [← Array.length_toList, r1, List.length_map]
  refine wpAny_bind (wpAny_storeSet_of go da ?_ (by rw [z1, sizeLine_eq]; omega))
  have go1 := store_at (es' := es1) (t' := t1) go da
  have sb1 := Heap.SameBut.update s.heap a (Obj.putSet es1 t1)
  split
  · have b1 := relayAll_perm t1 es1 (SetTable.grown es1.size)
    have b2 := relayAll_fits t1 es1 (SetTable.grown es1.size)
    have b3 := relayAll_ris t1 es1 (SetTable.grown es1.size)
    have b4 := relayAll_led t1 es1 (SetTable.grown es1.size)
    generalize relayAll t1 es1 (SetTable.grown es1.size) = Z at b1 b2 b3 b4 ⊢
    obtain ⟨es2, t2, gave⟩ := Z
    dsimp only at b1 b2 b3 b4 ⊢
    rw [r1] at b1
    obtain ⟨L2, c1, c2⟩ := perm_lift _ b1 L1 rfl
    have z2 : es2.size = L2.length := by rw [← Array.length_toList, c1, List.length_map]
    have w2 : L2.length ≤ 3999 := by rw [c2.length_eq]; exact w1
    refine wpAny_bind (hg _ _ _ ?_)
    refine wpAny_bind (wpAny_storeSet_of go1 rfl ?_ (by rw [z2, sizeLine_eq]; omega))
    exact wpAny_pure (q _ L2 es2 _ t2 (sb1.trans (Heap.SameBut.update _ a _)) ⟨⟨_, store_at (es' := es2) (t' := t2) go1 rfl, ex, rfl⟩, c1, (c2.map _).nodup_iff.mpr n1, fun p hp => l1 p (c2.mem_iff.mp hp), b2, b3, d1.imp id fun z => by rw [b4]; exact z, w2⟩ c2)
  · exact wpAny_pure (q _ L1 es1 _ t1 sb1 ⟨⟨_, go1, ex, rfl⟩, r1, n1, l1, f1, s1, d1, w1⟩ (.refl _))
theorem scan_add {k : Key} {v : Value} {Q : Bool → Shared → Prop} (S : SetKy P w s.heap a L es ep t) (hv : (mixKind P w).is k v = true) (lt : L.length < 3999)
    (q : ∀ b h' L' es' ep' t', Heap.SameBut a s.heap h' → SetKy P w h' a L' es' ep' t' → (k ∈ L.map Prod.fst → L' = L) → (k ∉ L.map Prod.fst → L'.Perm ((k, v) :: L)) → Q b { s with heap := h' }) :
    wpAny (model P w) A (setAddHashed a v ((mixKind P w).hash k)) Q E s := by
  obtain ⟨o, go, ex, da⟩ := S.ob
  have ee : ElemsOf (mixKind P w) es.toList := by rw [S.rw0]; exact elems_ok S.el
  have zz : es.size = L.length := by rw [← Array.length_toList, S.rw0, List.length_map]
  have sc := scan_ok hv
  have isIn : ∀ e ∈ es.toList, (mixKind P w).is k e.2 = true → k ∈ L.map Prod.fst := fun e he hk => by
    rw [S.rw0] at he
    obtain ⟨p, hp, rfl⟩ := List.mem_map.mp he
    rw [(mixKind P w).inj _ _ _ hk (S.el p hp)]
    exact List.mem_map.mpr ⟨p, hp, rfl⟩
  unfold setAddHashed setAddHashedIn
  refine wpAny_holding (wpAny_bind (wpAny_setState_of go da S.ft ?_))
  dsimp only
  rw [byScan_of sc (by unfold scanBound; omega) ee]
  simp only [↓reduceIte]
  unfold setAddByScan
  refine wpAny_bind (wpAny_bind (wpAny_rule (wpAny_bind (wpAny_setScan_of hv go da S.ft ee ?_))))
  cases hf : List.findIdx? (fun e => (mixKind P w).is k e.2) es.toList with
  | some j =>
    dsimp only
    obtain ⟨hj, pj, _⟩ := List.findIdx?_eq_some_iff_getElem.mp hf
    have hm := isIn _ (List.getElem_mem hj) pj
    exact wpAny_pure (wpAny_pure (q false s.heap L es ep t (Heap.SameBut.refl a s.heap) S (fun _ => rfl) fun z => absurd hm z))
  | none =>
    dsimp only
    have hm : k ∉ L.map Prod.fst := fun z => by
      obtain ⟨p, hp, e⟩ := List.mem_map.mp z
      have c := List.findIdx?_eq_none_iff.mp hf (rowK w p) (by rw [S.rw0]; exact List.mem_map.mpr ⟨p, hp, rfl⟩)
      have := S.el p hp
      rw [e] at this
      simp only [rowK] at c
      rw [this] at c
      cases c
    have gv : ∀ (b : Bool) (u : Shared) (Q' : Unit → Shared → Prop), Q' () u → wpAny (model P w) A (match b with | true => rule "set.scan.the-table-gave-way" | false => pure ()) Q' E u := fun b u Q' z => by
      cases b
      · exact wpAny_pure z
      · exact wpAny_rule z
    have b1 := layNew_perm t es ((mixKind P w).hash k) v
    have b2 := layNew_fits t es ((mixKind P w).hash k) v
    have b3 := layNew_ris t es ((mixKind P w).hash k) v S.rs
    have b4 := layNew_led t es ((mixKind P w).hash k) v
    generalize layNew t es ((mixKind P w).hash k) v = Z at b1 b2 b3 b4 ⊢
    obtain ⟨es1, t1, dummy, gave⟩ := Z
    dsimp only at b1 b2 b3 b4 ⊢
    rw [Array.toList_push, S.rw0] at b1
    obtain ⟨L1, c1, c2⟩ := perm_lift (rowK w) b1 (L ++ [(k, v)]) (by rw [List.map_append]; rfl)
    have c3 : L1.Perm ((k, v) :: L) := c2.trans (List.perm_append_singleton _ _)
    have n1 : (L1.map Prod.fst).Nodup := (c3.map _).nodup_iff.mpr (List.nodup_cons.mpr ⟨hm, S.nd⟩)
    have l1 : ∀ p ∈ L1, (mixKind P w).is p.1 p.2 = true := fun p hp => by
      rcases List.mem_cons.mp (c3.mem_iff.mp hp) with z | z
      · subst z; exact hv
      · exact S.el p z
    have w1 : L1.length ≤ 3999 := by rw [c3.length_eq, List.length_cons]; omega
    have d1 : w.params.followText "set-order" = true ∨ t1.led = true := S.ld.imp id fun z => by rw [b4]; exact z
    have fin : ∀ h' L' es' ep' t', Heap.SameBut a s.heap h' → SetKy P w h' a L' es' ep' t' → L'.Perm L1 → Q true { s with heap := h' } := fun h' L' es' ep' t' sb S' pm => q true h' L' es' ep' t' sb S' (fun z => absurd z hm) fun _ => pm.trans c3
    refine wpAny_bind (gv _ _ _ ?_)
    split
    · refine wpAny_bind ?_
      rw [hashByValue_scannable 8 sc]
      refine wpAny_pure (scan_tail gv go ex da c1 n1 l1 ?_ ?_ ?_ w1 fun h' L' es' ep' t' sb S' pm => ?_)
      · split
        · exact b2
        · exact SetTable.fits_plain_off b2
      · split <;> exact b3
      · split <;> exact d1
      · dsimp only
        exact wpAny_pure (fin _ _ _ _ _ sb S' pm)
    · refine wpAny_bind (wpAny_pure ?_)
      simp only [↓reduceIte]
      refine scan_tail gv go ex da c1 n1 l1 b2 b3 d1 w1 fun h' L' es' ep' t' sb S' pm => ?_
      dsimp only
      exact wpAny_pure (fin _ _ _ _ _ sb S' pm)
end
theorem key_reads {P : Program} {w : World} {h : Heap} {k : Key} {v : Value} (e : (mixKind P w).is k v = true) : Reads h v (datK k) [] := by
  rcases keyIs_shape e with ⟨i, u, rfl, rfl⟩ | ⟨x, u, rfl, rfl⟩
  · exact .int i u
  · exact .str x u
def ekKey (P : Program) (w : World) : Ekd P w where
  κ := Key
  dec := inferInstance
  is := fun _ k v => (mixKind P w).is k v = true
  hash := (mixKind P w).hash
  dat := datK
  most := 3999
  bound := by decide
  ok := SetKy P w
  ob := SetKy.ob
  row := fun S => by
    rw [S.rw0, List.map_map]; rfl
  nd := SetKy.nd
  el := SetKy.el
  fits := SetKy.ft
  ris := SetKy.rs
  led := SetKy.ld
  few := SetKy.fw
  hold := fun S k _ => by
    obtain ⟨o, go, r⟩ := S.ob
    exact ⟨⟨o, k o go, r⟩, S.rw0, S.nd, S.el, S.ft, S.rs, S.ld, S.fw⟩
  keep := fun e _ => e
  reads := key_reads
  fresh := fun g => ⟨⟨_, g, ⟨rfl, rfl, rfl⟩, rfl⟩, rfl, List.nodup_nil, nofun, rfl, List.Pairwise.nil, by
    show _ ∨ (!w.params.followText "set-order") = true
    cases w.params.followText "set-order"
    · exact .inr rfl
    · exact .inl rfl, Nat.zero_le _⟩
  hashed := fun _ e q => (mixKind P w).pyHash e (q _ (Nat.le_succ _))
  add := fun _ S e lt q => scan_add S e lt q
end U
set_option Elab.async false
set_option linter.all false
set_option maxRecDepth 100000
set_option maxHeartbeats 4000000
namespace U
open PySem PySem.Spec L2 PyProof.Rows
/-! ### tuples of ints and texts as elements -/
abbrev hT (P : Program) (w : World) (k : List Key) : Int := tupleKeyHash (mixKind P w) k
def IsTu (P : Program) (w : World) (h : Heap) (k : List Key) (v : Value) : Prop := ∃ b, v = .ref b ∧ IsTupleKey (mixKind P w) h k b
section
variable {P : Program} {w : World} {A : Around} {E : Value → Shared → Prop} {s : Shared} {k : List Key} {v : Value} {b : Addr}
theorem IsTu.keep {h h' : Heap} (x : IsTu P w h k v) (q : ∀ c o, h.get? c = some o → h'.get? c = some o) : IsTu P w h' k v := by
  obtain ⟨b, e, o, its, n, go, r⟩ := x
  exact ⟨b, e, o, its, n, q b o go, r⟩
theorem parts_ok {vs : List Value} (h : ItemsAre (mixKind P w) k vs) : ∀ v ∈ vs, (∃ i t, v = Value.int i t) ∨ ∃ x t, v = Value.str x t := by
  induction h with
  | nil => nofun
  | cons e _ ih =>
    intro v hv
    rcases List.mem_cons.mp hv with z | z
    · subst z
      rcases keyIs_shape e with ⟨i, u, _, rfl⟩ | ⟨x, u, _, rfl⟩
      · exact .inl ⟨i, u, rfl⟩
      · exact .inr ⟨x, u, rfl⟩
    · exact ih v z
/-- such a tuple is of no class of the program's own -/
theorem tu_class {Q : Bool → Shared → Prop} (x : IsTupleKey (mixKind P w) s.heap k b) (q : Q false s) : wpAny (model P w) A (ofAClassStatement 8 (.ref b)) Q E s := by
  have ty := x.typeIs
  obtain ⟨o, its, n, go, _, da, ia⟩ := x
  unfold ofAClassStatement
  refine wpAny_bind (wpAny_typeOf ty ?_)
  dsimp only
  have e1 : (("tuple" : String) == "tuple") = true := by decide
  simp only [e1, if_true, Bool.not_true, Bool.false_eq_true, if_false]
  try refine wpAny_bind (wpAny_pure ?_)
  try simp only [Bool.not_true, Bool.false_eq_true, if_false]
  show wpAny _ _ (seqItems? (.ref b) >>= _) _ _ s
  refine wpAny_bind (wpAny_seqItems go da ?_)
  dsimp only
  refine wpAny_bind ?_
  show wpAny _ _ (forIn its _ _) _ _ s
  rw [← Array.forIn_toList]
  refine wpAny_forIn_list _ (fun l r u => r.1 = none ∧ u = s ∧ ∀ y ∈ l, (∃ i t, y = Value.int i t) ∨ ∃ x t, y = Value.str x t) _ ?_ ?_ _ _ ⟨rfl, rfl, parts_ok ia⟩
  · rintro y l r u ⟨hr, rfl, all⟩
    have e2 : ofAClassStatement 7 y = pure false := by
      rcases all y List.mem_cons_self with ⟨i, t, rfl⟩ | ⟨z, t, rfl⟩ <;> rfl
    rw [e2]
    refine wpAny_bind (wpAny_pure ?_)
    simp only [Bool.false_eq_true, if_false]
    exact wpAny_pure ⟨rfl, rfl, fun c hc => all c (List.mem_cons_of_mem _ hc)⟩
  · rintro ⟨r1, r2⟩ u ⟨hr, rfl, _⟩
    simp only at hr
    subst hr
    exact wpAny_pure q
/-- whether its hash is one by value: either way -/
theorem tu_byval {Q : Bool → Shared → Prop} (x : IsTupleKey (mixKind P w) s.heap k b) (q : ∀ c, Q c s) : wpAny (model P w) A (hashByValue 8 (.ref b)) Q E s := by
  have ty := x.typeIs
  obtain ⟨o, its, n, go, _, da, ia⟩ := x
  unfold hashByValue
  refine wpAny_bind (wpAny_specialOf ty F.slot_tuple_hash.lookup ?_)
  show wpAny _ _ (seqItems? (.ref b) >>= _) _ _ s
  refine wpAny_bind (wpAny_seqItems go da ?_)
  refine wpAny_bind ?_
  show wpAny _ _ (forIn its _ _) _ _ s
  rw [← Array.forIn_toList]
  refine wpAny_forIn_list _ (fun l r u => u = s ∧ (∀ c, r.1 = some c → True) ∧ ∀ y ∈ l, (∃ i t, y = Value.int i t) ∨ ∃ x t, y = Value.str x t) _ ?_ ?_ _ _ ⟨rfl, fun _ _ => trivial, parts_ok ia⟩
  · rintro y l r u ⟨rfl, _, all⟩
    rcases all y List.mem_cons_self with ⟨i, t, rfl⟩ | ⟨z, t, rfl⟩
    · have e2 : hashByValue 7 (.int i t) = pure true := rfl
      rw [e2]
      refine wpAny_bind (wpAny_pure ?_)
      simp only [Bool.not_true, Bool.false_eq_true, if_false]
      exact wpAny_pure ⟨rfl, fun _ _ => trivial, fun c hc => all c (List.mem_cons_of_mem _ hc)⟩
    · have e2 : hashByValue 7 (.str z t) = pure false := rfl
      rw [e2]
      refine wpAny_bind (wpAny_pure ?_)
      simp only [Bool.not_false, if_true]
      exact wpAny_pure (wpAny_pure (q false))
  · rintro ⟨r1, r2⟩ u ⟨rfl, _, _⟩
    cases r1 with
    | none => exact wpAny_pure (q true)
    | some c => exact wpAny_pure (q c)
theorem tu_seen {Q : Bool → Shared → Prop} (x : IsTupleKey (mixKind P w) s.heap k b) {ys : List Value} (hy : ∀ y ∈ ys, ∃ k', IsTu P w s.heap k' y) (q : Q false s) : wpAny (model P w) A (searchCouldBeSeen (.ref b) ys) Q E s := by
  unfold searchCouldBeSeen
  refine wpAny_bind ?_
  refine wpAny_forIn_list _ (fun l r u => r.1 = none ∧ u = s ∧ ∀ y ∈ l, ∃ k', IsTu P w s.heap k' y) _ ?_ ?_ _ _ ⟨rfl, rfl, hy⟩
  · rintro y l r u ⟨hr, rfl, all⟩
    obtain ⟨k', c, rfl, hc⟩ := all y List.mem_cons_self
    have all' : ∀ y ∈ l, ∃ k', IsTu P w u.heap k' y := fun z hz => all z (List.mem_cons_of_mem _ hz)
    dsimp only
    by_cases hv : (b == c || (carriedByValue (.ref b) && carriedByValue (.ref c))) = true
    · exact wp_if_pos hv (wpAny_pure ⟨rfl, rfl, all'⟩)
    · refine wp_if_neg hv ?_
      refine wpAny_bind (wpAny_eqIsQuiet_tuple x ?_)
      simp only [Bool.not_true, Bool.false_eq_true, if_false]
      refine wpAny_bind (wpAny_eqIsQuiet_tuple hc ?_)
      simp only [Bool.not_true, Bool.false_eq_true, if_false]
      refine wpAny_bind (tu_class x ?_)
      simp only [Bool.false_eq_true, if_false]
      refine wpAny_bind (tu_class hc ?_)
      simp only [Bool.false_eq_true, if_false]
      exact wpAny_pure ⟨rfl, rfl, all'⟩
  · rintro ⟨r1, r2⟩ u ⟨hr, rfl, _⟩
    simp only at hr
    subst hr
    exact wpAny_pure q
end
def rowT (P : Program) (w : World) (p : List Key × Value) : Int × Value := (hT P w p.1, p.2)
structure SetTu (P : Program) (w : World) (h : Heap) (a : Addr) (L : List (List Key × Value)) (es : Array (Int × Value)) (ep : Nat) (t : SetTable) : Prop where
  ob : ∃ o, h.get? a = some o ∧ o.ExactSet ∧ o.data = .set es ep t
  rw0 : es.toList = L.map (rowT P w)
  tab : TabOk t (L.map fun p => hT P w p.1)
  nd : (L.map Prod.fst).Nodup
  el : ∀ p ∈ L, IsTu P w h p.1 p.2
  ld : w.params.followText "set-order" = true ∨ t.led = true
  rm : L.length * 5 < t.mask * 3
  fw : L.length ≤ 63
section
variable {P : Program} {w : World} {A : Around} {E : Value → Shared → Prop} {s : Shared} {a : Addr} {L : List (List Key × Value)} {es : Array (Int × Value)} {ep : Nat} {t : SetTable}
theorem rows_size {L : List (List Key × Value)} (e : es.toList = L.map (rowT P w)) : es.size = L.length := by rw [← Array.length_toList, e, List.length_map]
theorem tab_fits (tb : TabOk t (L.map fun p => hT P w p.1)) (e : es.toList = L.map (rowT P w)) (hm : L.length ≤ t.mask) : t.fits es.size = true := by
  have h1 := tb.sz
  rw [List.length_map] at h1
  unfold SetTable.fits SetTable.fill
  rw [tb.dm, Bool.and_eq_true, beq_iff_eq, decide_eq_true_eq, rows_size e]
  exact ⟨h1, by show t.place.size + 0 ≤ t.mask; omega⟩
theorem SetTu.ft (S : SetTu P w s.heap a L es ep t) : t.fits es.size = true := tab_fits S.tab S.rw0 (by have := S.rm; omega)
theorem SetTu.at' (S : SetTu P w s.heap a L es ep t) {i : Nat} {p : List Key × Value} (h : L[i]? = some p) : es[i]? = some (hT P w p.1, p.2) := by
  rw [← Array.getElem?_toList, S.rw0, List.getElem?_map, h]; rfl
abbrev st0 (t : SetTable) (h : Int) : SetTable.Probe := runAt t.mask (SetTable.bits h % (t.mask + 1)) (SetTable.bits h)
theorem nodummy (m : Nat) : ∀ (n : Nat) (p : SetTable.Probe), p.dummy = none → (nth m p n).dummy = none
  | 0, _, h => h
  | n + 1, p, h => nodummy m n (adv m p) (by unfold adv; split <;> exact h)
/-- the search goes on from the c-th step -/
theorem tu_from (S : SetTu P w s.heap a L es ep t) {b : Addr} {k : List Key} (x : IsTupleKey (mixKind P w) s.heap k b) (hu : A.units < cLine) {N : Nat} (hN : N < 10 * SetTable.turns t.mask) (nf : way t.mask (hT P w k) N ∉ t.place.toList)
    (nb : ∀ c, c < N → way t.mask (hT P w k) c ∈ t.place.toList) {Q : SetFound → Shared → Prop} (q1 : k ∈ L.map Prod.fst → Q (.there none) s) (q2 : k ∉ L.map Prod.fst → Q (.free (way t.mask (hT P w k) N) false) s) :
    ∀ (f c : Nat) (at0 : Option SetTable.Probe), at0.getD (t.probeStart (hT P w k)) = nth t.mask (st0 t (hT P w k)) c → c ≤ N → N - c < f →
      (∀ (i : Nat) p, L[i]? = some p → p.1 = k → ∃ d, c ≤ d ∧ d < N ∧ t.place.toList[i]? = some (way t.mask (hT P w k) d)) → wpAny (model P w) A (setSearchFrom a (.ref b) (hT P w k) true f at0) Q E s := by
  intro f
  induction f with
  | zero => intro c _ _ _ hf _; omega
  | succ f ih =>
    intro c at0 ea hc hf hr
    obtain ⟨o, go, ex, da⟩ := S.ob
    rw [setSearchFrom_succ]
    refine wpAny_bind (wpAny_setState_of go da S.ft ?_)
    dsimp only
    refine wp_if_neg (by unfold SetTable.gaveWay; rw [mask_odd S.tab.mok]; decide) ?_
    try refine wpAny_bind (wpAny_pure ?_)
    have sh : ∀ n, nth t.mask (nth t.mask (st0 t (hT P w k)) c) n = nth t.mask (st0 t (hT P w k)) (c + n) := fun n => (nth_add t.mask c _ n).symm
    have wy : ∀ n, (nth t.mask (nth t.mask (st0 t (hT P w k)) c) n).j = way t.mask (hT P w k) (c + n) := fun n => congrArg SetTable.Probe.j (sh n)
    have hs : ∀ (i : Nat) p, L[i]? = some p → (es[i]?.map (·.1)).getD 0 = hT P w p.1 := fun i p hp => by rw [S.at' hp]; rfl
    rcases go_spec t S.tab.ris S.tab.dm (fun i => (es[i]?.map (·.1)).getD 0) (hT P w k) (10 * SetTable.turns t.mask) (N - c) (nth t.mask (st0 t (hT P w k)) c) (nodummy _ _ _ rfl) (by omega)
      (fun n hn => by rw [wy]; exact nb _ (by omega)) (by rw [wy, Nat.add_sub_cancel' hc]; exact nf) with ⟨n, i, hn, hi, hh, hno, pr⟩ | ⟨hno, pr⟩
    · have pr1 : t.probe (fun i => (es[i]?.map (·.1)).getD 0) (hT P w k) (at0.getD (t.probeStart (hT P w k))) = some (.candidate (way t.mask (hT P w k) (c + n)) i (nth t.mask (st0 t (hT P w k)) (c + (n + 1)))) := by
        rw [ea, ← wy, ← sh]; exact pr
      rw [pr1]
      dsimp only
      rw [wy] at hi
      have li : i < L.length := by
        have h1 := (List.getElem?_eq_some_iff.mp hi).1
        have h2 := S.tab.sz
        rw [List.length_map] at h2
        rw [Array.length_toList] at h1
        omega
      obtain ⟨p, hp⟩ : ∃ p, L[i]? = some p := ⟨_, List.getElem?_eq_getElem li⟩
      have mp : p ∈ L := List.mem_of_getElem? hp
      obtain ⟨pb, pe, px⟩ := S.el p mp
      have go2 : wpAny (model P w) A (searchRest a (.ref b) (hT P w k) true f es t (way t.mask (hT P w k) (c + n)) i (nth t.mask (st0 t (hT P w k)) (c + (n + 1)))) Q E s := by
        unfold searchRest
        rw [S.at' hp, pe]
        dsimp only
        refine wpAny_bind (wpAny_holding (wpAny_eqBool_tuple hu px x ?_))
        refine wpAny_bind (wpAny_setState_of go da S.ft ?_)
        dsimp only
        by_cases e : p.1 = k
        · refine wp_if_pos (by rw [decide_eq_true e]; rfl) ?_
          exact wpAny_pure (q1 (List.mem_map.mpr ⟨p, mp, e⟩))
        · refine wp_if_neg (by rw [decide_eq_false e]; decide) ?_
          try refine wpAny_bind (wpAny_pure ?_)
          rw [sameMem]
          dsimp only
          have sl := slot_live S.tab.ris hi
          simp only [if_true, sl, S.at' hp, pe]
          refine wpAny_bind (wpAny_isSame_ref_self (wpAny_bind (wpAny_pure ?_)))
          simp only [if_true]
          refine wp_if_neg (by rw [decide_eq_false e]; exact Bool.false_ne_true) ?_
          refine ih (c + (n + 1)) _ rfl (by omega) (by omega) fun i0 p0 h0 e0 => ?_
          obtain ⟨d, d1, d2, d3⟩ := hr i0 p0 h0 e0
          refine ⟨d, ?_, d2, d3⟩
          have c1 : ¬ d < c + n := fun z => by
            refine hno (d - c) i0 (by omega) (by rw [wy, Nat.add_sub_cancel' d1]; exact d3) ?_
            show (es[i0]?.map (·.1)).getD 0 = _
            rw [hs i0 p0 h0, e0]
          have c2 : d ≠ c + n := fun z => by
            subst z
            have s2 := slot_live S.tab.ris d3
            rw [sl] at s2
            have e9 : i = i0 := by injection s2
            subst e9
            rw [hp] at h0
            exact e (by rw [Option.some.inj h0]; exact e0)
          omega
      by_cases hl : t.led = true
      · refine wp_if_neg (by rw [hl]; decide) ?_
        try refine wpAny_bind (wpAny_pure ?_)
        exact go2
      · refine wp_if_pos (by simpa using hl) ?_
        refine wpAny_bind (tu_seen x (fun y hy => ?_) ?_)
        · obtain ⟨e, he, rfl⟩ := List.mem_map.mp hy
          have h1 : e ∈ es ∧ e.1 = hT P w k := by simpa using he
          have h2 : e ∈ es.toList := by simpa using h1.1
          rw [S.rw0] at h2
          obtain ⟨p2, hp2, rfl⟩ := List.mem_map.mp h2
          exact ⟨p2.1, S.el p2 hp2⟩
        · refine wp_if_neg (by decide) ?_
          try refine wpAny_bind (wpAny_pure ?_)
          exact go2
    · have pr1 : t.probe (fun i => (es[i]?.map (·.1)).getD 0) (hT P w k) (at0.getD (t.probeStart (hT P w k))) = some (.empty (way t.mask (hT P w k) N) none) := by
        have e2 : way t.mask (hT P w k) N = (nth t.mask (nth t.mask (st0 t (hT P w k)) c) (N - c)).j := by rw [wy, Nat.add_sub_cancel' hc]
        rw [ea, e2]; exact pr
      rw [pr1]
      dsimp only
      refine wpAny_pure (q2 fun hm => ?_)
      obtain ⟨p0, m0, e0⟩ := List.mem_map.mp hm
      obtain ⟨i0, h0⟩ := List.getElem?_of_mem m0
      obtain ⟨d, d1, d2, d3⟩ := hr i0 p0 h0 e0
      refine hno (d - c) i0 (by omega) (by rw [wy, Nat.add_sub_cancel' d1]; exact d3) ?_
      show (es[i0]?.map (·.1)).getD 0 = _
      rw [hs i0 p0 h0, e0]
theorem tu_search (S : SetTu P w s.heap a L es ep t) {b : Addr} {k : List Key} (x : IsTupleKey (mixKind P w) s.heap k b) (hu : A.units < cLine) {Q : SetFound → Shared → Prop} (q1 : k ∈ L.map Prod.fst → Q (.there none) s)
    (q2 : ∀ N, k ∉ L.map Prod.fst → way t.mask (hT P w k) N ∉ t.place.toList → (∀ c, c < N → way t.mask (hT P w k) c ∈ t.place.toList) → Q (.free (way t.mask (hT P w k) N) false) s) :
    wpAny (model P w) A (setSearch a (.ref b) (hT P w k) true) Q E s := by
  have rm := S.rm
  obtain ⟨N, hN, nf, nb⟩ := S.tab.first (by rw [List.length_map]; omega) (hT P w k)
  have big : N < 100000 := by
    have : 10 * SetTable.turns t.mask ≤ 1420 := by
      unfold SetTable.turns
      rcases S.tab.mok with e | e | e <;> omega
    omega
  unfold setSearch
  refine tu_from S x hu hN nf nb q1 (fun z => q2 N z nf nb) 100000 0 none rfl (Nat.zero_le _) (by omega) fun i p hp e => ?_
  have h1 : (L.map fun p => hT P w p.1)[i]? = some (hT P w k) := by rw [List.getElem?_map, hp, ← e]; rfl
  have h2 : i < t.place.toList.length := by
    have := (List.getElem?_eq_some_iff.mp hp).1
    have h3 := S.tab.sz
    rw [List.length_map] at h3
    rw [Array.length_toList]; omega
  obtain ⟨d, d1, d2⟩ := S.tab.before nf h1 (List.getElem?_eq_getElem h2)
  exact ⟨d, Nat.zero_le _, d1, by rw [d2]; exact List.getElem?_eq_getElem h2⟩
theorem tu_same {h h' : Heap} {k : List Key} {v : Value} {o : Obj} (x : IsTu P w h k v) (go : h.get? a = some o) (da : o.data = .set es ep t) (sb : Heap.SameBut a h h') : IsTu P w h' k v := by
  obtain ⟨b, e, o', its, n, go', cl, dt, ia⟩ := x
  have ne : b ≠ a := fun z => by
    subst z
    rw [go] at go'
    cases go'
    rw [da] at dt
    cases dt
  exact ⟨b, e, o', its, n, (sb.2 b ne).trans go', cl, dt, ia⟩
theorem order_ok {L : List (List Key × Value)} {es : Array (Int × Value)} {order : Array Nat} (e : es.toList = L.map (rowT P w)) (pm : order.toList.Perm (List.range L.length)) :
    ∃ L2 : List (List Key × Value), (order.filterMap (es[·]?)).toList = L2.map (rowT P w) ∧ L2.Perm L ∧ (L2.map fun p => hT P w p.1) = order.toList.map fun i => (es.map (·.1)).getD i 0 := by
  have zz := rows_size e
  have at0 : ∀ i, (h : i < L.length) → es[i]? = some (rowT P w L[i]) := fun i h => by
    rw [← Array.getElem?_toList, e, List.getElem?_map, List.getElem?_eq_getElem h]; rfl
  refine ⟨order.toList.filterMap fun i => L[i]?, ?_, ?_, ?_⟩
  · rw [Array.toList_filterMap]
    have : ∀ l : List Nat, (∀ i ∈ l, i < L.length) → l.filterMap (fun i => es[i]?) = (l.filterMap fun i => L[i]?).map (rowT P w) := fun l => by
      induction l with
      | nil => intro _; rfl
      | cons i l ih =>
        intro h
        have hi := h i List.mem_cons_self
        rw [List.filterMap_cons_some (at0 i hi), List.filterMap_cons_some (List.getElem?_eq_getElem hi), List.map_cons, ih fun j hj => h j (List.mem_cons_of_mem _ hj)]
    exact this _ fun i hi => List.mem_range.mp (pm.mem_iff.mp hi)
  · have h1 := pm.filterMap fun i => L[i]?
    have h2 : ∀ n, n ≤ L.length → (List.range n).filterMap (fun i => L[i]?) = L.take n := fun n => by
      induction n with
      | zero => intro _; rfl
      | succ n ih =>
        intro h
        rw [List.range_succ, List.filterMap_append, ih (Nat.le_of_lt h), List.take_succ, List.getElem?_eq_getElem h, List.filterMap_cons_some (List.getElem?_eq_getElem h)]; rfl
    rw [h2 _ (Nat.le_refl _), List.take_length] at h1
    exact h1
  · have : ∀ l : List Nat, (∀ i ∈ l, i < L.length) → ((l.filterMap fun i => L[i]?).map fun p => hT P w p.1) = l.map fun i => (es.map (·.1)).getD i 0 := fun l => by
      induction l with
      | nil => intro _; rfl
      | cons i l ih =>
        intro h
        have hi := h i List.mem_cons_self
        have e5 : (es.map (·.1))[i]? = some (hT P w L[i].1) := by rw [Array.getElem?_map, at0 i hi]; rfl
        rw [List.filterMap_cons_some (List.getElem?_eq_getElem hi), List.map_cons, List.map_cons, ih fun j hj => h j (List.mem_cons_of_mem _ hj)]
        congr 1
        simp [Array.getD_eq_getD_getElem?, e5]
    exact this _ fun i hi => List.mem_range.mp (pm.mem_iff.mp hi)
/-- a larger table -/
theorem tu_relay {o : Obj} (go : s.heap.get? a = some o) (ex : o.ExactSet) (da : o.data = .set es ep t) (r : es.toList = L.map (rowT P w)) (pz : t.place.size = es.size) (dm : t.dummies = #[]) (hm : es.size ≤ t.mask) (nd : (L.map Prod.fst).Nodup)
    (el : ∀ p ∈ L, IsTu P w s.heap p.1 p.2) (ld : w.params.followText "set-order" = true ∨ t.led = true) (fw : L.length ≤ 63) {wanted M : Nat} (eM : SetTable.sizeAbove wanted - 1 = M) (okM : MaskOk M) (leM : SetTable.sizeAbove wanted ≤ 128) (rm : L.length * 5 < M * 3) {Q : Unit → Shared → Prop}
    (q : ∀ h' L' es' ep' t', Heap.SameBut a s.heap h' → SetTu P w h' a L' es' ep' t' → L'.Perm L → Q () { s with heap := h' }) : wpAny (model P w) A (setRelay a wanted) Q E s := by
  have zz := rows_size r
  have ft : t.fits es.size = true := by
    unfold SetTable.fits SetTable.fill
    rw [dm, Bool.and_eq_true, beq_iff_eq, decide_eq_true_eq]
    exact ⟨pz, by show t.place.size + 0 ≤ t.mask; omega⟩
  obtain ⟨t1, order, e1, pm, tb, e2, e3, _, _⟩ := relaid_ok t (hs := es.map (·.1)) (wanted := wanted) eM okM (by rw [Array.size_map, zz]; omega)
  rw [Array.size_map, zz] at pm
  obtain ⟨L2, c1, c2, c3⟩ := order_ok r pm
  rw [← c3] at tb
  have z2 : (order.filterMap (es[·]?)).size = es.size := by rw [rows_size c1, c2.length_eq, zz]
  rw [setRelay_eq]
  refine wpAny_bind (wpAny_setState_of go da ft ?_)
  dsimp only
  refine wp_if_neg (by rw [sizeLine_eq]; omega) ?_
  try refine wpAny_bind (wpAny_pure ?_)
  rw [e1]
  dsimp only
  refine wpAny_bind (wp_if_neg (by rw [z2]; simp) ?_)
  try refine wpAny_bind (wpAny_pure ?_)
  refine wpAny_pure ?_
  dsimp only
  refine wpAny_storeSet_of go da ?_ (by rw [z2, zz, sizeLine_eq]; omega)
  have sb : Heap.SameBut a s.heap (s.heap.update a (Obj.putSet (order.filterMap (es[·]?)) t1)) := Heap.SameBut.update ..
  exact q _ L2 _ (ep + 1) t1 sb ⟨⟨_, store_at go da, ex, rfl⟩, c1, tb, (c2.map _).nodup_iff.mpr nd, fun p hp => tu_same (el p (c2.mem_iff.mp hp)) go da sb, by rw [e3]; exact ld, by rw [c2.length_eq, e2]; exact rm, by rw [c2.length_eq]; exact fw⟩ c2
theorem tu_add {v : Value} {k : List Key} {Q : Bool → Shared → Prop} (S : SetTu P w s.heap a L es ep t) (x : IsTu P w s.heap k v) (hu : A.units < cLine) (lt : L.length < 63)
    (q : ∀ b h' L' es' ep' t', Heap.SameBut a s.heap h' → SetTu P w h' a L' es' ep' t' → (k ∈ L.map Prod.fst → L' = L) → (k ∉ L.map Prod.fst → L'.Perm ((k, v) :: L)) → Q b { s with heap := h' }) :
    wpAny (model P w) A (setAddHashed a v (hT P w k)) Q E s := by
  have x0 := x
  obtain ⟨b, rfl, xb⟩ := x
  obtain ⟨o, go, ex, da⟩ := S.ob
  have zz := rows_size S.rw0
  have rm := S.rm
  unfold setAddHashed
  refine wpAny_holding ?_
  rw [show (100000 : Nat) = 99999 + 1 from rfl, setAddHashedIn_succ]
  refine wpAny_bind (wpAny_setState_of go da S.ft ?_)
  dsimp only
  refine wp_if_neg (by simp [byScan, Value.scannable]) ?_
  try refine wpAny_bind (wpAny_pure ?_)
  refine wpAny_bind (tu_search S xb hu (fun hm => ?_) fun N hm nf nb => ?_)
  · dsimp only
    exact wpAny_pure (q false s.heap L es ep t (Heap.SameBut.refl a s.heap) S (fun _ => rfl) fun z => absurd hm z)
  · dsimp only
    refine wpAny_bind (wpAny_setState_of go da S.ft ?_)
    dsimp only
    obtain ⟨b1, b2, b3, b4, b5, b6, b7, b8, b9⟩ := S.tab.put nf nb
    generalize t.put (way t.mask (hT P w k) N) = pt at b1 b3 b4 b5 b6 b7 b8 b9 ⊢
    obtain ⟨t1, j⟩ := pt
    dsimp only at b1 b3 b4 b5 b6 b7 b8 b9 ⊢
    subst b1
    generalize SetTable.below t.place (way t.mask (hT P w k) N) = j at b2 b3 ⊢
    -- the rows with the new one
    have r1 : (SetTable.insertAt es j (hT P w k, Value.ref b)).toList = (L.take j ++ (k, Value.ref b) :: L.drop j).map (rowT P w) := by
      rw [SetTable.toList_insertAt, S.rw0, List.map_append, List.map_cons, List.map_take, List.map_drop]; rfl
    have pm : (L.take j ++ (k, Value.ref b) :: L.drop j).Perm ((k, Value.ref b) :: L) := by
      have := List.perm_middle (a := (k, Value.ref b)) (l₁ := L.take j) (l₂ := L.drop j)
      rw [List.take_append_drop] at this
      exact this
    have eh : (L.take j ++ (k, Value.ref b) :: L.drop j).map (fun p => hT P w p.1) = (L.map fun p => hT P w p.1).take j ++ hT P w k :: (L.map fun p => hT P w p.1).drop j := by
      rw [List.map_append, List.map_cons, List.map_take, List.map_drop]
    rw [← eh] at b3
    generalize L.take j ++ (k, Value.ref b) :: L.drop j = L1 at r1 pm b3
    generalize SetTable.insertAt es j (hT P w k, Value.ref b) = es1 at r1 ⊢
    have l1 : L1.length = L.length + 1 := pm.length_eq
    have n1 : (L1.map Prod.fst).Nodup := (pm.map _).nodup_iff.mpr (List.nodup_cons.mpr ⟨hm, S.nd⟩)
    have z1 := rows_size r1
    -- the state behind the writing, for a table that differs in no more than plain
    have last : ∀ t2 : SetTable, t2.place = t1.place → t2.dummies = t1.dummies → t2.mask = t1.mask → t2.led = t1.led → TabOk t2 (L1.map fun p => hT P w p.1) → t2.tooFull = t1.tooFull → wpAny (model P w) A (do
        storeSet a es1 t2
        if (!false && t2.tooFull) = true then setRelay a (SetTable.grown (es.size + 1))
        return true) Q E s := by
      intro t2 p1 p2 p3 p4 tb p5
      refine wpAny_bind (wpAny_storeSet_of go da ?_ (by rw [z1, l1, sizeLine_eq]; omega))
      have sb : Heap.SameBut a s.heap (s.heap.update a (Obj.putSet es1 t2)) := Heap.SameBut.update ..
      have go1 := store_at (es' := es1) (t' := t2) go da
      generalize s.heap.update a (Obj.putSet es1 t2) = g1 at sb go1 ⊢
      have el1 : ∀ p ∈ L1, IsTu P w g1 p.1 p.2 := fun p hp => by
        rcases List.mem_cons.mp (pm.mem_iff.mp hp) with e | e
        · subst e; exact tu_same x0 go da sb
        · exact tu_same (S.el p e) go da sb
      have d1 : w.params.followText "set-order" = true ∨ t2.led = true := by rw [p4, b5]; exact S.ld
      have tf : t2.tooFull = decide (t2.fill * 5 ≥ t2.mask * 3) := rfl
      have fl : t1.fill = L.length + 1 := by rw [b9, List.length_map]
      have fl2 : t2.fill = L.length + 1 := by rw [← fl]; unfold SetTable.fill; rw [p1, p2]
      rw [fl2, p3, b4] at tf
      by_cases hf : t2.tooFull = true
      · first
          | (refine wpAny_bind ?_; refine wp_if_pos (by rw [hf]; rfl) ?_)
          | (refine wp_if_pos (by rw [hf]; rfl) ?_; refine wpAny_bind ?_)
        rw [hf] at tf
        have full := of_decide_eq_true tf.symm
        rw [zz]
        have two : (t.mask = 7 ∧ L.length = 4) ∨ (t.mask = 31 ∧ L.length = 18) := by
          rcases S.tab.mok with e | e | e
          · rw [e] at full rm; exact .inl ⟨e, by omega⟩
          · rw [e] at full rm; exact .inr ⟨e, by omega⟩
          · rw [e] at full; omega
        have go2 : ∀ M, SetTable.sizeAbove (SetTable.grown (L.length + 1)) - 1 = M → MaskOk M → SetTable.sizeAbove (SetTable.grown (L.length + 1)) ≤ 128 → (L.length + 1) * 5 < M * 3 →
            wpAny (model P w) A (setRelay a (SetTable.grown (L.length + 1))) (fun _ u => wpAny (model P w) A (pure true) Q E u) E { s with heap := g1 } := fun M m1 m2 m3 m4 =>
          tu_relay (s := { s with heap := g1 }) go1 ex rfl r1 (by have := tb.sz; rw [List.length_map] at this; rw [z1]; exact this) tb.dm (by rw [z1, l1, p3, b4]; omega) n1 el1 d1 (by omega) m1 m2 m3 (by rw [l1]; exact m4)
            fun g2 L2 es2 ep2 t3 sb2 S2 pm2 => wpAny_pure (q true g2 L2 es2 ep2 t3 (sb.trans sb2) S2 (fun z => absurd z hm) fun _ => pm2.trans pm)
        rcases two with ⟨_, e⟩ | ⟨_, e⟩
        · exact go2 31 (by rw [e, size_20]) (.inr (.inl rfl)) (by rw [e, size_20]; decide) (by omega)
        · exact go2 127 (by rw [e, size_76]) (.inr (.inr rfl)) (by rw [e, size_76]; decide) (by omega)
      · first
          | refine wp_if_neg (by simpa using hf) ?_
          | (refine wpAny_bind ?_; refine wp_if_neg (by simpa using hf) ?_; refine wpAny_pure ?_)
        have nf2 : ¬ ((L.length + 1) * 5 ≥ t.mask * 3) := fun z => hf (by rw [tf]; exact decide_eq_true z)
        exact wpAny_pure (q true g1 L1 es1 (ep + 1) t2 sb ⟨⟨_, go1, ex, rfl⟩, r1, tb, n1, el1, d1, by rw [l1, p3, b4]; omega, by omega⟩ (fun z => absurd z hm) fun _ => pm)
    have tb1 : TabOk ({ t1 with plain := false } : SetTable) (L1.map fun p => hT P w p.1) := ⟨b3.ris, b3.dm, b3.sz, b3.mok, b3.bd, b3.reach⟩
    have plain_case : ∀ c : Bool, wpAny (model P w) A (do
        storeSet a es1 (if c = true then t1 else { t1 with plain := false })
        if (!false && (if c = true then t1 else { t1 with plain := false }).tooFull) = true then setRelay a (SetTable.grown (es.size + 1))
        return true) Q E s := by
      intro c
      cases c with
      | true => exact last t1 rfl rfl rfl rfl b3 rfl
      | false => exact last { t1 with plain := false } rfl rfl rfl rfl tb1 rfl
    by_cases hp : t1.plain = true
    · first
        | (refine wpAny_bind ?_; refine wp_if_pos hp ?_; exact tu_byval xb fun c => plain_case c)
        | exact wp_if_pos hp (wpAny_bind (tu_byval xb fun c => plain_case c))
    · first
        | (refine wpAny_bind ?_; refine wp_if_neg hp ?_; exact wpAny_pure (plain_case true))
        | exact wp_if_neg hp (wpAny_bind (wpAny_pure (plain_case true)))
end
theorem tu_reads {P : Program} {w : World} {h : Heap} {k : List Key} {v : Value} (x : IsTu P w h k v) : Reads h v (.tuple (k.map datK)) [] := by
  obtain ⟨b, rfl, o, its, n, go, cl, da, ia⟩ := x
  have : ∀ {k : List Key} {vs : List Value}, ItemsAre (mixKind P w) k vs → ReadsAll h vs (k.map datK) [] := fun {k vs} e => by
    induction e with
    | nil => exact .nil
    | cons r _ ih => exact .cons (as := []) (bs := []) (key_reads r) ih
  exact .tuple go cl da (this ia)
def ekTup (P : Program) (w : World) : Ekd P w where
  κ := List Key
  dec := inferInstance
  is := IsTu P w
  hash := hT P w
  dat := fun k => .tuple (k.map datK)
  most := 63
  bound := by decide
  ok := SetTu P w
  ob := SetTu.ob
  row := fun S => by rw [S.rw0, List.map_map]; rfl
  nd := SetTu.nd
  el := SetTu.el
  fits := fun S => tab_fits S.tab S.rw0 (by have := S.rm; omega)
  ris := fun S => S.tab.ris
  led := SetTu.ld
  few := SetTu.fw
  hold := fun S k e => by
    obtain ⟨o, go, r⟩ := S.ob
    exact ⟨⟨o, k o go, r⟩, S.rw0, S.tab, S.nd, e, S.ld, S.rm, S.fw⟩
  keep := IsTu.keep
  reads := tu_reads
  fresh := fun g => ⟨⟨_, g, ⟨rfl, rfl, rfl⟩, rfl⟩, rfl, ⟨List.Pairwise.nil, rfl, rfl, .inl rfl, nofun, fun i h j hi => by simp at hi⟩, List.nodup_nil, nofun, by
    show _ ∨ (!w.params.followText "set-order") = true
    cases w.params.followText "set-order"
    · exact .inr rfl
    · exact .inl rfl, by show 0 * 5 < 7 * 3; decide, Nat.zero_le _⟩
  hashed := fun hu x q => by
    obtain ⟨b, rfl, xb⟩ := x
    exact wpAny_pyHash_tuple hu xb (q _ (Nat.le_add_right _ _))
  add := fun hu S x lt q => tu_add S x hu lt q
end U
set_option Elab.async false
set_option linter.all false
set_option maxRecDepth 100000
set_option maxHeartbeats 4000000
namespace U
open PySem PySem.Spec L2 PyProof.Rows
open PySem.W (AllAlike Sortable)
/-! ### sorted(set(xs)), len(set(xs)) -/
def qSset (K : PySem.W.Frag) {κ : Type} (R : Hp → V → κ → Prop) (dat : κ → PyData) (most : Nat) : RCl := fun xs H Q => ∃ (p : Addr) (ks : List (κ × V)), xs = [V.ref p] ∧ SqL K H p (ks.map Prod.snd) ∧ (∀ x ∈ ks, R H x.2 x.1) ∧ ks.length ≤ most ∧
  AllAlike (ks.map fun x => dat x.1) ∧ Sortable (ks.map fun x => dat x.1) ∧ (∀ x ∈ ks, (dat x.1).depth ≤ 60) ∧
  ∀ (l : Addr) (us : List (κ × V)), H l = none → (∀ x ∈ us, x ∈ ks) → (∀ x ∈ ks, x.1 ∈ us.map Prod.fst) → (us.map Prod.fst).Nodup → us.Pairwise (fun x y => W.dataLt (dat y.1) (dat x.1) = false) → Q (.ref l) (upd H l (.lst (us.map Prod.snd)))
theorem lift_in {α β : Type} (f : α → β) (zs : List α) : ∀ M : List β, (∀ q ∈ M, q ∈ zs.map f) → ∃ Z : List α, M = Z.map f ∧ ∀ z ∈ Z, z ∈ zs
  | [], _ => ⟨[], rfl, nofun⟩
  | q :: M, h => by
    obtain ⟨z, hz, e⟩ := List.mem_map.mp (h q List.mem_cons_self)
    obtain ⟨Z, e2, h2⟩ := lift_in f zs M fun r hr => h r (List.mem_cons_of_mem _ hr)
    exact ⟨z :: Z, by rw [List.map_cons, e, ← e2], fun y hy => (List.mem_cons.mp hy).elim (fun e => e ▸ hz) (h2 y)⟩
section
variable {X : Cx}
/-- that R is what the kind asks -/
def RelD (X : Cx) (D : Ekd X.prog X.w) (R : Hp → V → D.κ → Prop) : Prop := ∀ (pins : List (Addr × Obj)) (σ : L2.St) (H : Hp) (s : Shared) (v : V) (u : Value) (k : D.κ), Inv X pins σ H s → R H v k → RelV v u → D.is s.heap k u
theorem zip_rel {α : Type} : ∀ {ks : List (α × V)} {us : List Value}, Vals (ks.map Prod.snd) us → ∃ zs : List ((α × V) × Value), ks = zs.map Prod.fst ∧ us = zs.map Prod.snd ∧ ∀ z ∈ zs, RelV z.1.2 z.2
  | [], _, .nil => ⟨[], rfl, rfl, nofun⟩
  | x :: ks, _, .cons r t => by
    obtain ⟨zs, e1, e2, h⟩ := zip_rel t
    exact ⟨(x, _) :: zs, by rw [List.map_cons, ← e1], by rw [List.map_cons, ← e2], fun z hz => (List.mem_cons.mp hz).elim (fun e => e ▸ r) (h z)⟩
theorem vals_of : ∀ (zs : List (V × Value)), (∀ z ∈ zs, RelV z.1 z.2) → Vals (zs.map Prod.fst) (zs.map Prod.snd)
  | [], _ => .nil
  | z :: zs, h => .cons (h z List.mem_cons_self) (vals_of zs fun y hy => h y (List.mem_cons_of_mem _ hy))
variable {E : Value → Shared → Prop} {e : Expr} {ta : TA} {p1 p2 q1 pos : Pos}
theorem pe_ssetD {n : Nat} (D : Ekd X.prog X.w) {R : Hp → V → D.κ → Prop} (hR : RelD X D R) (hr : Room n X.A) (hg : Gl X "sorted") (hm : X.mg "sorted" = none) (hg2 : Gl X "set") (hm2 : X.mg "set" = none) (ha : PA X [e] ta)
    (he : starEach [e] X.env = [(false, eval e X.env)] := by rfl) : PE X (.Call (.Name "sorted" p1) [.Call (.Name "set" p2) [e] [] q1] [] pos) (tCB (qSset X.K R D.dat D.most) ta) := by
  refine ⟨fun pins s σ H Q I h => ?_⟩
  refine Call_ (ld_blt I hg hm bo_sorted ?_)
  refine PyProof.Rows.callWith_builtin1 (PyProof.Rows.args_cons ?_ rfl) rfl rfl
  refine Call_ (ld_blt I hg2 hm2 bo_set ?_)
  refine PyProof.Rows.callWith_type1 (thn (ha.run q1 pins s σ H _ I h) fun us s1 ⟨vs, H1, I1, r1, z⟩ => ?_) he rfl
  obtain ⟨p, ks, rfl, sq, rel, few, al, so, dp, z⟩ := z
  obtain ⟨u, rfl, ru⟩ := vals1 r1
  obtain rfl : u = Value.ref p := ru
  obtain ⟨its, rv, pl, hz⟩ := I1.list sq
  obtain ⟨zs, rfl, rfl, hzs⟩ := zip_rel rv
  let f : (D.κ × V) × Value → D.κ × Value := fun z => (z.1.1, z.2)
  have un := hr.un
  refine set_made (D := D) (zs.map f) hr.hd pl.isList (by rw [List.map_map]; rfl) (fun q hq => ?_) (by rw [List.length_map] at few ⊢; exact few) (by omega) fun g tk L es ep t ok got kp => ?_
  · obtain ⟨y, hy, rfl⟩ := List.mem_map.mp hq
    exact hR pins σ H1 s1 y.1.2 y.2 y.1.1 I1 (rel y.1 (List.mem_map.mpr ⟨y, hy, rfl⟩)) (hzs y hy)
  have sub : ∀ q ∈ L, q ∈ zs.map f := fun q hq => List.mem_of_mem_take (got.sub q hq)
  have eqd : (zs.map f).map (fun q => D.dat q.1) = (zs.map Prod.fst).map fun x => D.dat x.1 := by rw [List.map_map, List.map_map]; rfl
  have insd : ∀ d ∈ L.map (fun q => D.dat q.1), d ∈ (zs.map Prod.fst).map fun x => D.dat x.1 := fun d hd => by
    obtain ⟨q, hq, rfl⟩ := List.mem_map.mp hd
    rw [← eqd]
    exact List.mem_map.mpr ⟨q, sub q hq, rfl⟩
  refine PyProof.Rows.args_nil ?_
  refine set_sorted (s := { s1 with heap := g, toks := tk }) ok hr.hd (fun d hd d2 hd2 => al d (insd d hd) d2 (insd d2 hd2)) (so.imp (fun w d hd => w d (insd d hd)) fun w d hd => w d (insd d hd)) (fun q hq => ?_) (by omega) fun s3 l out c L2 k3 g3 o3 hl gl eo pm pw => ?_
  · obtain ⟨y, hy, e⟩ := List.mem_map.mp (sub q hq)
    rw [← e]
    exact dp y.1 (List.mem_map.mpr ⟨y, hy, rfl⟩)
  · obtain ⟨Z, eZ, hZ⟩ := lift_in f zs L2 fun q hq => sub q (pm.mem_iff.mp hq)
    subst eZ
    have kk : ∀ b o, s1.heap.get? b = some o → s3.heap.get? b = some o := fun b o e => k3 b o (kp b o e)
    have l0 : s1.heap.objs.size ≤ l := Nat.le_trans (Nat.le_of_lt (let ⟨_, go, _⟩ := D.ob ok; Heap.lt_size go)) hl
    have hn : H1 l = none := I1.hok.fresh l0
    have few2 := D.few ok
    have bd := D.bound
    have ln : ((Z.map Prod.fst).map Prod.snd).length ≤ sizeLine := by
      have := pm.length_eq
      rw [List.length_map] at this
      rw [List.length_map, List.length_map, sizeLine_eq]; omega
    have vz : Vals ((Z.map Prod.fst).map Prod.snd) out := by
      rw [eo]
      have := vals_of (Z.map fun z => (z.1.2, z.2)) fun y hy => by
        obtain ⟨y0, hy0, rfl⟩ := List.mem_map.mp hy
        exact hzs y0 (hZ y0 hy0)
      rw [List.map_map, List.map_map] at this
      rw [List.map_map, List.map_map]
      exact this
    have J : Inv X pins σ (upd H1 l (.lst ((Z.map Prod.fst).map Prod.snd))) { s1 with heap := s3.heap, gens := s3.gens, drawn := s3.drawn, toks := s3.toks } :=
      I1.call (ch := []) (Un.laid kk l0 hn) (I1.hok.laid kk l0 ⟨ln, out, c, vz, gl⟩) (by rw [g3]; exact I1.bare) nofun
    have e3 : s3 = { s1 with heap := s3.heap, gens := s3.gens, drawn := s3.drawn, toks := s3.toks } := by
      cases s3; cases s1; cases o3; rfl
    rw [e3]
    have nd : ((Z.map f).map Prod.fst).Nodup := (pm.map _).nodup_iff.mpr (D.nd ok)
    refine ⟨.ref l, _, J, rfl, z l (Z.map Prod.fst) hn (fun x hx => ?_) (fun x hx => ?_) (by rw [List.map_map] at nd ⊢; exact nd) (List.pairwise_map.mpr (List.pairwise_map.mp pw))⟩
    · obtain ⟨y, hy, rfl⟩ := List.mem_map.mp hx
      exact List.mem_map.mpr ⟨y, hZ y hy, rfl⟩
    · obtain ⟨y, hy, rfl⟩ := List.mem_map.mp hx
      have h1 := got.all (f y) (by rw [List.take_length]; exact List.mem_map.mpr ⟨y, hy, rfl⟩)
      have h2 := (pm.map Prod.fst).mem_iff.mpr h1
      rw [List.map_map] at h2 ⊢
      exact h2
end
/-! #### ints, texts -/
def RK (_ : Hp) (v : V) (k : Key) : Prop := v = kV k
theorem relK {X : Cx} : RelD X (ekKey X.prog X.w) RK := fun pins σ H s v u k I e r => by
  subst e
  exact kV_is r
theorem items_ok {P : Program} {w : World} : ∀ {k : List Key} {us : List Value}, Vals (k.map kV) us → ItemsAre (mixKind P w) k us
  | [], _, .nil => .nil
  | _ :: _, _, .cons r t => .cons (kV_is r) (items_ok t)
def RT (K : PySem.W.Frag) (H : Hp) (v : V) (k : List Key) : Prop := ∃ b, v = .ref b ∧ SqT K H b (k.map kV)
theorem relT {X : Cx} : RelD X (ekTup X.prog X.w) (RT X.K) := fun pins σ H s v u k I e r => by
  obtain ⟨b, rfl, hq⟩ := e
  obtain rfl : u = Value.ref b := r
  obtain ⟨its, rv, ⟨o, go, cl, n, da⟩, _⟩ := I.tuple hq
  exact ⟨b, rfl, o, its.toArray, n, go, cl, da, by simpa using items_ok rv⟩
abbrev datT (k : List Key) : PyData := .tuple (k.map datK)
/-! #### typed -/
/-- a type whose values are keys of a dict, elements of a set -/
structure Ke {α : Type} {t : Rp α} (D : Dt t) where
  k : α → Key
  r : ∀ {F : Hp} {v : V} {x : α}, t.r F v x → v = kV (k x)
  d : ∀ x, D.d x = datK (k x)
def keI : Ke dI := ⟨fun i => .inl i, fun h => h, fun _ => rfl⟩
def keS : Ke dS := ⟨fun s => .inr (S s), fun h => h.1, fun _ => rfl⟩
structure Kt {α : Type} {t : Rp α} (D : Dt t) where
  k : α → List Key
  r : ∀ {F : Hp} {v : V} {x : α}, t.r F v x → ∃ b, v = .ref b ∧ F b = some (.tup ((k x).map kV))
  d : ∀ x, D.d x = datT (k x)
section
variable {α β γ : Type} {t : Rp α} {u : Rp β} {w : Rp γ} {D : Dt t} {E : Dt u} {G : Dt w}
def ktP2 (A : Ke D) (B : Ke E) : Kt (dP2 D E) := ⟨fun x => [A.k x.1, B.k x.2], fun ⟨p, y, z, e, q, h1, h2⟩ => ⟨p, e, by rw [q, A.r h1, B.r h2]; rfl⟩, fun x => by
  show PyData.tuple [D.d x.1, E.d x.2] = _
  rw [A.d, B.d]; rfl⟩
def ktP3 (A : Ke D) (B : Ke E) (C : Ke G) : Kt (dP3 D E G) := ⟨fun x => [A.k x.1, B.k x.2.1, C.k x.2.2], fun ⟨p, y, z, v, e, q, h1, h2, h3⟩ => ⟨p, e, by rw [q, A.r h1, B.r h2, C.r h3]; rfl⟩, fun x => by
  show PyData.tuple [D.d x.1, E.d x.2.1, G.d x.2.2] = _
  rw [A.d, B.d, C.d]; rfl⟩
theorem al_keys (A : Ke D) {F : Hp} : ∀ {vs : List V} {xs : List α}, Al t F vs xs → vs = (xs.map A.k).map kV
  | _, _, .nil => rfl
  | _, _, .cons r h => by rw [List.map_cons, List.map_cons, ← A.r r, ← al_keys A h]
def ktT (A : Ke D) : Kt (dT D) := ⟨fun x => x.map A.k, fun ⟨p, vs, e, q, h⟩ => ⟨p, e, by rw [q, al_keys A h]⟩, fun x => by
  show PyData.tuple (x.map D.d) = _
  rw [List.map_congr_left fun y _ => A.d y]
  show _ = PyData.tuple ((x.map A.k).map datK)
  rw [List.map_map]; rfl⟩
end
/-- each once: the last stays -/
def uq {α : Type} [DecidableEq α] : List α → List α
  | [] => []
  | x :: xs => if x ∈ xs then uq xs else x :: uq xs
theorem mem_uq {α : Type} [DecidableEq α] {y : α} : ∀ {xs : List α}, y ∈ uq xs ↔ y ∈ xs
  | [] => .rfl
  | x :: xs => by
    unfold uq
    split
    · rename_i h
      rw [mem_uq, List.mem_cons]
      exact ⟨.inr, fun z => z.elim (fun e => e ▸ h) id⟩
    · rw [List.mem_cons, List.mem_cons, mem_uq]
theorem uq_nodup {α : Type} [DecidableEq α] : ∀ xs : List α, (uq xs).Nodup
  | [] => List.nodup_nil
  | x :: xs => by
    unfold uq
    split
    · exact uq_nodup xs
    · rename_i h
      exact List.nodup_cons.mpr ⟨fun z => h (mem_uq.mp z), uq_nodup xs⟩
theorem uq_len {α : Type} [DecidableEq α] : ∀ xs : List α, (uq xs).length ≤ xs.length
  | [] => Nat.le_refl _
  | x :: xs => by
    unfold uq
    split
    · exact Nat.le_succ_of_le (uq_len xs)
    · exact Nat.succ_le_succ (uq_len xs)
/-- sorted(set(xs)) -/
def ssetL {α : Type} [DecidableEq α] (lt : α → α → Bool) (xs : List α) : List α := srtL lt (uq xs)
section
variable {α : Type} [DecidableEq α] {t : Rp α} {D : Dt t} {K : PySem.W.Frag} {F H : Hp} {vs : List V} {xs : List α} {p : Addr} {Q : VK}
/-- what comes out is the mirror's -/
theorem sset_core {κ : Type} (S : So D) (kk : α → κ) {dat : κ → PyData} (hd : ∀ x, D.d x = dat (kk x)) {zs : List (V × α)} {us : List (κ × V)} (h1 : ∀ x ∈ us, x ∈ zs.map fun z => (kk z.2, z.1)) (h2 : ∀ x ∈ zs.map fun z => (kk z.2, z.1), x.1 ∈ us.map Prod.fst)
    (h3 : (us.map Prod.fst).Nodup) (h4 : us.Pairwise fun x y => W.dataLt (dat y.1) (dat x.1) = false) (O : Lo S.lt) (hr : ∀ z ∈ zs, t.r F z.1 z.2) : Al t F (us.map Prod.snd) (ssetL S.lt (zs.map Prod.snd)) := by
  obtain ⟨Z, rfl, hZ⟩ := lift_in _ zs us h1
  have inj : ∀ x y, kk x = kk y → x = y := fun x y e => (D.eqv x y).mp (by rw [hd, hd, e, ← hd]; exact (D.eqv _ _).mpr rfl)
  have e1 : ssetL S.lt (zs.map Prod.snd) = Z.map Prod.snd := by
    refine srt_of O ((List.perm_ext_iff_of_nodup (uq_nodup _) ?_).mpr fun x => ?_) ?_
    · rw [List.map_map] at h3
      exact List.pairwise_map.mpr ((List.pairwise_map.mp h3).imp fun h e => h (congrArg kk e))
    · rw [mem_uq]
      constructor
      · intro hx
        obtain ⟨z, hz, rfl⟩ := List.mem_map.mp hx
        have := h2 (kk z.2, z.1) (List.mem_map.mpr ⟨z, hz, rfl⟩)
        rw [List.map_map] at this
        obtain ⟨y, hy, e⟩ := List.mem_map.mp this
        exact List.mem_map.mpr ⟨y, hy, inj _ _ e⟩
      · intro hx
        obtain ⟨z, hz, rfl⟩ := List.mem_map.mp hx
        exact List.mem_map.mpr ⟨z, hZ z hz, rfl⟩
    · refine List.pairwise_map.mpr ((List.pairwise_map.mp h4).imp fun {x y} h => ?_)
      rw [← S.ok, hd, hd]; exact h
  rw [e1, List.map_map]
  exact pd_unzip Z fun z hz => hr z (hZ z hz)
def ssetB (n : Nat) {α : Type} (xs : List α) : Bool := decide (xs.length ≤ n)
theorem zip_parts {vs : List V} {xs : List α} (h : Al t F vs xs) : (vs.zip xs).map Prod.fst = vs ∧ (vs.zip xs).map Prod.snd = xs ∧ ∀ z ∈ vs.zip xs, t.r F z.1 z.2 := by
  refine ⟨?_, map_fst_zipA _ _ (al_len h), pd_zipmem h⟩
  have := al_len h
  induction h with
  | nil => rfl
  | cons r t ih => rw [List.zip_cons_cons, List.map_cons, ih (al_len t)]
/-- ints, texts -/
theorem v_ssetK (S : So D) (A : Ke D) (O : Lo S.lt) (hs : Sub F H) (hq : SqL K H p vs) (hr : Al t F vs xs) (hb : ssetB 3999 xs = true) (k : ∀ l us, H l = none → Al t F us (ssetL S.lt xs) → Q (.ref l) (upd H l (.lst us))) : qSset K RK datK 3999 [.ref p] H Q := by
  obtain ⟨e1, e2, e3⟩ := zip_parts hr
  have ed : ((vs.zip xs).map fun z => (A.k z.2, z.1)).map (fun x => datK x.1) = xs.map D.d := by
    rw [List.map_map]
    conv => rhs; rw [← e2]
    rw [List.map_map]
    exact List.map_congr_left fun z _ => (A.d z.2).symm
  refine ⟨p, (vs.zip xs).map fun z => (A.k z.2, z.1), rfl, ?_, fun x hx => ?_, ?_, by rw [ed]; exact so_alike S xs, by rw [ed]; exact so_sortable S xs, fun x hx => ?_, fun l us hl h1 h2 h3 h4 => ?_⟩
  · rw [List.map_map]
    show SqL K H p ((vs.zip xs).map Prod.fst)
    rw [e1]; exact hq
  · obtain ⟨z, hz, rfl⟩ := List.mem_map.mp hx
    exact A.r (e3 z hz)
  · have := of_decide_eq_true hb
    rw [List.length_map, List.length_zip]; omega
  · obtain ⟨z, hz, rfl⟩ := List.mem_map.mp hx
    rw [← A.d]; exact S.dp _
  · have := sset_core (F := F) S A.k A.d h1 h2 h3 h4 O e3
    rw [e2] at this
    exact k l _ hl this
/-- tuples of ints and texts -/
theorem v_ssetT (S : So D) (A : Kt D) (O : Lo S.lt) (hs : Sub F H) (hq : SqL K H p vs) (hr : Al t F vs xs) (hb : ssetB 63 xs = true) (k : ∀ l us, H l = none → Al t F us (ssetL S.lt xs) → Q (.ref l) (upd H l (.lst us))) : qSset K (RT K) datT 63 [.ref p] H Q := by
  obtain ⟨e1, e2, e3⟩ := zip_parts hr
  have ed : ((vs.zip xs).map fun z => (A.k z.2, z.1)).map (fun x => datT x.1) = xs.map D.d := by
    rw [List.map_map]
    conv => rhs; rw [← e2]
    rw [List.map_map]
    exact List.map_congr_left fun z _ => (A.d z.2).symm
  refine ⟨p, (vs.zip xs).map fun z => (A.k z.2, z.1), rfl, ?_, fun x hx => ?_, ?_, by rw [ed]; exact so_alike S xs, by rw [ed]; exact so_sortable S xs, fun x hx => ?_, fun l us hl h1 h2 h3 h4 => ?_⟩
  · rw [List.map_map]
    show SqL K H p ((vs.zip xs).map Prod.fst)
    rw [e1]; exact hq
  · obtain ⟨z, hz, rfl⟩ := List.mem_map.mp hx
    obtain ⟨b, e, q⟩ := A.r (e3 z hz)
    exact ⟨b, e, .inl (.inl (hs _ _ q))⟩
  · have := of_decide_eq_true hb
    rw [List.length_map, List.length_zip]; omega
  · obtain ⟨z, hz, rfl⟩ := List.mem_map.mp hx
    rw [← A.d]; exact S.dp _
  · have := sset_core (F := F) S A.k A.d h1 h2 h3 h4 O e3
    rw [e2] at this
    exact k l _ hl this
theorem a_ssetF {us : List V} {zs : List α} {P : Prop} (hs : Sub F H) (k : ∀ p' us F' H', Gr [] F H F' H' → F' p' = some (.lst us) → Al t F' us zs → Q (.ref p') H') : ∀ l us, H l = none → Al t F us zs → Q (.ref l) (upd H l (.lst us)) :=
  fun l us hl h => k l us _ _ (gr_newF hs hl) upd_same (Al.mono h (Sub.up1 (hs.nn hl)))
end
section
variable {X : Cx} {K : PySem.W.Frag} {n : Nat} {e : Expr} {ta : TA} {p1 p2 q1 pos : Pos}
theorem pe_ssetK (hK : X.K = K) (hr : Room n X.A) (hg : Gl X "sorted") (hm : X.mg "sorted" = none) (hg2 : Gl X "set") (hm2 : X.mg "set" = none) (ha : PA X [e] ta) (he : starEach [e] X.env = [(false, eval e X.env)] := by rfl) :
    PE X (.Call (.Name "sorted" p1) [.Call (.Name "set" p2) [e] [] q1] [] pos) (tCB (qSset K RK datK 3999) ta) := by
  subst hK; exact pe_ssetD (ekKey X.prog X.w) relK hr hg hm hg2 hm2 ha he
theorem pe_ssetT (hK : X.K = K) (hr : Room n X.A) (hg : Gl X "sorted") (hm : X.mg "sorted" = none) (hg2 : Gl X "set") (hm2 : X.mg "set" = none) (ha : PA X [e] ta) (he : starEach [e] X.env = [(false, eval e X.env)] := by rfl) :
    PE X (.Call (.Name "sorted" p1) [.Call (.Name "set" p2) [e] [] q1] [] pos) (tCB (qSset K (RT K) datT 63) ta) := by
  subst hK; exact pe_ssetD (ekTup X.prog X.w) relT hr hg hm hg2 hm2 ha he
end
end U
set_option Elab.async false
set_option linter.all false
set_option maxRecDepth 100000
set_option maxHeartbeats 4000000
namespace U
open PySem PySem.Spec L2 PyProof.Rows
/-! ### dicts of typed keys and values -/
structure Dy {α : Type} (t : Rp α) where
  κ : Type
  dec : DecidableEq κ
  k : α → κ
  inj : ∀ x y, k x = k y → x = y
  ho : List (κ × V) → HO
  get : ∀ {F H : Hp} {a : Addr} {kvs : List (κ × V)} {v : V} {x : α}, Sub F H → H a = some (ho kvs) → t.r F v x → DGet H a v (valV kvs (k x))
  put : ∀ {F H : Hp} {a : Addr} {kvs : List (κ × V)} {v y : V} {x : α}, Sub F H → H a = some (ho kvs) → t.r F v x → kvs.length < sizeLine → DPut H a v y (upd H a (ho (putK kvs (k x) y)))
  isd : ∀ {H : Hp} {a : Addr} {kvs : List (κ × V)}, H a = some (ho kvs) → IsD H a
section
variable {α β : Type} {t : Rp α} {u : Rp β} {D : Dt t}
def dyK (A : Ke D) : Dy t where
  κ := Key
  dec := inferInstance
  k := A.k
  inj := fun x y e => (D.eqv x y).mp (by rw [A.d, A.d, e, ← A.d]; exact (D.eqv _ _).mpr rfl)
  ho := .dK
  get := fun hs e h => by rw [A.r h]; exact DGet.k e
  put := fun hs e h l => by rw [A.r h]; exact DPut.k e l
  isd := fun e => .inl ⟨_, .inl e⟩
def dyT (A : Kt D) : Dy t where
  κ := List Key
  dec := inferInstance
  k := A.k
  inj := fun x y e => (D.eqv x y).mp (by rw [A.d, A.d, e, ← A.d]; exact (D.eqv _ _).mpr rfl)
  ho := .dT
  get := fun hs e h => by
    obtain ⟨b, rfl, q⟩ := A.r h
    exact DGet.t e (hs _ _ q)
  put := fun hs e h l => by
    obtain ⟨b, rfl, q⟩ := A.r h
    exact DPut.t e (hs _ _ q) l
  isd := fun e => .inr ⟨_, .inl e⟩
abbrev Pr (Y : Dy t) (u : Rp β) (F : Hp) (kvs : List (Y.κ × V)) (xs : List (α × β)) : Prop := Paired (fun kv y => kv.1 = Y.k y.1 ∧ u.r F kv.2 y.2) kvs xs
theorem Pr.mono {Y : Dy t} {F F' : Hp} {kvs : List (Y.κ × V)} {xs : List (α × β)} (h : Pr Y u F kvs xs) (s : Sub F F') : Pr Y u F' kvs xs := Paired.mapP h fun _ _ z => ⟨z.1, u.mono s z.2⟩
/-- a dict -/
def eD (Y : Dy t) (u : Rp β) : Rp (List (α × β)) := ⟨fun F v x => ∃ p kvs, v = .ref p ∧ F p = some (Y.ho kvs) ∧ Pr Y u F kvs x, fun s ⟨p, kvs, e, q, h⟩ => ⟨p, kvs, e, s _ _ q, h.mono s⟩⟩
/-! the mirror's words -/
section
variable [DecidableEq α]
def lkp (xs : List (α × β)) (a : α) : Option β := (xs.find? fun kv => decide (kv.1 = a)).map (·.2)
def inD (xs : List (α × β)) (a : α) : Bool := (lkp xs a).isSome
def dput (xs : List (α × β)) (a : α) (b : β) : List (α × β) := if (xs.any fun kv => decide (kv.1 = a)) = true then xs.map (fun kv => if kv.1 = a then (kv.1, b) else kv) else xs ++ [(a, b)]
def dputM (xs : List (α × β)) (a : α) (b : β) : Option (List (α × β)) := need (decide (xs.length < 16777216)) (dput xs a b)
def getD2 (xs : List (α × β)) (a : α) (b : β) : β := (lkp xs a).getD b
/-- dict of pairs -/
def ofPairs (ps : List (α × β)) : List (α × β) := ps.foldl (fun acc kv => dput acc kv.1 kv.2) []
variable {Y : Dy t} {F H : Hp} {kvs : List (Y.κ × V)} {xs ys : List (α × β)} {a : α} {b : β} {p : Addr} {v y w : V} {Q : VK}
theorem key_iff {c : Y.κ} {x : α} (e : c = Y.k x) : (@decide (c = Y.k a) (Y.dec _ _)) = decide (x = a) := by
  subst e
  rw [Bool.eq_iff_iff]
  exact ⟨fun h => decide_eq_true (Y.inj _ _ (@of_decide_eq_true _ (Y.dec _ _) h)), fun h => @decide_eq_true _ (Y.dec _ _) (by rw [of_decide_eq_true h])⟩
theorem pr_some (h : Pr Y u F kvs xs) (e : lkp xs a = some b) : ∃ v, @valV _ Y.dec kvs (Y.k a) = some v ∧ u.r F v b := by
  induction h with
  | nil => cases e
  | @cons kv x kvs xs r t ih =>
    unfold lkp at e
    rw [List.find?_cons] at e
    unfold valV
    rw [List.find?_cons, key_iff r.1]
    cases q : decide (x.1 = a) with
    | true =>
      rw [q] at e
      have e2 : x.2 = b := Option.some.inj e
      subst e2
      exact ⟨_, rfl, r.2⟩
    | false => rw [q] at e; exact ih e
theorem pr_none (h : Pr Y u F kvs xs) (e : lkp xs a = none) : @valV _ Y.dec kvs (Y.k a) = none := by
  induction h with
  | nil => rfl
  | @cons kv x kvs xs r t ih =>
    unfold lkp at e
    rw [List.find?_cons] at e
    unfold valV
    rw [List.find?_cons, key_iff r.1]
    cases q : decide (x.1 = a) with
    | true => rw [q] at e; cases e
    | false => rw [q] at e; exact ih e
theorem pr_is (h : Pr Y u F kvs xs) : (@valV _ Y.dec kvs (Y.k a)).isSome = inD xs a := by
  unfold inD
  cases e : lkp xs a with
  | none => rw [pr_none h e]; rfl
  | some b => obtain ⟨v, e2, _⟩ := pr_some h e; rw [e2]; rfl
theorem pr_any (h : Pr Y u F kvs xs) : (kvs.any fun kv => @decide (kv.1 = Y.k a) (Y.dec _ _)) = xs.any fun kv => decide (kv.1 = a) := by
  induction h with
  | nil => rfl
  | @cons kv x kvs xs r t ih => rw [List.any_cons, List.any_cons, key_iff r.1, ih]
theorem pr_put (h : Pr Y u F kvs xs) (r : u.r F y b) : Pr Y u F (@putK _ Y.dec kvs (Y.k a) y) (dput xs a b) := by
  unfold putK dput
  rw [pr_any h]
  split
  · induction h with
    | nil => exact .nil
    | @cons kv x kvs xs r2 t ih =>
      rename_i hc
      rw [List.map_cons, List.map_cons]
      have all : ∀ {kvs : List (Y.κ × V)} {xs : List (α × β)}, Pr Y u F kvs xs → Pr Y u F (kvs.map fun kv => @ite _ (kv.1 = Y.k a) (Y.dec _ _) (kv.1, y) kv) (xs.map fun kv => if kv.1 = a then (kv.1, b) else kv) := fun h => by
        induction h with
        | nil => exact .nil
        | @cons kv x kvs xs r2 t ih =>
          refine .cons ?_ ih
          dsimp only
          by_cases e : x.1 = a
          · rw [if_pos e, if_pos (by rw [r2.1, e])]; exact ⟨r2.1, r⟩
          · rw [if_neg e, if_neg (fun z => e (Y.inj _ _ (r2.1.symm.trans z)))]; exact r2
      exact all (.cons r2 t)
  · exact pd_snoc h ⟨rfl, r⟩
theorem pr_len (h : Pr Y u F kvs xs) : kvs.length = xs.length := Paired.length h
/-! readings -/
def qDGet (y : V) (Q : VK) : VK := fun x H2 => ∃ a v, x = .ref a ∧ DGet H2 a y (some v) ∧ Q v H2
theorem n_dget {td ty : TE} {σ : L2.St} (h : td σ H fun x H1 => ty σ H1 fun y H2 => qDGet y Q x H2) : tDGet td ty σ H Q := h
theorem v_dget (hs : Sub F H) (hp : H p = some (Y.ho kvs)) (h : Pr Y u F kvs xs) (hk : t.r F y a) (e : lkp xs a = some b) (k : ∀ v, u.r F v b → Q v H) : qDGet y Q (.ref p) H := by
  obtain ⟨v, e2, r⟩ := pr_some h e
  exact ⟨p, v, rfl, by have := Y.get hs hp hk; rw [e2] at this; exact this, k v r⟩
def qDIn (y : V) (Q : VK) : VK := fun x H2 => ∃ a o, x = .ref a ∧ DGet H2 a y o ∧ Q (.bl o.isSome) H2
def qDNotIn (y : V) (Q : VK) : VK := fun x H2 => ∃ a o, x = .ref a ∧ DGet H2 a y o ∧ Q (.bl (!o.isSome)) H2
theorem n_din {td ty : TE} {σ : L2.St} (h : ty σ H fun y H1 => td σ H1 fun x H2 => qDIn y Q x H2) : tDIn ty td σ H Q := h
theorem n_dnotin {td ty : TE} {σ : L2.St} (h : ty σ H fun y H1 => td σ H1 fun x H2 => qDNotIn y Q x H2) : tDNotIn ty td σ H Q := h
theorem v_din (hs : Sub F H) (hp : H p = some (Y.ho kvs)) (h : Pr Y u F kvs xs) (hk : t.r F y a) (k : Q (.bl (inD xs a)) H) : qDIn y Q (.ref p) H := ⟨p, _, rfl, Y.get hs hp hk, by rw [pr_is h]; exact k⟩
theorem v_dnotin (hs : Sub F H) (hp : H p = some (Y.ho kvs)) (h : Pr Y u F kvs xs) (hk : t.r F y a) (k : Q (.bl (!inD xs a)) H) : qDNotIn y Q (.ref p) H := ⟨p, _, rfl, Y.get hs hp hk, by rw [pr_is h]; exact k⟩
def qDPut (D : Ends) (σ : L2.St) (v y : V) : VK := fun x H3 => ∃ a H4, x = .ref a ∧ DPut H3 a y v H4 ∧ D.nx σ H4
theorem n_dput {nx bk ct : L2.St → Hp → Prop} {rt : VK} {td ty tv : TE} {σ : L2.St} (h : tv σ H fun v H1 => td σ H1 fun x H2 => ty σ H2 fun y H3 => qDPut ⟨nx, rt, bk, ct⟩ σ v y x H3) : sDPut td ty tv ⟨nx, rt, bk, ct⟩ σ H := h
theorem v_dput {nx bk ct : L2.St → Hp → Prop} {rt : VK} {σ : L2.St} (hs : Sub F H) (hp : H p = some (Y.ho kvs)) (h : Pr Y u F kvs xs) (hk : t.r F y a) (e : dputM xs a b = some ys) (k : nx σ (upd H p (Y.ho (@putK _ Y.dec kvs (Y.k a) v)))) : qDPut ⟨nx, rt, bk, ct⟩ σ v y (.ref p) H := by
  obtain ⟨h1, _⟩ := need_ok e
  exact ⟨p, _, rfl, Y.put hs hp hk (by rw [pr_len h, sizeLine_eq]; exact of_decide_eq_true h1), k⟩
theorem dput_ok {W : List Addr} {F0 H0 : Hp} (g : Gr W F0 H0 F H) (m : Mu W H0 F H p (Y.ho kvs)) (h : Pr Y u F kvs xs) (e : dputM xs a b = some ys) (r : u.r F v b) :
    ∃ kvs' H', Gr W F0 H0 F H' ∧ Pr Y u F kvs' ys ∧ kvs' = @putK _ Y.dec kvs (Y.k a) v ∧ H' = upd H p (Y.ho kvs') := by
  obtain ⟨_, rfl⟩ := need_ok e
  exact ⟨_, _, m.gr g, pr_put h r, rfl, rfl⟩
def qDGet2 (y z : V) (Q : VK) (p : Addr) : Hp → Prop := fun H3 => ∃ o, DGet H3 p y o ∧ Q (o.getD z) H3
theorem n_dget2 {td ty tx : TE} {σ : L2.St} (h : td σ H fun x H1 => ∃ a, x = .ref a ∧ IsD H1 a ∧ ty σ H1 fun y H2 => tx σ H2 fun z H3 => qDGet2 y z Q a H3) : tDGet2 td ty tx σ H Q := h
theorem v_dget2 (hs : Sub F H) (hp : H p = some (Y.ho kvs)) (h : Pr Y u F kvs xs) (hk : t.r F y a) (hz : u.r F w b) (k : ∀ v, u.r F v (getD2 xs a b) → Q v H) : qDGet2 y w Q p H := by
  refine ⟨_, Y.get hs hp hk, ?_⟩
  unfold getD2 at k
  cases e : lkp xs a with
  | none => rw [pr_none h e]; rw [e] at k; exact k _ hz
  | some c =>
    obtain ⟨v, e2, r⟩ := pr_some h e
    rw [e2]; rw [e] at k; exact k v r
end
/-- a new dict, empty -/
def qDnew (Q : VK) (H : Hp) (ho : HO) : Prop := ∀ p, H p = none → Q (.ref p) (upd H p ho)
theorem v_dnew {Y : Dy t} {F H : Hp} {Q : VK} (hs : Sub F H) (k : ∀ p H', H p = none → Gr [] F H F H' → F p = none → H' p = some (Y.ho []) → Q (.ref p) H') : qDnew Q H (Y.ho []) :=
  fun p hp => k p _ hp (gr_newM hs hp) (hs.nn hp) upd_same
theorem n_dnewK {H : Hp} {Q : VK} {σ : L2.St} (h : qDnew Q H (.dK [])) : tDNewK σ H Q := h
theorem n_dnewT {H : Hp} {Q : VK} {σ : L2.St} (h : qDnew Q H (.dT [])) : tDNewT σ H Q := h
end
/-! ### dict(pairs) -/
def mergeT (kvs more : List (List Key × V)) : List (List Key × V) := more.foldl (fun acc kv => putK acc kv.1 kv.2) kvs
def qDictT (K : PySem.W.Frag) : RCl := fun xs H Q => ∃ (a : Addr) (rs : List (Addr × List Key × Addr × V)), xs = [.ref a] ∧ SqL K H a (rs.map fun r => .ref r.1) ∧ (∀ r ∈ rs, SqT K H r.1 [.ref r.2.2.1, r.2.2.2] ∧ H r.2.2.1 = some (.tup (r.2.1.map kV))) ∧
  ∀ p, H p = none → Q (.ref p) (upd H p (.dT (mergeT [] (rs.map fun r => (r.2.1, r.2.2.2)))))
def qDictK (K : PySem.W.Frag) : RCl := fun xs H Q => ∃ (a : Addr) (ps : List Addr) (kvs : List (Key × V)), xs = [.ref a] ∧ SqL K H a (ps.map V.ref) ∧ Paired (fun p kv => SqT K H p [kV kv.1, kv.2]) ps kvs ∧ ∀ p, H p = none → Q (.ref p) (upd H p (.dK (mergeK [] kvs)))
theorem c_dictK {X : Cx} {K : PySem.W.Frag} (hK : X.K = K) (hc : X.calm = true) : CallR X (.type "dict") (qDictK K) := by subst hK; exact call_dictP hc
theorem kt_merge {H : Hp} : ∀ {rs : List (List Key × V)} {ps : List (List Key × Addr × Value)} {kvs : List (List Key × V)} {xs : List (List Key × Addr × Value)}, KT H rs ps → KT H kvs xs → KT H (mergeT kvs rs) (storedAllH xs ps)
  | _, _, _, _, .nil, h => h
  | _, _, kvs, xs, .cons (a := a) (b := b) r t, h => by
    have h2 : KT H (putK kvs a.1 a.2) (storedH xs b.1 b.2.1 b.2.2) := by
      rw [← r.1]
      exact KT.put h a.1 r.2.1 r.2.2
    have h3 := kt_merge t h2
    exact h3
theorem c_dictT {X : Cx} {K : PySem.W.Frag} {n : Nat} (hK : X.K = K) (hr : Room n X.A) : CallR X (.type "dict") (qDictT K) := by
  subst hK
  intro pins s σ H xs us Q I rv ⟨a, rs, ex, sq, hp, q⟩
  subst ex
  obtain ⟨u, rfl, ru⟩ := vals1 rv
  obtain rfl : u = Value.ref a := ru
  obtain ⟨its, ri, pl, hz⟩ := I.list sq
  have ei : its = rs.map fun r => Value.ref r.1 := by
    have e1 : (rs.map fun r => V.ref r.1) = (rs.map fun r => r.1).map V.ref := by rw [List.map_map]; rfl
    rw [e1] at ri
    rw [refs_at ri, List.map_map]; rfl
  subst ei
  -- each pair's second value
  obtain ⟨ys, hy⟩ : ∃ ys : List Value, Paired (fun (r : Addr × List Key × Addr × V) y => RelV r.2.2.2 y ∧ IsTup s.heap r.1 #[.ref r.2.2.1, y]) rs ys := by
    clear ri sq pl q rv hz
    induction rs with
    | nil => exact ⟨[], .nil⟩
    | cons r rs ih =>
      obtain ⟨ys, h⟩ := ih fun r hr => hp r (List.mem_cons_of_mem _ hr)
      obtain ⟨it, iv, tp, _⟩ := I.tuple (hp r List.mem_cons_self).1
      obtain ⟨c, y, e, rc, ry⟩ := vals2 iv
      subst e
      obtain rfl : c = Value.ref r.2.2.1 := rc
      exact ⟨y :: ys, .cons ⟨ry, tp⟩ h⟩
  have ly : rs.length = ys.length := Paired.length hy
  let ps : List (List Key × Addr × Value) := (rs.zip ys).map fun z => (z.1.2.1, z.1.2.2.1, z.2)
  let vs : List (Value × Value) := (rs.zip ys).map fun z => (Value.ref z.1.2.2.1, z.2)
  have lp : ps.length = rs.length := by simp [ps, ly]
  have lv : vs.length = rs.length := by simp [vs, ly]
  have kt : KT H (rs.map fun r => (r.2.1, r.2.2.2)) ps := by
    clear ri sq pl q lp lv ly hz
    induction hy with
    | nil => exact .nil
    | cons r t ih => exact .cons ⟨rfl, (hp _ List.mem_cons_self).2, r.1⟩ (ih fun r hr => hp r (List.mem_cons_of_mem _ hr))
  obtain ⟨o, m, ho, hc, hd, hdat⟩ := pl
  have P := PairArg.list (prog := X.prog) (w := X.w) a (rs.map fun r => Value.ref r.1).toArray (fun j => (rs.map fun r => r.1).getD j 0) vs
  have un := hr.un
  have at0 : ∀ (j : Nat) (k v : Value), vs[j]? = some (k, v) → ∃ r : Addr × List Key × Addr × V, rs[j]? = some r ∧ k = Value.ref r.2.2.1 ∧ ps[j]? = some (r.2.1, r.2.2.1, v) ∧ IsTup s.heap r.1 #[Value.ref r.2.2.1, v] := fun j k v e => by
    simp only [vs, List.getElem?_map] at e
    cases ez : (rs.zip ys)[j]? with
    | none => rw [ez] at e; cases e
    | some z =>
      rw [ez] at e
      have e2 := Option.some.inj e
      have z1 := (List.getElem?_zip_eq_some.mp ez)
      obtain ⟨y, hy1, hy2⟩ := pd_getL hy z1.1
      rw [z1.2] at hy1
      have e3 : z.2 = y := Option.some.inj hy1
      have e4 : v = z.2 := (congrArg Prod.snd e2).symm
      refine ⟨z.1, z1.1, (congrArg Prod.fst e2).symm, ?_, ?_⟩
      · simp only [ps, List.getElem?_map, ez]; rw [e4]; rfl
      · rw [e4, e3]; exact hy2.2
  refine call_dict_pairsH (knd := tupleKind (mixKind X.prog X.w)) (ps := ps) P hr.hd (by show X.A.in1.in1.units < cLine; show X.A.units + 1 + 1 < cLine; omega) ⟨⟨o, m, ho, hc, hd, hdat⟩, by simp [lv], fun j k v e => ?_⟩ ⟨by rw [lp, lv], fun j k v e => ?_⟩ (fun h' hk x hx => ?_) (by rw [lv]; rw [List.length_map] at hz; exact hz) fun h' tk hd' hk => ?_
  · obtain ⟨r, h1, h2, _, h4⟩ := at0 j k v e
    refine ⟨by rw [List.getElem?_toArray, List.getElem?_map, h1]; simp [List.getD_eq_getElem?_getD, h1], .inl ?_⟩
    have eT : (rs.map fun r => r.1).getD j 0 = r.1 := by rw [List.getD_eq_getElem?_getD, List.getElem?_map, h1]; rfl
    dsimp only
    rw [eT, h2]
    obtain ⟨o2, g2, c2, n2, d2⟩ := h4
    exact ⟨o2, g2, c2, n2, d2⟩
  · obtain ⟨r, _, h2, h3, _⟩ := at0 j k v e
    exact ⟨_, _, h3, h2⟩
  · have : ∀ {l : List (List Key × V)} {m : List (List Key × Addr × Value)}, KT H l m → ∀ x ∈ m, (tupleKind (mixKind X.prog X.w)).is s.heap x.1 x.2.1 := fun r => by
      induction r with
      | nil => nofun
      | cons hq t ih =>
        intro x hx
        rcases List.mem_cons.mp hx with e | e
        · subst e; exact key_of I.hok (by rw [← hq.1]; exact hq.2.1)
        · exact ih x e
    obtain ⟨o2, its2, n2, g2, r2⟩ := this kt x hx
    exact ⟨o2, its2, n2, hk _ _ (Nat.ne_of_lt (Heap.lt_size g2)) (by simp) g2, r2⟩
  · have hm : (s.heap.objs.size == sysModules) = false := beq_eq_false_iff_ne.mpr (Nat.ne_of_gt I.big)
    have hn := I.hok.fresh (Nat.le_refl s.heap.objs.size)
    have k2 := kt_merge kt (.nil (F := fun (p : List Key × V) (q : List Key × Addr × Value) => p.1 = q.1 ∧ H q.2.1 = some (.tup (p.1.map kV)) ∧ RelV p.2 q.2.2))
    have k3 : KT (upd H s.heap.objs.size (.dT (mergeT [] (rs.map fun r => (r.2.1, r.2.2.2))))) (mergeT [] (rs.map fun r => (r.2.1, r.2.2.2))) (storedAllH [] ps) := k2.keeps fun b ys e => by rw [upd_ne (ne_of_none e hn)]; exact e
    have len : (mergeT [] (rs.map fun r => (r.2.1, r.2.2.2))).length ≤ sizeLine := by
      have h1 := storedAllH_length ps []
      have h2 := Paired.length k2
      have h3 : rs.length ≤ sizeLine := by rw [List.length_map] at hz; exact hz
      rw [h2]
      simp only [List.length_nil, Nat.zero_add] at h1
      exact Nat.le_trans h1 (by rw [lp]; exact h3)
    obtain ⟨o2, es, ep, g1, g2, g3, g4, _, g5⟩ := hd'
    exact ⟨.ref s.heap.objs.size, upd H s.heap.objs.size (.dT (mergeT [] (rs.map fun r => (r.2.1, r.2.2.2)))), I.laid (t' := tk) (fun b u e => hk b u (by simp) e) (Nat.le_refl _) ⟨len, hm, _, k3, o2, es, ep, g1, g2, g3, g4, g5⟩, rfl, q _ hn⟩
section
variable {α β : Type} [DecidableEq α] {t : Rp α} {u : Rp β} {D : Dt t} {K : PySem.W.Frag} {F H : Hp} {vs : List V} {ps : List (α × β)} {p : Addr} {Q : VK}
theorem pr_merge {Y : Dy t} : ∀ {rs : List (Y.κ × V)} {ps : List (α × β)}, Pr Y u F rs ps → ∀ {kvs : List (Y.κ × V)} {xs : List (α × β)}, Pr Y u F kvs xs → Pr Y u F (rs.foldl (fun acc kv => @putK _ Y.dec acc kv.1 kv.2) kvs) (ps.foldl (fun acc kv => dput acc kv.1 kv.2) xs)
  | _, _, .nil, _, _, h => h
  | _, _, .cons (a := a) (b := b) r t, kvs, xs, h => by
    have h2 : Pr Y u F (@putK _ Y.dec kvs a.1 a.2) (dput xs b.1 b.2) := by
      rw [r.1]
      exact pr_put h r.2
    have h3 := pr_merge t h2
    exact h3
theorem v_dictT (A : Kt D) (hs : Sub F H) (hq : SqL K H p vs) (hr : Al (eP2 t u) F vs ps) (k : ∀ q kvs, H q = none → Pr (dyT A) u F kvs (ofPairs ps) → Q (.ref q) (upd H q ((dyT A).ho kvs))) : qDictT K [.ref p] H Q := by
  have : ∀ {vs : List V} {ps : List (α × β)}, Al (eP2 t u) F vs ps → ∃ rs : List (Addr × List Key × Addr × V), vs = rs.map (fun r => V.ref r.1) ∧ (∀ r ∈ rs, F r.1 = some (.tup [.ref r.2.2.1, r.2.2.2]) ∧ F r.2.2.1 = some (.tup (r.2.1.map kV))) ∧ Pr (dyT A) u F (rs.map fun r => (r.2.1, r.2.2.2)) ps := fun h => by
    induction h with
    | nil => exact ⟨[], rfl, nofun, .nil⟩
    | @cons v x vs ps r t ih =>
      obtain ⟨rs, e, h1, h2⟩ := ih
      obtain ⟨a, y, z, rfl, q, ry, rz⟩ := r
      obtain ⟨b, rfl, qb⟩ := A.r ry
      exact ⟨(a, A.k x.1, b, z) :: rs, by rw [List.map_cons, ← e], fun r hr => (List.mem_cons.mp hr).elim (fun e => by subst e; exact ⟨q, qb⟩) (h1 r), .cons ⟨rfl, rz⟩ h2⟩
  obtain ⟨rs, rfl, h1, h2⟩ := this hr
  exact ⟨p, rs, rfl, hq, fun r hr => ⟨.inl (.inl (hs _ _ (h1 r hr).1)), hs _ _ (h1 r hr).2⟩, fun q hn => k q _ hn (pr_merge (kvs := []) (xs := []) h2 .nil)⟩
theorem v_dictK (A : Ke D) (hs : Sub F H) (hq : SqL K H p vs) (hr : Al (eP2 t u) F vs ps) (k : ∀ q kvs, H q = none → Pr (dyK A) u F kvs (ofPairs ps) → Q (.ref q) (upd H q ((dyK A).ho kvs))) : qDictK K [.ref p] H Q := by
  have : ∀ {vs : List V} {ps : List (α × β)}, Al (eP2 t u) F vs ps → ∃ (as : List Addr) (rs : List (Key × V)), vs = as.map V.ref ∧ Paired (fun a kv => SqT K H a [kV kv.1, kv.2]) as rs ∧ Pr (dyK A) u F rs ps := fun h => by
    induction h with
    | nil => exact ⟨[], [], rfl, .nil, .nil⟩
    | @cons v x vs ps r t ih =>
      obtain ⟨as, rs, e, h1, h2⟩ := ih
      obtain ⟨a, y, z, rfl, q, ry, rz⟩ := r
      have ey := A.r ry
      subst ey
      exact ⟨a :: as, (A.k x.1, z) :: rs, by rw [List.map_cons, ← e], .cons (.inl (.inl (hs _ _ q))) h1, .cons ⟨rfl, rz⟩ h2⟩
  obtain ⟨as, rs, rfl, h1, h2⟩ := this hr
  exact ⟨p, as, rs, rfl, hq, h1, fun q hn => k q _ hn (pr_merge (kvs := []) (xs := []) h2 .nil)⟩
theorem a_ssF {α : Type} {t : Rp α} {zs : List α} (hs : Sub F H) (k : ∀ p' us F' H', Gr [] F H F' H' → F' p' = some (.lst us) → Al t F' us zs → Q (.ref p') H') : ∀ l us, H l = none → Al t F us zs → Q (.ref l) (upd H l (.lst us)) :=
  fun l us hl h => k l us _ _ (gr_newF hs hl) upd_same (Al.mono h (Sub.up1 (hs.nn hl)))
theorem a_ssM {α : Type} {t : Rp α} {zs : List α} (hs : Sub F H) (k : ∀ p' us H', H p' = none → Gr [] F H F H' → F p' = none → H' p' = some (.lst us) → Al t F us zs → Q (.ref p') H') : ∀ l us, H l = none → Al t F us zs → Q (.ref l) (upd H l (.lst us)) :=
  fun l us hl h => k l us _ hl (gr_newM hs hl) (hs.nn hl) upd_same h
theorem a_dF {Y : Dy t} {zs : List (α × β)} (hs : Sub F H) (k : ∀ p' kvs F' H', Gr [] F H F' H' → F' p' = some (Y.ho kvs) → Pr Y u F' kvs zs → Q (.ref p') H') : ∀ l kvs, H l = none → Pr Y u F kvs zs → Q (.ref l) (upd H l (Y.ho kvs)) :=
  fun l kvs hl h => k l kvs _ _ (gr_newF hs hl) upd_same (Pr.mono h (Sub.up1 (hs.nn hl)))
theorem a_dM {Y : Dy t} {zs : List (α × β)} (hs : Sub F H) (k : ∀ p' kvs H', H p' = none → Gr [] F H F H' → F p' = none → H' p' = some (Y.ho kvs) → Pr Y u F kvs zs → Q (.ref p') H') : ∀ l kvs, H l = none → Pr Y u F kvs zs → Q (.ref l) (upd H l (Y.ho kvs)) :=
  fun l kvs hl h => k l kvs _ hl (gr_newM hs hl) (hs.nn hl) upd_same h
end
end U
set_option Elab.async false
set_option linter.all false
set_option maxRecDepth 100000
set_option maxHeartbeats 4000000
namespace U
open PySem PySem.Spec L2
/-! ### more rules by name, more values -/
def qAll (K : PySem.W.Frag) : RCl := fun vs H Q => ∃ (a : Addr) (bs : List Bool), vs = [V.ref a] ∧ SqL K H a (bs.map V.bl) ∧ Q (.bl (bs.all id)) H
def qAny (K : PySem.W.Frag) : RCl := fun vs H Q => ∃ (a : Addr) (bs : List Bool), vs = [V.ref a] ∧ SqL K H a (bs.map V.bl) ∧ Q (.bl (bs.any id)) H
def qSum (K : PySem.W.Frag) : RCl := fun vs H Q => ∃ (a : Addr) (ns : List Int), vs = [V.ref a] ∧ SqL K H a (ns.map V.int) ∧ Q (.int ns.sum) H
def qMax (K : PySem.W.Frag) : RCl := fun vs H Q => ∃ (a : Addr) (ns : List Int), vs = [V.ref a] ∧ SqL K H a (ns.map V.int) ∧ 0 < ns.length ∧ ∀ m, m ∈ ns → (∀ y, y ∈ ns → y ≤ m) → Q (.int m) H
def qMin (K : PySem.W.Frag) : RCl := fun vs H Q => ∃ (a : Addr) (ns : List Int), vs = [V.ref a] ∧ SqL K H a (ns.map V.int) ∧ 0 < ns.length ∧ ∀ m, m ∈ ns → (∀ y, y ∈ ns → m ≤ y) → Q (.int m) H
section
variable {X : Cx} {K : PySem.W.Frag} {n : Nat}
theorem c_all (hK : X.K = K) (hr : X.calm = true) : CallR X (.builtin "all") (qAll K) := by subst hK; exact cr_all hr
theorem c_any (hK : X.K = K) (hr : X.calm = true) : CallR X (.builtin "any") (qAny K) := by subst hK; exact cr_any hr
theorem c_sum (hK : X.K = K) (hr : X.calm = true) : CallR X (.builtin "sum") (qSum K) := by subst hK; exact cr_sum hr
theorem c_maxL (hK : X.K = K) (hr : X.calm = true) : CallR X (.builtin "max") (qMax K) := by subst hK; exact cr_max hr
theorem c_minL (hK : X.K = K) (hr : X.calm = true) : CallR X (.builtin "min") (qMin K) := by subst hK; exact cr_min hr
theorem c_inD (hK : X.K = K) (hr : Room n X.A) : OpR X (compareOp .In) (rInD K) := by subst hK; exact op_inD (by have := hr.un; omega)
theorem c_notInD (hK : X.K = K) (hr : Room n X.A) : OpR X (compareOp .NotIn) (rNotInD K) := by subst hK; exact op_notInD (by have := hr.un; omega)
theorem c_indexD (hK : X.K = K) (hr : Room n X.A) : MtR X "list.index" (rIndexD K) := by subst hK; exact mt_indexD (by have := hr.un; omega)
theorem un1 {A : Around} (hr : Room n A) : A.units + 1 < cLine := by have := hr.un; omega
end
def qInS : R2 := fun x y H Q => ∃ i j, x = .str i ∧ y = .str j ∧ Q (.bl (!(Builtin.Str.occurrences j i 0 j.length 1).isEmpty)) H
def qNotInS : R2 := fun x y H Q => ∃ i j, x = .str i ∧ y = .str j ∧ Q (.bl (!(!(Builtin.Str.occurrences j i 0 j.length 1).isEmpty))) H
theorem c_inS {X : Cx} : OpR X (compareOp .In) qInS := op_in_str
theorem c_notInS {X : Cx} : OpR X (compareOp .NotIn) qNotInS := op_notin_str
def inSg (a b : Sg) : Bool := !(Builtin.Str.occurrences (S b) (S a) 0 (S b).length 1).isEmpty
def maxM (xs : List Int) : Option Int := xs.foldl (fun m x => match m with
  | none => some x
  | some y => some (if x > y then x else y)) none
def minM (xs : List Int) : Option Int := xs.foldl (fun m x => match m with
  | none => some x
  | some y => some (if x < y then x else y)) none
theorem maxM_ok {xs : List Int} {m : Int} (h : maxM xs = some m) : m ∈ xs ∧ ∀ y ∈ xs, y ≤ m := by
  have key : ∀ (xs : List Int) (a m : Int), xs.foldl (fun m x => match m with
    | none => some x
    | some y => some (if x > y then x else y)) (some a) = some m → (m = a ∨ m ∈ xs) ∧ a ≤ m ∧ ∀ y ∈ xs, y ≤ m := fun xs => by
    induction xs with
    | nil => intro a m h; have := Option.some.inj h; subst this; exact ⟨.inl rfl, Int.le_refl _, nofun⟩
    | cons x xs ih =>
      intro a m h
      obtain ⟨h1, h2, h3⟩ := ih (if x > a then x else a) m h
      have h4 : a ≤ m ∧ x ≤ m := by split at h2 <;> omega
      refine ⟨?_, h4.1, fun y hy => ?_⟩
      · rcases h1 with h1 | h1
        · split at h1
          · exact .inr (h1 ▸ List.mem_cons_self)
          · exact .inl h1
        · exact .inr (List.mem_cons_of_mem _ h1)
      · rcases List.mem_cons.mp hy with e | e
        · rw [e]; exact h4.2
        · exact h3 y e
  cases xs with
  | nil => cases h
  | cons x xs =>
    obtain ⟨h1, h2, h3⟩ := key xs x m h
    exact ⟨h1.elim (fun e => e ▸ List.mem_cons_self) (List.mem_cons_of_mem _), fun y hy => (List.mem_cons.mp hy).elim (fun e => e ▸ h2) (h3 y)⟩
theorem minM_ok {xs : List Int} {m : Int} (h : minM xs = some m) : m ∈ xs ∧ ∀ y ∈ xs, m ≤ y := by
  have key : ∀ (xs : List Int) (a m : Int), xs.foldl (fun m x => match m with
    | none => some x
    | some y => some (if x < y then x else y)) (some a) = some m → (m = a ∨ m ∈ xs) ∧ m ≤ a ∧ ∀ y ∈ xs, m ≤ y := fun xs => by
    induction xs with
    | nil => intro a m h; have := Option.some.inj h; subst this; exact ⟨.inl rfl, Int.le_refl _, nofun⟩
    | cons x xs ih =>
      intro a m h
      obtain ⟨h1, h2, h3⟩ := ih (if x < a then x else a) m h
      have h4 : m ≤ a ∧ m ≤ x := by split at h2 <;> omega
      refine ⟨?_, h4.1, fun y hy => ?_⟩
      · rcases h1 with h1 | h1
        · split at h1
          · exact .inr (h1 ▸ List.mem_cons_self)
          · exact .inl h1
        · exact .inr (List.mem_cons_of_mem _ h1)
      · rcases List.mem_cons.mp hy with e | e
        · rw [e]; exact h4.2
        · exact h3 y e
  cases xs with
  | nil => cases h
  | cons x xs =>
    obtain ⟨h1, h2, h3⟩ := key xs x m h
    exact ⟨h1.elim (fun e => e ▸ List.mem_cons_self) (List.mem_cons_of_mem _), fun y hy => (List.mem_cons.mp hy).elim (fun e => e ▸ h2) (h3 y)⟩
def idxM {α : Type} [DecidableEq α] (xs : List α) (a : α) : Option Int := (xs.findIdx? fun x => decide (x = a)).map fun (j : Nat) => (j : Int)
def popAtM {α : Type} (xs : List α) (i : Int) : Option (α × List α) := need (decide (-(2 ^ 63) ≤ i ∧ i < 2 ^ 63)) () |>.bind fun _ => (seqIndex? i xs.length).bind fun k => (xs[k]?).map fun a => (a, xs.eraseIdx k)
section
variable {K : PySem.W.Frag} {H F : Hp} {Q : VK} {p : Addr} {vs : List V} {xs : List Int} {bs : List Bool} {m : Int}
theorem v_all (hq : SqL K H p vs) (hr : Al eB F vs bs) (k : Q (.bl (bs.all id)) H) : qAll K [.ref p] H Q := by
  have e := al_bl hr
  subst e
  exact ⟨p, bs, rfl, hq, k⟩
theorem v_any (hq : SqL K H p vs) (hr : Al eB F vs bs) (k : Q (.bl (bs.any id)) H) : qAny K [.ref p] H Q := by
  have e := al_bl hr
  subst e
  exact ⟨p, bs, rfl, hq, k⟩
theorem v_sum (hq : SqL K H p vs) (hr : Al eI F vs xs) (k : Q (.int xs.sum) H) : qSum K [.ref p] H Q := by
  have e := al_int hr
  subst e
  exact ⟨p, xs, rfl, hq, k⟩
theorem v_maxL (hq : SqL K H p vs) (hr : Al eI F vs xs) (h : maxM xs = some m) (k : Q (.int m) H) : qMax K [.ref p] H Q := by
  have e := al_int hr
  subst e
  obtain ⟨h1, h2⟩ := maxM_ok h
  exact ⟨p, xs, rfl, hq, List.length_pos_of_mem h1, fun n n1 n2 => by
    have : n = m := Int.le_antisymm (h2 n n1) (n2 m h1)
    subst this; exact k⟩
theorem v_minL (hq : SqL K H p vs) (hr : Al eI F vs xs) (h : minM xs = some m) (k : Q (.int m) H) : qMin K [.ref p] H Q := by
  have e := al_int hr
  subst e
  obtain ⟨h1, h2⟩ := minM_ok h
  exact ⟨p, xs, rfl, hq, List.length_pos_of_mem h1, fun n n1 n2 => by
    have : n = m := Int.le_antisymm (n2 m h1) (h2 n n1)
    subst this; exact k⟩
theorem v_inS {a b : Sg} (k : Q (.bl (inSg a b)) H) : qInS (.str (S a)) (.str (S b)) H Q := ⟨_, _, rfl, rfl, k⟩
theorem v_notInS {a b : Sg} (k : Q (.bl (!inSg a b)) H) : qNotInS (.str (S a)) (.str (S b)) H Q := ⟨_, _, rfl, rfl, k⟩
end
section
variable {α : Type} [DecidableEq α] {t : Rp α} {K : PySem.W.Frag} {H F : Hp} {Q : VK} {p : Addr} {vs : List V} {xs : List α} {a : α} {v w : V} {d e : PyData}
theorem any_eqv (D : Dt t) (xs : List α) (a : α) : ((xs.map D.d).any fun z => PyData.eqv z (D.d a)) = decide (a ∈ xs) := by
  induction xs with
  | nil => rfl
  | cons x xs ih =>
    rw [List.map_cons, List.any_cons, ih, eqv_dec D]
    rw [Bool.eq_iff_iff]
    simp only [Bool.or_eq_true, decide_eq_true_eq, List.mem_cons]
    exact ⟨fun h => h.imp Eq.symm id, fun h => h.imp Eq.symm id⟩
theorem v_inD (D : Dt t) (h1 : Dp K H v (D.d a)) (h2 : Dp K H w (.list (xs.map D.d))) (hb : eqB (D.d a) (.list (xs.map D.d)) = true) (k : Q (.bl (decide (a ∈ xs))) H) : rInD K v w H Q := by
  unfold eqB at hb
  rw [Bool.and_eq_true] at hb
  exact ⟨_, _, h1, h2, hb.1, hb.2, by rw [any_eqv]; exact k⟩
theorem v_notInD (D : Dt t) (h1 : Dp K H v (D.d a)) (h2 : Dp K H w (.list (xs.map D.d))) (hb : eqB (D.d a) (.list (xs.map D.d)) = true) (k : Q (.bl (!decide (a ∈ xs))) H) : rNotInD K v w H Q := by
  unfold eqB at hb
  rw [Bool.and_eq_true] at hb
  exact ⟨_, _, h1, h2, hb.1, hb.2, by rw [any_eqv]; exact k⟩
theorem v_indexD {j : Int} (D : Dt t) (h1 : Dp K H v (D.d a)) (h2 : Dp K H (.ref p) (.list (xs.map D.d))) (hb : eqB (D.d a) (.list (xs.map D.d)) = true) (h : idxM xs a = some j) (k : Q (.int j) H) : rIndexD K (.ref p) [v] H Q := by
  unfold eqB at hb
  rw [Bool.and_eq_true] at hb
  unfold idxM at h
  cases e : xs.findIdx? fun x => decide (x = a) with
  | none => rw [e] at h; cases h
  | some i =>
    rw [e] at h
    have ej : (i : Int) = j := Option.some.inj h
    subst ej
    obtain ⟨hi, pi, no⟩ := List.findIdx?_eq_some_iff_getElem.mp e
    refine ⟨p, v, _, _, i, D.d xs[i], rfl, rfl, h2, h1, hb.2, hb.1, by rw [List.getElem?_map, List.getElem?_eq_getElem hi]; rfl, (D.eqv _ _).mpr (of_decide_eq_true pi), fun m z hm hz => ?_, k⟩
    rw [List.getElem?_map] at hz
    rw [List.getElem?_eq_getElem (by omega)] at hz
    have ez := Option.some.inj hz
    subst ez
    rw [eqv_dec D]
    exact decide_eq_false fun z => by have := no m hm; simp [z] at this
end
section
variable {α β : Type} {t : Rp α} {K : PySem.W.Frag} {H F H0 F0 H' F' : Hp} {Q : VK} {p q : Addr} {vs : List V} {xs : List α} {v w : V} {σ : L2.St} {W : List Addr} {o u : HO}
theorem n_isN {ta : TE} (h : ta σ H fun x H1 => Q (.bl (decide (x = .non))) H1) : tIsN ta σ H Q := h
theorem n_notN {ta : TE} (h : ta σ H fun x H1 => Q (.bl (!decide (x = .non))) H1) : tNotN ta σ H Q := h
theorem opt_non {x : Option α} (h : (eO t).r F v x) : decide (v = .non) = x.isNone := by
  cases x with
  | none => have e : v = .non := h; rw [e]; rfl
  | some a => rw [decide_eq_false h.1]; rfl
theorem v_isN {x : Option α} (h : (eO t).r F v x) (k : Q (.bl x.isNone) H) : Q (.bl (decide (v = .non))) H := by rw [opt_non h]; exact k
theorem v_notN {x : Option α} (h : (eO t).r F v x) (k : Q (.bl (!x.isNone)) H) : Q (.bl (!decide (v = .non))) H := by rw [opt_non h]; exact k
theorem pd_erase {R : V → α → Prop} : ∀ {vs : List V} {xs : List α} (n : Nat), Paired R vs xs → Paired R (vs.eraseIdx n) (xs.eraseIdx n)
  | _, _, _, .nil => .nil
  | _, _, 0, .cons _ h => h
  | _, _, n + 1, .cons r h => .cons r (pd_erase n h)
theorem v_popAt {i : Int} {m : α × List α} (hp : H p = some (.lst vs)) (hr : Al t F vs xs) (h : popAtM xs i = some m) (k : ∀ v n, t.r F v m.1 → Al t F (vs.eraseIdx n) m.2 → Q v (upd H p (.lst (vs.eraseIdx n)))) : rPopAt (.ref p) [.int i] H Q := by
  unfold popAtM at h
  obtain ⟨_, h1, h⟩ := bnd h
  have hb := of_decide_eq_true (need_ok h1).1
  obtain ⟨n, hn, h⟩ := bnd h
  cases e : xs[n]? with
  | none => rw [e] at h; cases h
  | some a =>
    rw [e] at h
    have em : (a, xs.eraseIdx n) = m := Option.some.inj h
    subst em
    obtain ⟨v, ev, rv⟩ := pd_get hr e
    exact ⟨p, vs, i, n, v, rfl, rfl, hp, hb.1, hb.2, by rw [al_len hr]; exact hn, ev, k v n rv (pd_erase n hr)⟩
theorem v_clear (hp : H p = some (.lst vs)) (k : Q .non (upd H p (.lst []))) : rClear (.ref p) [] H Q := ⟨p, vs, rfl, rfl, hp, k⟩
theorem v_reverse (hp : H p = some (.lst vs)) (k : Q .non (upd H p (.lst vs.reverse))) : rReverse (.ref p) [] H Q := ⟨p, vs, rfl, rfl, hp, k⟩
/-! a list of one's own lent to a call that reads it -/
theorem lend (m : Mu W H0 F H p o) (hs : Sub F H) : ∃ F1, F1 p = some o ∧ Sub F F1 ∧ Sub F1 H ∧ (∀ q u, q ≠ p → F q = u → F1 q = u) :=
  ⟨upd F p o, upd_same, Sub.up1 m.fr, fun a u e => by
    by_cases h : a = p
    · subst h; rw [upd_same] at e; cases e; exact m.hp
    · rw [upd_ne h] at e; exact hs a u e, fun q u ne e => by rw [upd_ne ne]; exact e⟩
theorem unlend {F1 : Hp} (s1 : Sub F F1) (g : Gr [] F1 H F' H') : Gr [] F H F H' := ⟨Sub.refl F, fun a u e => g.fh a u (g.ff a u (s1 a u e)), g.hh, g.lv, fun a _ n => n⟩
/-- what doesn't ask the heap -/
def Hf (t : Rp α) : Prop := ∀ (F F' : Hp) (v : V) (x : α), t.r F v x → t.r F' v x
theorem hf_I : Hf eI := fun _ _ _ _ h => h
theorem hf_B : Hf eB := fun _ _ _ _ h => h
theorem hf_S : Hf eS := fun _ _ _ _ h => h
theorem hf_N : Hf eN := fun _ _ _ _ h => h
theorem hf_O {t : Rp α} (h : Hf t) : Hf (eO t) := fun F F' v x r => by
  cases x with
  | none => exact r
  | some a => exact ⟨r.1, h F F' v a r.2⟩
theorem hf_al {t : Rp α} (h : Hf t) (a : Al t F vs xs) : Al t F' vs xs := Paired.mapP a fun _ _ z => h F F' _ _ z
/-- a conditional expression in general -/
theorem br_ifE {b : Bool} {ta tb : TE} (I : V → Hp → Prop) (h1 : b = true → ∀ Q' : VK, (∀ v H', I v H' → Q' v H') → ta σ H Q') (h2 : b = false → ∀ Q' : VK, (∀ v H', I v H' → Q' v H') → tb σ H Q') (k : ∀ v H', I v H' → Q v H') : qIfE ta tb σ Q b H := by
  unfold qIfE
  cases b with
  | true => rw [if_pos rfl]; exact h1 rfl Q k
  | false => rw [if_neg Bool.false_ne_true]; exact h2 rfl Q k
end
section
variable {α β γ : Type} {t : Rp α} {u : Rp β} {w : Rp γ} {D : Dt t} {E : Dt u} {G : Dt w}
theorem dl_I (n : Nat) (x : Int) : (dI.d x).depth ≤ n := by show (PyData.int x).depth ≤ n; simp only [PyData.depth]; exact Nat.zero_le _
theorem dl_S (n : Nat) (x : Sg) : (dS.d x).depth ≤ n := by show (PyData.str (S x)).depth ≤ n; simp only [PyData.depth]; exact Nat.zero_le _
theorem dl_B (n : Nat) (x : Bool) : (dB.d x).depth ≤ n := by show (PyData.bool x).depth ≤ n; simp only [PyData.depth]; exact Nat.zero_le _
theorem dl_P2 {n : Nat} (h : ∀ x, (D.d x).depth ≤ n) (k : ∀ x, (E.d x).depth ≤ n) (x : α × β) : ((dP2 D E).d x).depth ≤ n + 1 := by
  have h1 := h x.1
  have h2 := k x.2
  show (PyData.tuple [D.d x.1, E.d x.2]).depth ≤ n + 1
  simp only [PyData.depth, PyData.depthAll]; omega
theorem dl_P3 {n : Nat} (h : ∀ x, (D.d x).depth ≤ n) (k : ∀ x, (E.d x).depth ≤ n) (l : ∀ x, (G.d x).depth ≤ n) (x : α × β × γ) : ((dP3 D E G).d x).depth ≤ n + 1 := by
  have h1 := h x.1
  have h2 := k x.2.1
  have h3 := l x.2.2
  show (PyData.tuple [D.d x.1, E.d x.2.1, G.d x.2.2]).depth ≤ n + 1
  simp only [PyData.depth, PyData.depthAll]; omega
end
section
variable {α : Type} {t : Rp α} {K : PySem.W.Frag} {H F : Hp} {Q : VK} {p : Addr} {vs : List V} {xs : List α}
theorem v_listF (hs : Sub F H) (hq : SqL K H p vs ∨ SqT K H p vs) (hr : Al t F vs xs) (k : ∀ p' us F' H', Gr [] F H F' H' → F' p' = some (.lst us) → Al t F' us xs → Q (.ref p') H') : qList K [.ref p] H Q := ⟨p, vs, rfl, hq, fun l hl => k l _ _ _ (gr_newF hs hl) upd_same (Al.mono hr (Sub.up1 (hs.nn hl)))⟩
theorem v_listM (hs : Sub F H) (hq : SqL K H p vs ∨ SqT K H p vs) (hr : Al t F vs xs) (k : ∀ p' us H', H p' = none → Gr [] F H F H' → F p' = none → H' p' = some (.lst us) → Al t F us xs → Q (.ref p') H') : qList K [.ref p] H Q := ⟨p, vs, rfl, hq, fun l hl => k l _ _ hl (gr_newM hs hl) (hs.nn hl) upd_same hr⟩
end
section
variable {α β : Type} [DecidableEq α] {t : Rp α} {u : Rp β} {D : Dt t} {K : PySem.W.Frag} {H F : Hp} {Q : VK} {p : Addr} {vs : List V} {xs : List α} {ps : List (α × β)}
theorem v_ssetKF (S : So D) (A : Ke D) (O : Lo S.lt) (hs : Sub F H) (hq : SqL K H p vs) (hr : Al t F vs xs) (hb : ssetB 3999 xs = true) (k : ∀ p' us F' H', Gr [] F H F' H' → F' p' = some (.lst us) → Al t F' us (ssetL S.lt xs) → Q (.ref p') H') : qSset K RK datK 3999 [.ref p] H Q := v_ssetK S A O hs hq hr hb (a_ssF (Q := Q) hs k)
theorem v_ssetKM (S : So D) (A : Ke D) (O : Lo S.lt) (hs : Sub F H) (hq : SqL K H p vs) (hr : Al t F vs xs) (hb : ssetB 3999 xs = true) (k : ∀ p' us H', H p' = none → Gr [] F H F H' → F p' = none → H' p' = some (.lst us) → Al t F us (ssetL S.lt xs) → Q (.ref p') H') : qSset K RK datK 3999 [.ref p] H Q := v_ssetK S A O hs hq hr hb (a_ssM (Q := Q) hs k)
theorem v_ssetTF (S : So D) (A : Kt D) (O : Lo S.lt) (hs : Sub F H) (hq : SqL K H p vs) (hr : Al t F vs xs) (hb : ssetB 63 xs = true) (k : ∀ p' us F' H', Gr [] F H F' H' → F' p' = some (.lst us) → Al t F' us (ssetL S.lt xs) → Q (.ref p') H') : qSset K (RT K) datT 63 [.ref p] H Q := v_ssetT S A O hs hq hr hb (a_ssF (Q := Q) hs k)
theorem v_ssetTM (S : So D) (A : Kt D) (O : Lo S.lt) (hs : Sub F H) (hq : SqL K H p vs) (hr : Al t F vs xs) (hb : ssetB 63 xs = true) (k : ∀ p' us H', H p' = none → Gr [] F H F H' → F p' = none → H' p' = some (.lst us) → Al t F us (ssetL S.lt xs) → Q (.ref p') H') : qSset K (RT K) datT 63 [.ref p] H Q := v_ssetT S A O hs hq hr hb (a_ssM (Q := Q) hs k)
theorem v_dictTF (A : Kt D) (hs : Sub F H) (hq : SqL K H p vs) (hr : Al (eP2 t u) F vs ps) (k : ∀ p' kvs F' H', Gr [] F H F' H' → F' p' = some ((dyT A).ho kvs) → Pr (dyT A) u F' kvs (ofPairs ps) → Q (.ref p') H') : qDictT K [.ref p] H Q := v_dictT A hs hq hr (a_dF (Q := Q) hs k)
theorem v_dictTM (A : Kt D) (hs : Sub F H) (hq : SqL K H p vs) (hr : Al (eP2 t u) F vs ps) (k : ∀ p' kvs H', H p' = none → Gr [] F H F H' → F p' = none → H' p' = some ((dyT A).ho kvs) → Pr (dyT A) u F kvs (ofPairs ps) → Q (.ref p') H') : qDictT K [.ref p] H Q := v_dictT A hs hq hr (a_dM (Q := Q) hs k)
theorem v_dictKF (A : Ke D) (hs : Sub F H) (hq : SqL K H p vs) (hr : Al (eP2 t u) F vs ps) (k : ∀ p' kvs F' H', Gr [] F H F' H' → F' p' = some ((dyK A).ho kvs) → Pr (dyK A) u F' kvs (ofPairs ps) → Q (.ref p') H') : qDictK K [.ref p] H Q := v_dictK A hs hq hr (a_dF (Q := Q) hs k)
theorem v_dictKM (A : Ke D) (hs : Sub F H) (hq : SqL K H p vs) (hr : Al (eP2 t u) F vs ps) (k : ∀ p' kvs H', H p' = none → Gr [] F H F H' → F p' = none → H' p' = some ((dyK A).ho kvs) → Pr (dyK A) u F kvs (ofPairs ps) → Q (.ref p') H') : qDictK K [.ref p] H Q := v_dictK A hs hq hr (a_dM (Q := Q) hs k)
end
/-! what == takes: all typed data -/
structure Sh {α : Type} {t : Rp α} (D : Dt t) (n : Nat) : Prop where
  ok : ∀ x, (D.d x).canLay0 = true ∧ (D.d x).depth ≤ n
section
variable {α β γ : Type} {t : Rp α} {u : Rp β} {w : Rp γ} {D : Dt t} {E : Dt u} {G : Dt w} {n m l : Nat}
theorem sh_I : Sh dI 0 := ⟨fun x => by show (PyData.int x).canLay0 = true ∧ (PyData.int x).depth ≤ 0; simp only [PyData.canLay0, PyData.depth]; exact ⟨trivial, Nat.le_refl _⟩⟩
theorem sh_B : Sh dB 0 := ⟨fun x => by show (PyData.bool x).canLay0 = true ∧ (PyData.bool x).depth ≤ 0; simp only [PyData.canLay0, PyData.depth]; exact ⟨trivial, Nat.le_refl _⟩⟩
theorem sh_N : Sh dN 0 := ⟨fun x => by show PyData.none.canLay0 = true ∧ PyData.none.depth ≤ 0; simp only [PyData.canLay0, PyData.depth]; exact ⟨trivial, Nat.le_refl _⟩⟩
theorem sh_P2 (h : Sh D n) (k : Sh E m) : Sh (dP2 D E) (n + m + 1) := ⟨fun x => by
  obtain ⟨h1, h2⟩ := h.ok x.1
  obtain ⟨h3, h4⟩ := k.ok x.2
  show (PyData.tuple [D.d x.1, E.d x.2]).canLay0 = true ∧ (PyData.tuple [D.d x.1, E.d x.2]).depth ≤ n + m + 1
  simp only [PyData.canLay0, PyData.canLayAll0, PyData.depth, PyData.depthAll, h1, h3]
  exact ⟨rfl, by omega⟩⟩
theorem sh_P3 (h : Sh D n) (k : Sh E m) (j : Sh G l) : Sh (dP3 D E G) (n + m + l + 1) := ⟨fun x => by
  obtain ⟨h1, h2⟩ := h.ok x.1
  obtain ⟨h3, h4⟩ := k.ok x.2.1
  obtain ⟨h5, h6⟩ := j.ok x.2.2
  show (PyData.tuple [D.d x.1, E.d x.2.1, G.d x.2.2]).canLay0 = true ∧ (PyData.tuple [D.d x.1, E.d x.2.1, G.d x.2.2]).depth ≤ n + m + l + 1
  simp only [PyData.canLay0, PyData.canLayAll0, PyData.depth, PyData.depthAll, h1, h3, h5]
  exact ⟨rfl, by omega⟩⟩
theorem sh_all (h : Sh D n) (xs : List α) : PyData.canLayAll0 (xs.map D.d) = true ∧ PyData.depthAll (xs.map D.d) ≤ n := by
  induction xs with
  | nil => simp only [List.map_nil, PyData.canLayAll0, PyData.depthAll]; exact ⟨trivial, Nat.zero_le _⟩
  | cons x xs ih =>
    obtain ⟨h1, h2⟩ := h.ok x
    simp only [List.map_cons, PyData.canLayAll0, PyData.depthAll, h1, ih.1]
    exact ⟨rfl, by have := ih.2; omega⟩
theorem sh_L (h : Sh D n) : Sh (dL D) (n + 1) := ⟨fun x => by
  obtain ⟨h1, h2⟩ := sh_all h x
  show (PyData.list (x.map D.d)).canLay0 = true ∧ (PyData.list (x.map D.d)).depth ≤ n + 1
  simp only [PyData.canLay0, PyData.depth, h1]
  exact ⟨trivial, by omega⟩⟩
theorem sh_T (h : Sh D n) : Sh (dT D) (n + 1) := ⟨fun x => by
  obtain ⟨h1, h2⟩ := sh_all h x
  show (PyData.tuple (x.map D.d)).canLay0 = true ∧ (PyData.tuple (x.map D.d)).depth ≤ n + 1
  simp only [PyData.canLay0, PyData.depth, h1]
  exact ⟨trivial, by omega⟩⟩
theorem sh_O {nn : ∀ x, isNoneD (D.d x) = false} (h : Sh D n) : Sh (dO D nn) n := ⟨fun x => by
  cases x with
  | none => exact ⟨(sh_N.ok ()).1, Nat.le_trans (sh_N.ok ()).2 (Nat.zero_le _)⟩
  | some a => exact h.ok a⟩
theorem eqB_sh (h : Sh D n) (k : Sh E m) (hn : n ≤ 64) (hm : m ≤ 64) (x : α) (y : β) : eqB (D.d x) (E.d y) = true := by
  unfold eqB SeqAt.shaped
  rw [(h.ok x).1, (k.ok y).1, decide_eq_true (Nat.le_trans (h.ok x).2 hn), decide_eq_true (Nat.le_trans (k.ok y).2 hm)]; rfl
end
/-! plain: what == takes, where texts are within -/
structure Sk1 (e : Nat) (d : PyData) : Prop where
  can : d.canLay0 = true
  dp : d.depth ≤ e
structure Sks (e : Nat) (ds : List PyData) : Prop where
  can : PyData.canLayAll0 ds = true
  dp : PyData.depthAll ds ≤ e
theorem sk_str {s : Sg} (hs : ∀ c ∈ s, c < 1114112) : Sk1 0 (.str (S s)) := ⟨by
  simp only [PyData.canLay0]
  show (s.toArray.all fun c => decide (c < 1114112)) = true
  rw [List.all_toArray]
  exact List.all_eq_true.mpr fun c hc => decide_eq_true (hs c hc), by simp only [PyData.depth]; exact Nat.le_refl _⟩
theorem sk_int (i : Int) : Sk1 0 (.int i) := ⟨by simp only [PyData.canLay0], by simp only [PyData.depth]; exact Nat.le_refl _⟩
theorem sk_bool (i : Bool) : Sk1 0 (.bool i) := ⟨by simp only [PyData.canLay0], by simp only [PyData.depth]; exact Nat.le_refl _⟩
theorem sk_none : Sk1 0 .none := ⟨by simp only [PyData.canLay0], by simp only [PyData.depth]; exact Nat.le_refl _⟩
theorem sks_nil {e : Nat} : Sks e [] := ⟨by simp only [PyData.canLayAll0], by simp only [PyData.depthAll]; exact Nat.zero_le _⟩
theorem sks_cons {e : Nat} {d : PyData} {ds : List PyData} (h : Sk1 e d) (h' : Sks e ds) : Sks e (d :: ds) := ⟨by simp only [PyData.canLayAll0, h.can, h'.can, Bool.and_self], by simp only [PyData.depthAll]; exact Nat.max_le.mpr ⟨h.dp, h'.dp⟩⟩
theorem sks_all {e : Nat} : ∀ {ds : List PyData}, (∀ d ∈ ds, Sk1 e d) → Sks e ds
  | [], _ => sks_nil
  | _ :: _, h => sks_cons (h _ List.mem_cons_self) (sks_all fun c hc => h c (List.mem_cons_of_mem _ hc))
theorem sk_list {e : Nat} {ds : List PyData} (h : Sks e ds) : Sk1 (e + 1) (.list ds) := ⟨by simp only [PyData.canLay0]; exact h.can, by simp only [PyData.depth]; exact Nat.succ_le_succ h.dp⟩
theorem sk_tup {e : Nat} {ds : List PyData} (h : Sks e ds) : Sk1 (e + 1) (.tuple ds) := ⟨by simp only [PyData.canLay0]; exact h.can, by simp only [PyData.depth]; exact Nat.succ_le_succ h.dp⟩
theorem Sk1.mono {e e' : Nat} {d : PyData} (h : Sk1 e d) (he : e ≤ e') : Sk1 e' d := ⟨h.can, Nat.le_trans h.dp he⟩
theorem eqB_of {e e' : Nat} {d d' : PyData} (h : Sk1 e d) (h' : Sk1 e' d') (he : e ≤ 64) (he' : e' ≤ 64) : eqB d d' = true := by
  unfold eqB SeqAt.shaped
  rw [h.can, h'.can, decide_eq_true (Nat.le_trans h.dp he), decide_eq_true (Nat.le_trans h'.dp he')]; rfl
end U
set_option Elab.async false
set_option linter.all false
set_option maxRecDepth 100000
set_option maxHeartbeats 4000000
namespace U
open PySem PySem.Spec L2
open PySem.W (alike dataLt)
/-! ### order of data -/
def qCmpD (K : PySem.W.Frag) (f : PyData → PyData → Bool) : R2 := fun x y H Q => ∃ d e, Dp K H x d ∧ Dp K H y e ∧ alike d e = true ∧ d ≠ .none ∧ d.depth ≤ 60 ∧ Q (.bl (f d e)) H
section
variable {X : Cx} {K : PySem.W.Frag} {n : Nat}
theorem c_ltD (hK : X.K = K) (hr : Room n X.A) : OpR X (compareOp .Lt) (qCmpD K fun d e => dataLt d e) := by
  subst hK
  intro pins s σ H x y v u Q I rx ry ⟨d, e, hd, he, ha, hn, hp, q⟩
  obtain ⟨as, r1⟩ := Dp.reads I d _ _ hd rx
  obtain ⟨bs, r2⟩ := Dp.reads I e _ _ he ry
  exact PySem.W.lt_data r1 r2 ha hn (by have := hr.un; omega) ⟨.bl _, H, I, rfl, q⟩
theorem c_gtD (hK : X.K = K) (hr : Room n X.A) : OpR X (compareOp .Gt) (qCmpD K fun d e => dataLt e d) := by
  subst hK
  intro pins s σ H x y v u Q I rx ry ⟨d, e, hd, he, ha, hn, hp, q⟩
  obtain ⟨as, r1⟩ := Dp.reads I d _ _ hd rx
  obtain ⟨bs, r2⟩ := Dp.reads I e _ _ he ry
  exact PySem.W.gt_data r1 r2 ha hn (by have := hr.un; omega) ⟨.bl _, H, I, rfl, q⟩
theorem c_leD (hK : X.K = K) (hr : Room n X.A) : OpR X (compareOp .LtE) (qCmpD K fun d e => !dataLt e d) := by
  subst hK
  intro pins s σ H x y v u Q I rx ry ⟨d, e, hd, he, ha, hn, hp, q⟩
  obtain ⟨as, r1⟩ := Dp.reads I d _ _ hd rx
  obtain ⟨bs, r2⟩ := Dp.reads I e _ _ he ry
  exact PySem.W.le_data r1 r2 ha hn (by have := hr.un; omega) ⟨.bl _, H, I, rfl, q⟩
theorem c_geD (hK : X.K = K) (hr : Room n X.A) : OpR X (compareOp .GtE) (qCmpD K fun d e => !dataLt d e) := by
  subst hK
  intro pins s σ H x y v u Q I rx ry ⟨d, e, hd, he, ha, hn, hp, q⟩
  obtain ⟨as, r1⟩ := Dp.reads I d _ _ hd rx
  obtain ⟨bs, r2⟩ := Dp.reads I e _ _ he ry
  exact PySem.W.ge_data r1 r2 ha hn (by have := hr.un; omega) ⟨.bl _, H, I, rfl, q⟩
end
section
variable {α : Type} {t : Rp α} {D : Dt t} {K : PySem.W.Frag} {H : Hp} {Q : VK} {v w : V} {a b : α} {f : PyData → PyData → Bool} {c : Bool}
theorem so_nn (S : So D) (x : α) : D.d x ≠ .none := S.so.elim (fun h e => by obtain ⟨a, r, q⟩ := h x; rw [q] at e; cases e) fun h => (h x).1
theorem v_cmpD (S : So D) (h1 : Dp K H v (D.d a)) (h2 : Dp K H w (D.d b)) (e : f (D.d a) (D.d b) = c) (k : Q (.bl c) H) : qCmpD K f v w H Q := ⟨_, _, h1, h2, S.al a b, so_nn S a, S.dp a, by rw [e]; exact k⟩
end
theorem c_revL {X : Cx} {K : PySem.W.Frag} {e : Expr} {te : TE} {k : Nat} {p1 p2 p3 pos : Pos} (hK : X.K = K) (he : PE X e te) : PE X (.Subscript e (.Slice none none (some (.UnaryOp .USub (.Constant (.int 1) k p1) p2)) p3) pos) (tRevL K te) := by
  subst hK; exact pe_revL he
def qRevL (K : PySem.W.Frag) (Q : VK) : VK := fun x H1 => ∃ a xs, x = .ref a ∧ SqL K H1 a xs ∧ ∀ p, H1 p = none → Q (.ref p) (upd H1 p (.lst xs.reverse))
section
variable {α : Type} {t : Rp α} {K : PySem.W.Frag} {H F : Hp} {Q : VK} {p : Addr} {vs : List V} {xs : List α} {te : TE} {σ : L2.St}
theorem n_revL (h : te σ H (qRevL K Q)) : tRevL K te σ H Q := h
theorem v_revLF (hs : Sub F H) (hq : SqL K H p vs) (hr : Al t F vs xs) (k : ∀ p' us F' H', Gr [] F H F' H' → F' p' = some (.lst us) → Al t F' us xs.reverse → Q (.ref p') H') : qRevL K Q (.ref p) H := ⟨p, vs, rfl, hq, fun l hl => k l _ _ _ (gr_newF hs hl) upd_same (Al.mono (pd_rev hr) (Sub.up1 (hs.nn hl)))⟩
theorem v_revLM (hs : Sub F H) (hq : SqL K H p vs) (hr : Al t F vs xs) (k : ∀ p' us H', H p' = none → Gr [] F H F H' → F p' = none → H' p' = some (.lst us) → Al t F us xs.reverse → Q (.ref p') H') : qRevL K Q (.ref p) H := ⟨p, vs, rfl, hq, fun l hl => k l _ _ hl (gr_newM hs hl) (hs.nn hl) upd_same (pd_rev hr)⟩
end
end U
namespace U
open PySem PySem.Spec L2
def powM (i j : Int) : Option Int := need (decide (0 ≤ j ∧ j ≤ 1000000 ∧ i.natAbs < 18446744073709551616)) (i ^ j.toNat)
theorem v_pow {H : Hp} {Q : VK} {i j a : Int} (h : powM i j = some a) (k : Q (.int a) H) : L2.rI CPow (fun i j => .int (i ^ j.toNat)) (.int i) (.int j) H Q := by
  obtain ⟨h1, rfl⟩ := need_ok h
  have h2 := of_decide_eq_true h1
  exact ⟨i, j, rfl, rfl, h2, k⟩
section
variable {K : PySem.W.Frag} {F H : Hp} {v : V} {ns : List Int}
theorem dp_Q {p : Addr} (hs : Sub F H) (q : SqL K F p (ns.map V.int)) : Dp K H (.ref p) ((dL dI).d ns) := .lst (hs.l q) (dt_all dI (Sub.refl H) (al_ofint ns))
end
end U
set_option Elab.async false
set_option linter.all false
set_option maxRecDepth 100000
set_option maxHeartbeats 4000000
namespace U
open PySem PySem.Spec L2
/-! ### texts: again and again, begins with -/
def qMulS : R2 := fun x y H Q => ∃ a n, x = .str a ∧ y = .int n ∧ MulOk a n ∧ Q (.str (Txt.mul a n)) H
section
variable {X : Cx} {K : PySem.W.Frag}
theorem c_mulS : OpR X (binaryOp .Mult) qMulS := by
  intro pins s σ H x y v u Q I rx ry h
  obtain ⟨a, n, rfl, rfl, hz, q⟩ := h
  obtain ⟨t, rfl⟩ := rx
  obtain ⟨t', rfl⟩ := ry
  exact SB.mul hz fun t' k => ⟨.str (Txt.mul a n), H, I.tok _, ⟨_, rfl⟩, q⟩
def qSw : RMt := fun x xs H Q => ∃ a b, x = .str a ∧ xs = [.str b] ∧ Q (.bl (Txt.startswith a b)) H
theorem c_sw : MtR X "str.startswith" qSw := mt_startswith
def qEw : RMt := fun x xs H Q => ∃ a b, x = .str a ∧ xs = [.str b] ∧ Q (.bl (Txt.endswith a b)) H
theorem c_ew : MtR X "str.endswith" qEw := mt_endswith
end
def repS (s : Sg) (n : Int) : Sg := (List.replicate n.toNat s).flatten
def repSM (s : Sg) (n : Int) : Option Sg := need (decide (-(2 ^ 63) ≤ n ∧ n < 2 ^ 62) && szB (s.length * n.toNat)) (repS s n)
theorem rep_len (s : Sg) (n : Int) : (repS s n).length = s.length * n.toNat := by
  unfold repS
  rw [List.length_flatten, List.map_replicate, List.sum_replicate_nat, Nat.mul_comm]
theorem fold_app (l : List (Array Nat)) (a : Array Nat) : (l.foldl (· ++ ·) a).toList = a.toList ++ (l.map Array.toList).flatten := by
  induction l generalizing a with
  | nil => simp
  | cons x l ih => rw [List.foldl_cons, ih]; simp
theorem repS_eq (s : Sg) (n : Int) : Txt.mul (S s) n = S (repS s n) := by
  unfold Txt.mul repS
  by_cases h : n < 1
  · rw [if_pos h, Int.toNat_of_nonpos (by omega)]; rfl
  · rw [if_neg h]
    by_cases h2 : (n == 1 || (S s).length == 0) = true
    · rw [if_pos h2]
      rw [Bool.or_eq_true] at h2
      rcases h2 with h2 | h2
      · have : n = 1 := by simpa using h2
        subst this
        exact TL.ext_tl (by simp [TL.tl])
      · have h3 : s = [] := by
          have : (S s).length = 0 := by simpa using h2
          exact List.length_eq_zero_iff.mp (by simpa [Str.length] using this)
        subst h3
        exact TL.ext_tl (by simp [TL.tl])
    · rw [if_neg h2]
      exact TL.ext_tl (by simp [TL.tl, fold_app])
theorem repSM_le {s t : Sg} {n : Int} (h : repSM s n = some t) : t.length ≤ sizeLine := by
  obtain ⟨h1, rfl⟩ := need_ok h
  rw [Bool.and_eq_true] at h1
  rw [rep_len]; exact sz_ok h1.2
section
variable {H F : Hp} {Q : VK} {n : Int} {s r : Sg}
theorem v_mulS {t : Sg} (h : repSM s n = some t) (k : Q (.str (S t)) H) : qMulS (.str (S s)) (.int n) H Q := by
  obtain ⟨h1, rfl⟩ := need_ok h
  rw [Bool.and_eq_true, decide_eq_true_eq] at h1
  have hz := sz_ok h1.2
  refine ⟨S s, n, rfl, rfl, ⟨by simp; omega, fun h2 h3 => ?_, fun h2 h3 => ?_⟩, by rw [repS_eq]; exact k⟩
  · have hl : (S s).length = s.length := by simp [Str.length]
    rw [hl]
    have hz2 : ((s.length : Int)) * n ≤ (sizeLine : Nat) := by
      have : (s.length * n.toNat : Nat) ≤ sizeLine := hz
      have h5 : ((s.length * n.toNat : Nat) : Int) ≤ (sizeLine : Nat) := by exact_mod_cast this
      rw [Int.natCast_mul, Int.toNat_of_nonneg (by omega)] at h5
      exact h5
    have hs : ((sizeLine : Nat) : Int) ≤ 2 ^ 63 - 1 := by decide
    have := (Int.le_ediv_iff_mul_le (by omega : (0 : Int) < n)).mpr (Int.le_trans hz2 hs)
    omega
  · have hl : (S s).length = s.length := by simp [Str.length]
    rw [hl]
    have : s.length * n.toNat ≤ sizeLine := hz
    unfold Builtin.Str.tooLong
    simpa using this
end
/-- begins with -/
def swB (a b : Sg) : Bool := decide (a.take b.length = b)
theorem sw_eq (a b : Sg) : Txt.startswith (S a) (S b) = swB a b := by
  unfold Txt.startswith swB
  rw [show Builtin.Str.subAt (S a) (S b) 0 = (((S a).cps.toList.drop 0).take (S b).length == (S b).cps.toList) by
    unfold Builtin.Str.subAt
    rw [show ∀ x y : Array Nat, (x == y) = (x.toList == y.toList) from fun x y => by rw [Bool.eq_iff_iff, beq_iff_eq, beq_iff_eq, Array.toList_inj]]
    simp]
  have h1 : (S a).length = a.length := by simp [Str.length]
  have h2 : (S b).length = b.length := by simp [Str.length]
  rw [h1, h2, Nat.zero_add]
  rw [Bool.eq_iff_iff]
  simp
  intro e
  have := congrArg List.length e
  rw [List.length_take] at this
  omega
theorem v_sw {H : Hp} {Q : VK} {a b : Sg} (k : Q (.bl (swB a b)) H) : qSw (.str (S a)) [.str (S b)] H Q := ⟨S a, S b, rfl, rfl, by rw [sw_eq]; exact k⟩
theorem v_lenP2 {K : PySem.W.Frag} {F H : Hp} {Q : VK} {v : V} {α β : Type} {ta : Rp α} {tb : Rp β} {m : α × β} (hs : Sub F H) (hr : (eP2 ta tb).r F v m) (k : Q (.int 2) H) : qLen K [v] H Q := by
  obtain ⟨p, x, y, rfl, hp, _⟩ := hr
  exact ⟨p, [x, y], rfl, .inr (.inl (.inl (hs _ _ hp))), k⟩
theorem v_lenP3 {K : PySem.W.Frag} {F H : Hp} {Q : VK} {v : V} {α β γ : Type} {ta : Rp α} {tb : Rp β} {tc : Rp γ} {m : α × β × γ} (hs : Sub F H) (hr : (eP3 ta tb tc).r F v m) (k : Q (.int 3) H) : qLen K [v] H Q := by
  obtain ⟨p, x, y, z, rfl, hp, _⟩ := hr
  exact ⟨p, [x, y, z], rfl, .inr (.inl (.inl (hs _ _ hp))), k⟩
/-! ### what is never reached -/
def tNoS : TS := fun _ _ _ => False
def tNoT : TT := fun _ _ _ => False
def tNoE : TE := fun _ _ _ => False
section
variable {X : Cx} {K : PySem.W.Frag} {ss : List Stmt} {e : Expr}
theorem ps_no : PSs X ss tNoS := ⟨fun _ _ _ _ _ _ h => h.elim⟩
theorem pw_no : PW X e tNoT := ⟨fun _ _ _ _ _ _ _ h => h.elim⟩
theorem pe_no : PE X e tNoE := ⟨fun _ _ _ _ _ _ h => h.elim⟩
theorem c_isiT (hK : X.K = K) : CallR X (.builtin "isinstance") (rIsiT K) := by subst hK; exact call_isiT
end
theorem v_mkTy {F H : Hp} {Q : VK} {us : List V} (hs : Sub F H) (hz : szB us.length = true) (k : ∀ p F' H', Gr [] F H F' H' → F' p = some (.tup us) → Q (.ref p) H') : qNewT Q us H := ⟨sz_ok hz, fun p hp => k _ _ _ (gr_newF hs hp) upd_same⟩
theorem v_isiT {K : PySem.W.Frag} {H : Hp} {Q : VK} {x : V} {T U W : String} {tp : Addr} {b c : Bool} (ty : TyX K H x (.type T)) (hq : H tp = some (.tup [.ty U, .ty W])) (h : kitB T U = some b) (h' : kitB T W = some c) (k : Q (.bl (b || c)) H) : rIsiT K [x, .ref tp] H Q := by
  refine ⟨x, tp, _, _, [.type U, .type W], b || c, rfl, hq, .cons (.ty U) (.cons (.ty W) .nil), ty, ?_, k⟩
  have e1 := kit_ty (K := K) h
  have e2 := kit_ty (K := K) h'
  unfold PySem.W.kitAny
  rw [e1]
  cases b with
  | true => rfl
  | false =>
    show PySem.W.kitAny K _ _ = _
    unfold PySem.W.kitAny
    rw [e2]
    cases c <;> rfl
theorem p2_T {α : Type} {t : Rp α} {F : Hp} {v : V} {m : α × α} (h : (eP2 t t).r F v m) : (eT t).r F v [m.1, m.2] := by
  obtain ⟨p, x, y, rfl, hp, h1, h2⟩ := h
  exact ⟨p, [x, y], rfl, hp, .cons h1 (.cons h2 .nil)⟩
/-! ### xs[lo:hi:step] -/
def stepL {α : Type} (xs : List α) (lo hi : Option Int) (c : Int) : List α := (sliceRange (sliceBounds lo hi (some c) xs.length).1 (sliceBounds lo hi (some c) xs.length).2.1 (sliceBounds lo hi (some c) xs.length).2.2).filterMap (xs[·]?)
theorem pd_pick {α β : Type} {R : α → β → Prop} {xs : List α} {ys : List β} (h : Paired R xs ys) (is : List Nat) : Paired R (is.filterMap (xs[·]?)) (is.filterMap (ys[·]?)) := by
  have hl := Paired.length h
  induction is with
  | nil => exact .nil
  | cons i is ih =>
    rw [List.filterMap_cons, List.filterMap_cons]
    by_cases hi : i < xs.length
    · have e1 := List.getElem?_eq_getElem hi
      have e2 := List.getElem?_eq_getElem (show i < ys.length by omega)
      obtain ⟨v, e, r⟩ := pd_get h e2
      rw [e, e2]
      exact .cons r ih
    · rw [List.getElem?_eq_none (by omega), List.getElem?_eq_none (by omega)]
      exact ih
def tStepL (K : PySem.W.Frag) (te : TE) (tl tu ts : TO) : TE := fun σ H Q => te σ H fun x H1 => tl σ H1 fun l H2 => tu σ H2 fun u H3 => ts σ H3 fun o H4 =>
  ∃ (a : Addr) (xs : List V) (c : Int), x = .ref a ∧ o = some c ∧ c ≠ 0 ∧ SqL K H4 a xs ∧ ∀ p, H4 p = none → Q (.ref p) (upd H4 p (.lst (stepL xs l u c)))
def qStepL (K : PySem.W.Frag) (Q : VK) (x : V) (l u o : Option Int) : Hp → Prop := fun H4 => ∃ (a : Addr) (xs : List V) (c : Int), x = .ref a ∧ o = some c ∧ c ≠ 0 ∧ SqL K H4 a xs ∧ ∀ p, H4 p = none → Q (.ref p) (upd H4 p (.lst (stepL xs l u c)))
theorem stepL_le {α : Type} (xs : List α) (lo hi : Option Int) (c : Int) (ys : Array Value) (h : ys.size = xs.length) : (stepL xs lo hi c).length ≤ xs.length := by
  have e : (stepL xs lo hi c).length = (slicePick ys lo hi (some c)).size := by
    unfold stepL slicePick
    rw [h, List.size_toArray]
    have key : ∀ is : List Nat, (is.filterMap (xs[·]?)).length = (is.filterMap (ys[·]?)).length := fun is => by
      induction is with
      | nil => rfl
      | cons i is ih =>
        rw [List.filterMap_cons, List.filterMap_cons]
        by_cases hi : i < xs.length
        · rw [List.getElem?_eq_getElem hi, Array.getElem?_eq_getElem (by omega)]
          simp [ih]
        · rw [List.getElem?_eq_none (by omega), Array.getElem?_eq_none (by omega)]
          exact ih
    exact key _
  rw [e, ← h]
  exact slicePick_size_le ys lo hi (some c)
theorem pe_stepL {X : Cx} {K : PySem.W.Frag} {e st : Expr} {lo hi : Option Expr} {te : TE} {tl tu ts : TO} {p2 pos : Pos} (hK : X.K = K) (he : PE X e te) (hl : PO X lo tl) (hu : PO X hi tu) (hst : PO X (some st) ts) : PE X (.Subscript e (.Slice lo hi (some st) p2) pos) (tStepL K te tl tu ts) := by
  subst hK
  refine ⟨fun pins s σ H Q I h => ?_⟩
  refine PyProof.Rows.Subscript_ (thn (he.run pins s σ H _ I h) fun v s1 ⟨x, H1, I1, r1, q1⟩ => ?_)
  refine wpAny_Slice (thn (hl.run pins s1 σ H1 _ I1 q1) fun vl s2 ⟨l, H2, I2, pl, q2⟩ => thn (hu.run pins s2 σ H2 _ I2 q2) fun vu s3 ⟨u, H3, I3, pu, q3⟩ => ?_)
  refine thn (hst.run pins s3 σ H3 _ I3 q3) fun vs s4 ⟨o, H4, I4, ps, a, xs, c, ex, eo, h0, hx, q⟩ => ?_
  subst ex eo
  obtain rfl : v = Value.ref a := r1
  have I5 : Inv X pins σ H4 { s4 with heap := s4.heap.push { cls := .type "slice", data := .fields #[vl, vu, vs] } } := I4.kept (t' := s4.toks) fun b ob q => Heap.get?_push_of_some _ q
  obtain ⟨its, r, ht, hz⟩ := I5.list hx
  have hlen := r.length
  show wpAny (model X.prog X.w) X.A (PyProof.Rows.subscriptTail e (.Slice lo hi (some st) p2) (.ref a) (.ref s4.heap.objs.size)) (EP X pins σ Q) X.xe { s4 with heap := s4.heap.push { cls := .type "slice", data := .fields #[vl, vu, vs] } }
  refine PyProof.Rows.tail_any (ops := [.ref a, .ref s4.heap.objs.size]) ht.isList.typeIs (PySem.slot_list_getitem.lookup) ?_ (by with_unfolding_all rfl)
  refine wpAny_getItem_list_slice ht.isList (Heap.IsSliceOf.new _ vl vu vs) pl pu ps (fun z => h0 (Option.some.inj z)) ?_ (by rw [List.size_toArray]; omega)
  refine ⟨.ref _, _, I5.laid (t' := s4.toks) (o := .lst (stepL xs l u c)) (fun b ob q => Heap.get?_push_of_some _ q) (Nat.le_refl _) ?_, rfl, q _ (I5.hok.fresh (Nat.le_refl _))⟩
  have es : its.toArray.size = xs.length := by rw [List.size_toArray]; omega
  refine ⟨Nat.le_trans (stepL_le xs l u c its.toArray es) (by omega), (slicePick its.toArray l u (some c)).toList, 0, ?_, ?_⟩
  · unfold stepL slicePick
    rw [es]
    have := pd_pick r (sliceRange (sliceBounds l u (some c) xs.length).1 (sliceBounds l u (some c) xs.length).2.1 (sliceBounds l u (some c) xs.length).2.2)
    simpa using this
  · exact Heap.get?_push_size _ rfl
section
variable {α : Type} {t : Rp α} {K : PySem.W.Frag} {H F : Hp} {Q : VK} {p : Addr} {vs : List V} {xs : List α} {te : TE} {tl tu ts : TO} {σ : L2.St}
theorem n_stepL (h : te σ H fun x H1 => tl σ H1 fun l H2 => tu σ H2 fun u H3 => ts σ H3 fun o H4 => qStepL K Q x l u o H4) : tStepL K te tl tu ts σ H Q := h
theorem v_stepLF {lo hi : Option Int} {c : Int} (hs : Sub F H) (hq : SqL K H p vs) (hr : Al t F vs xs) (hc : decide (c ≠ 0) = true) (k : ∀ p' us F' H', Gr [] F H F' H' → F' p' = some (.lst us) → Al t F' us (stepL xs lo hi c) → Q (.ref p') H') : qStepL K Q (.ref p) lo hi (some c) H :=
  ⟨p, vs, c, rfl, rfl, of_decide_eq_true hc, hq, fun l hl => k l _ _ _ (gr_newF hs hl) upd_same (Al.mono (by
    unfold stepL
    rw [al_len hr]
    exact pd_pick hr _) (Sub.up1 (hs.nn hl)))⟩
theorem v_stepLM {lo hi : Option Int} {c : Int} (hs : Sub F H) (hq : SqL K H p vs) (hr : Al t F vs xs) (hc : decide (c ≠ 0) = true) (k : ∀ p' us H', H p' = none → Gr [] F H F H' → F p' = none → H' p' = some (.lst us) → Al t F us (stepL xs lo hi c) → Q (.ref p') H') : qStepL K Q (.ref p) lo hi (some c) H :=
  ⟨p, vs, c, rfl, rfl, of_decide_eq_true hc, hq, fun l hl => k l _ _ hl (gr_newM hs hl) (hs.nn hl) upd_same (by
    unfold stepL
    rw [al_len hr]
    exact pd_pick hr _)⟩
end
/-! ### list(range(..)) -/
theorem rgV_eq (a b : Int) : rgV a b = (upto a b).map V.int := by
  unfold rgV upto
  rw [List.map_map]; rfl
section
variable {K : PySem.W.Frag} {H F : Hp} {Q : VK} {i j : Int} {l : List Int} {ta tb : TE} {σ : L2.St}
def qLrg (a b : Int) (Q : VK) : Hp → Prop := fun H1 => RgOk a b ∧ ∀ q, H1 q = none → Q (.ref q) (upd H1 q (.lst (rgV a b)))
theorem n_lrg1 (h : ta σ H fun x H1 => ∃ n, x = .int n ∧ qLrg 0 n Q H1) : tLstRg (tRg1 ta) σ H Q := h
theorem n_lrg2 (h : ta σ H fun x H1 => tb σ H1 fun y H2 => ∃ i j, x = .int i ∧ y = .int j ∧ qLrg i j Q H2) : tLstRg (tRg2 ta tb) σ H Q := h
theorem lrg_ok (h : uptoM i j = some l) (hz : szB l.length = true) : RgOk i j ∧ upto i j = l := by
  obtain ⟨⟨h1, h2, h3, h4⟩, rfl⟩ := uptoM_ok h
  have := sz_ok hz
  rw [upto_len, sizeLine_eq] at this
  exact ⟨⟨h1, h2, h3, h4, this⟩, rfl⟩
theorem q_lrgF (hs : Sub F H) (h : uptoM i j = some l) (hz : szB l.length = true) (k : ∀ p' us F' H', Gr [] F H F' H' → F' p' = some (.lst us) → Al eI F' us l → Q (.ref p') H') : qLrg i j Q H := by
  obtain ⟨r, rfl⟩ := lrg_ok h hz
  exact ⟨r, fun p hp => k p _ _ _ (gr_newF hs hp) upd_same (by rw [rgV_eq]; exact al_ofint _)⟩
theorem q_lrgM (hs : Sub F H) (h : uptoM i j = some l) (hz : szB l.length = true) (k : ∀ p' us H', H p' = none → Gr [] F H F H' → F p' = none → H' p' = some (.lst us) → Al eI F us l → Q (.ref p') H') : qLrg i j Q H := by
  obtain ⟨r, rfl⟩ := lrg_ok h hz
  exact ⟨r, fun p hp => k p _ _ hp (gr_newM hs hp) (hs.nn hp) upd_same (by rw [rgV_eq]; exact al_ofint _)⟩
theorem v_lrg1F (hs : Sub F H) (h : uptoM 0 j = some l) (hz : szB l.length = true) (k : ∀ p' us F' H', Gr [] F H F' H' → F' p' = some (.lst us) → Al eI F' us l → Q (.ref p') H') : ∃ n, V.int j = .int n ∧ qLrg 0 n Q H := ⟨j, rfl, q_lrgF hs h hz k⟩
theorem v_lrg1M (hs : Sub F H) (h : uptoM 0 j = some l) (hz : szB l.length = true) (k : ∀ p' us H', H p' = none → Gr [] F H F H' → F p' = none → H' p' = some (.lst us) → Al eI F us l → Q (.ref p') H') : ∃ n, V.int j = .int n ∧ qLrg 0 n Q H := ⟨j, rfl, q_lrgM hs h hz k⟩
theorem v_lrg2F (hs : Sub F H) (h : uptoM i j = some l) (hz : szB l.length = true) (k : ∀ p' us F' H', Gr [] F H F' H' → F' p' = some (.lst us) → Al eI F' us l → Q (.ref p') H') : ∃ a b, V.int i = .int a ∧ V.int j = .int b ∧ qLrg a b Q H := ⟨i, j, rfl, rfl, q_lrgF hs h hz k⟩
theorem v_lrg2M (hs : Sub F H) (h : uptoM i j = some l) (hz : szB l.length = true) (k : ∀ p' us H', H p' = none → Gr [] F H F H' → F p' = none → H' p' = some (.lst us) → Al eI F us l → Q (.ref p') H') : ∃ a b, V.int i = .int a ∧ V.int j = .int b ∧ qLrg a b Q H := ⟨i, j, rfl, rfl, q_lrgM hs h hz k⟩
end
/-! ### a number in a tuple or list of numbers; a comprehension in a comprehension -/
theorem c_inQ {X : Cx} {K : PySem.W.Frag} (hK : X.K = K) : OpR X (compareOp .In) (rIn K false) := by subst hK; exact op_in_seq
theorem c_notInQ {X : Cx} {K : PySem.W.Frag} (hK : X.K = K) : OpR X (compareOp .NotIn) (rIn K true) := by subst hK; exact op_notIn_seq
theorem inV_int (a : Int) (xs : List Int) : inV (.int a) (xs.map V.int) = decide (a ∈ xs) := by
  unfold inV
  induction xs with
  | nil => rfl
  | cons x xs ih =>
    rw [List.map_cons, List.any_cons, ih]
    show ((x == a) || decide (a ∈ xs)) = decide (a ∈ x :: xs)
    rw [Bool.eq_iff_iff, Bool.or_eq_true, decide_eq_true_eq, decide_eq_true_eq, beq_iff_eq, List.mem_cons, eq_comm]
theorem flat_int (xs : List Int) : (xs.map V.int).all flatV = true := by
  rw [List.all_map, List.all_eq_true]
  intros; rfl
theorem v_inQ {K : PySem.W.Frag} {H F : Hp} {Q : VK} {p : Addr} {vs : List V} {xs : List Int} {a : Int} (hq : SqL K H p vs ∨ SqT K H p vs) (hr : Al eI F vs xs) (k : Q (.bl (decide (a ∈ xs))) H) : rIn K false (.int a) (.ref p) H Q := by
  have e := al_int hr
  subst e
  exact ⟨p, _, rfl, hq, rfl, flat_int xs, by rw [inV_int]; exact k⟩
theorem v_notInQ {K : PySem.W.Frag} {H F : Hp} {Q : VK} {p : Addr} {vs : List V} {xs : List Int} {a : Int} (hq : SqL K H p vs ∨ SqT K H p vs) (hr : Al eI F vs xs) (k : Q (.bl (!decide (a ∈ xs))) H) : rIn K true (.int a) (.ref p) H Q := by
  have e := al_int hr
  subst e
  exact ⟨p, _, rfl, hq, rfl, flat_int xs, by rw [inV_int]; exact k⟩
theorem relab_lookup (c : Str → NameKind → Bool) : ∀ (ns : List (Str × NameKind)) (x : Str), (ns.lookup x = some .cell ∨ ns.lookup x = some .free) →
    ((ns.map fun p => if c p.1 p.2 = true then (p.1, NameKind.cell) else (p.1, p.2)).lookup x = some .cell ∨ (ns.map fun p => if c p.1 p.2 = true then (p.1, NameKind.cell) else (p.1, p.2)).lookup x = some .free)
  | [], x, h => by simp at h
  | (n, k) :: r, x, h => by
    rw [List.map_cons]
    rw [List.lookup_cons] at h
    cases hx : x == n with
    | true =>
      rw [hx] at h
      cases hc : c n k with
      | true =>
        rw [if_pos rfl, List.lookup_cons, hx]
        exact .inl rfl
      | false =>
        rw [if_neg (by decide), List.lookup_cons, hx]
        exact h
    | false =>
      rw [hx] at h
      have ih := relab_lookup c r x h
      cases hc : c n k with
      | true =>
        rw [if_pos rfl, List.lookup_cons, hx]
        exact ih
      | false =>
        rw [if_neg (by decide), List.lookup_cons, hx]
        exact ih
theorem blk_in {N : List Str} {sc scope : Scope} {own : List (Str × Nat)} {cl : List (Str × Addr)} {C : Addr} {env : Env} (h : BlkOk N sc scope own) : BlkOk N (compEnvC sc cl C env).scope scope own :=
  ⟨h.kind, h.uniq, h.ix, fun y hy e => relab_lookup (fun n k => k == NameKind.free && env.scope.kind == .function && env.kindOf n == some .cell) sc.names y.1 (h.free y hy e), h.own⟩
/-! ### range downwards; a raise that is never reached -/
theorem st_no {X : Cx} {st : Stmt} : PS X st tNoS := ⟨fun _ _ _ _ _ _ h => h.elim⟩
def down (i j : Int) : List Int := (List.range (i - j).toNat).map fun k : Nat => i - (k : Int)
def downM (i j : Int) : Option (List Int) := need (rngB i && rngB j) (down i j)
theorem downM_ok {lo hi : Int} {l : List Int} (h : downM lo hi = some l) : (-(2 ^ 62) ≤ lo ∧ lo < 2 ^ 62 ∧ -(2 ^ 62) ≤ hi ∧ hi < 2 ^ 62) ∧ down lo hi = l := by
  obtain ⟨h1, h2⟩ := need_ok h
  unfold rngB at h1
  rw [Bool.and_eq_true] at h1
  have a := of_decide_eq_true h1.1
  have b := of_decide_eq_true h1.2
  exact ⟨⟨a.1, a.2, b.1, b.2⟩, h2⟩
section
variable {H : Hp} {σ : L2.St}
def qRng3 (R : RIt) : List V → Hp → Prop := fun vs H1 => ∃ (i j c : Int) (n : Nat), vs = [.int i, .int j, .int c] ∧ RgC i j c n ∧ R (Itc i c n) H1
theorem n_rng3 {ta : TA} {R : RIt} (h : ta σ H (qRng3 R)) : iRng3 ta σ H R := h
theorem v_rng3 {lo hi c : Int} {l : List Int} {R : It → Hp → Prop} (hc : c = -1) (h : downM lo hi = some l) (k : R (Itc lo (-1) (lo - hi).toNat) H) : qRng3 R [.int lo, .int hi, .int c] H := by
  subst hc
  obtain ⟨⟨h1, h2, h3, h4⟩, _⟩ := downM_ok h
  exact ⟨lo, hi, -1, _, rfl, RgC.neg h1 h2 h3 h4, k⟩
theorem sr_C {lo hi : Int} {l : List Int} (h : downM lo hi = some l) : Sr (Itc lo (-1) (lo - hi).toNat) (fun _ => True) l (fun H x H' a => H' = H ∧ x = .int a) := by
  rw [← (downM_ok h).2]
  have hl : (down lo hi).length = (lo - hi).toNat := by unfold down; rw [List.length_map, List.length_range]
  refine ⟨fun i H hi' _ => by rw [hl] at hi'; exact hi', fun H _ => by rw [hl]; exact Nat.le_refl _, fun i H x H' _ y a ha => ⟨y.1, ?_⟩⟩
  rw [y.2]
  unfold down at ha
  rw [List.getElem?_map] at ha
  cases e : (List.range (lo - hi).toNat)[i]? with
  | none => rw [e] at ha; cases ha
  | some j =>
    rw [e] at ha
    have e2 : lo - (j : Int) = a := Option.some.inj ha
    have e3 : j = i := by
      obtain ⟨h1, h2⟩ := List.getElem?_eq_some_iff.mp e
      rw [List.getElem_range] at h2; exact h2.symm
    subst e3
    congr 1
    omega
end
/-! ### tuples one behind the other; is True -/
section
variable {X : Cx} {K : PySem.W.Frag}
theorem c_catA (hK : X.K = K) : OpR X (binaryOp .Add) (rCatA K) := by subst hK; exact op_catA
end
theorem v_catA {α : Type} {t : Rp α} {K : PySem.W.Frag} {F H : Hp} {Q : VK} {p q : Addr} {vs us : List V} {xs ys zs : List α} (hs : Sub F H) (hp : F p = some (.tup vs)) (h1 : Al t F vs xs) (hq : F q = some (.tup us)) (h2 : Al t F us ys) (h : catLM xs ys = some zs)
    (k : ∀ v F' H', Gr [] F H F' H' → (eT t).r F' v zs → Q v H') : rCatA K (.ref p) (.ref q) H Q := by
  obtain ⟨hz, rfl⟩ := need_ok h
  have hz := sz_ok hz
  refine ⟨p, q, vs, us, rfl, rfl, .inl (.inl (hs _ _ hp)), .inl (.inl (hs _ _ hq)), by rw [al_len h1, al_len h2]; exact hz, fun e => ?_, fun _ e => ?_, fun _ _ l hl => ?_⟩
  · subst e
    cases h1
    exact k _ F H (Gr.refl hs) ⟨q, us, rfl, hq, h2⟩
  · subst e
    cases h2
    exact k _ F H (Gr.refl hs) ⟨p, vs, rfl, hp, by rw [List.append_nil]; exact h1⟩
  · exact k _ _ _ (gr_newF hs hl) ⟨l, vs ++ us, rfl, upd_same, Al.mono (pd_append h1 h2) (Sub.up1 (hs.nn hl))⟩
theorem v_isBl {H : Hp} {Q : VK} {a b : Bool} (k : Q (.bl (decide (a = b))) H) : rIsB (.bl a) (.bl b) H Q := ⟨a, b, rfl, rfl, k⟩
theorem v_notBl {H : Hp} {Q : VK} {a b : Bool} (k : Q (.bl (!decide (a = b))) H) : rNotB (.bl a) (.bl b) H Q := ⟨a, b, rfl, rfl, k⟩
end U
set_option Elab.async false
set_option linter.all false
set_option maxRecDepth 100000
set_option maxHeartbeats 4000000
namespace U
open PySem PySem.Spec L2
/-! ### a thing of one's own that stays as it is from here on (locked for good) -/
def qFreeze (Q : VK) : VK := fun x H1 => ∃ d u, x = .ref d ∧ H1 d = some u ∧ Mut (some u) ∧ ∀ o, Q x (upd H1 d (.frz o u))
def tFreeze (te : TE) : TE := fun σ H Q => te σ H (qFreeze Q)
theorem pe_freeze {X : Cx} {e : Expr} {te : TE} (he : PE X e te) : PE X e (tFreeze te) := by
  refine ⟨fun pins s σ H Q I h => ?_⟩
  refine thn (he.run pins s σ H _ I h) fun v s1 ⟨x, H1, I1, r1, d, u, ex, hd, mu, q⟩ => ?_
  obtain ⟨od, I2⟩ := I1.lock hd mu
  exact ⟨x, _, I2, r1, q od⟩
section
variable {W : List Addr} {F0 H0 F H : Hp} {p : Addr} {u : HO} {Q : VK} {σ : L2.St} {te : TE}
theorem n_freeze (h : te σ H (qFreeze Q)) : tFreeze te σ H Q := h
theorem v_freeze (g : Gr W F0 H0 F H) (m : Mu W H0 F H p u) (h0 : H0 p = none) (mu : Mut (some u))
    (k : ∀ o F' H', F' p = some (.frz o u) → Sub F F' → Gr W F0 H0 F' H' → (∀ q w, q ≠ p → Mu W H0 F H q w → Mu W H0 F' H' q w) → Q (.ref p) H') : qFreeze Q (.ref p) H := by
  refine ⟨p, u, rfl, m.hp, mu, fun o => k o (upd F p (.frz o u)) _ upd_same (Sub.up1 m.fr) ⟨g.ff.trans (Sub.up1 m.fr), fun a w e => ?_, fun a w hn e => ?_, fun a e => ?_, fun a e n => ?_⟩ fun q w ne m' => ⟨by rw [upd_ne ne]; exact m'.fr, by rw [upd_ne ne]; exact m'.hp, m'.own⟩⟩
  · by_cases z : a = p
    · subst z; rw [upd_same] at e ⊢; exact e
    · rw [upd_ne z] at e ⊢; exact g.fh a w e
  · have z : a ≠ p := fun z => by rw [z, h0] at e; cases e
    rw [upd_ne z]; exact g.hh a w hn e
  · by_cases z : a = p
    · subst z; exact absurd h0 e
    · rw [upd_ne z]; exact g.lv a e
  · rw [upd_ne (fun z => by rw [z] at e; exact e h0)]; exact g.out a e n
end
/-! ### a dict locked: read, walked, sorted -/
section
variable {α β : Type} {t : Rp α} {D : Dt t} {A : Ke D} {u : Rp β}
def eDL (A : Ke D) (u : Rp β) : Rp (List (α × β)) := ⟨fun F v x => ∃ p o kvs, v = .ref p ∧ F p = some (.frz o (.dK kvs)) ∧ Pr (dyK A) u F kvs x, fun s ⟨p, o, kvs, e, q, h⟩ => ⟨p, o, kvs, e, s _ _ q, h.mono s⟩⟩
variable [DecidableEq α] {F H : Hp} {p : Addr} {o : Obj} {kvs : List (Key × V)} {xs : List (α × β)} {y w : V} {a : α} {b : β} {Q : VK}
theorem v_dgetL (hs : Sub F H) (hp : F p = some (.frz o (.dK kvs))) (h : Pr (dyK A) u F kvs xs) (hk : t.r F y a) (e : lkp xs a = some b) (k : ∀ v, u.r F v b → Q v H) : qDGet y Q (.ref p) H := by
  obtain ⟨v, e2, r⟩ := pr_some (Y := dyK A) h e
  exact ⟨p, v, rfl, .inl ⟨kvs, A.k a, .inr ⟨o, hs _ _ hp⟩, A.r hk, e2.symm⟩, k v r⟩
theorem v_dinL (hs : Sub F H) (hp : F p = some (.frz o (.dK kvs))) (h : Pr (dyK A) u F kvs xs) (hk : t.r F y a) (k : Q (.bl (inD xs a)) H) : qDIn y Q (.ref p) H :=
  ⟨p, _, rfl, .inl ⟨kvs, A.k a, .inr ⟨o, hs _ _ hp⟩, A.r hk, rfl⟩, by have := pr_is (Y := dyK A) (a := a) h; rw [← this] at k; exact k⟩
theorem v_dnotinL (hs : Sub F H) (hp : F p = some (.frz o (.dK kvs))) (h : Pr (dyK A) u F kvs xs) (hk : t.r F y a) (k : Q (.bl (!inD xs a)) H) : qDNotIn y Q (.ref p) H :=
  ⟨p, _, rfl, .inl ⟨kvs, A.k a, .inr ⟨o, hs _ _ hp⟩, A.r hk, rfl⟩, by have := pr_is (Y := dyK A) (a := a) h; rw [← this] at k; exact k⟩
def qLenD : RCl := fun xs H Q => ∃ a kvs, xs = [V.ref a] ∧ Rd H a (.dK kvs) ∧ Q (.int kvs.length) H
theorem c_lenD {X : Cx} : CallR X (.builtin "len") qLenD := by
  intro pins s σ H xs us Q I r h
  obtain ⟨a, kvs, rfl, ha, q⟩ := h
  obtain ⟨u, rfl, ru⟩ := vals1 r
  cases ru
  exact d_len I ha fun t s' I' => ⟨.int kvs.length, H, I', ⟨t, rfl⟩, q⟩
theorem v_lenDL (hs : Sub F H) (hp : F p = some (.frz o (.dK kvs))) (h : Pr (dyK A) u F kvs xs) (k : Q (.int (xs.length : Int)) H) : qLenD [.ref p] H Q :=
  ⟨p, kvs, rfl, .inr ⟨o, hs _ _ hp⟩, by
    have e : (kvs : List (Key × V)).length = xs.length := pr_len (Y := dyK A) h
    rw [e]; exact k⟩
theorem v_lenDM (hp : H p = some (.dK kvs)) (h : Pr (dyK A) u F kvs xs) (k : Q (.int (xs.length : Int)) H) : qLenD [.ref p] H Q :=
  ⟨p, kvs, rfl, .inl hp, by
    have e : (kvs : List (Key × V)).length = xs.length := pr_len (Y := dyK A) h
    rw [e]; exact k⟩
end
section
variable {σ : L2.St} {F H : Hp} {p : Addr} {o : Obj} {kvs : List (Key × V)} {R : RIt} {td : TE} {β : Type} {u : Rp β}
def qKeys (R : RIt) : VK := fun x H1 => ∃ d o, x = .ref d ∧ ((∃ kvs, H1 d = some (.frz o (.dK kvs)) ∧ R (Itk d o kvs) H1) ∨ ∃ kvs, H1 d = some (.frz o (.dT kvs)) ∧ R (Itkt d o kvs) H1)
theorem n_keys (h : td σ H (qKeys R)) : iKeys td σ H R := h
theorem v_keys (hs : Sub F H) (hp : F p = some (.frz o (.dK kvs))) (k : R (Itk p o kvs) H) : qKeys R (.ref p) H := ⟨p, o, rfl, .inl ⟨kvs, hs _ _ hp, k⟩⟩
theorem sr_KS {xs : List (Sg × β)} (h : Pr (dyK keS) u F kvs xs) (hz : (xs.all fun x => szB x.1.length) = true) : Sr (Itk p o kvs) (fun H => H p = some (.frz o (.dK kvs))) (xs.map Prod.fst) (fun H x H' a => H' = H ∧ eS.r F x a) := by
  have hl : (kvs : List (Key × V)).length = xs.length := pr_len (Y := dyK keS) h
  refine ⟨fun i H hi g => ⟨g, by rw [List.length_map] at hi; show i < kvs.length; rw [hl]; exact hi⟩, fun H g => ⟨g, by rw [List.length_map, ← hl]; exact Nat.le_refl _⟩, fun i H x H' g y a ha => ⟨y.1, ?_⟩⟩
  obtain ⟨_, k, v, e1, e2⟩ := y
  rw [List.getElem?_map] at ha
  cases e : xs[i]? with
  | none => rw [e] at ha; cases ha
  | some z =>
    rw [e] at ha
    have ha : z.1 = a := Option.some.inj ha
    obtain ⟨kv, e3, r⟩ := pd_get h e
    have e4 : kv = (k, v) := Option.some.inj (e3.symm.trans e1)
    subst e4
    have r1 : k = Sum.inr (S z.1) := r.1
    rw [e2, r1, ← ha]
    exact ⟨rfl, sz_ok (List.all_eq_true.mp hz z (List.mem_of_getElem? e))⟩
theorem sr_KI {xs : List (Int × β)} (h : Pr (dyK keI) u F kvs xs) : Sr (Itk p o kvs) (fun H => H p = some (.frz o (.dK kvs))) (xs.map Prod.fst) (fun H x H' a => H' = H ∧ eI.r F x a) := by
  have hl : (kvs : List (Key × V)).length = xs.length := pr_len (Y := dyK keI) h
  refine ⟨fun i H hi g => ⟨g, by rw [List.length_map] at hi; show i < kvs.length; rw [hl]; exact hi⟩, fun H g => ⟨g, by rw [List.length_map, ← hl]; exact Nat.le_refl _⟩, fun i H x H' g y a ha => ⟨y.1, ?_⟩⟩
  obtain ⟨_, k, v, e1, e2⟩ := y
  rw [List.getElem?_map] at ha
  cases e : xs[i]? with
  | none => rw [e] at ha; cases ha
  | some z =>
    rw [e] at ha
    have ha : z.1 = a := Option.some.inj ha
    obtain ⟨kv, e3, r⟩ := pd_get h e
    have e4 : kv = (k, v) := Option.some.inj (e3.symm.trans e1)
    subst e4
    have r1 : k = Sum.inl z.1 := r.1
    rw [e2, r1, ← ha]
    exact rfl
end
/-- a new dict told -/
def NewD {α β : Type} {t : Rp α} (Y : Dy t) (u : Rp β) (H F' H' : Hp) (v : V) (x : List (α × β)) : Prop := ∃ p kvs, v = .ref p ∧ H p = none ∧ F' p = none ∧ H' p = some (Y.ho kvs) ∧ Pr Y u F' kvs x
/-- a told pair: what stays, and a new list -/
def NewP {α β : Type} (ta : Rp α) (tb : Rp β) (H F' H' : Hp) (v : V) (r : α × List β) : Prop := ∃ p q x vs, v = .ref p ∧ F' p = some (.tup [x, .ref q]) ∧ ta.r F' x r.1 ∧ H q = none ∧ F' q = none ∧ H' q = some (.lst vs) ∧ Al tb F' vs r.2
theorem v_ixRaw1 {K : PySem.W.Frag} {F H : Hp} {Q : VK} {p : Addr} {x y : V} (hs : Sub F H) (hq : F p = some (.tup [x, y])) (k : Q y H) : rIxT K (.ref p) (.int 1) H Q := ⟨p, _, 1, y, rfl, rfl, .inl (.inl (hs _ _ hq)), rfl, k⟩
end U
set_option Elab.async false
set_option linter.all false
set_option maxRecDepth 100000
set_option maxHeartbeats 4000000
namespace U
open PySem PySem.Spec L2 PySem.W PyProof.Rows
/-! ### sorted(d): the keys in order, however many -/
theorem each_flat {h : Heap} {a : Addr} : ∀ {ks : List Key} {us : List Value}, Vals (ks.map kV) us → EachIs (fun u (b : V × PyData) => ∃ as, Reads h u b.2 as ∧ a ∉ as) us ((ks.map kV).zip (ks.map datK))
  | [], _, .nil => .nil
  | .inl i :: ks, _, .cons r t => by
    obtain ⟨k, rfl⟩ := r
    exact .cons ⟨[], .int _ _, by simp⟩ (each_flat t)
  | .inr x :: ks, _, .cons r t => by
    obtain ⟨k, rfl⟩ := r
    exact .cons ⟨[], .str _ _, by simp⟩ (each_flat t)
def qSortD : RCl := fun xs H Q => ∃ (a : Addr) (kvs : List (Key × V)), xs = [V.ref a] ∧ Rd H a (.dK kvs) ∧ AllAlike (kvs.map fun kv => datK kv.1) ∧ Sortable (kvs.map fun kv => datK kv.1) ∧
  ∀ l, H l = none → Q (.ref l) (upd H l (.lst (srtV (kvs.map fun kv => kV kv.1) (kvs.map fun kv => datK kv.1))))
theorem c_sortedDL {X : Cx} {n : Nat} (hr : Room n X.A) (hcalm : X.calm = true) : CallR X (.builtin "sorted") qSortD := by
  intro pins s σ H xs us Q I r q
  obtain ⟨a, kvs, ex, hd, ha, hs, q⟩ := q
  subst ex
  obtain ⟨u, eu, rx⟩ := vals1 r
  subst eu
  cases rx
  obtain ⟨z, lo, vs, rel, dd⟩ := dk_rd I.hok hd
  obtain ⟨ep, hat⟩ := dd.dictAt
  have hl : kvs.length = vs.length := Paired.length rel
  have h16 : vs.length ≤ sizeLine := by omega
  refine Calls.call_function_entry PyProof.Rows.kind_sorted PyProof.Rows.plain_sorted PyProof.Rows.entry_sorted (PyProof.Rows.args_sorted1 _) ?_
  unfold Builtin.«sorted»
  refine wpAny_bind (m := checkCount "sorted" 1 1 _) (wpAny_pure ?_)
  refine wpAny_bind (PySem.W.kdu_collect (A := X.A.in1) (PySem.W.kdl_dict (knd := mixKind X.prog X.w) (kvs := vs) (ep := ep) lo) (I.ok.hd hcalm) hat h16 fun h' tk acc hk hacc => ?_)
  have hal : acc.toList.length = vs.length := by rw [Array.length_toList, hacc.1]
  have rv0 : Vals (vs.map fun p => kV p.1) acc.toList := keys_at hal fun j v e => hacc.2 j v (by rw [← Array.getElem?_toList]; exact e)
  have ek : (vs.map fun p => kV p.1) = (kvs.map (·.1)).map kV := by
    rw [rel.keys, List.map_map]; rfl
  have rv : Vals ((kvs.map (·.1)).map kV) acc.toList := by rw [← ek]; exact rv0
  have I1 : Inv X pins σ H { s with heap := h', toks := tk } := I.kept hk
  refine wpAny_bind (wpAny_newList ?_ (by rw [hal]; exact h16))
  have hoL : (h'.push (seqObj "list" acc.toList.toArray 0)).get? h'.objs.size = some (seqObj "list" acc.toList.toArray 0) := Heap.get?_push_size _ rfl
  show wpAny _ _ _ _ _ { s with heap := h'.push (seqObj "list" acc.toList.toArray 0), toks := tk }
  have e1 : ((kvs.map (·.1)).map kV) = kvs.map fun kv => kV kv.1 := by rw [List.map_map]; rfl
  have e2 : ((kvs.map (·.1)).map datK) = kvs.map fun kv => datK kv.1 := by rw [List.map_map]; rfl
  have hlen : ((kvs.map (·.1)).map kV).length = ((kvs.map (·.1)).map datK).length := by simp
  have es := map_snd_zip _ _ hlen
  refine wpAny_bind (wpAny_holding (PySem.W.list_sort_data (s := { s with heap := h'.push (seqObj "list" acc.toList.toArray 0), toks := tk }) (R := fun u (b : V × PyData) => RelV b.1 u) (enc := Prod.snd) (bs := ((kvs.map (·.1)).map kV).zip ((kvs.map (·.1)).map datK)) hoL (each_zip rv hlen) (each_flat rv)
    (by rw [es, e2]; exact ha) (by rw [es, e2]; exact hs) (by rw [List.length_zip]; simp; omega) (fun b hb => ?_) fun out ho eo => ?_))
  · have hb2 : b.2 ∈ ((kvs.map (·.1)).map datK) := (List.of_mem_zip (a := b.1) (b := b.2) hb).2
    obtain ⟨k, _, e⟩ := List.mem_map.mp hb2
    have hdp : b.2.depth ≤ 1 := by
      rw [← e]
      cases k <;> simp [datK, PyData.depth]
    have := hr.un
    show X.A.units + 1 + 1 + _ < _
    omega
  · obtain ⟨e', he'⟩ := PyProof.Rows.sortedHeap_at (vs := acc.toList) (out := out.toArray) hoL
    refine wpAny_pure ⟨_, rfl, .ref h'.objs.size, upd H h'.objs.size (.lst (srtV (kvs.map fun kv => kV kv.1) (kvs.map fun kv => datK kv.1))), I1.laid (t' := tk) (fun b u e => ?_) (Nat.le_refl _)
      (show ObjOk X.prog X.w _ _ _ (.lst _) from ⟨?_, out, e', ?_, he'⟩), rfl, q _ (I1.hok.fresh (Nat.le_refl _))⟩
    · have hb : b < h'.objs.size := Heap.lt_size e
      rw [PyProof.Rows.sortedHeap_old (Nat.ne_of_lt hb) (by rw [size_push']; exact Nat.lt_succ_of_lt hb)]
      exact Heap.get?_push_of_some _ e
    · unfold srtV
      rw [List.length_map, List.length_mergeSort, List.length_zip]
      simp
      omega
    · unfold srtV
      rw [← e1, ← e2]
      exact each_fst eo
section
variable {β : Type} {u : Rp β} {F H : Hp} {Q : VK} {p : Addr} {kvs : List (Key × V)} {xs : List (Sg × β)}
theorem keys_txt (h : Pr (dyK keS) u F kvs xs) : (xs.all fun x => szB x.1.length) = true → Al eS F (kvs.map fun kv => kV kv.1) (xs.map Prod.fst) ∧ (kvs.map fun kv => datK kv.1) = (xs.map Prod.fst).map dS.d := by
  induction h with
  | nil => exact fun _ => ⟨.nil, rfl⟩
  | @cons kv x kvs xs r t ih =>
    intro hz
    rw [List.all_cons, Bool.and_eq_true] at hz
    obtain ⟨i1, i2⟩ := ih hz.2
    have r1 : kv.1 = Sum.inr (S x.1) := r.1
    refine ⟨.cons ⟨by show kV kv.1 = V.str (S x.1); rw [r1]; rfl, sz_ok hz.1⟩ i1, ?_⟩
    rw [List.map_cons, List.map_cons, List.map_cons, i2, r1]
    rfl
theorem v_sortDF (hs : Sub F H) (hd : Rd H p (.dK kvs)) (h : Pr (dyK keS) u F kvs xs) (hz : (xs.all fun x => szB x.1.length) = true) (k : ∀ p' us F' H', Gr [] F H F' H' → F' p' = some (.lst us) → Al eS F' us (srtL ltS (xs.map Prod.fst)) → Q (.ref p') H') : qSortD [.ref p] H Q := by
  obtain ⟨e1, e2⟩ := keys_txt h hz
  refine ⟨p, kvs, rfl, hd, by rw [e2]; exact so_alike soS _, by rw [e2]; exact so_sortable soS _, fun l hl => k l _ _ _ (gr_newF hs hl) upd_same (Al.mono (by rw [e2]; exact al_sorted soS e1) (Sub.up1 (hs.nn hl)))⟩
theorem v_sortDM (hs : Sub F H) (hd : Rd H p (.dK kvs)) (h : Pr (dyK keS) u F kvs xs) (hz : (xs.all fun x => szB x.1.length) = true) (k : ∀ p' us H', H p' = none → Gr [] F H F H' → F p' = none → H' p' = some (.lst us) → Al eS F us (srtL ltS (xs.map Prod.fst)) → Q (.ref p') H') : qSortD [.ref p] H Q := by
  obtain ⟨e1, e2⟩ := keys_txt h hz
  refine ⟨p, kvs, rfl, hd, by rw [e2]; exact so_alike soS _, by rw [e2]; exact so_sortable soS _, fun l hl => k l _ _ hl (gr_newM hs hl) (hs.nn hl) upd_same (by rw [e2]; exact al_sorted soS e1)⟩
end
/-! ### len of a text that is there; lists of unlike things -/
theorem v_lenSO {F H : Hp} {Q : VK} {v : V} {x : Option Sg} {b : Sg} (hr : (eO eS).r F v x) (h : x = some b) (k : Q (.int b.length) H) : qLenS [v] H Q := by
  subst h
  obtain ⟨_, e, hl⟩ := hr
  subst e
  exact v_lenS hl k
theorem v_mkLy {F H : Hp} {Q : VK} {us : List V} (hs : Sub F H) (hz : szB us.length = true) (k : ∀ p F' H', Gr [] F H F' H' → F' p = some (.lst us) → Q (.ref p) H') : qNewL Q us H := ⟨sz_ok hz, fun p hp => k _ _ _ (gr_newF hs hp) upd_same⟩
/-! ### a dict display of one item; get with None -/
def qDisp1 (p : Addr) (x y : V) (Q : VK) : Hp → Prop := fun H2 => H2 p = some (.dK []) ∧ ∃ kvs : List (Key × V), [(x, y)] = kvs.map (fun kv => (kV kv.1, kv.2)) ∧ kvs.length ≤ 15 ∧ Q (.ref p) (upd H2 p (.dK (mergeK [] kvs)))
def qDispN (P : Addr → Hp → Prop) (H : Hp) : Prop := ∀ p, H p = none → P p (upd H p (.dK []))
theorem n_disp1 {tk tv : TE} {σ : L2.St} {H : Hp} {Q : VK} (h : qDispN (fun p H1 => tk σ H1 fun x H2 => tv σ H2 fun y H3 => qDisp1 p x y Q H3) H) : L2.tDisp [(tk, tv)] σ H Q := h
theorem v_dispN {P : Addr → Hp → Prop} {F H : Hp} (hs : Sub F H) (k : ∀ p H', H p = none → Gr [] F H F H' → F p = none → H' p = some (.dK []) → P p H') : qDispN P H := fun p hp => k p _ hp (gr_newM hs hp) (hs.nn hp) upd_same
theorem v_disp1 {α : Type} {t : Rp α} {D : Dt t} {A : Ke D} {F H : Hp} {Q : VK} {p : Addr} {x y : V} {a : α} (hp : H p = some (.dK [])) (hk : t.r F x a) (k : Q (.ref p) (upd H p ((dyK A).ho (@putK _ (dyK A).dec [] ((dyK A).k a) y)))) : qDisp1 p x y Q H :=
  ⟨hp, [(A.k a, y)], by rw [A.r hk]; rfl, (by simp), k⟩
theorem v_dget2N {α : Type} {t : Rp α} {Y : Dy t} [DecidableEq α] {F H : Hp} {p : Addr} {kvs : List (Y.κ × V)} {xs : List (α × Int)} {y : V} {a : α} {Q : VK} (hs : Sub F H) (hp : H p = some (Y.ho kvs)) (h : Pr Y eI F kvs xs) (hk : t.r F y a) (k : ∀ v, (eO eI).r F v (lkp xs a) → Q v H) : qDGet2 y .non Q p H := by
  refine ⟨_, Y.get hs hp hk, ?_⟩
  cases e : lkp xs a with
  | none => rw [pr_none h e]; rw [e] at k; exact k _ rfl
  | some c =>
    obtain ⟨v, e2, r⟩ := pr_some h e
    rw [e2]; rw [e] at k
    have r1 : v = .int c := r
    exact k v ⟨(by rw [r1]; exact fun z => nomatch z), r⟩
end U
set_option Elab.async false
set_option linter.all false
set_option maxRecDepth 100000
set_option maxHeartbeats 4000000
namespace U
open PySem PySem.Spec L2 PySem.W PyProof.Rows
/-! ### len(set(xs)) -/
def qLenSet (K : PySem.W.Frag) {κ : Type} (R : Hp → V → κ → Prop) (most : Nat) : RCl := fun xs H Q => ∃ (p : Addr) (ks : List (κ × V)), xs = [V.ref p] ∧ SqL K H p (ks.map Prod.snd) ∧ (∀ x ∈ ks, R H x.2 x.1) ∧ ks.length ≤ most ∧
  ∀ L : List κ, L.Nodup → (∀ k, k ∈ L ↔ k ∈ ks.map Prod.fst) → Q (.int (L.length : Int)) H
section
variable {X : Cx} {e : Expr} {ta : TA} {p1 p2 q1 pos : Pos}
theorem pe_lenSetD {n : Nat} (D : Ekd X.prog X.w) {R : Hp → V → D.κ → Prop} (hR : RelD X D R) (hr : Room n X.A) (hg : Gl X "len") (hm : X.mg "len" = none) (hg2 : Gl X "set") (hm2 : X.mg "set" = none) (ha : PA X [e] ta)
    (he : starEach [e] X.env = [(false, eval e X.env)] := by rfl) : PE X (.Call (.Name "len" p1) [.Call (.Name "set" p2) [e] [] q1] [] pos) (tCB (qLenSet X.K R D.most) ta) := by
  refine ⟨fun pins s σ H Q I h => ?_⟩
  refine Call_ (ld_blt I hg hm bo_len ?_)
  refine PyProof.Rows.callWith_builtin1 (PyProof.Rows.args_cons ?_ rfl) rfl rfl
  refine Call_ (ld_blt I hg2 hm2 bo_set ?_)
  refine PyProof.Rows.callWith_type1 (thn (ha.run q1 pins s σ H _ I h) fun us s1 ⟨vs, H1, I1, r1, z⟩ => ?_) he rfl
  obtain ⟨p, ks, rfl, sq, rel, few, z⟩ := z
  obtain ⟨u, rfl, ru⟩ := vals1 r1
  obtain rfl : u = Value.ref p := ru
  obtain ⟨its, rv, pl, hz⟩ := I1.list sq
  obtain ⟨zs, rfl, rfl, hzs⟩ := zip_rel rv
  let f : (D.κ × V) × Value → D.κ × Value := fun z => (z.1.1, z.2)
  have un := hr.un
  have bd := D.bound
  refine set_made (D := D) (zs.map f) hr.hd pl.isList (by rw [List.map_map]; rfl) (fun q hq => ?_) (by rw [List.length_map] at few ⊢; exact few) (by omega) fun g tk L es ep t ok got kp => ?_
  · obtain ⟨y, hy, rfl⟩ := List.mem_map.mp hq
    exact hR pins σ H1 s1 y.1.2 y.2 y.1.1 I1 (rel y.1 (List.mem_map.mpr ⟨y, hy, rfl⟩)) (hzs y hy)
  refine PyProof.Rows.args_nil ?_
  obtain ⟨o, go, ex, da⟩ := D.ob ok
  have few2 := D.few ok
  have esz : es.size = L.length := by
    have := congrArg List.length (D.row ok)
    rw [List.length_map, List.length_map, Array.length_toList] at this
    exact this
  have I2 : Inv X pins σ H1 { s1 with heap := g, toks := tk } := I1.kept kp
  refine call_len_set go ex da (D.fits ok) (by rw [esz]; omega) ⟨.int es.size, H1, I2.tok _, ⟨_, rfl⟩, ?_⟩
  have := z (L.map Prod.fst) (D.nd ok) fun k => ?_
  · rw [List.length_map] at this
    rw [esz]; exact this
  · rw [List.map_map]
    have got2 := got.all
    rw [List.take_length] at got2
    constructor
    · intro h
      obtain ⟨q, hq, rfl⟩ := List.mem_map.mp h
      obtain ⟨y, hy, e⟩ := List.mem_map.mp (List.mem_of_mem_take (got.sub q hq))
      rw [← e]
      exact List.mem_map.mpr ⟨y, hy, rfl⟩
    · intro h
      obtain ⟨y, hy, rfl⟩ := List.mem_map.mp h
      exact got2 (f y) (List.mem_map.mpr ⟨y, hy, rfl⟩)
variable {n : Nat} {K : PySem.W.Frag}
theorem pe_lenSetK (hK : X.K = K) (hr : Room n X.A) (hg : Gl X "len") (hm : X.mg "len" = none) (hg2 : Gl X "set") (hm2 : X.mg "set" = none) (ha : PA X [e] ta) (he : starEach [e] X.env = [(false, eval e X.env)] := by rfl) :
    PE X (.Call (.Name "len" p1) [.Call (.Name "set" p2) [e] [] q1] [] pos) (tCB (qLenSet K RK 3999) ta) := by
  subst hK; exact pe_lenSetD (ekKey X.prog X.w) relK hr hg hm hg2 hm2 ha he
end
section
variable {α : Type} [DecidableEq α] {t : Rp α} {D : Dt t} {K : PySem.W.Frag} {F H : Hp} {p : Addr} {vs : List V} {xs : List α} {Q : VK}
theorem v_lenSet (A : Ke D) (hs : Sub F H) (hq : SqL K H p vs) (hr : Al t F vs xs) (hb : ssetB 3999 xs = true) (k : Q (.int ((uq xs).length : Int)) H) : qLenSet K RK 3999 [.ref p] H Q := by
  obtain ⟨e1, e2, e3⟩ := zip_parts hr
  have inj : ∀ x y : α, A.k x = A.k y → x = y := fun x y e => by
    have e2 : D.d x = D.d y := by rw [A.d, A.d, e]
    exact (D.eqv x y).mp (by rw [← e2]; exact (D.eqv x x).mpr rfl)
  refine ⟨p, (vs.zip xs).map fun z => (A.k z.2, z.1), rfl, ?_, fun x hx => ?_, ?_, fun L nd mem => ?_⟩
  · rw [List.map_map]
    show SqL K H p ((vs.zip xs).map Prod.fst)
    rw [e1]; exact hq
  · obtain ⟨z, hz, rfl⟩ := List.mem_map.mp hx
    exact A.r (e3 z hz)
  · have := of_decide_eq_true hb
    rw [List.length_map, List.length_zip]; omega
  · have ek : ((vs.zip xs).map fun z => (A.k z.2, z.1)).map Prod.fst = xs.map A.k := by
      rw [List.map_map]
      conv => rhs; rw [← e2]
      rw [List.map_map]; rfl
    rw [ek] at mem
    have nd2 : ((uq xs).map A.k).Nodup := List.pairwise_map.mpr ((uq_nodup xs).imp fun h e => h (inj _ _ e))
    have pm : L.Perm ((uq xs).map A.k) := (List.perm_ext_iff_of_nodup nd nd2).mpr fun a => by
      rw [mem, List.mem_map, List.mem_map]
      exact ⟨fun ⟨x, h, e⟩ => ⟨x, mem_uq.mpr h, e⟩, fun ⟨x, h, e⟩ => ⟨x, mem_uq.mp h, e⟩⟩
    rw [pm.length_eq, List.length_map]
    exact k
end
section
variable {α : Type} [DecidableEq α] {t : Rp α} {K : PySem.W.Frag} {H F : Hp} {Q : VK} {p : Addr} {vs : List V} {xs : List α} {a : α} {v w : V} {d e : PyData}
theorem v_inDi [i : Decidable (a ∈ xs)] (D : Dt t) (h1 : Dp K H v (D.d a)) (h2 : Dp K H w (.list (xs.map D.d))) (hb : eqB (D.d a) (.list (xs.map D.d)) = true) (k : Q (.bl (@decide (a ∈ xs) i)) H) : rInD K v w H Q :=
  v_inD D h1 h2 hb (Eq.mp (congrArg (fun j => Q (.bl (@decide (a ∈ xs) j)) H) (Subsingleton.elim i _)) k)
theorem v_notInDi [i : Decidable (a ∈ xs)] (D : Dt t) (h1 : Dp K H v (D.d a)) (h2 : Dp K H w (.list (xs.map D.d))) (hb : eqB (D.d a) (.list (xs.map D.d)) = true) (k : Q (.bl (!@decide (a ∈ xs) i)) H) : rNotInD K v w H Q :=
  v_notInD D h1 h2 hb (Eq.mp (congrArg (fun j => Q (.bl (!@decide (a ∈ xs) j)) H) (Subsingleton.elim i _)) k)
end
end U
set_option Elab.async false
set_option linter.all false
set_option maxRecDepth 100000
set_option maxHeartbeats 4000000
/-! ### list(zip(xs, ys)) of two lists -/
namespace U
open PySem PySem.Calls PyProof.Rows PyProof.V PySem.Spec PySem.W
open PySem.W (kdx_alive)
/-- new pairs drawn one by one, each stays -/
structure TuS (prog : Program) (w : World) (A : Around) (I S : Addr) (wr : List Addr) (n : Nat) (Rel : Nat → Value → Value → Prop) (St : Nat → Heap → Prop) : Prop where
  off : ∀ b ∈ wr, b < S
  self : I < S
  frame : ∀ i h h', St i h → (∀ b o, b ≠ S → h.get? b = some o → h'.get? b = some o) → St i h'
  item : ∀ i (s : Shared) (Q : Option Value → Shared → Prop) (E : Value → Shared → Prop), i < n → St i s.heap → S < s.heap.objs.size →
    (∀ k v h', Rel i k v → h'.get? s.heap.objs.size = some { cls := .type "tuple", data := .seq #[k, v] } → St (i + 1) h' → (∀ b o, b ∉ wr → s.heap.get? b = some o → h'.get? b = some o) → Q (some (.ref s.heap.objs.size)) { s with heap := h' }) → wpAny (model prog w) A (pyNext (.ref I)) Q E s
  done : ∀ (s : Shared) (Q : Option Value → Shared → Prop) (E : Value → Shared → Prop), St n s.heap →
    (∀ h', (∀ b o, b ∉ wr → s.heap.get? b = some o → h'.get? b = some o) → Q none { s with heap := h' }) → wpAny (model prog w) A (pyNext (.ref I)) Q E s
structure TuG (n : Nat) (Rel : Nat → Value → Value → Prop) (lo : Addr) (h : Heap) (as : List Addr) : Prop where
  rise : as.Pairwise (· < ·)
  above : ∀ a ∈ as, lo < a
  pairs : ∀ (j : Nat) (a : Addr), as[j]? = some a → ∃ k v, Rel j k v ∧ h.get? a = some { cls := .type "tuple", data := .seq #[k, v] }
section
variable {prog : Program} {w : World} {A : Around} {s : Shared} {R : Result → Shared → Prop} {n : Nat} {Rel : Nat → Value → Value → Prop} {St : Nat → Heap → Prop} {wr : List Addr}
theorem TuG.there {lo : Addr} {h : Heap} {as : List Addr} (g : TuG n Rel lo h as) {a : Addr} (ha : a ∈ as) : a < h.objs.size := by
  obtain ⟨j, hj⟩ := List.mem_iff_getElem?.mp ha
  obtain ⟨_, _, _, e⟩ := g.pairs j a hj
  exact Heap.lt_size e
theorem tu_loop {S I : Addr} (W : TuS prog w A.in1 I S wr n Rel St) (hn : n ≤ sizeLine) (res : Value) {h₁ : Heap}
    (hR : ∀ h' tk acc c as, (∀ b o, b ≠ S → b ∉ wr → h₁.get? b = some o → h'.get? b = some o) → h'.get? S = some { cls := .type "list", dict := none, data := .seq acc c, slots := #[] } → as.length = n → TuG n Rel S h' as →
      acc.toList = as.map Value.ref → R (.ok (.ret res)) { s with heap := h', toks := tk }) :
    ∀ (k i : Nat) (h : Heap) (tk c : Nat) (acc : Array Value) (as : List Addr), n - i = k → i ≤ n → St i h → (∀ b o, b ≠ S → b ∉ wr → h₁.get? b = some o → h.get? b = some o) →
      h.get? S = some { cls := .type "list", dict := none, data := .seq acc c, slots := #[] } → acc.toList = as.map Value.ref → as.length = i → TuG n Rel S h as →
      codeAny (model prog w) A (.builtin "list.extend.loop" ⟨[.ref S, .ref I, res], []⟩) R { s with heap := h, toks := tk } := by
  have offS : ∀ b ∈ wr, S ≠ b := fun b hb => Nat.ne_of_gt (W.off b hb)
  have offT : ∀ a, S < a → a ∉ wr := fun a ha hb => Nat.lt_asymm ha (W.off a hb)
  have Sn : S ∉ wr := fun hb => Nat.lt_irrefl _ (W.off S hb)
  intro k
  induction k with
  | zero =>
    intro i h tk c acc as hk hi hst hkeep hS hacc hal hG
    have hin : i = n := by omega
    subst hin
    refine codeAny_builtin PySem.F.entry_extend_loop ?_
    rw [Around.under_plainId PySem.F.plain_extend_loop _]
    show wpAny _ A.in1 (pyNext (.ref I) >>= _) _ _ _
    refine wpAny_bind (W.done { s with heap := h, toks := tk } _ _ hst fun h' he => ?_)
    refine wpAny_pure (hR h' tk acc c as (fun b o h1 h2 e => he b o h2 (hkeep b o h1 h2 e)) (he S _ Sn hS) hal ⟨hG.rise, hG.above, fun j a hj => ?_⟩ hacc)
    obtain ⟨k, v, r, e3⟩ := hG.pairs j a hj
    exact ⟨k, v, r, he a _ (offT a (hG.above a (List.mem_of_getElem? hj))) e3⟩
  | succ k ih =>
    intro i h tk c acc as hk hi hst hkeep hS hacc hal hG
    have hlt : i < n := by omega
    have hsz : acc.size = i := by rw [← Array.length_toList, hacc, List.length_map, hal]
    have hSl : S < h.objs.size := Heap.lt_size hS
    refine codeAny_builtin PySem.F.entry_extend_loop ?_
    rw [Around.under_plainId PySem.F.plain_extend_loop _]
    show wpAny _ A.in1 (pyNext (.ref I) >>= _) _ _ _
    refine wpAny_bind (W.item i { s with heap := h, toks := tk } _ _ hlt hst hSl fun kk vv h' hrel ht hst' hkp => ?_)
    dsimp only at ht hkp ⊢
    have hS' := hkp S _ Sn hS
    have up : ∀ b o, b ≠ S → h'.get? b = some o → (h'.update S (Obj.mapSeq (·.push (Value.ref h.objs.size)))).get? b = some o := fun b o hb e => (Heap.get?_update_other _ _ (Ne.symm hb)).trans e
    show wpAny _ A.in1 (updateSeq S (·.push (Value.ref h.objs.size)) >>= _) _ _ _
    refine wpAny_bind ?_
    refine wpAny_updateSeq hS' rfl (wpAny_pure ⟨plainId_quiet PySem.F.plain_extend_loop _, ih (i + 1) _ tk _ (acc.push (Value.ref h.objs.size)) (as ++ [h.objs.size]) (by omega) hlt (W.frame (i + 1) _ _ hst' up)
      (fun b o h1 h2 e => up b o h1 (hkp b o h2 (hkeep b o h1 h2 e))) (Heap.get?_update_self _ hS' rfl) (by rw [Array.toList_push, hacc, List.map_append]; rfl) (by rw [List.length_append, hal]; rfl) ⟨?_, ?_, ?_⟩⟩) (by rw [hsz]; omega) (by show (acc.push (Value.ref h.objs.size)).size ≤ sizeLine + 1; rw [Array.size_push, hsz]; omega)
    · refine List.pairwise_append.mpr ⟨hG.rise, List.pairwise_singleton _ _, fun a ha b hb => ?_⟩
      rw [List.mem_singleton.mp hb]
      exact hG.there ha
    · intro a ha
      rcases List.mem_append.mp ha with ha | ha
      · exact hG.above a ha
      · rw [List.mem_singleton.mp ha]; exact hSl
    · intro j b hj
      rcases Nat.lt_trichotomy j as.length with h1 | h1 | h1
      · rw [List.getElem?_append_left h1] at hj
        obtain ⟨k, v, r, e3⟩ := hG.pairs j b hj
        have hb := hG.above b (List.mem_of_getElem? hj)
        exact ⟨k, v, r, up b _ (Nat.ne_of_gt hb) (hkp b _ (offT b hb) e3)⟩
      · subst h1
        have hb : h.objs.size = b := by simpa using hj
        subst hb
        exact ⟨kk, vv, by subst hal; exact hrel, up _ _ (Nat.ne_of_gt hSl) ht⟩
      · have hnone : (as ++ [h.objs.size])[j]? = none := List.getElem?_eq_none (by rw [List.length_append, List.length_singleton]; omega)
        rw [hnone] at hj; cases hj
end
theorem zip_no_len : typeLookup (.type "zip") "__len__" = pure none := by rw [typeLookup_type, builtinLookup_eq_fast]; kernel_rfl
theorem zip_no_hint : typeLookup (.type "zip") "__length_hint__" = pure none := by rw [typeLookup_type, builtinLookup_eq_fast]; kernel_rfl
section
variable {prog : Program} {w : World} {A : Around} {s : Shared} {n : Nat} {Rel : Nat → Value → Value → Prop} {St : Nat → Heap → Prop} {wr : List Addr}
theorem tu_extend {R : Result → Shared → Prop} {S I : Addr} (W : TuS prog w A.in1 I S wr n Rel St) (hn : n ≤ sizeLine) (hty : ∀ i h, St i h → ∃ o, h.get? I = some o ∧ o.cls = .type "zip") (hself : ∀ (s : Shared) (Q : Value → Shared → Prop) (E : Value → Shared → Prop), St 0 s.heap → Q (.ref I) s → wpAny (model prog w) A.in1 (pyIter (.ref I)) Q E s)
    (st : St 0 s.heap) (res : Value) (c₀ : Nat) (hS : s.heap.get? S = some { cls := .type "list", data := .seq #[] c₀ })
    (hR : ∀ h' tk acc c as, (∀ b o, b ≠ S → b ∉ wr → s.heap.get? b = some o → h'.get? b = some o) → h'.get? S = some { cls := .type "list", dict := none, data := .seq acc c, slots := #[] } → as.length = n → TuG n Rel S h' as →
      acc.toList = as.map Value.ref → R (.ok (.ret res)) { s with heap := h', toks := tk }) :
    wpAny (model prog w) A.in1 (Builtin.List.listExtendWith (.ref S) (.ref I) res)
      (fun fin s' => match fin with | .done f => R (.ok f) s' | .again c' => c'.quiet = true ∧ codeAny (model prog w) A c' R s') (fun e s' => R (.error e) s') s := by
  have hSI : S ≠ I := Nat.ne_of_gt W.self
  have hT : s.TypeIs (.ref I) "zip" := hty 0 _ st
  unfold Builtin.List.listExtendWith
  refine wpAny_bind (wpAny_typeOf (T := "zip") hT ?_)
  have h1 : Builtin.List.listSameRef (.ref S) (.ref I) = false := by simp [Builtin.List.listSameRef, hSI]
  have h2 : (Value.type "zip" == Value.type "list") = false := by decide
  have h3 : (Value.type "zip" == Value.type "tuple") = false := by decide
  simp only [h1, h2, h3, Bool.or_false, Bool.false_eq_true, if_false]
  refine wpAny_bind (hself _ _ _ st ?_)
  refine wpAny_bind (wpAny_holding ?_)
  unfold Builtin.List.listLengthHint
  refine wpAny_bind (wpAny_specialOf hT zip_no_len ?_)
  show wpAny _ A.in1 (specialOf (Value.ref I) (Str.ofString "__length_hint__") >>= _) _ _ _
  refine wpAny_bind (wpAny_specialOf hT zip_no_hint ?_)
  refine wpAny_pure ?_
  show wpAny _ A.in1 (rule "list.extend.makes-room" >>= fun _ => Builtin.List.listTouch (.ref S) >>= fun _ =>
    again (.builtin "list.extend.loop" ⟨[.ref S, .ref I, res], []⟩)) _ _ _
  refine wpAny_bind (wpAny_rule ?_)
  refine wpAny_bind ?_
  show wpAny _ A.in1 (updateSeq S (·.push .none) >>= fun _ => updateSeq S (·.pop)) _ _ _
  refine wpAny_bind (wpAny_updateSeq hS rfl ?_)
  have hS₂ := Heap.get?_update_self (Obj.mapSeq (·.push Value.none)) hS rfl
  refine wpAny_updateSeq (hz := by seq_fits) hS₂ rfl ?_
  have hS₃ := Heap.get?_update_self (Obj.mapSeq (·.pop)) hS₂ rfl
  have oth : ∀ b o, b ≠ S → s.heap.get? b = some o → ((s.heap.update S (Obj.mapSeq (·.push Value.none))).update S (Obj.mapSeq (·.pop))).get? b = some o :=
    fun b o hb e => (Heap.get?_update_other _ _ (Ne.symm hb)).trans ((Heap.get?_update_other _ _ (Ne.symm hb)).trans e)
  refine wpAny_pure ⟨plainId_quiet PySem.F.plain_extend_loop _, ?_⟩
  refine tu_loop (s := s) (h₁ := s.heap) W hn res hR n 0 _ s.toks _ _ [] (Nat.sub_zero _) (Nat.zero_le _) (W.frame 0 _ _ st oth) (fun b o hb _ e => oth b o hb e) hS₃ rfl rfl ⟨List.Pairwise.nil, (fun _ ha => nomatch ha), (fun j a hj => by simp at hj)⟩
theorem tu_init {R : Result → Shared → Prop} {S I : Addr} (W : TuS prog w A.in1 I S wr n Rel St) (hn : n ≤ sizeLine) (hty : ∀ i h, St i h → ∃ o, h.get? I = some o ∧ o.cls = .type "zip") (hself : ∀ (s : Shared) (Q : Value → Shared → Prop) (E : Value → Shared → Prop), St 0 s.heap → Q (.ref I) s → wpAny (model prog w) A.in1 (pyIter (.ref I)) Q E s)
    (st : St 0 s.heap) (hS : s.heap.get? S = some { cls := .type "list", data := .seq #[] })
    (hR : ∀ h' tk acc c as, (∀ b o, b ≠ S → b ∉ wr → s.heap.get? b = some o → h'.get? b = some o) → h'.get? S = some { cls := .type "list", dict := none, data := .seq acc c, slots := #[] } → as.length = n → TuG n Rel S h' as →
      acc.toList = as.map Value.ref → R (.ok (.ret .none)) { s with heap := h', toks := tk }) :
    wpAny (model prog w) A.in1 (Builtin.«list.__init__» ⟨[.ref S, .ref I], []⟩)
      (fun fin s' => match fin with | .done f => R (.ok f) s' | .again c' => c'.quiet = true ∧ codeAny (model prog w) A c' R s') (fun e s' => R (.error e) s') s := by
  show wpAny _ _ (do let old ← Builtin.List.listItems (.ref S); Builtin.List.listUpdate (.ref S) (fun _ => #[]); letGo old.toList.reverse; Builtin.List.listExtendWith (.ref S) (.ref I) .none) _ _ s
  refine wpAny_bind ?_
  unfold Builtin.List.listItems
  refine wpAny_bind (wpAny_seqItems hS rfl (wpAny_pure ?_))
  show wpAny _ _ (updateSeq S (fun _ => #[]) >>= fun _ => letGo (#[] : Array Value).toList.reverse >>= fun _ => Builtin.List.listExtendWith (.ref S) (.ref I) .none) _ _ s
  refine wpAny_bind (wpAny_updateSeq hS rfl ?_)
  have hS₂ := Heap.get?_update_self (Obj.mapSeq (fun _ => (#[] : Array Value))) hS rfl
  have oth : ∀ b o, b ≠ S → s.heap.get? b = some o → (s.heap.update S (Obj.mapSeq (fun _ => (#[] : Array Value)))).get? b = some o :=
    fun b o hb e => (Heap.get?_update_other _ _ (Ne.symm hb)).trans e
  refine wpAny_bind (wpAny_letGo ?_)
  exact tu_extend W hn hty hself (W.frame 0 _ _ st oth) .none _ hS₂ fun h' tk acc c as hk hS' hl hG hacc => hR h' tk acc c as (fun b o hb hw e => hk b o hb hw (oth b o hb e)) hS' hl hG hacc
theorem tu_call {E : Value → Shared → Prop} {Q : Value → Shared → Prop} {I : Addr} (W : TuS prog w A.in1.in1 I s.heap.objs.size wr n Rel St) (hn : n ≤ sizeLine) (hty : ∀ i h, St i h → ∃ o, h.get? I = some o ∧ o.cls = .type "zip") (hself : ∀ (s : Shared) (Q : Value → Shared → Prop) (E : Value → Shared → Prop), St 0 s.heap → Q (.ref I) s → wpAny (model prog w) A.in1.in1 (pyIter (.ref I)) Q E s)
    (st : St 0 s.heap)
    (hQ : ∀ h' tk acc c as, (∀ b o, b ∉ wr → s.heap.get? b = some o → h'.get? b = some o) → h'.get? s.heap.objs.size = some { cls := .type "list", dict := none, data := .seq acc c, slots := #[] } → as.length = n → TuG n Rel s.heap.objs.size h' as →
      acc.toList = as.map Value.ref → Q (.ref s.heap.objs.size) { s with heap := h', toks := tk }) :
    wpAny (model prog w) A (call (.type "list") [.ref I]) Q E s := by
  refine callType_codes (Q₁ := fun obj s₁ => obj = .ref s.heap.objs.size ∧ s₁ = { s with heap := s.heap.push { cls := .type "list", data := .seq #[] } }) PySem.F.called_list (PySem.F.typeCall_list_1 _) PySem.F.entry_list_init
    (code_list_new _ ⟨rfl, rfl⟩) fun obj s₁ h₁ => ?_
  obtain ⟨rfl, rfl⟩ := h₁
  have hS : (s.heap.push { cls := .type "list", data := .seq #[] }).get? s.heap.objs.size = some { cls := .type "list", data := .seq #[] } := Heap.get?_push_size _ rfl
  refine ⟨⟨_, hS, rfl⟩, PySem.F.args_list_init_2 _ _, tu_init (A := A.in1) (s := { s with heap := s.heap.push { cls := .type "list", data := .seq #[] } }) W hn hty hself (W.frame 0 _ _ st fun b o _ e => Heap.get?_push_of_some _ e) hS fun h' tk acc c as hk hS' hl hG hacc => ?_⟩
  exact ⟨rfl, hQ h' tk acc c as (fun b o hw e => hk b o (Nat.ne_of_lt (Heap.lt_size e)) hw (Heap.get?_push_of_some _ e)) hS' hl hG hacc⟩
theorem tus_zip (hA : A.handled = none) {z TI TO i1 i2 l1 l2 S : Addr} (D : ZipApart z TI TO i1 i2 l1 l2) (xs ys : Array Value) (z1 : z < S) (z2 : TI < S) (z3 : TO < S) (z4 : i1 < S) (z5 : i2 < S) (z6 : l1 < S) (z7 : l2 < S) :
    TuS prog w A z S [z, TO, i1, i2] (min xs.size ys.size) (fun i k v => xs[i]? = some k ∧ ys[i]? = some v)
      (fun i h => IsPair h TI (.ref i1) (.ref i2) ∧ h.IsListIter i1 l1 i ∧ h.IsListIter i2 l2 i ∧ h.IsList l1 xs ∧ h.IsList l2 ys ∧
      ((IsZip h z TI TO .none ∧ ∃ a b, IsPair h TO a b) ∨ ∃ T f oT, IsZipHeld h z TI TO T f ∧ h.get? T = some oT ∧ T ≠ z ∧ T ≠ i1 ∧ T ≠ i2 ∧ T ≠ S)) where
  off := fun b hb => by
    simp only [List.mem_cons, List.not_mem_nil, or_false] at hb
    rcases hb with rfl | rfl | rfl | rfl <;> assumption
  self := z1
  frame := fun i h₁ h₂ st hk => by
    obtain ⟨hTI, h1, h2, hl1, hl2, hz⟩ := st
    refine ⟨hk _ _ (Nat.ne_of_lt z2) hTI, h1.at fun o e => hk _ o (Nat.ne_of_lt z4) e, h2.at fun o e => hk _ o (Nat.ne_of_lt z5) e, hl1.at fun o e => hk _ o (Nat.ne_of_lt z6) e, hl2.at fun o e => hk _ o (Nat.ne_of_lt z7) e, ?_⟩
    rcases hz with ⟨hz, a, b, hTO⟩ | ⟨T, f, oT, hz, hT, r1, r2, r3, r4⟩
    · exact .inl ⟨hk _ _ (Nat.ne_of_lt z1) hz, a, b, hk _ _ (Nat.ne_of_lt z3) hTO⟩
    · exact .inr ⟨T, f, oT, hk _ _ (Nat.ne_of_lt z1) hz, hk _ _ r4 hT, r1, r2, r3, r4⟩
  item := fun i s₁ Q₁ E₁ hi st hds hQ => by
    obtain ⟨hTI, h1, h2, hl1, hl2, hz⟩ := st
    have hix : i < xs.size := Nat.lt_of_lt_of_le hi (Nat.min_le_left ..)
    have hiy : i < ys.size := Nat.lt_of_lt_of_le hi (Nat.min_le_right ..)
    have ex := Array.getElem?_eq_getElem hix
    have ey := Array.getElem?_eq_getElem hiy
    have lt : ∀ {c o}, s₁.heap.get? c = some o → s₁.heap.objs.size ≠ c := fun e => Nat.ne_of_gt (Heap.lt_size e)
    have n1 : s₁.heap.objs.size ≠ i1 := let ⟨_, e, _⟩ := h1; lt e
    have n2 : s₁.heap.objs.size ≠ i2 := let ⟨_, e, _⟩ := h2; lt e
    rcases hz with ⟨hz, a, b, hTO⟩ | ⟨T, f, oT, hz, hT, r1, r2, r3, r4⟩
    · refine wpAny_pyNext_zip_item D hz hTI hTO h1 h2 hl1 hl2 ex ey fun h' a1 a2 a3 a4 a5 a6 hk => ?_
      exact hQ _ _ h' ⟨ex, ey⟩ a5
        ⟨hk _ _ D.TIz D.TITO D.TIi1 D.TIi2 hTI, a3, a4, hl1.at fun o e => hk _ o D.l1z D.l1TO D.l1i1 D.l1i2 e, hl2.at fun o e => hk _ o D.l2z D.l2TO D.l2i1 D.l2i2 e,
          .inr ⟨s₁.heap.objs.size, false, _, a1, a5, lt hz, n1, n2, Nat.ne_of_gt hds⟩⟩
        fun c o hc e => hk c o (fun x => hc (by simp [x])) (fun x => hc (by simp [x])) (fun x => hc (by simp [x])) (fun x => hc (by simp [x])) e
    · refine wpAny_pyNext_zip_item_held D hz hT hTI h1 h2 hl1 hl2 ex ey fun h' a1 a3 a4 a5 a6 hk => ?_
      exact hQ _ _ h' ⟨ex, ey⟩ a5
        ⟨hk _ _ D.TIz D.TIi1 D.TIi2 hTI, a3, a4, hl1.at fun o e => hk _ o D.l1z D.l1i1 D.l1i2 e, hl2.at fun o e => hk _ o D.l2z D.l2i1 D.l2i2 e,
          .inr ⟨T, true, oT, a1, hk _ _ r1 r2 r3 hT, r1, r2, r3, r4⟩⟩
        fun c o hc e => hk c o (fun x => hc (by simp [x])) (fun x => hc (by simp [x])) (fun x => hc (by simp [x])) e
  done := fun s₁ Q₁ E₁ st hQ => by
    obtain ⟨hTI, h1, h2, hl1, hl2, hz⟩ := st
    have hend : xs[min xs.size ys.size]? = none ∨ ys[min xs.size ys.size]? = none := by
      rcases Nat.le_total xs.size ys.size with h | h
      · exact .inl (Array.getElem?_eq_none (by rw [Nat.min_eq_left h]; exact Nat.le_refl _))
      · exact .inr (Array.getElem?_eq_none (by rw [Nat.min_eq_right h]; exact Nat.le_refl _))
    rcases hz with ⟨hz, a, b, hTO⟩ | ⟨T, f, oT, hz, hT, r1, r2, r3, r4⟩
    · exact wpAny_pyNext_zip_end hA D hz hTI hTO h1 h2 hl1 hl2 hend fun h' hk => hQ h' fun c o hc e => hk c o (fun x => hc (by simp [x])) (fun x => hc (by simp [x])) (fun x => hc (by simp [x])) (fun x => hc (by simp [x])) e
    · exact wpAny_pyNext_zip_end_held hA D hz hT hTI h1 h2 hl1 hl2 hend fun h' hk => hQ h' fun c o hc e => hk c o (fun x => hc (by simp [x])) (fun x => hc (by simp [x])) (fun x => hc (by simp [x])) e
end
end U
namespace U
open PySem PySem.Spec PyProof.Rows L2
/-- new pairs at their addresses -/
def putZ : Hp → List Addr → List (V × V) → Hp
  | H, a :: as, p :: ps => putZ (upd H a (.tup [p.1, p.2])) as ps
  | H, _, _ => H
theorem putZ_off {b : Addr} : ∀ (as : List Addr) (ps : List (V × V)) (H : Hp), b ∉ as → putZ H as ps b = H b
  | [], _, _, _ => rfl
  | _ :: _, [], _, _ => rfl
  | a :: as, p :: ps, H, h => by
    show putZ (upd H a (.tup [p.1, p.2])) as ps b = H b
    rw [putZ_off as ps _ (fun z => h (List.mem_cons_of_mem _ z)), upd_ne (fun z => h (by rw [z]; exact List.mem_cons_self))]
theorem putZ_at : ∀ (as : List Addr) (ps : List (V × V)) (H : Hp), as.length = ps.length → as.Nodup → Paired (fun (t : Addr) (p : V × V) => putZ H as ps t = some (.tup [p.1, p.2])) as ps
  | [], [], _, _, _ => .nil
  | [], _ :: _, _, h, _ => by cases h
  | _ :: _, [], _, h, _ => by cases h
  | a :: as, p :: ps, H, h, hn => by
    have hn' := List.nodup_cons.mp hn
    have ih := putZ_at as ps (upd H a (.tup [p.1, p.2])) (Nat.succ.inj h) hn'.2
    refine .cons ?_ ih
    show putZ (upd H a (.tup [p.1, p.2])) as ps a = some (.tup [p.1, p.2])
    rw [putZ_off as ps _ hn'.1, upd_same]
def qLZip (K : PySem.W.Frag) : RCl := fun vs H Q => ∃ (a b : Addr) (xs ys : List V), vs = [V.ref a, V.ref b] ∧ SqL K H a xs ∧ SqL K H b ys ∧
  ∀ (H' : Hp) (p : Addr) (ts : List Addr), (∀ b o, H b = some o → H' b = some o) → H p = none → (∀ t ∈ ts, H t = none) → p ∉ ts → H' p = some (.lst (ts.map V.ref)) → Paired (fun (t : Addr) (q : V × V) => H' t = some (.tup [q.1, q.2])) ts (xs.zip ys) → Q (.ref p) H'
section
variable {X : Cx}
theorem zips_laid {pins : List (Addr × Obj)} {σ : L2.St} {H : Hp} {s : Shared} {h' : Heap} {tk : Nat} {xs ys : List V} {us ws : List Value} {acc : Array Value} {c n : Nat} {as : List Addr} {S : Addr} (I : Inv X pins σ H s) (hS0 : s.heap.objs.size ≤ S) (hz : xs.length ≤ sizeLine) (rv : Vals xs us) (rw' : Vals ys ws)
    (hk : ∀ b o, s.heap.get? b = some o → h'.get? b = some o) (hS : h'.get? S = some { cls := .type "list", dict := none, data := .seq acc c, slots := #[] }) (hl : as.length = min xs.length ys.length) (hG : TuG n (fun i k v => us.toArray[i]? = some k ∧ ws.toArray[i]? = some v) S h' as) (hacc : acc.toList = as.map Value.ref) :
    ∃ H' : Hp, (∀ b o, H b = some o → H' b = some o) ∧ H S = none ∧ (∀ t ∈ as, H t = none) ∧ S ∉ as ∧ H' S = some (.lst (as.map V.ref)) ∧ Paired (fun (t : Addr) (q : V × V) => H' t = some (.tup [q.1, q.2])) as (xs.zip ys) ∧ Inv X pins σ H' { s with heap := h', toks := tk } := by
  have lk : as.length = (xs.zip ys).length := by rw [List.length_zip]; exact hl
  have hSn : S ∉ as := fun z => Nat.lt_irrefl _ (hG.above _ z)
  have nd : as.Nodup := List.Pairwise.imp (fun {a b} (h : a < b) => Nat.ne_of_lt h) hG.rise
  have new : ∀ t ∈ as, H t = none := fun t ht => I.hok.fresh (Nat.le_trans hS0 (Nat.le_of_lt (hG.above t ht)))
  have newS : H S = none := I.hok.fresh hS0
  have atP := putZ_at as (xs.zip ys) (upd H S (.lst (as.map V.ref))) lk nd
  have off : ∀ b, b ∉ as → b ≠ S → putZ (upd H S (.lst (as.map V.ref))) as (xs.zip ys) b = H b := fun b h1 h2 => by rw [putZ_off as _ _ h1, upd_ne h2]
  have low : ∀ b o, s.heap.get? b = some o → b ∉ as ∧ b ≠ S := fun b o e => ⟨fun z => absurd (Heap.lt_size e) (Nat.not_lt.mpr (Nat.le_trans hS0 (Nat.le_of_lt (hG.above b z)))), Nat.ne_of_lt (Nat.lt_of_lt_of_le (Heap.lt_size e) hS0)⟩
  have kp : ∀ b u, H b = some u → (putZ (upd H S (.lst (as.map V.ref))) as (xs.zip ys)) b = some u := fun b u e => by
    rw [off b (fun z => by rw [new b z] at e; cases e) (fun z => by rw [z, newS] at e; cases e)]
    exact e
  have eS : putZ (upd H S (.lst (as.map V.ref))) as (xs.zip ys) S = some (.lst (as.map V.ref)) := by rw [putZ_off as _ _ hSn, upd_same]
  refine ⟨putZ (upd H S (.lst (as.map V.ref))) as (xs.zip ys), kp, newS, new, hSn, eS, atP, ?_⟩
  refine I.call' (ch := []) rfl ⟨fun b o q _ _ _ => hk b o q, fun b o q _ _ _ => ⟨o.slots, hk b o q⟩, fun b o q n _ => ?_, fun b o q _ => ⟨o, hk b o q⟩, fun b xs q => kp b _ q, fun b o u q => kp b _ q, fun b ps q => ⟨#[], by rw [kp b _ q]; simp⟩⟩ (fun b u q => ?_) I.bare fun b z => by simp at z
  · obtain ⟨z1, z2⟩ := low b o q
    rw [off b z1 z2]
    exact n
  · by_cases hb : b ∈ as
    · obtain ⟨j, pk, e1, e2, e3⟩ := LiI.paired_ix atP hb
      rw [e3] at q
      cases q
      obtain ⟨kk, vv, ⟨f1, f2⟩, f3⟩ := hG.pairs j b e1
      rw [List.getElem?_zip_eq_some] at e2
      obtain ⟨u1, g1, g2⟩ := rv.get e2.1
      obtain ⟨u2, g3, g4⟩ := rw'.get e2.2
      have h1 : u1 = kk := Option.some.inj (g1.symm.trans (by simpa using f1))
      have h2 : u2 = vv := Option.some.inj (g3.symm.trans (by simpa using f2))
      subst h1
      subst h2
      exact ⟨by show 2 ≤ sizeLine; decide, [u1, u2], .cons g2 (.cons g4 .nil), ⟨_, f3, rfl, _, rfl⟩⟩
    · by_cases hb2 : b = S
      · rw [hb2] at q ⊢
        rw [eS] at q
        cases q
        refine ⟨by rw [List.length_map]; omega, acc.toList, c, by rw [hacc]; exact LiI.vals_refs as, ?_⟩
        rw [Array.toArray_toList]
        exact hS
      · rw [off b hb hb2] at q
        exact (I.hok b u q).stay (fun d v _ y => hk d v y) (fun d y => kp d _ y) fun d xs y => kp d _ y
variable {e e2 : Expr} {ta : TA} {p1 p2 q1 pos : Pos} {K : PySem.W.Frag}
theorem pe_lzip (hK : X.K = K) (hc : X.calm = true) (hg : Gl X "list") (hm : X.mg "list" = none) (hg2 : Gl X "zip") (hm2 : X.mg "zip" = none) (ha : PA X [e, e2] ta)
    (he : starEach [e, e2] X.env = (false, eval e X.env) :: starEach [e2] X.env := by rfl) (hpl : (backTo q1 (starEach [e2] X.env)).any (·.1) = false := by rfl) :
    PE X (.Call (.Name "list" p1) [.Call (.Name "zip" p2) [e, e2] [] q1] [] pos) (tCB (qLZip K) ta) := by
  subst hK
  refine ⟨fun pins s σ H Q I h => ?_⟩
  refine Call_ (ld_blt I hg hm bo_list ?_)
  refine PyProof.Rows.callWith_type1 (PyProof.Rows.args_cons ?_ rfl) rfl rfl
  refine Call_ (ld_blt I hg2 hm2 PyProof.Rows.boot_zip ?_)
  refine PyProof.Rows.callWith_type1 (thn (ha.run q1 pins s σ H _ I h) fun us s1 ⟨vs, H1, I1, r1, z⟩ => ?_) he hpl
  obtain ⟨a, b, xs, ys, rfl, sq, sq2, z⟩ := z
  cases r1 with
  | cons r rr =>
  cases rr with
  | cons r' rr =>
  cases rr
  cases r
  cases r'
  obtain ⟨its, rv, pl, hz⟩ := I1.list sq
  obtain ⟨its2, rv2, pl2, hz2⟩ := I1.list sq2
  refine zip_begins2 (begins_list a its.toArray) (begins_list b its2.toArray) pl.isList pl2.isList fun h' hz1 hI hO ho ho' hsz hk => ?_
  refine PyProof.Rows.args_nil ?_
  have lxs : xs.length = its.length := rv.length
  have lys : ys.length = its2.length := rv2.length
  have la : a < s1.heap.objs.size := pl.lt
  have lb : b < s1.heap.objs.size := pl2.lt
  have hlt : ∀ k, k < 5 → s1.heap.objs.size + k < h'.objs.size := fun k hk5 => by rw [hsz]; exact Nat.add_lt_add_left hk5 _
  have l0 : s1.heap.objs.size < h'.objs.size := hlt 0 (by decide)
  have up : ∀ (l : Addr) {xs : Array Value}, s1.heap.IsList l xs → h'.IsList l xs := fun l _ hl => hl.at fun o e => hk _ o e
  have hh : X.A.handled = none := I1.ok.hd hc
  refine tu_call (s := { s1 with heap := h' }) (tus_zip (A := X.A.in1.in1) hh (zipApart_new la lb) its.toArray its2.toArray (hlt 4 (by decide)) (hlt 2 (by decide)) (hlt 3 (by decide)) l0 (hlt 1 (by decide)) (Nat.lt_trans la l0) (Nat.lt_trans lb l0)) (by simp only [List.size_toArray]; omega)
    (fun i h st => ?_) (fun s' Q' E' st q => ?_) ⟨hI, ⟨_, ho, rfl, rfl⟩, ⟨_, ho', rfl, rfl⟩, up a pl.isList, up b pl2.isList, .inl ⟨hz1, _, _, hO⟩⟩ fun h2 tk acc c as hk2 hS hl hG hacc => ?_
  · rcases st.2.2.2.2.2 with ⟨q, _⟩ | ⟨_, _, _, q, _⟩
    · exact ⟨_, q, rfl⟩
    · exact ⟨_, q, rfl⟩
  · rcases st.2.2.2.2.2 with ⟨q1, _⟩ | ⟨T, f, oT, q1, q2⟩
    · exact wpAny_pyIter_zip q1 q
    · have hT : s'.TypeIs (.ref (s1.heap.objs.size + 4)) "zip" := ⟨_, q1, rfl⟩
      refine wpAny_pyIter_slot hT F.slot_zip_iter (wpAny_call_entry F.slot_zip_iter hT F.entry_zip_iter ?_ (F.args_zip_iter_1 _))
      show wpAny _ _ (ret (.ref _)) _ _ s'
      exact wpAny_pure ⟨_, rfl, "zip", _, hT, F.slot_zip_next.lookup, q⟩
  · have low : ∀ b o, s1.heap.get? b = some o → b ∉ [s1.heap.objs.size + 4, s1.heap.objs.size + 3, s1.heap.objs.size, s1.heap.objs.size + 1] := fun b o e hb => by
      have hlt2 := Heap.lt_size e
      simp only [List.mem_cons, List.not_mem_nil, or_false] at hb
      rcases hb with z | z | z | z <;> (rw [z] at hlt2; first | exact Nat.lt_irrefl _ hlt2 | exact absurd hlt2 (Nat.not_lt.mpr (Nat.le_add_right _ _)))
    obtain ⟨H', k1, k2, k3, k4, k5, k6, J⟩ := zips_laid (tk := tk) (S := h'.objs.size) I1 (Nat.le_of_lt l0) hz rv rv2 (fun b o e => hk2 b o (low b o e) (hk b o e)) hS (by rw [hl]; simp only [List.size_toArray]; omega) hG hacc
    exact ⟨.ref _, H', J, rfl, z H' _ as k1 k2 k3 k4 k5 k6⟩
end
section
variable {α β : Type} {t : Rp α} {u : Rp β} {K : PySem.W.Frag} {F H : Hp} {a b : Addr} {vs ws : List V} {xs : List α} {ys : List β} {Q : VK}
theorem al_zips {F' : Hp} : ∀ {ts : List Addr} {vs ws : List V} {xs : List α} {ys : List β}, Al t F' vs xs → Al u F' ws ys → Paired (fun (t : Addr) (q : V × V) => F' t = some (.tup [q.1, q.2])) ts (vs.zip ws) → Al (eP2 t u) F' (ts.map V.ref) (xs.zip ys)
  | _, _, _, _, _, .nil, _, p => by cases p; exact .nil
  | _, _, _, _, _, .cons _ _, .nil, p => by cases p; exact .nil
  | _, _, _, _, _, .cons h1 t1, .cons h2 t2, p => by
    cases p with
    | cons q r => exact .cons ⟨_, _, _, rfl, q, h1, h2⟩ (al_zips t1 t2 r)
theorem v_lzip (hs : Sub F H) (hq : SqL K H a vs) (al : Al t F vs xs) (hq2 : SqL K H b ws) (al2 : Al u F ws ys)
    (k : ∀ p us F' H', Gr [] F H F' H' → F' p = some (.lst us) → Al (eP2 t u) F' us (xs.zip ys) → Q (.ref p) H') : qLZip K [.ref a, .ref b] H Q := by
  refine ⟨a, b, vs, ws, rfl, hq, hq2, fun H' p ts e1 e2 e3 e4 e5 e6 => ?_⟩
  let F' : Hp := fun b => if (H b).isSome then F b else H' b
  have f1 : Sub F F' := fun a o e => by
    show (if (H a).isSome then F a else H' a) = some o
    rw [hs _ _ e]; exact e
  have f2 : Sub F' H' := fun a o e => by
    have e : (if (H a).isSome then F a else H' a) = some o := e
    cases hh : H a with
    | none => rw [hh] at e; exact e
    | some u => rw [hh] at e; exact e1 _ _ (hs _ _ e)
  have f3 : ∀ a, H a = none → F' a = H' a := fun a e => by
    show (if (H a).isSome then F a else H' a) = H' a
    rw [e]; rfl
  have g : Gr [] F H F' H' := ⟨f1, f2, fun a o _ e => e1 _ _ e, fun a e => by
      cases hh : H a with
      | none => exact absurd hh e
      | some u => rw [e1 _ _ hh]; exact (fun z => nomatch z), fun a e n => by
      show (if (H a).isSome then F a else H' a) = none
      cases hh : H a with
      | none => exact absurd hh e
      | some u => exact n⟩
  refine k p (ts.map V.ref) F' H' g (by rw [f3 p e2]; exact e5) (al_zips (Al.mono al f1) (Al.mono al2 f1) ?_)
  have lm : ∀ {ts : List Addr} {ps : List (V × V)}, (∀ t ∈ ts, H t = none) → Paired (fun (t : Addr) (q : V × V) => H' t = some (.tup [q.1, q.2])) ts ps → Paired (fun (t : Addr) (q : V × V) => F' t = some (.tup [q.1, q.2])) ts ps := fun {ts ps} hn p => by
    induction p with
    | nil => exact .nil
    | cons r _ ih => exact .cons (by rw [f3 _ (hn _ List.mem_cons_self)]; exact r) (ih fun t ht => hn t (List.mem_cons_of_mem _ ht))
  exact lm e3 e6
end
end U
/-! ### xs[i] += k -/
namespace U
open PySem PySem.Spec PyProof.Rows L2
section
variable {X : Cx} {K : PySem.W.Frag}
theorem pget_list (hK : X.K = K) : PGet X (rIxL K) := by
  subst hK
  intro pins s σ H o i ov iv Q I ro ri h
  obtain ⟨p, xs, k, z, rfl, rfl, hq, he, q⟩ := h
  cases ro
  obtain ⟨t, rfl⟩ := ri
  obtain ⟨its, r, pl, hz⟩ := I.list hq
  obtain ⟨j, h1, h2, h3, h4, h5⟩ := atI_get he
  obtain ⟨w, ew, rw'⟩ := r.get h2
  have hl := r.length
  have hn := line63
  have fin : EP X pins σ Q w s := ⟨z, H, I, rw', q⟩
  by_cases h0 : 0 ≤ k
  · have hj : k.toNat = j := by
      rw [seqIndex_of h0 h5] at h1
      exact Option.some.inj h1
    exact wpAny_getItem_list pl.isList h0 (by omega) (by rw [hj]; simpa using ew) fin
  · have hj : (k + (its.toArray.size : Int)).toNat = j := by
      rw [seqIndex_neg (by omega) h4] at h1
      rw [List.size_toArray, ← hl]
      exact Option.some.inj h1
    exact wpAny_getItem_list_neg pl.isList (by omega) (by rw [List.size_toArray] <;> omega) (by omega) (by rw [hj]; simpa using ew) fin
end
theorem n_augS {σ : L2.St} {H : Hp} {nx : L2.St → Hp → Prop} {to ti te : TE} {tget : V → V → Hp → VK → Prop} {tip : TIp} {tset : TSet} {rt bk ct} (h : to σ H fun o H1 => ti σ H1 fun i H2 => tget o i H2 fun x H3 => te σ H3 fun y H4 => tip x y H4 fun z H5 => tset o i z H5 fun H6 => nx σ H6) : tAugS to ti te tget tip tset ⟨nx, rt, bk, ct⟩ σ H := h
end U
set_option Elab.async false
set_option linter.all false
set_option maxRecDepth 100000
set_option maxHeartbeats 4000000
/-! ### things of one of two kinds -/
namespace U
open PySem PySem.Spec PyProof.Rows L2
section
variable {α β α' β' γ : Type} {A : Rp α} {B : Rp β} {A' : Rp α'} {B' : Rp β'} {F : Hp} {v w : V}
def eU {α β : Type} (A : Rp α) (B : Rp β) : Rp (α ⊕ β) := ⟨fun F v x => match x with
  | .inl a => A.r F v a
  | .inr b => B.r F v b, fun {F F' v x} s h => match x, h with
  | .inl _, h => A.mono s h
  | .inr _, h => B.mono s h⟩
theorem p2_U {x : α × β} (h : (eP2 A B).r F v x) : (eT (eU A B)).r F v [.inl x.1, .inr x.2] := by
  obtain ⟨p, y, z, e, q, h1, h2⟩ := h
  exact ⟨p, [y, z], e, q, .cons h1 (.cons h2 .nil)⟩
def orM (f : α → α' → Option γ) (g : β → β' → Option γ) : α ⊕ β → α' ⊕ β' → Option γ
  | .inl x, .inl y => f x y
  | .inr x, .inr y => g x y
  | _, _ => none
theorem orM_ok {P : Prop} {f : α → α' → Option γ} {g : β → β' → Option γ} {a : α ⊕ β} {b : α' ⊕ β'} {r : γ} (ra : (eU A B).r F v a) (rb : (eU A' B').r F w b) (h : orM f g a b = some r)
    (k1 : ∀ x y, A.r F v x → A'.r F w y → f x y = some r → P) (k2 : ∀ x y, B.r F v x → B'.r F w y → g x y = some r → P) : P := by
  cases a <;> cases b
  · exact k1 _ _ ra rb h
  · cases h
  · cases h
  · exact k2 _ _ ra rb h
end
def spOr (a b : Sp) : Sp := fun vs H Q E => a vs H Q E ∨ b vs H Q E
theorem FnG.or {P : Program} {w : World} {K : PySem.W.Frag} {mg : Str → Option Value} {base : Heap} {CX : CXT} {k : Nat} {f : Addr} {fd : FuncData} {ps : List Str} {a b : Sp} (A : FnG P w K mg base CX k f fd ps a) (B : FnG P w K mg base CX k f fd ps b) :
    FnG P w K mg base CX k f fd ps (spOr a b) :=
  ⟨fun vs H Q E h => h.elim (A.len vs H Q E) (B.len vs H Q E), fun A' out s H as us vs Q E g hr e bd rv h => h.elim (fun h => A.go A' out s H as us vs Q E g hr e bd rv h) (fun h => B.go A' out s H as us vs Q E g hr e bd rv h)⟩
theorem sp_ors {γ : Type} {T : Rp γ} {a b : Sp} {F H : Hp} {vs : List V} {Q : VK} {E : XK} {r : γ} (go : (∀ v F' H', Gr [] F H F' H' → T.r F' v r → Q v H') → spOr a b vs H Q E) (k : ∀ v F' H', Gr [] F H F' H' → T.r F' v r → Q v H') : spOr a b vs H Q E := go k
/-! ### d.get(k, x) of a dict locked -/
section
variable {α β : Type} {t : Rp α} {D : Dt t} {A : Ke D} {u : Rp β} [DecidableEq α] {F H : Hp} {p : Addr} {o : Obj} {kvs : List (Key × V)} {xs : List (α × β)} {y w : V} {a : α} {b : β} {Q : VK}
theorem v_dget2L (hs : Sub F H) (hp : F p = some (.frz o (.dK kvs))) (h : Pr (dyK A) u F kvs xs) (hk : t.r F y a) (hz : u.r F w b) (k : ∀ v, u.r F v (getD2 xs a b) → Q v H) : qDGet2 y w Q p H := by
  refine ⟨_, .inl ⟨kvs, A.k a, .inr ⟨o, hs _ _ hp⟩, A.r hk, rfl⟩, ?_⟩
  unfold getD2 at k
  cases e : lkp xs a with
  | none =>
    have := pr_none (Y := dyK A) h e
    rw [e] at k
    rw [show valV kvs (A.k a) = none from this]
    exact k _ hz
  | some c =>
    obtain ⟨v, e2, r⟩ := pr_some (Y := dyK A) h e
    rw [e] at k
    rw [show valV kvs (A.k a) = some v from e2]
    exact k v r
end
end U
set_option Elab.async false
set_option linter.all false
set_option maxRecDepth 100000
set_option maxHeartbeats 4000000
/-! ### min and max of a list of data that can be ordered -/
namespace U
open PySem PySem.Spec PyProof.Rows L2 PySem.W
def minG {α : Type} (lt : α → α → Bool) : List α → Option α
  | [] => none
  | x :: r => some (r.foldl (fun a y => if lt y a then y else a) x)
def maxG {α : Type} (lt : α → α → Bool) : List α → Option α
  | [] => none
  | x :: r => some (r.foldl (fun a y => if lt a y then y else a) x)
def qMnD (K : PySem.W.Frag) (f : PyData → List PyData → PyData) : RCl := fun xs H Q => ∃ p vs d r, xs = [V.ref p] ∧ SqL K H p vs ∧ DpAll K H vs (d :: r) ∧ AlikeAll (d :: r) ∧ (∀ e ∈ d :: r, e.depth ≤ 60) ∧
  ∀ (i : Nat) (v : V) (e : PyData), vs[i]? = some v → (d :: r)[i]? = some e → e = f d r → Q v H
theorem depthAll_le {m : Nat} : ∀ {ds : List PyData}, (∀ e ∈ ds, e.depth ≤ m) → PyData.depthAll ds ≤ m
  | [], _ => Nat.zero_le _
  | d :: ds, h => Nat.max_le.mpr ⟨h d List.mem_cons_self, depthAll_le fun e he => h e (List.mem_cons_of_mem _ he)⟩
section
variable {X : Cx} {K : PySem.W.Frag} {k : Nat}
theorem c_mnD (hK : X.K = K) (hr : Room k X.A) (hc : X.calm = true) : CallR X (.builtin "min") (qMnD K PySem.W.minD) := by
  subst hK
  intro pins s σ H xs us Q I rv ⟨p, vs, d, r, e, hq, hd, ha, hdp, q⟩
  subst e
  obtain ⟨u, rfl, ru⟩ := vals1 rv
  obtain rfl : u = Value.ref p := ru
  obtain ⟨its, ri, hl, hz⟩ := I.list hq
  obtain ⟨as, rd⟩ := Dp.readsAll I (d :: r) vs its hd ri
  have dl := depthAll_le hdp
  have hu := hr.un
  refine PySem.W.min_list_data (I.ok.hd hc) hl.isList (by simpa using rd) ha (by omega) fun i v h' tk bs hv rm hk => ?_
  have hv : its[i]? = some v := by simpa using hv
  obtain ⟨x, hx, rx⟩ := vals_get ri hv
  obtain ⟨bs2, r2, h3, _, _⟩ := readsAll_at rd i v hv
  have e1 := (PyProof.Rows.reads_det (h := s.heap) (h' := h') (fun b o e _ => hk b o e) r2 rm).1
  have e2 : (d :: r)[i]? = some ((d :: r).getD i .none) := by
    rw [List.getD_eq_getElem?_getD, List.getElem?_eq_getElem h3]; rfl
  exact ⟨x, H, I.kept (t' := tk) hk, rx, q i x _ hx e2 e1.symm⟩
theorem c_mxD (hK : X.K = K) (hr : Room k X.A) (hc : X.calm = true) : CallR X (.builtin "max") (qMnD K PySem.W.maxD) := by
  subst hK
  intro pins s σ H xs us Q I rv ⟨p, vs, d, r, e, hq, hd, ha, hdp, q⟩
  subst e
  obtain ⟨u, rfl, ru⟩ := vals1 rv
  obtain rfl : u = Value.ref p := ru
  obtain ⟨its, ri, hl, hz⟩ := I.list hq
  obtain ⟨as, rd⟩ := Dp.readsAll I (d :: r) vs its hd ri
  have dl := depthAll_le hdp
  have hu := hr.un
  refine PySem.W.max_list_data (I.ok.hd hc) hl.isList (by simpa using rd) ha (by omega) fun i v h' tk bs hv rm hk => ?_
  have hv : its[i]? = some v := by simpa using hv
  obtain ⟨x, hx, rx⟩ := vals_get ri hv
  obtain ⟨bs2, r2, h3, _, _⟩ := readsAll_at rd i v hv
  have e1 := (PyProof.Rows.reads_det (h := s.heap) (h' := h') (fun b o e _ => hk b o e) r2 rm).1
  have e2 : (d :: r)[i]? = some ((d :: r).getD i .none) := by
    rw [List.getD_eq_getElem?_getD, List.getElem?_eq_getElem h3]; rfl
  exact ⟨x, H, I.kept (t' := tk) hk, rx, q i x _ hx e2 e1.symm⟩
end
section
variable {α : Type} [DecidableEq α] {t : Rp α} {D : Dt t} {K : PySem.W.Frag} {F H : Hp} {p : Addr} {vs : List V} {xs : List α} {m : α} {Q : VK}
theorem dt_inj (D : Dt t) {x y : α} (e : D.d x = D.d y) : x = y := (D.eqv x y).mp (by rw [← e]; exact (D.eqv x x).mpr rfl)
theorem so_alikeAll (S : So D) (xs : List α) : AlikeAll (xs.map D.d) := by
  refine ⟨fun x hx y hy => ?_, fun x hx => ?_⟩
  · obtain ⟨a, _, rfl⟩ := List.mem_map.mp hx
    obtain ⟨b, _, rfl⟩ := List.mem_map.mp hy
    exact S.al a b
  · obtain ⟨a, _, rfl⟩ := List.mem_map.mp hx
    rcases S.so with h | h
    · obtain ⟨b, r, e⟩ := h a
      rw [e]; exact fun z => nomatch z
    · exact (h a).1
theorem minD_map (S : So D) : ∀ (r : List α) (x : α), PySem.W.minD (D.d x) (r.map D.d) = D.d (r.foldl (fun a y => if S.lt y a then y else a) x)
  | [], x => rfl
  | y :: r, x => by
    have ih := minD_map S r (if S.lt y x then y else x)
    rw [List.foldl_cons, ← ih]
    unfold PySem.W.minD
    rw [List.map_cons, List.foldl_cons, S.ok]
    cases S.lt y x <;> rfl
theorem maxD_map (S : So D) : ∀ (r : List α) (x : α), PySem.W.maxD (D.d x) (r.map D.d) = D.d (r.foldl (fun a y => if S.lt a y then y else a) x)
  | [], x => rfl
  | y :: r, x => by
    have ih := maxD_map S r (if S.lt x y then y else x)
    rw [List.foldl_cons, ← ih]
    unfold PySem.W.maxD
    rw [List.map_cons, List.foldl_cons, S.ok]
    cases S.lt x y <;> rfl
theorem v_minG (S : So D) (hs : Sub F H) (hq : SqL K H p vs) (hr : Al t F vs xs) (h : minG S.lt xs = some m) (k : ∀ v, t.r F v m → Q v H) : qMnD K PySem.W.minD [.ref p] H Q := by
  cases xs with
  | nil => cases h
  | cons x r =>
    have h := Option.some.inj h
    refine ⟨p, vs, D.d x, r.map D.d, rfl, hq, dt_all D hs hr, so_alikeAll S (x :: r), fun d hd => ?_, fun i v e hv he ee => ?_⟩
    · obtain ⟨y, _, rfl⟩ := List.mem_map.mp (show d ∈ (x :: r).map D.d from hd)
      exact S.dp y
    · rw [minD_map S r x, h] at ee
      have he : ((x :: r).map D.d)[i]? = some e := he
      rw [List.getElem?_map] at he
      cases ey : (x :: r)[i]? with
      | none => rw [ey] at he; cases he
      | some y =>
        rw [ey] at he
        have he : D.d y = e := Option.some.inj he
        obtain ⟨v', e1, rv⟩ := pd_get hr ey
        rw [hv] at e1
        cases e1
        have : y = m := dt_inj D (he.trans ee)
        rw [this] at rv
        exact k _ rv
theorem v_maxG (S : So D) (hs : Sub F H) (hq : SqL K H p vs) (hr : Al t F vs xs) (h : maxG S.lt xs = some m) (k : ∀ v, t.r F v m → Q v H) : qMnD K PySem.W.maxD [.ref p] H Q := by
  cases xs with
  | nil => cases h
  | cons x r =>
    have h := Option.some.inj h
    refine ⟨p, vs, D.d x, r.map D.d, rfl, hq, dt_all D hs hr, so_alikeAll S (x :: r), fun d hd => ?_, fun i v e hv he ee => ?_⟩
    · obtain ⟨y, _, rfl⟩ := List.mem_map.mp (show d ∈ (x :: r).map D.d from hd)
      exact S.dp y
    · rw [maxD_map S r x, h] at ee
      have he : ((x :: r).map D.d)[i]? = some e := he
      rw [List.getElem?_map] at he
      cases ey : (x :: r)[i]? with
      | none => rw [ey] at he; cases he
      | some y =>
        rw [ey] at he
        have he : D.d y = e := Option.some.inj he
        obtain ⟨v', e1, rv⟩ := pd_get hr ey
        rw [hv] at e1
        cases e1
        have : y = m := dt_inj D (he.trans ee)
        rw [this] at rv
        exact k _ rv
end
/-! ### d == {} ; a list's item as it stands; what an optional thing holds -/
def qEqD0 : R2 := fun x y H Q => ∃ a b kvs, x = V.ref a ∧ y = V.ref b ∧ Rd H a (.dK kvs) ∧ Rd H b (.dK []) ∧ Q (.bl (kvs.length == 0)) H
theorem op_eqD0 {X : Cx} {k : Nat} (hr : Room k X.A) : OpR X (compareOp .Eq) qEqD0 := by
  intro pins s σ H x y v u Q I rx ry h
  obtain ⟨a, b, kvs, rfl, rfl, h1, h2, q⟩ := h
  cases rx
  cases ry
  obtain ⟨z1, lo1, vs1, rel1, d1⟩ := dk_rd I.hok h1
  obtain ⟨z2, lo2, vs2, rel2, d2⟩ := dk_rd I.hok h2
  have l1 : kvs.length = vs1.length := Paired.length rel1
  have l2 : vs2 = [] := by
    have := Paired.length rel2
    exact List.length_eq_zero_iff.mp this.symm
  subst l2
  have hu := hr.un
  refine PySem.W.rcP_dicts lo1 lo2 d1 d2 (by omega) (r := true) (fun e => ?_) _ _ ⟨.bl (vs1.length == ([] : List (Key × Value)).length && true), H, I, rfl, ?_⟩
  · have : vs1 = [] := List.length_eq_zero_iff.mp e
    rw [this]; exact .nil
  · rw [Bool.and_true, ← l1]
    exact q
section
variable {α β : Type} [DecidableEq α] {t : Rp α} {D : Dt t} {A : Ke D} {u : Rp β} {F H : Hp} {p p2 : Addr} {kvs : List (Key × V)} {xs : List (α × β)} {Q : VK}
theorem v_eqD0 (hp : H p = some (.dK kvs)) (h : Pr (dyK A) u F kvs xs) (hp2 : H p2 = some (.dK [])) (k : Q (.bl (xs.length == 0)) H) : qEqD0 (.ref p) (.ref p2) H Q :=
  ⟨p, p2, kvs, rfl, rfl, .inl hp, .inl hp2, by
    have e : (kvs : List (Key × V)).length = xs.length := pr_len (Y := dyK A) h
    rw [e]; exact k⟩
theorem v_ixRawL {K : PySem.W.Frag} {vs : List V} {i : Int} {y : V} (hs : Sub F H) (hq : F p = some (.lst vs)) (h : atI vs i = some y) (k : Q y H) : rIxL K (.ref p) (.int i) H Q :=
  ⟨p, vs, i, y, rfl, rfl, .inl (.inl (hs _ _ hq)), h, k⟩
theorem eO_get {v : V} {x : Option α} {b : α} (hr : (eO t).r F v x) (h : x = some b) : t.r F v b := by
  subst h
  exact hr.2
end
end U
/-! ### max(d.values()) -/
namespace U
open PySem PySem.Spec PyProof.Rows L2
theorem getDat {α : Type} {xs : List α} {i : Nat} {a d : α} (h : xs[i]? = some a) : xs.getD i d = a := by rw [List.getD_eq_getElem?_getD, h]; rfl
def tMaxVals (td : TE) : TE := fun σ H Q => td σ H fun x H1 => ∃ a kvs is, x = V.ref a ∧ H1 a = some (.dK kvs) ∧ kvs.map (·.2) = is.map V.int ∧ is ≠ [] ∧ ∀ m, m ∈ is → (∀ j ∈ is, j ≤ m) → Q (.int m) H1
section
variable {X : Cx} {o : Expr} {p pos apos mpos : Pos} {td : TE}
theorem pe_maxVals (hc : X.calm = true) (hg : Gl X "max") (hm : X.mg "max" = none) (hd : PE X o td) (hbase : attributeBase o "values" X.env (eval o X.env) = eval o X.env := by rfl) (hline : (apos.endLine == mpos.line) = true := by rfl)
    (hse : starEach [Expr.Call (.Attribute o "values" apos) [] [] mpos] X.env = [(false, eval (Expr.Call (.Attribute o "values" apos) [] [] mpos) X.env)] := by rfl) :
    PE X (.Call (.Name "max" p) [.Call (.Attribute o "values" apos) [] [] mpos] [] pos) (tMaxVals td) := by
  refine ⟨fun pins s σ H Q I h => ?_⟩
  refine Call_ (ld_blt I hg hm bo_max (PyProof.Rows.callWith_builtin1 (PyProof.Rows.args_cons ?_ rfl) hse rfl))
  refine wpAny_Call_method (T := "dict") (id := "dict.values") hbase rfl hline F.plainAttrs_dict F.slot_dict_values F.type_dict_values (thn (hd.run pins s σ H _ I h) fun v s1 ⟨x, H1, I1, r1, a, kvs, is, ex, ha, hv, hne, q⟩ => ?_)
  subst ex
  obtain rfl : v = Value.ref a := r1
  obtain ⟨_, sysn, vs, rel, dof⟩ := dk_of I1.hok ha
  obtain ⟨ep, dat⟩ := dof.dictAt
  refine ⟨dof.typeIs, dof.mapOf.noDict, ?_⟩
  refine method_meetsIn F.slot_dict_values F.entry_dict_values rfl (PySem.evalArgs_none ⟨rfl, dof.typeIs, F.args_dict_values_1 _, _, meets_dict_values (mixKind X.prog X.w) a sysn, ⟨vs, dof⟩, ?_⟩)
  refine PyProof.Rows.args_nil ?_
  let view : Obj := { cls := .type "dict_values", data := .fields #[.ref a] }
  have up : ∀ b u, s1.heap.get? b = some u → (s1.heap.push view).get? b = some u := fun b u e => Heap.get?_push_of_some _ e
  have S := PySem.W.kdl_values (knd := mixKind X.prog X.w) (prog := X.prog) (w := X.w) (r := s1.heap.objs.size) (d := a) (kvs := vs) (ep := ep)
  have okv : (s1.heap.push view).IsValuesView s1.heap.objs.size a ∧ (s1.heap.push view).DictAt (mixKind X.prog X.w) a vs ep := ⟨⟨_, Heap.get?_push_size _ rfl, rfl, rfl⟩, dat.keep up⟩
  obtain ⟨oI, St, hit, W, st⟩ := S.iter X.A.in1 { s1 with heap := s1.heap.push view } (I.ok.hd hc) okv
  obtain ⟨lr, la⟩ := S.there _ okv
  have lv : vs.length = is.length := by
    have e1 := congrArg List.length hv
    rw [List.length_map, List.length_map, Paired.length rel] at e1
    exact e1
  have num : ∀ (i : Nat) (v : Value), (∃ k, vs[i]? = some (k, v)) → ∃ t, v = Value.int (is.getD i 0) t := fun i v ⟨k, hk⟩ => by
    obtain ⟨x, h1, h2⟩ := L2.KV.at' rel hk
    have e1 : (kvs.map (·.2))[i]? = some x := by rw [List.getElem?_map, h1] <;> rfl
    rw [hv, List.getElem?_map] at e1
    cases e3 : is[i]? with
    | none => rw [e3] at e1; cases e1
    | some j =>
      rw [e3] at e1
      cases e1
      obtain ⟨t, e4⟩ := h2
      exact ⟨t, by rw [e4, getDat e3]⟩
  have n0 : 0 < is.length := List.length_pos_iff.mpr hne
  refine call_max_walk (hit _ _ ⟨_, _, _, _, _, _, _, rfl, W, st, fun b hb => ?_, by omega, CmpOf.ints_gt (fun i => is.getD i 0) num, fun v h' tk hP hk => ?_⟩)
  · show b < ((s1.heap.push view).push oI).objs.size
    rw [Heap.size_push]
    rcases List.mem_cons.mp hb with e | e
    · rw [e]; exact Nat.lt_succ_self _
    · rw [List.mem_singleton.mp e]; exact Nat.lt_succ_of_lt la
  · obtain ⟨t, rfl⟩ := num _ v hP
    have best := argBest_gt (fun i => is.getD i 0) (vs.length - 1)
    have inn : argBest (fun i j => decide (is.getD i 0 > is.getD j 0)) (vs.length - 1) < is.length := by have := best.1; omega
    refine ⟨.int _, H1, I1.kept (t' := tk) fun b u e => hk b u (fun z => ?_) (Heap.get?_push_of_some _ (up b u e)), ⟨t, rfl⟩, q _ ?_ fun j hj => ?_⟩
    · have l2 := Heap.lt_size e
      rw [List.mem_singleton.mp z] at l2
      exact Nat.lt_asymm lr l2
    · rw [getDat (List.getElem?_eq_getElem inn)]
      exact List.getElem_mem inn
    · obtain ⟨i, hi⟩ := List.getElem?_of_mem hj
      have := best.2 i (by have := (List.getElem?_eq_some_iff.mp hi).1; omega)
      rw [← getDat hi (d := 0)]; exact this
end
section
variable {α : Type} {t : Rp α} {D : Dt t} {A : Ke D} {F H : Hp} {p : Addr} {kvs : List (Key × V)} {xs : List (α × Int)} {m : Int} {Q : VK} {σ : L2.St} {td : TE}
def qMaxVals (Q : VK) : VK := fun x H1 => ∃ a kvs is, x = V.ref a ∧ H1 a = some (.dK kvs) ∧ kvs.map (·.2) = is.map V.int ∧ is ≠ [] ∧ ∀ m, m ∈ is → (∀ j ∈ is, j ≤ m) → Q (.int m) H1
theorem n_maxVals (h : td σ H (qMaxVals Q)) : tMaxVals td σ H Q := h
theorem pr_vals {kvs : List (Key × V)} {xs : List (α × Int)} (h : Pr (dyK A) eI F kvs xs) : kvs.map (·.2) = (xs.map Prod.snd).map V.int := by
  induction h with
  | nil => rfl
  | @cons kv y kvs ys r t ih => exact congr (congrArg List.cons r.2) ih
theorem v_maxVals (hp : H p = some (.dK kvs)) (h : Pr (dyK A) eI F kvs xs) (e : maxM (xs.map Prod.snd) = some m) (k : Q (.int m) H) : qMaxVals Q (.ref p) H := by
  obtain ⟨h1, h2⟩ := maxM_ok e
  refine ⟨p, kvs, xs.map Prod.snd, rfl, hp, pr_vals h, (fun z => by rw [z] at h1; cases h1), fun m' g1 g2 => ?_⟩
  have a := h2 _ g1
  have b := g2 _ h1
  have : m' = m := by omega
  rw [this]; exact k
end
end U
/-! ### // by a divisor of many digits -/
namespace U
open PySem PySem.Spec L2
def divW (i j : Int) : Option Int := need (decide (0 < j ∧ j.natAbs < 2 ^ 8000)) (i / j)
theorem v_divW {F H : Hp} {Q : VK} {i j a : Int} (h : divW i j = some a) (k : Q (.int a) H) : L2.rI CDivW (fun i j => .int (i / j)) (.int i) (.int j) H Q := by
  obtain ⟨h1, rfl⟩ := need_ok h
  have h2 := of_decide_eq_true h1
  exact ⟨i, j, rfl, rfl, wide_div h2.1 h2.2 (by decide) (by decide), k⟩
end U
/-! ### what is no None -/
namespace U
open PySem PySem.Spec L2
section
variable {α β γ : Type} {a : Rp α} {b : Rp β} {c : Rp γ} {F : Hp} {v : V}
theorem nn_P2 {x : α × β} (h : (eP2 a b).r F v x) : v ≠ .non := by obtain ⟨p, _, _, e, _⟩ := h; rw [e]; exact fun z => nomatch z
theorem nn_P3 {x : α × β × γ} (h : (eP3 a b c).r F v x) : v ≠ .non := by obtain ⟨p, _, _, _, e, _⟩ := h; rw [e]; exact fun z => nomatch z
theorem nn_L {x : List α} (h : (eL a).r F v x) : v ≠ .non := by obtain ⟨p, _, e, _⟩ := h; rw [e]; exact fun z => nomatch z
theorem nn_T {x : List α} (h : (eT a).r F v x) : v ≠ .non := by obtain ⟨p, _, e, _⟩ := h; rw [e]; exact fun z => nomatch z
end
end U
set_option Elab.async false
set_option linter.all false
set_option maxRecDepth 100000
set_option maxHeartbeats 4000000
namespace U
open PySem PySem.Spec L2
/-! ### plain: what a mirror gives -/
section
variable {α β σ ρ : Type} {P Q : α → Prop} {R : β → Prop} {x : Option α} {f : α → Option β} {a : α}
def Ret (x : Option α) (P : α → Prop) : Prop := ∃ a, x = some a ∧ P a
theorem Ret.pure (h : P a) : Ret (some a) P := ⟨a, rfl, h⟩
theorem Ret.bind (h : Ret x P) (k : ∀ a, P a → Ret (f a) R) : Ret (x.bind f) R := by
  obtain ⟨a, rfl, p⟩ := h
  exact k a p
theorem Ret.mono (h : Ret x P) (k : ∀ a, P a → Q a) : Ret x Q := by
  obtain ⟨a, e, p⟩ := h
  exact ⟨a, e, k a p⟩
theorem Ret.eq (h : x = some a) (k : Ret (f a) R) : Ret (x.bind f) R := by subst h; exact k
theorem Ret.of (h : x = some a) (p : P a) : Ret x P := ⟨a, h, p⟩
theorem Ret.val {b : α} (h : Ret x P) (k : ∀ a, P a → a = b) : x = some b := by
  obtain ⟨a, e, p⟩ := h
  rw [e, k a p]
theorem ret_need {c : Bool} (h : c = true) (k : Ret (f a) R) : Ret ((need c a).bind f) R := by subst h; exact k
theorem need_eq {c : Bool} (h : c = true) : need c a = some a := by subst h; rfl
theorem Ret.ite {c : Bool} {x y : Option α} (h1 : c = true → Ret x P) (h2 : c = false → Ret y P) : Ret (if c = true then x else y) P := by
  cases c with
  | true => rw [if_pos rfl]; exact h1 rfl
  | false => rw [if_neg Bool.false_ne_true]; exact h2 rfl
theorem atI_of {xs : List α} {i : Int} {a : α} (h0 : 0 ≤ i) (h : xs[i.toNat]? = some a) : atI xs i = some a := by
  have := atI_nat h
  rw [show ((i.toNat : Nat) : Int) = i by omega] at this
  exact this
theorem atI_lt {xs : List α} {i : Int} (h0 : 0 ≤ i) (h : i < xs.length) : atI xs i = some (xs[i.toNat]'(by omega)) := atI_of h0 (List.getElem?_eq_getElem (by omega))
theorem ret_at {xs : List α} {i : Int} (h0 : 0 ≤ i) (h : i < xs.length) : Ret (atI xs i) (fun a => xs[i.toNat]? = some a) := ⟨_, atI_lt h0 h, List.getElem?_eq_getElem (by omega)⟩
theorem atI_neg {xs : List α} {i : Int} (h0 : i < 0) (h : -(xs.length : Int) ≤ i) : atI xs i = xs[(i + xs.length).toNat]? := by
  unfold atI ixN
  rw [if_neg (by omega), if_pos h]
  rfl
theorem ixN_of {n : Nat} {i : Int} (h0 : 0 ≤ i) (h : i < n) : ixN n i = some i.toNat := by
  unfold ixN
  rw [if_pos h0, if_pos h]
theorem setM_of {xs : List α} {i : Int} {a : α} (h0 : 0 ≤ i) (h : i < xs.length) : setM xs i a = some (xs.set i.toNat a) := by
  unfold setM
  rw [ixN_of h0 h]; rfl
theorem szB_of {n : Nat} (h : n ≤ 16777216) : szB n = true := decide_eq_true h
theorem snocM_of {xs : List α} {a : α} (h : xs.length < 16777216) : snocM xs a = some (xs ++ [a]) := need_eq (decide_eq_true h)
theorem catLM_of {xs ys : List α} (h : xs.length + ys.length ≤ 16777216) : catLM xs ys = some (xs ++ ys) := need_eq (szB_of h)
theorem catM_of {xs ys : Sg} (h : xs.length + ys.length ≤ 16777216) : catM xs ys = some (xs ++ ys) := need_eq (szB_of h)
theorem modM_of {i j : Int} (h : 0 < j) : modM i j = some (i % j) := need_eq (decide_eq_true h)
theorem divM_of {i j : Int} (h : 0 < j) (h2 : j < 1073741824) : divM i j = some (i / j) := need_eq (decide_eq_true ⟨h, h2⟩)
theorem mulM_of {i j : Int} (h : (-(2 ^ 64) < i ∧ i < 2 ^ 64) ∨ (-(2 ^ 64) < j ∧ j < 2 ^ 64)) : mulM i j = some (i * j) := by
  refine need_eq ?_
  unfold mulB
  rcases h with h | h
  · rw [decide_eq_true h]; rfl
  · rw [decide_eq_true h, Bool.or_true]
theorem uptoM_of {lo hi : Int} (h1 : -(2 ^ 62) ≤ lo) (h2 : lo < 2 ^ 62) (h3 : -(2 ^ 62) ≤ hi) (h4 : hi < 2 ^ 62) : uptoM lo hi = some (upto lo hi) := by
  refine need_eq ?_
  unfold rngB
  rw [decide_eq_true ⟨h1, h2⟩, decide_eq_true ⟨h3, h4⟩]; rfl
theorem upto_get {lo hi : Int} {i : Nat} {a : Int} (h : (upto lo hi)[i]? = some a) : a = lo + i ∧ lo + i < hi := by
  unfold upto at h
  rw [List.getElem?_map] at h
  cases e : (List.range (hi - lo).toNat)[i]? with
  | none => rw [e] at h; cases h
  | some j =>
    rw [e] at h
    obtain ⟨h1, h2⟩ := List.getElem?_eq_some_iff.mp e
    rw [List.length_range] at h1
    have ej : j = i := by simpa using h2.symm
    subst ej
    have e3 : lo + (j : Int) = a := Option.some.inj h
    exact ⟨e3.symm, by omega⟩
theorem upto_mem {lo hi a : Int} (h : a ∈ upto lo hi) : lo ≤ a ∧ a < hi := by
  obtain ⟨i, hi'⟩ := List.getElem?_of_mem h
  have := upto_get hi'
  omega
theorem mx_eq (i j : Int) : mx i j = max i j := by unfold mx; split <;> omega
theorem mn_eq (i j : Int) : mn i j = min i j := by unfold mn; split <;> omega
theorem ret_foldO {xs : List α} {s : σ} {f : σ → α → Option σ} (I : Nat → σ → Prop) (h0 : I 0 s) (step : ∀ i s x, xs[i]? = some x → I i s → Ret (f s x) (I (i + 1))) : Ret (foldO xs s f) (I xs.length) := by
  induction xs generalizing s I with
  | nil => exact ⟨s, rfl, h0⟩
  | cons x xs ih =>
    obtain ⟨s', e, h1⟩ := step 0 s x rfl h0
    have := ih (s := s') (fun i => I (i + 1)) h1 fun i s y hy hi => step (i + 1) s y (by simpa using hy) hi
    obtain ⟨z, e2, h2⟩ := this
    refine ⟨z, ?_, by simpa using h2⟩
    show (f s x).bind _ = _
    rw [e]; exact e2
theorem ret_foldR {xs : List α} {s : σ} {f : σ → α → Option (Fl σ ρ)} (I : Nat → σ → Prop) (h0 : I 0 s) (step : ∀ i s x, xs[i]? = some x → I i s → Ret (f s x) (fun z => ∃ s', z = .nx s' ∧ I (i + 1) s')) :
    Ret (foldR xs s f) (fun z => ∃ s', z = .nx s' ∧ I xs.length s') := by
  induction xs generalizing s I with
  | nil => exact ⟨_, rfl, s, rfl, h0⟩
  | cons x xs ih =>
    obtain ⟨_, e, s', rfl, h1⟩ := step 0 s x rfl h0
    have := ih (s := s') (fun i => I (i + 1)) h1 fun i s y hy hi => step (i + 1) s y (by simpa using hy) hi
    obtain ⟨z, e2, h2⟩ := this
    refine ⟨z, ?_, by simpa using h2⟩
    show (f s x).bind _ = _
    rw [e]; exact e2
theorem ret_whileO {n : Nat} {s : σ} {c : σ → Option Bool} {b : σ → Option σ} (I : σ → Prop) (μ : σ → Nat) (h0 : I s) (hn : μ s < n)
    (step : ∀ s, I s → Ret (c s) (fun t => t = true → Ret (b s) (fun s' => I s' ∧ μ s' < μ s))) : Ret (whileO n s c b) (fun s => I s ∧ c s = some false) := by
  induction n generalizing s with
  | zero => omega
  | succ n ih =>
    obtain ⟨t, e, h⟩ := step s h0
    unfold whileO
    rw [e]
    cases t with
    | false => exact ⟨s, rfl, h0, e⟩
    | true =>
      obtain ⟨s', e2, h1, h2⟩ := h rfl
      show Ret ((b s).bind _) _
      rw [e2]
      exact ih h1 (by omega)
theorem compS_of {xs : List α} {f : α → Option (Option β)} (g : α → Option β) (h : ∀ x ∈ xs, f x = some (g x)) : compS xs f = some (xs.filterMap g) := by
  induction xs with
  | nil => rfl
  | cons x xs ih =>
    show (f x).bind _ = _
    rw [h x (by simp)]
    show (compS xs f).bind _ = _
    rw [ih fun y hy => h y (by simp [hy])]
    show some _ = some _
    rw [List.filterMap_cons]
    cases g x <;> rfl
theorem compS_map {xs : List α} {f : α → Option (Option β)} (g : α → β) (h : ∀ x ∈ xs, f x = some (some (g x))) : compS xs f = some (xs.map g) := by
  rw [compS_of (fun x => some (g x)) h]
  congr 1
  rw [List.filterMap_eq_map']
/-- items made one by one, each with a property -/
theorem ret_compS {xs : List α} {f : α → Option (Option β)} (P : β → Prop) (h : ∀ x ∈ xs, Ret (f x) (fun r => ∃ y, r = some y ∧ P y)) : Ret (compS xs f) (fun ys => ys.length = xs.length ∧ ∀ y ∈ ys, P y) := by
  induction xs with
  | nil => exact ⟨[], rfl, rfl, by simp⟩
  | cons x xs ih =>
    obtain ⟨_, e, y, rfl, p⟩ := h x (by simp)
    obtain ⟨ys, e2, l, q⟩ := ih fun z hz => h z (by simp [hz])
    refine ⟨y :: ys, ?_, by simp [l], by simp; exact ⟨p, q⟩⟩
    show (f x).bind _ = _
    rw [e]
    show (compS xs f).bind _ = _
    rw [e2]; rfl
theorem cutL_from {xs : List α} {a : Int} (h : 0 ≤ a) : cutL xs (some a) none = xs.drop a.toNat := by
  unfold cutL
  obtain ⟨n, rfl⟩ : ∃ n : Nat, a = n := ⟨a.toNat, by omega⟩
  rw [HT.sIx_nat, HT.sIx_none, Int.toNat_natCast]
  by_cases hn : n ≤ xs.length
  · rw [Nat.min_eq_left hn]
    exact List.take_of_length_le (by rw [List.length_drop]; omega)
  · rw [Nat.min_eq_right (by omega)]
    simp
    omega
theorem cutL_to {xs : List α} {b : Int} (h : 0 ≤ b) : cutL xs none (some b) = xs.take b.toNat := by
  unfold cutL
  obtain ⟨n, rfl⟩ : ∃ n : Nat, b = n := ⟨b.toNat, by omega⟩
  rw [HT.sIx_nat, HT.sIx_none, Int.toNat_natCast]
  rw [List.drop_zero, Nat.sub_zero]
  by_cases hn : n ≤ xs.length
  · rw [Nat.min_eq_left hn]
  · rw [Nat.min_eq_right (by omega), List.take_of_length_le (Nat.le_refl _), List.take_of_length_le (by omega)]
theorem joinL_nil : ∀ xs : List Sg, TL.joinL [] xs = xs.flatten
  | [] => rfl
  | [x] => by simp [TL.joinL]
  | x :: y :: r => by
    show x ++ ([] ++ TL.joinL [] (y :: r)) = _
    rw [joinL_nil (y :: r)]
    simp
theorem joinM_of {sep : Sg} {xs : List Sg} (h : (xs.map List.length).sum + xs.length * sep.length ≤ 16777216) : joinM sep xs = some (TL.joinL sep xs) := need_eq (szB_of h)
end
end U
set_option Elab.async false
set_option linter.all false
set_option maxRecDepth 100000
set_option maxHeartbeats 4000000
namespace U
open PySem PySem.Spec L2
/-! ### trees, words: plain -/
abbrev Tre := List Int × Sg
inductive Anc (ups : List Int) : Nat → Nat → Prop where
  | refl (k : Nat) : Anc ups k k
  | up {k a : Nat} {u : Int} (h : ups[k]? = some u) (hu : 0 ≤ u) (r : Anc ups u.toNat a) : Anc ups k a
theorem get_app {α : Type} {xs ys : List α} {i : Nat} {a : α} (h : xs[i]? = some a) : (xs ++ ys)[i]? = some a := by
  rw [List.getElem?_append_left (List.getElem?_eq_some_iff.mp h).1]; exact h
theorem Anc.app {ups more : List Int} {k a : Nat} (h : Anc ups k a) : Anc (ups ++ more) k a := by
  induction h with
  | refl k => exact .refl k
  | up h hu _ ih => exact .up (get_app h) hu ih
theorem Anc.trans {ups : List Int} {k a b : Nat} (h : Anc ups k a) (h' : Anc ups a b) : Anc ups k b := by
  induction h with
  | refl k => exact h'
  | up h hu _ ih => exact .up h hu (ih h')
structure UpsOk (ups : List Int) : Prop where
  root : ups[0]? = some (-1)
  up : ∀ (k : Nat) (u : Int), 0 < k → ups[k]? = some u → 0 ≤ u ∧ u < k
  ch : ∀ (k : Nat) (u : Int), 0 < k → ups[k]? = some u → Anc ups (k - 1) u.toNat
structure TreeOk (t : Tre) : Prop where
  len : t.1.length = t.2.length
  most : t.1.length ≤ 60
  ups : UpsOk t.1
  low : ∀ c ∈ t.2, 97 ≤ c ∧ c ≤ 122
theorem UpsOk.pos {ups : List Int} (h : UpsOk ups) : 0 < ups.length := by
  have := h.root
  cases ups with
  | nil => cases this
  | cons _ _ => simp
theorem UpsOk.one : UpsOk [-1] := ⟨rfl, fun k u hk h => by
  cases k with
  | zero => omega
  | succ k => simp at h, fun k u hk h => by
  cases k with
  | zero => omega
  | succ k => simp at h⟩
theorem UpsOk.snoc {ups : List Int} {p : Int} (h : UpsOk ups) (h0 : 0 ≤ p) (hp : p < ups.length) (ha : Anc ups (ups.length - 1) p.toNat) : UpsOk (ups ++ [p]) := by
  have hl := h.pos
  refine ⟨get_app h.root, fun k u hk e => ?_, fun k u hk e => ?_⟩
  · by_cases hlt : k < ups.length
    · rw [List.getElem?_append_left hlt] at e; exact h.up k u hk e
    · rw [List.getElem?_append_right (by omega)] at e
      have hk2 : k = ups.length := by
        by_cases h9 : k - ups.length = 0
        · omega
        · rw [List.getElem?_eq_none (by simp; omega)] at e; cases e
      subst hk2
      simp at e; subst e
      exact ⟨h0, hp⟩
  · by_cases hlt : k < ups.length
    · rw [List.getElem?_append_left hlt] at e; exact (h.ch k u hk e).app
    · rw [List.getElem?_append_right (by omega)] at e
      have hk2 : k = ups.length := by
        by_cases h9 : k - ups.length = 0
        · omega
        · rw [List.getElem?_eq_none (by simp; omega)] at e; cases e
      subst hk2
      simp at e; subst e
      exact ha.app
/-- all come to the root -/
theorem UpsOk.toRoot {ups : List Int} (h : UpsOk ups) : ∀ k, k < ups.length → Anc ups k 0 := by
  intro k
  induction k using Nat.strongRecOn with
  | _ k ih =>
    intro hk
    by_cases h0 : k = 0
    · subst h0; exact .refl 0
    · have e := List.getElem?_eq_getElem hk
      obtain ⟨a, b⟩ := h.up k _ (by omega) e
      exact .up e a (ih _ (by omega) (by omega))
/-- the word of a place -/
def wdF (ups : List Int) (labels : Sg) : Nat → Nat → Sg
  | 0, _ => []
  | n + 1, k => labels.getD k 0 :: (if 0 ≤ ups.getD k (-1) then wdF ups labels n (ups.getD k (-1)).toNat else [])
def wd (t : Tre) (k : Nat) : Sg := wdF t.1 t.2 (k + 1) k
theorem getD_of {α : Type} {xs : List α} {i : Nat} {a d : α} (h : xs[i]? = some a) : xs.getD i d = a := by
  rw [List.getD_eq_getElem?_getD, h]; rfl
theorem wdF_eq {ups : List Int} (labels : Sg) (ok : UpsOk ups) : ∀ (n m k : Nat), k < n → k < m → k < ups.length → wdF ups labels n k = wdF ups labels m k
  | 0, _, _, h, _, _ => by omega
  | _, 0, _, _, h, _ => by omega
  | n + 1, m + 1, k, h1, h2, h3 => by
    unfold wdF
    congr 1
    have e := List.getElem?_eq_getElem h3
    rw [getD_of e]
    by_cases h0 : 0 ≤ ups[k]
    · rw [if_pos h0, if_pos h0]
      by_cases hk : k = 0
      · subst hk
        rw [ok.root] at e
        have e2 : -1 = ups[0] := Option.some.inj e
        omega
      · obtain ⟨a, b⟩ := ok.up k _ (by omega) e
        exact wdF_eq labels ok n m _ (by omega) (by omega) (by omega)
    · rw [if_neg h0, if_neg h0]
theorem wd_root {t : Tre} (ok : UpsOk t.1) : wd t 0 = [t.2.getD 0 0] := by
  unfold wd wdF
  rw [getD_of ok.root]
  rfl
theorem wd_up {t : Tre} (ok : UpsOk t.1) {k : Nat} {u : Int} (h0 : 0 < k) (h : t.1[k]? = some u) : wd t k = t.2.getD k 0 :: wd t u.toNat := by
  have hk := (List.getElem?_eq_some_iff.mp h).1
  obtain ⟨a, b⟩ := ok.up k u h0 h
  show wdF t.1 t.2 (k + 1) k = _ :: wdF t.1 t.2 (u.toNat + 1) u.toNat
  rw [wdF.eq_def]
  simp only [getD_of h, if_pos a]
  rw [wdF_eq t.2 ok k (u.toNat + 1) u.toNat (by omega) (by omega) (by omega)]
theorem wd_len {t : Tre} (ok : UpsOk t.1) : ∀ k, k < t.1.length → 1 ≤ (wd t k).length ∧ (wd t k).length ≤ k + 1 := by
  intro k
  induction k using Nat.strongRecOn with
  | _ k ih =>
    intro hk
    by_cases h0 : k = 0
    · subst h0; rw [wd_root ok]; simp
    · have e := List.getElem?_eq_getElem hk
      obtain ⟨a, b⟩ := ok.up k _ (by omega) e
      rw [wd_up ok (by omega) e]
      have := ih _ (show (t.1[k]).toNat < k by omega) (by omega)
      simp; omega
/-- going up from a place: the word of an int, none below 0 -/
def wdI (t : Tre) (i : Int) : Sg := if 0 ≤ i then wd t i.toNat else []
theorem wdI_eq {t : Tre} (ok : UpsOk t.1) {i u : Int} (h0 : 0 ≤ i) (h : t.1[i.toNat]? = some u) : wdI t i = t.2.getD i.toNat 0 :: wdI t u := by
  unfold wdI
  rw [if_pos h0]
  by_cases hk : i.toNat = 0
  · rw [hk] at h ⊢
    rw [wd_root ok]
    rw [ok.root] at h
    have : u = -1 := (Option.some.inj h).symm
    subst this; rfl
  · obtain ⟨a, b⟩ := ok.up _ u (by omega) h
    rw [if_pos a, wd_up ok (by omega) h]
end U
set_option Elab.async false
set_option linter.all false
set_option maxRecDepth 100000
set_option maxHeartbeats 4000000
namespace U
open PySem PySem.Spec L2
/-! ### plain: numbers of things in order -/
section
variable {α β : Type} [DecidableEq α] [DecidableEq β] {lt : α → α → Bool} {lt' : β → β → Bool} {xs ys : List α} {a b : α}
/-- how many unlike ones are less -/
def rk (lt : α → α → Bool) (xs : List α) (a : α) : Nat := ((uq xs).filter fun x => lt x a).length
theorem sset_mem : a ∈ ssetL lt xs ↔ a ∈ xs := by unfold ssetL; rw [srt_mem, mem_uq]
theorem sset_nd : (ssetL lt xs).Nodup := (srt_perm.nodup_iff).mpr (uq_nodup xs)
theorem sset_len : (ssetL lt xs).length ≤ xs.length := by unfold ssetL; rw [srt_len]; exact uq_len xs
theorem sset_lt (O : Lo lt) : (ssetL lt xs).Pairwise fun a b => lt a b = true := by
  have h1 : (ssetL lt xs).Pairwise fun a b => lt b a = false := srt_sorted O
  have h2 : (ssetL lt xs).Pairwise fun a b => a ≠ b := sset_nd
  refine (h1.and h2).imp fun {x y} ⟨h, n⟩ => ?_
  cases e : lt x y with
  | true => rfl
  | false => exact absurd (O.tot x y e h) n
theorem cnt_at (O : Lo lt) : ∀ {l : List α} {i : Nat}, l.Pairwise (fun a b => lt a b = true) → l[i]? = some a → (l.filter fun x => lt x a).length = i
  | [], _, _, h => by simp at h
  | y :: ys, 0, hp, h => by
    have e : y = a := by simpa using h
    subst e
    have hp := (List.pairwise_cons.mp hp).1
    rw [List.filter_cons, if_neg (by rw [O.irr]; decide)]
    rw [List.length_eq_zero_iff, List.filter_eq_nil_iff]
    intro z hz
    rw [O.asym (hp z hz)]; decide
  | y :: ys, i + 1, hp, h => by
    have h' : ys[i]? = some a := by simpa using h
    obtain ⟨h1, h2⟩ := List.pairwise_cons.mp hp
    rw [List.filter_cons, if_pos (h1 a (List.mem_of_getElem? h')), List.length_cons, cnt_at O h2 h']
theorem rk_at (O : Lo lt) {i : Nat} (h : (ssetL lt xs)[i]? = some a) : rk lt xs a = i := by
  unfold rk
  rw [← cnt_at O (sset_lt O) h]
  exact ((srt_perm (lt := lt) (xs := uq xs)).filter _).length_eq.symm
theorem rk_get (O : Lo lt) (h : a ∈ xs) : (ssetL lt xs)[rk lt xs a]? = some a := by
  obtain ⟨i, hi⟩ := List.getElem?_of_mem (sset_mem (lt := lt).mpr h)
  rw [rk_at O hi]; exact hi
theorem rk_lt (O : Lo lt) (ha : a ∈ xs) (hb : b ∈ xs) : rk lt xs a < rk lt xs b ↔ lt a b = true := by
  have h1 := rk_get O ha
  have h2 := rk_get O hb
  have hp := List.pairwise_iff_getElem.mp (sset_lt O (xs := xs))
  obtain ⟨l1, e1⟩ := List.getElem?_eq_some_iff.mp h1
  obtain ⟨l2, e2⟩ := List.getElem?_eq_some_iff.mp h2
  constructor
  · intro h
    have := hp _ _ l1 l2 h
    rw [e1, e2] at this; exact this
  · intro h
    rcases Nat.lt_trichotomy (rk lt xs a) (rk lt xs b) with z | z | z
    · exact z
    · rw [z] at h1
      rw [h1] at h2
      have := Option.some.inj h2
      subst this
      rw [O.irr] at h; cases h
    · have := hp _ _ l2 l1 z
      rw [e1, e2] at this
      rw [O.asym this] at h; cases h
theorem rk_eq (O : Lo lt) (ha : a ∈ xs) (hb : b ∈ xs) : rk lt xs a = rk lt xs b ↔ a = b := by
  refine ⟨fun h => ?_, fun h => by rw [h]⟩
  have h1 := rk_get O ha
  have h2 := rk_get O hb
  rw [h] at h1
  rw [h1] at h2
  exact Option.some.inj h2
theorem rk_len (O : Lo lt) (ha : a ∈ xs) : rk lt xs a < xs.length := Nat.lt_of_lt_of_le (List.getElem?_eq_some_iff.mp (rk_get O ha)).1 sset_len
/-- the same of things in step -/
theorem rk_iso {γ : Type} (u : γ → α) (v : γ → β) (O : Lo lt) (O' : Lo lt') (ks : List γ) (h : ∀ j ∈ ks, ∀ k ∈ ks, lt (u j) (u k) = lt' (v j) (v k)) {k : γ} (hk : k ∈ ks) : rk lt (ks.map u) (u k) = rk lt' (ks.map v) (v k) := by
  have eqi : ∀ j ∈ ks, ∀ k ∈ ks, u j = u k ↔ v j = v k := fun j hj k hk => by
    constructor
    · intro e
      refine O'.tot _ _ ?_ ?_
      · rw [← h j hj k hk, e]; exact O.irr _
      · rw [← h k hk j hj, e]; exact O.irr _
    · intro e
      refine O.tot _ _ ?_ ?_
      · rw [h j hj k hk, e]; exact O'.irr _
      · rw [h k hk j hj, e]; exact O'.irr _
  unfold rk
  have key : ∀ js : List γ, (∀ j ∈ js, j ∈ ks) → ((uq (js.map u)).filter fun x => lt x (u k)).length = ((uq (js.map v)).filter fun x => lt' x (v k)).length := fun js => by
    induction js with
    | nil => intro _; rfl
    | cons j js ih =>
      intro hs
      have hj := hs j List.mem_cons_self
      have ih := ih fun i hi => hs i (List.mem_cons_of_mem _ hi)
      have hm : u j ∈ js.map u ↔ v j ∈ js.map v := by
        constructor
        · intro hm
          obtain ⟨i, hi, e⟩ := List.mem_map.mp hm
          exact List.mem_map.mpr ⟨i, hi, (eqi i (hs i (List.mem_cons_of_mem _ hi)) j hj).mp e⟩
        · intro hm
          obtain ⟨i, hi, e⟩ := List.mem_map.mp hm
          exact List.mem_map.mpr ⟨i, hi, (eqi i (hs i (List.mem_cons_of_mem _ hi)) j hj).mpr e⟩
      show ((uq (u j :: js.map u)).filter _).length = ((uq (v j :: js.map v)).filter _).length
      unfold uq
      by_cases hin : u j ∈ js.map u
      · rw [if_pos hin, if_pos (hm.mp hin)]; exact ih
      · rw [if_neg hin, if_neg (fun z => hin (hm.mpr z)), List.filter_cons, List.filter_cons, h j hj k hk]
        split
        · rw [List.length_cons, List.length_cons, ih]
        · exact ih
  exact key ks fun j hj => hj
/-- the order of things in step -/
theorem srt_iso {γ : Type} (u : γ → α) (v : γ → β) (ks : List γ) (h : ∀ j ∈ ks, ∀ k ∈ ks, lt (u j) (u k) = lt' (v j) (v k)) :
    ∃ js : List γ, js.Perm ks ∧ srtL lt (ks.map u) = js.map u ∧ srtL lt' (ks.map v) = js.map v := by
  refine ⟨ks.mergeSort fun a b => !lt (u b) (u a), List.mergeSort_perm _ _, ?_, ?_⟩
  · unfold srtL
    exact (List.map_mergeSort (s := fun a b => !lt b a) (f := u) (l := ks) (r := fun a b => !lt (u b) (u a)) fun a _ b _ => rfl).symm
  · unfold srtL
    exact (List.map_mergeSort fun a ha b hb => by
      show (!lt (u b) (u a)) = (!lt' (v b) (v a))
      rw [h b hb a ha]).symm
end
/-! ### plain: dicts of pairs -/
section
variable {α β : Type} [DecidableEq α] {ps : List (α × β)} {a : α} {b : β}
theorem dput_new {xs : List (α × β)} (h : a ∉ xs.map Prod.fst) : dput xs a b = xs ++ [(a, b)] := by
  unfold dput
  rw [if_neg]
  rw [List.any_eq_true]
  rintro ⟨x, hx, e⟩
  exact h (List.mem_map.mpr ⟨x, hx, of_decide_eq_true e⟩)
theorem ofPairs_nd (h : (ps.map Prod.fst).Nodup) : ofPairs ps = ps := by
  have key : ∀ (ps acc : List (α × β)), ((acc ++ ps).map Prod.fst).Nodup → ps.foldl (fun acc kv => dput acc kv.1 kv.2) acc = acc ++ ps := fun ps => by
    induction ps with
    | nil => intro acc _; simp
    | cons p ps ih =>
      intro acc hn
      rw [List.foldl_cons, dput_new, ih]
      · simp
      · simpa using hn
      · intro hm
        rw [List.map_append, List.map_cons] at hn
        exact (List.nodup_append.mp hn).2.2 p.1 hm p.1 (by simp) rfl
  have := key ps [] (by simpa using h)
  unfold ofPairs
  simpa using this
theorem lkp_of : ∀ {ps : List (α × β)}, (ps.map Prod.fst).Nodup → (a, b) ∈ ps → lkp ps a = some b
  | [], _, h => by cases h
  | p :: ps, hn, h => by
    rw [List.map_cons, List.nodup_cons] at hn
    unfold lkp
    rw [List.find?_cons]
    rcases List.mem_cons.mp h with e | e
    · subst e; simp
    · have hne : p.1 ≠ a := fun z => hn.1 (List.mem_map.mpr ⟨(a, b), e, z.symm⟩)
      rw [decide_eq_false hne]
      exact lkp_of hn.2 e
end
theorem enumL_get {α : Type} {xs : List α} {i : Nat} {x : Int × α} (h : (enumL xs)[i]? = some x) : x.1 = i ∧ xs[i]? = some x.2 := by
  unfold enumL at h
  rw [List.getElem?_mapIdx] at h
  cases e : xs[i]? with
  | none => rw [e] at h; cases h
  | some b =>
    rw [e] at h
    have ea : ((i : Int), b) = x := Option.some.inj h
    subst ea; exact ⟨rfl, rfl⟩
theorem enumL_at {α : Type} {xs : List α} {i : Nat} {a : α} (h : xs[i]? = some a) : (enumL xs)[i]? = some ((i : Int), a) := by
  unfold enumL
  rw [List.getElem?_mapIdx, h]; rfl
theorem enumL_len {α : Type} (xs : List α) : (enumL xs).length = xs.length := by simp [enumL]
theorem enumL_mem {α : Type} {xs : List α} {x : Int × α} (h : x ∈ enumL xs) : ∃ i : Nat, x.1 = i ∧ xs[i]? = some x.2 := by
  obtain ⟨i, hi⟩ := List.getElem?_of_mem h
  exact ⟨i, enumL_get hi⟩
theorem enumL_snd {α : Type} (xs : List α) : (enumL xs).map Prod.snd = xs := by
  refine List.ext_getElem? fun i => ?_
  rw [List.getElem?_map]
  unfold enumL
  rw [List.getElem?_mapIdx]
  cases xs[i]? <;> rfl
/-- each key's place in a list of unlike ones -/
theorem lkp_enum {α : Type} [DecidableEq α] {l : List α} (hn : l.Nodup) {i : Nat} {a : α} (h : l[i]? = some a) : lkp (ofPairs ((enumL l).map fun p => (p.2, p.1))) a = some (i : Int) := by
  have e : ((enumL l).map fun p => (p.2, p.1)).map Prod.fst = l := by rw [List.map_map]; exact enumL_snd l
  rw [ofPairs_nd (by rw [e]; exact hn)]
  exact lkp_of (by rw [e]; exact hn) (List.mem_map.mpr ⟨((i : Int), a), List.mem_of_getElem? (enumL_at h), rfl⟩)
/-! ### plain: words in a tree -/
theorem wd_low {t : Tre} (T : TreeOk t) : ∀ k, k < t.1.length → ∀ c ∈ wd t k, 97 ≤ c ∧ c ≤ 122 := by
  intro k
  have hl := T.len
  have ng : ∀ k, k < t.1.length → 97 ≤ t.2.getD k 0 ∧ t.2.getD k 0 ≤ 122 := fun k hk => by
    have h := List.getElem?_eq_getElem (show k < t.2.length by omega)
    rw [getD_of h]
    exact T.low _ (List.getElem_mem _)
  induction k using Nat.strongRecOn with
  | _ k ih =>
    intro hk c hc
    by_cases h0 : k = 0
    · subst h0
      rw [wd_root T.ups] at hc
      simp at hc
      subst hc
      exact ng 0 hk
    · have e := List.getElem?_eq_getElem hk
      obtain ⟨a, b⟩ := T.ups.up k _ (by omega) e
      rw [wd_up T.ups (by omega) e] at hc
      rcases List.mem_cons.mp hc with h | h
      · subst h; exact ng k hk
      · exact ih _ (by omega) (by omega) c h
theorem wdI_nat {t : Tre} (k : Nat) : wdI t (k : Int) = wd t k := by unfold wdI; rw [if_pos (by omega)]; simp
theorem up_bd {t : Tre} (T : TreeOk t) {k : Nat} {u : Int} (h : t.1[k]? = some u) : -1 ≤ u ∧ u < k := by
  by_cases h0 : k = 0
  · subst h0
    rw [T.ups.root] at h
    have : -1 = u := Option.some.inj h
    omega
  · have := T.ups.up k u (by omega) h
    omega
theorem wd_cons {t : Tre} (T : TreeOk t) {k : Nat} {u : Int} (h : t.1[k]? = some u) : wd t k = t.2.getD k 0 :: wdI t u := by
  have := wdI_eq T.ups (i := (k : Int)) (by omega) (by rw [Int.toNat_natCast]; exact h)
  rw [wdI_nat, Int.toNat_natCast] at this
  exact this
theorem wd_ne {t : Tre} (T : TreeOk t) {k : Nat} (h : k < t.1.length) : wd t k ≠ [] := fun e => by
  have := wd_len T.ups k h
  rw [e] at this
  simp at this
theorem ltS_cons (c d : Nat) (x y : Sg) : ltS (c :: x) (d :: y) = (decide (c < d) || (decide (c = d) && ltS x y)) := by
  unfold ltS
  rw [Bool.eq_iff_iff]
  simp only [decide_eq_true_eq, Bool.or_eq_true, Bool.and_eq_true]
  exact List.cons_lt_cons_iff
theorem ltS_nil (y : Sg) : ltS [] y = !y.isEmpty := by
  cases y with
  | nil => simp [ltS]
  | cons c r => simp [ltS]
theorem ltS_nil2 (x : Sg) : ltS x [] = false := by simp [ltS]
theorem ltS_one (c d : Nat) : ltS [c] [d] = decide (c < d) := by
  rw [ltS_cons, ltS_nil]
  simp
end U
namespace U
open PySem PySem.Spec L2
section
variable {α β σ ρ : Type} {P : β → Prop}
theorem ret_compO {xs : List α} {s : σ} {f : σ → α → Option (σ × Option β)} (I : σ → Prop) (P : β → Prop) (h0 : I s) (h : ∀ x ∈ xs, ∀ s, I s → Ret (f s x) (fun r => I r.1 ∧ ∃ y, r.2 = some y ∧ P y)) :
    Ret (compO xs s f) (fun r => I r.1 ∧ r.2.length = xs.length ∧ ∀ y ∈ r.2, P y) := by
  induction xs generalizing s with
  | nil => exact ⟨_, rfl, h0, rfl, nofun⟩
  | cons x xs ih =>
    obtain ⟨r, e, h1, y, e2, p⟩ := h x List.mem_cons_self s h0
    obtain ⟨q, e3, h2, l, h3⟩ := ih h1 fun z hz => h z (List.mem_cons_of_mem _ hz)
    refine ⟨(q.1, y :: q.2), ?_, h2, by simp [l], fun z hz => (List.mem_cons.mp hz).elim (fun e => e ▸ p) (h3 z)⟩
    show (f s x).bind _ = _
    rw [e]
    show (compO xs r.1 f).bind _ = _
    rw [e3, e2]; rfl
theorem idx_rk [DecidableEq α] {lt : α → α → Bool} (O : Lo lt) {xs : List α} {a : α} (h : a ∈ xs) : idxM (ssetL lt xs) a = some (rk lt xs a : Int) := by
  unfold idxM
  have h1 := rk_get O h
  obtain ⟨l, e⟩ := List.getElem?_eq_some_iff.mp h1
  have : (ssetL lt xs).findIdx? (fun x => decide (x = a)) = some (rk lt xs a) := by
    rw [List.findIdx?_eq_some_iff_getElem]
    refine ⟨l, decide_eq_true e, fun j hj => ?_⟩
    intro z
    have z := of_decide_eq_true z
    have hp := List.pairwise_iff_getElem.mp (sset_lt O (xs := xs)) j _ (by omega) l hj
    rw [z, e, O.irr] at hp
    cases hp
  rw [this]; rfl
end
/-- how many letters two words have in common at the beginning -/
def cp : Sg → Sg → Nat
  | c :: x, d :: y => if c = d then cp x y + 1 else 0
  | _, _ => 0
theorem cp_le : ∀ x y : Sg, cp x y ≤ x.length ∧ cp x y ≤ y.length
  | [], _ => ⟨Nat.le_refl _, Nat.zero_le _⟩
  | _ :: _, [] => ⟨Nat.zero_le _, Nat.le_refl _⟩
  | c :: x, d :: y => by
    unfold cp
    have := cp_le x y
    split
    · simp; omega
    · simp
/-! ### plain: the order of a tree's places -/
def wlt (t : Tre) (j k : Nat) : Bool := ltP ltS ltI (wd t j, (j : Int)) (wd t k, (k : Int))
theorem lo_w (t : Tre) : Lo (wlt t) := by
  have O : Lo (ltP ltS ltI) := lo_P lo_S lo_I
  refine ⟨fun x => O.irr _, fun x y z h k => O.tr _ _ _ h k, fun x y h k => ?_⟩
  have e := congrArg Prod.snd (O.tot _ _ h k)
  have e2 : (x : Int) = (y : Int) := e
  omega
def ordL (t : Tre) : List Nat := srtL (wlt t) (List.range t.1.length)
theorem ordL_perm (t : Tre) : (ordL t).Perm (List.range t.1.length) := srt_perm
theorem ordL_len (t : Tre) : (ordL t).length = t.1.length := by rw [(ordL_perm t).length_eq, List.length_range]
theorem ordL_nd (t : Tre) : (ordL t).Nodup := (ordL_perm t).nodup_iff.mpr List.nodup_range
theorem ordL_mem {t : Tre} {k : Nat} : k ∈ ordL t ↔ k < t.1.length := by rw [(ordL_perm t).mem_iff, List.mem_range]
theorem ordL_lt (t : Tre) : (ordL t).Pairwise fun a b => wlt t a b = true := by
  have h1 : (ordL t).Pairwise fun a b => wlt t b a = false := srt_sorted (lo_w t)
  have h2 : (ordL t).Pairwise fun a b => a ≠ b := ordL_nd t
  refine (h1.and h2).imp fun {x y} ⟨h, n⟩ => ?_
  cases e : wlt t x y with
  | true => rfl
  | false => exact absurd ((lo_w t).tot x y e h) n
/-- a place's rank -/
def pos (t : Tre) (k : Nat) : Nat := ((List.range t.1.length).filter fun j => wlt t j k).length
theorem pos_at {t : Tre} {i k : Nat} (h : (ordL t)[i]? = some k) : pos t k = i := by
  rw [← cnt_at (lo_w t) (ordL_lt t) h]
  exact ((ordL_perm t).filter _).length_eq.symm
theorem pos_get {t : Tre} {k : Nat} (h : k < t.1.length) : (ordL t)[pos t k]? = some k := by
  obtain ⟨i, hi⟩ := List.getElem?_of_mem (ordL_mem.mpr h)
  rw [pos_at hi]; exact hi
theorem wds_sorted (t : Tre) : srtL ltS ((List.range t.1.length).map (wd t)) = (ordL t).map (wd t) := by
  refine srt_of lo_S ((ordL_perm t).map _).symm ?_
  refine List.pairwise_map.mpr ((ordL_lt t).imp fun {a b} h => ?_)
  unfold wlt ltP at h
  dsimp only at h
  by_cases e : wd t a = wd t b
  · rw [e]; exact lo_S.irr _
  · rw [if_neg e] at h; exact lo_S.asym h
theorem range_of_upto (n : Nat) : upto 0 (n : Int) = (List.range n).map fun k : Nat => (k : Int) := by
  unfold upto
  rw [show ((n : Int) - 0).toNat = n by omega]
  exact List.map_congr_left fun k _ => Int.zero_add _
end U
namespace U
open PySem PySem.Spec L2
section
variable {α β σ : Type}
theorem ret_compOi {xs : List α} {s : σ} {f : σ → α → Option (σ × Option β)} (I : Nat → σ → Prop) (P : β → Prop) (h0 : I 0 s) (h : ∀ i x, xs[i]? = some x → i < xs.length → ∀ s, I i s → Ret (f s x) (fun r => I (i + 1) r.1 ∧ ∃ y, r.2 = some y ∧ P y)) :
    Ret (compO xs s f) (fun r => I xs.length r.1 ∧ r.2.length = xs.length ∧ ∀ y ∈ r.2, P y) := by
  induction xs generalizing s I with
  | nil => exact ⟨_, rfl, h0, rfl, nofun⟩
  | cons x xs ih =>
    obtain ⟨r, e, h1, y, e2, p⟩ := h 0 x rfl (Nat.succ_pos _) s h0
    obtain ⟨q, e3, h2, l, h3⟩ := ih (fun i => I (i + 1)) h1 fun i z hz hi => h (i + 1) z hz (Nat.succ_lt_succ hi)
    refine ⟨(q.1, y :: q.2), ?_, h2, by simp [l], fun z hz => (List.mem_cons.mp hz).elim (fun e => e ▸ p) (h3 z)⟩
    show (f s x).bind _ = _
    rw [e]
    show (compO xs r.1 f).bind _ = _
    rw [e3, e2]; rfl
end
theorem powM_of {i j : Int} (h : 0 ≤ j ∧ j ≤ 1000000) (k : i.natAbs < 18446744073709551616) : powM i j = some (i ^ j.toNat) := need_eq (decide_eq_true ⟨h.1, h.2, k⟩)
theorem ret_in {α : Type} {xs : List α} {i : Int} (h0 : 0 ≤ i) (h : i < xs.length) : Ret (atI xs i) (fun a => a ∈ xs) := (ret_at h0 h).mono fun _ e => List.mem_of_getElem? e
theorem b2_01 (b : Bool) : 0 ≤ b2 b ∧ b2 b ≤ 1 := by cases b <;> decide
end U
namespace U
open PySem PySem.Spec L2
theorem pos_lt {t : Tre} {j k : Nat} (hj : j < t.1.length) (hk : k < t.1.length) : pos t j < pos t k ↔ wlt t j k = true := by
  have h1 := pos_get hj
  have h2 := pos_get hk
  have hp := List.pairwise_iff_getElem.mp (ordL_lt t)
  obtain ⟨l1, e1⟩ := List.getElem?_eq_some_iff.mp h1
  obtain ⟨l2, e2⟩ := List.getElem?_eq_some_iff.mp h2
  constructor
  · intro h
    have := hp _ _ l1 l2 h
    rw [e1, e2] at this; exact this
  · intro h
    rcases Nat.lt_trichotomy (pos t j) (pos t k) with z | z | z
    · exact z
    · rw [z] at h1
      rw [h1] at h2
      have := Option.some.inj h2
      subst this
      rw [(lo_w t).irr] at h; cases h
    · have := hp _ _ l2 l1 z
      rw [e1, e2] at this
      rw [(lo_w t).asym this] at h; cases h
theorem pos_eq {t : Tre} {j k : Nat} (hj : j < t.1.length) (hk : k < t.1.length) : pos t j = pos t k ↔ j = k := by
  refine ⟨fun h => ?_, fun h => by rw [h]⟩
  have h1 := pos_get hj
  have h2 := pos_get hk
  rw [h, h2] at h1
  exact (Option.some.inj h1).symm
theorem pos_bd {t : Tre} {k : Nat} (hk : k < t.1.length) : pos t k < t.1.length := by
  have := (List.getElem?_eq_some_iff.mp (pos_get hk)).1
  rw [ordL_len] at this; exact this
theorem enumL_range {α : Type} (xs : List α) (d : α) : enumL xs = (List.range xs.length).map fun k : Nat => ((k : Int), xs.getD k d) := by
  refine List.ext_getElem? fun k => ?_
  rw [List.getElem?_map]
  by_cases hk : k < xs.length
  · rw [enumL_at (List.getElem?_eq_getElem hk), List.getElem?_range hk, ← getD_of (d := d) (List.getElem?_eq_getElem hk)]; rfl
  · rw [List.getElem?_eq_none (by rw [enumL_len]; omega), List.getElem?_eq_none (by simp; omega)]; rfl
/-- the place above -/
def upN (t : Tre) (k : Nat) : Nat := (t.1.getD k 0).toNat
theorem upN_bd {t : Tre} (T : TreeOk t) {k : Nat} (h0 : 0 < k) (hk : k < t.1.length) : upN t k < k ∧ t.1[k]? = some (upN t k : Int) := by
  have e := List.getElem?_eq_getElem hk
  obtain ⟨a, b⟩ := T.ups.up k _ h0 e
  unfold upN
  rw [getD_of e]
  exact ⟨by omega, by rw [e]; exact congrArg some (by omega)⟩
/-- all places but the root, in the kept order: by the word of the place above, by that place, by their numbers -/
def klt (t : Tre) (j k : Nat) : Bool := ltP ltS (ltP ltI ltI) (wd t (upN t j), (upN t j : Int), (j : Int)) (wd t (upN t k), (upN t k : Int), (k : Int))
def others (t : Tre) : List Nat := (List.range (t.1.length - 1)).map (· + 1)
def keptL (t : Tre) : List Nat := 0 :: srtL (klt t) (others t)
theorem lo_k (t : Tre) : Lo (klt t) := by
  have O : Lo (ltP ltS (ltP ltI ltI)) := lo_P lo_S (lo_P lo_I lo_I)
  refine ⟨fun x => O.irr _, fun x y z h k => O.tr _ _ _ h k, fun x y h k => ?_⟩
  have e := congrArg (fun p : Sg × Int × Int => p.2.2) (O.tot _ _ h k)
  have e2 : (x : Int) = (y : Int) := e
  omega
theorem others_mem {t : Tre} {k : Nat} : k ∈ others t ↔ 0 < k ∧ k < t.1.length := by
  unfold others
  rw [List.mem_map]
  constructor
  · rintro ⟨j, hj, rfl⟩
    have := List.mem_range.mp hj
    omega
  · intro h
    exact ⟨k - 1, List.mem_range.mpr (by omega), by omega⟩
theorem others_nd (t : Tre) : (others t).Nodup := by
  refine List.pairwise_map.mpr (List.Pairwise.imp (fun h e => h (by omega)) List.nodup_range)
theorem keptL_perm {t : Tre} (h : 0 < t.1.length) : (keptL t).Perm (List.range t.1.length) := by
  have e : List.range t.1.length = 0 :: others t := by
    obtain ⟨n, hn⟩ : ∃ n, t.1.length = n + 1 := ⟨t.1.length - 1, by omega⟩
    unfold others
    rw [hn, List.range_succ_eq_map]; rfl
  rw [e]
  exact (srt_perm (lt := klt t) (xs := others t)).cons 0
theorem reprM_ints {xs : List Int} (h : ∀ x ∈ xs, x.natAbs < 2 ^ 60) (hl : xs.length ≤ 100000) : ∃ s, reprM ((dL dI).d xs) = some s := by
  refine ⟨_, reprM_of (e := 1) (B := 100000 * 63 + 2) ?_ (by decide) (by decide)⟩
  show Rk 1 _ (.list (xs.map dI.d))
  have h9 := rks_all (e := 0) (B := 61) (ds := xs.map dI.d) fun d hd => by
    obtain ⟨x, hx, rfl⟩ := List.mem_map.mp hd
    exact rk_int (k := 60) (by decide) (h x hx) (by decide)
  refine (rk_list h9).mono (Nat.le_refl _) ?_
  rw [List.length_map]
  omega
end U
set_option Elab.async false
set_option linter.all false
set_option maxRecDepth 100000
set_option maxHeartbeats 4000000
namespace G
open PySem PySem.Spec L2 U

def topS (i : Nat) : Stmt := PySem.Challenge.pw_upwords_k22_letters_ahead_and_behind.main.body.getD i (.Pass ⟨0, 0, 0, 0⟩)
abbrev s_depths_of : Stmt := topS 5
abbrev s_word_of : Stmt := topS 7
abbrev s_numbered_keys : Stmt := topS 8
abbrev s_number_above : Stmt := topS 9
abbrev s_classes_of : Stmt := topS 10
abbrev s_order_of : Stmt := topS 13
abbrev s_sorted_words : Stmt := topS 15
abbrev s_less_than : Stmt := topS 16
abbrev s_not_above : Stmt := topS 17
abbrev s_stretch_in : Stmt := topS 18
abbrev s_many_in : Stmt := topS 20
abbrev s_letters_more : Stmt := topS 21
abbrev s_fronts_of : Stmt := topS 22
abbrev s_behinds_of : Stmt := topS 23
abbrev s__law_prime : Stmt := topS 25
abbrev s__law_pool : Stmt := topS 26
abbrev s__law_take : Stmt := topS 27
abbrev s__law_cells : Stmt := topS 28
abbrev s__law_letter : Stmt := topS 29
abbrev s__law_tree : Stmt := topS 30
abbrev s__law_word : Stmt := topS 31
abbrev s__law_reads : Stmt := topS 32
abbrev s__law_seek : Stmt := topS 33
abbrev s__law_same : Stmt := topS 34
abbrev s__law_pairs : Stmt := topS 35
abbrev s__law_right : Stmt := topS 36
abbrev s_law : Stmt := topS 37
section
variable {P : Program} {w : World} {K : PySem.W.Frag} {mg : Str → Option Value} {base : Heap}
def m_depths_of (x_tree : (List Int × Sg)) : Option (List Int) :=
  (foldO (cutL x_tree.1 (some (1 : Int)) none) [(0 : Int)] fun s51 a50 =>
  (atI s51 a50).bind fun a67 =>
  (snocM s51 (a67 + (1 : Int))).bind fun l70 =>
  some l70).bind fun s42 =>
  some s42
def sp_depths_of (K : PySem.W.Frag) : Sp := fun vs H Q _ => ∃ (F : Hp) (v_tree : V) (x_tree : (List Int × Sg)) (r : List Int), vs = [v_tree] ∧ Sub F H ∧ (eP2 (eT eI) eS).r F v_tree x_tree ∧ m_depths_of x_tree = some r ∧ ∀ (v : V) (F' H' : Hp) , Gr [] F H F' H' → New eI H F' H' v r → Q v H'
theorem sc_depths_of : FnScope ["tree", "found", "up"] ["tree"] (defScope s_depths_of) := ⟨rfl, rfl, rfl, by decide +kernel, rfl, by decide +kernel, by decide +kernel⟩
theorem ok_depths_of {f : Addr} {fd : FuncData} (F : FnP K "depths_of" s_depths_of f fd)  : FnG P w K mg base CX0 1 f fd ["tree"] (sp_depths_of K) := by
  refine FnDok F sc_depths_of (fun vs H Q E h => ?_) (fun cdv A outer s H0 vs Q E gd hr h => ?_)
  · obtain ⟨_, _, _, _, rfl, _⟩ := h
    rfl
  · obtain ⟨F0, v_tree, x_tree, r0, rfl, hs0, r_tree, hm, hk⟩ := h
    have g0 : Gr [] F0 H0 F0 H0 := Gr.refl hs0
    refine ⟨_, PSs.nox (pss_cons (ps_set (i := 1) sc_depths_of.nd rfl (by first | exact Or.inl rfl | exact Or.inr rfl) (pe_lst (pa_cons pe_int pa_nil)))
(pss_cons (ps_for PassesOwn.never rfl (c_pitup (K := K) rfl (pe_slice (c_slT (K := K) rfl) (pe_ix (c_ixT (K := K) rfl) (pv 0) pe_int (fun _ _ => rfl)) (po_some pe_int) po_none)) (pg_name (i := 2) sc_depths_of.nd rfl (by first | exact Or.inl rfl | exact Or.inr rfl)) (pss_one (ps_expr (c_bm (K := K) rfl PySem.F.plainAttrs_list PySem.F.slot_list_append PySem.F.type_list_append mt_append (pv 1) (pa_cons (pe_op op_add (pe_ix (c_ixL (K := K) rfl) (pv 1) (pv 2) (fun _ _ => rfl)) pe_int) pa_nil)))))
(pss_one (ps_ret (pv 1))))), ?_⟩
    refine n_seq ?_
    refine n_asg ?_
    refine n_lst ?_
    refine n_cons ?_
    refine n_c ?_
    refine n_nil ?_
    have al8 : Al eI F0 [.int (0 : Int)] [(0 : Int)] := (.cons rfl .nil)
    refine v_mkLM g0.fh rfl fun p1 H2 np3 d4 fp5 hp6 => ?_
    have go9 := g0.old np3
    have g10 := g0.trans0 d4
    have m11 : Mu [] H0 F0 H2 p1 (.lst [.int (0 : Int)]) := ⟨fp5, hp6, .inl go9⟩
    refine n_name (setS set0) ?_
    refine n_seq ?_
    refine n_for ?_
    refine n_itT ?_
    refine n_sl ?_
    refine n_op ?_
    refine n_var rfl ?_
    refine n_c ?_
    refine v_ix20 g10.fh r_tree fun v27 r28 => ?_
    refine n_part ?_
    refine n_c ?_
    refine v_part ?_
    refine n_nopart ?_
    obtain ⟨p29, vs30, ep29, q31, al32⟩ := r28
    subst ep29
    refine v_slT g10.fh q31 al32 fun p33 vs34 F35 H36 d37 q38 al39 => ?_
    have g40 := g10.trans0 d37
    have m41 := m11.call0 d37
    refine v_itT (SqT.of (g40.fh _ _ q38)) ?_
    obtain ⟨s42, hs42, hm⟩ := bnd hm
    refine for_o (sr_T al39) hs42 (fun (s7 : List Int) σ7 H7 => ∃ (F7 : Hp) (o_up : Option V) (us_found : List V), σ7 = [some v_tree, some (.ref p1), o_up] ∧ Gr [] F0 H0 F7 H7 ∧ Sub F35 F7 ∧ Mu [] H0 F7 H7 p1 (.lst us_found) ∧ Al eI F7 us_found s7) ⟨_, _, [.int (0 : Int)], rfl, g40, Sub.refl _, m41, (Al.mono al8 d37.ff)⟩ ?_ ?_ ?_
    · rintro s7 _ H7 ⟨F43, o46, vs47, rfl, g44, sb45, m48, al49⟩
      exact (SqT.of (g44.fh _ _ (sb45 _ _ q38)))
    · rintro a50 s51 s52 x53 _ H54 H55 ⟨F59, o62, vs63, rfl, g60, sb61, m64, al65⟩ hY56 hm N57 hN58
      refine v_nmY hY56 fun r66 => ?_
      have er66 : x53 = V.int a50 := r66
      subst er66
      refine n_name (setS (setS set0)) ?_
      refine n_drop ?_
      refine n_bm ?_
      refine n_var rfl ?_
      refine ⟨tyL m64.l, ?_⟩
      refine n_cons ?_
      refine n_op ?_
      refine n_op ?_
      refine n_var rfl ?_
      refine n_var rfl ?_
      obtain ⟨a67, ha67, hm⟩ := bnd hm
      refine v_ixL m64.l al65 ha67 fun v68 r69 => ?_
      have er69 : v68 = V.int a67 := r69
      subst er69
      refine n_c ?_
      refine v_i2 ?_
      refine n_nil ?_
      obtain ⟨l70, hl70, hm⟩ := bnd hm
      obtain ⟨vs74, H71, g75, al73, evs74, eH71⟩ := app_ok g60 m64 al65 hl70 (show eI.r F59 (.int (a67 + (1 : Int))) (a67 + (1 : Int)) from rfl)
      refine v_append m64.hp (snoc_lt al65 hl70) ?_
      rw [← evs74, ← eH71]
      have m76 := mu_self m64 eH71
      obtain rfl := Option.some.inj hm
      exact hN58 _ _ ⟨_, _, vs74, rfl, g75, sb61, m76, al73⟩
    rintro _ H77 ⟨F78, o81, vs82, rfl, g79, sb80, m83, al84⟩
    refine n_ret ?_
    refine n_var rfl ?_
    obtain rfl := Option.some.inj hm
    exact hk _ _ _  g79   ⟨p1, vs82, rfl, (m83.own.resolve_right (by simp)), m83.fr, m83.hp, al84⟩

def m_word_of (x_tree : (List Int × Sg)) (x_place : Int) : Option Sg :=
  (atI x_tree.2 x_place).bind fun c5 =>
  (whileO 1000000 (x_place, [[c5]]) (fun s18 =>
  (atI x_tree.1 s18.1).bind fun a29 =>
  some (decide ((0 : Int) ≤ a29))) (fun s36 =>
  (atI x_tree.1 s36.1).bind fun a47 =>
  (atI x_tree.2 a47).bind fun c54 =>
  (snocM s36.2 [c54]).bind fun l55 =>
  some (a47, l55))).bind fun s17 =>
  (joinM ([] : Sg) s17.2).bind fun t69 =>
  some t69
def sp_word_of (K : PySem.W.Frag) : Sp := fun vs H Q _ => ∃ (F : Hp) (v_tree : V) (x_tree : (List Int × Sg)) (v_place : V) (x_place : Int) (r : Sg), vs = [v_tree, v_place] ∧ Sub F H ∧ (eP2 (eT eI) eS).r F v_tree x_tree ∧ eI.r F v_place x_place ∧ m_word_of x_tree x_place = some r ∧ ∀ (v : V) (F' H' : Hp) , Gr [] F H F' H' → eS.r F' v r → Q v H'
theorem sc_word_of : FnScope ["tree", "place", "letters", "ups", "labels"] ["tree", "place"] (defScope s_word_of) := ⟨rfl, rfl, rfl, by decide +kernel, rfl, by decide +kernel, by decide +kernel⟩
theorem ok_word_of {f : Addr} {fd : FuncData} (F : FnP K "word_of" s_word_of f fd)  : FnG P w K mg base CX0 1 f fd ["tree", "place"] (sp_word_of K) := by
  refine FnDok F sc_word_of (fun vs H Q E h => ?_) (fun cdv A outer s H0 vs Q E gd hr h => ?_)
  · obtain ⟨_, _, _, _, _, _, rfl, _⟩ := h
    rfl
  · obtain ⟨F0, v_tree, x_tree, v_place, x_place, r0, rfl, hs0, r_tree, r_place, hm, hk⟩ := h
    have g0 : Gr [] F0 H0 F0 H0 := Gr.refl hs0
    have er_place : v_place = V.int x_place := r_place
    subst er_place
    refine ⟨_, PSs.nox (pss_cons (ps_asg (pv 0) (c_pgtup (K := K) rfl (by rfl) (pgs_cons (pg_name (i := 3) sc_word_of.nd rfl (by first | exact Or.inl rfl | exact Or.inr rfl)) (pgs_cons (pg_name (i := 4) sc_word_of.nd rfl (by first | exact Or.inl rfl | exact Or.inr rfl)) pgs_nil))))
(pss_cons (ps_set (i := 2) sc_word_of.nd rfl (by first | exact Or.inl rfl | exact Or.inr rfl) (pe_lst (pa_cons (pe_ix ix_str (pv 4) (pv 1) (fun _ _ => rfl)) pa_nil)))
(pss_cons (ps_while PassesOwn.never (pt_cmpR op_ge (pe_ix (c_ixT (K := K) rfl) (pv 3) (pv 1) (fun _ _ => rfl)) pe_int (nomark _)) (pss_cons (ps_set (i := 1) sc_word_of.nd rfl (by first | exact Or.inl rfl | exact Or.inr rfl) (pe_ix (c_ixT (K := K) rfl) (pv 3) (pv 1) (fun _ _ => rfl)))
(pss_one (ps_expr (c_bm (K := K) rfl PySem.F.plainAttrs_list PySem.F.slot_list_append PySem.F.type_list_append mt_append (pv 2) (pa_cons (pe_ix ix_str (pv 4) (pv 1) (fun _ _ => rfl)) pa_nil))))))
(pss_one (ps_ret (c_bm (K := K) rfl PySem.F.plainAttrs_str PySem.F.slot_str_join PySem.F.type_str_join (c_join (K := K) rfl) pe_str (pa_cons (pv 2) pa_nil))))))), ?_⟩
    refine n_seq ?_
    refine n_asg ?_
    refine n_var rfl ?_
    refine v_unp2 g0.fh r_tree fun v1 v3 r2 r4 => ?_
    obtain ⟨er4, lr4⟩ : v3 = V.str (S x_tree.2) ∧ x_tree.2.length ≤ sizeLine := r4
    subst er4
    refine n_gcons ?_
    refine n_name (setS (setS (setS set0))) ?_
    refine n_gcons ?_
    refine n_name (setS (setS (setS (setS set0)))) ?_
    refine n_gnil ?_
    refine n_seq ?_
    refine n_asg ?_
    refine n_lst ?_
    refine n_cons ?_
    refine n_op ?_
    refine n_var rfl ?_
    refine n_var rfl ?_
    obtain ⟨c5, hc5, hm⟩ := bnd hm
    refine v_ixS lr4 hc5 ?_
    refine n_nil ?_
    have al13 : Al eS F0 [.str (S [c5])] [[c5]] := (.cons ⟨rfl, one_le⟩ .nil)
    refine v_mkLM g0.fh rfl fun p6 H7 np8 d9 fp10 hp11 => ?_
    have go14 := g0.old np8
    have g15 := g0.trans0 d9
    have m16 : Mu [] H0 F0 H7 p6 (.lst [.str (S [c5])]) := ⟨fp10, hp11, .inl go14⟩
    refine n_name (setS (setS set0)) ?_
    refine n_seq ?_
    obtain ⟨s17, hs17, hm⟩ := bnd hm
    refine while_o hs17 (fun (s7 : Int × List Sg) σ7 H7 => ∃ (F7 : Hp) (us_letters : List V), σ7 = [some v_tree, some (.int s7.1), some (.ref p6), some v1, some (.str (S x_tree.2))] ∧ Gr [] F0 H0 F7 H7 ∧ Sub F0 F7 ∧ Mu [] H0 F7 H7 p6 (.lst us_letters) ∧ Al eS F7 us_letters s7.2) ⟨_, [.str (S [c5])], rfl, g15, Sub.refl _, m16, al13⟩ ?_ ?_ ?_
    · rintro s18 b19 _ H20 ⟨F23, vs26, rfl, g24, sb25, m27, al28⟩ hm P21 hP22
      refine n_test ?_
      refine n_op ?_
      refine n_op ?_
      refine n_var rfl ?_
      refine n_var rfl ?_
      obtain ⟨a29, ha29, hm⟩ := bnd hm
      obtain ⟨p30, vs31, ep30, q32, al33⟩ := (Rp.mono (eT eI) sb25 r2)
      subst ep30
      refine v_ixT (SqT.of (g24.fh _ _ q32)) al33 ha29 fun v34 r35 => ?_
      have er35 : v34 = V.int a29 := r35
      subst er35
      refine n_c ?_
      refine v_i2 ?_
      refine v_bl ?_
      obtain rfl := Option.some.inj hm
      exact hP22 _ ⟨_, vs26, rfl, g24, sb25, m27, al28⟩
    · rintro s36 s37 _ H38 ⟨F41, vs44, rfl, g42, sb43, m45, al46⟩ _ hm N39 hN40
      refine n_seq ?_
      refine n_asg ?_
      refine n_op ?_
      refine n_var rfl ?_
      refine n_var rfl ?_
      obtain ⟨a47, ha47, hm⟩ := bnd hm
      obtain ⟨p48, vs49, ep48, q50, al51⟩ := (Rp.mono (eT eI) sb43 r2)
      subst ep48
      refine v_ixT (SqT.of (g42.fh _ _ q50)) al51 ha47 fun v52 r53 => ?_
      have er53 : v52 = V.int a47 := r53
      subst er53
      refine n_name (setS set0) ?_
      refine n_drop ?_
      refine n_bm ?_
      refine n_var rfl ?_
      refine ⟨tyL m45.l, ?_⟩
      refine n_cons ?_
      refine n_op ?_
      refine n_var rfl ?_
      refine n_var rfl ?_
      obtain ⟨c54, hc54, hm⟩ := bnd hm
      refine v_ixS lr4 hc54 ?_
      refine n_nil ?_
      obtain ⟨l55, hl55, hm⟩ := bnd hm
      obtain ⟨vs59, H56, g60, al58, evs59, eH56⟩ := app_ok g42 m45 al46 hl55 (show eS.r F41 (.str (S [c54])) [c54] from ⟨rfl, one_le⟩)
      refine v_append m45.hp (snoc_lt al46 hl55) ?_
      rw [← evs59, ← eH56]
      have m61 := mu_self m45 eH56
      obtain rfl := Option.some.inj hm
      exact hN40 _ _ ⟨_, vs59, rfl, g60, sb43, m61, al58⟩
    rintro _ H62 ⟨F63, vs66, rfl, g64, sb65, m67, al68⟩ _
    refine n_ret ?_
    refine n_bm ?_
    refine n_str (s := []) (by decide +kernel) ?_
    refine ⟨tyS, ?_⟩
    refine n_cons ?_
    refine n_var rfl ?_
    refine n_nil ?_
    obtain ⟨t69, ht69, hm⟩ := bnd hm
    refine v_join (.inl m67.l) al68 ht69 ?_
    obtain rfl := Option.some.inj hm
    exact hk _ _ _  g64   ⟨rfl, (joinM_le ht69)⟩

def m_numbered_keys (x_keys : List (Sg × Int)) : Option (List Int) :=
  (need (ssetB 63 x_keys) ()).bind fun u1 =>
  (need (szB (enumL (ssetL (ltP ltS ltI) x_keys)).length) ()).bind fun u16 =>
  (compS (enumL (ssetL (ltP ltS ltI) x_keys)) fun a18 =>
  some (some (a18.2, a18.1))).bind fun q17 =>
  (need (szB x_keys.length) ()).bind fun u79 =>
  (compS x_keys fun a81 =>
  (lkp (ofPairs q17) a81).bind fun a101 =>
  some (some a101)).bind fun q80 =>
  some q80
def sp_numbered_keys (K : PySem.W.Frag) : Sp := fun vs H Q _ => ∃ (F : Hp) (v_keys : V) (x_keys : List (Sg × Int)) (r : List Int), vs = [v_keys] ∧ Sub F H ∧ (eL (eP2 eS eI)).r F v_keys x_keys ∧ m_numbered_keys x_keys = some r ∧ ∀ (v : V) (F' H' : Hp) , Gr [] F H F' H' → New eI H F' H' v r → Q v H'
theorem sc_numbered_keys : FnScope ["keys", "known", "key", "number"] ["keys"] (defScope s_numbered_keys) := ⟨rfl, rfl, rfl, by decide +kernel, rfl, by decide +kernel, by decide +kernel⟩
theorem ok_numbered_keys {f : Addr} {fd : FuncData} (F : FnP K "numbered_keys" s_numbered_keys f fd) (b_dict : mg "dict" = none) (b_enumerate : mg "enumerate" = none) (b_sorted : mg "sorted" = none) (b_set : mg "set" = none) : FnG P w K mg base CX0 1 f fd ["keys"] (sp_numbered_keys K) := by
  refine FnDok F sc_numbered_keys (fun vs H Q E h => ?_) (fun cdv A outer s H0 vs Q E gd hr h => ?_)
  · obtain ⟨_, _, _, _, rfl, _⟩ := h
    rfl
  · obtain ⟨F0, v_keys, x_keys, r0, rfl, hs0, r_keys, hm, hk⟩ := h
    have g0 : Gr [] F0 H0 F0 H0 := Gr.refl hs0
    refine ⟨_, PSs.nox (pss_cons (ps_set (i := 1) sc_numbered_keys.nd rfl (by first | exact Or.inl rfl | exact Or.inr rfl) (pe_callTy (c_dictT (K := K) rfl hr) (by rfl) b_dict bo_dict (pa_cons (pe_lc (own := [("number", 3), ("key", 2)]) (g := gTup K 2 (gCons (gName 3) (gCons (gName 2) gNil))) (by rfl) sc_numbered_keys.nd (pi_en (K := K) rfl (by rfl) b_enumerate (pa_cons (pe_ssetT (K := K) rfl hr (by rfl) b_sorted (by rfl) b_set (pa_cons (pv 0) pa_nil)) pa_nil)) (blkOk_by (own := [("number", 3), ("key", 2)]) (N := ["keys", "known", "key", "number"]) (sc := defScope s_numbered_keys) (by decide +kernel)) (fun _ _ _ _ _ => (c_pgtup (K := K) rfl (by rfl) (pgs_cons (pg_name (i := 3) sc_numbered_keys.nd rfl (Or.inl rfl)) (pgs_cons (pg_name (i := 2) sc_numbered_keys.nd rfl (Or.inl rfl)) pgs_nil)))) (fun _ _ _ _ _ => pts_nil) (fun _ _ _ _ _ => (pe_tup (pa_cons (pv 2) (pa_cons (pv 3) pa_nil))))) pa_nil)))
(pss_one (ps_ret (pe_lc (own := [("key", 2)]) (g := gName 2) (by rfl) sc_numbered_keys.nd (c_pilist (K := K) rfl (pv 0)) (blkOk_by (own := [("key", 2)]) (N := ["keys", "known", "key", "number"]) (sc := defScope s_numbered_keys) (by decide +kernel)) (fun _ _ _ _ _ => (pg_name (i := 2) sc_numbered_keys.nd rfl (Or.inl rfl))) (fun _ _ _ _ _ => pts_nil) (fun _ _ _ _ _ => (pe_dget (un1 hr) (pv 1) (pv 2) (fun _ _ => rfl))))))), ?_⟩
    refine n_seq ?_
    refine n_asg ?_
    refine n_cb ?_
    refine n_cons ?_
    refine n_lc ?_
    refine n_en ?_
    refine n_cons ?_
    refine n_cb ?_
    refine n_cons ?_
    refine n_var rfl ?_
    refine n_nil ?_
    obtain ⟨u1, hu1, hm⟩ := bnd hm
    obtain ⟨p2, vs3, ep2, q4, al5⟩ := r_keys
    subst ep2
    refine v_ssetTF (soP2 soS soI (fun x y => ⟨dl_S 20 x, dl_I 20 y⟩)) (ktP2 keS keI) (lo_P lo_S lo_I) g0.fh (SqL.of (g0.fh _ _ q4)) al5 (need_ok hu1).1 fun p6 vs7 F9 H10 d11 q12 al8 => ?_
    have g13 := g0.trans0 d11
    refine n_nil ?_
    refine v_en (k := (.l p6)) (vs := vs7) (SqL.of (g13.fh _ _ q12)) ?_
    obtain ⟨u16, hu16, hm⟩ := bnd hm
    obtain ⟨q17, hq17, hm⟩ := bnd hm
    intro D14 nD15
    have goD14 := g13.old nD15
    have gg53 := gr_newM (W := []) (o := .lst []) g13.fh nD15
    refine comp_s (sr_En (k := (.l p6)) al8) hq17 (need_ok hu16).1 (fun (acc7 : List ((Sg × Int) × Int)) H7 => ∃ (F7 : Hp) (vs7 : List V), Gr [] F0 H0 F7 H7 ∧ Sub F9 F7 ∧ F7 D14 = none ∧ H7 D14 = some (.lst vs7) ∧ Al (eP2 (eP2 eS eI) eI) F7 vs7 acc7) ⟨_, [], g13.trans0 gg53, Sub.refl _, g13.fh.nn nD15, upd_same, .nil⟩ ?_ ?_ ?_
    · rintro _ _ ⟨F29, vs30, g31, sb32, _, _, _⟩
      exact (SqL.of (g31.fh _ _ (sb32 _ _ q12)))
    · rintro a18 r20 acc21 x22 H23 H24 ⟨F29, vs30, g31, sb32, fD33, hD34, al35⟩ hY25 hm hl28 N26 hN27
      have m36 : Mu [] H0 F29 H23 D14 (.lst vs30) := ⟨fD33, hD34, .inl goD14⟩
      refine wipe_to (σ' := [some (.ref p2), none, none, none]) rfl ?_
      refine v_unpE g31.fh hY25 fun v38 d37 r39 => ?_
      have g40 := g31.trans0 d37
      have m41 := m36.call0 d37
      refine n_gcons ?_
      refine n_name (setS (setS (setS set0))) ?_
      refine n_gcons ?_
      refine n_name (setS (setS set0)) ?_
      refine n_gnil ?_
      refine ⟨rfl, ?_⟩
      refine n_yes ?_ rfl
      refine n_tup ?_
      refine n_cons ?_
      refine n_var rfl ?_
      refine n_cons ?_
      refine n_var rfl ?_
      refine n_nil ?_
      refine v_mk2 g40.fh (show (eP2 eS eI).r F29 v38 a18.2 from (Rp.mono (eP2 eS eI) sb32 r39)) (show eI.r F29 (.int a18.1) a18.1 from rfl) fun v42 F43 H44 d45 r46 => ?_
      have g47 := g40.trans0 d45
      have m48 := m41.call0 d45
      obtain rfl := Option.some.inj hm
      refine ⟨_, m48.hp, by rw [al_len (Al.mono al35 d45.ff)]; exact hl28, hN27 _ ?_⟩
      exact ⟨_, _, m48.gr g47, (Sub.trans sb32 d45.ff), m48.fr, upd_same, pd_snoc (Al.mono al35 d45.ff) (show (eP2 (eP2 eS eI) eI).r F43 v42 (a18.2, a18.1) from r46)⟩
    rintro H54 ⟨F55, vs56, g57, sb58, fD59, hD60, al61⟩
    have m62 : Mu [] H0 F55 H54 D14 (.lst vs56) := ⟨fD59, hD60, .inl goD14⟩
    obtain ⟨F63, q65, sb67, g66, d64⟩ := freeze g57 m62 (m62.own.resolve_right (by simp))
    have al68 := (Al.mono al61 sb67)
    refine n_nil ?_
    refine v_dictTF (ktP2 keS keI) g66.fh (SqL.of (g66.fh _ _ q65)) al68 fun p69 vs70 F72 H73 d74 q75 al71 => ?_
    have g76 := g66.trans0 d74
    refine n_name (setS set0) ?_
    refine n_ret ?_
    refine n_lc ?_
    refine n_itL ?_
    refine n_var rfl ?_
    refine v_itL (SqL.of (g76.fh _ _ ((Sub.trans d11.ff (Sub.trans sb58 (Sub.trans sb67 d74.ff))) _ _ q4))) ?_
    obtain ⟨u79, hu79, hm⟩ := bnd hm
    obtain ⟨q80, hq80, hm⟩ := bnd hm
    intro D77 nD78
    have goD77 := g76.old nD78
    have gg108 := gr_newM (W := []) (o := .lst []) g76.fh nD78
    refine comp_s (sr_L (Al.mono al5 (Sub.trans d11.ff (Sub.trans sb58 (Sub.trans sb67 d74.ff))))) hq80 (need_ok hu79).1 (fun (acc7 : List Int) H7 => ∃ (F7 : Hp) (vs7 : List V), Gr [] F0 H0 F7 H7 ∧ Sub F72 F7 ∧ F7 D77 = none ∧ H7 D77 = some (.lst vs7) ∧ Al eI F7 vs7 acc7) ⟨_, [], g76.trans0 gg108, Sub.refl _, g76.fh.nn nD78, upd_same, .nil⟩ ?_ ?_ ?_
    · rintro _ _ ⟨F92, vs93, g94, sb95, _, _, _⟩
      exact (SqL.of (g94.fh _ _ ((Sub.trans d11.ff (Sub.trans sb58 (Sub.trans sb67 (Sub.trans d74.ff sb95)))) _ _ q4)))
    · rintro a81 r83 acc84 x85 H86 H87 ⟨F92, vs93, g94, sb95, fD96, hD97, al98⟩ hY88 hm hl91 N89 hN90
      have m99 : Mu [] H0 F92 H86 D77 (.lst vs93) := ⟨fD96, hD97, .inl goD77⟩
      refine wipe_to (σ' := [some (.ref p2), some (.ref p69), none, none]) rfl ?_
      refine v_nmY hY88 fun r100 => ?_
      refine n_name (setS (setS set0)) ?_
      refine ⟨rfl, ?_⟩
      refine n_yes ?_ rfl
      refine n_dget ?_
      refine n_var rfl ?_
      refine n_var rfl ?_
      obtain ⟨a101, ha101, hm⟩ := bnd hm
      refine v_dget (Y := (dyT (ktP2 keS keI))) g94.fh (g94.fh _ _ (sb95 _ _ q75)) (Pr.mono al71 sb95) (show (eP2 eS eI).r F92 x85 a81 from (Rp.mono (eP2 eS eI) sb95 r100)) ha101 fun v102 r103 => ?_
      have er103 : v102 = V.int a101 := r103
      subst er103
      obtain rfl := Option.some.inj hm
      refine ⟨_, m99.hp, by rw [al_len al98]; exact hl91, hN90 _ ?_⟩
      exact ⟨_, _, m99.gr g94, sb95, m99.fr, upd_same, pd_snoc al98 (show eI.r F92 (.int a101) a101 from rfl)⟩
    rintro H109 ⟨F110, vs111, g112, sb113, fD114, hD115, al116⟩
    have m117 : Mu [] H0 F110 H109 D77 (.lst vs111) := ⟨fD114, hD115, .inl goD77⟩
    obtain rfl := Option.some.inj hm
    exact hk _ _ _  g112   ⟨D77, vs111, rfl, (m117.own.resolve_right (by simp)), m117.fr, m117.hp, al116⟩

def m_number_above (x_numbers : List Int) (x_up : Int) (x_length : Int) : Option Int :=
  if (decide (x_length = (0 : Int))) = true then
  some (0 : Int)
  else
  if (decide (x_up < (0 : Int))) = true then
  some (-1 : Int)
  else
  (atI x_numbers x_up).bind fun a3 =>
  some a3
def sp_number_above (K : PySem.W.Frag) : Sp := fun vs H Q _ => ∃ (F : Hp) (v_numbers : V) (x_numbers : List Int) (v_up : V) (x_up : Int) (v_length : V) (x_length : Int) (r : Int), vs = [v_numbers, v_up, v_length] ∧ Sub F H ∧ (eL eI).r F v_numbers x_numbers ∧ eI.r F v_up x_up ∧ eI.r F v_length x_length ∧ m_number_above x_numbers x_up x_length = some r ∧ ∀ (v : V) (F' H' : Hp) , Gr [] F H F' H' → eI.r F' v r → Q v H'
theorem sc_number_above : FnScope ["numbers", "up", "length"] ["numbers", "up", "length"] (defScope s_number_above) := ⟨rfl, rfl, rfl, by decide +kernel, rfl, by decide +kernel, by decide +kernel⟩
theorem ok_number_above {f : Addr} {fd : FuncData} (F : FnP K "number_above" s_number_above f fd)  : FnG P w K mg base CX0 1 f fd ["numbers", "up", "length"] (sp_number_above K) := by
  refine FnDok F sc_number_above (fun vs H Q E h => ?_) (fun cdv A outer s H0 vs Q E gd hr h => ?_)
  · obtain ⟨_, _, _, _, _, _, _, _, rfl, _⟩ := h
    rfl
  · obtain ⟨F0, v_numbers, x_numbers, v_up, x_up, v_length, x_length, r0, rfl, hs0, r_numbers, r_up, r_length, hm, hk⟩ := h
    have g0 : Gr [] F0 H0 F0 H0 := Gr.refl hs0
    have er_up : v_up = V.int x_up := r_up
    subst er_up
    have er_length : v_length = V.int x_length := r_length
    subst er_length
    refine ⟨_, PSs.nox (pss_cons (ps_if (pt_cmpR op_eq (pv 2) pe_int (nomark _)) (pss_one (ps_ret pe_int)) pss_nil)
(pss_cons (ps_if (pt_cmpR op_lt (pv 1) pe_int (nomark _)) (pss_one (ps_ret (pe_un un_neg pe_int))) pss_nil)
(pss_one (ps_ret (pe_ix (c_ixL (K := K) rfl) (pv 0) (pv 1) (fun _ _ => rfl)))))), ?_⟩
    refine n_seq ?_
    refine n_ifs ?_
    refine n_test ?_
    refine n_op ?_
    refine n_var rfl ?_
    refine n_c ?_
    refine v_eqI ?_
    refine v_bl ?_
    refine br (fun hb1 => ?_) (fun hb1 => ?_)
    · replace hm := ifT hb1 hm
      refine n_ret ?_
      refine n_c ?_
      obtain rfl := Option.some.inj hm
      exact hk _ _ _  g0   rfl
    replace hm := ifF hb1 hm
    refine n_nextS ?_
    refine n_seq ?_
    refine n_ifs ?_
    refine n_test ?_
    refine n_op ?_
    refine n_var rfl ?_
    refine n_c ?_
    refine v_i2 ?_
    refine v_bl ?_
    refine br (fun hb2 => ?_) (fun hb2 => ?_)
    · replace hm := ifT hb2 hm
      refine n_ret ?_
      refine n_un ?_
      refine n_c ?_
      refine v_neg ?_
      obtain rfl := Option.some.inj hm
      exact hk _ _ _  g0   rfl
    replace hm := ifF hb2 hm
    refine n_nextS ?_
    refine n_ret ?_
    refine n_op ?_
    refine n_var rfl ?_
    refine n_var rfl ?_
    obtain ⟨a3, ha3, hm⟩ := bnd hm
    obtain ⟨p4, vs5, ep4, q6, al7⟩ := r_numbers
    subst ep4
    refine v_ixL (SqL.of (g0.fh _ _ q6)) al7 ha3 fun v8 r9 => ?_
    have er9 : v8 = V.int a3 := r9
    subst er9
    obtain rfl := Option.some.inj hm
    exact hk _ _ _  g0   rfl

def m_classes_of (x_tree : (List Int × Sg)) (x_length : Int) : Option (List Int) :=
  (repM [(0 : Int)] (x_tree.1.length : Int)).bind fun l16 =>
  (m_depths_of x_tree).bind fun r28 =>
  (maxM r28).bind fun a52 =>
  (uptoM 0 (mn x_length ((1 : Int) + a52))).bind fun l53 =>
  (foldO l53 l16 fun s56 a55 =>
  (need (szB (enumL x_tree.1).length) ()).bind fun u74 =>
  (compS (enumL x_tree.1) fun a76 =>
  (atI x_tree.2 a76.1).bind fun c103 =>
  (m_number_above s56 a76.2 a55).bind fun r104 =>
  some (some ([c103], r104))).bind fun q75 =>
  (m_numbered_keys q75).bind fun r151 =>
  some r151).bind fun s54 =>
  some s54
def sp_classes_of (K : PySem.W.Frag) : Sp := fun vs H Q _ => ∃ (F : Hp) (v_tree : V) (x_tree : (List Int × Sg)) (v_length : V) (x_length : Int) (r : List Int), vs = [v_tree, v_length] ∧ Sub F H ∧ (eP2 (eT eI) eS).r F v_tree x_tree ∧ eI.r F v_length x_length ∧ m_classes_of x_tree x_length = some r ∧ ∀ (v : V) (F' H' : Hp) , Gr [] F H F' H' → New eI H F' H' v r → Q v H'
theorem sc_classes_of : FnScope ["tree", "length", "found", "less", "ups", "labels", "place", "up"] ["tree", "length"] (defScope s_classes_of) := ⟨rfl, rfl, rfl, by decide +kernel, rfl, by decide +kernel, by decide +kernel⟩
theorem ok_classes_of {f : Addr} {fd : FuncData} (F : FnP K "classes_of" s_classes_of f fd) (H_numbered_keys : HasG P w K mg base "numbered_keys" ["keys"] 1 (sp_numbered_keys K)) (H_depths_of : HasG P w K mg base "depths_of" ["tree"] 1 (sp_depths_of K)) (H_number_above : HasG P w K mg base "number_above" ["numbers", "up", "length"] 1 (sp_number_above K)) (b_range : mg "range" = none) (b_len : mg "len" = none) (b_min : mg "min" = none) (b_max : mg "max" = none) (b_enumerate : mg "enumerate" = none) : FnG P w K mg base CX0 2 f fd ["tree", "length"] (sp_classes_of K) := by
  obtain ⟨f_numbered_keys, fd_numbered_keys, G0_numbered_keys, g_numbered_keys, k_numbered_keys, b_numbered_keys⟩ := H_numbered_keys
  have G_numbered_keys := G0_numbered_keys.mono (show 1 ≤ 1 by decide)
  obtain ⟨f_depths_of, fd_depths_of, G0_depths_of, g_depths_of, k_depths_of, b_depths_of⟩ := H_depths_of
  have G_depths_of := G0_depths_of.mono (show 1 ≤ 1 by decide)
  obtain ⟨f_number_above, fd_number_above, G0_number_above, g_number_above, k_number_above, b_number_above⟩ := H_number_above
  have G_number_above := G0_number_above.mono (show 1 ≤ 1 by decide)
  refine FnDok F sc_classes_of (fun vs H Q E h => ?_) (fun cdv A outer s H0 vs Q E gd hr h => ?_)
  · obtain ⟨_, _, _, _, _, _, rfl, _⟩ := h
    rfl
  · obtain ⟨F0, v_tree, x_tree, v_length, x_length, r0, rfl, hs0, r_tree, r_length, hm, hk⟩ := h
    have g0 : Gr [] F0 H0 F0 H0 := Gr.refl hs0
    have er_length : v_length = V.int x_length := r_length
    subst er_length
    refine ⟨_, PSs.nox (pss_cons (ps_asg (pv 0) (c_pgtup (K := K) rfl (by rfl) (pgs_cons (pg_name (i := 4) sc_classes_of.nd rfl (by first | exact Or.inl rfl | exact Or.inr rfl)) (pgs_cons (pg_name (i := 5) sc_classes_of.nd rfl (by first | exact Or.inl rfl | exact Or.inr rfl)) pgs_nil))))
(pss_cons (ps_set (i := 2) sc_classes_of.nd rfl (by first | exact Or.inl rfl | exact Or.inr rfl) (pe_op op_rep (pe_lst (pa_cons pe_int pa_nil)) (pe_callB (c_len (K := K) rfl) (by rfl) b_len bo_len (pa_cons (pv 4) pa_nil))))
(pss_cons (ps_for PassesOwn.never rfl (pi_range1 (by rfl) b_range (pa_cons (pe_callB (c_min2 rfl) (by rfl) b_min bo_min (pa_cons (pv 1) (pa_cons (pe_op op_add pe_int (pe_callB (c_maxL (K := K) rfl (by rfl)) (by rfl) b_max bo_max (pa_cons (pe_callG G_depths_of gd hr (by rfl) g_depths_of k_depths_of b_depths_of pass0 (pa_cons (pv 0) pa_nil)) pa_nil))) pa_nil))) pa_nil)) (pg_name (i := 3) sc_classes_of.nd rfl (by first | exact Or.inl rfl | exact Or.inr rfl)) (pss_one (ps_set (i := 2) sc_classes_of.nd rfl (by first | exact Or.inl rfl | exact Or.inr rfl) (pe_callG G_numbered_keys gd hr (by rfl) g_numbered_keys k_numbered_keys b_numbered_keys pass0 (pa_cons (pe_lc (own := [("place", 6), ("up", 7)]) (g := gTup K 2 (gCons (gName 6) (gCons (gName 7) gNil))) (by rfl) sc_classes_of.nd (pi_en (K := K) rfl (by rfl) b_enumerate (pa_cons (pv 4) pa_nil)) (blkOk_by (own := [("place", 6), ("up", 7)]) (N := ["tree", "length", "found", "less", "ups", "labels", "place", "up"]) (sc := defScope s_classes_of) (by decide +kernel)) (fun _ _ _ _ _ => (c_pgtup (K := K) rfl (by rfl) (pgs_cons (pg_name (i := 6) sc_classes_of.nd rfl (Or.inl rfl)) (pgs_cons (pg_name (i := 7) sc_classes_of.nd rfl (Or.inl rfl)) pgs_nil)))) (fun _ _ _ _ _ => pts_nil) (fun _ _ _ _ _ => (pe_tup (pa_cons (pe_ix ix_str (pv 5) (pv 6) (fun _ _ => rfl)) (pa_cons (pe_callG G_number_above gd hr (by rfl) g_number_above k_number_above b_number_above pass0 (pa_cons (pv 2) (pa_cons (pv 7) (pa_cons (pv 3) pa_nil)))) pa_nil))))) pa_nil)))))
(pss_one (ps_ret (pv 2)))))), ?_⟩
    refine n_seq ?_
    refine n_asg ?_
    refine n_var rfl ?_
    refine v_unp2 g0.fh r_tree fun v1 v3 r2 r4 => ?_
    obtain ⟨er4, lr4⟩ : v3 = V.str (S x_tree.2) ∧ x_tree.2.length ≤ sizeLine := r4
    subst er4
    refine n_gcons ?_
    refine n_name (setS (setS (setS (setS set0)))) ?_
    refine n_gcons ?_
    refine n_name (setS (setS (setS (setS (setS set0))))) ?_
    refine n_gnil ?_
    refine n_seq ?_
    refine n_asg ?_
    refine n_op ?_
    refine n_lst ?_
    refine n_cons ?_
    refine n_c ?_
    refine n_nil ?_
    refine v_mkLF (t := eI) (xs := [(0 : Int)]) g0.fh (.cons rfl .nil) rfl fun p5 F6 H7 d8 q9 al10 => ?_
    have g11 := g0.trans0 d8
    refine n_cb ?_
    refine n_cons ?_
    refine n_var rfl ?_
    refine n_nil ?_
    obtain ⟨p12, vs13, ep12, q14, al15⟩ := (Rp.mono (eT eI) d8.ff r2)
    subst ep12
    refine v_len (.inr (SqT.of (g11.fh _ _ q14))) al15 ?_
    obtain ⟨l16, hl16, hm⟩ := bnd hm
    refine v_repM g11.fh (g11.fh _ _ q9) al10 hl16 fun p17 vs18 H20 np21 d22 fp23 hp24 al19 => ?_
    have go25 := g11.old np21
    have g26 := g11.trans0 d22
    have m27 : Mu [] H0 F6 H20 p17 (.lst vs18) := ⟨fp23, hp24, .inl go25⟩
    refine n_name (setS (setS set0)) ?_
    refine n_seq ?_
    refine n_for ?_
    refine n_rng1 ?_
    refine n_cons ?_
    refine n_cb ?_
    refine n_cons ?_
    refine n_var rfl ?_
    refine n_cons ?_
    refine n_op ?_
    refine n_c ?_
    refine n_cb ?_
    refine n_cons ?_
    refine n_call ?_
    refine n_cons ?_
    refine n_var rfl ?_
    refine n_nil ?_
    obtain ⟨r28, hr28, hm⟩ := bnd hm
    refine ⟨F6, v_tree, x_tree, r28, rfl, g26.fh, (Rp.mono (eP2 (eT eI) eS) d8.ff r_tree), hr28, fun v38 F29 H30 d31 r39 => ?_⟩
    obtain ⟨p32, vs33, ev38, np34, fp35, hp36, al37⟩ := r39
    subst ev38
    have go40 := g26.old np34
    have ne41 := m27.ne np34
    have g42 := g26.trans0 d31
    have m43 := m27.call0 d31
    have m44 : Mu [] H0 F29 H30 p32 (.lst vs33) := ⟨fp35, hp36, .inl go40⟩
    obtain ⟨F45, q47, sb49, g48, d46⟩ := freeze g42 m44 (m44.own.resolve_right (by simp))
    have m50 := d46 _ _ ne41 m43
    have al51 := (Al.mono al37 sb49)
    refine n_nil ?_
    obtain ⟨a52, ha52, hm⟩ := bnd hm
    refine v_maxL (SqL.of (g48.fh _ _ q47)) al51 ha52 ?_
    refine v_i2 ?_
    refine n_nil ?_
    refine v_min2 ?_
    refine n_nil ?_
    obtain ⟨l53, hl53, hm⟩ := bnd hm
    refine v_rng1 hl53 ?_
    obtain ⟨s54, hs54, hm⟩ := bnd hm
    refine for_o (sr_R1 hl53) hs54 (fun (s7 : List Int) σ7 H7 => ∃ (F7 : Hp) (p_found : Addr) (us_found : List V) (o_less : Option V), σ7 = [some v_tree, some (.int x_length), some (.ref p_found), o_less, some (.ref p12), some (.str (S x_tree.2)), none, none] ∧ Gr [] F0 H0 F7 H7 ∧ Sub F45 F7 ∧ Mu [] H0 F7 H7 p_found (.lst us_found) ∧ Al eI F7 us_found s7) ⟨_, p17, vs18, _, rfl, g48, Sub.refl _, m50, (Al.mono al19 (Sub.trans d31.ff sb49))⟩ ?_ ?_ ?_
    · intros; exact trivial
    · rintro a55 s56 s57 x58 _ H59 H60 ⟨F64, p67, vs68, o69, rfl, g65, sb66, m70, al71⟩ hY61 hm N62 hN63
      refine v_nmR hY61 ?_
      refine n_name (setS (setS (setS set0))) ?_
      refine n_asg ?_
      refine n_call ?_
      refine n_cons ?_
      refine n_lc ?_
      refine n_en ?_
      refine n_cons ?_
      refine n_var rfl ?_
      refine n_nil ?_
      refine v_en (k := (.t p12)) (vs := vs13) (SqT.of (g65.fh _ _ ((Sub.trans d31.ff (Sub.trans sb49 sb66)) _ _ q14))) ?_
      obtain ⟨u74, hu74, hm⟩ := bnd hm
      obtain ⟨q75, hq75, hm⟩ := bnd hm
      intro D72 nD73
      have goD72 := g65.old nD73
      have neD72_p67 := m70.ne nD73
      have gg132 := gr_newM (W := []) (o := .lst []) g65.fh nD73
      refine comp_s (sr_En (k := (.t p12)) (Al.mono al15 (Sub.trans d31.ff (Sub.trans sb49 sb66)))) hq75 (need_ok hu74).1 (fun (acc7 : List (Sg × Int)) H7 => ∃ (F7 : Hp) (vs7 : List V), Gr [] F0 H0 F7 H7 ∧ Sub F64 F7 ∧ F7 D72 = none ∧ H7 D72 = some (.lst vs7) ∧ Al (eP2 eS eI) F7 vs7 acc7 ∧ Mu [] H0 F7 H7 p67 (.lst vs68)) ⟨_, [], g65.trans0 gg132, Sub.refl _, g65.fh.nn nD73, upd_same, .nil, m70.call0 gg132⟩ ?_ ?_ ?_
      · rintro _ _ ⟨F87, vs88, g89, sb90, _, _, _, _⟩
        exact (SqT.of (g89.fh _ _ ((Sub.trans d31.ff (Sub.trans sb49 (Sub.trans sb66 sb90))) _ _ q14)))
      · rintro a76 r78 acc79 x80 H81 H82 ⟨F87, vs88, g89, sb90, fD91, hD92, al93, m94⟩ hY83 hm hl86 N84 hN85
        have m96 : Mu [] H0 F87 H81 D72 (.lst vs88) := ⟨fD91, hD92, .inl goD72⟩
        refine wipe_to (σ' := [some v_tree, some (.int x_length), some (.ref p67), some (.int a55), some (.ref p12), some (.str (S x_tree.2)), none, none]) rfl ?_
        refine v_unpE g89.fh hY83 fun v98 d97 r99 => ?_
        have g100 := g89.trans0 d97
        have m101 := m94.call0 d97
        have m102 := m96.call0 d97
        have er99 : v98 = V.int a76.2 := r99
        subst er99
        refine n_gcons ?_
        refine n_name (setS (setS (setS (setS (setS (setS set0)))))) ?_
        refine n_gcons ?_
        refine n_name (setS (setS (setS (setS (setS (setS (setS set0))))))) ?_
        refine n_gnil ?_
        refine ⟨rfl, ?_⟩
        refine n_yes ?_ rfl
        refine n_tup ?_
        refine n_cons ?_
        refine n_op ?_
        refine n_var rfl ?_
        refine n_var rfl ?_
        obtain ⟨c103, hc103, hm⟩ := bnd hm
        refine v_ixS lr4 hc103 ?_
        refine n_cons ?_
        refine n_call ?_
        refine n_cons ?_
        refine n_var rfl ?_
        refine n_cons ?_
        refine n_var rfl ?_
        refine n_cons ?_
        refine n_var rfl ?_
        refine n_nil ?_
        obtain ⟨r104, hr104, hm⟩ := bnd hm
        obtain ⟨F105, q106, sb107, sh108, o109⟩ := lend (⟨m101.fr, m101.hp, m101.own⟩ : Mu [] H0 F87 H82 p67 (.lst vs68)) g100.fh
        refine ⟨F105, (.ref p67), s56, .int a76.2, a76.2, .int a55, a55, r104, rfl, sh108, ⟨_, _, rfl, q106, Al.mono (Al.mono al71 sb90) sb107⟩, (Rp.mono eI sb107 (show eI.r F87 (.int a76.2) a76.2 from rfl)), (Rp.mono eI sb107 (show eI.r F87 (.int a55) a55 from rfl)), hr104, fun v113 F110 H111 d112 r114 => ?_⟩
        have d115 := unlend sb107 d112
        have r116 : eI.r F87 v113 r104 := hf_I _ _ _ _ r114
        have g117 := g100.trans0 d115
        have m118 := m101.call0 d115
        have m119 := m102.call0 d115
        have er116 : v113 = V.int r104 := r116
        subst er116
        refine n_nil ?_
        refine v_mk2 g117.fh (show eS.r F87 (.str (S [c103])) [c103] from ⟨rfl, one_le⟩) (show eI.r F87 (.int r104) r104 from rfl) fun v120 F121 H122 d123 r124 => ?_
        have g125 := g117.trans0 d123
        have m126 := m118.call0 d123
        have m127 := m119.call0 d123
        obtain rfl := Option.some.inj hm
        refine ⟨_, m127.hp, by rw [al_len (Al.mono al93 d123.ff)]; exact hl86, hN85 _ ?_⟩
        exact ⟨_, _, m127.gr g125, (Sub.trans sb90 d123.ff), m127.fr, upd_same, pd_snoc (Al.mono al93 d123.ff) (show (eP2 eS eI).r F121 v120 ([c103], r104) from r124), m126.mut neD72_p67⟩
      rintro H133 ⟨F134, vs135, g136, sb137, fD138, hD139, al140, m141⟩
      have m143 : Mu [] H0 F134 H133 D72 (.lst vs135) := ⟨fD138, hD139, .inl goD72⟩
      obtain ⟨F144, q146, sb148, g147, d145⟩ := freeze g136 m143 (m143.own.resolve_right (by simp))
      have m149 := d145 _ _ neD72_p67 m141
      have al150 := (Al.mono al140 sb148)
      refine n_nil ?_
      obtain ⟨r151, hr151, hm⟩ := bnd hm
      refine ⟨F144, (.ref D72), q75, r151, rfl, g147.fh, (⟨D72, vs135, rfl, q146, al150⟩ : (eL (eP2 eS eI)).r F144 (.ref D72) q75), hr151, fun v161 F152 H153 d154 r162 => ?_⟩
      obtain ⟨p155, vs156, ev161, np157, fp158, hp159, al160⟩ := r162
      subst ev161
      have go163 := g147.old np157
      have ne164 := m149.ne np157
      have g165 := g147.trans0 d154
      have m166 := m149.call0 d154
      have m167 : Mu [] H0 F152 H153 p155 (.lst vs156) := ⟨fp158, hp159, .inl go163⟩
      refine n_name (setS (setS set0)) ?_
      obtain rfl := Option.some.inj hm
      exact hN63 _ _ ⟨_, p155, vs156, _, rfl, g165, (Sub.trans sb66 (Sub.trans sb137 (Sub.trans sb148 d154.ff))), m167, al160⟩
    rintro _ H168 ⟨F169, p172, vs173, o174, rfl, g170, sb171, m175, al176⟩
    refine n_ret ?_
    refine n_var rfl ?_
    obtain rfl := Option.some.inj hm
    exact hk _ _ _  g170   ⟨p172, vs173, rfl, (m175.own.resolve_right (by simp)), m175.fr, m175.hp, al176⟩

def m_order_of (x_tree : (List Int × Sg)) : Option (List Int) :=
  (m_classes_of x_tree (60 : Int)).bind fun r1 =>
  (need (szB (enumL r1).length) ()).bind fun u24 =>
  (compS (enumL r1) fun a26 =>
  some (some (a26.2, a26.1))).bind fun q25 =>
  (need (szB (srtL (ltP ltI ltI) q25).length) ()).bind fun u87 =>
  (compS (srtL (ltP ltI ltI) q25) fun a89 =>
  some (some a89.2)).bind fun q88 =>
  some q88
def sp_order_of (K : PySem.W.Frag) : Sp := fun vs H Q _ => ∃ (F : Hp) (v_tree : V) (x_tree : (List Int × Sg)) (r : List Int), vs = [v_tree] ∧ Sub F H ∧ (eP2 (eT eI) eS).r F v_tree x_tree ∧ m_order_of x_tree = some r ∧ ∀ (v : V) (F' H' : Hp) , Gr [] F H F' H' → New eI H F' H' v r → Q v H'
theorem sc_order_of : FnScope ["tree", "pairs", "number", "place"] ["tree"] (defScope s_order_of) := ⟨rfl, rfl, rfl, by decide +kernel, rfl, by decide +kernel, by decide +kernel⟩
theorem ok_order_of {f : Addr} {fd : FuncData} (F : FnP K "order_of" s_order_of f fd) (H_classes_of : HasG P w K mg base "classes_of" ["tree", "length"] 2 (sp_classes_of K)) (b_sorted : mg "sorted" = none) (b_enumerate : mg "enumerate" = none) (c_LONGEST : ∃ t, mg "LONGEST" = some (.int 60 t)) : FnG P w K mg base CX0 3 f fd ["tree"] (sp_order_of K) := by
  obtain ⟨f_classes_of, fd_classes_of, G0_classes_of, g_classes_of, k_classes_of, b_classes_of⟩ := H_classes_of
  have G_classes_of := G0_classes_of.mono (show 2 ≤ 2 by decide)
  obtain ⟨t_LONGEST, c_LONGEST⟩ := c_LONGEST
  refine FnDok F sc_order_of (fun vs H Q E h => ?_) (fun cdv A outer s H0 vs Q E gd hr h => ?_)
  · obtain ⟨_, _, _, _, rfl, _⟩ := h
    rfl
  · obtain ⟨F0, v_tree, x_tree, r0, rfl, hs0, r_tree, hm, hk⟩ := h
    have g0 : Gr [] F0 H0 F0 H0 := Gr.refl hs0
    refine ⟨_, PSs.nox (pss_cons (ps_set (i := 1) sc_order_of.nd rfl (by first | exact Or.inl rfl | exact Or.inr rfl) (pe_callB (c_sorted (K := K) rfl hr) (by rfl) b_sorted bo_sorted (pa_cons (pe_lc (own := [("place", 3), ("number", 2)]) (g := gTup K 2 (gCons (gName 3) (gCons (gName 2) gNil))) (by rfl) sc_order_of.nd (pi_en (K := K) rfl (by rfl) b_enumerate (pa_cons (pe_callG G_classes_of gd hr (by rfl) g_classes_of k_classes_of b_classes_of pass0 (pa_cons (pv 0) (pa_cons (pe_glob (v := .int 60) (by rfl) c_LONGEST ⟨_, rfl⟩) pa_nil))) pa_nil)) (blkOk_by (own := [("place", 3), ("number", 2)]) (N := ["tree", "pairs", "number", "place"]) (sc := defScope s_order_of) (by decide +kernel)) (fun _ _ _ _ _ => (c_pgtup (K := K) rfl (by rfl) (pgs_cons (pg_name (i := 3) sc_order_of.nd rfl (Or.inl rfl)) (pgs_cons (pg_name (i := 2) sc_order_of.nd rfl (Or.inl rfl)) pgs_nil)))) (fun _ _ _ _ _ => pts_nil) (fun _ _ _ _ _ => (pe_tup (pa_cons (pv 2) (pa_cons (pv 3) pa_nil))))) pa_nil)))
(pss_one (ps_ret (pe_lc (own := [("number", 2), ("place", 3)]) (g := gTup K 2 (gCons (gName 2) (gCons (gName 3) gNil))) (by rfl) sc_order_of.nd (c_pilist (K := K) rfl (pv 1)) (blkOk_by (own := [("number", 2), ("place", 3)]) (N := ["tree", "pairs", "number", "place"]) (sc := defScope s_order_of) (by decide +kernel)) (fun _ _ _ _ _ => (c_pgtup (K := K) rfl (by rfl) (pgs_cons (pg_name (i := 2) sc_order_of.nd rfl (Or.inl rfl)) (pgs_cons (pg_name (i := 3) sc_order_of.nd rfl (Or.inl rfl)) pgs_nil)))) (fun _ _ _ _ _ => pts_nil) (fun _ _ _ _ _ => (pv 3)))))), ?_⟩
    refine n_seq ?_
    refine n_asg ?_
    refine n_cb ?_
    refine n_cons ?_
    refine n_lc ?_
    refine n_en ?_
    refine n_cons ?_
    refine n_call ?_
    refine n_cons ?_
    refine n_var rfl ?_
    refine n_cons ?_
    refine n_c ?_
    refine n_nil ?_
    obtain ⟨r1, hr1, hm⟩ := bnd hm
    refine ⟨F0, v_tree, x_tree, .int (60 : Int), (60 : Int), r1, rfl, g0.fh, r_tree, rfl, hr1, fun v11 F2 H3 d4 r12 => ?_⟩
    obtain ⟨p5, vs6, ev11, np7, fp8, hp9, al10⟩ := r12
    subst ev11
    have go13 := g0.old np7
    have g14 := g0.trans0 d4
    have m15 : Mu [] H0 F2 H3 p5 (.lst vs6) := ⟨fp8, hp9, .inl go13⟩
    obtain ⟨F16, q18, sb20, g19, d17⟩ := freeze g14 m15 (m15.own.resolve_right (by simp))
    have al21 := (Al.mono al10 sb20)
    refine n_nil ?_
    refine v_en (k := (.l p5)) (vs := vs6) (SqL.of (g19.fh _ _ q18)) ?_
    obtain ⟨u24, hu24, hm⟩ := bnd hm
    obtain ⟨q25, hq25, hm⟩ := bnd hm
    intro D22 nD23
    have goD22 := g19.old nD23
    have gg61 := gr_newM (W := []) (o := .lst []) g19.fh nD23
    refine comp_s (sr_En (k := (.l p5)) al21) hq25 (need_ok hu24).1 (fun (acc7 : List (Int × Int)) H7 => ∃ (F7 : Hp) (vs7 : List V), Gr [] F0 H0 F7 H7 ∧ Sub F16 F7 ∧ F7 D22 = none ∧ H7 D22 = some (.lst vs7) ∧ Al (eP2 eI eI) F7 vs7 acc7) ⟨_, [], g19.trans0 gg61, Sub.refl _, g19.fh.nn nD23, upd_same, .nil⟩ ?_ ?_ ?_
    · rintro _ _ ⟨F37, vs38, g39, sb40, _, _, _⟩
      exact (SqL.of (g39.fh _ _ (sb40 _ _ q18)))
    · rintro a26 r28 acc29 x30 H31 H32 ⟨F37, vs38, g39, sb40, fD41, hD42, al43⟩ hY33 hm hl36 N34 hN35
      have m44 : Mu [] H0 F37 H31 D22 (.lst vs38) := ⟨fD41, hD42, .inl goD22⟩
      refine wipe_to (σ' := [some v_tree, none, none, none]) rfl ?_
      refine v_unpE g39.fh hY33 fun v46 d45 r47 => ?_
      have g48 := g39.trans0 d45
      have m49 := m44.call0 d45
      have er47 : v46 = V.int a26.2 := r47
      subst er47
      refine n_gcons ?_
      refine n_name (setS (setS (setS set0))) ?_
      refine n_gcons ?_
      refine n_name (setS (setS set0)) ?_
      refine n_gnil ?_
      refine ⟨rfl, ?_⟩
      refine n_yes ?_ rfl
      refine n_tup ?_
      refine n_cons ?_
      refine n_var rfl ?_
      refine n_cons ?_
      refine n_var rfl ?_
      refine n_nil ?_
      refine v_mk2 g48.fh (show eI.r F37 (.int a26.2) a26.2 from rfl) (show eI.r F37 (.int a26.1) a26.1 from rfl) fun v50 F51 H52 d53 r54 => ?_
      have g55 := g48.trans0 d53
      have m56 := m49.call0 d53
      obtain rfl := Option.some.inj hm
      refine ⟨_, m56.hp, by rw [al_len (Al.mono al43 d53.ff)]; exact hl36, hN35 _ ?_⟩
      exact ⟨_, _, m56.gr g55, (Sub.trans sb40 d53.ff), m56.fr, upd_same, pd_snoc (Al.mono al43 d53.ff) (show (eP2 eI eI).r F51 v50 (a26.2, a26.1) from r54)⟩
    rintro H62 ⟨F63, vs64, g65, sb66, fD67, hD68, al69⟩
    have m70 : Mu [] H0 F63 H62 D22 (.lst vs64) := ⟨fD67, hD68, .inl goD22⟩
    obtain ⟨F71, q73, sb75, g74, d72⟩ := freeze g65 m70 (m70.own.resolve_right (by simp))
    have al76 := (Al.mono al69 sb75)
    refine n_nil ?_
    refine v_sortedF (soP2 soI soI (fun x y => ⟨dl_I 20 x, dl_I 20 y⟩)) g74.fh (SqL.of (g74.fh _ _ q73)) al76 fun p77 vs78 F80 H81 d82 q83 al79 => ?_
    have g84 := g74.trans0 d82
    refine n_name (setS set0) ?_
    refine n_ret ?_
    refine n_lc ?_
    refine n_itL ?_
    refine n_var rfl ?_
    refine v_itL (SqL.of (g84.fh _ _ q83)) ?_
    obtain ⟨u87, hu87, hm⟩ := bnd hm
    obtain ⟨q88, hq88, hm⟩ := bnd hm
    intro D85 nD86
    have goD85 := g84.old nD86
    have gg117 := gr_newM (W := []) (o := .lst []) g84.fh nD86
    refine comp_s (sr_L al79) hq88 (need_ok hu87).1 (fun (acc7 : List Int) H7 => ∃ (F7 : Hp) (vs7 : List V), Gr [] F0 H0 F7 H7 ∧ Sub F80 F7 ∧ F7 D85 = none ∧ H7 D85 = some (.lst vs7) ∧ Al eI F7 vs7 acc7) ⟨_, [], g84.trans0 gg117, Sub.refl _, g84.fh.nn nD86, upd_same, .nil⟩ ?_ ?_ ?_
    · rintro _ _ ⟨F100, vs101, g102, sb103, _, _, _⟩
      exact (SqL.of (g102.fh _ _ (sb103 _ _ q83)))
    · rintro a89 r91 acc92 x93 H94 H95 ⟨F100, vs101, g102, sb103, fD104, hD105, al106⟩ hY96 hm hl99 N97 hN98
      have m107 : Mu [] H0 F100 H94 D85 (.lst vs101) := ⟨fD104, hD105, .inl goD85⟩
      refine wipe_to (σ' := [some v_tree, some (.ref p77), none, none]) rfl ?_
      refine v_nmY hY96 fun r108 => ?_
      refine v_unp2 g102.fh (Rp.mono (eP2 eI eI) sb103 r108) fun v109 v111 r110 r112 => ?_
      have er110 : v109 = V.int a89.1 := r110
      subst er110
      have er112 : v111 = V.int a89.2 := r112
      subst er112
      refine n_gcons ?_
      refine n_name (setS (setS set0)) ?_
      refine n_gcons ?_
      refine n_name (setS (setS (setS set0))) ?_
      refine n_gnil ?_
      refine ⟨rfl, ?_⟩
      refine n_yes ?_ rfl
      refine n_var rfl ?_
      obtain rfl := Option.some.inj hm
      refine ⟨_, m107.hp, by rw [al_len al106]; exact hl99, hN98 _ ?_⟩
      exact ⟨_, _, m107.gr g102, sb103, m107.fr, upd_same, pd_snoc al106 (show eI.r F100 (.int a89.2) a89.2 from rfl)⟩
    rintro H118 ⟨F119, vs120, g121, sb122, fD123, hD124, al125⟩
    have m126 : Mu [] H0 F119 H118 D85 (.lst vs120) := ⟨fD123, hD124, .inl goD85⟩
    obtain rfl := Option.some.inj hm
    exact hk _ _ _  g121   ⟨D85, vs120, rfl, (m126.own.resolve_right (by simp)), m126.fr, m126.hp, al125⟩

def m_sorted_words (x_tree : (List Int × Sg)) (x_order : List Int) : Option (List Sg) :=
  (need (szB x_order.length) ()).bind fun u7 =>
  (compS x_order fun a9 =>
  (m_word_of x_tree a9).bind fun r29 =>
  some (some r29)).bind fun q8 =>
  some q8
def sp_sorted_words (K : PySem.W.Frag) : Sp := fun vs H Q _ => ∃ (F : Hp) (v_tree : V) (x_tree : (List Int × Sg)) (v_order : V) (x_order : List Int) (r : List Sg), vs = [v_tree, v_order] ∧ Sub F H ∧ (eP2 (eT eI) eS).r F v_tree x_tree ∧ (eL eI).r F v_order x_order ∧ m_sorted_words x_tree x_order = some r ∧ ∀ (v : V) (F' H' : Hp) , Gr [] F H F' H' → New eS H F' H' v r → Q v H'
theorem sc_sorted_words : FnScope ["tree", "order", "place"] ["tree", "order"] (defScope s_sorted_words) := ⟨rfl, rfl, rfl, by decide +kernel, rfl, by decide +kernel, by decide +kernel⟩
theorem ok_sorted_words {f : Addr} {fd : FuncData} (F : FnP K "sorted_words" s_sorted_words f fd) (H_word_of : HasG P w K mg base "word_of" ["tree", "place"] 1 (sp_word_of K)) : FnG P w K mg base CX0 2 f fd ["tree", "order"] (sp_sorted_words K) := by
  obtain ⟨f_word_of, fd_word_of, G0_word_of, g_word_of, k_word_of, b_word_of⟩ := H_word_of
  have G_word_of := G0_word_of.mono (show 1 ≤ 1 by decide)
  refine FnDok F sc_sorted_words (fun vs H Q E h => ?_) (fun cdv A outer s H0 vs Q E gd hr h => ?_)
  · obtain ⟨_, _, _, _, _, _, rfl, _⟩ := h
    rfl
  · obtain ⟨F0, v_tree, x_tree, v_order, x_order, r0, rfl, hs0, r_tree, r_order, hm, hk⟩ := h
    have g0 : Gr [] F0 H0 F0 H0 := Gr.refl hs0
    refine ⟨_, PSs.nox (pss_one (ps_ret (pe_lc (own := [("place", 2)]) (g := gName 2) (by rfl) sc_sorted_words.nd (c_pilist (K := K) rfl (pv 1)) (blkOk_by (own := [("place", 2)]) (N := ["tree", "order", "place"]) (sc := defScope s_sorted_words) (by decide +kernel)) (fun _ _ _ _ _ => (pg_name (i := 2) sc_sorted_words.nd rfl (Or.inl rfl))) (fun _ _ _ _ _ => pts_nil) (fun _ _ _ _ _ => (pe_callG G_word_of gd hr (by rfl) g_word_of k_word_of b_word_of pass0 (pa_cons (pv 0) (pa_cons (pv 2) pa_nil))))))), ?_⟩
    refine n_ret ?_
    refine n_lc ?_
    refine n_itL ?_
    refine n_var rfl ?_
    obtain ⟨p1, vs2, ep1, q3, al4⟩ := r_order
    subst ep1
    refine v_itL (SqL.of (g0.fh _ _ q3)) ?_
    obtain ⟨u7, hu7, hm⟩ := bnd hm
    obtain ⟨q8, hq8, hm⟩ := bnd hm
    intro D5 nD6
    have goD5 := g0.old nD6
    have gg41 := gr_newM (W := []) (o := .lst []) g0.fh nD6
    refine comp_s (sr_L al4) hq8 (need_ok hu7).1 (fun (acc7 : List Sg) H7 => ∃ (F7 : Hp) (vs7 : List V), Gr [] F0 H0 F7 H7 ∧ Sub F0 F7 ∧ F7 D5 = none ∧ H7 D5 = some (.lst vs7) ∧ Al eS F7 vs7 acc7) ⟨_, [], g0.trans0 gg41, Sub.refl _, g0.fh.nn nD6, upd_same, .nil⟩ ?_ ?_ ?_
    · rintro _ _ ⟨F20, vs21, g22, sb23, _, _, _⟩
      exact (SqL.of (g22.fh _ _ (sb23 _ _ q3)))
    · rintro a9 r11 acc12 x13 H14 H15 ⟨F20, vs21, g22, sb23, fD24, hD25, al26⟩ hY16 hm hl19 N17 hN18
      have m27 : Mu [] H0 F20 H14 D5 (.lst vs21) := ⟨fD24, hD25, .inl goD5⟩
      refine wipe_to (σ' := [some v_tree, some (.ref p1), none]) rfl ?_
      refine v_nmY hY16 fun r28 => ?_
      have er28 : x13 = V.int a9 := r28
      subst er28
      refine n_name (setS (setS set0)) ?_
      refine ⟨rfl, ?_⟩
      refine n_yes ?_ rfl
      refine n_call ?_
      refine n_cons ?_
      refine n_var rfl ?_
      refine n_cons ?_
      refine n_var rfl ?_
      refine n_nil ?_
      obtain ⟨r29, hr29, hm⟩ := bnd hm
      refine ⟨F20, v_tree, x_tree, .int a9, a9, r29, rfl, g22.fh, (Rp.mono (eP2 (eT eI) eS) sb23 r_tree), rfl, hr29, fun v33 F30 H31 d32 r34 => ?_⟩
      have g35 := g22.trans0 d32
      have m36 := m27.call0 d32
      obtain ⟨er34, lr34⟩ : v33 = V.str (S r29) ∧ r29.length ≤ sizeLine := r34
      subst er34
      obtain rfl := Option.some.inj hm
      refine ⟨_, m36.hp, by rw [al_len (Al.mono al26 d32.ff)]; exact hl19, hN18 _ ?_⟩
      exact ⟨_, _, m36.gr g35, (Sub.trans sb23 d32.ff), m36.fr, upd_same, pd_snoc (Al.mono al26 d32.ff) (show eS.r F30 (.str (S r29)) r29 from ⟨rfl, lr34⟩)⟩
    rintro H42 ⟨F43, vs44, g45, sb46, fD47, hD48, al49⟩
    have m50 : Mu [] H0 F43 H42 D5 (.lst vs44) := ⟨fD47, hD48, .inl goD5⟩
    obtain rfl := Option.some.inj hm
    exact hk _ _ _  g45   ⟨D5, vs44, rfl, (m50.own.resolve_right (by simp)), m50.fr, m50.hp, al49⟩

def m_less_than (x_words : List Sg) (x_word : Sg) : Option Int :=
  (whileO 1000000 ((0 : Int), (x_words.length : Int)) (fun s6 =>
  some (decide (s6.1 < s6.2))) (fun s15 =>
  (atI x_words ((s15.1 + s15.2) / (2 : Int))).bind fun a24 =>
  if (decide (a24 < x_word)) = true then
  some ((((s15.1 + s15.2) / (2 : Int)) + (1 : Int)), s15.2)
  else
  some (s15.1, ((s15.1 + s15.2) / (2 : Int))))).bind fun s5 =>
  some s5.1
def sp_less_than (K : PySem.W.Frag) : Sp := fun vs H Q _ => ∃ (F : Hp) (v_words : V) (x_words : List Sg) (v_word : V) (x_word : Sg) (r : Int), vs = [v_words, v_word] ∧ Sub F H ∧ (eL eS).r F v_words x_words ∧ eS.r F v_word x_word ∧ m_less_than x_words x_word = some r ∧ ∀ (v : V) (F' H' : Hp) , Gr [] F H F' H' → eI.r F' v r → Q v H'
theorem sc_less_than : FnScope ["words", "word", "low", "high", "middle"] ["words", "word"] (defScope s_less_than) := ⟨rfl, rfl, rfl, by decide +kernel, rfl, by decide +kernel, by decide +kernel⟩
theorem ok_less_than {f : Addr} {fd : FuncData} (F : FnP K "less_than" s_less_than f fd) (b_len : mg "len" = none) : FnG P w K mg base CX0 1 f fd ["words", "word"] (sp_less_than K) := by
  refine FnDok F sc_less_than (fun vs H Q E h => ?_) (fun cdv A outer s H0 vs Q E gd hr h => ?_)
  · obtain ⟨_, _, _, _, _, _, rfl, _⟩ := h
    rfl
  · obtain ⟨F0, v_words, x_words, v_word, x_word, r0, rfl, hs0, r_words, r_word, hm, hk⟩ := h
    have g0 : Gr [] F0 H0 F0 H0 := Gr.refl hs0
    obtain ⟨er_word, lr_word⟩ : v_word = V.str (S x_word) ∧ x_word.length ≤ sizeLine := r_word
    subst er_word
    refine ⟨_, PSs.nox (pss_cons (ps_set (i := 2) sc_less_than.nd rfl (by first | exact Or.inl rfl | exact Or.inr rfl) pe_int)
(pss_cons (ps_set (i := 3) sc_less_than.nd rfl (by first | exact Or.inl rfl | exact Or.inr rfl) (pe_callB (c_len (K := K) rfl) (by rfl) b_len bo_len (pa_cons (pv 0) pa_nil)))
(pss_cons (ps_while PassesOwn.never (pt_cmpR op_lt (pv 2) (pv 3) (nomark _)) (pss_cons (ps_set (i := 4) sc_less_than.nd rfl (by first | exact Or.inl rfl | exact Or.inr rfl) (pe_op op_fdiv (pe_op op_add (pv 2) (pv 3)) pe_int))
(pss_one (ps_if (pt_cmpR c_ltS (pe_ix (c_ixL (K := K) rfl) (pv 0) (pv 4) (fun _ _ => rfl)) (pv 1) (nomark _)) (pss_one (ps_set (i := 2) sc_less_than.nd rfl (by first | exact Or.inl rfl | exact Or.inr rfl) (pe_op op_add (pv 4) pe_int))) (pss_one (ps_set (i := 3) sc_less_than.nd rfl (by first | exact Or.inl rfl | exact Or.inr rfl) (pv 4)))))))
(pss_one (ps_ret (pv 2)))))), ?_⟩
    refine n_seq ?_
    refine n_asg ?_
    refine n_c ?_
    refine n_name (setS (setS set0)) ?_
    refine n_seq ?_
    refine n_asg ?_
    refine n_cb ?_
    refine n_cons ?_
    refine n_var rfl ?_
    refine n_nil ?_
    obtain ⟨p1, vs2, ep1, q3, al4⟩ := r_words
    subst ep1
    refine v_len (.inl (SqL.of (g0.fh _ _ q3))) al4 ?_
    refine n_name (setS (setS (setS set0))) ?_
    refine n_seq ?_
    obtain ⟨s5, hs5, hm⟩ := bnd hm
    refine while_o hs5 (fun (s7 : Int × Int) σ7 H7 => ∃ (F7 : Hp) (o_middle : Option V), σ7 = [some (.ref p1), some (.str (S x_word)), some (.int s7.1), some (.int s7.2), o_middle] ∧ Gr [] F0 H0 F7 H7 ∧ Sub F0 F7) ⟨_, _, rfl, g0, Sub.refl _⟩ ?_ ?_ ?_
    · rintro s6 b7 _ H8 ⟨F11, o14, rfl, g12, sb13⟩ hm P9 hP10
      refine n_test ?_
      refine n_op ?_
      refine n_var rfl ?_
      refine n_var rfl ?_
      refine v_i2 ?_
      refine v_bl ?_
      obtain rfl := Option.some.inj hm
      exact hP10 _ ⟨_, _, rfl, g12, sb13⟩
    · rintro s15 s16 _ H17 ⟨F20, o23, rfl, g21, sb22⟩ _ hm N18 hN19
      refine n_seq ?_
      refine n_asg ?_
      refine n_op ?_
      refine n_op ?_
      refine n_var rfl ?_
      refine n_var rfl ?_
      refine v_i2 ?_
      refine n_c ?_
      refine v_divK (by decide) ?_
      refine n_name (setS (setS (setS (setS set0)))) ?_
      refine n_ifs ?_
      refine n_test ?_
      refine n_op ?_
      refine n_op ?_
      refine n_var rfl ?_
      refine n_var rfl ?_
      obtain ⟨a24, ha24, hm⟩ := bnd hm
      refine v_ixL (SqL.of (g21.fh _ _ (sb22 _ _ q3))) (Al.mono al4 sb22) ha24 fun v25 r26 => ?_
      obtain ⟨er26, lr26⟩ : v25 = V.str (S a24) ∧ a24.length ≤ sizeLine := r26
      subst er26
      refine n_var rfl ?_
      refine v_ltS ?_
      refine v_bl ?_
      refine br (fun hb27 => ?_) (fun hb27 => ?_)
      · replace hm := ifT hb27 hm
        refine n_asg ?_
        refine n_op ?_
        refine n_var rfl ?_
        refine n_c ?_
        refine v_i2 ?_
        refine n_name (setS (setS set0)) ?_
        obtain rfl := Option.some.inj hm
        exact hN19 _ _ ⟨_, _, rfl, g21, sb22⟩
      replace hm := ifF hb27 hm
      refine n_asg ?_
      refine n_var rfl ?_
      refine n_name (setS (setS (setS set0))) ?_
      obtain rfl := Option.some.inj hm
      exact hN19 _ _ ⟨_, _, rfl, g21, sb22⟩
    rintro _ H28 ⟨F29, o32, rfl, g30, sb31⟩ _
    refine n_ret ?_
    refine n_var rfl ?_
    obtain rfl := Option.some.inj hm
    exact hk _ _ _  g30   rfl

def m_not_above (x_words : List Sg) (x_word : Sg) : Option Int :=
  (whileO 1000000 ((0 : Int), (x_words.length : Int)) (fun s6 =>
  some (decide (s6.1 < s6.2))) (fun s15 =>
  (atI x_words ((s15.1 + s15.2) / (2 : Int))).bind fun a24 =>
  if (!decide (x_word < (cutL a24 none (some (x_word.length : Int))))) = true then
  some ((((s15.1 + s15.2) / (2 : Int)) + (1 : Int)), s15.2)
  else
  some (s15.1, ((s15.1 + s15.2) / (2 : Int))))).bind fun s5 =>
  some s5.1
def sp_not_above (K : PySem.W.Frag) : Sp := fun vs H Q _ => ∃ (F : Hp) (v_words : V) (x_words : List Sg) (v_word : V) (x_word : Sg) (r : Int), vs = [v_words, v_word] ∧ Sub F H ∧ (eL eS).r F v_words x_words ∧ eS.r F v_word x_word ∧ m_not_above x_words x_word = some r ∧ ∀ (v : V) (F' H' : Hp) , Gr [] F H F' H' → eI.r F' v r → Q v H'
theorem sc_not_above : FnScope ["words", "word", "low", "high", "middle"] ["words", "word"] (defScope s_not_above) := ⟨rfl, rfl, rfl, by decide +kernel, rfl, by decide +kernel, by decide +kernel⟩
theorem ok_not_above {f : Addr} {fd : FuncData} (F : FnP K "not_above" s_not_above f fd) (b_len : mg "len" = none) : FnG P w K mg base CX0 1 f fd ["words", "word"] (sp_not_above K) := by
  refine FnDok F sc_not_above (fun vs H Q E h => ?_) (fun cdv A outer s H0 vs Q E gd hr h => ?_)
  · obtain ⟨_, _, _, _, _, _, rfl, _⟩ := h
    rfl
  · obtain ⟨F0, v_words, x_words, v_word, x_word, r0, rfl, hs0, r_words, r_word, hm, hk⟩ := h
    have g0 : Gr [] F0 H0 F0 H0 := Gr.refl hs0
    obtain ⟨er_word, lr_word⟩ : v_word = V.str (S x_word) ∧ x_word.length ≤ sizeLine := r_word
    subst er_word
    refine ⟨_, PSs.nox (pss_cons (ps_set (i := 2) sc_not_above.nd rfl (by first | exact Or.inl rfl | exact Or.inr rfl) pe_int)
(pss_cons (ps_set (i := 3) sc_not_above.nd rfl (by first | exact Or.inl rfl | exact Or.inr rfl) (pe_callB (c_len (K := K) rfl) (by rfl) b_len bo_len (pa_cons (pv 0) pa_nil)))
(pss_cons (ps_while PassesOwn.never (pt_cmpR op_lt (pv 2) (pv 3) (nomark _)) (pss_cons (ps_set (i := 4) sc_not_above.nd rfl (by first | exact Or.inl rfl | exact Or.inr rfl) (pe_op op_fdiv (pe_op op_add (pv 2) (pv 3)) pe_int))
(pss_one (ps_if (pt_cmpR c_leS (pe_slice sl_str (pe_ix (c_ixL (K := K) rfl) (pv 0) (pv 4) (fun _ _ => rfl)) po_none (po_some (pe_callB c_lenS (by rfl) b_len bo_len (pa_cons (pv 1) pa_nil)))) (pv 1) (nomark _)) (pss_one (ps_set (i := 2) sc_not_above.nd rfl (by first | exact Or.inl rfl | exact Or.inr rfl) (pe_op op_add (pv 4) pe_int))) (pss_one (ps_set (i := 3) sc_not_above.nd rfl (by first | exact Or.inl rfl | exact Or.inr rfl) (pv 4)))))))
(pss_one (ps_ret (pv 2)))))), ?_⟩
    refine n_seq ?_
    refine n_asg ?_
    refine n_c ?_
    refine n_name (setS (setS set0)) ?_
    refine n_seq ?_
    refine n_asg ?_
    refine n_cb ?_
    refine n_cons ?_
    refine n_var rfl ?_
    refine n_nil ?_
    obtain ⟨p1, vs2, ep1, q3, al4⟩ := r_words
    subst ep1
    refine v_len (.inl (SqL.of (g0.fh _ _ q3))) al4 ?_
    refine n_name (setS (setS (setS set0))) ?_
    refine n_seq ?_
    obtain ⟨s5, hs5, hm⟩ := bnd hm
    refine while_o hs5 (fun (s7 : Int × Int) σ7 H7 => ∃ (F7 : Hp) (o_middle : Option V), σ7 = [some (.ref p1), some (.str (S x_word)), some (.int s7.1), some (.int s7.2), o_middle] ∧ Gr [] F0 H0 F7 H7 ∧ Sub F0 F7) ⟨_, _, rfl, g0, Sub.refl _⟩ ?_ ?_ ?_
    · rintro s6 b7 _ H8 ⟨F11, o14, rfl, g12, sb13⟩ hm P9 hP10
      refine n_test ?_
      refine n_op ?_
      refine n_var rfl ?_
      refine n_var rfl ?_
      refine v_i2 ?_
      refine v_bl ?_
      obtain rfl := Option.some.inj hm
      exact hP10 _ ⟨_, _, rfl, g12, sb13⟩
    · rintro s15 s16 _ H17 ⟨F20, o23, rfl, g21, sb22⟩ _ hm N18 hN19
      refine n_seq ?_
      refine n_asg ?_
      refine n_op ?_
      refine n_op ?_
      refine n_var rfl ?_
      refine n_var rfl ?_
      refine v_i2 ?_
      refine n_c ?_
      refine v_divK (by decide) ?_
      refine n_name (setS (setS (setS (setS set0)))) ?_
      refine n_ifs ?_
      refine n_test ?_
      refine n_op ?_
      refine n_sl ?_
      refine n_op ?_
      refine n_var rfl ?_
      refine n_var rfl ?_
      obtain ⟨a24, ha24, hm⟩ := bnd hm
      refine v_ixL (SqL.of (g21.fh _ _ (sb22 _ _ q3))) (Al.mono al4 sb22) ha24 fun v25 r26 => ?_
      obtain ⟨er26, lr26⟩ : v25 = V.str (S a24) ∧ a24.length ≤ sizeLine := r26
      subst er26
      refine n_nopart ?_
      refine n_part ?_
      refine n_cb ?_
      refine n_cons ?_
      refine n_var rfl ?_
      refine n_nil ?_
      refine v_lenS lr_word ?_
      refine v_part ?_
      refine v_slS lr26 ?_
      refine n_var rfl ?_
      refine v_leS ?_
      refine v_bl ?_
      refine br (fun hb27 => ?_) (fun hb27 => ?_)
      · replace hm := ifT hb27 hm
        refine n_asg ?_
        refine n_op ?_
        refine n_var rfl ?_
        refine n_c ?_
        refine v_i2 ?_
        refine n_name (setS (setS set0)) ?_
        obtain rfl := Option.some.inj hm
        exact hN19 _ _ ⟨_, _, rfl, g21, sb22⟩
      replace hm := ifF hb27 hm
      refine n_asg ?_
      refine n_var rfl ?_
      refine n_name (setS (setS (setS set0))) ?_
      obtain rfl := Option.some.inj hm
      exact hN19 _ _ ⟨_, _, rfl, g21, sb22⟩
    rintro _ H28 ⟨F29, o32, rfl, g30, sb31⟩ _
    refine n_ret ?_
    refine n_var rfl ?_
    obtain rfl := Option.some.inj hm
    exact hk _ _ _  g30   rfl

def m_stretch_in (x_words : List Sg) (x_word : Sg) : Option (Int × Int) :=
  (m_less_than x_words x_word).bind fun r1 =>
  (m_not_above x_words x_word).bind fun r8 =>
  some (r1, r8)
def sp_stretch_in (K : PySem.W.Frag) : Sp := fun vs H Q _ => ∃ (F : Hp) (v_words : V) (x_words : List Sg) (v_word : V) (x_word : Sg) (r : (Int × Int)), vs = [v_words, v_word] ∧ Sub F H ∧ (eL eS).r F v_words x_words ∧ eS.r F v_word x_word ∧ m_stretch_in x_words x_word = some r ∧ ∀ (v : V) (F' H' : Hp) , Gr [] F H F' H' → (eP2 eI eI).r F' v r → Q v H'
theorem sc_stretch_in : FnScope ["words", "word"] ["words", "word"] (defScope s_stretch_in) := ⟨rfl, rfl, rfl, by decide +kernel, rfl, by decide +kernel, by decide +kernel⟩
theorem ok_stretch_in {f : Addr} {fd : FuncData} (F : FnP K "stretch_in" s_stretch_in f fd) (H_less_than : HasG P w K mg base "less_than" ["words", "word"] 1 (sp_less_than K)) (H_not_above : HasG P w K mg base "not_above" ["words", "word"] 1 (sp_not_above K)) : FnG P w K mg base CX0 2 f fd ["words", "word"] (sp_stretch_in K) := by
  obtain ⟨f_less_than, fd_less_than, G0_less_than, g_less_than, k_less_than, b_less_than⟩ := H_less_than
  have G_less_than := G0_less_than.mono (show 1 ≤ 1 by decide)
  obtain ⟨f_not_above, fd_not_above, G0_not_above, g_not_above, k_not_above, b_not_above⟩ := H_not_above
  have G_not_above := G0_not_above.mono (show 1 ≤ 1 by decide)
  refine FnDok F sc_stretch_in (fun vs H Q E h => ?_) (fun cdv A outer s H0 vs Q E gd hr h => ?_)
  · obtain ⟨_, _, _, _, _, _, rfl, _⟩ := h
    rfl
  · obtain ⟨F0, v_words, x_words, v_word, x_word, r0, rfl, hs0, r_words, r_word, hm, hk⟩ := h
    have g0 : Gr [] F0 H0 F0 H0 := Gr.refl hs0
    obtain ⟨er_word, lr_word⟩ : v_word = V.str (S x_word) ∧ x_word.length ≤ sizeLine := r_word
    subst er_word
    refine ⟨_, PSs.nox (pss_one (ps_ret (pe_tup (pa_cons (pe_callG G_less_than gd hr (by rfl) g_less_than k_less_than b_less_than pass0 (pa_cons (pv 0) (pa_cons (pv 1) pa_nil))) (pa_cons (pe_callG G_not_above gd hr (by rfl) g_not_above k_not_above b_not_above pass0 (pa_cons (pv 0) (pa_cons (pv 1) pa_nil))) pa_nil))))), ?_⟩
    refine n_ret ?_
    refine n_tup ?_
    refine n_cons ?_
    refine n_call ?_
    refine n_cons ?_
    refine n_var rfl ?_
    refine n_cons ?_
    refine n_var rfl ?_
    refine n_nil ?_
    obtain ⟨r1, hr1, hm⟩ := bnd hm
    refine ⟨F0, v_words, x_words, .str (S x_word), x_word, r1, rfl, g0.fh, r_words, ⟨rfl, lr_word⟩, hr1, fun v5 F2 H3 d4 r6 => ?_⟩
    have g7 := g0.trans0 d4
    have er6 : v5 = V.int r1 := r6
    subst er6
    refine n_cons ?_
    refine n_call ?_
    refine n_cons ?_
    refine n_var rfl ?_
    refine n_cons ?_
    refine n_var rfl ?_
    refine n_nil ?_
    obtain ⟨r8, hr8, hm⟩ := bnd hm
    refine ⟨F2, v_words, x_words, .str (S x_word), x_word, r8, rfl, g7.fh, (Rp.mono (eL eS) d4.ff r_words), ⟨rfl, lr_word⟩, hr8, fun v12 F9 H10 d11 r13 => ?_⟩
    have g14 := g7.trans0 d11
    have er13 : v12 = V.int r8 := r13
    subst er13
    refine n_nil ?_
    refine v_mk2 g14.fh (show eI.r F9 (.int r1) r1 from rfl) (show eI.r F9 (.int r8) r8 from rfl) fun v15 F16 H17 d18 r19 => ?_
    have g20 := g14.trans0 d18
    obtain rfl := Option.some.inj hm
    exact hk _ _ _  g20   r19

def m_many_in (x_words : List Sg) (x_word : Sg) : Option Int :=
  (m_stretch_in x_words x_word).bind fun r1 =>
  some (r1.2 - r1.1)
def sp_many_in (K : PySem.W.Frag) : Sp := fun vs H Q _ => ∃ (F : Hp) (v_words : V) (x_words : List Sg) (v_word : V) (x_word : Sg) (r : Int), vs = [v_words, v_word] ∧ Sub F H ∧ (eL eS).r F v_words x_words ∧ eS.r F v_word x_word ∧ m_many_in x_words x_word = some r ∧ ∀ (v : V) (F' H' : Hp) , Gr [] F H F' H' → eI.r F' v r → Q v H'
theorem sc_many_in : FnScope ["words", "word", "first", "behind"] ["words", "word"] (defScope s_many_in) := ⟨rfl, rfl, rfl, by decide +kernel, rfl, by decide +kernel, by decide +kernel⟩
theorem ok_many_in {f : Addr} {fd : FuncData} (F : FnP K "many_in" s_many_in f fd) (H_stretch_in : HasG P w K mg base "stretch_in" ["words", "word"] 2 (sp_stretch_in K)) : FnG P w K mg base CX0 3 f fd ["words", "word"] (sp_many_in K) := by
  obtain ⟨f_stretch_in, fd_stretch_in, G0_stretch_in, g_stretch_in, k_stretch_in, b_stretch_in⟩ := H_stretch_in
  have G_stretch_in := G0_stretch_in.mono (show 2 ≤ 2 by decide)
  refine FnDok F sc_many_in (fun vs H Q E h => ?_) (fun cdv A outer s H0 vs Q E gd hr h => ?_)
  · obtain ⟨_, _, _, _, _, _, rfl, _⟩ := h
    rfl
  · obtain ⟨F0, v_words, x_words, v_word, x_word, r0, rfl, hs0, r_words, r_word, hm, hk⟩ := h
    have g0 : Gr [] F0 H0 F0 H0 := Gr.refl hs0
    obtain ⟨er_word, lr_word⟩ : v_word = V.str (S x_word) ∧ x_word.length ≤ sizeLine := r_word
    subst er_word
    refine ⟨_, PSs.nox (pss_cons (ps_asg (pe_callG G_stretch_in gd hr (by rfl) g_stretch_in k_stretch_in b_stretch_in pass0 (pa_cons (pv 0) (pa_cons (pv 1) pa_nil))) (c_pgtup (K := K) rfl (by rfl) (pgs_cons (pg_name (i := 2) sc_many_in.nd rfl (by first | exact Or.inl rfl | exact Or.inr rfl)) (pgs_cons (pg_name (i := 3) sc_many_in.nd rfl (by first | exact Or.inl rfl | exact Or.inr rfl)) pgs_nil))))
(pss_one (ps_ret (pe_op op_sub (pv 3) (pv 2))))), ?_⟩
    refine n_seq ?_
    refine n_asg ?_
    refine n_call ?_
    refine n_cons ?_
    refine n_var rfl ?_
    refine n_cons ?_
    refine n_var rfl ?_
    refine n_nil ?_
    obtain ⟨r1, hr1, hm⟩ := bnd hm
    refine ⟨F0, v_words, x_words, .str (S x_word), x_word, r1, rfl, g0.fh, r_words, ⟨rfl, lr_word⟩, hr1, fun v5 F2 H3 d4 r6 => ?_⟩
    have g7 := g0.trans0 d4
    refine v_unp2 g7.fh r6 fun v8 v10 r9 r11 => ?_
    have er9 : v8 = V.int r1.1 := r9
    subst er9
    have er11 : v10 = V.int r1.2 := r11
    subst er11
    refine n_gcons ?_
    refine n_name (setS (setS set0)) ?_
    refine n_gcons ?_
    refine n_name (setS (setS (setS set0))) ?_
    refine n_gnil ?_
    refine n_ret ?_
    refine n_op ?_
    refine n_var rfl ?_
    refine n_var rfl ?_
    refine v_i2 ?_
    obtain rfl := Option.some.inj hm
    exact hk _ _ _  g7   rfl

def m_letters_more (x_tree : (List Int × Sg)) (x_word : Sg) (x_longer : List Sg) : Option (List (Sg × Int)) :=
  (m_order_of x_tree).bind fun r1 =>
  (m_sorted_words x_tree r1).bind fun r22 =>
  (m_many_in r22 x_word).bind fun r43 =>
  if (decide (r43 = (0 : Int))) = true then
  none
  else
  (need (szB (List.zip (signs ([97, 98, 99, 100, 101, 102, 103, 104, 105, 106, 107, 108, 109, 110, 111, 112, 113, 114, 115, 116, 117, 118, 119, 120, 121, 122] : Sg)) x_longer).length) ()).bind fun u57 =>
  (compS (List.zip (signs ([97, 98, 99, 100, 101, 102, 103, 104, 105, 106, 107, 108, 109, 110, 111, 112, 113, 114, 115, 116, 117, 118, 119, 120, 121, 122] : Sg)) x_longer) fun a59 =>
  (m_many_in r22 a59.2).bind fun r85 =>
  some (some (a59.1, r85))).bind fun q58 =>
  (need (szB q58.length) ()).bind fun u122 =>
  (compS q58 fun a124 =>
  if (decide ((0 : Int) < a124.2)) = true then
  some (some (a124.1, a124.2))
  else
  some none).bind fun q123 =>
  some q123
def sp_letters_more (K : PySem.W.Frag) : Sp := fun vs H Q _ => ∃ (F : Hp) (v_tree : V) (x_tree : (List Int × Sg)) (v_word : V) (x_word : Sg) (v_longer : V) (x_longer : List Sg) (r : List (Sg × Int)), vs = [v_tree, v_word, v_longer] ∧ Sub F H ∧ (eP2 (eT eI) eS).r F v_tree x_tree ∧ eS.r F v_word x_word ∧ (eL eS).r F v_longer x_longer ∧ m_letters_more x_tree x_word x_longer = some r ∧ ∀ (v : V) (F' H' : Hp) , Gr [] F H F' H' → New (eP2 eS eI) H F' H' v r → Q v H'
theorem sc_letters_more : FnScope ["tree", "word", "longer", "words", "pairs", "letter", "other", "many"] ["tree", "word", "longer"] (defScope s_letters_more) := ⟨rfl, rfl, rfl, by decide +kernel, rfl, by decide +kernel, by decide +kernel⟩
theorem ok_letters_more {f : Addr} {fd : FuncData} (F : FnP K "letters_more" s_letters_more f fd) (H_sorted_words : HasG P w K mg base "sorted_words" ["tree", "order"] 2 (sp_sorted_words K)) (H_order_of : HasG P w K mg base "order_of" ["tree"] 3 (sp_order_of K)) (H_many_in : HasG P w K mg base "many_in" ["words", "word"] 3 (sp_many_in K)) (b_zip : mg "zip" = none) (c_LETTERS : ∃ t, mg "LETTERS" = some (.str "abcdefghijklmnopqrstuvwxyz" t)) : FnG P w K mg base CX0 4 f fd ["tree", "word", "longer"] (sp_letters_more K) := by
  obtain ⟨f_sorted_words, fd_sorted_words, G0_sorted_words, g_sorted_words, k_sorted_words, b_sorted_words⟩ := H_sorted_words
  have G_sorted_words := G0_sorted_words.mono (show 2 ≤ 3 by decide)
  obtain ⟨f_order_of, fd_order_of, G0_order_of, g_order_of, k_order_of, b_order_of⟩ := H_order_of
  have G_order_of := G0_order_of.mono (show 3 ≤ 3 by decide)
  obtain ⟨f_many_in, fd_many_in, G0_many_in, g_many_in, k_many_in, b_many_in⟩ := H_many_in
  have G_many_in := G0_many_in.mono (show 3 ≤ 3 by decide)
  obtain ⟨t_LETTERS, c_LETTERS⟩ := c_LETTERS
  refine FnDok F sc_letters_more (fun vs H Q E h => ?_) (fun cdv A outer s H0 vs Q E gd hr h => ?_)
  · obtain ⟨_, _, _, _, _, _, _, _, rfl, _⟩ := h
    rfl
  · obtain ⟨F0, v_tree, x_tree, v_word, x_word, v_longer, x_longer, r0, rfl, hs0, r_tree, r_word, r_longer, hm, hk⟩ := h
    have g0 : Gr [] F0 H0 F0 H0 := Gr.refl hs0
    obtain ⟨er_word, lr_word⟩ : v_word = V.str (S x_word) ∧ x_word.length ≤ sizeLine := r_word
    subst er_word
    refine ⟨_, PSs.nox (pss_cons (ps_set (i := 3) sc_letters_more.nd rfl (by first | exact Or.inl rfl | exact Or.inr rfl) (pe_callG G_sorted_words gd hr (by rfl) g_sorted_words k_sorted_words b_sorted_words pass0 (pa_cons (pv 0) (pa_cons (pe_callG G_order_of gd hr (by rfl) g_order_of k_order_of b_order_of pass0 (pa_cons (pv 0) pa_nil)) pa_nil))))
(pss_cons (ps_if (pt_cmpR op_eq (pe_callG G_many_in gd hr (by rfl) g_many_in k_many_in b_many_in pass0 (pa_cons (pv 3) (pa_cons (pv 1) pa_nil))) pe_int (nomark _)) (pss_one st_no) pss_nil)
(pss_cons (ps_setLc (i := 4) (own := [("letter", 5), ("other", 6)]) (g := gTup K 2 (gCons (gName 5) (gCons (gName 6) gNil))) (by rfl) sc_letters_more.nd rfl rfl (sw_true rfl rfl rfl (by decide +kernel)) (pi_zp (K := K) rfl (by rfl) b_zip (pa_cons (pe_glob (v := .str "abcdefghijklmnopqrstuvwxyz") (by rfl) c_LETTERS ⟨_, rfl⟩) (pa_cons (pv 2) pa_nil))) (blkOk_by (own := [("letter", 5), ("other", 6)]) (N := ["tree", "word", "longer", "words", "pairs", "letter", "other", "many"]) (sc := defScope s_letters_more) (by decide +kernel)) (fun _ _ _ _ _ => (c_pgtup (K := K) rfl (by rfl) (pgs_cons (pg_name (i := 5) sc_letters_more.nd rfl (Or.inl rfl)) (pgs_cons (pg_name (i := 6) sc_letters_more.nd rfl (Or.inl rfl)) pgs_nil)))) (fun _ _ _ _ _ => pts_nil) (fun _ _ _ _ _ => (pe_tup (pa_cons (pv 5) (pa_cons (pe_callG G_many_in gd hr (by rfl) g_many_in k_many_in b_many_in pass0 (pa_cons (pv 3) (pa_cons (pv 6) pa_nil))) pa_nil)))))
(pss_one (ps_ret (pe_lc (own := [("letter", 5), ("many", 7)]) (g := gTup K 2 (gCons (gName 5) (gCons (gName 7) gNil))) (by rfl) sc_letters_more.nd (c_pilist (K := K) rfl (pv 4)) (blkOk_by (own := [("letter", 5), ("many", 7)]) (N := ["tree", "word", "longer", "words", "pairs", "letter", "other", "many"]) (sc := defScope s_letters_more) (by decide +kernel)) (fun _ _ _ _ _ => (c_pgtup (K := K) rfl (by rfl) (pgs_cons (pg_name (i := 5) sc_letters_more.nd rfl (Or.inl rfl)) (pgs_cons (pg_name (i := 7) sc_letters_more.nd rfl (Or.inl rfl)) pgs_nil)))) (fun _ _ _ _ _ => pts_one (pt_cmpR op_gt (pv 7) pe_int (nomark _))) (fun _ _ _ _ _ => (pe_tup (pa_cons (pv 5) (pa_cons (pv 7) pa_nil)))))))))), ?_⟩
    refine n_seq ?_
    refine n_asg ?_
    refine n_call ?_
    refine n_cons ?_
    refine n_var rfl ?_
    refine n_cons ?_
    refine n_call ?_
    refine n_cons ?_
    refine n_var rfl ?_
    refine n_nil ?_
    obtain ⟨r1, hr1, hm⟩ := bnd hm
    refine ⟨F0, v_tree, x_tree, r1, rfl, g0.fh, r_tree, hr1, fun v11 F2 H3 d4 r12 => ?_⟩
    obtain ⟨p5, vs6, ev11, np7, fp8, hp9, al10⟩ := r12
    subst ev11
    have go13 := g0.old np7
    have g14 := g0.trans0 d4
    have m15 : Mu [] H0 F2 H3 p5 (.lst vs6) := ⟨fp8, hp9, .inl go13⟩
    obtain ⟨F16, q18, sb20, g19, d17⟩ := freeze g14 m15 (m15.own.resolve_right (by simp))
    have al21 := (Al.mono al10 sb20)
    refine n_nil ?_
    obtain ⟨r22, hr22, hm⟩ := bnd hm
    refine ⟨F16, v_tree, x_tree, (.ref p5), r1, r22, rfl, g19.fh, (Rp.mono (eP2 (eT eI) eS) (Sub.trans d4.ff sb20) r_tree), (⟨p5, vs6, rfl, q18, al21⟩ : (eL eI).r F16 (.ref p5) r1), hr22, fun v32 F23 H24 d25 r33 => ?_⟩
    obtain ⟨p26, vs27, ev32, np28, fp29, hp30, al31⟩ := r33
    subst ev32
    have go34 := g19.old np28
    have g35 := g19.trans0 d25
    have m36 : Mu [] H0 F23 H24 p26 (.lst vs27) := ⟨fp29, hp30, .inl go34⟩
    obtain ⟨F37, q39, sb41, g40, d38⟩ := freeze g35 m36 (m36.own.resolve_right (by simp))
    have al42 := (Al.mono al31 sb41)
    refine n_name (setS (setS (setS set0))) ?_
    refine n_seq ?_
    refine n_ifs ?_
    refine n_test ?_
    refine n_op ?_
    refine n_call ?_
    refine n_cons ?_
    refine n_var rfl ?_
    refine n_cons ?_
    refine n_var rfl ?_
    refine n_nil ?_
    obtain ⟨r43, hr43, hm⟩ := bnd hm
    refine ⟨F37, (.ref p26), r22, .str (S x_word), x_word, r43, rfl, g40.fh, (⟨p26, vs27, rfl, q39, al42⟩ : (eL eS).r F37 (.ref p26) r22), ⟨rfl, lr_word⟩, hr43, fun v47 F44 H45 d46 r48 => ?_⟩
    have g49 := g40.trans0 d46
    have er48 : v47 = V.int r43 := r48
    subst er48
    refine n_c ?_
    refine v_eqI ?_
    refine v_bl ?_
    refine br (fun hb50 => ?_) (fun hb50 => ?_)
    · replace hm := ifT hb50 hm
      cases hm
    replace hm := ifF hb50 hm
    refine n_nextS ?_
    refine n_seq ?_
    refine n_asg ?_
    refine n_lc ?_
    refine n_zp ?_
    refine n_cons ?_
    refine n_str (s := [97, 98, 99, 100, 101, 102, 103, 104, 105, 106, 107, 108, 109, 110, 111, 112, 113, 114, 115, 116, 117, 118, 119, 120, 121, 122]) (by decide +kernel) ?_
    refine n_cons ?_
    refine n_var rfl ?_
    refine n_nil ?_
    obtain ⟨p51, vs52, ep51, q53, al54⟩ := (Rp.mono (eL eS) (Sub.trans d4.ff (Sub.trans sb20 (Sub.trans d25.ff (Sub.trans sb41 d46.ff)))) r_longer)
    subst ep51
    refine v_zp (k := (.s (S ([97, 98, 99, 100, 101, 102, 103, 104, 105, 106, 107, 108, 109, 110, 111, 112, 113, 114, 115, 116, 117, 118, 119, 120, 121, 122] : Sg)))) (k' := (.l p51)) (vs := (sgV (S ([97, 98, 99, 100, 101, 102, 103, 104, 105, 106, 107, 108, 109, 110, 111, 112, 113, 114, 115, 116, 117, 118, 119, 120, 121, 122] : Sg)))) (ws := vs52) rfl (SqL.of (g49.fh _ _ q53)) ?_
    obtain ⟨u57, hu57, hm⟩ := bnd hm
    obtain ⟨q58, hq58, hm⟩ := bnd hm
    intro D55 nD56
    have goD55 := g49.old nD56
    have gg104 := gr_newM (W := []) (o := .lst []) g49.fh nD56
    refine comp_s (sr_Zp (k := (.s (S ([97, 98, 99, 100, 101, 102, 103, 104, 105, 106, 107, 108, 109, 110, 111, 112, 113, 114, 115, 116, 117, 118, 119, 120, 121, 122] : Sg)))) (k' := (.l p51)) (al_sg (F := F44) ([97, 98, 99, 100, 101, 102, 103, 104, 105, 106, 107, 108, 109, 110, 111, 112, 113, 114, 115, 116, 117, 118, 119, 120, 121, 122] : Sg)) al54) hq58 (need_ok hu57).1 (fun (acc7 : List (Sg × Int)) H7 => ∃ (F7 : Hp) (vs7 : List V), Gr [] F0 H0 F7 H7 ∧ Sub F44 F7 ∧ F7 D55 = none ∧ H7 D55 = some (.lst vs7) ∧ Al (eP2 eS eI) F7 vs7 acc7) ⟨_, [], g49.trans0 gg104, Sub.refl _, g49.fh.nn nD56, upd_same, .nil⟩ ?_ ?_ ?_
    · rintro _ _ ⟨F70, vs71, g72, sb73, _, _, _⟩
      exact ⟨rfl, (SqL.of (g72.fh _ _ (sb73 _ _ q53)))⟩
    · rintro a59 r61 acc62 x63 H64 H65 ⟨F70, vs71, g72, sb73, fD74, hD75, al76⟩ hY66 hm hl69 N67 hN68
      have m77 : Mu [] H0 F70 H64 D55 (.lst vs71) := ⟨fD74, hD75, .inl goD55⟩
      refine wipe_to (σ' := [some v_tree, some (.str (S x_word)), some (.ref p51), some (.ref p26), none, none, none, none]) rfl ?_
      refine v_unpZ g72.fh hY66 fun v79 v80 d78 r81 r82 => ?_
      have g83 := g72.trans0 d78
      have m84 := m77.call0 d78
      obtain ⟨er81, lr81⟩ : v79 = V.str (S a59.1) ∧ a59.1.length ≤ sizeLine := r81
      subst er81
      obtain ⟨er82, lr82⟩ : v80 = V.str (S a59.2) ∧ a59.2.length ≤ sizeLine := r82
      subst er82
      refine n_gcons ?_
      refine n_name (setS (setS (setS (setS (setS set0))))) ?_
      refine n_gcons ?_
      refine n_name (setS (setS (setS (setS (setS (setS set0)))))) ?_
      refine n_gnil ?_
      refine ⟨rfl, ?_⟩
      refine n_yes ?_ rfl
      refine n_tup ?_
      refine n_cons ?_
      refine n_var rfl ?_
      refine n_cons ?_
      refine n_call ?_
      refine n_cons ?_
      refine n_var rfl ?_
      refine n_cons ?_
      refine n_var rfl ?_
      refine n_nil ?_
      obtain ⟨r85, hr85, hm⟩ := bnd hm
      refine ⟨F70, (.ref p26), r22, .str (S a59.2), a59.2, r85, rfl, g83.fh, (Rp.mono (eL eS) (Sub.trans d46.ff sb73) (⟨p26, vs27, rfl, q39, al42⟩ : (eL eS).r F37 (.ref p26) r22)), ⟨rfl, lr82⟩, hr85, fun v89 F86 H87 d88 r90 => ?_⟩
      have g91 := g83.trans0 d88
      have m92 := m84.call0 d88
      have er90 : v89 = V.int r85 := r90
      subst er90
      refine n_nil ?_
      refine v_mk2 g91.fh (show eS.r F86 (.str (S a59.1)) a59.1 from ⟨rfl, lr81⟩) (show eI.r F86 (.int r85) r85 from rfl) fun v93 F94 H95 d96 r97 => ?_
      have g98 := g91.trans0 d96
      have m99 := m92.call0 d96
      obtain rfl := Option.some.inj hm
      refine ⟨_, m99.hp, by rw [al_len (Al.mono al76 (Sub.trans d88.ff d96.ff))]; exact hl69, hN68 _ ?_⟩
      exact ⟨_, _, m99.gr g98, (Sub.trans sb73 (Sub.trans d88.ff d96.ff)), m99.fr, upd_same, pd_snoc (Al.mono al76 (Sub.trans d88.ff d96.ff)) (show (eP2 eS eI).r F94 v93 (a59.1, r85) from r97)⟩
    rintro H105 ⟨F106, vs107, g108, sb109, fD110, hD111, al112⟩
    have m113 : Mu [] H0 F106 H105 D55 (.lst vs107) := ⟨fD110, hD111, .inl goD55⟩
    obtain ⟨F114, q116, sb118, g117, d115⟩ := freeze g108 m113 (m113.own.resolve_right (by simp))
    have al119 := (Al.mono al112 sb118)
    refine n_name (setS (setS (setS (setS set0)))) ?_
    refine n_ret ?_
    refine n_lc ?_
    refine n_itL ?_
    refine n_var rfl ?_
    refine v_itL (SqL.of (g117.fh _ _ q116)) ?_
    obtain ⟨u122, hu122, hm⟩ := bnd hm
    obtain ⟨q123, hq123, hm⟩ := bnd hm
    intro D120 nD121
    have goD120 := g117.old nD121
    have gg160 := gr_newM (W := []) (o := .lst []) g117.fh nD121
    refine comp_s (sr_L al119) hq123 (need_ok hu122).1 (fun (acc7 : List (Sg × Int)) H7 => ∃ (F7 : Hp) (vs7 : List V), Gr [] F0 H0 F7 H7 ∧ Sub F114 F7 ∧ F7 D120 = none ∧ H7 D120 = some (.lst vs7) ∧ Al (eP2 eS eI) F7 vs7 acc7) ⟨_, [], g117.trans0 gg160, Sub.refl _, g117.fh.nn nD121, upd_same, .nil⟩ ?_ ?_ ?_
    · rintro _ _ ⟨F135, vs136, g137, sb138, _, _, _⟩
      exact (SqL.of (g137.fh _ _ (sb138 _ _ q116)))
    · rintro a124 r126 acc127 x128 H129 H130 ⟨F135, vs136, g137, sb138, fD139, hD140, al141⟩ hY131 hm hl134 N132 hN133
      have m142 : Mu [] H0 F135 H129 D120 (.lst vs136) := ⟨fD139, hD140, .inl goD120⟩
      refine wipe_to (σ' := [some v_tree, some (.str (S x_word)), some (.ref p51), some (.ref p26), some (.ref D55), none, none, none]) rfl ?_
      refine v_nmY hY131 fun r143 => ?_
      refine v_unp2 g137.fh (Rp.mono (eP2 eS eI) sb138 r143) fun v144 v146 r145 r147 => ?_
      obtain ⟨er145, lr145⟩ : v144 = V.str (S a124.1) ∧ a124.1.length ≤ sizeLine := r145
      subst er145
      have er147 : v146 = V.int a124.2 := r147
      subst er147
      refine n_gcons ?_
      refine n_name (setS (setS (setS (setS (setS set0))))) ?_
      refine n_gcons ?_
      refine n_name (setS (setS (setS (setS (setS (setS (setS set0))))))) ?_
      refine n_gnil ?_
      refine ⟨rfl, ?_⟩
      refine n_test ?_
      refine n_op ?_
      refine n_var rfl ?_
      refine n_c ?_
      refine v_i2 ?_
      refine v_bl ?_
      refine br (fun hb148 => ?_) (fun hb148 => ?_)
      · replace hm := ifT hb148 hm
        refine n_tup ?_
        refine n_cons ?_
        refine n_var rfl ?_
        refine n_cons ?_
        refine n_var rfl ?_
        refine n_nil ?_
        refine v_mk2 g137.fh (show eS.r F135 (.str (S a124.1)) a124.1 from ⟨rfl, lr145⟩) (show eI.r F135 (.int a124.2) a124.2 from rfl) fun v149 F150 H151 d152 r153 => ?_
        have g154 := g137.trans0 d152
        have m155 := m142.call0 d152
        obtain rfl := Option.some.inj hm
        refine ⟨_, m155.hp, by rw [al_len (Al.mono al141 d152.ff)]; exact hl134, hN133 _ ?_⟩
        exact ⟨_, _, m155.gr g154, (Sub.trans sb138 d152.ff), m155.fr, upd_same, pd_snoc (Al.mono al141 d152.ff) (show (eP2 eS eI).r F150 v149 (a124.1, a124.2) from r153)⟩
      · replace hm := ifF hb148 hm
        obtain rfl := Option.some.inj hm
        refine hN133 _ ?_
        simp only [Option.toList, List.append_nil]
        exact ⟨_, _, g137, sb138, m142.fr, m142.hp, al141⟩
    rintro H161 ⟨F162, vs163, g164, sb165, fD166, hD167, al168⟩
    have m169 : Mu [] H0 F162 H161 D120 (.lst vs163) := ⟨fD166, hD167, .inl goD120⟩
    obtain rfl := Option.some.inj hm
    exact hk _ _ _  g164   ⟨D120, vs163, rfl, (m169.own.resolve_right (by simp)), m169.fr, m169.hp, al168⟩

def m_fronts_of (x_tree : (List Int × Sg)) (x_word : Sg) : Option (List (Sg × Int)) :=
  (need (szB (signs ([97, 98, 99, 100, 101, 102, 103, 104, 105, 106, 107, 108, 109, 110, 111, 112, 113, 114, 115, 116, 117, 118, 119, 120, 121, 122] : Sg)).length) ()).bind fun u3 =>
  (compS (signs ([97, 98, 99, 100, 101, 102, 103, 104, 105, 106, 107, 108, 109, 110, 111, 112, 113, 114, 115, 116, 117, 118, 119, 120, 121, 122] : Sg)) fun a5 =>
  (catM a5 x_word).bind fun t25 =>
  some (some t25)).bind fun q4 =>
  (m_letters_more x_tree x_word q4).bind fun r46 =>
  some r46
def sp_fronts_of (K : PySem.W.Frag) : Sp := fun vs H Q _ => ∃ (F : Hp) (v_tree : V) (x_tree : (List Int × Sg)) (v_word : V) (x_word : Sg) (r : List (Sg × Int)), vs = [v_tree, v_word] ∧ Sub F H ∧ (eP2 (eT eI) eS).r F v_tree x_tree ∧ eS.r F v_word x_word ∧ m_fronts_of x_tree x_word = some r ∧ ∀ (v : V) (F' H' : Hp) , Gr [] F H F' H' → New (eP2 eS eI) H F' H' v r → Q v H'
theorem sc_fronts_of : FnScope ["tree", "word", "letter"] ["tree", "word"] (defScope s_fronts_of) := ⟨rfl, rfl, rfl, by decide +kernel, rfl, by decide +kernel, by decide +kernel⟩
theorem ok_fronts_of {f : Addr} {fd : FuncData} (F : FnP K "fronts_of" s_fronts_of f fd) (H_letters_more : HasG P w K mg base "letters_more" ["tree", "word", "longer"] 4 (sp_letters_more K)) (c_LETTERS : ∃ t, mg "LETTERS" = some (.str "abcdefghijklmnopqrstuvwxyz" t)) : FnG P w K mg base CX0 5 f fd ["tree", "word"] (sp_fronts_of K) := by
  obtain ⟨f_letters_more, fd_letters_more, G0_letters_more, g_letters_more, k_letters_more, b_letters_more⟩ := H_letters_more
  have G_letters_more := G0_letters_more.mono (show 4 ≤ 4 by decide)
  obtain ⟨t_LETTERS, c_LETTERS⟩ := c_LETTERS
  refine FnDok F sc_fronts_of (fun vs H Q E h => ?_) (fun cdv A outer s H0 vs Q E gd hr h => ?_)
  · obtain ⟨_, _, _, _, _, _, rfl, _⟩ := h
    rfl
  · obtain ⟨F0, v_tree, x_tree, v_word, x_word, r0, rfl, hs0, r_tree, r_word, hm, hk⟩ := h
    have g0 : Gr [] F0 H0 F0 H0 := Gr.refl hs0
    obtain ⟨er_word, lr_word⟩ : v_word = V.str (S x_word) ∧ x_word.length ≤ sizeLine := r_word
    subst er_word
    refine ⟨_, PSs.nox (pss_one (ps_ret (pe_callG G_letters_more gd hr (by rfl) g_letters_more k_letters_more b_letters_more pass0 (pa_cons (pv 0) (pa_cons (pv 1) (pa_cons (pe_lc (own := [("letter", 2)]) (g := gName 2) (by rfl) sc_fronts_of.nd (pi_str (pe_glob (v := .str "abcdefghijklmnopqrstuvwxyz") (by rfl) c_LETTERS ⟨_, rfl⟩)) (blkOk_by (own := [("letter", 2)]) (N := ["tree", "word", "letter"]) (sc := defScope s_fronts_of) (by decide +kernel)) (fun _ _ _ _ _ => (pg_name (i := 2) sc_fronts_of.nd rfl (Or.inl rfl))) (fun _ _ _ _ _ => pts_nil) (fun _ _ _ _ _ => (pe_op c_catS (pv 2) (pv 1)))) pa_nil)))))), ?_⟩
    refine n_ret ?_
    refine n_call ?_
    refine n_cons ?_
    refine n_var rfl ?_
    refine n_cons ?_
    refine n_var rfl ?_
    refine n_cons ?_
    refine n_lc ?_
    refine n_itS ?_
    refine n_str (s := [97, 98, 99, 100, 101, 102, 103, 104, 105, 106, 107, 108, 109, 110, 111, 112, 113, 114, 115, 116, 117, 118, 119, 120, 121, 122]) (by decide +kernel) ?_
    refine v_itS ?_
    obtain ⟨u3, hu3, hm⟩ := bnd hm
    obtain ⟨q4, hq4, hm⟩ := bnd hm
    intro D1 nD2
    have goD1 := g0.old nD2
    have gg30 := gr_newM (W := []) (o := .lst []) g0.fh nD2
    refine comp_s (sr_S ([97, 98, 99, 100, 101, 102, 103, 104, 105, 106, 107, 108, 109, 110, 111, 112, 113, 114, 115, 116, 117, 118, 119, 120, 121, 122] : Sg)) hq4 (need_ok hu3).1 (fun (acc7 : List Sg) H7 => ∃ (F7 : Hp) (vs7 : List V), Gr [] F0 H0 F7 H7 ∧ Sub F0 F7 ∧ F7 D1 = none ∧ H7 D1 = some (.lst vs7) ∧ Al eS F7 vs7 acc7) ⟨_, [], g0.trans0 gg30, Sub.refl _, g0.fh.nn nD2, upd_same, .nil⟩ ?_ ?_ ?_
    · intros; exact trivial
    · rintro a5 r7 acc8 x9 H10 H11 ⟨F16, vs17, g18, sb19, fD20, hD21, al22⟩ hY12 hm hl15 N13 hN14
      have m23 : Mu [] H0 F16 H10 D1 (.lst vs17) := ⟨fD20, hD21, .inl goD1⟩
      refine wipe_to (σ' := [some v_tree, some (.str (S x_word)), none]) rfl ?_
      refine v_nmS hY12 fun l24 => ?_
      refine n_name (setS (setS set0)) ?_
      refine ⟨rfl, ?_⟩
      refine n_yes ?_ rfl
      refine n_op ?_
      refine n_var rfl ?_
      refine n_var rfl ?_
      obtain ⟨t25, ht25, hm⟩ := bnd hm
      refine v_catS ht25 ?_
      obtain rfl := Option.some.inj hm
      refine ⟨_, m23.hp, by rw [al_len al22]; exact hl15, hN14 _ ?_⟩
      exact ⟨_, _, m23.gr g18, sb19, m23.fr, upd_same, pd_snoc al22 (show eS.r F16 (.str (S t25)) t25 from ⟨rfl, (catM_le ht25)⟩)⟩
    rintro H31 ⟨F32, vs33, g34, sb35, fD36, hD37, al38⟩
    have m39 : Mu [] H0 F32 H31 D1 (.lst vs33) := ⟨fD36, hD37, .inl goD1⟩
    obtain ⟨F40, q42, sb44, g43, d41⟩ := freeze g34 m39 (m39.own.resolve_right (by simp))
    have al45 := (Al.mono al38 sb44)
    refine n_nil ?_
    obtain ⟨r46, hr46, hm⟩ := bnd hm
    refine ⟨F40, v_tree, x_tree, .str (S x_word), x_word, (.ref D1), q4, r46, rfl, g43.fh, (Rp.mono (eP2 (eT eI) eS) (Sub.trans sb35 sb44) r_tree), ⟨rfl, lr_word⟩, (⟨D1, vs33, rfl, q42, al45⟩ : (eL eS).r F40 (.ref D1) q4), hr46, fun v56 F47 H48 d49 r57 => ?_⟩
    obtain ⟨p50, vs51, ev56, np52, fp53, hp54, al55⟩ := r57
    subst ev56
    have go58 := g43.old np52
    have g59 := g43.trans0 d49
    have m60 : Mu [] H0 F47 H48 p50 (.lst vs51) := ⟨fp53, hp54, .inl go58⟩
    obtain rfl := Option.some.inj hm
    exact hk _ _ _  g59   ⟨p50, vs51, rfl, (m60.own.resolve_right (by simp)), m60.fr, m60.hp, al55⟩

def m_behinds_of (x_tree : (List Int × Sg)) (x_word : Sg) : Option (List (Sg × Int)) :=
  (need (szB (signs ([97, 98, 99, 100, 101, 102, 103, 104, 105, 106, 107, 108, 109, 110, 111, 112, 113, 114, 115, 116, 117, 118, 119, 120, 121, 122] : Sg)).length) ()).bind fun u3 =>
  (compS (signs ([97, 98, 99, 100, 101, 102, 103, 104, 105, 106, 107, 108, 109, 110, 111, 112, 113, 114, 115, 116, 117, 118, 119, 120, 121, 122] : Sg)) fun a5 =>
  (catM x_word a5).bind fun t25 =>
  some (some t25)).bind fun q4 =>
  (m_letters_more x_tree x_word q4).bind fun r46 =>
  some r46
def sp_behinds_of (K : PySem.W.Frag) : Sp := fun vs H Q _ => ∃ (F : Hp) (v_tree : V) (x_tree : (List Int × Sg)) (v_word : V) (x_word : Sg) (r : List (Sg × Int)), vs = [v_tree, v_word] ∧ Sub F H ∧ (eP2 (eT eI) eS).r F v_tree x_tree ∧ eS.r F v_word x_word ∧ m_behinds_of x_tree x_word = some r ∧ ∀ (v : V) (F' H' : Hp) , Gr [] F H F' H' → New (eP2 eS eI) H F' H' v r → Q v H'
theorem sc_behinds_of : FnScope ["tree", "word", "letter"] ["tree", "word"] (defScope s_behinds_of) := ⟨rfl, rfl, rfl, by decide +kernel, rfl, by decide +kernel, by decide +kernel⟩
theorem ok_behinds_of {f : Addr} {fd : FuncData} (F : FnP K "behinds_of" s_behinds_of f fd) (H_letters_more : HasG P w K mg base "letters_more" ["tree", "word", "longer"] 4 (sp_letters_more K)) (c_LETTERS : ∃ t, mg "LETTERS" = some (.str "abcdefghijklmnopqrstuvwxyz" t)) : FnG P w K mg base CX0 5 f fd ["tree", "word"] (sp_behinds_of K) := by
  obtain ⟨f_letters_more, fd_letters_more, G0_letters_more, g_letters_more, k_letters_more, b_letters_more⟩ := H_letters_more
  have G_letters_more := G0_letters_more.mono (show 4 ≤ 4 by decide)
  obtain ⟨t_LETTERS, c_LETTERS⟩ := c_LETTERS
  refine FnDok F sc_behinds_of (fun vs H Q E h => ?_) (fun cdv A outer s H0 vs Q E gd hr h => ?_)
  · obtain ⟨_, _, _, _, _, _, rfl, _⟩ := h
    rfl
  · obtain ⟨F0, v_tree, x_tree, v_word, x_word, r0, rfl, hs0, r_tree, r_word, hm, hk⟩ := h
    have g0 : Gr [] F0 H0 F0 H0 := Gr.refl hs0
    obtain ⟨er_word, lr_word⟩ : v_word = V.str (S x_word) ∧ x_word.length ≤ sizeLine := r_word
    subst er_word
    refine ⟨_, PSs.nox (pss_one (ps_ret (pe_callG G_letters_more gd hr (by rfl) g_letters_more k_letters_more b_letters_more pass0 (pa_cons (pv 0) (pa_cons (pv 1) (pa_cons (pe_lc (own := [("letter", 2)]) (g := gName 2) (by rfl) sc_behinds_of.nd (pi_str (pe_glob (v := .str "abcdefghijklmnopqrstuvwxyz") (by rfl) c_LETTERS ⟨_, rfl⟩)) (blkOk_by (own := [("letter", 2)]) (N := ["tree", "word", "letter"]) (sc := defScope s_behinds_of) (by decide +kernel)) (fun _ _ _ _ _ => (pg_name (i := 2) sc_behinds_of.nd rfl (Or.inl rfl))) (fun _ _ _ _ _ => pts_nil) (fun _ _ _ _ _ => (pe_op c_catS (pv 1) (pv 2)))) pa_nil)))))), ?_⟩
    refine n_ret ?_
    refine n_call ?_
    refine n_cons ?_
    refine n_var rfl ?_
    refine n_cons ?_
    refine n_var rfl ?_
    refine n_cons ?_
    refine n_lc ?_
    refine n_itS ?_
    refine n_str (s := [97, 98, 99, 100, 101, 102, 103, 104, 105, 106, 107, 108, 109, 110, 111, 112, 113, 114, 115, 116, 117, 118, 119, 120, 121, 122]) (by decide +kernel) ?_
    refine v_itS ?_
    obtain ⟨u3, hu3, hm⟩ := bnd hm
    obtain ⟨q4, hq4, hm⟩ := bnd hm
    intro D1 nD2
    have goD1 := g0.old nD2
    have gg30 := gr_newM (W := []) (o := .lst []) g0.fh nD2
    refine comp_s (sr_S ([97, 98, 99, 100, 101, 102, 103, 104, 105, 106, 107, 108, 109, 110, 111, 112, 113, 114, 115, 116, 117, 118, 119, 120, 121, 122] : Sg)) hq4 (need_ok hu3).1 (fun (acc7 : List Sg) H7 => ∃ (F7 : Hp) (vs7 : List V), Gr [] F0 H0 F7 H7 ∧ Sub F0 F7 ∧ F7 D1 = none ∧ H7 D1 = some (.lst vs7) ∧ Al eS F7 vs7 acc7) ⟨_, [], g0.trans0 gg30, Sub.refl _, g0.fh.nn nD2, upd_same, .nil⟩ ?_ ?_ ?_
    · intros; exact trivial
    · rintro a5 r7 acc8 x9 H10 H11 ⟨F16, vs17, g18, sb19, fD20, hD21, al22⟩ hY12 hm hl15 N13 hN14
      have m23 : Mu [] H0 F16 H10 D1 (.lst vs17) := ⟨fD20, hD21, .inl goD1⟩
      refine wipe_to (σ' := [some v_tree, some (.str (S x_word)), none]) rfl ?_
      refine v_nmS hY12 fun l24 => ?_
      refine n_name (setS (setS set0)) ?_
      refine ⟨rfl, ?_⟩
      refine n_yes ?_ rfl
      refine n_op ?_
      refine n_var rfl ?_
      refine n_var rfl ?_
      obtain ⟨t25, ht25, hm⟩ := bnd hm
      refine v_catS ht25 ?_
      obtain rfl := Option.some.inj hm
      refine ⟨_, m23.hp, by rw [al_len al22]; exact hl15, hN14 _ ?_⟩
      exact ⟨_, _, m23.gr g18, sb19, m23.fr, upd_same, pd_snoc al22 (show eS.r F16 (.str (S t25)) t25 from ⟨rfl, (catM_le ht25)⟩)⟩
    rintro H31 ⟨F32, vs33, g34, sb35, fD36, hD37, al38⟩
    have m39 : Mu [] H0 F32 H31 D1 (.lst vs33) := ⟨fD36, hD37, .inl goD1⟩
    obtain ⟨F40, q42, sb44, g43, d41⟩ := freeze g34 m39 (m39.own.resolve_right (by simp))
    have al45 := (Al.mono al38 sb44)
    refine n_nil ?_
    obtain ⟨r46, hr46, hm⟩ := bnd hm
    refine ⟨F40, v_tree, x_tree, .str (S x_word), x_word, (.ref D1), q4, r46, rfl, g43.fh, (Rp.mono (eP2 (eT eI) eS) (Sub.trans sb35 sb44) r_tree), ⟨rfl, lr_word⟩, (⟨D1, vs33, rfl, q42, al45⟩ : (eL eS).r F40 (.ref D1) q4), hr46, fun v56 F47 H48 d49 r57 => ?_⟩
    obtain ⟨p50, vs51, ev56, np52, fp53, hp54, al55⟩ := r57
    subst ev56
    have go58 := g43.old np52
    have g59 := g43.trans0 d49
    have m60 : Mu [] H0 F47 H48 p50 (.lst vs51) := ⟨fp53, hp54, .inl go58⟩
    obtain rfl := Option.some.inj hm
    exact hk _ _ _  g59   ⟨p50, vs51, rfl, (m60.own.resolve_right (by simp)), m60.fr, m60.hp, al55⟩

def m__law_prime (x_at : Int) : Option Int :=
  (catLM [(2147483647 : Int), (2147483629 : Int), (2147483587 : Int), (2147483579 : Int), (2147483563 : Int), (2147483549 : Int), (2147483543 : Int)] [(2147483497 : Int), (2147483489 : Int), (2147483477 : Int), (2147483423 : Int)]).bind fun l31 =>
  (atI l31 (x_at % (11 : Int))).bind fun a40 =>
  some a40
def sp__law_prime (K : PySem.W.Frag) : Sp := fun vs H Q _ => ∃ (F : Hp) (v_at : V) (x_at : Int) (r : Int), vs = [v_at] ∧ Sub F H ∧ eI.r F v_at x_at ∧ m__law_prime x_at = some r ∧ ∀ (v : V) (F' H' : Hp) , Gr [] F H F' H' → eI.r F' v r → Q v H'
theorem sc__law_prime : FnScope ["at", "some"] ["at"] (defScope s__law_prime) := ⟨rfl, rfl, rfl, by decide +kernel, rfl, by decide +kernel, by decide +kernel⟩
theorem ok__law_prime {f : Addr} {fd : FuncData} (F : FnP K "_law_prime" s__law_prime f fd)  : FnG P w K mg base CX0 1 f fd ["at"] (sp__law_prime K) := by
  refine FnDok F sc__law_prime (fun vs H Q E h => ?_) (fun cdv A outer s H0 vs Q E gd hr h => ?_)
  · obtain ⟨_, _, _, _, rfl, _⟩ := h
    rfl
  · obtain ⟨F0, v_at, x_at, r0, rfl, hs0, r_at, hm, hk⟩ := h
    have g0 : Gr [] F0 H0 F0 H0 := Gr.refl hs0
    have er_at : v_at = V.int x_at := r_at
    subst er_at
    refine ⟨_, PSs.nox (pss_cons (ps_set (i := 1) sc__law_prime.nd rfl (by first | exact Or.inl rfl | exact Or.inr rfl) (pe_lst (pa_cons pe_int (pa_cons pe_int (pa_cons pe_int (pa_cons pe_int (pa_cons pe_int (pa_cons pe_int (pa_cons pe_int pa_nil)))))))))
(pss_one (ps_ret (pe_ix (c_ixL (K := K) rfl) (pe_op op_cat (pv 1) (pe_lst (pa_cons pe_int (pa_cons pe_int (pa_cons pe_int (pa_cons pe_int pa_nil)))))) (pe_op op_mod (pv 0) pe_int) (fun _ _ => rfl))))), ?_⟩
    refine n_seq ?_
    refine n_asg ?_
    refine n_lst ?_
    refine n_cons ?_
    refine n_c ?_
    refine n_cons ?_
    refine n_c ?_
    refine n_cons ?_
    refine n_c ?_
    refine n_cons ?_
    refine n_c ?_
    refine n_cons ?_
    refine n_c ?_
    refine n_cons ?_
    refine n_c ?_
    refine n_cons ?_
    refine n_c ?_
    refine n_nil ?_
    refine v_mkLF (t := eI) (xs := [(2147483647 : Int), (2147483629 : Int), (2147483587 : Int), (2147483579 : Int), (2147483563 : Int), (2147483549 : Int), (2147483543 : Int)]) g0.fh (.cons rfl (.cons rfl (.cons rfl (.cons rfl (.cons rfl (.cons rfl (.cons rfl .nil))))))) rfl fun p1 F2 H3 d4 q5 al6 => ?_
    have g7 := g0.trans0 d4
    refine n_name (setS set0) ?_
    refine n_ret ?_
    refine n_op ?_
    refine n_op ?_
    refine n_var rfl ?_
    refine n_lst ?_
    refine n_cons ?_
    refine n_c ?_
    refine n_cons ?_
    refine n_c ?_
    refine n_cons ?_
    refine n_c ?_
    refine n_cons ?_
    refine n_c ?_
    refine n_nil ?_
    refine v_mkLF (t := eI) (xs := [(2147483497 : Int), (2147483489 : Int), (2147483477 : Int), (2147483423 : Int)]) g7.fh (.cons rfl (.cons rfl (.cons rfl (.cons rfl .nil)))) rfl fun p24 F25 H26 d27 q28 al29 => ?_
    have g30 := g7.trans0 d27
    obtain ⟨l31, hl31, hm⟩ := bnd hm
    refine v_catF g30.fh (g30.fh _ _ (d27.ff _ _ q5)) (g30.fh _ _ q28) (Al.mono al6 d27.ff) al29 hl31 fun p32 vs33 F35 H36 d37 q38 al34 => ?_
    have g39 := g30.trans0 d37
    refine n_op ?_
    refine n_var rfl ?_
    refine n_c ?_
    refine v_modK (by decide) ?_
    obtain ⟨a40, ha40, hm⟩ := bnd hm
    refine v_ixL (SqL.of (g39.fh _ _ q38)) al34 ha40 fun v41 r42 => ?_
    have er42 : v41 = V.int a40 := r42
    subst er42
    obtain rfl := Option.some.inj hm
    exact hk _ _ _  g39   rfl

def m__law_pool (x_cell : Int) : Option (List Int) :=
  some [(mx (0 : Int) (x_cell - (1000000000000000000 : Int))), x_cell, (0 : Int)]
def sp__law_pool (K : PySem.W.Frag) : Sp := fun vs H Q _ => ∃ (F : Hp) (v_cell : V) (x_cell : Int) (r : List Int), vs = [v_cell] ∧ Sub F H ∧ eI.r F v_cell x_cell ∧ m__law_pool x_cell = some r ∧ ∀ (v : V) (F' H' : Hp) , Gr [] F H F' H' → New eI H F' H' v r → Q v H'
theorem sc__law_pool : FnScope ["cell"] ["cell"] (defScope s__law_pool) := ⟨rfl, rfl, rfl, by decide +kernel, rfl, by decide +kernel, by decide +kernel⟩
theorem ok__law_pool {f : Addr} {fd : FuncData} (F : FnP K "_law_pool" s__law_pool f fd) (b_max : mg "max" = none) : FnG P w K mg base CX0 1 f fd ["cell"] (sp__law_pool K) := by
  refine FnDok F sc__law_pool (fun vs H Q E h => ?_) (fun cdv A outer s H0 vs Q E gd hr h => ?_)
  · obtain ⟨_, _, _, _, rfl, _⟩ := h
    rfl
  · obtain ⟨F0, v_cell, x_cell, r0, rfl, hs0, r_cell, hm, hk⟩ := h
    have g0 : Gr [] F0 H0 F0 H0 := Gr.refl hs0
    have er_cell : v_cell = V.int x_cell := r_cell
    subst er_cell
    refine ⟨_, PSs.nox (pss_one (ps_ret (pe_lst (pa_cons (pe_callB (c_max2 rfl) (by rfl) b_max bo_max (pa_cons pe_int (pa_cons (pe_op op_sub (pv 0) (pe_op op_pow pe_int pe_int)) pa_nil))) (pa_cons (pv 0) (pa_cons pe_int pa_nil)))))), ?_⟩
    refine n_ret ?_
    refine n_lst ?_
    refine n_cons ?_
    refine n_cb ?_
    refine n_cons ?_
    refine n_c ?_
    refine n_cons ?_
    refine n_op ?_
    refine n_var rfl ?_
    refine n_op ?_
    refine n_c ?_
    refine n_c ?_
    refine v_powK (a := 1000000000000000000) ⟨by decide, by decide, by decide⟩ (by decide +kernel) ?_
    refine v_i2 ?_
    refine n_nil ?_
    refine v_max2 ?_
    refine n_cons ?_
    refine n_var rfl ?_
    refine n_cons ?_
    refine n_c ?_
    refine n_nil ?_
    have al8 : Al eI F0 [.int (mx (0 : Int) (x_cell - (1000000000000000000 : Int))), .int x_cell, .int (0 : Int)] [(mx (0 : Int) (x_cell - (1000000000000000000 : Int))), x_cell, (0 : Int)] := (.cons rfl (.cons rfl (.cons rfl .nil)))
    refine v_mkLM g0.fh rfl fun p1 H2 np3 d4 fp5 hp6 => ?_
    have go9 := g0.old np3
    have g10 := g0.trans0 d4
    have m11 : Mu [] H0 F0 H2 p1 (.lst [.int (mx (0 : Int) (x_cell - (1000000000000000000 : Int))), .int x_cell, .int (0 : Int)]) := ⟨fp5, hp6, .inl go9⟩
    obtain rfl := Option.some.inj hm
    exact hk _ _ _  g10   ⟨p1, [.int (mx (0 : Int) (x_cell - (1000000000000000000 : Int))), .int x_cell, .int (0 : Int)], rfl, (m11.own.resolve_right (by simp)), m11.fr, m11.hp, al8⟩

def m__law_take (x_pool : List Int) (x_many : Int) : Option (Int × List Int) :=
  (atI x_pool (0 : Int)).bind fun a2 =>
  if (decide ((0 : Int) < a2)) = true then
  (atI x_pool (0 : Int)).bind fun a6 =>
  (modM a6 x_many).bind fun a9 =>
  (atI x_pool (0 : Int)).bind fun a10 =>
  (divM a10 x_many).bind fun a13 =>
  (setM x_pool (0 : Int) a13).bind fun l14 =>
  some (a9, l14)
  else
  (atI x_pool (2 : Int)).bind fun a22 =>
  (setM x_pool (2 : Int) (a22 + (1 : Int))).bind fun l25 =>
  (atI l25 (1 : Int)).bind fun a33 =>
  (powM (((a33 % (2147483399 : Int)) + ((104729 : Int) * a22)) + (17 : Int)) (3 : Int)).bind fun a36 =>
  (m__law_prime a22).bind fun r37 =>
  (modM a36 r37).bind fun a45 =>
  (mulM a45 a45).bind fun a46 =>
  (atI l25 (1 : Int)).bind fun a47 =>
  (powM (((a46 + ((69621 : Int) * a22)) + (a47 % (65537 : Int))) + (1 : Int)) (3 : Int)).bind fun a50 =>
  (m__law_prime (a22 + (4 : Int))).bind fun r51 =>
  (modM a50 r51).bind fun a59 =>
  (m__law_prime (a22 + (7 : Int))).bind fun r60 =>
  (modM ((a59 * (40692 : Int)) + a45) r60).bind fun a68 =>
  (modM (a68 / (16 : Int)) x_many).bind fun a69 =>
  some (a69, l25)
def sp__law_take (K : PySem.W.Frag) : Sp := fun vs H Q _ => ∃ (F : Hp) (p_pool : Addr) (vs_pool : List V) (x_pool : List Int) (v_many : V) (x_many : Int) (r : (Int × List Int)), vs = [.ref p_pool, v_many] ∧ Sub F H ∧ F p_pool = none ∧ H p_pool = some (.lst vs_pool) ∧ Al eI F vs_pool x_pool ∧ eI.r F v_many x_many ∧ m__law_take x_pool x_many = some r ∧ ∀ (v : V) (F' H' : Hp) (us_pool : List V), Gr [p_pool] F H F' H' → H' p_pool = some (.lst us_pool) → Al eI F' us_pool r.2 → eI.r F' v r.1 → Q v H'
theorem sc__law_take : FnScope ["pool", "many", "at", "one", "two", "found"] ["pool", "many"] (defScope s__law_take) := ⟨rfl, rfl, rfl, by decide +kernel, rfl, by decide +kernel, by decide +kernel⟩
theorem ok__law_take {f : Addr} {fd : FuncData} (F : FnP K "_law_take" s__law_take f fd) (H__law_prime : HasG P w K mg base "_law_prime" ["at"] 1 (sp__law_prime K)) : FnG P w K mg base CX0 2 f fd ["pool", "many"] (sp__law_take K) := by
  obtain ⟨f__law_prime, fd__law_prime, G0__law_prime, g__law_prime, k__law_prime, b__law_prime⟩ := H__law_prime
  have G__law_prime := G0__law_prime.mono (show 1 ≤ 1 by decide)
  refine FnDok F sc__law_take (fun vs H Q E h => ?_) (fun cdv A outer s H0 vs Q E gd hr h => ?_)
  · obtain ⟨_, _, _, _, _, _, _, rfl, _⟩ := h
    rfl
  · obtain ⟨F0, p_pool, vs_pool, x_pool, v_many, x_many, r0, rfl, hs0, fr_pool, hp_pool, al_pool, r_many, hm, hk⟩ := h
    have g0 : Gr [p_pool] F0 H0 F0 H0 := Gr.refl hs0
    have m1 : Mu [p_pool] H0 F0 H0 p_pool (.lst vs_pool) := ⟨fr_pool, hp_pool, .inr (by simp)⟩
    have er_many : v_many = V.int x_many := r_many
    subst er_many
    refine ⟨_, PSs.nox (pss_cons (ps_if (pt_cmpR op_gt (pe_ix (c_ixL (K := K) rfl) (pv 0) pe_int (fun _ _ => rfl)) pe_int (nomark _)) (pss_cons (ps_set (i := 5) sc__law_take.nd rfl (by first | exact Or.inl rfl | exact Or.inr rfl) (pe_op op_mod (pe_ix (c_ixL (K := K) rfl) (pv 0) pe_int (fun _ _ => rfl)) (pv 1)))
(pss_cons (ps_asg (pe_op op_fdiv (pe_ix (c_ixL (K := K) rfl) (pv 0) pe_int (fun _ _ => rfl)) (pv 1)) (pg_sub (pv 0) pe_int set_list))
(pss_one (ps_ret (pv 5))))) pss_nil)
(pss_cons (ps_set (i := 2) sc__law_take.nd rfl (by first | exact Or.inl rfl | exact Or.inr rfl) (pe_ix (c_ixL (K := K) rfl) (pv 0) pe_int (fun _ _ => rfl)))
(pss_cons (ps_asg (pe_op op_add (pv 2) pe_int) (pg_sub (pv 0) pe_int set_list))
(pss_cons (ps_set (i := 3) sc__law_take.nd rfl (by first | exact Or.inl rfl | exact Or.inr rfl) (pe_op op_mod (pe_op op_pow (pe_op op_add (pe_op op_add (pe_op op_mod (pe_ix (c_ixL (K := K) rfl) (pv 0) pe_int (fun _ _ => rfl)) pe_int) (pe_op op_mul pe_int (pv 2))) pe_int) pe_int) (pe_callG G__law_prime gd hr (by rfl) g__law_prime k__law_prime b__law_prime pass0 (pa_cons (pv 2) pa_nil))))
(pss_cons (ps_set (i := 4) sc__law_take.nd rfl (by first | exact Or.inl rfl | exact Or.inr rfl) (pe_op op_mod (pe_op op_pow (pe_op op_add (pe_op op_add (pe_op op_add (pe_op op_mul (pv 3) (pv 3)) (pe_op op_mul pe_int (pv 2))) (pe_op op_mod (pe_ix (c_ixL (K := K) rfl) (pv 0) pe_int (fun _ _ => rfl)) pe_int)) pe_int) pe_int) (pe_callG G__law_prime gd hr (by rfl) g__law_prime k__law_prime b__law_prime pass0 (pa_cons (pe_op op_add (pv 2) pe_int) pa_nil))))
(pss_one (ps_ret (pe_op op_mod (pe_op op_fdiv (pe_op op_mod (pe_op op_add (pe_op op_mul (pv 4) pe_int) (pv 3)) (pe_callG G__law_prime gd hr (by rfl) g__law_prime k__law_prime b__law_prime pass0 (pa_cons (pe_op op_add (pv 2) pe_int) pa_nil))) pe_int) (pv 1))))))))), ?_⟩
    refine n_seq ?_
    refine n_ifs ?_
    refine n_test ?_
    refine n_op ?_
    refine n_op ?_
    refine n_var rfl ?_
    refine n_c ?_
    obtain ⟨a2, ha2, hm⟩ := bnd hm
    refine v_ixL m1.l al_pool ha2 fun v3 r4 => ?_
    have er4 : v3 = V.int a2 := r4
    subst er4
    refine n_c ?_
    refine v_i2 ?_
    refine v_bl ?_
    refine br (fun hb5 => ?_) (fun hb5 => ?_)
    · replace hm := ifT hb5 hm
      refine n_seq ?_
      refine n_asg ?_
      refine n_op ?_
      refine n_op ?_
      refine n_var rfl ?_
      refine n_c ?_
      obtain ⟨a6, ha6, hm⟩ := bnd hm
      refine v_ixL m1.l al_pool ha6 fun v7 r8 => ?_
      have er8 : v7 = V.int a6 := r8
      subst er8
      refine n_var rfl ?_
      obtain ⟨a9, ha9, hm⟩ := bnd hm
      refine v_mod ha9 ?_
      refine n_name (setS (setS (setS (setS (setS set0))))) ?_
      refine n_seq ?_
      refine n_asg ?_
      refine n_op ?_
      refine n_op ?_
      refine n_var rfl ?_
      refine n_c ?_
      obtain ⟨a10, ha10, hm⟩ := bnd hm
      refine v_ixL m1.l al_pool ha10 fun v11 r12 => ?_
      have er12 : v11 = V.int a10 := r12
      subst er12
      refine n_var rfl ?_
      obtain ⟨a13, ha13, hm⟩ := bnd hm
      refine v_div ha13 ?_
      refine n_sub ?_
      refine n_var rfl ?_
      refine n_c ?_
      obtain ⟨l14, hl14, hm⟩ := bnd hm
      obtain ⟨n15, en16, al17⟩ := setM_ok al_pool hl14 (show eI.r F0 (.int a13) a13 from rfl)
      refine v_setL m1.hp en16 ?_
      obtain ⟨vs18, H19, g20, evs18, eH19⟩ := st_ok g0 m1 ((vs_pool : List V).set n15 (.int a13))
      rw [← evs18, ← eH19]
      rw [← evs18] at al17
      have m21 := mu_self m1 eH19
      refine n_ret ?_
      refine n_var rfl ?_
      obtain rfl := Option.some.inj hm
      exact hk _ _ _ _ g20 m21.hp al17 rfl
    replace hm := ifF hb5 hm
    refine n_nextS ?_
    refine n_seq ?_
    refine n_asg ?_
    refine n_op ?_
    refine n_var rfl ?_
    refine n_c ?_
    obtain ⟨a22, ha22, hm⟩ := bnd hm
    refine v_ixL m1.l al_pool ha22 fun v23 r24 => ?_
    have er24 : v23 = V.int a22 := r24
    subst er24
    refine n_name (setS (setS set0)) ?_
    refine n_seq ?_
    refine n_asg ?_
    refine n_op ?_
    refine n_var rfl ?_
    refine n_c ?_
    refine v_i2 ?_
    refine n_sub ?_
    refine n_var rfl ?_
    refine n_c ?_
    obtain ⟨l25, hl25, hm⟩ := bnd hm
    obtain ⟨n26, en27, al28⟩ := setM_ok al_pool hl25 (show eI.r F0 (.int (a22 + (1 : Int))) (a22 + (1 : Int)) from rfl)
    refine v_setL m1.hp en27 ?_
    obtain ⟨vs29, H30, g31, evs29, eH30⟩ := st_ok g0 m1 ((vs_pool : List V).set n26 (.int (a22 + (1 : Int))))
    rw [← evs29, ← eH30]
    rw [← evs29] at al28
    have m32 := mu_self m1 eH30
    refine n_seq ?_
    refine n_asg ?_
    refine n_op ?_
    refine n_op ?_
    refine n_op ?_
    refine n_op ?_
    refine n_op ?_
    refine n_op ?_
    refine n_var rfl ?_
    refine n_c ?_
    obtain ⟨a33, ha33, hm⟩ := bnd hm
    refine v_ixL m32.l al28 ha33 fun v34 r35 => ?_
    have er35 : v34 = V.int a33 := r35
    subst er35
    refine n_c ?_
    refine v_modK (by decide) ?_
    refine n_op ?_
    refine n_c ?_
    refine n_var rfl ?_
    refine v_mulL (by decide) ?_
    refine v_i2 ?_
    refine n_c ?_
    refine v_i2 ?_
    refine n_c ?_
    obtain ⟨a36, ha36, hm⟩ := bnd hm
    refine v_pow ha36 ?_
    refine n_call ?_
    refine n_cons ?_
    refine n_var rfl ?_
    refine n_nil ?_
    obtain ⟨r37, hr37, hm⟩ := bnd hm
    refine ⟨F0, .int a22, a22, r37, rfl, g31.fh, rfl, hr37, fun v41 F38 H39 d40 r42 => ?_⟩
    have g43 := g31.trans0 d40
    have m44 := m32.call0 d40
    have er42 : v41 = V.int r37 := r42
    subst er42
    obtain ⟨a45, ha45, hm⟩ := bnd hm
    refine v_mod ha45 ?_
    refine n_name (setS (setS (setS set0))) ?_
    refine n_seq ?_
    refine n_asg ?_
    refine n_op ?_
    refine n_op ?_
    refine n_op ?_
    refine n_op ?_
    refine n_op ?_
    refine n_op ?_
    refine n_var rfl ?_
    refine n_var rfl ?_
    obtain ⟨a46, ha46, hm⟩ := bnd hm
    refine v_mul ha46 ?_
    refine n_op ?_
    refine n_c ?_
    refine n_var rfl ?_
    refine v_mulL (by decide) ?_
    refine v_i2 ?_
    refine n_op ?_
    refine n_op ?_
    refine n_var rfl ?_
    refine n_c ?_
    obtain ⟨a47, ha47, hm⟩ := bnd hm
    refine v_ixL m44.l (Al.mono al28 d40.ff) ha47 fun v48 r49 => ?_
    have er49 : v48 = V.int a47 := r49
    subst er49
    refine n_c ?_
    refine v_modK (by decide) ?_
    refine v_i2 ?_
    refine n_c ?_
    refine v_i2 ?_
    refine n_c ?_
    obtain ⟨a50, ha50, hm⟩ := bnd hm
    refine v_pow ha50 ?_
    refine n_call ?_
    refine n_cons ?_
    refine n_op ?_
    refine n_var rfl ?_
    refine n_c ?_
    refine v_i2 ?_
    refine n_nil ?_
    obtain ⟨r51, hr51, hm⟩ := bnd hm
    refine ⟨F38, .int (a22 + (4 : Int)), (a22 + (4 : Int)), r51, rfl, g43.fh, rfl, hr51, fun v55 F52 H53 d54 r56 => ?_⟩
    have g57 := g43.trans0 d54
    have m58 := m44.call0 d54
    have er56 : v55 = V.int r51 := r56
    subst er56
    obtain ⟨a59, ha59, hm⟩ := bnd hm
    refine v_mod ha59 ?_
    refine n_name (setS (setS (setS (setS set0)))) ?_
    refine n_ret ?_
    refine n_op ?_
    refine n_op ?_
    refine n_op ?_
    refine n_op ?_
    refine n_op ?_
    refine n_var rfl ?_
    refine n_c ?_
    refine v_mulR (by decide) ?_
    refine n_var rfl ?_
    refine v_i2 ?_
    refine n_call ?_
    refine n_cons ?_
    refine n_op ?_
    refine n_var rfl ?_
    refine n_c ?_
    refine v_i2 ?_
    refine n_nil ?_
    obtain ⟨r60, hr60, hm⟩ := bnd hm
    refine ⟨F52, .int (a22 + (7 : Int)), (a22 + (7 : Int)), r60, rfl, g57.fh, rfl, hr60, fun v64 F61 H62 d63 r65 => ?_⟩
    have g66 := g57.trans0 d63
    have m67 := m58.call0 d63
    have er65 : v64 = V.int r60 := r65
    subst er65
    obtain ⟨a68, ha68, hm⟩ := bnd hm
    refine v_mod ha68 ?_
    refine n_c ?_
    refine v_divK (by decide) ?_
    refine n_var rfl ?_
    obtain ⟨a69, ha69, hm⟩ := bnd hm
    refine v_mod ha69 ?_
    obtain rfl := Option.some.inj hm
    exact hk _ _ _ _ g66 m67.hp (Al.mono al28 (Sub.trans d40.ff (Sub.trans d54.ff d63.ff))) rfl

def m__law_cells (x_script : List Int) (x_most : Int) : Option (List Int) :=
  (catLM (cutL x_script none (some x_most)) [(23 : Int)]).bind fun l26 =>
  (uptoM x_most (x_script.length : Int)).bind fun l46 =>
  (foldO l46 (cutL l26 none (some (mx (1 : Int) (mn x_most (x_script.length : Int))))) fun s49 a48 =>
  (modM a48 x_most).bind fun a64 =>
  (atI s49 a64).bind fun a65 =>
  (atI x_script a48).bind fun a68 =>
  (modM a48 x_most).bind fun a69 =>
  (setM s49 a69 ((a65 * (31 : Int)) + a68)).bind fun l70 =>
  some l70).bind fun s47 =>
  some s47
def sp__law_cells (K : PySem.W.Frag) : Sp := fun vs H Q _ => ∃ (F : Hp) (v_script : V) (x_script : List Int) (v_most : V) (x_most : Int) (r : List Int), vs = [v_script, v_most] ∧ Sub F H ∧ (eQ K).r F v_script x_script ∧ eI.r F v_most x_most ∧ m__law_cells x_script x_most = some r ∧ ∀ (v : V) (F' H' : Hp) , Gr [] F H F' H' → New eI H F' H' v r → Q v H'
theorem sc__law_cells : FnScope ["script", "most", "found", "k"] ["script", "most"] (defScope s__law_cells) := ⟨rfl, rfl, rfl, by decide +kernel, rfl, by decide +kernel, by decide +kernel⟩
theorem ok__law_cells {f : Addr} {fd : FuncData} (F : FnP K "_law_cells" s__law_cells f fd) (b_range : mg "range" = none) (b_len : mg "len" = none) (b_list : mg "list" = none) (b_max : mg "max" = none) (b_min : mg "min" = none) : FnG P w K mg base CX0 1 f fd ["script", "most"] (sp__law_cells K) := by
  refine FnDok F sc__law_cells (fun vs H Q E h => ?_) (fun cdv A outer s H0 vs Q E gd hr h => ?_)
  · obtain ⟨_, _, _, _, _, _, rfl, _⟩ := h
    rfl
  · obtain ⟨F0, v_script, x_script, v_most, x_most, r0, rfl, hs0, r_script, r_most, hm, hk⟩ := h
    have g0 : Gr [] F0 H0 F0 H0 := Gr.refl hs0
    have er_most : v_most = V.int x_most := r_most
    subst er_most
    refine ⟨_, PSs.nox (pss_cons (ps_set (i := 2) sc__law_cells.nd rfl (by first | exact Or.inl rfl | exact Or.inr rfl) (pe_slice (c_slL (K := K) rfl) (pe_op op_cat (pe_callTy (c_list (K := K) rfl) (by rfl) b_list bo_list (pa_cons (pe_slice (c_slL (K := K) rfl) (pv 0) po_none (po_some (pv 1))) pa_nil)) (pe_lst (pa_cons pe_int pa_nil))) po_none (po_some (pe_callB (c_max2 rfl) (by rfl) b_max bo_max (pa_cons pe_int (pa_cons (pe_callB (c_min2 rfl) (by rfl) b_min bo_min (pa_cons (pv 1) (pa_cons (pe_callB (c_len (K := K) rfl) (by rfl) b_len bo_len (pa_cons (pv 0) pa_nil)) pa_nil))) pa_nil))))))
(pss_cons (ps_for PassesOwn.never rfl (pi_range2 (by rfl) b_range (pa_cons (pv 1) (pa_cons (pe_callB (c_len (K := K) rfl) (by rfl) b_len bo_len (pa_cons (pv 0) pa_nil)) pa_nil))) (pg_name (i := 3) sc__law_cells.nd rfl (by first | exact Or.inl rfl | exact Or.inr rfl)) (pss_one (ps_asg (pe_op op_add (pe_op op_mul (pe_ix (c_ixL (K := K) rfl) (pv 2) (pe_op op_mod (pv 3) (pv 1)) (fun _ _ => rfl)) pe_int) (pe_ix (c_ixL (K := K) rfl) (pv 0) (pv 3) (fun _ _ => rfl))) (pg_sub (pv 2) (pe_op op_mod (pv 3) (pv 1)) set_list))))
(pss_one (ps_ret (pv 2))))), ?_⟩
    refine n_seq ?_
    refine n_asg ?_
    refine n_sl ?_
    refine n_op ?_
    refine n_cb ?_
    refine n_cons ?_
    refine n_sl ?_
    refine n_var rfl ?_
    refine n_nopart ?_
    refine n_part ?_
    refine n_var rfl ?_
    refine v_part ?_
    obtain ⟨p1, ep1, q2⟩ := r_script
    subst ep1
    refine v_slLF g0.fh (Sub.l g0.fh q2) (al_ofint (F := F0) x_script) fun p3 vs4 F6 H7 d8 q9 al5 => ?_
    have g10 := g0.trans0 d8
    refine n_nil ?_
    refine v_listF g10.fh (.inl (SqL.of (g10.fh _ _ q9))) al5 fun p11 vs12 F14 H15 d16 q17 al13 => ?_
    have g18 := g10.trans0 d16
    refine n_lst ?_
    refine n_cons ?_
    refine n_c ?_
    refine n_nil ?_
    refine v_mkLF (t := eI) (xs := [(23 : Int)]) g18.fh (.cons rfl .nil) rfl fun p19 F20 H21 d22 q23 al24 => ?_
    have g25 := g18.trans0 d22
    obtain ⟨l26, hl26, hm⟩ := bnd hm
    refine v_catF g25.fh (g25.fh _ _ (d22.ff _ _ q17)) (g25.fh _ _ q23) (Al.mono al13 d22.ff) al24 hl26 fun p27 vs28 F30 H31 d32 q33 al29 => ?_
    have g34 := g25.trans0 d32
    refine n_nopart ?_
    refine n_part ?_
    refine n_cb ?_
    refine n_cons ?_
    refine n_c ?_
    refine n_cons ?_
    refine n_cb ?_
    refine n_cons ?_
    refine n_var rfl ?_
    refine n_cons ?_
    refine n_cb ?_
    refine n_cons ?_
    refine n_var rfl ?_
    refine n_nil ?_
    refine v_lenQ g34.fh (Rp.mono (eQ K) (Sub.trans d8.ff (Sub.trans d16.ff (Sub.trans d22.ff d32.ff))) (⟨p1, rfl, q2⟩ : (eQ K).r F0 (.ref p1) x_script)) ?_
    refine n_nil ?_
    refine v_min2 ?_
    refine n_nil ?_
    refine v_max2 ?_
    refine v_part ?_
    refine v_slLM g34.fh (SqL.of (g34.fh _ _ q33)) al29 fun p35 vs36 H38 np39 d40 fp41 hp42 al37 => ?_
    have go43 := g34.old np39
    have g44 := g34.trans0 d40
    have m45 : Mu [] H0 F30 H38 p35 (.lst vs36) := ⟨fp41, hp42, .inl go43⟩
    refine n_name (setS (setS set0)) ?_
    refine n_seq ?_
    refine n_for ?_
    refine n_rng2 ?_
    refine n_cons ?_
    refine n_var rfl ?_
    refine n_cons ?_
    refine n_cb ?_
    refine n_cons ?_
    refine n_var rfl ?_
    refine n_nil ?_
    refine v_lenQ g44.fh (Rp.mono (eQ K) (Sub.trans d8.ff (Sub.trans d16.ff (Sub.trans d22.ff d32.ff))) (⟨p1, rfl, q2⟩ : (eQ K).r F0 (.ref p1) x_script)) ?_
    refine n_nil ?_
    obtain ⟨l46, hl46, hm⟩ := bnd hm
    refine v_rng2 hl46 ?_
    obtain ⟨s47, hs47, hm⟩ := bnd hm
    refine for_o (sr_R2 hl46) hs47 (fun (s7 : List Int) σ7 H7 => ∃ (F7 : Hp) (o_k : Option V) (us_found : List V), σ7 = [some (.ref p1), some (.int x_most), some (.ref p35), o_k] ∧ Gr [] F0 H0 F7 H7 ∧ Sub F30 F7 ∧ Mu [] H0 F7 H7 p35 (.lst us_found) ∧ Al eI F7 us_found s7) ⟨_, _, vs36, rfl, g44, Sub.refl _, m45, al37⟩ ?_ ?_ ?_
    · intros; exact trivial
    · rintro a48 s49 s50 x51 _ H52 H53 ⟨F57, o60, vs61, rfl, g58, sb59, m62, al63⟩ hY54 hm N55 hN56
      refine v_nmR hY54 ?_
      refine n_name (setS (setS (setS set0))) ?_
      refine n_asg ?_
      refine n_op ?_
      refine n_op ?_
      refine n_op ?_
      refine n_var rfl ?_
      refine n_op ?_
      refine n_var rfl ?_
      refine n_var rfl ?_
      obtain ⟨a64, ha64, hm⟩ := bnd hm
      refine v_mod ha64 ?_
      obtain ⟨a65, ha65, hm⟩ := bnd hm
      refine v_ixL m62.l al63 ha65 fun v66 r67 => ?_
      have er67 : v66 = V.int a65 := r67
      subst er67
      refine n_c ?_
      refine v_mulR (by decide) ?_
      refine n_op ?_
      refine n_var rfl ?_
      refine n_var rfl ?_
      obtain ⟨a68, ha68, hm⟩ := bnd hm
      refine v_ixQ g58.fh (Rp.mono (eQ K) (Sub.trans d8.ff (Sub.trans d16.ff (Sub.trans d22.ff (Sub.trans d32.ff sb59)))) (⟨p1, rfl, q2⟩ : (eQ K).r F0 (.ref p1) x_script)) ha68 ?_
      refine v_i2 ?_
      refine n_sub ?_
      refine n_var rfl ?_
      refine n_op ?_
      refine n_var rfl ?_
      refine n_var rfl ?_
      obtain ⟨a69, ha69, hm⟩ := bnd hm
      refine v_mod ha69 ?_
      obtain ⟨l70, hl70, hm⟩ := bnd hm
      obtain ⟨n71, en72, al73⟩ := setM_ok al63 hl70 (show eI.r F57 (.int ((a65 * (31 : Int)) + a68)) ((a65 * (31 : Int)) + a68) from rfl)
      refine v_setL m62.hp en72 ?_
      obtain ⟨vs74, H75, g76, evs74, eH75⟩ := st_ok g58 m62 ((vs61 : List V).set n71 (.int ((a65 * (31 : Int)) + a68)))
      rw [← evs74, ← eH75]
      rw [← evs74] at al73
      have m77 := mu_self m62 eH75
      obtain rfl := Option.some.inj hm
      exact hN56 _ _ ⟨_, _, vs74, rfl, g76, sb59, m77, al73⟩
    rintro _ H78 ⟨F79, o82, vs83, rfl, g80, sb81, m84, al85⟩
    refine n_ret ?_
    refine n_var rfl ?_
    obtain rfl := Option.some.inj hm
    exact hk _ _ _  g80   ⟨p35, vs83, rfl, (m84.own.resolve_right (by simp)), m84.fr, m84.hp, al85⟩

def m__law_letter (x_pool : List Int) (x_base : (Int × Int)) : Option (Sg × List Int) :=
  (m__law_take x_pool x_base.2).bind fun r6 =>
  (atI ([97, 98, 99, 100, 101, 102, 103, 104, 105, 106, 107, 108, 109, 110, 111, 112, 113, 114, 115, 116, 117, 118, 119, 120, 121, 122] : Sg) ((x_base.1 + ((5 : Int) * r6.1)) % (26 : Int))).bind fun c17 =>
  some ([c17], r6.2)
def sp__law_letter (K : PySem.W.Frag) : Sp := fun vs H Q _ => ∃ (F : Hp) (p_pool : Addr) (vs_pool : List V) (x_pool : List Int) (v_base : V) (x_base : (Int × Int)) (r : (Sg × List Int)), vs = [.ref p_pool, v_base] ∧ Sub F H ∧ F p_pool = none ∧ H p_pool = some (.lst vs_pool) ∧ Al eI F vs_pool x_pool ∧ (eP2 eI eI).r F v_base x_base ∧ m__law_letter x_pool x_base = some r ∧ ∀ (v : V) (F' H' : Hp) (us_pool : List V), Gr [p_pool] F H F' H' → H' p_pool = some (.lst us_pool) → Al eI F' us_pool r.2 → eS.r F' v r.1 → Q v H'
theorem sc__law_letter : FnScope ["pool", "base"] ["pool", "base"] (defScope s__law_letter) := ⟨rfl, rfl, rfl, by decide +kernel, rfl, by decide +kernel, by decide +kernel⟩
theorem ok__law_letter {f : Addr} {fd : FuncData} (F : FnP K "_law_letter" s__law_letter f fd) (H__law_take : HasG P w K mg base "_law_take" ["pool", "many"] 2 (sp__law_take K)) : FnG P w K mg base CX0 3 f fd ["pool", "base"] (sp__law_letter K) := by
  obtain ⟨f__law_take, fd__law_take, G0__law_take, g__law_take, k__law_take, b__law_take⟩ := H__law_take
  have G__law_take := G0__law_take.mono (show 2 ≤ 2 by decide)
  refine FnDok F sc__law_letter (fun vs H Q E h => ?_) (fun cdv A outer s H0 vs Q E gd hr h => ?_)
  · obtain ⟨_, _, _, _, _, _, _, rfl, _⟩ := h
    rfl
  · obtain ⟨F0, p_pool, vs_pool, x_pool, v_base, x_base, r0, rfl, hs0, fr_pool, hp_pool, al_pool, r_base, hm, hk⟩ := h
    have g0 : Gr [p_pool] F0 H0 F0 H0 := Gr.refl hs0
    have m1 : Mu [p_pool] H0 F0 H0 p_pool (.lst vs_pool) := ⟨fr_pool, hp_pool, .inr (by simp)⟩
    refine ⟨_, PSs.nox (pss_one (ps_ret (pe_ix ix_str pe_str (pe_op op_mod (pe_op op_add (pe_ix (c_ixT (K := K) rfl) (pv 1) pe_int (fun _ _ => rfl)) (pe_op op_mul pe_int (pe_callG G__law_take gd hr (by rfl) g__law_take k__law_take b__law_take pass0 (pa_cons (pv 0) (pa_cons (pe_ix (c_ixT (K := K) rfl) (pv 1) pe_int (fun _ _ => rfl)) pa_nil))))) pe_int) (fun _ _ => rfl)))), ?_⟩
    refine n_ret ?_
    refine n_op ?_
    refine n_str (s := [97, 98, 99, 100, 101, 102, 103, 104, 105, 106, 107, 108, 109, 110, 111, 112, 113, 114, 115, 116, 117, 118, 119, 120, 121, 122]) (by decide +kernel) ?_
    refine n_op ?_
    refine n_op ?_
    refine n_op ?_
    refine n_var rfl ?_
    refine n_c ?_
    refine v_ix20 g0.fh r_base fun v2 r3 => ?_
    have er3 : v2 = V.int x_base.1 := r3
    subst er3
    refine n_op ?_
    refine n_c ?_
    refine n_call ?_
    refine n_cons ?_
    refine n_var rfl ?_
    refine n_cons ?_
    refine n_op ?_
    refine n_var rfl ?_
    refine n_c ?_
    refine v_ix21 g0.fh r_base fun v4 r5 => ?_
    have er5 : v4 = V.int x_base.2 := r5
    subst er5
    refine n_nil ?_
    obtain ⟨r6, hr6, hm⟩ := bnd hm
    refine ⟨F0, p_pool, vs_pool, x_pool, .int x_base.2, x_base.2, r6, rfl, g0.fh, m1.fr, m1.hp, al_pool, rfl, hr6, fun v13 F7 H8 vs10 d9 hp11 al12 r14 => ?_⟩
    have g15 := g0.trans d9 (fun a ha => (List.mem_cons.mp ha).elim (fun e => e ▸ m1.own) (fun ha => absurd ha (by simp)))
    have m16 := m1.back d9 hp11
    have er14 : v13 = V.int r6.1 := r14
    subst er14
    refine v_mulL (by decide) ?_
    refine v_i2 ?_
    refine n_c ?_
    refine v_modK (by decide) ?_
    obtain ⟨c17, hc17, hm⟩ := bnd hm
    refine v_ixS (sz_ok (n := 26) rfl) hc17 ?_
    obtain rfl := Option.some.inj hm
    exact hk _ _ _ _ g15 m16.hp al12 ⟨rfl, one_le⟩

def m__law_tree (x_pool : List Int) (x_most : Int) : Option ((List Int × Sg) × List Int) :=
  (m__law_take x_pool x_most).bind fun r32 =>
  (m__law_take r32.2 (mn x_most (7 : Int))).bind fun r43 =>
  (m__law_take r43.2 (3 : Int)).bind fun r62 =>
  (atI [((1 : Int) + r32.1), x_most, ((1 : Int) + r43.1)] r62.1).bind fun a73 =>
  (m__law_take r62.2 (26 : Int)).bind fun r76 =>
  (m__law_take r76.2 (4 : Int)).bind fun r103 =>
  (atI [(1 : Int), (2 : Int), (3 : Int), (26 : Int)] r103.1).bind fun a114 =>
  (m__law_take r103.2 (8 : Int)).bind fun r124 =>
  (m__law_take r124.2 (7 : Int)).bind fun r135 =>
  (uptoM 0 ((1 : Int) + r135.1)).bind fun l146 =>
  (need (szB l146.length) ()).bind fun u149 =>
  (compO l146 r135.2 fun s152 a151 =>
  (m__law_take s152 (4 : Int)).bind fun r173 =>
  some (r173.2, (some r173.1))).bind fun q150 =>
  (uptoM 0 ((1 : Int) + r135.1)).bind fun l209 =>
  (need (szB l209.length) ()).bind fun u212 =>
  (compO l209 q150.1 fun s215 a214 =>
  (m__law_letter s215 (r76.1, a114)).bind fun r236 =>
  some (r236.2, (some r236.1))).bind fun q213 =>
  (m__law_letter q213.1 (r76.1, a114)).bind fun r285 =>
  (uptoM (1 : Int) a73).bind fun l297 =>
  (foldO l297 (r285.1, r285.2, [((0 : Int) - (1 : Int))]) fun s300 a299 =>
  (m__law_take s300.2.1 (2 : Int)).bind fun r322 =>
  (m__law_take r322.2 (3 : Int)).bind fun r334 =>
  (modM a299 ((1 : Int) + r135.1)).bind fun a355 =>
  (atI q150.2 a355).bind fun a356 =>
  (m__law_take r334.2 (5 : Int)).bind fun r359 =>
  (m__law_take r359.2 (2 : Int)).bind fun r371 =>
  (catLM [(0 : Int), (60 : Int), (a299 % (2 : Int)), r322.1, r334.1] [a356, r359.1, ((3 : Int) * r371.1)]).bind fun l392 =>
  (atI l392 r124.1).bind fun a403 =>
  (uptoM 0 a403).bind fun l406 =>
  (foldO l406 (a299 - (1 : Int)) fun s409 a408 =>
  (atI s300.2.2 s409).bind fun a423 =>
  some (mx (0 : Int) a423)).bind fun s407 =>
  (snocM s300.2.2 s407).bind fun l433 =>
  (m__law_letter r371.2 (r76.1, a114)).bind fun r466 =>
  (modM a299 ((1 : Int) + r135.1)).bind fun a478 =>
  (atI q213.2 a478).bind fun a479 =>
  (atI [r466.1, a479] (b2 (decide (r124.1 = (5 : Int))))).bind fun a491 =>
  (catM s300.1 a491).bind fun t494 =>
  some (t494, r466.2, l433)).bind fun s298 =>
  some ((s298.2.2, s298.1), s298.2.1)
def sp__law_tree (K : PySem.W.Frag) : Sp := fun vs H Q _ => ∃ (F : Hp) (p_pool : Addr) (vs_pool : List V) (x_pool : List Int) (v_most : V) (x_most : Int) (r : ((List Int × Sg) × List Int)), vs = [.ref p_pool, v_most] ∧ Sub F H ∧ F p_pool = none ∧ H p_pool = some (.lst vs_pool) ∧ Al eI F vs_pool x_pool ∧ eI.r F v_most x_most ∧ m__law_tree x_pool x_most = some r ∧ ∀ (v : V) (F' H' : Hp) (us_pool : List V), Gr [p_pool] F H F' H' → H' p_pool = some (.lst us_pool) → Al eI F' us_pool r.2 → (eP2 (eT eI) eS).r F' v r.1 → Q v H'
theorem sc__law_tree : FnScope ["pool", "most", "many", "base", "way", "turns", "climbs", "signs", "ups", "labels", "k", "some", "place", "step"] ["pool", "most"] (defScope s__law_tree) := ⟨rfl, rfl, rfl, by decide +kernel, rfl, by decide +kernel, by decide +kernel⟩
theorem ok__law_tree {f : Addr} {fd : FuncData} (F : FnP K "_law_tree" s__law_tree f fd) (H__law_take : HasG P w K mg base "_law_take" ["pool", "many"] 2 (sp__law_take K)) (H__law_letter : HasG P w K mg base "_law_letter" ["pool", "base"] 3 (sp__law_letter K)) (b_range : mg "range" = none) (b_tuple : mg "tuple" = none) (b_max : mg "max" = none) (b_int : mg "int" = none) (b_min : mg "min" = none) : FnG P w K mg base CX0 4 f fd ["pool", "most"] (sp__law_tree K) := by
  obtain ⟨f__law_take, fd__law_take, G0__law_take, g__law_take, k__law_take, b__law_take⟩ := H__law_take
  have G__law_take := G0__law_take.mono (show 2 ≤ 3 by decide)
  obtain ⟨f__law_letter, fd__law_letter, G0__law_letter, g__law_letter, k__law_letter, b__law_letter⟩ := H__law_letter
  have G__law_letter := G0__law_letter.mono (show 3 ≤ 3 by decide)
  refine FnDok F sc__law_tree (fun vs H Q E h => ?_) (fun cdv A outer s H0 vs Q E gd hr h => ?_)
  · obtain ⟨_, _, _, _, _, _, _, rfl, _⟩ := h
    rfl
  · obtain ⟨F0, p_pool, vs_pool, x_pool, v_most, x_most, r0, rfl, hs0, fr_pool, hp_pool, al_pool, r_most, hm, hk⟩ := h
    have g0 : Gr [p_pool] F0 H0 F0 H0 := Gr.refl hs0
    have m1 : Mu [p_pool] H0 F0 H0 p_pool (.lst vs_pool) := ⟨fr_pool, hp_pool, .inr (by simp)⟩
    have er_most : v_most = V.int x_most := r_most
    subst er_most
    refine ⟨_, PSs.nox (pss_cons (ps_set (i := 2) sc__law_tree.nd rfl (by first | exact Or.inl rfl | exact Or.inr rfl) (pe_ix (c_ixL (K := K) rfl) (pe_lst (pa_cons (pe_op op_add pe_int (pe_callG G__law_take gd hr (by rfl) g__law_take k__law_take b__law_take pass0 (pa_cons (pv 0) (pa_cons (pv 1) pa_nil)))) (pa_cons (pv 1) (pa_cons (pe_op op_add pe_int (pe_callG G__law_take gd hr (by rfl) g__law_take k__law_take b__law_take pass0 (pa_cons (pv 0) (pa_cons (pe_callB (c_min2 rfl) (by rfl) b_min bo_min (pa_cons (pv 1) (pa_cons pe_int pa_nil))) pa_nil)))) pa_nil)))) (pe_callG G__law_take gd hr (by rfl) g__law_take k__law_take b__law_take pass0 (pa_cons (pv 0) (pa_cons pe_int pa_nil))) (fun _ _ => rfl)))
(pss_cons (ps_set (i := 3) sc__law_tree.nd rfl (by first | exact Or.inl rfl | exact Or.inr rfl) (pe_tup (pa_cons (pe_callG G__law_take gd hr (by rfl) g__law_take k__law_take b__law_take pass0 (pa_cons (pv 0) (pa_cons pe_int pa_nil))) (pa_cons (pe_ix (c_ixL (K := K) rfl) (pe_lst (pa_cons pe_int (pa_cons pe_int (pa_cons pe_int (pa_cons pe_int pa_nil))))) (pe_callG G__law_take gd hr (by rfl) g__law_take k__law_take b__law_take pass0 (pa_cons (pv 0) (pa_cons pe_int pa_nil))) (fun _ _ => rfl)) pa_nil))))
(pss_cons (ps_set (i := 4) sc__law_tree.nd rfl (by first | exact Or.inl rfl | exact Or.inr rfl) (pe_callG G__law_take gd hr (by rfl) g__law_take k__law_take b__law_take pass0 (pa_cons (pv 0) (pa_cons pe_int pa_nil))))
(pss_cons (ps_set (i := 5) sc__law_tree.nd rfl (by first | exact Or.inl rfl | exact Or.inr rfl) (pe_op op_add pe_int (pe_callG G__law_take gd hr (by rfl) g__law_take k__law_take b__law_take pass0 (pa_cons (pv 0) (pa_cons pe_int pa_nil)))))
(pss_cons (ps_setLc (i := 6) (own := [("k", 10)]) (g := gName 10) (by rfl) sc__law_tree.nd rfl rfl (sw_true rfl rfl rfl (by decide +kernel)) (pi_range1 (by rfl) b_range (pa_cons (pv 5) pa_nil)) (blkOk_by (own := [("k", 10)]) (N := ["pool", "most", "many", "base", "way", "turns", "climbs", "signs", "ups", "labels", "k", "some", "place", "step"]) (sc := defScope s__law_tree) (by decide +kernel)) (fun _ _ _ _ _ => (pg_name (i := 10) sc__law_tree.nd rfl (Or.inl rfl))) (fun _ _ _ _ _ => pts_nil) (fun _ _ _ _ _ => (pe_callG G__law_take gd hr (by rfl) g__law_take k__law_take b__law_take pass0 (pa_cons (pv 0) (pa_cons pe_int pa_nil)))))
(pss_cons (ps_setLc (i := 7) (own := [("k", 10)]) (g := gName 10) (by rfl) sc__law_tree.nd rfl rfl (sw_true rfl rfl rfl (by decide +kernel)) (pi_range1 (by rfl) b_range (pa_cons (pv 5) pa_nil)) (blkOk_by (own := [("k", 10)]) (N := ["pool", "most", "many", "base", "way", "turns", "climbs", "signs", "ups", "labels", "k", "some", "place", "step"]) (sc := defScope s__law_tree) (by decide +kernel)) (fun _ _ _ _ _ => (pg_name (i := 10) sc__law_tree.nd rfl (Or.inl rfl))) (fun _ _ _ _ _ => pts_nil) (fun _ _ _ _ _ => (pe_callG G__law_letter gd hr (by rfl) g__law_letter k__law_letter b__law_letter pass0 (pa_cons (pv 0) (pa_cons (pv 3) pa_nil)))))
(pss_cons (ps_set (i := 8) sc__law_tree.nd rfl (by first | exact Or.inl rfl | exact Or.inr rfl) (pe_lst (pa_cons (pe_op op_sub pe_int pe_int) pa_nil)))
(pss_cons (ps_set (i := 9) sc__law_tree.nd rfl (by first | exact Or.inl rfl | exact Or.inr rfl) (pe_callG G__law_letter gd hr (by rfl) g__law_letter k__law_letter b__law_letter pass0 (pa_cons (pv 0) (pa_cons (pv 3) pa_nil))))
(pss_cons (ps_for PassesOwn.never rfl (pi_range2 (by rfl) b_range (pa_cons pe_int (pa_cons (pv 2) pa_nil))) (pg_name (i := 10) sc__law_tree.nd rfl (by first | exact Or.inl rfl | exact Or.inr rfl)) (pss_cons (ps_set (i := 11) sc__law_tree.nd rfl (by first | exact Or.inl rfl | exact Or.inr rfl) (pe_lst (pa_cons pe_int (pa_cons pe_int (pa_cons (pe_op op_mod (pv 10) pe_int) (pa_cons (pe_callG G__law_take gd hr (by rfl) g__law_take k__law_take b__law_take pass0 (pa_cons (pv 0) (pa_cons pe_int pa_nil))) (pa_cons (pe_callG G__law_take gd hr (by rfl) g__law_take k__law_take b__law_take pass0 (pa_cons (pv 0) (pa_cons pe_int pa_nil))) pa_nil)))))))
(pss_cons (ps_set (i := 11) sc__law_tree.nd rfl (by first | exact Or.inl rfl | exact Or.inr rfl) (pe_op op_cat (pv 11) (pe_lst (pa_cons (pe_ix (c_ixL (K := K) rfl) (pv 6) (pe_op op_mod (pv 10) (pv 5)) (fun _ _ => rfl)) (pa_cons (pe_callG G__law_take gd hr (by rfl) g__law_take k__law_take b__law_take pass0 (pa_cons (pv 0) (pa_cons pe_int pa_nil))) (pa_cons (pe_op op_mul pe_int (pe_callG G__law_take gd hr (by rfl) g__law_take k__law_take b__law_take pass0 (pa_cons (pv 0) (pa_cons pe_int pa_nil)))) pa_nil))))))
(pss_cons (ps_set (i := 12) sc__law_tree.nd rfl (by first | exact Or.inl rfl | exact Or.inr rfl) (pe_op op_sub (pv 10) pe_int))
(pss_cons (ps_for PassesOwn.never rfl (pi_range1 (by rfl) b_range (pa_cons (pe_ix (c_ixL (K := K) rfl) (pv 11) (pv 4) (fun _ _ => rfl)) pa_nil)) (pg_name (i := 13) sc__law_tree.nd rfl (by first | exact Or.inl rfl | exact Or.inr rfl)) (pss_one (ps_set (i := 12) sc__law_tree.nd rfl (by first | exact Or.inl rfl | exact Or.inr rfl) (pe_callB (c_max2 rfl) (by rfl) b_max bo_max (pa_cons pe_int (pa_cons (pe_ix (c_ixL (K := K) rfl) (pv 8) (pv 12) (fun _ _ => rfl)) pa_nil))))))
(pss_cons (ps_expr (c_bm (K := K) rfl PySem.F.plainAttrs_list PySem.F.slot_list_append PySem.F.type_list_append mt_append (pv 8) (pa_cons (pv 12) pa_nil)))
(pss_one (ps_set (i := 9) sc__law_tree.nd rfl (by first | exact Or.inl rfl | exact Or.inr rfl) (pe_op c_catS (pv 9) (pe_ix (c_ixL (K := K) rfl) (pe_lst (pa_cons (pe_callG G__law_letter gd hr (by rfl) g__law_letter k__law_letter b__law_letter pass0 (pa_cons (pv 0) (pa_cons (pv 3) pa_nil))) (pa_cons (pe_ix (c_ixL (K := K) rfl) (pv 7) (pe_op op_mod (pv 10) (pv 5)) (fun _ _ => rfl)) pa_nil))) (pe_callTy c_int1 (by rfl) b_int bo_int (pa_cons (pe_cmpR op_eq (pv 4) pe_int (nomark _)) pa_nil)) (fun _ _ => rfl)))))))))))
(pss_one (ps_ret (pe_tup (pa_cons (pe_callTy (c_tuple (K := K) rfl) (by rfl) b_tuple bo_tuple (pa_cons (pv 8) pa_nil)) (pa_cons (pv 9) pa_nil)))))))))))))), ?_⟩
    refine n_seq ?_
    refine n_asg ?_
    refine n_op ?_
    refine n_lst ?_
    refine n_cons ?_
    refine n_op ?_
    refine n_c ?_
    refine n_call ?_
    refine n_cons ?_
    refine n_var rfl ?_
    refine n_cons ?_
    refine n_var rfl ?_
    refine n_nil ?_
    obtain ⟨r32, hr32, hm⟩ := bnd hm
    refine ⟨F0, p_pool, vs_pool, x_pool, .int x_most, x_most, r32, rfl, g0.fh, m1.fr, m1.hp, al_pool, rfl, hr32, fun v39 F33 H34 vs36 d35 hp37 al38 r40 => ?_⟩
    have g41 := g0.trans d35 (fun a ha => (List.mem_cons.mp ha).elim (fun e => e ▸ m1.own) (fun ha => absurd ha (by simp)))
    have m42 := m1.back d35 hp37
    have er40 : v39 = V.int r32.1 := r40
    subst er40
    refine v_i2 ?_
    refine n_cons ?_
    refine n_var rfl ?_
    refine n_cons ?_
    refine n_op ?_
    refine n_c ?_
    refine n_call ?_
    refine n_cons ?_
    refine n_var rfl ?_
    refine n_cons ?_
    refine n_cb ?_
    refine n_cons ?_
    refine n_var rfl ?_
    refine n_cons ?_
    refine n_c ?_
    refine n_nil ?_
    refine v_min2 ?_
    refine n_nil ?_
    obtain ⟨r43, hr43, hm⟩ := bnd hm
    refine ⟨F33, p_pool, vs36, r32.2, .int (mn x_most (7 : Int)), (mn x_most (7 : Int)), r43, rfl, g41.fh, m42.fr, m42.hp, al38, rfl, hr43, fun v50 F44 H45 vs47 d46 hp48 al49 r51 => ?_⟩
    have g52 := g41.trans d46 (fun a ha => (List.mem_cons.mp ha).elim (fun e => e ▸ m42.own) (fun ha => absurd ha (by simp)))
    have m53 := m42.back d46 hp48
    have er51 : v50 = V.int r43.1 := r51
    subst er51
    refine v_i2 ?_
    refine n_nil ?_
    refine v_mkLF (t := eI) (xs := [((1 : Int) + r32.1), x_most, ((1 : Int) + r43.1)]) g52.fh (.cons rfl (.cons rfl (.cons rfl .nil))) rfl fun p54 F55 H56 d57 q58 al59 => ?_
    have g60 := g52.trans0 d57
    have m61 := m53.call0 d57
    refine n_call ?_
    refine n_cons ?_
    refine n_var rfl ?_
    refine n_cons ?_
    refine n_c ?_
    refine n_nil ?_
    obtain ⟨r62, hr62, hm⟩ := bnd hm
    refine ⟨F55, p_pool, vs47, r43.2, .int (3 : Int), (3 : Int), r62, rfl, g60.fh, m61.fr, m61.hp, (Al.mono al49 d57.ff), rfl, hr62, fun v69 F63 H64 vs66 d65 hp67 al68 r70 => ?_⟩
    have g71 := g60.trans d65 (fun a ha => (List.mem_cons.mp ha).elim (fun e => e ▸ m61.own) (fun ha => absurd ha (by simp)))
    have m72 := m61.back d65 hp67
    have er70 : v69 = V.int r62.1 := r70
    subst er70
    obtain ⟨a73, ha73, hm⟩ := bnd hm
    refine v_ixL (SqL.of (g71.fh _ _ (d65.ff _ _ q58))) (Al.mono al59 d65.ff) ha73 fun v74 r75 => ?_
    have er75 : v74 = V.int a73 := r75
    subst er75
    refine n_name (setS (setS set0)) ?_
    refine n_seq ?_
    refine n_asg ?_
    refine n_tup ?_
    refine n_cons ?_
    refine n_call ?_
    refine n_cons ?_
    refine n_var rfl ?_
    refine n_cons ?_
    refine n_c ?_
    refine n_nil ?_
    obtain ⟨r76, hr76, hm⟩ := bnd hm
    refine ⟨F63, p_pool, vs66, r62.2, .int (26 : Int), (26 : Int), r76, rfl, g71.fh, m72.fr, m72.hp, al68, rfl, hr76, fun v83 F77 H78 vs80 d79 hp81 al82 r84 => ?_⟩
    have g85 := g71.trans d79 (fun a ha => (List.mem_cons.mp ha).elim (fun e => e ▸ m72.own) (fun ha => absurd ha (by simp)))
    have m86 := m72.back d79 hp81
    have er84 : v83 = V.int r76.1 := r84
    subst er84
    refine n_cons ?_
    refine n_op ?_
    refine n_lst ?_
    refine n_cons ?_
    refine n_c ?_
    refine n_cons ?_
    refine n_c ?_
    refine n_cons ?_
    refine n_c ?_
    refine n_cons ?_
    refine n_c ?_
    refine n_nil ?_
    refine v_mkLF (t := eI) (xs := [(1 : Int), (2 : Int), (3 : Int), (26 : Int)]) g85.fh (.cons rfl (.cons rfl (.cons rfl (.cons rfl .nil)))) rfl fun p95 F96 H97 d98 q99 al100 => ?_
    have g101 := g85.trans0 d98
    have m102 := m86.call0 d98
    refine n_call ?_
    refine n_cons ?_
    refine n_var rfl ?_
    refine n_cons ?_
    refine n_c ?_
    refine n_nil ?_
    obtain ⟨r103, hr103, hm⟩ := bnd hm
    refine ⟨F96, p_pool, vs80, r76.2, .int (4 : Int), (4 : Int), r103, rfl, g101.fh, m102.fr, m102.hp, (Al.mono al82 d98.ff), rfl, hr103, fun v110 F104 H105 vs107 d106 hp108 al109 r111 => ?_⟩
    have g112 := g101.trans d106 (fun a ha => (List.mem_cons.mp ha).elim (fun e => e ▸ m102.own) (fun ha => absurd ha (by simp)))
    have m113 := m102.back d106 hp108
    have er111 : v110 = V.int r103.1 := r111
    subst er111
    obtain ⟨a114, ha114, hm⟩ := bnd hm
    refine v_ixL (SqL.of (g112.fh _ _ (d106.ff _ _ q99))) (Al.mono al100 d106.ff) ha114 fun v115 r116 => ?_
    have er116 : v115 = V.int a114 := r116
    subst er116
    refine n_nil ?_
    refine v_mk2 g112.fh (show eI.r F104 (.int r76.1) r76.1 from rfl) (show eI.r F104 (.int a114) a114 from rfl) fun v117 F118 H119 d120 r121 => ?_
    have g122 := g112.trans0 d120
    have m123 := m113.call0 d120
    refine n_name (setS (setS (setS set0))) ?_
    refine n_seq ?_
    refine n_asg ?_
    refine n_call ?_
    refine n_cons ?_
    refine n_var rfl ?_
    refine n_cons ?_
    refine n_c ?_
    refine n_nil ?_
    obtain ⟨r124, hr124, hm⟩ := bnd hm
    refine ⟨F118, p_pool, vs107, r103.2, .int (8 : Int), (8 : Int), r124, rfl, g122.fh, m123.fr, m123.hp, (Al.mono al109 d120.ff), rfl, hr124, fun v131 F125 H126 vs128 d127 hp129 al130 r132 => ?_⟩
    have g133 := g122.trans d127 (fun a ha => (List.mem_cons.mp ha).elim (fun e => e ▸ m123.own) (fun ha => absurd ha (by simp)))
    have m134 := m123.back d127 hp129
    have er132 : v131 = V.int r124.1 := r132
    subst er132
    refine n_name (setS (setS (setS (setS set0)))) ?_
    refine n_seq ?_
    refine n_asg ?_
    refine n_op ?_
    refine n_c ?_
    refine n_call ?_
    refine n_cons ?_
    refine n_var rfl ?_
    refine n_cons ?_
    refine n_c ?_
    refine n_nil ?_
    obtain ⟨r135, hr135, hm⟩ := bnd hm
    refine ⟨F125, p_pool, vs128, r124.2, .int (7 : Int), (7 : Int), r135, rfl, g133.fh, m134.fr, m134.hp, al130, rfl, hr135, fun v142 F136 H137 vs139 d138 hp140 al141 r143 => ?_⟩
    have g144 := g133.trans d138 (fun a ha => (List.mem_cons.mp ha).elim (fun e => e ▸ m134.own) (fun ha => absurd ha (by simp)))
    have m145 := m134.back d138 hp140
    have er143 : v142 = V.int r135.1 := r143
    subst er143
    refine v_i2 ?_
    refine n_name (setS (setS (setS (setS (setS set0))))) ?_
    refine n_seq ?_
    refine n_asg ?_
    refine n_lc ?_
    refine n_rng1 ?_
    refine n_cons ?_
    refine n_var rfl ?_
    refine n_nil ?_
    obtain ⟨l146, hl146, hm⟩ := bnd hm
    refine v_rng1 hl146 ?_
    obtain ⟨u149, hu149, hm⟩ := bnd hm
    obtain ⟨q150, hq150, hm⟩ := bnd hm
    intro D147 nD148
    have goD147 := g144.old nD148
    have neD147_p_pool := m145.ne nD148
    have gg189 := gr_newM (W := []) (o := .lst []) g144.fh nD148
    refine comp_o (sr_R1 hl146) hq150 (need_ok hu149).1 (fun (s7 : List Int) (acc7 : List Int) H7 => ∃ (F7 : Hp) (vs7 : List V) (us0 : List V), Gr [p_pool] F0 H0 F7 H7 ∧ Sub F136 F7 ∧ F7 D147 = none ∧ H7 D147 = some (.lst vs7) ∧ Al eI F7 vs7 acc7 ∧ Mu [p_pool] H0 F7 H7 p_pool (.lst us0) ∧ Al eI F7 us0 s7) ⟨_, [], vs139, g144.trans0 gg189, Sub.refl _, g144.fh.nn nD148, upd_same, .nil, m145.call0 gg189, al141⟩ ?_ ?_ ?_
    · intros; exact trivial
    · rintro a151 s152 r153 acc154 x155 H156 H157 ⟨F162, vs163, vs169, g164, sb165, fD166, hD167, al168, m170, al171⟩ hY158 hm hl161 N159 hN160
      have m172 : Mu [p_pool] H0 F162 H156 D147 (.lst vs163) := ⟨fD166, hD167, .inl goD147⟩
      refine wipe_to (σ' := [some (.ref p_pool), some (.int x_most), some (.int a73), some v117, some (.int r124.1), some (.int ((1 : Int) + r135.1)), none, none, none, none, none, none, none, none]) rfl ?_
      refine v_nmR hY158 ?_
      refine n_name (setS (setS (setS (setS (setS (setS (setS (setS (setS (setS set0)))))))))) ?_
      refine ⟨rfl, ?_⟩
      refine n_yes ?_ rfl
      refine n_call ?_
      refine n_cons ?_
      refine n_var rfl ?_
      refine n_cons ?_
      refine n_c ?_
      refine n_nil ?_
      obtain ⟨r173, hr173, hm⟩ := bnd hm
      refine ⟨F162, p_pool, vs169, s152, .int (4 : Int), (4 : Int), r173, rfl, g164.fh, m170.fr, m170.hp, al171, rfl, hr173, fun v180 F174 H175 vs177 d176 hp178 al179 r181 => ?_⟩
      have g182 := g164.trans d176 (fun a ha => (List.mem_cons.mp ha).elim (fun e => e ▸ m170.own) (fun ha => absurd ha (by simp)))
      have m183 := m170.back d176 hp178
      have m184 := m172.call d176 (nin1 (Ne.symm neD147_p_pool))
      have er181 : v180 = V.int r173.1 := r181
      subst er181
      obtain rfl := Option.some.inj hm
      refine ⟨_, m184.hp, by rw [al_len (Al.mono al168 d176.ff)]; exact hl161, hN160 _ ?_⟩
      exact ⟨_, _, vs177, m184.gr g182, (Sub.trans sb165 d176.ff), m184.fr, upd_same, pd_snoc (Al.mono al168 d176.ff) (show eI.r F174 (.int r173.1) r173.1 from rfl), m183.mut neD147_p_pool, al179⟩
    rintro H190 ⟨F191, vs192, vs198, g193, sb194, fD195, hD196, al197, m199, al200⟩
    have m201 : Mu [p_pool] H0 F191 H190 D147 (.lst vs192) := ⟨fD195, hD196, .inl goD147⟩
    obtain ⟨F202, q204, sb206, g205, d203⟩ := freeze g193 m201 (m201.own.resolve_right (nin1 (Ne.symm neD147_p_pool)))
    have m207 := d203 _ _ neD147_p_pool m199
    have al208 := (Al.mono al197 sb206)
    refine n_name (setS (setS (setS (setS (setS (setS set0)))))) ?_
    refine n_seq ?_
    refine n_asg ?_
    refine n_lc ?_
    refine n_rng1 ?_
    refine n_cons ?_
    refine n_var rfl ?_
    refine n_nil ?_
    obtain ⟨l209, hl209, hm⟩ := bnd hm
    refine v_rng1 hl209 ?_
    obtain ⟨u212, hu212, hm⟩ := bnd hm
    obtain ⟨q213, hq213, hm⟩ := bnd hm
    intro D210 nD211
    have goD210 := g205.old nD211
    have neD210_p_pool := m207.ne nD211
    have gg252 := gr_newM (W := []) (o := .lst []) g205.fh nD211
    refine comp_o (sr_R1 hl209) hq213 (need_ok hu212).1 (fun (s7 : List Int) (acc7 : List Sg) H7 => ∃ (F7 : Hp) (vs7 : List V) (us0 : List V), Gr [p_pool] F0 H0 F7 H7 ∧ Sub F202 F7 ∧ F7 D210 = none ∧ H7 D210 = some (.lst vs7) ∧ Al eS F7 vs7 acc7 ∧ Mu [p_pool] H0 F7 H7 p_pool (.lst us0) ∧ Al eI F7 us0 s7) ⟨_, [], vs198, g205.trans0 gg252, Sub.refl _, g205.fh.nn nD211, upd_same, .nil, m207.call0 gg252, (Al.mono al200 sb206)⟩ ?_ ?_ ?_
    · intros; exact trivial
    · rintro a214 s215 r216 acc217 x218 H219 H220 ⟨F225, vs226, vs232, g227, sb228, fD229, hD230, al231, m233, al234⟩ hY221 hm hl224 N222 hN223
      have m235 : Mu [p_pool] H0 F225 H219 D210 (.lst vs226) := ⟨fD229, hD230, .inl goD210⟩
      refine wipe_to (σ' := [some (.ref p_pool), some (.int x_most), some (.int a73), some v117, some (.int r124.1), some (.int ((1 : Int) + r135.1)), some (.ref D147), none, none, none, none, none, none, none]) rfl ?_
      refine v_nmR hY221 ?_
      refine n_name (setS (setS (setS (setS (setS (setS (setS (setS (setS (setS set0)))))))))) ?_
      refine ⟨rfl, ?_⟩
      refine n_yes ?_ rfl
      refine n_call ?_
      refine n_cons ?_
      refine n_var rfl ?_
      refine n_cons ?_
      refine n_var rfl ?_
      refine n_nil ?_
      obtain ⟨r236, hr236, hm⟩ := bnd hm
      refine ⟨F225, p_pool, vs232, s215, v117, (r76.1, a114), r236, rfl, g227.fh, m233.fr, m233.hp, al234, (Rp.mono (eP2 eI eI) (Sub.trans d127.ff (Sub.trans d138.ff (Sub.trans sb194 (Sub.trans sb206 sb228)))) r121), hr236, fun v243 F237 H238 vs240 d239 hp241 al242 r244 => ?_⟩
      have g245 := g227.trans d239 (fun a ha => (List.mem_cons.mp ha).elim (fun e => e ▸ m233.own) (fun ha => absurd ha (by simp)))
      have m246 := m233.back d239 hp241
      have m247 := m235.call d239 (nin1 (Ne.symm neD210_p_pool))
      obtain ⟨er244, lr244⟩ : v243 = V.str (S r236.1) ∧ r236.1.length ≤ sizeLine := r244
      subst er244
      obtain rfl := Option.some.inj hm
      refine ⟨_, m247.hp, by rw [al_len (Al.mono al231 d239.ff)]; exact hl224, hN223 _ ?_⟩
      exact ⟨_, _, vs240, m247.gr g245, (Sub.trans sb228 d239.ff), m247.fr, upd_same, pd_snoc (Al.mono al231 d239.ff) (show eS.r F237 (.str (S r236.1)) r236.1 from ⟨rfl, lr244⟩), m246.mut neD210_p_pool, al242⟩
    rintro H253 ⟨F254, vs255, vs261, g256, sb257, fD258, hD259, al260, m262, al263⟩
    have m264 : Mu [p_pool] H0 F254 H253 D210 (.lst vs255) := ⟨fD258, hD259, .inl goD210⟩
    obtain ⟨F265, q267, sb269, g268, d266⟩ := freeze g256 m264 (m264.own.resolve_right (nin1 (Ne.symm neD210_p_pool)))
    have m270 := d266 _ _ neD210_p_pool m262
    have al271 := (Al.mono al260 sb269)
    refine n_name (setS (setS (setS (setS (setS (setS (setS set0))))))) ?_
    refine n_seq ?_
    refine n_asg ?_
    refine n_lst ?_
    refine n_cons ?_
    refine n_op ?_
    refine n_c ?_
    refine n_c ?_
    refine v_i2 ?_
    refine n_nil ?_
    have al279 : Al eI F265 [.int ((0 : Int) - (1 : Int))] [((0 : Int) - (1 : Int))] := (.cons rfl .nil)
    refine v_mkLM g268.fh rfl fun p272 H273 np274 d275 fp276 hp277 => ?_
    have go280 := g268.old np274
    have ne281 := m270.ne np274
    have g282 := g268.trans0 d275
    have m283 := m270.call0 d275
    have m284 : Mu [p_pool] H0 F265 H273 p272 (.lst [.int ((0 : Int) - (1 : Int))]) := ⟨fp276, hp277, .inl go280⟩
    refine n_name (setS (setS (setS (setS (setS (setS (setS (setS set0)))))))) ?_
    refine n_seq ?_
    refine n_asg ?_
    refine n_call ?_
    refine n_cons ?_
    refine n_var rfl ?_
    refine n_cons ?_
    refine n_var rfl ?_
    refine n_nil ?_
    obtain ⟨r285, hr285, hm⟩ := bnd hm
    refine ⟨F265, p_pool, vs261, q213.1, v117, (r76.1, a114), r285, rfl, g282.fh, m283.fr, m283.hp, (Al.mono al263 sb269), (Rp.mono (eP2 eI eI) (Sub.trans d127.ff (Sub.trans d138.ff (Sub.trans sb194 (Sub.trans sb206 (Sub.trans sb257 sb269))))) r121), hr285, fun v292 F286 H287 vs289 d288 hp290 al291 r293 => ?_⟩
    have g294 := g282.trans d288 (fun a ha => (List.mem_cons.mp ha).elim (fun e => e ▸ m283.own) (fun ha => absurd ha (by simp)))
    have m295 := m283.back d288 hp290
    have m296 := m284.call d288 (nin1 (Ne.symm ne281))
    obtain ⟨er293, lr293⟩ : v292 = V.str (S r285.1) ∧ r285.1.length ≤ sizeLine := r293
    subst er293
    refine n_name (setS (setS (setS (setS (setS (setS (setS (setS (setS set0))))))))) ?_
    refine n_seq ?_
    refine n_for ?_
    refine n_rng2 ?_
    refine n_cons ?_
    refine n_c ?_
    refine n_cons ?_
    refine n_var rfl ?_
    refine n_nil ?_
    obtain ⟨l297, hl297, hm⟩ := bnd hm
    refine v_rng2 hl297 ?_
    obtain ⟨s298, hs298, hm⟩ := bnd hm
    refine for_o (sr_R2 hl297) hs298 (fun (s7 : Sg × List Int × List Int) σ7 H7 => ∃ (F7 : Hp) (o_k : Option V) (o_some : Option V) (o_place : Option V) (o_step : Option V) (us_pool : List V) (us_ups : List V), σ7 = [some (.ref p_pool), some (.int x_most), some (.int a73), some v117, some (.int r124.1), some (.int ((1 : Int) + r135.1)), some (.ref D147), some (.ref D210), some (.ref p272), some (.str (S s7.1)), o_k, o_some, o_place, o_step] ∧ Gr [p_pool] F0 H0 F7 H7 ∧ Sub F286 F7 ∧ s7.1.length ≤ sizeLine ∧ Mu [p_pool] H0 F7 H7 p_pool (.lst us_pool) ∧ Al eI F7 us_pool s7.2.1 ∧ Mu [p_pool] H0 F7 H7 p272 (.lst us_ups) ∧ Al eI F7 us_ups s7.2.2) ⟨_, _, _, _, _, vs289, [.int ((0 : Int) - (1 : Int))], rfl, g294, Sub.refl _, lr293, m295, al291, m296, (Al.mono al279 d288.ff)⟩ ?_ ?_ ?_
    · intros; exact trivial
    · rintro a299 s300 s301 x302 _ H303 H304 ⟨F308, o311, o312, o313, o314, vs315, vs316, rfl, g309, sb310, l317, m318, al319, m320, al321⟩ hY305 hm N306 hN307
      refine v_nmR hY305 ?_
      refine n_name (setS (setS (setS (setS (setS (setS (setS (setS (setS (setS set0)))))))))) ?_
      refine n_seq ?_
      refine n_asg ?_
      refine n_lst ?_
      refine n_cons ?_
      refine n_c ?_
      refine n_cons ?_
      refine n_c ?_
      refine n_cons ?_
      refine n_op ?_
      refine n_var rfl ?_
      refine n_c ?_
      refine v_modK (by decide) ?_
      refine n_cons ?_
      refine n_call ?_
      refine n_cons ?_
      refine n_var rfl ?_
      refine n_cons ?_
      refine n_c ?_
      refine n_nil ?_
      obtain ⟨r322, hr322, hm⟩ := bnd hm
      refine ⟨F308, p_pool, vs315, s300.2.1, .int (2 : Int), (2 : Int), r322, rfl, g309.fh, m318.fr, m318.hp, al319, rfl, hr322, fun v329 F323 H324 vs326 d325 hp327 al328 r330 => ?_⟩
      have g331 := g309.trans d325 (fun a ha => (List.mem_cons.mp ha).elim (fun e => e ▸ m318.own) (fun ha => absurd ha (by simp)))
      have m332 := m318.back d325 hp327
      have m333 := m320.call d325 (nin1 (Ne.symm ne281))
      have er330 : v329 = V.int r322.1 := r330
      subst er330
      refine n_cons ?_
      refine n_call ?_
      refine n_cons ?_
      refine n_var rfl ?_
      refine n_cons ?_
      refine n_c ?_
      refine n_nil ?_
      obtain ⟨r334, hr334, hm⟩ := bnd hm
      refine ⟨F323, p_pool, vs326, r322.2, .int (3 : Int), (3 : Int), r334, rfl, g331.fh, m332.fr, m332.hp, al328, rfl, hr334, fun v341 F335 H336 vs338 d337 hp339 al340 r342 => ?_⟩
      have g343 := g331.trans d337 (fun a ha => (List.mem_cons.mp ha).elim (fun e => e ▸ m332.own) (fun ha => absurd ha (by simp)))
      have m344 := m332.back d337 hp339
      have m345 := m333.call d337 (nin1 (Ne.symm ne281))
      have er342 : v341 = V.int r334.1 := r342
      subst er342
      refine n_nil ?_
      refine v_mkLF (t := eI) (xs := [(0 : Int), (60 : Int), (a299 % (2 : Int)), r322.1, r334.1]) g343.fh (.cons rfl (.cons rfl (.cons rfl (.cons rfl (.cons rfl .nil))))) rfl fun p346 F347 H348 d349 q350 al351 => ?_
      have g352 := g343.trans0 d349
      have m353 := m344.call0 d349
      have m354 := m345.call0 d349
      refine n_name (setS (setS (setS (setS (setS (setS (setS (setS (setS (setS (setS set0))))))))))) ?_
      refine n_seq ?_
      refine n_asg ?_
      refine n_op ?_
      refine n_var rfl ?_
      refine n_lst ?_
      refine n_cons ?_
      refine n_op ?_
      refine n_var rfl ?_
      refine n_op ?_
      refine n_var rfl ?_
      refine n_var rfl ?_
      obtain ⟨a355, ha355, hm⟩ := bnd hm
      refine v_mod ha355 ?_
      obtain ⟨a356, ha356, hm⟩ := bnd hm
      refine v_ixL (SqL.of (g352.fh _ _ ((Sub.trans sb257 (Sub.trans sb269 (Sub.trans d288.ff (Sub.trans sb310 (Sub.trans d325.ff (Sub.trans d337.ff d349.ff)))))) _ _ q204))) (Al.mono al208 (Sub.trans sb257 (Sub.trans sb269 (Sub.trans d288.ff (Sub.trans sb310 (Sub.trans d325.ff (Sub.trans d337.ff d349.ff))))))) ha356 fun v357 r358 => ?_
      have er358 : v357 = V.int a356 := r358
      subst er358
      refine n_cons ?_
      refine n_call ?_
      refine n_cons ?_
      refine n_var rfl ?_
      refine n_cons ?_
      refine n_c ?_
      refine n_nil ?_
      obtain ⟨r359, hr359, hm⟩ := bnd hm
      refine ⟨F347, p_pool, vs338, r334.2, .int (5 : Int), (5 : Int), r359, rfl, g352.fh, m353.fr, m353.hp, (Al.mono al340 d349.ff), rfl, hr359, fun v366 F360 H361 vs363 d362 hp364 al365 r367 => ?_⟩
      have g368 := g352.trans d362 (fun a ha => (List.mem_cons.mp ha).elim (fun e => e ▸ m353.own) (fun ha => absurd ha (by simp)))
      have m369 := m353.back d362 hp364
      have m370 := m354.call d362 (nin1 (Ne.symm ne281))
      have er367 : v366 = V.int r359.1 := r367
      subst er367
      refine n_cons ?_
      refine n_op ?_
      refine n_c ?_
      refine n_call ?_
      refine n_cons ?_
      refine n_var rfl ?_
      refine n_cons ?_
      refine n_c ?_
      refine n_nil ?_
      obtain ⟨r371, hr371, hm⟩ := bnd hm
      refine ⟨F360, p_pool, vs363, r359.2, .int (2 : Int), (2 : Int), r371, rfl, g368.fh, m369.fr, m369.hp, al365, rfl, hr371, fun v378 F372 H373 vs375 d374 hp376 al377 r379 => ?_⟩
      have g380 := g368.trans d374 (fun a ha => (List.mem_cons.mp ha).elim (fun e => e ▸ m369.own) (fun ha => absurd ha (by simp)))
      have m381 := m369.back d374 hp376
      have m382 := m370.call d374 (nin1 (Ne.symm ne281))
      have er379 : v378 = V.int r371.1 := r379
      subst er379
      refine v_mulL (by decide) ?_
      refine n_nil ?_
      refine v_mkLF (t := eI) (xs := [a356, r359.1, ((3 : Int) * r371.1)]) g380.fh (.cons rfl (.cons rfl (.cons rfl .nil))) rfl fun p383 F384 H385 d386 q387 al388 => ?_
      have g389 := g380.trans0 d386
      have m390 := m381.call0 d386
      have m391 := m382.call0 d386
      obtain ⟨l392, hl392, hm⟩ := bnd hm
      refine v_catF g389.fh (g389.fh _ _ ((Sub.trans d362.ff (Sub.trans d374.ff d386.ff)) _ _ q350)) (g389.fh _ _ q387) (Al.mono al351 (Sub.trans d362.ff (Sub.trans d374.ff d386.ff))) al388 hl392 fun p393 vs394 F396 H397 d398 q399 al395 => ?_
      have g400 := g389.trans0 d398
      have m401 := m390.call0 d398
      have m402 := m391.call0 d398
      refine n_name (setS (setS (setS (setS (setS (setS (setS (setS (setS (setS (setS set0))))))))))) ?_
      refine n_seq ?_
      refine n_asg ?_
      refine n_op ?_
      refine n_var rfl ?_
      refine n_c ?_
      refine v_i2 ?_
      refine n_name (setS (setS (setS (setS (setS (setS (setS (setS (setS (setS (setS (setS set0)))))))))))) ?_
      refine n_seq ?_
      refine n_for ?_
      refine n_rng1 ?_
      refine n_cons ?_
      refine n_op ?_
      refine n_var rfl ?_
      refine n_var rfl ?_
      obtain ⟨a403, ha403, hm⟩ := bnd hm
      refine v_ixL (SqL.of (g400.fh _ _ q399)) al395 ha403 fun v404 r405 => ?_
      have er405 : v404 = V.int a403 := r405
      subst er405
      refine n_nil ?_
      obtain ⟨l406, hl406, hm⟩ := bnd hm
      refine v_rng1 hl406 ?_
      obtain ⟨s407, hs407, hm⟩ := bnd hm
      refine for_o (sr_R1 hl406) hs407 (fun (s7 : Int) σ7 H7 => ∃ (F7 : Hp) (o_step : Option V), σ7 = [some (.ref p_pool), some (.int x_most), some (.int a73), some v117, some (.int r124.1), some (.int ((1 : Int) + r135.1)), some (.ref D147), some (.ref D210), some (.ref p272), some (.str (S s300.1)), some (.int a299), some (.ref p393), some (.int s7), o_step] ∧ Gr [p_pool] F0 H0 F7 H7 ∧ Sub F396 F7 ∧ Mu [p_pool] H0 F7 H7 p_pool (.lst vs375) ∧ Mu [p_pool] H0 F7 H7 p272 (.lst vs316)) ⟨_, _, rfl, g400, Sub.refl _, m401, m402⟩ ?_ ?_ ?_
      · intros; exact trivial
      · rintro a408 s409 s410 x411 _ H412 H413 ⟨F417, o420, rfl, g418, sb419, m421, m422⟩ hY414 hm N415 hN416
        refine v_nmR hY414 ?_
        refine n_name (setS (setS (setS (setS (setS (setS (setS (setS (setS (setS (setS (setS (setS set0))))))))))))) ?_
        refine n_asg ?_
        refine n_cb ?_
        refine n_cons ?_
        refine n_c ?_
        refine n_cons ?_
        refine n_op ?_
        refine n_var rfl ?_
        refine n_var rfl ?_
        obtain ⟨a423, ha423, hm⟩ := bnd hm
        refine v_ixL m422.l (Al.mono al321 (Sub.trans d325.ff (Sub.trans d337.ff (Sub.trans d349.ff (Sub.trans d362.ff (Sub.trans d374.ff (Sub.trans d386.ff (Sub.trans d398.ff sb419)))))))) ha423 fun v424 r425 => ?_
        have er425 : v424 = V.int a423 := r425
        subst er425
        refine n_nil ?_
        refine v_max2 ?_
        refine n_name (setS (setS (setS (setS (setS (setS (setS (setS (setS (setS (setS (setS set0)))))))))))) ?_
        obtain rfl := Option.some.inj hm
        exact hN416 _ _ ⟨_, _, rfl, g418, sb419, m421, m422⟩
      rintro _ H426 ⟨F427, o430, rfl, g428, sb429, m431, m432⟩
      refine n_seq ?_
      refine n_drop ?_
      refine n_bm ?_
      refine n_var rfl ?_
      refine ⟨tyL m432.l, ?_⟩
      refine n_cons ?_
      refine n_var rfl ?_
      refine n_nil ?_
      obtain ⟨l433, hl433, hm⟩ := bnd hm
      obtain ⟨vs437, H434, g438, al436, evs437, eH434⟩ := app_ok g428 m432 (Al.mono al321 (Sub.trans d325.ff (Sub.trans d337.ff (Sub.trans d349.ff (Sub.trans d362.ff (Sub.trans d374.ff (Sub.trans d386.ff (Sub.trans d398.ff sb429)))))))) hl433 (show eI.r F427 (.int s407) s407 from rfl)
      refine v_append m432.hp (snoc_lt (Al.mono al321 (Sub.trans d325.ff (Sub.trans d337.ff (Sub.trans d349.ff (Sub.trans d362.ff (Sub.trans d374.ff (Sub.trans d386.ff (Sub.trans d398.ff sb429)))))))) hl433) ?_
      rw [← evs437, ← eH434]
      have m439 := mu_oth m431 ne281 eH434
      have m440 := mu_self m432 eH434
      refine n_asg ?_
      refine n_op ?_
      refine n_var rfl ?_
      refine n_op ?_
      refine n_lst ?_
      refine n_cons ?_
      refine n_call ?_
      refine n_cons ?_
      refine n_var rfl ?_
      refine n_cons ?_
      refine n_var rfl ?_
      refine n_nil ?_
      obtain ⟨r466, hr466, hm⟩ := bnd hm
      refine ⟨F427, p_pool, vs375, r371.2, v117, (r76.1, a114), r466, rfl, g438.fh, m439.fr, m439.hp, (Al.mono al377 (Sub.trans d386.ff (Sub.trans d398.ff sb429))), (Rp.mono (eP2 eI eI) (Sub.trans d127.ff (Sub.trans d138.ff (Sub.trans sb194 (Sub.trans sb206 (Sub.trans sb257 (Sub.trans sb269 (Sub.trans d288.ff (Sub.trans sb310 (Sub.trans d325.ff (Sub.trans d337.ff (Sub.trans d349.ff (Sub.trans d362.ff (Sub.trans d374.ff (Sub.trans d386.ff (Sub.trans d398.ff sb429))))))))))))))) r121), hr466, fun v473 F467 H468 vs470 d469 hp471 al472 r474 => ?_⟩
      have g475 := g438.trans d469 (fun a ha => (List.mem_cons.mp ha).elim (fun e => e ▸ m439.own) (fun ha => absurd ha (by simp)))
      have m476 := m439.back d469 hp471
      have m477 := m440.call d469 (nin1 (Ne.symm ne281))
      obtain ⟨er474, lr474⟩ : v473 = V.str (S r466.1) ∧ r466.1.length ≤ sizeLine := r474
      subst er474
      refine n_cons ?_
      refine n_op ?_
      refine n_var rfl ?_
      refine n_op ?_
      refine n_var rfl ?_
      refine n_var rfl ?_
      obtain ⟨a478, ha478, hm⟩ := bnd hm
      refine v_mod ha478 ?_
      obtain ⟨a479, ha479, hm⟩ := bnd hm
      refine v_ixL (SqL.of (g475.fh _ _ ((Sub.trans d288.ff (Sub.trans sb310 (Sub.trans d325.ff (Sub.trans d337.ff (Sub.trans d349.ff (Sub.trans d362.ff (Sub.trans d374.ff (Sub.trans d386.ff (Sub.trans d398.ff (Sub.trans sb429 d469.ff)))))))))) _ _ q267))) (Al.mono al271 (Sub.trans d288.ff (Sub.trans sb310 (Sub.trans d325.ff (Sub.trans d337.ff (Sub.trans d349.ff (Sub.trans d362.ff (Sub.trans d374.ff (Sub.trans d386.ff (Sub.trans d398.ff (Sub.trans sb429 d469.ff))))))))))) ha479 fun v480 r481 => ?_
      obtain ⟨er481, lr481⟩ : v480 = V.str (S a479) ∧ a479.length ≤ sizeLine := r481
      subst er481
      refine n_nil ?_
      refine v_mkLF (t := eS) (xs := [r466.1, a479]) g475.fh (.cons ⟨rfl, lr474⟩ (.cons ⟨rfl, lr481⟩ .nil)) rfl fun p482 F483 H484 d485 q486 al487 => ?_
      have g488 := g475.trans0 d485
      have m489 := m476.call0 d485
      have m490 := m477.call0 d485
      refine n_cb ?_
      refine n_cons ?_
      refine n_op ?_
      refine n_var rfl ?_
      refine n_c ?_
      refine v_eqI ?_
      refine n_nil ?_
      refine v_intB ?_
      obtain ⟨a491, ha491, hm⟩ := bnd hm
      refine v_ixL (SqL.of (g488.fh _ _ q486)) al487 ha491 fun v492 r493 => ?_
      obtain ⟨er493, lr493⟩ : v492 = V.str (S a491) ∧ a491.length ≤ sizeLine := r493
      subst er493
      obtain ⟨t494, ht494, hm⟩ := bnd hm
      refine v_catS ht494 ?_
      refine n_name (setS (setS (setS (setS (setS (setS (setS (setS (setS set0))))))))) ?_
      obtain rfl := Option.some.inj hm
      exact hN307 _ _ ⟨_, _, _, _, _, vs470, vs437, rfl, g488, (Sub.trans sb310 (Sub.trans d325.ff (Sub.trans d337.ff (Sub.trans d349.ff (Sub.trans d362.ff (Sub.trans d374.ff (Sub.trans d386.ff (Sub.trans d398.ff (Sub.trans sb429 (Sub.trans d469.ff d485.ff)))))))))), (catM_le ht494), m489, (Al.mono al472 d485.ff), m490, (Al.mono al436 (Sub.trans d469.ff d485.ff))⟩
    rintro _ H495 ⟨F496, o499, o500, o501, o502, vs503, vs504, rfl, g497, sb498, l505, m506, al507, m508, al509⟩
    refine n_ret ?_
    refine n_tup ?_
    refine n_cons ?_
    refine n_cb ?_
    refine n_cons ?_
    refine n_var rfl ?_
    refine n_nil ?_
    refine v_tuple g497.fh m508.l al509 fun p510 F511 H512 d513 q514 al515 => ?_
    have g516 := g497.trans0 d513
    have m517 := m506.call0 d513
    have m518 := m508.call0 d513
    refine n_cons ?_
    refine n_var rfl ?_
    refine n_nil ?_
    refine v_mk2 g516.fh (show (eT eI).r F511 (.ref p510) s298.2.2 from (⟨p510, vs504, rfl, q514, al515⟩ : (eT eI).r F511 (.ref p510) s298.2.2)) (show eS.r F511 (.str (S s298.1)) s298.1 from ⟨rfl, l505⟩) fun v519 F520 H521 d522 r523 => ?_
    have g524 := g516.trans0 d522
    have m525 := m517.call0 d522
    have m526 := m518.call0 d522
    obtain rfl := Option.some.inj hm
    exact hk _ _ _ _ g524 m525.hp (Al.mono al507 (Sub.trans d513.ff d522.ff)) r523

def m__law_word (x_tree : (List Int × Sg)) (x_place : Int) : Option Sg :=
  (whileO 1000000 (([] : Sg), x_place) (fun s2 =>
  some (decide ((0 : Int) ≤ s2.2))) (fun s11 =>
  (atI x_tree.2 s11.2).bind fun c24 =>
  (catM s11.1 [c24]).bind fun t25 =>
  (atI x_tree.1 s11.2).bind fun a30 =>
  some (t25, a30))).bind fun s1 =>
  some s1.1
def sp__law_word (K : PySem.W.Frag) : Sp := fun vs H Q _ => ∃ (F : Hp) (v_tree : V) (x_tree : (List Int × Sg)) (v_place : V) (x_place : Int) (r : Sg), vs = [v_tree, v_place] ∧ Sub F H ∧ (eP2 (eT eI) eS).r F v_tree x_tree ∧ eI.r F v_place x_place ∧ m__law_word x_tree x_place = some r ∧ ∀ (v : V) (F' H' : Hp) , Gr [] F H F' H' → eS.r F' v r → Q v H'
theorem sc__law_word : FnScope ["tree", "place", "found"] ["tree", "place"] (defScope s__law_word) := ⟨rfl, rfl, rfl, by decide +kernel, rfl, by decide +kernel, by decide +kernel⟩
theorem ok__law_word {f : Addr} {fd : FuncData} (F : FnP K "_law_word" s__law_word f fd)  : FnG P w K mg base CX0 1 f fd ["tree", "place"] (sp__law_word K) := by
  refine FnDok F sc__law_word (fun vs H Q E h => ?_) (fun cdv A outer s H0 vs Q E gd hr h => ?_)
  · obtain ⟨_, _, _, _, _, _, rfl, _⟩ := h
    rfl
  · obtain ⟨F0, v_tree, x_tree, v_place, x_place, r0, rfl, hs0, r_tree, r_place, hm, hk⟩ := h
    have g0 : Gr [] F0 H0 F0 H0 := Gr.refl hs0
    have er_place : v_place = V.int x_place := r_place
    subst er_place
    refine ⟨_, PSs.nox (pss_cons (ps_set (i := 2) sc__law_word.nd rfl (by first | exact Or.inl rfl | exact Or.inr rfl) pe_str)
(pss_cons (ps_while PassesOwn.never (pt_cmpR op_ge (pv 1) pe_int (nomark _)) (pss_cons (ps_set (i := 2) sc__law_word.nd rfl (by first | exact Or.inl rfl | exact Or.inr rfl) (pe_op c_catS (pv 2) (pe_ix ix_str (pe_ix (c_ixT (K := K) rfl) (pv 0) pe_int (fun _ _ => rfl)) (pv 1) (fun _ _ => rfl))))
(pss_one (ps_set (i := 1) sc__law_word.nd rfl (by first | exact Or.inl rfl | exact Or.inr rfl) (pe_ix (c_ixT (K := K) rfl) (pe_ix (c_ixT (K := K) rfl) (pv 0) pe_int (fun _ _ => rfl)) (pv 1) (fun _ _ => rfl))))))
(pss_one (ps_ret (pv 2))))), ?_⟩
    refine n_seq ?_
    refine n_asg ?_
    refine n_str (s := []) (by decide +kernel) ?_
    refine n_name (setS (setS set0)) ?_
    refine n_seq ?_
    obtain ⟨s1, hs1, hm⟩ := bnd hm
    refine while_o hs1 (fun (s7 : Sg × Int) σ7 H7 => ∃ (F7 : Hp), σ7 = [some v_tree, some (.int s7.2), some (.str (S s7.1))] ∧ Gr [] F0 H0 F7 H7 ∧ Sub F0 F7 ∧ s7.1.length ≤ sizeLine) ⟨_, rfl, g0, Sub.refl _, (sz_ok (n := 0) rfl)⟩ ?_ ?_ ?_
    · rintro s2 b3 _ H4 ⟨F7, rfl, g8, sb9, l10⟩ hm P5 hP6
      refine n_test ?_
      refine n_op ?_
      refine n_var rfl ?_
      refine n_c ?_
      refine v_i2 ?_
      refine v_bl ?_
      obtain rfl := Option.some.inj hm
      exact hP6 _ ⟨_, rfl, g8, sb9, l10⟩
    · rintro s11 s12 _ H13 ⟨F16, rfl, g17, sb18, l19⟩ _ hm N14 hN15
      refine n_seq ?_
      refine n_asg ?_
      refine n_op ?_
      refine n_var rfl ?_
      refine n_op ?_
      refine n_op ?_
      refine n_var rfl ?_
      refine n_c ?_
      refine v_ix21 g17.fh (Rp.mono (eP2 (eT eI) eS) sb18 r_tree) fun v22 r23 => ?_
      obtain ⟨er23, lr23⟩ : v22 = V.str (S x_tree.2) ∧ x_tree.2.length ≤ sizeLine := r23
      subst er23
      refine n_var rfl ?_
      obtain ⟨c24, hc24, hm⟩ := bnd hm
      refine v_ixS lr23 hc24 ?_
      obtain ⟨t25, ht25, hm⟩ := bnd hm
      refine v_catS ht25 ?_
      refine n_name (setS (setS set0)) ?_
      refine n_asg ?_
      refine n_op ?_
      refine n_op ?_
      refine n_var rfl ?_
      refine n_c ?_
      refine v_ix20 g17.fh (Rp.mono (eP2 (eT eI) eS) sb18 r_tree) fun v28 r29 => ?_
      refine n_var rfl ?_
      obtain ⟨a30, ha30, hm⟩ := bnd hm
      obtain ⟨p31, vs32, ep31, q33, al34⟩ := r29
      subst ep31
      refine v_ixT (SqT.of (g17.fh _ _ q33)) al34 ha30 fun v35 r36 => ?_
      have er36 : v35 = V.int a30 := r36
      subst er36
      refine n_name (setS set0) ?_
      obtain rfl := Option.some.inj hm
      exact hN15 _ _ ⟨_, rfl, g17, sb18, (catM_le ht25)⟩
    rintro _ H37 ⟨F38, rfl, g39, sb40, l41⟩ _
    refine n_ret ?_
    refine n_var rfl ?_
    obtain rfl := Option.some.inj hm
    exact hk _ _ _  g39   ⟨rfl, l41⟩

def m__law_reads (x_tree : (List Int × Sg)) : Option (List (Sg × List Int)) :=
  (uptoM 0 (x_tree.2.length : Int)).bind fun l13 =>
  (foldO l13 ([] : List (Sg × List Int)) fun s16 a15 =>
  (m__law_word x_tree a15).bind fun r33 =>
  (uptoM (1 : Int) ((r33.length : Int) + (1 : Int))).bind fun l41 =>
  (foldO l41 s16 fun s44 a43 =>
  (catLM (getD2 s44 (cutL r33 none (some a43)) ([] : List Int)) [a15]).bind fun l77 =>
  (dputM s44 (cutL r33 none (some a43)) l77).bind fun l91 =>
  some l91).bind fun s42 =>
  some s42).bind fun s14 =>
  some s14
def sp__law_reads (K : PySem.W.Frag) : Sp := fun vs H Q _ => ∃ (F : Hp) (v_tree : V) (x_tree : (List Int × Sg)) (r : List (Sg × List Int)), vs = [v_tree] ∧ Sub F H ∧ (eP2 (eT eI) eS).r F v_tree x_tree ∧ m__law_reads x_tree = some r ∧ ∀ (v : V) (F' H' : Hp) , Gr [] F H F' H' → NewD (dyK keS) (eL eI) H F' H' v r → Q v H'
theorem sc__law_reads : FnScope ["tree", "found", "place", "word", "length"] ["tree"] (defScope s__law_reads) := ⟨rfl, rfl, rfl, by decide +kernel, rfl, by decide +kernel, by decide +kernel⟩
theorem ok__law_reads {f : Addr} {fd : FuncData} (F : FnP K "_law_reads" s__law_reads f fd) (H__law_word : HasG P w K mg base "_law_word" ["tree", "place"] 1 (sp__law_word K)) (b_range : mg "range" = none) (b_len : mg "len" = none) : FnG P w K mg base CX0 2 f fd ["tree"] (sp__law_reads K) := by
  obtain ⟨f__law_word, fd__law_word, G0__law_word, g__law_word, k__law_word, b__law_word⟩ := H__law_word
  have G__law_word := G0__law_word.mono (show 1 ≤ 1 by decide)
  refine FnDok F sc__law_reads (fun vs H Q E h => ?_) (fun cdv A outer s H0 vs Q E gd hr h => ?_)
  · obtain ⟨_, _, _, _, rfl, _⟩ := h
    rfl
  · obtain ⟨F0, v_tree, x_tree, r0, rfl, hs0, r_tree, hm, hk⟩ := h
    have g0 : Gr [] F0 H0 F0 H0 := Gr.refl hs0
    refine ⟨_, PSs.nox (pss_cons (ps_set (i := 1) sc__law_reads.nd rfl (by first | exact Or.inl rfl | exact Or.inr rfl) pe_dnewK)
(pss_cons (ps_for PassesOwn.never rfl (pi_range1 (by rfl) b_range (pa_cons (pe_callB c_lenS (by rfl) b_len bo_len (pa_cons (pe_ix (c_ixT (K := K) rfl) (pv 0) pe_int (fun _ _ => rfl)) pa_nil)) pa_nil)) (pg_name (i := 2) sc__law_reads.nd rfl (by first | exact Or.inl rfl | exact Or.inr rfl)) (pss_cons (ps_set (i := 3) sc__law_reads.nd rfl (by first | exact Or.inl rfl | exact Or.inr rfl) (pe_callG G__law_word gd hr (by rfl) g__law_word k__law_word b__law_word pass0 (pa_cons (pv 0) (pa_cons (pv 2) pa_nil))))
(pss_one (ps_for PassesOwn.never rfl (pi_range2 (by rfl) b_range (pa_cons pe_int (pa_cons (pe_op op_add (pe_callB c_lenS (by rfl) b_len bo_len (pa_cons (pv 3) pa_nil)) pe_int) pa_nil))) (pg_name (i := 4) sc__law_reads.nd rfl (by first | exact Or.inl rfl | exact Or.inr rfl)) (pss_one (ps_dput (un1 hr) (pv 1) (pe_slice sl_str (pv 3) po_none (po_some (pv 4))) (pe_op op_cat (pe_dget2 (un1 hr) (pv 1) (pe_slice sl_str (pv 3) po_none (po_some (pv 4))) (pe_lst pa_nil) ⟨by rfl, by rfl, by rfl, by rfl⟩) (pe_lst (pa_cons (pv 2) pa_nil))) (by rfl)))))))
(pss_one (ps_ret (pv 1))))), ?_⟩
    refine n_seq ?_
    refine n_asg ?_
    refine n_dnewK ?_
    refine v_dnew (Y := (dyK keS)) g0.fh fun p1 H2 np3 d4 fp5 hp6 => ?_
    have al7 : Pr (dyK keS) (eL eI) F0 [] [] := .nil
    have go8 := g0.old np3
    have g9 := g0.trans0 d4
    have m10 : Mu [] H0 F0 H2 p1 ((dyK keS).ho []) := ⟨fp5, hp6, .inl go8⟩
    refine n_name (setS set0) ?_
    refine n_seq ?_
    refine n_for ?_
    refine n_rng1 ?_
    refine n_cons ?_
    refine n_cb ?_
    refine n_cons ?_
    refine n_op ?_
    refine n_var rfl ?_
    refine n_c ?_
    refine v_ix21 g9.fh r_tree fun v11 r12 => ?_
    obtain ⟨er12, lr12⟩ : v11 = V.str (S x_tree.2) ∧ x_tree.2.length ≤ sizeLine := r12
    subst er12
    refine n_nil ?_
    refine v_lenS lr12 ?_
    refine n_nil ?_
    obtain ⟨l13, hl13, hm⟩ := bnd hm
    refine v_rng1 hl13 ?_
    obtain ⟨s14, hs14, hm⟩ := bnd hm
    refine for_o (sr_R1 hl13) hs14 (fun (s7 : List (Sg × List Int)) σ7 H7 => ∃ (F7 : Hp) (o_place : Option V) (o_word : Option V) (o_length : Option V) (us_found : List ((dyK keS).κ × V)), σ7 = [some v_tree, some (.ref p1), o_place, o_word, o_length] ∧ Gr [] F0 H0 F7 H7 ∧ Sub F0 F7 ∧ Mu [] H0 F7 H7 p1 ((dyK keS).ho us_found) ∧ Pr (dyK keS) (eL eI) F7 us_found s7) ⟨_, _, _, _, [], rfl, g9, Sub.refl _, m10, al7⟩ ?_ ?_ ?_
    · intros; exact trivial
    · rintro a15 s16 s17 x18 _ H19 H20 ⟨F24, o27, o28, o29, vs30, rfl, g25, sb26, m31, al32⟩ hY21 hm N22 hN23
      refine v_nmR hY21 ?_
      refine n_name (setS (setS set0)) ?_
      refine n_seq ?_
      refine n_asg ?_
      refine n_call ?_
      refine n_cons ?_
      refine n_var rfl ?_
      refine n_cons ?_
      refine n_var rfl ?_
      refine n_nil ?_
      obtain ⟨r33, hr33, hm⟩ := bnd hm
      refine ⟨F24, v_tree, x_tree, .int a15, a15, r33, rfl, g25.fh, (Rp.mono (eP2 (eT eI) eS) sb26 r_tree), rfl, hr33, fun v37 F34 H35 d36 r38 => ?_⟩
      have g39 := g25.trans0 d36
      have m40 := m31.call0 d36
      obtain ⟨er38, lr38⟩ : v37 = V.str (S r33) ∧ r33.length ≤ sizeLine := r38
      subst er38
      refine n_name (setS (setS (setS set0))) ?_
      refine n_for ?_
      refine n_rng2 ?_
      refine n_cons ?_
      refine n_c ?_
      refine n_cons ?_
      refine n_op ?_
      refine n_cb ?_
      refine n_cons ?_
      refine n_var rfl ?_
      refine n_nil ?_
      refine v_lenS lr38 ?_
      refine n_c ?_
      refine v_i2 ?_
      refine n_nil ?_
      obtain ⟨l41, hl41, hm⟩ := bnd hm
      refine v_rng2 hl41 ?_
      obtain ⟨s42, hs42, hm⟩ := bnd hm
      refine for_o (sr_R2 hl41) hs42 (fun (s7 : List (Sg × List Int)) σ7 H7 => ∃ (F7 : Hp) (o_length : Option V) (us_found : List ((dyK keS).κ × V)), σ7 = [some v_tree, some (.ref p1), some (.int a15), some (.str (S r33)), o_length] ∧ Gr [] F0 H0 F7 H7 ∧ Sub F34 F7 ∧ Mu [] H0 F7 H7 p1 ((dyK keS).ho us_found) ∧ Pr (dyK keS) (eL eI) F7 us_found s7) ⟨_, _, vs30, rfl, g39, Sub.refl _, m40, (Pr.mono al32 d36.ff)⟩ ?_ ?_ ?_
      · intros; exact trivial
      · rintro a43 s44 s45 x46 _ H47 H48 ⟨F52, o55, vs56, rfl, g53, sb54, m57, al58⟩ hY49 hm N50 hN51
        refine v_nmR hY49 ?_
        refine n_name (setS (setS (setS (setS set0)))) ?_
        refine n_dput ?_
        refine n_op ?_
        refine n_dget2 ?_
        refine n_var rfl ?_
        refine ⟨_, rfl, (dyK keS).isd m57.hp, ?_⟩
        refine n_sl ?_
        refine n_var rfl ?_
        refine n_nopart ?_
        refine n_part ?_
        refine n_var rfl ?_
        refine v_part ?_
        refine v_slS lr38 ?_
        refine n_lst ?_
        refine n_nil ?_
        refine v_mkLF (t := eI) (xs := ([] : List Int)) g53.fh .nil rfl fun p59 F60 H61 d62 q63 al64 => ?_
        have g65 := g53.trans0 d62
        have m66 := m57.call0 d62
        refine v_dget2 (Y := (dyK keS)) g65.fh m66.hp (Pr.mono al58 d62.ff) (show eS.r F60 (.str (S (cutL r33 none (some a43)))) (cutL r33 none (some a43)) from ⟨rfl, (cut_le lr38)⟩) (show (eL eI).r F60 (.ref p59) ([] : List Int) from (⟨p59, [], rfl, q63, al64⟩ : (eL eI).r F60 (.ref p59) ([] : List Int))) fun v67 r68 => ?_
        refine n_lst ?_
        refine n_cons ?_
        refine n_var rfl ?_
        refine n_nil ?_
        refine v_mkLF (t := eI) (xs := [a15]) g65.fh (.cons rfl .nil) rfl fun p69 F70 H71 d72 q73 al74 => ?_
        have g75 := g65.trans0 d72
        have m76 := m66.call0 d72
        obtain ⟨l77, hl77, hm⟩ := bnd hm
        obtain ⟨p78, vs79, ep78, q80, al81⟩ := (Rp.mono (eL eI) d72.ff r68)
        subst ep78
        refine v_catF g75.fh (g75.fh _ _ q80) (g75.fh _ _ q73) al81 al74 hl77 fun p82 vs83 F85 H86 d87 q88 al84 => ?_
        have g89 := g75.trans0 d87
        have m90 := m76.call0 d87
        refine n_var rfl ?_
        refine n_sl ?_
        refine n_var rfl ?_
        refine n_nopart ?_
        refine n_part ?_
        refine n_var rfl ?_
        refine v_part ?_
        refine v_slS lr38 ?_
        obtain ⟨l91, hl91, hm⟩ := bnd hm
        refine v_dput (Y := (dyK keS)) g89.fh m90.hp (Pr.mono al58 (Sub.trans d62.ff (Sub.trans d72.ff d87.ff))) (show eS.r F85 (.str (S (cutL r33 none (some a43)))) (cutL r33 none (some a43)) from ⟨rfl, (cut_le lr38)⟩) hl91 ?_
        obtain ⟨vs93, H94, g95, al92, evs93, eH94⟩ := dput_ok g89 m90 (Pr.mono al58 (Sub.trans d62.ff (Sub.trans d72.ff d87.ff))) hl91 (show (eL eI).r F85 (.ref p82) l77 from (⟨p82, vs83, rfl, q88, al84⟩ : (eL eI).r F85 (.ref p82) l77))
        rw [← evs93, ← eH94]
        have m96 := mu_self m90 eH94
        obtain rfl := Option.some.inj hm
        exact hN51 _ _ ⟨_, _, vs93, rfl, g95, (Sub.trans sb54 (Sub.trans d62.ff (Sub.trans d72.ff d87.ff))), m96, al92⟩
      rintro _ H97 ⟨F98, o101, vs102, rfl, g99, sb100, m103, al104⟩
      obtain rfl := Option.some.inj hm
      exact hN23 _ _ ⟨_, _, _, _, vs102, rfl, g99, (Sub.trans sb26 (Sub.trans d36.ff sb100)), m103, al104⟩
    rintro _ H105 ⟨F106, o109, o110, o111, vs112, rfl, g107, sb108, m113, al114⟩
    refine n_ret ?_
    refine n_var rfl ?_
    obtain rfl := Option.some.inj hm
    exact hk _ _ _  g107   ⟨p1, vs112, rfl, (m113.own.resolve_right (by simp)), m113.fr, m113.hp, al114⟩

def m__law_seek (x_pool : List Int) (x_tree : (List Int × Sg)) : Option (Sg × List Int) :=
  (m__law_take x_pool (7 : Int)).bind fun r2 =>
  (m__law_take r2.2 (x_tree.2.length : Int)).bind fun r15 =>
  (m__law_word x_tree r15.1).bind fun r26 =>
  (m__law_take r15.2 (r26.length : Int)).bind fun r34 =>
  (m__law_take r34.2 (((r26.length : Int) - r34.1) + (1 : Int))).bind fun r45 =>
  (m__law_take r45.2 (26 : Int)).bind fun r56 =>
  (atI ([97, 98, 99, 100, 101, 102, 103, 104, 105, 106, 107, 108, 109, 110, 111, 112, 113, 114, 115, 116, 117, 118, 119, 120, 121, 122] : Sg) r56.1).bind fun c67 =>
  (catM (cutL r26 none (some r34.1)) [c67]).bind fun t68 =>
  (catM t68 (cutL r26 (some (r34.1 + (1 : Int))) none)).bind fun t69 =>
  (catM (cutL r26 none (some r34.1)) [c67]).bind fun t99 =>
  (catM t99 (cutL r26 (some r34.1) none)).bind fun t100 =>
  (repSM [c67] ((r34.1 + r45.1) - r34.1)).bind fun t101 =>
  (catLM [(cutL r26 none (some (r34.1 + r45.1))), r26, (cutL r26 (some r34.1) none), (cutL r26 (some r34.1) (some (r34.1 + r45.1))), t69] [(cutL t100 none (some (60 : Int))), t101]).bind fun l110 =>
  (atI l110 r2.1).bind fun a120 =>
  some (a120, r56.2)
def sp__law_seek (K : PySem.W.Frag) : Sp := fun vs H Q _ => ∃ (F : Hp) (p_pool : Addr) (vs_pool : List V) (x_pool : List Int) (v_tree : V) (x_tree : (List Int × Sg)) (r : (Sg × List Int)), vs = [.ref p_pool, v_tree] ∧ Sub F H ∧ F p_pool = none ∧ H p_pool = some (.lst vs_pool) ∧ Al eI F vs_pool x_pool ∧ (eP2 (eT eI) eS).r F v_tree x_tree ∧ m__law_seek x_pool x_tree = some r ∧ ∀ (v : V) (F' H' : Hp) (us_pool : List V), Gr [p_pool] F H F' H' → H' p_pool = some (.lst us_pool) → Al eI F' us_pool r.2 → eS.r F' v r.1 → Q v H'
theorem sc__law_seek : FnScope ["pool", "tree", "way", "word", "first", "last", "letter", "some"] ["pool", "tree"] (defScope s__law_seek) := ⟨rfl, rfl, rfl, by decide +kernel, rfl, by decide +kernel, by decide +kernel⟩
theorem ok__law_seek {f : Addr} {fd : FuncData} (F : FnP K "_law_seek" s__law_seek f fd) (H__law_take : HasG P w K mg base "_law_take" ["pool", "many"] 2 (sp__law_take K)) (H__law_word : HasG P w K mg base "_law_word" ["tree", "place"] 1 (sp__law_word K)) (b_len : mg "len" = none) : FnG P w K mg base CX0 3 f fd ["pool", "tree"] (sp__law_seek K) := by
  obtain ⟨f__law_take, fd__law_take, G0__law_take, g__law_take, k__law_take, b__law_take⟩ := H__law_take
  have G__law_take := G0__law_take.mono (show 2 ≤ 2 by decide)
  obtain ⟨f__law_word, fd__law_word, G0__law_word, g__law_word, k__law_word, b__law_word⟩ := H__law_word
  have G__law_word := G0__law_word.mono (show 1 ≤ 2 by decide)
  refine FnDok F sc__law_seek (fun vs H Q E h => ?_) (fun cdv A outer s H0 vs Q E gd hr h => ?_)
  · obtain ⟨_, _, _, _, _, _, _, rfl, _⟩ := h
    rfl
  · obtain ⟨F0, p_pool, vs_pool, x_pool, v_tree, x_tree, r0, rfl, hs0, fr_pool, hp_pool, al_pool, r_tree, hm, hk⟩ := h
    have g0 : Gr [p_pool] F0 H0 F0 H0 := Gr.refl hs0
    have m1 : Mu [p_pool] H0 F0 H0 p_pool (.lst vs_pool) := ⟨fr_pool, hp_pool, .inr (by simp)⟩
    refine ⟨_, PSs.nox (pss_cons (ps_set (i := 2) sc__law_seek.nd rfl (by first | exact Or.inl rfl | exact Or.inr rfl) (pe_callG G__law_take gd hr (by rfl) g__law_take k__law_take b__law_take pass0 (pa_cons (pv 0) (pa_cons pe_int pa_nil))))
(pss_cons (ps_set (i := 3) sc__law_seek.nd rfl (by first | exact Or.inl rfl | exact Or.inr rfl) (pe_callG G__law_word gd hr (by rfl) g__law_word k__law_word b__law_word pass0 (pa_cons (pv 1) (pa_cons (pe_callG G__law_take gd hr (by rfl) g__law_take k__law_take b__law_take pass0 (pa_cons (pv 0) (pa_cons (pe_callB c_lenS (by rfl) b_len bo_len (pa_cons (pe_ix (c_ixT (K := K) rfl) (pv 1) pe_int (fun _ _ => rfl)) pa_nil)) pa_nil))) pa_nil))))
(pss_cons (ps_set (i := 4) sc__law_seek.nd rfl (by first | exact Or.inl rfl | exact Or.inr rfl) (pe_callG G__law_take gd hr (by rfl) g__law_take k__law_take b__law_take pass0 (pa_cons (pv 0) (pa_cons (pe_callB c_lenS (by rfl) b_len bo_len (pa_cons (pv 3) pa_nil)) pa_nil))))
(pss_cons (ps_set (i := 5) sc__law_seek.nd rfl (by first | exact Or.inl rfl | exact Or.inr rfl) (pe_op op_add (pv 4) (pe_callG G__law_take gd hr (by rfl) g__law_take k__law_take b__law_take pass0 (pa_cons (pv 0) (pa_cons (pe_op op_add (pe_op op_sub (pe_callB c_lenS (by rfl) b_len bo_len (pa_cons (pv 3) pa_nil)) (pv 4)) pe_int) pa_nil)))))
(pss_cons (ps_set (i := 6) sc__law_seek.nd rfl (by first | exact Or.inl rfl | exact Or.inr rfl) (pe_ix ix_str pe_str (pe_callG G__law_take gd hr (by rfl) g__law_take k__law_take b__law_take pass0 (pa_cons (pv 0) (pa_cons pe_int pa_nil))) (fun _ _ => rfl)))
(pss_cons (ps_set (i := 7) sc__law_seek.nd rfl (by first | exact Or.inl rfl | exact Or.inr rfl) (pe_lst (pa_cons (pe_slice sl_str (pv 3) po_none (po_some (pv 5))) (pa_cons (pv 3) (pa_cons (pe_slice sl_str (pv 3) (po_some (pv 4)) po_none) (pa_cons (pe_slice sl_str (pv 3) (po_some (pv 4)) (po_some (pv 5))) (pa_cons (pe_op c_catS (pe_op c_catS (pe_slice sl_str (pv 3) po_none (po_some (pv 4))) (pv 6)) (pe_slice sl_str (pv 3) (po_some (pe_op op_add (pv 4) pe_int)) po_none)) pa_nil)))))))
(pss_one (ps_ret (pe_ix (c_ixL (K := K) rfl) (pe_op op_cat (pv 7) (pe_lst (pa_cons (pe_slice sl_str (pe_op c_catS (pe_op c_catS (pe_slice sl_str (pv 3) po_none (po_some (pv 4))) (pv 6)) (pe_slice sl_str (pv 3) (po_some (pv 4)) po_none)) po_none (po_some pe_int)) (pa_cons (pe_op c_mulS (pv 6) (pe_op op_sub (pv 5) (pv 4))) pa_nil)))) (pv 2) (fun _ _ => rfl)))))))))), ?_⟩
    refine n_seq ?_
    refine n_asg ?_
    refine n_call ?_
    refine n_cons ?_
    refine n_var rfl ?_
    refine n_cons ?_
    refine n_c ?_
    refine n_nil ?_
    obtain ⟨r2, hr2, hm⟩ := bnd hm
    refine ⟨F0, p_pool, vs_pool, x_pool, .int (7 : Int), (7 : Int), r2, rfl, g0.fh, m1.fr, m1.hp, al_pool, rfl, hr2, fun v9 F3 H4 vs6 d5 hp7 al8 r10 => ?_⟩
    have g11 := g0.trans d5 (fun a ha => (List.mem_cons.mp ha).elim (fun e => e ▸ m1.own) (fun ha => absurd ha (by simp)))
    have m12 := m1.back d5 hp7
    have er10 : v9 = V.int r2.1 := r10
    subst er10
    refine n_name (setS (setS set0)) ?_
    refine n_seq ?_
    refine n_asg ?_
    refine n_call ?_
    refine n_cons ?_
    refine n_var rfl ?_
    refine n_cons ?_
    refine n_call ?_
    refine n_cons ?_
    refine n_var rfl ?_
    refine n_cons ?_
    refine n_cb ?_
    refine n_cons ?_
    refine n_op ?_
    refine n_var rfl ?_
    refine n_c ?_
    refine v_ix21 g11.fh (Rp.mono (eP2 (eT eI) eS) d5.ff r_tree) fun v13 r14 => ?_
    obtain ⟨er14, lr14⟩ : v13 = V.str (S x_tree.2) ∧ x_tree.2.length ≤ sizeLine := r14
    subst er14
    refine n_nil ?_
    refine v_lenS lr14 ?_
    refine n_nil ?_
    obtain ⟨r15, hr15, hm⟩ := bnd hm
    refine ⟨F3, p_pool, vs6, r2.2, .int (x_tree.2.length : Int), (x_tree.2.length : Int), r15, rfl, g11.fh, m12.fr, m12.hp, al8, rfl, hr15, fun v22 F16 H17 vs19 d18 hp20 al21 r23 => ?_⟩
    have g24 := g11.trans d18 (fun a ha => (List.mem_cons.mp ha).elim (fun e => e ▸ m12.own) (fun ha => absurd ha (by simp)))
    have m25 := m12.back d18 hp20
    have er23 : v22 = V.int r15.1 := r23
    subst er23
    refine n_nil ?_
    obtain ⟨r26, hr26, hm⟩ := bnd hm
    refine ⟨F16, v_tree, x_tree, .int r15.1, r15.1, r26, rfl, g24.fh, (Rp.mono (eP2 (eT eI) eS) (Sub.trans d5.ff d18.ff) r_tree), rfl, hr26, fun v30 F27 H28 d29 r31 => ?_⟩
    have g32 := g24.trans0 d29
    have m33 := m25.call0 d29
    obtain ⟨er31, lr31⟩ : v30 = V.str (S r26) ∧ r26.length ≤ sizeLine := r31
    subst er31
    refine n_name (setS (setS (setS set0))) ?_
    refine n_seq ?_
    refine n_asg ?_
    refine n_call ?_
    refine n_cons ?_
    refine n_var rfl ?_
    refine n_cons ?_
    refine n_cb ?_
    refine n_cons ?_
    refine n_var rfl ?_
    refine n_nil ?_
    refine v_lenS lr31 ?_
    refine n_nil ?_
    obtain ⟨r34, hr34, hm⟩ := bnd hm
    refine ⟨F27, p_pool, vs19, r15.2, .int (r26.length : Int), (r26.length : Int), r34, rfl, g32.fh, m33.fr, m33.hp, (Al.mono al21 d29.ff), rfl, hr34, fun v41 F35 H36 vs38 d37 hp39 al40 r42 => ?_⟩
    have g43 := g32.trans d37 (fun a ha => (List.mem_cons.mp ha).elim (fun e => e ▸ m33.own) (fun ha => absurd ha (by simp)))
    have m44 := m33.back d37 hp39
    have er42 : v41 = V.int r34.1 := r42
    subst er42
    refine n_name (setS (setS (setS (setS set0)))) ?_
    refine n_seq ?_
    refine n_asg ?_
    refine n_op ?_
    refine n_var rfl ?_
    refine n_call ?_
    refine n_cons ?_
    refine n_var rfl ?_
    refine n_cons ?_
    refine n_op ?_
    refine n_op ?_
    refine n_cb ?_
    refine n_cons ?_
    refine n_var rfl ?_
    refine n_nil ?_
    refine v_lenS lr31 ?_
    refine n_var rfl ?_
    refine v_i2 ?_
    refine n_c ?_
    refine v_i2 ?_
    refine n_nil ?_
    obtain ⟨r45, hr45, hm⟩ := bnd hm
    refine ⟨F35, p_pool, vs38, r34.2, .int (((r26.length : Int) - r34.1) + (1 : Int)), (((r26.length : Int) - r34.1) + (1 : Int)), r45, rfl, g43.fh, m44.fr, m44.hp, al40, rfl, hr45, fun v52 F46 H47 vs49 d48 hp50 al51 r53 => ?_⟩
    have g54 := g43.trans d48 (fun a ha => (List.mem_cons.mp ha).elim (fun e => e ▸ m44.own) (fun ha => absurd ha (by simp)))
    have m55 := m44.back d48 hp50
    have er53 : v52 = V.int r45.1 := r53
    subst er53
    refine v_i2 ?_
    refine n_name (setS (setS (setS (setS (setS set0))))) ?_
    refine n_seq ?_
    refine n_asg ?_
    refine n_op ?_
    refine n_str (s := [97, 98, 99, 100, 101, 102, 103, 104, 105, 106, 107, 108, 109, 110, 111, 112, 113, 114, 115, 116, 117, 118, 119, 120, 121, 122]) (by decide +kernel) ?_
    refine n_call ?_
    refine n_cons ?_
    refine n_var rfl ?_
    refine n_cons ?_
    refine n_c ?_
    refine n_nil ?_
    obtain ⟨r56, hr56, hm⟩ := bnd hm
    refine ⟨F46, p_pool, vs49, r45.2, .int (26 : Int), (26 : Int), r56, rfl, g54.fh, m55.fr, m55.hp, al51, rfl, hr56, fun v63 F57 H58 vs60 d59 hp61 al62 r64 => ?_⟩
    have g65 := g54.trans d59 (fun a ha => (List.mem_cons.mp ha).elim (fun e => e ▸ m55.own) (fun ha => absurd ha (by simp)))
    have m66 := m55.back d59 hp61
    have er64 : v63 = V.int r56.1 := r64
    subst er64
    obtain ⟨c67, hc67, hm⟩ := bnd hm
    refine v_ixS (sz_ok (n := 26) rfl) hc67 ?_
    refine n_name (setS (setS (setS (setS (setS (setS set0)))))) ?_
    refine n_seq ?_
    refine n_asg ?_
    refine n_lst ?_
    refine n_cons ?_
    refine n_sl ?_
    refine n_var rfl ?_
    refine n_nopart ?_
    refine n_part ?_
    refine n_var rfl ?_
    refine v_part ?_
    refine v_slS lr31 ?_
    refine n_cons ?_
    refine n_var rfl ?_
    refine n_cons ?_
    refine n_sl ?_
    refine n_var rfl ?_
    refine n_part ?_
    refine n_var rfl ?_
    refine v_part ?_
    refine n_nopart ?_
    refine v_slS lr31 ?_
    refine n_cons ?_
    refine n_sl ?_
    refine n_var rfl ?_
    refine n_part ?_
    refine n_var rfl ?_
    refine v_part ?_
    refine n_part ?_
    refine n_var rfl ?_
    refine v_part ?_
    refine v_slS lr31 ?_
    refine n_cons ?_
    refine n_op ?_
    refine n_op ?_
    refine n_sl ?_
    refine n_var rfl ?_
    refine n_nopart ?_
    refine n_part ?_
    refine n_var rfl ?_
    refine v_part ?_
    refine v_slS lr31 ?_
    refine n_var rfl ?_
    obtain ⟨t68, ht68, hm⟩ := bnd hm
    refine v_catS ht68 ?_
    refine n_sl ?_
    refine n_var rfl ?_
    refine n_part ?_
    refine n_op ?_
    refine n_var rfl ?_
    refine n_c ?_
    refine v_i2 ?_
    refine v_part ?_
    refine n_nopart ?_
    refine v_slS lr31 ?_
    obtain ⟨t69, ht69, hm⟩ := bnd hm
    refine v_catS ht69 ?_
    refine n_nil ?_
    refine v_mkLF (t := eS) (xs := [(cutL r26 none (some (r34.1 + r45.1))), r26, (cutL r26 (some r34.1) none), (cutL r26 (some r34.1) (some (r34.1 + r45.1))), t69]) g65.fh (.cons ⟨rfl, (cut_le lr31)⟩ (.cons ⟨rfl, lr31⟩ (.cons ⟨rfl, (cut_le lr31)⟩ (.cons ⟨rfl, (cut_le lr31)⟩ (.cons ⟨rfl, (catM_le ht69)⟩ .nil))))) rfl fun p70 F71 H72 d73 q74 al75 => ?_
    have g76 := g65.trans0 d73
    have m77 := m66.call0 d73
    refine n_name (setS (setS (setS (setS (setS (setS (setS set0))))))) ?_
    refine n_ret ?_
    refine n_op ?_
    refine n_op ?_
    refine n_var rfl ?_
    refine n_lst ?_
    refine n_cons ?_
    refine n_sl ?_
    refine n_op ?_
    refine n_op ?_
    refine n_sl ?_
    refine n_var rfl ?_
    refine n_nopart ?_
    refine n_part ?_
    refine n_var rfl ?_
    refine v_part ?_
    refine v_slS lr31 ?_
    refine n_var rfl ?_
    obtain ⟨t99, ht99, hm⟩ := bnd hm
    refine v_catS ht99 ?_
    refine n_sl ?_
    refine n_var rfl ?_
    refine n_part ?_
    refine n_var rfl ?_
    refine v_part ?_
    refine n_nopart ?_
    refine v_slS lr31 ?_
    obtain ⟨t100, ht100, hm⟩ := bnd hm
    refine v_catS ht100 ?_
    refine n_nopart ?_
    refine n_part ?_
    refine n_c ?_
    refine v_part ?_
    refine v_slS (catM_le ht100) ?_
    refine n_cons ?_
    refine n_op ?_
    refine n_var rfl ?_
    refine n_op ?_
    refine n_var rfl ?_
    refine n_var rfl ?_
    refine v_i2 ?_
    obtain ⟨t101, ht101, hm⟩ := bnd hm
    refine v_mulS ht101 ?_
    refine n_nil ?_
    refine v_mkLF (t := eS) (xs := [(cutL t100 none (some (60 : Int))), t101]) g76.fh (.cons ⟨rfl, (cut_le (catM_le ht100))⟩ (.cons ⟨rfl, (repSM_le ht101)⟩ .nil)) rfl fun p102 F103 H104 d105 q106 al107 => ?_
    have g108 := g76.trans0 d105
    have m109 := m77.call0 d105
    obtain ⟨l110, hl110, hm⟩ := bnd hm
    refine v_catF g108.fh (g108.fh _ _ (d105.ff _ _ q74)) (g108.fh _ _ q106) (Al.mono al75 d105.ff) al107 hl110 fun p111 vs112 F114 H115 d116 q117 al113 => ?_
    have g118 := g108.trans0 d116
    have m119 := m109.call0 d116
    refine n_var rfl ?_
    obtain ⟨a120, ha120, hm⟩ := bnd hm
    refine v_ixL (SqL.of (g118.fh _ _ q117)) al113 ha120 fun v121 r122 => ?_
    obtain ⟨er122, lr122⟩ : v121 = V.str (S a120) ∧ a120.length ≤ sizeLine := r122
    subst er122
    obtain rfl := Option.some.inj hm
    exact hk _ _ _ _ g118 m119.hp (Al.mono al62 (Sub.trans d73.ff (Sub.trans d105.ff d116.ff))) ⟨rfl, lr122⟩

def m__law_same_v0 (x_found : Sg) (x_due : Sg) : Option Bool :=
  some ((decide (true = true)) && (decide (x_found = x_due)))
def sp__law_same_v0 (K : PySem.W.Frag) : Sp := fun vs H Q _ => ∃ (F : Hp) (v_found : V) (x_found : Sg) (v_due : V) (x_due : Sg) (r : Bool), vs = [v_found, v_due] ∧ Sub F H ∧ eS.r F v_found x_found ∧ eS.r F v_due x_due ∧ m__law_same_v0 x_found x_due = some r ∧ ∀ (v : V) (F' H' : Hp) , Gr [] F H F' H' → eB.r F' v r → Q v H'
theorem sc__law_same_v0 : FnScope ["found", "due", "one", "other"] ["found", "due"] (defScope s__law_same) := ⟨rfl, rfl, rfl, by decide +kernel, rfl, by decide +kernel, by decide +kernel⟩
theorem ok__law_same_v0 {f : Addr} {fd : FuncData} (F : FnP K "_law_same" s__law_same f fd) (b_isinstance : mg "isinstance" = none) (b_list : mg "list" = none) (b_tuple : mg "tuple" = none) (b_all : mg "all" = none) (b_len : mg "len" = none) (b_bool : mg "bool" = none) (b_int : mg "int" = none) (b_str : mg "str" = none) (b_zip : mg "zip" = none) : FnG P w K mg base CX0 1 f fd ["found", "due"] (sp__law_same_v0 K) := by
  refine FnDok F sc__law_same_v0 (fun vs H Q E h => ?_) (fun cdv A outer s H0 vs Q E gd hr h => ?_)
  · obtain ⟨_, _, _, _, _, _, rfl, _⟩ := h
    rfl
  · obtain ⟨F0, v_found, x_found, v_due, x_due, r0, rfl, hs0, r_found, r_due, hm, hk⟩ := h
    have g0 : Gr [] F0 H0 F0 H0 := Gr.refl hs0
    obtain ⟨er_found, lr_found⟩ : v_found = V.str (S x_found) ∧ x_found.length ≤ sizeLine := r_found
    subst er_found
    obtain ⟨er_due, lr_due⟩ : v_due = V.str (S x_due) ∧ x_due.length ≤ sizeLine := r_due
    subst er_due
    refine ⟨_, PSs.nox (pss_cons (ps_if (pt_val (pe_callB (c_isiT (K := K) rfl) (by rfl) b_isinstance bo_isinstance (pa_cons (pv 1) (pa_cons (pe_tup (pa_cons (pe_bltn (v := .ty "list") (by rfl) b_list bo_list rfl) (pa_cons (pe_bltn (v := .ty "tuple") (by rfl) b_tuple bo_tuple rfl) pa_nil))) pa_nil)))) ps_no pss_nil)
(pss_cons (ps_if (PW.pt (pw_or (pt_cmpR op_ne (pe_callB (c_isi (K := K) rfl) (by rfl) b_isinstance bo_isinstance (pa_cons (pv 0) (pa_cons (pe_bltn (v := .ty "bool") (by rfl) b_bool bo_bool rfl) pa_nil))) (pe_callB (c_isi (K := K) rfl) (by rfl) b_isinstance bo_isinstance (pa_cons (pv 1) (pa_cons (pe_bltn (v := .ty "bool") (by rfl) b_bool bo_bool rfl) pa_nil))) (nomark _)) (pw_or1 (pt_cmpR op_ne (pe_callB (c_isi (K := K) rfl) (by rfl) b_isinstance bo_isinstance (pa_cons (pv 0) (pa_cons (pe_bltn (v := .ty "int") (by rfl) b_int bo_int rfl) pa_nil))) (pe_callB (c_isi (K := K) rfl) (by rfl) b_isinstance bo_isinstance (pa_cons (pv 1) (pa_cons (pe_bltn (v := .ty "int") (by rfl) b_int bo_int rfl) pa_nil))) (nomark _))))) ps_no pss_nil)
(pss_one (ps_ret (pe_and (pe_cmpR op_eq (pe_callB (c_isi (K := K) rfl) (by rfl) b_isinstance bo_isinstance (pa_cons (pv 0) (pa_cons (pe_bltn (v := .ty "str") (by rfl) b_str bo_str rfl) pa_nil))) (pe_callB (c_isi (K := K) rfl) (by rfl) b_isinstance bo_isinstance (pa_cons (pv 1) (pa_cons (pe_bltn (v := .ty "str") (by rfl) b_str bo_str rfl) pa_nil))) (nomark _)) (pe_one (pe_cmpR op_eq (pv 0) (pv 1) (nomark _)))))))), ?_⟩
    refine n_seq ?_
    refine n_ifs ?_
    refine n_tB ?_
    refine n_cb ?_
    refine n_cons ?_
    refine n_var rfl ?_
    refine n_cons ?_
    refine n_tup ?_
    refine n_cons ?_
    refine n_c ?_
    refine n_cons ?_
    refine n_c ?_
    refine n_nil ?_
    refine v_mkTy g0.fh rfl fun p1 F2 H3 d4 q5 => ?_
    have g6 := g0.trans0 d4
    refine n_nil ?_
    refine v_isiT (b := false) (c := false) (.base (.str _)) (g6.fh _ _ q5) (by decide +kernel) (by decide +kernel) ?_
    refine v_bl ?_
    refine br (fun hb => nomatch (show false = true from hb)) (fun _ => ?_)
    refine n_nextS ?_
    refine n_seq ?_
    refine n_ifs ?_
    refine n_or ?_
    refine n_test ?_
    refine n_op ?_
    refine n_cb ?_
    refine n_cons ?_
    refine n_var rfl ?_
    refine n_cons ?_
    refine n_c ?_
    refine n_nil ?_
    refine v_isi (b := false) (.base (.str _)) (by decide +kernel) ?_
    refine n_cb ?_
    refine n_cons ?_
    refine n_var rfl ?_
    refine n_cons ?_
    refine n_c ?_
    refine n_nil ?_
    refine v_isi (b := false) (.base (.str _)) (by decide +kernel) ?_
    refine v_neB ?_
    refine v_bl ?_
    refine br_orT (b := (!decide (false = false))) (fun hb8 Q7 k7 => ?_) ?_
    · refine n_test ?_
      refine n_op ?_
      refine n_cb ?_
      refine n_cons ?_
      refine n_var rfl ?_
      refine n_cons ?_
      refine n_c ?_
      refine n_nil ?_
      refine v_isi (b := false) (.base (.str _)) (by decide +kernel) ?_
      refine n_cb ?_
      refine n_cons ?_
      refine n_var rfl ?_
      refine n_cons ?_
      refine n_c ?_
      refine n_nil ?_
      refine v_isi (b := false) (.base (.str _)) (by decide +kernel) ?_
      refine v_neB ?_
      refine v_bl ?_
      exact k7
    refine br (fun hb => nomatch (show false = true from hb)) (fun _ => ?_)
    refine n_nextS ?_
    refine n_ret ?_
    refine n_andV ?_
    refine n_op ?_
    refine n_cb ?_
    refine n_cons ?_
    refine n_var rfl ?_
    refine n_cons ?_
    refine n_c ?_
    refine n_nil ?_
    refine v_isi (b := true) (.base (.str _)) (by decide +kernel) ?_
    refine n_cb ?_
    refine n_cons ?_
    refine n_var rfl ?_
    refine n_cons ?_
    refine n_c ?_
    refine n_nil ?_
    refine v_isi (b := true) (.base (.str _)) (by decide +kernel) ?_
    refine v_eqB ?_
    refine v_bl ?_
    refine br_andV (b := (decide (x_found = x_due))) (fun hb10 Q7 k7 => ?_) ?_
    · refine n_op ?_
      refine n_var rfl ?_
      refine n_var rfl ?_
      refine v_eqS ?_
      exact k7
    obtain rfl := Option.some.inj hm
    exact hk _ _ _  g6   rfl

def m__law_same_v1 (x_found : Int) (x_due : Int) : Option Bool :=
  some ((decide (false = false)) && (decide (x_found = x_due)))
def sp__law_same_v1 (K : PySem.W.Frag) : Sp := fun vs H Q _ => ∃ (F : Hp) (v_found : V) (x_found : Int) (v_due : V) (x_due : Int) (r : Bool), vs = [v_found, v_due] ∧ Sub F H ∧ eI.r F v_found x_found ∧ eI.r F v_due x_due ∧ m__law_same_v1 x_found x_due = some r ∧ ∀ (v : V) (F' H' : Hp) , Gr [] F H F' H' → eB.r F' v r → Q v H'
theorem sc__law_same_v1 : FnScope ["found", "due", "one", "other"] ["found", "due"] (defScope s__law_same) := ⟨rfl, rfl, rfl, by decide +kernel, rfl, by decide +kernel, by decide +kernel⟩
theorem ok__law_same_v1 {f : Addr} {fd : FuncData} (F : FnP K "_law_same" s__law_same f fd) (H__law_same_v0 : HasG P w K mg base "_law_same" ["found", "due"] 1 (sp__law_same_v0 K)) (b_isinstance : mg "isinstance" = none) (b_list : mg "list" = none) (b_tuple : mg "tuple" = none) (b_all : mg "all" = none) (b_len : mg "len" = none) (b_bool : mg "bool" = none) (b_int : mg "int" = none) (b_str : mg "str" = none) (b_zip : mg "zip" = none) : FnG P w K mg base CX0 2 f fd ["found", "due"] (sp__law_same_v1 K) := by
  obtain ⟨f__law_same_v0, fd__law_same_v0, G0__law_same_v0, g__law_same_v0, k__law_same_v0, b__law_same_v0⟩ := H__law_same_v0
  have G__law_same_v0 := G0__law_same_v0.mono (show 1 ≤ 1 by decide)
  refine FnDok F sc__law_same_v1 (fun vs H Q E h => ?_) (fun cdv A outer s H0 vs Q E gd hr h => ?_)
  · obtain ⟨_, _, _, _, _, _, rfl, _⟩ := h
    rfl
  · obtain ⟨F0, v_found, x_found, v_due, x_due, r0, rfl, hs0, r_found, r_due, hm, hk⟩ := h
    have g0 : Gr [] F0 H0 F0 H0 := Gr.refl hs0
    have er_found : v_found = V.int x_found := r_found
    subst er_found
    have er_due : v_due = V.int x_due := r_due
    subst er_due
    refine ⟨_, PSs.nox (pss_cons (ps_if (pt_val (pe_callB (c_isiT (K := K) rfl) (by rfl) b_isinstance bo_isinstance (pa_cons (pv 1) (pa_cons (pe_tup (pa_cons (pe_bltn (v := .ty "list") (by rfl) b_list bo_list rfl) (pa_cons (pe_bltn (v := .ty "tuple") (by rfl) b_tuple bo_tuple rfl) pa_nil))) pa_nil)))) ps_no pss_nil)
(pss_cons (ps_if (PW.pt (pw_or (pt_cmpR op_ne (pe_callB (c_isi (K := K) rfl) (by rfl) b_isinstance bo_isinstance (pa_cons (pv 0) (pa_cons (pe_bltn (v := .ty "bool") (by rfl) b_bool bo_bool rfl) pa_nil))) (pe_callB (c_isi (K := K) rfl) (by rfl) b_isinstance bo_isinstance (pa_cons (pv 1) (pa_cons (pe_bltn (v := .ty "bool") (by rfl) b_bool bo_bool rfl) pa_nil))) (nomark _)) (pw_or1 (pt_cmpR op_ne (pe_callB (c_isi (K := K) rfl) (by rfl) b_isinstance bo_isinstance (pa_cons (pv 0) (pa_cons (pe_bltn (v := .ty "int") (by rfl) b_int bo_int rfl) pa_nil))) (pe_callB (c_isi (K := K) rfl) (by rfl) b_isinstance bo_isinstance (pa_cons (pv 1) (pa_cons (pe_bltn (v := .ty "int") (by rfl) b_int bo_int rfl) pa_nil))) (nomark _))))) ps_no pss_nil)
(pss_one (ps_ret (pe_and (pe_cmpR op_eq (pe_callB (c_isi (K := K) rfl) (by rfl) b_isinstance bo_isinstance (pa_cons (pv 0) (pa_cons (pe_bltn (v := .ty "str") (by rfl) b_str bo_str rfl) pa_nil))) (pe_callB (c_isi (K := K) rfl) (by rfl) b_isinstance bo_isinstance (pa_cons (pv 1) (pa_cons (pe_bltn (v := .ty "str") (by rfl) b_str bo_str rfl) pa_nil))) (nomark _)) (pe_one (pe_cmpR op_eq (pv 0) (pv 1) (nomark _)))))))), ?_⟩
    refine n_seq ?_
    refine n_ifs ?_
    refine n_tB ?_
    refine n_cb ?_
    refine n_cons ?_
    refine n_var rfl ?_
    refine n_cons ?_
    refine n_tup ?_
    refine n_cons ?_
    refine n_c ?_
    refine n_cons ?_
    refine n_c ?_
    refine n_nil ?_
    refine v_mkTy g0.fh rfl fun p1 F2 H3 d4 q5 => ?_
    have g6 := g0.trans0 d4
    refine n_nil ?_
    refine v_isiT (b := false) (c := false) (.base (.int _)) (g6.fh _ _ q5) (by decide +kernel) (by decide +kernel) ?_
    refine v_bl ?_
    refine br (fun hb => nomatch (show false = true from hb)) (fun _ => ?_)
    refine n_nextS ?_
    refine n_seq ?_
    refine n_ifs ?_
    refine n_or ?_
    refine n_test ?_
    refine n_op ?_
    refine n_cb ?_
    refine n_cons ?_
    refine n_var rfl ?_
    refine n_cons ?_
    refine n_c ?_
    refine n_nil ?_
    refine v_isi (b := false) (.base (.int _)) (by decide +kernel) ?_
    refine n_cb ?_
    refine n_cons ?_
    refine n_var rfl ?_
    refine n_cons ?_
    refine n_c ?_
    refine n_nil ?_
    refine v_isi (b := false) (.base (.int _)) (by decide +kernel) ?_
    refine v_neB ?_
    refine v_bl ?_
    refine br_orT (b := (!decide (true = true))) (fun hb8 Q7 k7 => ?_) ?_
    · refine n_test ?_
      refine n_op ?_
      refine n_cb ?_
      refine n_cons ?_
      refine n_var rfl ?_
      refine n_cons ?_
      refine n_c ?_
      refine n_nil ?_
      refine v_isi (b := true) (.base (.int _)) (by decide +kernel) ?_
      refine n_cb ?_
      refine n_cons ?_
      refine n_var rfl ?_
      refine n_cons ?_
      refine n_c ?_
      refine n_nil ?_
      refine v_isi (b := true) (.base (.int _)) (by decide +kernel) ?_
      refine v_neB ?_
      refine v_bl ?_
      exact k7
    refine br (fun hb => nomatch (show false = true from hb)) (fun _ => ?_)
    refine n_nextS ?_
    refine n_ret ?_
    refine n_andV ?_
    refine n_op ?_
    refine n_cb ?_
    refine n_cons ?_
    refine n_var rfl ?_
    refine n_cons ?_
    refine n_c ?_
    refine n_nil ?_
    refine v_isi (b := false) (.base (.int _)) (by decide +kernel) ?_
    refine n_cb ?_
    refine n_cons ?_
    refine n_var rfl ?_
    refine n_cons ?_
    refine n_c ?_
    refine n_nil ?_
    refine v_isi (b := false) (.base (.int _)) (by decide +kernel) ?_
    refine v_eqB ?_
    refine v_bl ?_
    refine br_andV (b := (decide (x_found = x_due))) (fun hb10 Q7 k7 => ?_) ?_
    · refine n_op ?_
      refine n_var rfl ?_
      refine n_var rfl ?_
      refine v_eqI ?_
      exact k7
    obtain rfl := Option.some.inj hm
    exact hk _ _ _  g6   rfl

abbrev sp__law_same_o01 (K : PySem.W.Frag) : Sp := spOr (sp__law_same_v0 K) (sp__law_same_v1 K)
def m__law_same_v2 (x_found : (Sg × Int)) (x_due : (Sg × Int)) : Option Bool :=
  if (!decide ((2 : Int) = (2 : Int))) = true then
  some false
  else
  (need (szB (List.zip ([.inl x_found.1, .inr x_found.2] : List (Sg ⊕ Int)) ([.inl x_due.1, .inr x_due.2] : List (Sg ⊕ Int))).length) ()).bind fun u27 =>
  (compS (List.zip ([.inl x_found.1, .inr x_found.2] : List (Sg ⊕ Int)) ([.inl x_due.1, .inr x_due.2] : List (Sg ⊕ Int))) fun a29 =>
  (orM m__law_same_v0 m__law_same_v1 a29.1 a29.2).bind fun r55 =>
  some (some r55)).bind fun q28 =>
  some (q28.all id)
def sp__law_same_v2 (K : PySem.W.Frag) : Sp := fun vs H Q _ => ∃ (F : Hp) (v_found : V) (x_found : (Sg × Int)) (v_due : V) (x_due : (Sg × Int)) (r : Bool), vs = [v_found, v_due] ∧ Sub F H ∧ (eP2 eS eI).r F v_found x_found ∧ (eP2 eS eI).r F v_due x_due ∧ m__law_same_v2 x_found x_due = some r ∧ ∀ (v : V) (F' H' : Hp) , Gr [] F H F' H' → eB.r F' v r → Q v H'
theorem sc__law_same_v2 : FnScope ["found", "due", "one", "other"] ["found", "due"] (defScope s__law_same) := ⟨rfl, rfl, rfl, by decide +kernel, rfl, by decide +kernel, by decide +kernel⟩
theorem ok__law_same_v2 {f : Addr} {fd : FuncData} (F : FnP K "_law_same" s__law_same f fd) (H__law_same_v0 : HasG P w K mg base "_law_same" ["found", "due"] 1 (sp__law_same_v0 K)) (H__law_same_v1 : HasG P w K mg base "_law_same" ["found", "due"] 2 (sp__law_same_v1 K)) (H__law_same_o01 : HasG P w K mg base "_law_same" ["found", "due"] 3 (sp__law_same_o01 K)) (b_isinstance : mg "isinstance" = none) (b_list : mg "list" = none) (b_tuple : mg "tuple" = none) (b_all : mg "all" = none) (b_len : mg "len" = none) (b_bool : mg "bool" = none) (b_int : mg "int" = none) (b_str : mg "str" = none) (b_zip : mg "zip" = none) : FnG P w K mg base CX0 4 f fd ["found", "due"] (sp__law_same_v2 K) := by
  obtain ⟨f__law_same_v0, fd__law_same_v0, G0__law_same_v0, g__law_same_v0, k__law_same_v0, b__law_same_v0⟩ := H__law_same_v0
  have G__law_same_v0 := G0__law_same_v0.mono (show 1 ≤ 3 by decide)
  obtain ⟨f__law_same_v1, fd__law_same_v1, G0__law_same_v1, g__law_same_v1, k__law_same_v1, b__law_same_v1⟩ := H__law_same_v1
  have G__law_same_v1 := G0__law_same_v1.mono (show 2 ≤ 3 by decide)
  obtain ⟨f__law_same_o01, fd__law_same_o01, G0__law_same_o01, g__law_same_o01, k__law_same_o01, b__law_same_o01⟩ := H__law_same_o01
  have G__law_same_o01 := G0__law_same_o01.mono (show 3 ≤ 3 by decide)
  refine FnDok F sc__law_same_v2 (fun vs H Q E h => ?_) (fun cdv A outer s H0 vs Q E gd hr h => ?_)
  · obtain ⟨_, _, _, _, _, _, rfl, _⟩ := h
    rfl
  · obtain ⟨F0, v_found, x_found, v_due, x_due, r0, rfl, hs0, r_found, r_due, hm, hk⟩ := h
    have g0 : Gr [] F0 H0 F0 H0 := Gr.refl hs0
    refine ⟨_, PSs.nox (pss_cons (ps_if (pt_val (pe_callB (c_isiT (K := K) rfl) (by rfl) b_isinstance bo_isinstance (pa_cons (pv 1) (pa_cons (pe_tup (pa_cons (pe_bltn (v := .ty "list") (by rfl) b_list bo_list rfl) (pa_cons (pe_bltn (v := .ty "tuple") (by rfl) b_tuple bo_tuple rfl) pa_nil))) pa_nil)))) (pss_cons (ps_if (PW.pt (pw_or (pt_not (pt_val (pe_callB (c_isiT (K := K) rfl) (by rfl) b_isinstance bo_isinstance (pa_cons (pv 0) (pa_cons (pe_tup (pa_cons (pe_bltn (v := .ty "list") (by rfl) b_list bo_list rfl) (pa_cons (pe_bltn (v := .ty "tuple") (by rfl) b_tuple bo_tuple rfl) pa_nil))) pa_nil))))) (pw_or1 (pt_cmpR op_ne (pe_callB (c_isi (K := K) rfl) (by rfl) b_isinstance bo_isinstance (pa_cons (pv 0) (pa_cons (pe_bltn (v := .ty "list") (by rfl) b_list bo_list rfl) pa_nil))) (pe_callB (c_isi (K := K) rfl) (by rfl) b_isinstance bo_isinstance (pa_cons (pv 1) (pa_cons (pe_bltn (v := .ty "list") (by rfl) b_list bo_list rfl) pa_nil))) (nomark _))))) ps_no pss_nil)
(pss_cons (ps_if (pt_cmpR op_ne (pe_callB (c_len (K := K) rfl) (by rfl) b_len bo_len (pa_cons (pv 0) pa_nil)) (pe_callB (c_len (K := K) rfl) (by rfl) b_len bo_len (pa_cons (pv 1) pa_nil)) (nomark _)) (pss_one (ps_ret pe_bl)) pss_nil)
(pss_one (ps_ret (pe_callB (c_all (K := K) rfl (by rfl)) (by rfl) b_all bo_all (pa_cons (pe_lc (own := [("one", 2), ("other", 3)]) (g := gTup K 2 (gCons (gName 2) (gCons (gName 3) gNil))) (by rfl) sc__law_same_v2.nd (pi_zp (K := K) rfl (by rfl) b_zip (pa_cons (pv 0) (pa_cons (pv 1) pa_nil))) (blkOk_by (own := [("one", 2), ("other", 3)]) (N := ["found", "due", "one", "other"]) (sc := defScope s__law_same) (by decide +kernel)) (fun _ _ _ _ _ => (c_pgtup (K := K) rfl (by rfl) (pgs_cons (pg_name (i := 2) sc__law_same_v2.nd rfl (Or.inl rfl)) (pgs_cons (pg_name (i := 3) sc__law_same_v2.nd rfl (Or.inl rfl)) pgs_nil)))) (fun _ _ _ _ _ => pts_nil) (fun _ _ _ _ _ => (pe_callG G__law_same_o01 gd hr (by rfl) g__law_same_o01 k__law_same_o01 b__law_same_o01 pass0 (pa_cons (pv 2) (pa_cons (pv 3) pa_nil))))) pa_nil)))))) ps_no)
(pss_cons (ps_if (PW.pt (pw_or (pt_cmpR op_ne (pe_callB (c_isi (K := K) rfl) (by rfl) b_isinstance bo_isinstance (pa_cons (pv 0) (pa_cons (pe_bltn (v := .ty "bool") (by rfl) b_bool bo_bool rfl) pa_nil))) (pe_callB (c_isi (K := K) rfl) (by rfl) b_isinstance bo_isinstance (pa_cons (pv 1) (pa_cons (pe_bltn (v := .ty "bool") (by rfl) b_bool bo_bool rfl) pa_nil))) (nomark _)) (pw_or1 (pt_cmpR op_ne (pe_callB (c_isi (K := K) rfl) (by rfl) b_isinstance bo_isinstance (pa_cons (pv 0) (pa_cons (pe_bltn (v := .ty "int") (by rfl) b_int bo_int rfl) pa_nil))) (pe_callB (c_isi (K := K) rfl) (by rfl) b_isinstance bo_isinstance (pa_cons (pv 1) (pa_cons (pe_bltn (v := .ty "int") (by rfl) b_int bo_int rfl) pa_nil))) (nomark _))))) ps_no pss_nil)
(pss_one (ps_ret (pe_and (pe_cmpR op_eq (pe_callB (c_isi (K := K) rfl) (by rfl) b_isinstance bo_isinstance (pa_cons (pv 0) (pa_cons (pe_bltn (v := .ty "str") (by rfl) b_str bo_str rfl) pa_nil))) (pe_callB (c_isi (K := K) rfl) (by rfl) b_isinstance bo_isinstance (pa_cons (pv 1) (pa_cons (pe_bltn (v := .ty "str") (by rfl) b_str bo_str rfl) pa_nil))) (nomark _)) (pe_one (pe_cmpR op_eq (pv 0) (pv 1) (nomark _)))))))), ?_⟩
    refine n_seq ?_
    refine n_ifs ?_
    refine n_tB ?_
    refine n_cb ?_
    refine n_cons ?_
    refine n_var rfl ?_
    refine n_cons ?_
    refine n_tup ?_
    refine n_cons ?_
    refine n_c ?_
    refine n_cons ?_
    refine n_c ?_
    refine n_nil ?_
    refine v_mkTy g0.fh rfl fun p1 F2 H3 d4 q5 => ?_
    have g6 := g0.trans0 d4
    refine n_nil ?_
    refine v_isiT (b := false) (c := true) (ty_frz g6.fh (Rp.mono (eP2 eS eI) d4.ff r_due)) (g6.fh _ _ q5) (by decide +kernel) (by decide +kernel) ?_
    refine v_bl ?_
    refine br (fun _ => ?_) (fun hb => nomatch (show true = false from hb))
    refine n_seq ?_
    refine n_ifs ?_
    refine n_or ?_
    refine n_not ?_
    refine n_tB ?_
    refine n_cb ?_
    refine n_cons ?_
    refine n_var rfl ?_
    refine n_cons ?_
    refine n_tup ?_
    refine n_cons ?_
    refine n_c ?_
    refine n_cons ?_
    refine n_c ?_
    refine n_nil ?_
    refine v_mkTy g6.fh rfl fun p8 F9 H10 d11 q12 => ?_
    have g13 := g6.trans0 d11
    refine n_nil ?_
    refine v_isiT (b := false) (c := true) (ty_frz g13.fh (Rp.mono (eP2 eS eI) (Sub.trans d4.ff d11.ff) r_found)) (g13.fh _ _ q12) (by decide +kernel) (by decide +kernel) ?_
    refine v_bl ?_
    refine br_orT (b := (!decide (false = false))) (fun hb14 Q7 k7 => ?_) ?_
    · refine n_test ?_
      refine n_op ?_
      refine n_cb ?_
      refine n_cons ?_
      refine n_var rfl ?_
      refine n_cons ?_
      refine n_c ?_
      refine n_nil ?_
      refine v_isi (b := false) (ty_frz g13.fh (Rp.mono (eP2 eS eI) (Sub.trans d4.ff d11.ff) r_found)) (by decide +kernel) ?_
      refine n_cb ?_
      refine n_cons ?_
      refine n_var rfl ?_
      refine n_cons ?_
      refine n_c ?_
      refine n_nil ?_
      refine v_isi (b := false) (ty_frz g13.fh (Rp.mono (eP2 eS eI) (Sub.trans d4.ff d11.ff) r_due)) (by decide +kernel) ?_
      refine v_neB ?_
      refine v_bl ?_
      exact k7
    refine br (fun hb => nomatch (show false = true from hb)) (fun _ => ?_)
    refine n_nextS ?_
    refine n_seq ?_
    refine n_ifs ?_
    refine n_test ?_
    refine n_op ?_
    refine n_cb ?_
    refine n_cons ?_
    refine n_var rfl ?_
    refine n_nil ?_
    refine v_lenP2 g13.fh (Rp.mono (eP2 eS eI) (Sub.trans d4.ff d11.ff) r_found) ?_
    refine n_cb ?_
    refine n_cons ?_
    refine n_var rfl ?_
    refine n_nil ?_
    refine v_lenP2 g13.fh (Rp.mono (eP2 eS eI) (Sub.trans d4.ff d11.ff) r_due) ?_
    refine v_neI ?_
    refine v_bl ?_
    refine br (fun hb16 => ?_) (fun hb16 => ?_)
    · replace hm := ifT hb16 hm
      refine n_ret ?_
      refine n_c ?_
      obtain rfl := Option.some.inj hm
      exact hk _ _ _  g13   rfl
    replace hm := ifF hb16 hm
    refine n_nextS ?_
    refine n_ret ?_
    refine n_cb ?_
    refine n_cons ?_
    refine n_lc ?_
    refine n_zp ?_
    refine n_cons ?_
    refine n_var rfl ?_
    refine n_cons ?_
    refine n_var rfl ?_
    refine n_nil ?_
    obtain ⟨p17, vs18, ep17, q19, al20⟩ := (p2_U (Rp.mono (eP2 eS eI) (Sub.trans d4.ff d11.ff) r_found))
    subst ep17
    obtain ⟨p21, vs22, ep21, q23, al24⟩ := (p2_U (Rp.mono (eP2 eS eI) (Sub.trans d4.ff d11.ff) r_due))
    subst ep21
    refine v_zp (k := (.t p17)) (k' := (.t p21)) (vs := vs18) (ws := vs22) (SqT.of (g13.fh _ _ q19)) (SqT.of (g13.fh _ _ q23)) ?_
    obtain ⟨u27, hu27, hm⟩ := bnd hm
    obtain ⟨q28, hq28, hm⟩ := bnd hm
    intro D25 nD26
    have goD25 := g13.old nD26
    have gg67 := gr_newM (W := []) (o := .lst []) g13.fh nD26
    refine comp_s (sr_Zp (k := (.t p17)) (k' := (.t p21)) al20 al24) hq28 (need_ok hu27).1 (fun (acc7 : List Bool) H7 => ∃ (F7 : Hp) (vs7 : List V), Gr [] F0 H0 F7 H7 ∧ Sub F9 F7 ∧ F7 D25 = none ∧ H7 D25 = some (.lst vs7) ∧ Al eB F7 vs7 acc7) ⟨_, [], g13.trans0 gg67, Sub.refl _, g13.fh.nn nD26, upd_same, .nil⟩ ?_ ?_ ?_
    · rintro _ _ ⟨F40, vs41, g42, sb43, _, _, _⟩
      exact ⟨(SqT.of (g42.fh _ _ (sb43 _ _ q19))), (SqT.of (g42.fh _ _ (sb43 _ _ q23)))⟩
    · rintro a29 r31 acc32 x33 H34 H35 ⟨F40, vs41, g42, sb43, fD44, hD45, al46⟩ hY36 hm hl39 N37 hN38
      have m47 : Mu [] H0 F40 H34 D25 (.lst vs41) := ⟨fD44, hD45, .inl goD25⟩
      refine wipe_to (σ' := [some (.ref p17), some (.ref p21), none, none]) rfl ?_
      refine v_unpZ g42.fh hY36 fun v49 v50 d48 r51 r52 => ?_
      have g53 := g42.trans0 d48
      have m54 := m47.call0 d48
      refine n_gcons ?_
      refine n_name (setS (setS set0)) ?_
      refine n_gcons ?_
      refine n_name (setS (setS (setS set0))) ?_
      refine n_gnil ?_
      refine ⟨rfl, ?_⟩
      refine n_yes ?_ rfl
      refine n_call ?_
      refine n_cons ?_
      refine n_var rfl ?_
      refine n_cons ?_
      refine n_var rfl ?_
      refine n_nil ?_
      obtain ⟨r55, hr55, hm⟩ := bnd hm
      refine sp_ors (T := eB) (F := F40) (r := r55) (fun k7 => ?_) ?_
      · exact orM_ok (show (eU eS eI).r F40 v49 a29.1 from (Rp.mono (eU eS eI) sb43 r51)) (show (eU eS eI).r F40 v50 a29.2 from (Rp.mono (eU eS eI) sb43 r52)) hr55 (fun a7 b7 r7 s7 h7 => .inl ⟨F40, v49, a7, v50, b7, r55, rfl, g53.fh, r7, s7, h7, k7⟩) (fun a7 b7 r7 s7 h7 => .inr ⟨F40, v49, a7, v50, b7, r55, rfl, g53.fh, r7, s7, h7, k7⟩)
      intro v56 F57 H58 d59 r60
      have g61 := g53.trans0 d59
      have m62 := m54.call0 d59
      have er60 : v56 = V.bl r55 := r60
      subst er60
      obtain rfl := Option.some.inj hm
      refine ⟨_, m62.hp, by rw [al_len (Al.mono al46 d59.ff)]; exact hl39, hN38 _ ?_⟩
      exact ⟨_, _, m62.gr g61, (Sub.trans sb43 d59.ff), m62.fr, upd_same, pd_snoc (Al.mono al46 d59.ff) (show eB.r F57 (.bl r55) r55 from rfl)⟩
    rintro H68 ⟨F69, vs70, g71, sb72, fD73, hD74, al75⟩
    have m76 : Mu [] H0 F69 H68 D25 (.lst vs70) := ⟨fD73, hD74, .inl goD25⟩
    obtain ⟨F77, q79, sb81, g80, d78⟩ := freeze g71 m76 (m76.own.resolve_right (by simp))
    have al82 := (Al.mono al75 sb81)
    refine n_nil ?_
    refine v_all (SqL.of (g80.fh _ _ q79)) al82 ?_
    obtain rfl := Option.some.inj hm
    exact hk _ _ _  g80   rfl

def m__law_same_v3 (x_found : List (Sg × Int)) (x_due : List (Sg × Int)) : Option Bool :=
  if (!decide ((x_found.length : Int) = (x_due.length : Int))) = true then
  some false
  else
  (need (szB (List.zip x_found x_due).length) ()).bind fun u27 =>
  (compS (List.zip x_found x_due) fun a29 =>
  (m__law_same_v2 a29.1 a29.2).bind fun r55 =>
  some (some r55)).bind fun q28 =>
  some (q28.all id)
def sp__law_same_v3 (K : PySem.W.Frag) : Sp := fun vs H Q _ => ∃ (F : Hp) (v_found : V) (x_found : List (Sg × Int)) (v_due : V) (x_due : List (Sg × Int)) (r : Bool), vs = [v_found, v_due] ∧ Sub F H ∧ (eL (eP2 eS eI)).r F v_found x_found ∧ (eL (eP2 eS eI)).r F v_due x_due ∧ m__law_same_v3 x_found x_due = some r ∧ ∀ (v : V) (F' H' : Hp) , Gr [] F H F' H' → eB.r F' v r → Q v H'
theorem sc__law_same_v3 : FnScope ["found", "due", "one", "other"] ["found", "due"] (defScope s__law_same) := ⟨rfl, rfl, rfl, by decide +kernel, rfl, by decide +kernel, by decide +kernel⟩
theorem ok__law_same_v3 {f : Addr} {fd : FuncData} (F : FnP K "_law_same" s__law_same f fd) (H__law_same_v0 : HasG P w K mg base "_law_same" ["found", "due"] 1 (sp__law_same_v0 K)) (H__law_same_v1 : HasG P w K mg base "_law_same" ["found", "due"] 2 (sp__law_same_v1 K)) (H__law_same_o01 : HasG P w K mg base "_law_same" ["found", "due"] 3 (sp__law_same_o01 K)) (H__law_same_v2 : HasG P w K mg base "_law_same" ["found", "due"] 4 (sp__law_same_v2 K)) (b_isinstance : mg "isinstance" = none) (b_list : mg "list" = none) (b_tuple : mg "tuple" = none) (b_all : mg "all" = none) (b_len : mg "len" = none) (b_bool : mg "bool" = none) (b_int : mg "int" = none) (b_str : mg "str" = none) (b_zip : mg "zip" = none) : FnG P w K mg base CX0 5 f fd ["found", "due"] (sp__law_same_v3 K) := by
  obtain ⟨f__law_same_v0, fd__law_same_v0, G0__law_same_v0, g__law_same_v0, k__law_same_v0, b__law_same_v0⟩ := H__law_same_v0
  have G__law_same_v0 := G0__law_same_v0.mono (show 1 ≤ 4 by decide)
  obtain ⟨f__law_same_v1, fd__law_same_v1, G0__law_same_v1, g__law_same_v1, k__law_same_v1, b__law_same_v1⟩ := H__law_same_v1
  have G__law_same_v1 := G0__law_same_v1.mono (show 2 ≤ 4 by decide)
  obtain ⟨f__law_same_o01, fd__law_same_o01, G0__law_same_o01, g__law_same_o01, k__law_same_o01, b__law_same_o01⟩ := H__law_same_o01
  have G__law_same_o01 := G0__law_same_o01.mono (show 3 ≤ 4 by decide)
  obtain ⟨f__law_same_v2, fd__law_same_v2, G0__law_same_v2, g__law_same_v2, k__law_same_v2, b__law_same_v2⟩ := H__law_same_v2
  have G__law_same_v2 := G0__law_same_v2.mono (show 4 ≤ 4 by decide)
  refine FnDok F sc__law_same_v3 (fun vs H Q E h => ?_) (fun cdv A outer s H0 vs Q E gd hr h => ?_)
  · obtain ⟨_, _, _, _, _, _, rfl, _⟩ := h
    rfl
  · obtain ⟨F0, v_found, x_found, v_due, x_due, r0, rfl, hs0, r_found, r_due, hm, hk⟩ := h
    have g0 : Gr [] F0 H0 F0 H0 := Gr.refl hs0
    refine ⟨_, PSs.nox (pss_cons (ps_if (pt_val (pe_callB (c_isiT (K := K) rfl) (by rfl) b_isinstance bo_isinstance (pa_cons (pv 1) (pa_cons (pe_tup (pa_cons (pe_bltn (v := .ty "list") (by rfl) b_list bo_list rfl) (pa_cons (pe_bltn (v := .ty "tuple") (by rfl) b_tuple bo_tuple rfl) pa_nil))) pa_nil)))) (pss_cons (ps_if (PW.pt (pw_or (pt_not (pt_val (pe_callB (c_isiT (K := K) rfl) (by rfl) b_isinstance bo_isinstance (pa_cons (pv 0) (pa_cons (pe_tup (pa_cons (pe_bltn (v := .ty "list") (by rfl) b_list bo_list rfl) (pa_cons (pe_bltn (v := .ty "tuple") (by rfl) b_tuple bo_tuple rfl) pa_nil))) pa_nil))))) (pw_or1 (pt_cmpR op_ne (pe_callB (c_isi (K := K) rfl) (by rfl) b_isinstance bo_isinstance (pa_cons (pv 0) (pa_cons (pe_bltn (v := .ty "list") (by rfl) b_list bo_list rfl) pa_nil))) (pe_callB (c_isi (K := K) rfl) (by rfl) b_isinstance bo_isinstance (pa_cons (pv 1) (pa_cons (pe_bltn (v := .ty "list") (by rfl) b_list bo_list rfl) pa_nil))) (nomark _))))) ps_no pss_nil)
(pss_cons (ps_if (pt_cmpR op_ne (pe_callB (c_len (K := K) rfl) (by rfl) b_len bo_len (pa_cons (pv 0) pa_nil)) (pe_callB (c_len (K := K) rfl) (by rfl) b_len bo_len (pa_cons (pv 1) pa_nil)) (nomark _)) (pss_one (ps_ret pe_bl)) pss_nil)
(pss_one (ps_ret (pe_callB (c_all (K := K) rfl (by rfl)) (by rfl) b_all bo_all (pa_cons (pe_lc (own := [("one", 2), ("other", 3)]) (g := gTup K 2 (gCons (gName 2) (gCons (gName 3) gNil))) (by rfl) sc__law_same_v3.nd (pi_zp (K := K) rfl (by rfl) b_zip (pa_cons (pv 0) (pa_cons (pv 1) pa_nil))) (blkOk_by (own := [("one", 2), ("other", 3)]) (N := ["found", "due", "one", "other"]) (sc := defScope s__law_same) (by decide +kernel)) (fun _ _ _ _ _ => (c_pgtup (K := K) rfl (by rfl) (pgs_cons (pg_name (i := 2) sc__law_same_v3.nd rfl (Or.inl rfl)) (pgs_cons (pg_name (i := 3) sc__law_same_v3.nd rfl (Or.inl rfl)) pgs_nil)))) (fun _ _ _ _ _ => pts_nil) (fun _ _ _ _ _ => (pe_callG G__law_same_v2 gd hr (by rfl) g__law_same_v2 k__law_same_v2 b__law_same_v2 pass0 (pa_cons (pv 2) (pa_cons (pv 3) pa_nil))))) pa_nil)))))) ps_no)
(pss_cons (ps_if (PW.pt (pw_or (pt_cmpR op_ne (pe_callB (c_isi (K := K) rfl) (by rfl) b_isinstance bo_isinstance (pa_cons (pv 0) (pa_cons (pe_bltn (v := .ty "bool") (by rfl) b_bool bo_bool rfl) pa_nil))) (pe_callB (c_isi (K := K) rfl) (by rfl) b_isinstance bo_isinstance (pa_cons (pv 1) (pa_cons (pe_bltn (v := .ty "bool") (by rfl) b_bool bo_bool rfl) pa_nil))) (nomark _)) (pw_or1 (pt_cmpR op_ne (pe_callB (c_isi (K := K) rfl) (by rfl) b_isinstance bo_isinstance (pa_cons (pv 0) (pa_cons (pe_bltn (v := .ty "int") (by rfl) b_int bo_int rfl) pa_nil))) (pe_callB (c_isi (K := K) rfl) (by rfl) b_isinstance bo_isinstance (pa_cons (pv 1) (pa_cons (pe_bltn (v := .ty "int") (by rfl) b_int bo_int rfl) pa_nil))) (nomark _))))) ps_no pss_nil)
(pss_one (ps_ret (pe_and (pe_cmpR op_eq (pe_callB (c_isi (K := K) rfl) (by rfl) b_isinstance bo_isinstance (pa_cons (pv 0) (pa_cons (pe_bltn (v := .ty "str") (by rfl) b_str bo_str rfl) pa_nil))) (pe_callB (c_isi (K := K) rfl) (by rfl) b_isinstance bo_isinstance (pa_cons (pv 1) (pa_cons (pe_bltn (v := .ty "str") (by rfl) b_str bo_str rfl) pa_nil))) (nomark _)) (pe_one (pe_cmpR op_eq (pv 0) (pv 1) (nomark _)))))))), ?_⟩
    refine n_seq ?_
    refine n_ifs ?_
    refine n_tB ?_
    refine n_cb ?_
    refine n_cons ?_
    refine n_var rfl ?_
    refine n_cons ?_
    refine n_tup ?_
    refine n_cons ?_
    refine n_c ?_
    refine n_cons ?_
    refine n_c ?_
    refine n_nil ?_
    refine v_mkTy g0.fh rfl fun p1 F2 H3 d4 q5 => ?_
    have g6 := g0.trans0 d4
    refine n_nil ?_
    refine v_isiT (b := true) (c := false) (ty_list g6.fh (Rp.mono (eL (eP2 eS eI)) d4.ff r_due)) (g6.fh _ _ q5) (by decide +kernel) (by decide +kernel) ?_
    refine v_bl ?_
    refine br (fun _ => ?_) (fun hb => nomatch (show true = false from hb))
    refine n_seq ?_
    refine n_ifs ?_
    refine n_or ?_
    refine n_not ?_
    refine n_tB ?_
    refine n_cb ?_
    refine n_cons ?_
    refine n_var rfl ?_
    refine n_cons ?_
    refine n_tup ?_
    refine n_cons ?_
    refine n_c ?_
    refine n_cons ?_
    refine n_c ?_
    refine n_nil ?_
    refine v_mkTy g6.fh rfl fun p8 F9 H10 d11 q12 => ?_
    have g13 := g6.trans0 d11
    refine n_nil ?_
    refine v_isiT (b := true) (c := false) (ty_list g13.fh (Rp.mono (eL (eP2 eS eI)) (Sub.trans d4.ff d11.ff) r_found)) (g13.fh _ _ q12) (by decide +kernel) (by decide +kernel) ?_
    refine v_bl ?_
    refine br_orT (b := (!decide (true = true))) (fun hb14 Q7 k7 => ?_) ?_
    · refine n_test ?_
      refine n_op ?_
      refine n_cb ?_
      refine n_cons ?_
      refine n_var rfl ?_
      refine n_cons ?_
      refine n_c ?_
      refine n_nil ?_
      refine v_isi (b := true) (ty_list g13.fh (Rp.mono (eL (eP2 eS eI)) (Sub.trans d4.ff d11.ff) r_found)) (by decide +kernel) ?_
      refine n_cb ?_
      refine n_cons ?_
      refine n_var rfl ?_
      refine n_cons ?_
      refine n_c ?_
      refine n_nil ?_
      refine v_isi (b := true) (ty_list g13.fh (Rp.mono (eL (eP2 eS eI)) (Sub.trans d4.ff d11.ff) r_due)) (by decide +kernel) ?_
      refine v_neB ?_
      refine v_bl ?_
      exact k7
    refine br (fun hb => nomatch (show false = true from hb)) (fun _ => ?_)
    refine n_nextS ?_
    refine n_seq ?_
    refine n_ifs ?_
    refine n_test ?_
    refine n_op ?_
    refine n_cb ?_
    refine n_cons ?_
    refine n_var rfl ?_
    refine n_nil ?_
    obtain ⟨p16, vs17, ep16, q18, al19⟩ := (Rp.mono (eL (eP2 eS eI)) (Sub.trans d4.ff d11.ff) r_found)
    subst ep16
    refine v_len (.inl (SqL.of (g13.fh _ _ q18))) al19 ?_
    refine n_cb ?_
    refine n_cons ?_
    refine n_var rfl ?_
    refine n_nil ?_
    obtain ⟨p20, vs21, ep20, q22, al23⟩ := (Rp.mono (eL (eP2 eS eI)) (Sub.trans d4.ff d11.ff) r_due)
    subst ep20
    refine v_len (.inl (SqL.of (g13.fh _ _ q22))) al23 ?_
    refine v_neI ?_
    refine v_bl ?_
    refine br (fun hb24 => ?_) (fun hb24 => ?_)
    · replace hm := ifT hb24 hm
      refine n_ret ?_
      refine n_c ?_
      obtain rfl := Option.some.inj hm
      exact hk _ _ _  g13   rfl
    replace hm := ifF hb24 hm
    refine n_nextS ?_
    refine n_ret ?_
    refine n_cb ?_
    refine n_cons ?_
    refine n_lc ?_
    refine n_zp ?_
    refine n_cons ?_
    refine n_var rfl ?_
    refine n_cons ?_
    refine n_var rfl ?_
    refine n_nil ?_
    refine v_zp (k := (.l p16)) (k' := (.l p20)) (vs := vs17) (ws := vs21) (SqL.of (g13.fh _ _ q18)) (SqL.of (g13.fh _ _ q22)) ?_
    obtain ⟨u27, hu27, hm⟩ := bnd hm
    obtain ⟨q28, hq28, hm⟩ := bnd hm
    intro D25 nD26
    have goD25 := g13.old nD26
    have gg67 := gr_newM (W := []) (o := .lst []) g13.fh nD26
    refine comp_s (sr_Zp (k := (.l p16)) (k' := (.l p20)) al19 al23) hq28 (need_ok hu27).1 (fun (acc7 : List Bool) H7 => ∃ (F7 : Hp) (vs7 : List V), Gr [] F0 H0 F7 H7 ∧ Sub F9 F7 ∧ F7 D25 = none ∧ H7 D25 = some (.lst vs7) ∧ Al eB F7 vs7 acc7) ⟨_, [], g13.trans0 gg67, Sub.refl _, g13.fh.nn nD26, upd_same, .nil⟩ ?_ ?_ ?_
    · rintro _ _ ⟨F40, vs41, g42, sb43, _, _, _⟩
      exact ⟨(SqL.of (g42.fh _ _ (sb43 _ _ q18))), (SqL.of (g42.fh _ _ (sb43 _ _ q22)))⟩
    · rintro a29 r31 acc32 x33 H34 H35 ⟨F40, vs41, g42, sb43, fD44, hD45, al46⟩ hY36 hm hl39 N37 hN38
      have m47 : Mu [] H0 F40 H34 D25 (.lst vs41) := ⟨fD44, hD45, .inl goD25⟩
      refine wipe_to (σ' := [some (.ref p16), some (.ref p20), none, none]) rfl ?_
      refine v_unpZ g42.fh hY36 fun v49 v50 d48 r51 r52 => ?_
      have g53 := g42.trans0 d48
      have m54 := m47.call0 d48
      refine n_gcons ?_
      refine n_name (setS (setS set0)) ?_
      refine n_gcons ?_
      refine n_name (setS (setS (setS set0))) ?_
      refine n_gnil ?_
      refine ⟨rfl, ?_⟩
      refine n_yes ?_ rfl
      refine n_call ?_
      refine n_cons ?_
      refine n_var rfl ?_
      refine n_cons ?_
      refine n_var rfl ?_
      refine n_nil ?_
      obtain ⟨r55, hr55, hm⟩ := bnd hm
      refine ⟨F40, v49, a29.1, v50, a29.2, r55, rfl, g53.fh, (Rp.mono (eP2 eS eI) sb43 r51), (Rp.mono (eP2 eS eI) sb43 r52), hr55, fun v59 F56 H57 d58 r60 => ?_⟩
      have g61 := g53.trans0 d58
      have m62 := m54.call0 d58
      have er60 : v59 = V.bl r55 := r60
      subst er60
      obtain rfl := Option.some.inj hm
      refine ⟨_, m62.hp, by rw [al_len (Al.mono al46 d58.ff)]; exact hl39, hN38 _ ?_⟩
      exact ⟨_, _, m62.gr g61, (Sub.trans sb43 d58.ff), m62.fr, upd_same, pd_snoc (Al.mono al46 d58.ff) (show eB.r F56 (.bl r55) r55 from rfl)⟩
    rintro H68 ⟨F69, vs70, g71, sb72, fD73, hD74, al75⟩
    have m76 : Mu [] H0 F69 H68 D25 (.lst vs70) := ⟨fD73, hD74, .inl goD25⟩
    obtain ⟨F77, q79, sb81, g80, d78⟩ := freeze g71 m76 (m76.own.resolve_right (by simp))
    have al82 := (Al.mono al75 sb81)
    refine n_nil ?_
    refine v_all (SqL.of (g80.fh _ _ q79)) al82 ?_
    obtain rfl := Option.some.inj hm
    exact hk _ _ _  g80   rfl

def m__law_same_v4 (x_found : List (List (Sg × Int))) (x_due : List (List (Sg × Int))) : Option Bool :=
  if (!decide ((x_found.length : Int) = (x_due.length : Int))) = true then
  some false
  else
  (need (szB (List.zip x_found x_due).length) ()).bind fun u27 =>
  (compS (List.zip x_found x_due) fun a29 =>
  (m__law_same_v3 a29.1 a29.2).bind fun r55 =>
  some (some r55)).bind fun q28 =>
  some (q28.all id)
def sp__law_same_v4 (K : PySem.W.Frag) : Sp := fun vs H Q _ => ∃ (F : Hp) (v_found : V) (x_found : List (List (Sg × Int))) (v_due : V) (x_due : List (List (Sg × Int))) (r : Bool), vs = [v_found, v_due] ∧ Sub F H ∧ (eL (eL (eP2 eS eI))).r F v_found x_found ∧ (eL (eL (eP2 eS eI))).r F v_due x_due ∧ m__law_same_v4 x_found x_due = some r ∧ ∀ (v : V) (F' H' : Hp) , Gr [] F H F' H' → eB.r F' v r → Q v H'
theorem sc__law_same_v4 : FnScope ["found", "due", "one", "other"] ["found", "due"] (defScope s__law_same) := ⟨rfl, rfl, rfl, by decide +kernel, rfl, by decide +kernel, by decide +kernel⟩
theorem ok__law_same_v4 {f : Addr} {fd : FuncData} (F : FnP K "_law_same" s__law_same f fd) (H__law_same_v0 : HasG P w K mg base "_law_same" ["found", "due"] 1 (sp__law_same_v0 K)) (H__law_same_v1 : HasG P w K mg base "_law_same" ["found", "due"] 2 (sp__law_same_v1 K)) (H__law_same_o01 : HasG P w K mg base "_law_same" ["found", "due"] 3 (sp__law_same_o01 K)) (H__law_same_v2 : HasG P w K mg base "_law_same" ["found", "due"] 4 (sp__law_same_v2 K)) (H__law_same_v3 : HasG P w K mg base "_law_same" ["found", "due"] 5 (sp__law_same_v3 K)) (b_isinstance : mg "isinstance" = none) (b_list : mg "list" = none) (b_tuple : mg "tuple" = none) (b_all : mg "all" = none) (b_len : mg "len" = none) (b_bool : mg "bool" = none) (b_int : mg "int" = none) (b_str : mg "str" = none) (b_zip : mg "zip" = none) : FnG P w K mg base CX0 6 f fd ["found", "due"] (sp__law_same_v4 K) := by
  obtain ⟨f__law_same_v0, fd__law_same_v0, G0__law_same_v0, g__law_same_v0, k__law_same_v0, b__law_same_v0⟩ := H__law_same_v0
  have G__law_same_v0 := G0__law_same_v0.mono (show 1 ≤ 5 by decide)
  obtain ⟨f__law_same_v1, fd__law_same_v1, G0__law_same_v1, g__law_same_v1, k__law_same_v1, b__law_same_v1⟩ := H__law_same_v1
  have G__law_same_v1 := G0__law_same_v1.mono (show 2 ≤ 5 by decide)
  obtain ⟨f__law_same_o01, fd__law_same_o01, G0__law_same_o01, g__law_same_o01, k__law_same_o01, b__law_same_o01⟩ := H__law_same_o01
  have G__law_same_o01 := G0__law_same_o01.mono (show 3 ≤ 5 by decide)
  obtain ⟨f__law_same_v2, fd__law_same_v2, G0__law_same_v2, g__law_same_v2, k__law_same_v2, b__law_same_v2⟩ := H__law_same_v2
  have G__law_same_v2 := G0__law_same_v2.mono (show 4 ≤ 5 by decide)
  obtain ⟨f__law_same_v3, fd__law_same_v3, G0__law_same_v3, g__law_same_v3, k__law_same_v3, b__law_same_v3⟩ := H__law_same_v3
  have G__law_same_v3 := G0__law_same_v3.mono (show 5 ≤ 5 by decide)
  refine FnDok F sc__law_same_v4 (fun vs H Q E h => ?_) (fun cdv A outer s H0 vs Q E gd hr h => ?_)
  · obtain ⟨_, _, _, _, _, _, rfl, _⟩ := h
    rfl
  · obtain ⟨F0, v_found, x_found, v_due, x_due, r0, rfl, hs0, r_found, r_due, hm, hk⟩ := h
    have g0 : Gr [] F0 H0 F0 H0 := Gr.refl hs0
    refine ⟨_, PSs.nox (pss_cons (ps_if (pt_val (pe_callB (c_isiT (K := K) rfl) (by rfl) b_isinstance bo_isinstance (pa_cons (pv 1) (pa_cons (pe_tup (pa_cons (pe_bltn (v := .ty "list") (by rfl) b_list bo_list rfl) (pa_cons (pe_bltn (v := .ty "tuple") (by rfl) b_tuple bo_tuple rfl) pa_nil))) pa_nil)))) (pss_cons (ps_if (PW.pt (pw_or (pt_not (pt_val (pe_callB (c_isiT (K := K) rfl) (by rfl) b_isinstance bo_isinstance (pa_cons (pv 0) (pa_cons (pe_tup (pa_cons (pe_bltn (v := .ty "list") (by rfl) b_list bo_list rfl) (pa_cons (pe_bltn (v := .ty "tuple") (by rfl) b_tuple bo_tuple rfl) pa_nil))) pa_nil))))) (pw_or1 (pt_cmpR op_ne (pe_callB (c_isi (K := K) rfl) (by rfl) b_isinstance bo_isinstance (pa_cons (pv 0) (pa_cons (pe_bltn (v := .ty "list") (by rfl) b_list bo_list rfl) pa_nil))) (pe_callB (c_isi (K := K) rfl) (by rfl) b_isinstance bo_isinstance (pa_cons (pv 1) (pa_cons (pe_bltn (v := .ty "list") (by rfl) b_list bo_list rfl) pa_nil))) (nomark _))))) ps_no pss_nil)
(pss_cons (ps_if (pt_cmpR op_ne (pe_callB (c_len (K := K) rfl) (by rfl) b_len bo_len (pa_cons (pv 0) pa_nil)) (pe_callB (c_len (K := K) rfl) (by rfl) b_len bo_len (pa_cons (pv 1) pa_nil)) (nomark _)) (pss_one (ps_ret pe_bl)) pss_nil)
(pss_one (ps_ret (pe_callB (c_all (K := K) rfl (by rfl)) (by rfl) b_all bo_all (pa_cons (pe_lc (own := [("one", 2), ("other", 3)]) (g := gTup K 2 (gCons (gName 2) (gCons (gName 3) gNil))) (by rfl) sc__law_same_v4.nd (pi_zp (K := K) rfl (by rfl) b_zip (pa_cons (pv 0) (pa_cons (pv 1) pa_nil))) (blkOk_by (own := [("one", 2), ("other", 3)]) (N := ["found", "due", "one", "other"]) (sc := defScope s__law_same) (by decide +kernel)) (fun _ _ _ _ _ => (c_pgtup (K := K) rfl (by rfl) (pgs_cons (pg_name (i := 2) sc__law_same_v4.nd rfl (Or.inl rfl)) (pgs_cons (pg_name (i := 3) sc__law_same_v4.nd rfl (Or.inl rfl)) pgs_nil)))) (fun _ _ _ _ _ => pts_nil) (fun _ _ _ _ _ => (pe_callG G__law_same_v3 gd hr (by rfl) g__law_same_v3 k__law_same_v3 b__law_same_v3 pass0 (pa_cons (pv 2) (pa_cons (pv 3) pa_nil))))) pa_nil)))))) ps_no)
(pss_cons (ps_if (PW.pt (pw_or (pt_cmpR op_ne (pe_callB (c_isi (K := K) rfl) (by rfl) b_isinstance bo_isinstance (pa_cons (pv 0) (pa_cons (pe_bltn (v := .ty "bool") (by rfl) b_bool bo_bool rfl) pa_nil))) (pe_callB (c_isi (K := K) rfl) (by rfl) b_isinstance bo_isinstance (pa_cons (pv 1) (pa_cons (pe_bltn (v := .ty "bool") (by rfl) b_bool bo_bool rfl) pa_nil))) (nomark _)) (pw_or1 (pt_cmpR op_ne (pe_callB (c_isi (K := K) rfl) (by rfl) b_isinstance bo_isinstance (pa_cons (pv 0) (pa_cons (pe_bltn (v := .ty "int") (by rfl) b_int bo_int rfl) pa_nil))) (pe_callB (c_isi (K := K) rfl) (by rfl) b_isinstance bo_isinstance (pa_cons (pv 1) (pa_cons (pe_bltn (v := .ty "int") (by rfl) b_int bo_int rfl) pa_nil))) (nomark _))))) ps_no pss_nil)
(pss_one (ps_ret (pe_and (pe_cmpR op_eq (pe_callB (c_isi (K := K) rfl) (by rfl) b_isinstance bo_isinstance (pa_cons (pv 0) (pa_cons (pe_bltn (v := .ty "str") (by rfl) b_str bo_str rfl) pa_nil))) (pe_callB (c_isi (K := K) rfl) (by rfl) b_isinstance bo_isinstance (pa_cons (pv 1) (pa_cons (pe_bltn (v := .ty "str") (by rfl) b_str bo_str rfl) pa_nil))) (nomark _)) (pe_one (pe_cmpR op_eq (pv 0) (pv 1) (nomark _)))))))), ?_⟩
    refine n_seq ?_
    refine n_ifs ?_
    refine n_tB ?_
    refine n_cb ?_
    refine n_cons ?_
    refine n_var rfl ?_
    refine n_cons ?_
    refine n_tup ?_
    refine n_cons ?_
    refine n_c ?_
    refine n_cons ?_
    refine n_c ?_
    refine n_nil ?_
    refine v_mkTy g0.fh rfl fun p1 F2 H3 d4 q5 => ?_
    have g6 := g0.trans0 d4
    refine n_nil ?_
    refine v_isiT (b := true) (c := false) (ty_list g6.fh (Rp.mono (eL (eL (eP2 eS eI))) d4.ff r_due)) (g6.fh _ _ q5) (by decide +kernel) (by decide +kernel) ?_
    refine v_bl ?_
    refine br (fun _ => ?_) (fun hb => nomatch (show true = false from hb))
    refine n_seq ?_
    refine n_ifs ?_
    refine n_or ?_
    refine n_not ?_
    refine n_tB ?_
    refine n_cb ?_
    refine n_cons ?_
    refine n_var rfl ?_
    refine n_cons ?_
    refine n_tup ?_
    refine n_cons ?_
    refine n_c ?_
    refine n_cons ?_
    refine n_c ?_
    refine n_nil ?_
    refine v_mkTy g6.fh rfl fun p8 F9 H10 d11 q12 => ?_
    have g13 := g6.trans0 d11
    refine n_nil ?_
    refine v_isiT (b := true) (c := false) (ty_list g13.fh (Rp.mono (eL (eL (eP2 eS eI))) (Sub.trans d4.ff d11.ff) r_found)) (g13.fh _ _ q12) (by decide +kernel) (by decide +kernel) ?_
    refine v_bl ?_
    refine br_orT (b := (!decide (true = true))) (fun hb14 Q7 k7 => ?_) ?_
    · refine n_test ?_
      refine n_op ?_
      refine n_cb ?_
      refine n_cons ?_
      refine n_var rfl ?_
      refine n_cons ?_
      refine n_c ?_
      refine n_nil ?_
      refine v_isi (b := true) (ty_list g13.fh (Rp.mono (eL (eL (eP2 eS eI))) (Sub.trans d4.ff d11.ff) r_found)) (by decide +kernel) ?_
      refine n_cb ?_
      refine n_cons ?_
      refine n_var rfl ?_
      refine n_cons ?_
      refine n_c ?_
      refine n_nil ?_
      refine v_isi (b := true) (ty_list g13.fh (Rp.mono (eL (eL (eP2 eS eI))) (Sub.trans d4.ff d11.ff) r_due)) (by decide +kernel) ?_
      refine v_neB ?_
      refine v_bl ?_
      exact k7
    refine br (fun hb => nomatch (show false = true from hb)) (fun _ => ?_)
    refine n_nextS ?_
    refine n_seq ?_
    refine n_ifs ?_
    refine n_test ?_
    refine n_op ?_
    refine n_cb ?_
    refine n_cons ?_
    refine n_var rfl ?_
    refine n_nil ?_
    obtain ⟨p16, vs17, ep16, q18, al19⟩ := (Rp.mono (eL (eL (eP2 eS eI))) (Sub.trans d4.ff d11.ff) r_found)
    subst ep16
    refine v_len (.inl (SqL.of (g13.fh _ _ q18))) al19 ?_
    refine n_cb ?_
    refine n_cons ?_
    refine n_var rfl ?_
    refine n_nil ?_
    obtain ⟨p20, vs21, ep20, q22, al23⟩ := (Rp.mono (eL (eL (eP2 eS eI))) (Sub.trans d4.ff d11.ff) r_due)
    subst ep20
    refine v_len (.inl (SqL.of (g13.fh _ _ q22))) al23 ?_
    refine v_neI ?_
    refine v_bl ?_
    refine br (fun hb24 => ?_) (fun hb24 => ?_)
    · replace hm := ifT hb24 hm
      refine n_ret ?_
      refine n_c ?_
      obtain rfl := Option.some.inj hm
      exact hk _ _ _  g13   rfl
    replace hm := ifF hb24 hm
    refine n_nextS ?_
    refine n_ret ?_
    refine n_cb ?_
    refine n_cons ?_
    refine n_lc ?_
    refine n_zp ?_
    refine n_cons ?_
    refine n_var rfl ?_
    refine n_cons ?_
    refine n_var rfl ?_
    refine n_nil ?_
    refine v_zp (k := (.l p16)) (k' := (.l p20)) (vs := vs17) (ws := vs21) (SqL.of (g13.fh _ _ q18)) (SqL.of (g13.fh _ _ q22)) ?_
    obtain ⟨u27, hu27, hm⟩ := bnd hm
    obtain ⟨q28, hq28, hm⟩ := bnd hm
    intro D25 nD26
    have goD25 := g13.old nD26
    have gg67 := gr_newM (W := []) (o := .lst []) g13.fh nD26
    refine comp_s (sr_Zp (k := (.l p16)) (k' := (.l p20)) al19 al23) hq28 (need_ok hu27).1 (fun (acc7 : List Bool) H7 => ∃ (F7 : Hp) (vs7 : List V), Gr [] F0 H0 F7 H7 ∧ Sub F9 F7 ∧ F7 D25 = none ∧ H7 D25 = some (.lst vs7) ∧ Al eB F7 vs7 acc7) ⟨_, [], g13.trans0 gg67, Sub.refl _, g13.fh.nn nD26, upd_same, .nil⟩ ?_ ?_ ?_
    · rintro _ _ ⟨F40, vs41, g42, sb43, _, _, _⟩
      exact ⟨(SqL.of (g42.fh _ _ (sb43 _ _ q18))), (SqL.of (g42.fh _ _ (sb43 _ _ q22)))⟩
    · rintro a29 r31 acc32 x33 H34 H35 ⟨F40, vs41, g42, sb43, fD44, hD45, al46⟩ hY36 hm hl39 N37 hN38
      have m47 : Mu [] H0 F40 H34 D25 (.lst vs41) := ⟨fD44, hD45, .inl goD25⟩
      refine wipe_to (σ' := [some (.ref p16), some (.ref p20), none, none]) rfl ?_
      refine v_unpZ g42.fh hY36 fun v49 v50 d48 r51 r52 => ?_
      have g53 := g42.trans0 d48
      have m54 := m47.call0 d48
      refine n_gcons ?_
      refine n_name (setS (setS set0)) ?_
      refine n_gcons ?_
      refine n_name (setS (setS (setS set0))) ?_
      refine n_gnil ?_
      refine ⟨rfl, ?_⟩
      refine n_yes ?_ rfl
      refine n_call ?_
      refine n_cons ?_
      refine n_var rfl ?_
      refine n_cons ?_
      refine n_var rfl ?_
      refine n_nil ?_
      obtain ⟨r55, hr55, hm⟩ := bnd hm
      refine ⟨F40, v49, a29.1, v50, a29.2, r55, rfl, g53.fh, (Rp.mono (eL (eP2 eS eI)) sb43 r51), (Rp.mono (eL (eP2 eS eI)) sb43 r52), hr55, fun v59 F56 H57 d58 r60 => ?_⟩
      have g61 := g53.trans0 d58
      have m62 := m54.call0 d58
      have er60 : v59 = V.bl r55 := r60
      subst er60
      obtain rfl := Option.some.inj hm
      refine ⟨_, m62.hp, by rw [al_len (Al.mono al46 d58.ff)]; exact hl39, hN38 _ ?_⟩
      exact ⟨_, _, m62.gr g61, (Sub.trans sb43 d58.ff), m62.fr, upd_same, pd_snoc (Al.mono al46 d58.ff) (show eB.r F56 (.bl r55) r55 from rfl)⟩
    rintro H68 ⟨F69, vs70, g71, sb72, fD73, hD74, al75⟩
    have m76 : Mu [] H0 F69 H68 D25 (.lst vs70) := ⟨fD73, hD74, .inl goD25⟩
    obtain ⟨F77, q79, sb81, g80, d78⟩ := freeze g71 m76 (m76.own.resolve_right (by simp))
    have al82 := (Al.mono al75 sb81)
    refine n_nil ?_
    refine v_all (SqL.of (g80.fh _ _ q79)) al82 ?_
    obtain rfl := Option.some.inj hm
    exact hk _ _ _  g80   rfl

def m__law_pairs (x_reads : List (Sg × List Int)) (x_words : List (Sg × Sg)) : Option (List (Sg × Int)) :=
  (need (szB x_words.length) ()).bind fun u12 =>
  (compS x_words fun a14 =>
  some (some (a14.1, ((getD2 x_reads a14.2 ([] : List Int)).length : Int)))).bind fun q13 =>
  (need (szB q13.length) ()).bind fun u81 =>
  (compS q13 fun a83 =>
  if (decide ((0 : Int) < a83.2)) = true then
  some (some (a83.1, a83.2))
  else
  some none).bind fun q82 =>
  some q82
def sp__law_pairs (K : PySem.W.Frag) : Sp := fun vs H Q _ => ∃ (F : Hp) (v_reads : V) (x_reads : List (Sg × List Int)) (v_words : V) (x_words : List (Sg × Sg)) (r : List (Sg × Int)), vs = [v_reads, v_words] ∧ Sub F H ∧ (eDL keS (eL eI)).r F v_reads x_reads ∧ (eL (eP2 eS eS)).r F v_words x_words ∧ m__law_pairs x_reads x_words = some r ∧ ∀ (v : V) (F' H' : Hp) , Gr [] F H F' H' → (eL (eP2 eS eI)).r F' v r → Q v H'
theorem sc__law_pairs : FnScope ["reads", "words", "pairs", "letter", "word", "many"] ["reads", "words"] (defScope s__law_pairs) := ⟨rfl, rfl, rfl, by decide +kernel, rfl, by decide +kernel, by decide +kernel⟩
theorem ok__law_pairs {f : Addr} {fd : FuncData} (F : FnP K "_law_pairs" s__law_pairs f fd) (b_len : mg "len" = none) : FnG P w K mg base CX0 1 f fd ["reads", "words"] (sp__law_pairs K) := by
  refine FnDok F sc__law_pairs (fun vs H Q E h => ?_) (fun cdv A outer s H0 vs Q E gd hr h => ?_)
  · obtain ⟨_, _, _, _, _, _, rfl, _⟩ := h
    rfl
  · obtain ⟨F0, v_reads, x_reads, v_words, x_words, r0, rfl, hs0, r_reads, r_words, hm, hk⟩ := h
    have g0 : Gr [] F0 H0 F0 H0 := Gr.refl hs0
    obtain ⟨p1, o2, vs3, ep1, q4, al5⟩ := r_reads
    subst ep1
    refine ⟨_, PSs.nox (pss_cons (ps_setLc (i := 2) (own := [("letter", 3), ("word", 4)]) (g := gTup K 2 (gCons (gName 3) (gCons (gName 4) gNil))) (by rfl) sc__law_pairs.nd rfl rfl (sw_true rfl rfl rfl (by decide +kernel)) (c_pilist (K := K) rfl (pv 1)) (blkOk_by (own := [("letter", 3), ("word", 4)]) (N := ["reads", "words", "pairs", "letter", "word", "many"]) (sc := defScope s__law_pairs) (by decide +kernel)) (fun _ _ _ _ _ => (c_pgtup (K := K) rfl (by rfl) (pgs_cons (pg_name (i := 3) sc__law_pairs.nd rfl (Or.inl rfl)) (pgs_cons (pg_name (i := 4) sc__law_pairs.nd rfl (Or.inl rfl)) pgs_nil)))) (fun _ _ _ _ _ => pts_nil) (fun _ _ _ _ _ => (pe_tup (pa_cons (pv 3) (pa_cons (pe_callB (c_len (K := K) rfl) (by rfl) b_len bo_len (pa_cons (pe_dget2 (un1 hr) (pv 0) (pv 4) (pe_lst pa_nil) ⟨by rfl, by rfl, by rfl, by rfl⟩) pa_nil)) pa_nil)))))
(pss_one (ps_ret (pe_lc (own := [("letter", 3), ("many", 5)]) (g := gTup K 2 (gCons (gName 3) (gCons (gName 5) gNil))) (by rfl) sc__law_pairs.nd (c_pilist (K := K) rfl (pv 2)) (blkOk_by (own := [("letter", 3), ("many", 5)]) (N := ["reads", "words", "pairs", "letter", "word", "many"]) (sc := defScope s__law_pairs) (by decide +kernel)) (fun _ _ _ _ _ => (c_pgtup (K := K) rfl (by rfl) (pgs_cons (pg_name (i := 3) sc__law_pairs.nd rfl (Or.inl rfl)) (pgs_cons (pg_name (i := 5) sc__law_pairs.nd rfl (Or.inl rfl)) pgs_nil)))) (fun _ _ _ _ _ => pts_one (pt_cmpR op_gt (pv 5) pe_int (nomark _))) (fun _ _ _ _ _ => (pe_tup (pa_cons (pv 3) (pa_cons (pv 5) pa_nil)))))))), ?_⟩
    refine n_seq ?_
    refine n_asg ?_
    refine n_lc ?_
    refine n_itL ?_
    refine n_var rfl ?_
    obtain ⟨p6, vs7, ep6, q8, al9⟩ := r_words
    subst ep6
    refine v_itL (SqL.of (g0.fh _ _ q8)) ?_
    obtain ⟨u12, hu12, hm⟩ := bnd hm
    obtain ⟨q13, hq13, hm⟩ := bnd hm
    intro D10 nD11
    have goD10 := g0.old nD11
    have gg63 := gr_newM (W := []) (o := .lst []) g0.fh nD11
    refine comp_s (sr_L al9) hq13 (need_ok hu12).1 (fun (acc7 : List (Sg × Int)) H7 => ∃ (F7 : Hp) (vs7 : List V), Gr [] F0 H0 F7 H7 ∧ Sub F0 F7 ∧ F7 D10 = none ∧ H7 D10 = some (.lst vs7) ∧ Al (eP2 eS eI) F7 vs7 acc7) ⟨_, [], g0.trans0 gg63, Sub.refl _, g0.fh.nn nD11, upd_same, .nil⟩ ?_ ?_ ?_
    · rintro _ _ ⟨F25, vs26, g27, sb28, _, _, _⟩
      exact (SqL.of (g27.fh _ _ (sb28 _ _ q8)))
    · rintro a14 r16 acc17 x18 H19 H20 ⟨F25, vs26, g27, sb28, fD29, hD30, al31⟩ hY21 hm hl24 N22 hN23
      have m32 : Mu [] H0 F25 H19 D10 (.lst vs26) := ⟨fD29, hD30, .inl goD10⟩
      refine wipe_to (σ' := [some (.ref p1), some (.ref p6), none, none, none, none]) rfl ?_
      refine v_nmY hY21 fun r33 => ?_
      refine v_unp2 g27.fh (Rp.mono (eP2 eS eS) sb28 r33) fun v34 v36 r35 r37 => ?_
      obtain ⟨er35, lr35⟩ : v34 = V.str (S a14.1) ∧ a14.1.length ≤ sizeLine := r35
      subst er35
      obtain ⟨er37, lr37⟩ : v36 = V.str (S a14.2) ∧ a14.2.length ≤ sizeLine := r37
      subst er37
      refine n_gcons ?_
      refine n_name (setS (setS (setS set0))) ?_
      refine n_gcons ?_
      refine n_name (setS (setS (setS (setS set0)))) ?_
      refine n_gnil ?_
      refine ⟨rfl, ?_⟩
      refine n_yes ?_ rfl
      refine n_tup ?_
      refine n_cons ?_
      refine n_var rfl ?_
      refine n_cons ?_
      refine n_cb ?_
      refine n_cons ?_
      refine n_dget2 ?_
      refine n_var rfl ?_
      refine ⟨_, rfl, .inl ⟨_, .inr ⟨_, g27.fh _ _ (sb28 _ _ q4)⟩⟩, ?_⟩
      refine n_var rfl ?_
      refine n_lst ?_
      refine n_nil ?_
      refine v_mkLF (t := eI) (xs := ([] : List Int)) g27.fh .nil rfl fun p38 F39 H40 d41 q42 al43 => ?_
      have g44 := g27.trans0 d41
      have m45 := m32.call0 d41
      refine v_dget2L g44.fh ((Sub.trans sb28 d41.ff) _ _ q4) (Pr.mono al5 (Sub.trans sb28 d41.ff)) (show eS.r F39 (.str (S a14.2)) a14.2 from ⟨rfl, lr37⟩) (show (eL eI).r F39 (.ref p38) ([] : List Int) from (⟨p38, [], rfl, q42, al43⟩ : (eL eI).r F39 (.ref p38) ([] : List Int))) fun v46 r47 => ?_
      refine n_nil ?_
      obtain ⟨p48, vs49, ep48, q50, al51⟩ := r47
      subst ep48
      refine v_len (.inl (SqL.of (g44.fh _ _ q50))) al51 ?_
      refine n_nil ?_
      refine v_mk2 g44.fh (show eS.r F39 (.str (S a14.1)) a14.1 from ⟨rfl, lr35⟩) (show eI.r F39 (.int ((getD2 x_reads a14.2 ([] : List Int)).length : Int)) ((getD2 x_reads a14.2 ([] : List Int)).length : Int) from rfl) fun v52 F53 H54 d55 r56 => ?_
      have g57 := g44.trans0 d55
      have m58 := m45.call0 d55
      obtain rfl := Option.some.inj hm
      refine ⟨_, m58.hp, by rw [al_len (Al.mono al31 (Sub.trans d41.ff d55.ff))]; exact hl24, hN23 _ ?_⟩
      exact ⟨_, _, m58.gr g57, (Sub.trans sb28 (Sub.trans d41.ff d55.ff)), m58.fr, upd_same, pd_snoc (Al.mono al31 (Sub.trans d41.ff d55.ff)) (show (eP2 eS eI).r F53 v52 (a14.1, ((getD2 x_reads a14.2 ([] : List Int)).length : Int)) from r56)⟩
    rintro H64 ⟨F65, vs66, g67, sb68, fD69, hD70, al71⟩
    have m72 : Mu [] H0 F65 H64 D10 (.lst vs66) := ⟨fD69, hD70, .inl goD10⟩
    obtain ⟨F73, q75, sb77, g76, d74⟩ := freeze g67 m72 (m72.own.resolve_right (by simp))
    have al78 := (Al.mono al71 sb77)
    refine n_name (setS (setS set0)) ?_
    refine n_ret ?_
    refine n_lc ?_
    refine n_itL ?_
    refine n_var rfl ?_
    refine v_itL (SqL.of (g76.fh _ _ q75)) ?_
    obtain ⟨u81, hu81, hm⟩ := bnd hm
    obtain ⟨q82, hq82, hm⟩ := bnd hm
    intro D79 nD80
    have goD79 := g76.old nD80
    have gg119 := gr_newM (W := []) (o := .lst []) g76.fh nD80
    refine comp_s (sr_L al78) hq82 (need_ok hu81).1 (fun (acc7 : List (Sg × Int)) H7 => ∃ (F7 : Hp) (vs7 : List V), Gr [] F0 H0 F7 H7 ∧ Sub F73 F7 ∧ F7 D79 = none ∧ H7 D79 = some (.lst vs7) ∧ Al (eP2 eS eI) F7 vs7 acc7) ⟨_, [], g76.trans0 gg119, Sub.refl _, g76.fh.nn nD80, upd_same, .nil⟩ ?_ ?_ ?_
    · rintro _ _ ⟨F94, vs95, g96, sb97, _, _, _⟩
      exact (SqL.of (g96.fh _ _ (sb97 _ _ q75)))
    · rintro a83 r85 acc86 x87 H88 H89 ⟨F94, vs95, g96, sb97, fD98, hD99, al100⟩ hY90 hm hl93 N91 hN92
      have m101 : Mu [] H0 F94 H88 D79 (.lst vs95) := ⟨fD98, hD99, .inl goD79⟩
      refine wipe_to (σ' := [some (.ref p1), some (.ref p6), some (.ref D10), none, none, none]) rfl ?_
      refine v_nmY hY90 fun r102 => ?_
      refine v_unp2 g96.fh (Rp.mono (eP2 eS eI) sb97 r102) fun v103 v105 r104 r106 => ?_
      obtain ⟨er104, lr104⟩ : v103 = V.str (S a83.1) ∧ a83.1.length ≤ sizeLine := r104
      subst er104
      have er106 : v105 = V.int a83.2 := r106
      subst er106
      refine n_gcons ?_
      refine n_name (setS (setS (setS set0))) ?_
      refine n_gcons ?_
      refine n_name (setS (setS (setS (setS (setS set0))))) ?_
      refine n_gnil ?_
      refine ⟨rfl, ?_⟩
      refine n_test ?_
      refine n_op ?_
      refine n_var rfl ?_
      refine n_c ?_
      refine v_i2 ?_
      refine v_bl ?_
      refine br (fun hb107 => ?_) (fun hb107 => ?_)
      · replace hm := ifT hb107 hm
        refine n_tup ?_
        refine n_cons ?_
        refine n_var rfl ?_
        refine n_cons ?_
        refine n_var rfl ?_
        refine n_nil ?_
        refine v_mk2 g96.fh (show eS.r F94 (.str (S a83.1)) a83.1 from ⟨rfl, lr104⟩) (show eI.r F94 (.int a83.2) a83.2 from rfl) fun v108 F109 H110 d111 r112 => ?_
        have g113 := g96.trans0 d111
        have m114 := m101.call0 d111
        obtain rfl := Option.some.inj hm
        refine ⟨_, m114.hp, by rw [al_len (Al.mono al100 d111.ff)]; exact hl93, hN92 _ ?_⟩
        exact ⟨_, _, m114.gr g113, (Sub.trans sb97 d111.ff), m114.fr, upd_same, pd_snoc (Al.mono al100 d111.ff) (show (eP2 eS eI).r F109 v108 (a83.1, a83.2) from r112)⟩
      · replace hm := ifF hb107 hm
        obtain rfl := Option.some.inj hm
        refine hN92 _ ?_
        simp only [Option.toList, List.append_nil]
        exact ⟨_, _, g96, sb97, m101.fr, m101.hp, al100⟩
    rintro H120 ⟨F121, vs122, g123, sb124, fD125, hD126, al127⟩
    have m128 : Mu [] H0 F121 H120 D79 (.lst vs122) := ⟨fD125, hD126, .inl goD79⟩
    obtain ⟨F129, q131, sb133, g132, d130⟩ := freeze g123 m128 (m128.own.resolve_right (by simp))
    have al134 := (Al.mono al127 sb133)
    obtain rfl := Option.some.inj hm
    exact hk _ _ _  g132   (⟨D79, vs122, rfl, q131, al134⟩ : (eL (eP2 eS eI)).r F129 (.ref D79) q82)

def m__law_right (x_tree : (List Int × Sg)) (x_reads : List (Sg × List Int)) (x_word : Sg) : Option Bool :=
  (need (szB (signs ([97, 98, 99, 100, 101, 102, 103, 104, 105, 106, 107, 108, 109, 110, 111, 112, 113, 114, 115, 116, 117, 118, 119, 120, 121, 122] : Sg)).length) ()).bind fun u8 =>
  (compS (signs ([97, 98, 99, 100, 101, 102, 103, 104, 105, 106, 107, 108, 109, 110, 111, 112, 113, 114, 115, 116, 117, 118, 119, 120, 121, 122] : Sg)) fun a10 =>
  (catM a10 x_word).bind fun t30 =>
  some (some (a10, t30))).bind fun q9 =>
  (m__law_pairs x_reads q9).bind fun r58 =>
  (need (szB (signs ([97, 98, 99, 100, 101, 102, 103, 104, 105, 106, 107, 108, 109, 110, 111, 112, 113, 114, 115, 116, 117, 118, 119, 120, 121, 122] : Sg)).length) ()).bind fun u67 =>
  (compS (signs ([97, 98, 99, 100, 101, 102, 103, 104, 105, 106, 107, 108, 109, 110, 111, 112, 113, 114, 115, 116, 117, 118, 119, 120, 121, 122] : Sg)) fun a69 =>
  (catM x_word a69).bind fun t89 =>
  some (some (a69, t89))).bind fun q68 =>
  (m__law_pairs x_reads q68).bind fun r117 =>
  (uptoM 0 (2 : Int)).bind fun l124 =>
  (foldR l124 () fun s128 a127 =>
  (m_fronts_of x_tree x_word).bind fun r142 =>
  (m_behinds_of x_tree x_word).bind fun r157 =>
  (m__law_same_v4 [r142, r157] [r58, r117]).bind fun r191 =>
  if (!r191) = true then
  some (.rt false)
  else
  (snocM r142 (([97] : Sg), (1 : Int))).bind fun l221 =>
  (snocM r157 (([122] : Sg), (0 : Int))).bind fun l237 =>
  some (.nx ())).bind fun z125 =>
  thenF z125 (fun s246 =>
  some true) (fun r7 => some r7)
def sp__law_right (K : PySem.W.Frag) : Sp := fun vs H Q _ => ∃ (F : Hp) (v_tree : V) (x_tree : (List Int × Sg)) (v_reads : V) (x_reads : List (Sg × List Int)) (v_word : V) (x_word : Sg) (r : Bool), vs = [v_tree, v_reads, v_word] ∧ Sub F H ∧ (eP2 (eT eI) eS).r F v_tree x_tree ∧ (eDL keS (eL eI)).r F v_reads x_reads ∧ eS.r F v_word x_word ∧ m__law_right x_tree x_reads x_word = some r ∧ ∀ (v : V) (F' H' : Hp) , Gr [] F H F' H' → eB.r F' v r → Q v H'
theorem sc__law_right : FnScope ["tree", "reads", "word", "letters", "ahead", "behind", "turn", "some", "letter"] ["tree", "reads", "word"] (defScope s__law_right) := ⟨rfl, rfl, rfl, by decide +kernel, rfl, by decide +kernel, by decide +kernel⟩
theorem ok__law_right {f : Addr} {fd : FuncData} (F : FnP K "_law_right" s__law_right f fd) (H__law_pairs : HasG P w K mg base "_law_pairs" ["reads", "words"] 1 (sp__law_pairs K)) (H_fronts_of : HasG P w K mg base "fronts_of" ["tree", "word"] 5 (sp_fronts_of K)) (H_behinds_of : HasG P w K mg base "behinds_of" ["tree", "word"] 5 (sp_behinds_of K)) (H__law_same_v0 : HasG P w K mg base "_law_same" ["found", "due"] 1 (sp__law_same_v0 K)) (H__law_same_v1 : HasG P w K mg base "_law_same" ["found", "due"] 2 (sp__law_same_v1 K)) (H__law_same_o01 : HasG P w K mg base "_law_same" ["found", "due"] 3 (sp__law_same_o01 K)) (H__law_same_v2 : HasG P w K mg base "_law_same" ["found", "due"] 4 (sp__law_same_v2 K)) (H__law_same_v3 : HasG P w K mg base "_law_same" ["found", "due"] 5 (sp__law_same_v3 K)) (H__law_same_v4 : HasG P w K mg base "_law_same" ["found", "due"] 6 (sp__law_same_v4 K)) (b_range : mg "range" = none) : FnG P w K mg base CX0 7 f fd ["tree", "reads", "word"] (sp__law_right K) := by
  obtain ⟨f__law_pairs, fd__law_pairs, G0__law_pairs, g__law_pairs, k__law_pairs, b__law_pairs⟩ := H__law_pairs
  have G__law_pairs := G0__law_pairs.mono (show 1 ≤ 6 by decide)
  obtain ⟨f_fronts_of, fd_fronts_of, G0_fronts_of, g_fronts_of, k_fronts_of, b_fronts_of⟩ := H_fronts_of
  have G_fronts_of := G0_fronts_of.mono (show 5 ≤ 6 by decide)
  obtain ⟨f_behinds_of, fd_behinds_of, G0_behinds_of, g_behinds_of, k_behinds_of, b_behinds_of⟩ := H_behinds_of
  have G_behinds_of := G0_behinds_of.mono (show 5 ≤ 6 by decide)
  obtain ⟨f__law_same_v0, fd__law_same_v0, G0__law_same_v0, g__law_same_v0, k__law_same_v0, b__law_same_v0⟩ := H__law_same_v0
  have G__law_same_v0 := G0__law_same_v0.mono (show 1 ≤ 6 by decide)
  obtain ⟨f__law_same_v1, fd__law_same_v1, G0__law_same_v1, g__law_same_v1, k__law_same_v1, b__law_same_v1⟩ := H__law_same_v1
  have G__law_same_v1 := G0__law_same_v1.mono (show 2 ≤ 6 by decide)
  obtain ⟨f__law_same_o01, fd__law_same_o01, G0__law_same_o01, g__law_same_o01, k__law_same_o01, b__law_same_o01⟩ := H__law_same_o01
  have G__law_same_o01 := G0__law_same_o01.mono (show 3 ≤ 6 by decide)
  obtain ⟨f__law_same_v2, fd__law_same_v2, G0__law_same_v2, g__law_same_v2, k__law_same_v2, b__law_same_v2⟩ := H__law_same_v2
  have G__law_same_v2 := G0__law_same_v2.mono (show 4 ≤ 6 by decide)
  obtain ⟨f__law_same_v3, fd__law_same_v3, G0__law_same_v3, g__law_same_v3, k__law_same_v3, b__law_same_v3⟩ := H__law_same_v3
  have G__law_same_v3 := G0__law_same_v3.mono (show 5 ≤ 6 by decide)
  obtain ⟨f__law_same_v4, fd__law_same_v4, G0__law_same_v4, g__law_same_v4, k__law_same_v4, b__law_same_v4⟩ := H__law_same_v4
  have G__law_same_v4 := G0__law_same_v4.mono (show 6 ≤ 6 by decide)
  refine FnDok F sc__law_right (fun vs H Q E h => ?_) (fun cdv A outer s H0 vs Q E gd hr h => ?_)
  · obtain ⟨_, _, _, _, _, _, _, _, rfl, _⟩ := h
    rfl
  · obtain ⟨F0, v_tree, x_tree, v_reads, x_reads, v_word, x_word, r0, rfl, hs0, r_tree, r_reads, r_word, hm, hk⟩ := h
    have g0 : Gr [] F0 H0 F0 H0 := Gr.refl hs0
    obtain ⟨p1, o2, vs3, ep1, q4, al5⟩ := r_reads
    subst ep1
    obtain ⟨er_word, lr_word⟩ : v_word = V.str (S x_word) ∧ x_word.length ≤ sizeLine := r_word
    subst er_word
    refine ⟨_, PSs.nox (pss_cons (ps_set (i := 3) sc__law_right.nd rfl (by first | exact Or.inl rfl | exact Or.inr rfl) pe_str)
(pss_cons (ps_set (i := 4) sc__law_right.nd rfl (by first | exact Or.inl rfl | exact Or.inr rfl) (pe_callG G__law_pairs gd hr (by rfl) g__law_pairs k__law_pairs b__law_pairs pass0 (pa_cons (pv 1) (pa_cons (pe_lc (own := [("letter", 8)]) (g := gName 8) (by rfl) sc__law_right.nd (pi_str (pv 3)) (blkOk_by (own := [("letter", 8)]) (N := ["tree", "reads", "word", "letters", "ahead", "behind", "turn", "some", "letter"]) (sc := defScope s__law_right) (by decide +kernel)) (fun _ _ _ _ _ => (pg_name (i := 8) sc__law_right.nd rfl (Or.inl rfl))) (fun _ _ _ _ _ => pts_nil) (fun _ _ _ _ _ => (pe_tup (pa_cons (pv 8) (pa_cons (pe_op c_catS (pv 8) (pv 2)) pa_nil))))) pa_nil))))
(pss_cons (ps_set (i := 5) sc__law_right.nd rfl (by first | exact Or.inl rfl | exact Or.inr rfl) (pe_callG G__law_pairs gd hr (by rfl) g__law_pairs k__law_pairs b__law_pairs pass0 (pa_cons (pv 1) (pa_cons (pe_lc (own := [("letter", 8)]) (g := gName 8) (by rfl) sc__law_right.nd (pi_str (pv 3)) (blkOk_by (own := [("letter", 8)]) (N := ["tree", "reads", "word", "letters", "ahead", "behind", "turn", "some", "letter"]) (sc := defScope s__law_right) (by decide +kernel)) (fun _ _ _ _ _ => (pg_name (i := 8) sc__law_right.nd rfl (Or.inl rfl))) (fun _ _ _ _ _ => pts_nil) (fun _ _ _ _ _ => (pe_tup (pa_cons (pv 8) (pa_cons (pe_op c_catS (pv 2) (pv 8)) pa_nil))))) pa_nil))))
(pss_cons (ps_for PassesOwn.never rfl (pi_range1 (by rfl) b_range (pa_cons pe_int pa_nil)) (pg_name (i := 6) sc__law_right.nd rfl (by first | exact Or.inl rfl | exact Or.inr rfl)) (pss_cons (ps_set (i := 7) sc__law_right.nd rfl (by first | exact Or.inl rfl | exact Or.inr rfl) (pe_lst (pa_cons (pe_callG G_fronts_of gd hr (by rfl) g_fronts_of k_fronts_of b_fronts_of pass0 (pa_cons (pv 0) (pa_cons (pv 2) pa_nil))) (pa_cons (pe_callG G_behinds_of gd hr (by rfl) g_behinds_of k_behinds_of b_behinds_of pass0 (pa_cons (pv 0) (pa_cons (pv 2) pa_nil))) pa_nil))))
(pss_cons (ps_if (pt_not (pt_val (pe_callG G__law_same_v4 gd hr (by rfl) g__law_same_v4 k__law_same_v4 b__law_same_v4 pass0 (pa_cons (pv 7) (pa_cons (pe_lst (pa_cons (pv 4) (pa_cons (pv 5) pa_nil))) pa_nil))))) (pss_one (ps_ret pe_bl)) pss_nil)
(pss_cons (ps_expr (c_bm (K := K) rfl PySem.F.plainAttrs_list PySem.F.slot_list_append PySem.F.type_list_append mt_append (pe_ix (c_ixL (K := K) rfl) (pv 7) pe_int (fun _ _ => rfl)) (pa_cons (pe_tup (pa_cons pe_str (pa_cons pe_int pa_nil))) pa_nil)))
(pss_one (ps_expr (c_bm (K := K) rfl PySem.F.plainAttrs_list PySem.F.slot_list_append PySem.F.type_list_append mt_append (pe_ix (c_ixL (K := K) rfl) (pv 7) pe_int (fun _ _ => rfl)) (pa_cons (pe_tup (pa_cons pe_str (pa_cons pe_int pa_nil))) pa_nil))))))))
(pss_one (ps_ret pe_bl)))))), ?_⟩
    refine n_seq ?_
    refine n_asg ?_
    refine n_str (s := [97, 98, 99, 100, 101, 102, 103, 104, 105, 106, 107, 108, 109, 110, 111, 112, 113, 114, 115, 116, 117, 118, 119, 120, 121, 122]) (by decide +kernel) ?_
    refine n_name (setS (setS (setS set0))) ?_
    refine n_seq ?_
    refine n_asg ?_
    refine n_call ?_
    refine n_cons ?_
    refine n_var rfl ?_
    refine n_cons ?_
    refine n_lc ?_
    refine n_itS ?_
    refine n_var rfl ?_
    refine v_itS ?_
    obtain ⟨u8, hu8, hm⟩ := bnd hm
    obtain ⟨q9, hq9, hm⟩ := bnd hm
    intro D6 nD7
    have goD6 := g0.old nD7
    have gg42 := gr_newM (W := []) (o := .lst []) g0.fh nD7
    refine comp_s (sr_S ([97, 98, 99, 100, 101, 102, 103, 104, 105, 106, 107, 108, 109, 110, 111, 112, 113, 114, 115, 116, 117, 118, 119, 120, 121, 122] : Sg)) hq9 (need_ok hu8).1 (fun (acc7 : List (Sg × Sg)) H7 => ∃ (F7 : Hp) (vs7 : List V), Gr [] F0 H0 F7 H7 ∧ Sub F0 F7 ∧ F7 D6 = none ∧ H7 D6 = some (.lst vs7) ∧ Al (eP2 eS eS) F7 vs7 acc7) ⟨_, [], g0.trans0 gg42, Sub.refl _, g0.fh.nn nD7, upd_same, .nil⟩ ?_ ?_ ?_
    · intros; exact trivial
    · rintro a10 r12 acc13 x14 H15 H16 ⟨F21, vs22, g23, sb24, fD25, hD26, al27⟩ hY17 hm hl20 N18 hN19
      have m28 : Mu [] H0 F21 H15 D6 (.lst vs22) := ⟨fD25, hD26, .inl goD6⟩
      refine wipe_to (σ' := [some v_tree, some (.ref p1), some (.str (S x_word)), some (.str (S ([97, 98, 99, 100, 101, 102, 103, 104, 105, 106, 107, 108, 109, 110, 111, 112, 113, 114, 115, 116, 117, 118, 119, 120, 121, 122] : Sg))), none, none, none, none, none]) rfl ?_
      refine v_nmS hY17 fun l29 => ?_
      refine n_name (setS (setS (setS (setS (setS (setS (setS (setS set0)))))))) ?_
      refine ⟨rfl, ?_⟩
      refine n_yes ?_ rfl
      refine n_tup ?_
      refine n_cons ?_
      refine n_var rfl ?_
      refine n_cons ?_
      refine n_op ?_
      refine n_var rfl ?_
      refine n_var rfl ?_
      obtain ⟨t30, ht30, hm⟩ := bnd hm
      refine v_catS ht30 ?_
      refine n_nil ?_
      refine v_mk2 g23.fh (show eS.r F21 (.str (S a10)) a10 from ⟨rfl, (len1_le l29)⟩) (show eS.r F21 (.str (S t30)) t30 from ⟨rfl, (catM_le ht30)⟩) fun v31 F32 H33 d34 r35 => ?_
      have g36 := g23.trans0 d34
      have m37 := m28.call0 d34
      obtain rfl := Option.some.inj hm
      refine ⟨_, m37.hp, by rw [al_len (Al.mono al27 d34.ff)]; exact hl20, hN19 _ ?_⟩
      exact ⟨_, _, m37.gr g36, (Sub.trans sb24 d34.ff), m37.fr, upd_same, pd_snoc (Al.mono al27 d34.ff) (show (eP2 eS eS).r F32 v31 (a10, t30) from r35)⟩
    rintro H43 ⟨F44, vs45, g46, sb47, fD48, hD49, al50⟩
    have m51 : Mu [] H0 F44 H43 D6 (.lst vs45) := ⟨fD48, hD49, .inl goD6⟩
    obtain ⟨F52, q54, sb56, g55, d53⟩ := freeze g46 m51 (m51.own.resolve_right (by simp))
    have al57 := (Al.mono al50 sb56)
    refine n_nil ?_
    obtain ⟨r58, hr58, hm⟩ := bnd hm
    refine ⟨F52, (.ref p1), x_reads, (.ref D6), q9, r58, rfl, g55.fh, (⟨p1, o2, vs3, rfl, ((Sub.trans sb47 sb56) _ _ q4), (Pr.mono al5 (Sub.trans sb47 sb56))⟩ : (eDL keS (eL eI)).r F52 (.ref p1) x_reads), (⟨D6, vs45, rfl, q54, al57⟩ : (eL (eP2 eS eS)).r F52 (.ref D6) q9), hr58, fun v62 F59 H60 d61 r63 => ?_⟩
    have g64 := g55.trans0 d61
    refine n_name (setS (setS (setS (setS set0)))) ?_
    refine n_seq ?_
    refine n_asg ?_
    refine n_call ?_
    refine n_cons ?_
    refine n_var rfl ?_
    refine n_cons ?_
    refine n_lc ?_
    refine n_itS ?_
    refine n_var rfl ?_
    refine v_itS ?_
    obtain ⟨u67, hu67, hm⟩ := bnd hm
    obtain ⟨q68, hq68, hm⟩ := bnd hm
    intro D65 nD66
    have goD65 := g64.old nD66
    have gg101 := gr_newM (W := []) (o := .lst []) g64.fh nD66
    refine comp_s (sr_S ([97, 98, 99, 100, 101, 102, 103, 104, 105, 106, 107, 108, 109, 110, 111, 112, 113, 114, 115, 116, 117, 118, 119, 120, 121, 122] : Sg)) hq68 (need_ok hu67).1 (fun (acc7 : List (Sg × Sg)) H7 => ∃ (F7 : Hp) (vs7 : List V), Gr [] F0 H0 F7 H7 ∧ Sub F59 F7 ∧ F7 D65 = none ∧ H7 D65 = some (.lst vs7) ∧ Al (eP2 eS eS) F7 vs7 acc7) ⟨_, [], g64.trans0 gg101, Sub.refl _, g64.fh.nn nD66, upd_same, .nil⟩ ?_ ?_ ?_
    · intros; exact trivial
    · rintro a69 r71 acc72 x73 H74 H75 ⟨F80, vs81, g82, sb83, fD84, hD85, al86⟩ hY76 hm hl79 N77 hN78
      have m87 : Mu [] H0 F80 H74 D65 (.lst vs81) := ⟨fD84, hD85, .inl goD65⟩
      refine wipe_to (σ' := [some v_tree, some (.ref p1), some (.str (S x_word)), some (.str (S ([97, 98, 99, 100, 101, 102, 103, 104, 105, 106, 107, 108, 109, 110, 111, 112, 113, 114, 115, 116, 117, 118, 119, 120, 121, 122] : Sg))), some v62, none, none, none, none]) rfl ?_
      refine v_nmS hY76 fun l88 => ?_
      refine n_name (setS (setS (setS (setS (setS (setS (setS (setS set0)))))))) ?_
      refine ⟨rfl, ?_⟩
      refine n_yes ?_ rfl
      refine n_tup ?_
      refine n_cons ?_
      refine n_var rfl ?_
      refine n_cons ?_
      refine n_op ?_
      refine n_var rfl ?_
      refine n_var rfl ?_
      obtain ⟨t89, ht89, hm⟩ := bnd hm
      refine v_catS ht89 ?_
      refine n_nil ?_
      refine v_mk2 g82.fh (show eS.r F80 (.str (S a69)) a69 from ⟨rfl, (len1_le l88)⟩) (show eS.r F80 (.str (S t89)) t89 from ⟨rfl, (catM_le ht89)⟩) fun v90 F91 H92 d93 r94 => ?_
      have g95 := g82.trans0 d93
      have m96 := m87.call0 d93
      obtain rfl := Option.some.inj hm
      refine ⟨_, m96.hp, by rw [al_len (Al.mono al86 d93.ff)]; exact hl79, hN78 _ ?_⟩
      exact ⟨_, _, m96.gr g95, (Sub.trans sb83 d93.ff), m96.fr, upd_same, pd_snoc (Al.mono al86 d93.ff) (show (eP2 eS eS).r F91 v90 (a69, t89) from r94)⟩
    rintro H102 ⟨F103, vs104, g105, sb106, fD107, hD108, al109⟩
    have m110 : Mu [] H0 F103 H102 D65 (.lst vs104) := ⟨fD107, hD108, .inl goD65⟩
    obtain ⟨F111, q113, sb115, g114, d112⟩ := freeze g105 m110 (m110.own.resolve_right (by simp))
    have al116 := (Al.mono al109 sb115)
    refine n_nil ?_
    obtain ⟨r117, hr117, hm⟩ := bnd hm
    refine ⟨F111, (.ref p1), x_reads, (.ref D65), q68, r117, rfl, g114.fh, (⟨p1, o2, vs3, rfl, ((Sub.trans sb47 (Sub.trans sb56 (Sub.trans d61.ff (Sub.trans sb106 sb115)))) _ _ q4), (Pr.mono al5 (Sub.trans sb47 (Sub.trans sb56 (Sub.trans d61.ff (Sub.trans sb106 sb115)))))⟩ : (eDL keS (eL eI)).r F111 (.ref p1) x_reads), (⟨D65, vs104, rfl, q113, al116⟩ : (eL (eP2 eS eS)).r F111 (.ref D65) q68), hr117, fun v121 F118 H119 d120 r122 => ?_⟩
    have g123 := g114.trans0 d120
    refine n_name (setS (setS (setS (setS (setS set0))))) ?_
    refine n_seq ?_
    refine n_for ?_
    refine n_rng1 ?_
    refine n_cons ?_
    refine n_c ?_
    refine n_nil ?_
    obtain ⟨l124, hl124, hm⟩ := bnd hm
    refine v_rng1 hl124 ?_
    obtain ⟨z125, hz125, hm⟩ := bnd hm
    have hmo126 := hm
    refine for_r (sr_R1 hl124) hz125 (fun (s7 : Unit) σ7 H7 => ∃ (F7 : Hp) (o_turn : Option V) (o_some : Option V), σ7 = [some v_tree, some (.ref p1), some (.str (S x_word)), some (.str (S ([97, 98, 99, 100, 101, 102, 103, 104, 105, 106, 107, 108, 109, 110, 111, 112, 113, 114, 115, 116, 117, 118, 119, 120, 121, 122] : Sg))), some v62, some v121, o_turn, o_some, none] ∧ Gr [] F0 H0 F7 H7 ∧ Sub F118 F7) ⟨_, _, _, rfl, g123, Sub.refl _⟩ ?_ ?_ ?_
    · intros; exact trivial
    · rintro a127 s128 s129 x130 _ H131 H132 ⟨F136, o139, o140, rfl, g137, sb138⟩ hY133 hm hrt141 N134 hN135
      refine v_nmR hY133 ?_
      refine n_name (setS (setS (setS (setS (setS (setS set0)))))) ?_
      refine n_seq ?_
      refine n_asg ?_
      refine n_lst ?_
      refine n_cons ?_
      refine n_call ?_
      refine n_cons ?_
      refine n_var rfl ?_
      refine n_cons ?_
      refine n_var rfl ?_
      refine n_nil ?_
      obtain ⟨r142, hr142, hm⟩ := bnd hm
      refine ⟨F136, v_tree, x_tree, .str (S x_word), x_word, r142, rfl, g137.fh, (Rp.mono (eP2 (eT eI) eS) (Sub.trans sb47 (Sub.trans sb56 (Sub.trans d61.ff (Sub.trans sb106 (Sub.trans sb115 (Sub.trans d120.ff sb138)))))) r_tree), ⟨rfl, lr_word⟩, hr142, fun v152 F143 H144 d145 r153 => ?_⟩
      obtain ⟨p146, vs147, ev152, np148, fp149, hp150, al151⟩ := r153
      subst ev152
      have go154 := g137.old np148
      have g155 := g137.trans0 d145
      have m156 : Mu [] H0 F143 H144 p146 (.lst vs147) := ⟨fp149, hp150, .inl go154⟩
      refine n_cons ?_
      refine n_call ?_
      refine n_cons ?_
      refine n_var rfl ?_
      refine n_cons ?_
      refine n_var rfl ?_
      refine n_nil ?_
      obtain ⟨r157, hr157, hm⟩ := bnd hm
      refine ⟨F143, v_tree, x_tree, .str (S x_word), x_word, r157, rfl, g155.fh, (Rp.mono (eP2 (eT eI) eS) (Sub.trans sb47 (Sub.trans sb56 (Sub.trans d61.ff (Sub.trans sb106 (Sub.trans sb115 (Sub.trans d120.ff (Sub.trans sb138 d145.ff))))))) r_tree), ⟨rfl, lr_word⟩, hr157, fun v167 F158 H159 d160 r168 => ?_⟩
      obtain ⟨p161, vs162, ev167, np163, fp164, hp165, al166⟩ := r168
      subst ev167
      have go169 := g155.old np163
      have ne170 := m156.ne np163
      have g171 := g155.trans0 d160
      have m172 := m156.call0 d160
      have m173 : Mu [] H0 F158 H159 p161 (.lst vs162) := ⟨fp164, hp165, .inl go169⟩
      refine n_nil ?_
      refine v_mkLy (us := [(.ref p146), (.ref p161)]) g171.fh rfl fun p174 F175 H176 d177 q178 => ?_
      have g179 := g171.trans0 d177
      have m180 := m172.call0 d177
      have m181 := m173.call0 d177
      refine n_name (setS (setS (setS (setS (setS (setS (setS set0))))))) ?_
      refine n_seq ?_
      refine n_ifs ?_
      refine n_not ?_
      refine n_tB ?_
      refine n_call ?_
      refine n_cons ?_
      refine n_var rfl ?_
      refine n_cons ?_
      refine n_lst ?_
      refine n_cons ?_
      refine n_var rfl ?_
      refine n_cons ?_
      refine n_var rfl ?_
      refine n_nil ?_
      refine v_mkLF (t := (eL (eP2 eS eI))) (xs := [r58, r117]) g179.fh (.cons (Rp.mono (eL (eP2 eS eI)) (Sub.trans sb106 (Sub.trans sb115 (Sub.trans d120.ff (Sub.trans sb138 (Sub.trans d145.ff (Sub.trans d160.ff d177.ff)))))) r63) (.cons (Rp.mono (eL (eP2 eS eI)) (Sub.trans sb138 (Sub.trans d145.ff (Sub.trans d160.ff d177.ff))) r122) .nil)) rfl fun p182 F183 H184 d185 q186 al187 => ?_
      have g188 := g179.trans0 d185
      have m189 := m180.call0 d185
      have m190 := m181.call0 d185
      refine n_nil ?_
      obtain ⟨r191, hr191, hm⟩ := bnd hm
      obtain ⟨F192, q193, sb194, sh195, o196⟩ := lend (⟨m189.fr, m189.hp, m189.own⟩ : Mu [] H0 F183 H184 p146 (.lst vs147)) g188.fh
      obtain ⟨F197, q198, sb199, sh200, o201⟩ := lend (⟨(o196 _ _ (Ne.symm ne170) m190.fr), m190.hp, m190.own⟩ : Mu [] H0 F192 H184 p161 (.lst vs162)) sh195
      refine ⟨F197, (.ref p174), [r142, r157], (.ref p182), [r58, r117], r191, rfl, sh200, ⟨_, _, rfl, ((Sub.trans sb194 sb199) _ _ (d185.ff _ _ q178)), (.cons ⟨_, _, rfl, (sb199 _ _ q193), Al.mono (Al.mono al151 (Sub.trans d160.ff (Sub.trans d177.ff d185.ff))) (Sub.trans sb194 sb199)⟩ (.cons ⟨_, _, rfl, q198, Al.mono (Al.mono al166 (Sub.trans d177.ff d185.ff)) (Sub.trans sb194 sb199)⟩ .nil))⟩, (Rp.mono (eL (eL (eP2 eS eI))) (Sub.trans sb194 sb199) (show (eL (eL (eP2 eS eI))).r F183 (.ref p182) [r58, r117] from (⟨p182, [v62, v121], rfl, q186, al187⟩ : (eL (eL (eP2 eS eI))).r F183 (.ref p182) [r58, r117]))), hr191, fun v205 F202 H203 d204 r206 => ?_⟩
      have d207 := unlend (Sub.trans sb194 sb199) d204
      have r208 : eB.r F183 v205 r191 := hf_B _ _ _ _ r206
      have g209 := g188.trans0 d207
      have m210 := m189.call0 d207
      have m211 := m190.call0 d207
      have er208 : v205 = V.bl r191 := r208
      subst er208
      refine v_bl ?_
      refine br (fun hb212 => ?_) (fun hb212 => ?_)
      · replace hm := ifT hb212 hm
        refine n_ret ?_
        refine n_c ?_
        obtain rfl := Option.some.inj hm
        have hm := thenF_rt (hrt141 _ rfl) hmo126
        obtain rfl := Option.some.inj hm
        exact hk _ _ _  g209   rfl
      replace hm := ifF hb212 hm
      refine n_nextS ?_
      refine n_seq ?_
      refine n_drop ?_
      refine n_bm ?_
      refine n_op ?_
      refine n_var rfl ?_
      refine n_c ?_
      refine v_ixRawL g209.fh (d185.ff _ _ q178) (y := (.ref p146)) (by rfl) ?_
      refine ⟨tyL m210.l, ?_⟩
      refine n_cons ?_
      refine n_tup ?_
      refine n_cons ?_
      refine n_str (s := [97]) (by decide +kernel) ?_
      refine n_cons ?_
      refine n_c ?_
      refine n_nil ?_
      refine v_mk2 g209.fh (show eS.r F183 (.str (S ([97] : Sg))) ([97] : Sg) from ⟨rfl, (sz_ok (n := 1) rfl)⟩) (show eI.r F183 (.int (1 : Int)) (1 : Int) from rfl) fun v213 F214 H215 d216 r217 => ?_
      have g218 := g209.trans0 d216
      have m219 := m210.call0 d216
      have m220 := m211.call0 d216
      refine n_nil ?_
      obtain ⟨l221, hl221, hm⟩ := bnd hm
      obtain ⟨vs225, H222, g226, al224, evs225, eH222⟩ := app_ok g218 m219 (Al.mono al151 (Sub.trans d160.ff (Sub.trans d177.ff (Sub.trans d185.ff d216.ff)))) hl221 (show (eP2 eS eI).r F214 v213 (([97] : Sg), (1 : Int)) from r217)
      refine v_append m219.hp (snoc_lt (Al.mono al151 (Sub.trans d160.ff (Sub.trans d177.ff (Sub.trans d185.ff d216.ff)))) hl221) ?_
      rw [← evs225, ← eH222]
      have m227 := mu_self m219 eH222
      have m228 := mu_oth m220 (Ne.symm ne170) eH222
      refine n_drop ?_
      refine n_bm ?_
      refine n_op ?_
      refine n_var rfl ?_
      refine n_c ?_
      refine v_ixRawL g226.fh ((Sub.trans d185.ff d216.ff) _ _ q178) (y := (.ref p161)) (by rfl) ?_
      refine ⟨tyL m228.l, ?_⟩
      refine n_cons ?_
      refine n_tup ?_
      refine n_cons ?_
      refine n_str (s := [122]) (by decide +kernel) ?_
      refine n_cons ?_
      refine n_c ?_
      refine n_nil ?_
      refine v_mk2 g226.fh (show eS.r F214 (.str (S ([122] : Sg))) ([122] : Sg) from ⟨rfl, (sz_ok (n := 1) rfl)⟩) (show eI.r F214 (.int (0 : Int)) (0 : Int) from rfl) fun v229 F230 H231 d232 r233 => ?_
      have g234 := g226.trans0 d232
      have m235 := m227.call0 d232
      have m236 := m228.call0 d232
      refine n_nil ?_
      obtain ⟨l237, hl237, hm⟩ := bnd hm
      obtain ⟨vs241, H238, g242, al240, evs241, eH238⟩ := app_ok g234 m236 (Al.mono al166 (Sub.trans d177.ff (Sub.trans d185.ff (Sub.trans d216.ff d232.ff)))) hl237 (show (eP2 eS eI).r F230 v229 (([122] : Sg), (0 : Int)) from r233)
      refine v_append m236.hp (snoc_lt (Al.mono al166 (Sub.trans d177.ff (Sub.trans d185.ff (Sub.trans d216.ff d232.ff)))) hl237) ?_
      rw [← evs241, ← eH238]
      have m243 := mu_oth m235 ne170 eH238
      have m244 := mu_self m236 eH238
      obtain rfl := Option.some.inj hm
      exact hN135 _ _ _ rfl ⟨_, _, _, rfl, g242, (Sub.trans sb138 (Sub.trans d145.ff (Sub.trans d160.ff (Sub.trans d177.ff (Sub.trans d185.ff (Sub.trans d216.ff d232.ff))))))⟩
    rintro s246 _ H245 e247 ⟨F248, o251, o252, rfl, g249, sb250⟩
    subst e247
    replace hm := thenF_nx hm
    refine n_ret ?_
    refine n_c ?_
    obtain rfl := Option.some.inj hm
    exact hk _ _ _  g249   rfl

def m_law (x_script : List Int) : Option Bool :=
  (m__law_cells x_script (3 : Int)).bind fun r22 =>
  (foldR r22 () fun s55 a54 =>
  (m__law_pool a54).bind fun r74 =>
  (m__law_tree r74 (60 : Int)).bind fun r89 =>
  (m__law_reads r89.1).bind fun r100 =>
  (uptoM 0 (4 : Int)).bind fun l126 =>
  (need (szB l126.length) ()).bind fun u129 =>
  (compO l126 r89.2 fun s132 a131 =>
  (m__law_seek s132 r89.1).bind fun r153 =>
  some (r153.2, (some r153.1))).bind fun q130 =>
  (need (r100.all fun x => szB x.1.length) ()).bind fun u189 =>
  (need (decide (((1 : Int) + ((r100.length : Int) / (4 : Int))) ≠ (0 : Int))) ()).bind fun u199 =>
  (catLM q130.2 (stepL (srtL ltS (r100.map Prod.fst)) none none ((1 : Int) + ((r100.length : Int) / (4 : Int))))).bind fun l209 =>
  (need (szB l209.length) ()).bind fun u297 =>
  (compS l209 fun a299 =>
  if (inD r100 a299) = true then
  some (some a299)
  else
  some none).bind fun q298 =>
  (catLM [([] : Sg)] q298).bind fun l345 =>
  (foldR l345 () fun s363 a362 =>
  (m__law_right r89.1 r100 a362).bind fun r378 =>
  if (!r378) = true then
  some (.rt false)
  else
  some (.nx ())).bind fun z355 =>
  thenF z355 (fun s388 =>
  some (.nx ())) (fun r7 => some (.rt r7))).bind fun z43 =>
  thenF z43 (fun s396 =>
  some true) (fun r7 => some r7)
def sp_law (K : PySem.W.Frag) : Sp := fun vs H Q _ => ∃ (F : Hp) (v_script : V) (x_script : List Int) (r : Bool), vs = [v_script] ∧ Sub F H ∧ (eQ K).r F v_script x_script ∧ m_law x_script = some r ∧ ∀ (v : V) (F' H' : Hp) , Gr [] F H F' H' → eB.r F' v r → Q v H'
theorem sc_law : FnScope ["script", "cell", "pool", "tree", "reads", "words", "word", "turn"] ["script"] (defScope s_law) := ⟨rfl, rfl, rfl, by decide +kernel, rfl, by decide +kernel, by decide +kernel⟩
theorem ok_law {f : Addr} {fd : FuncData} (F : FnP K "law" s_law f fd) (H__law_cells : HasG P w K mg base "_law_cells" ["script", "most"] 1 (sp__law_cells K)) (H__law_pool : HasG P w K mg base "_law_pool" ["cell"] 1 (sp__law_pool K)) (H__law_tree : HasG P w K mg base "_law_tree" ["pool", "most"] 4 (sp__law_tree K)) (H__law_reads : HasG P w K mg base "_law_reads" ["tree"] 2 (sp__law_reads K)) (H__law_seek : HasG P w K mg base "_law_seek" ["pool", "tree"] 3 (sp__law_seek K)) (H__law_right : HasG P w K mg base "_law_right" ["tree", "reads", "word"] 7 (sp__law_right K)) (b_sorted : mg "sorted" = none) (b_range : mg "range" = none) (b_len : mg "len" = none) : FnG P w K mg base CX0 8 f fd ["script"] (sp_law K) := by
  obtain ⟨f__law_cells, fd__law_cells, G0__law_cells, g__law_cells, k__law_cells, b__law_cells⟩ := H__law_cells
  have G__law_cells := G0__law_cells.mono (show 1 ≤ 7 by decide)
  obtain ⟨f__law_pool, fd__law_pool, G0__law_pool, g__law_pool, k__law_pool, b__law_pool⟩ := H__law_pool
  have G__law_pool := G0__law_pool.mono (show 1 ≤ 7 by decide)
  obtain ⟨f__law_tree, fd__law_tree, G0__law_tree, g__law_tree, k__law_tree, b__law_tree⟩ := H__law_tree
  have G__law_tree := G0__law_tree.mono (show 4 ≤ 7 by decide)
  obtain ⟨f__law_reads, fd__law_reads, G0__law_reads, g__law_reads, k__law_reads, b__law_reads⟩ := H__law_reads
  have G__law_reads := G0__law_reads.mono (show 2 ≤ 7 by decide)
  obtain ⟨f__law_seek, fd__law_seek, G0__law_seek, g__law_seek, k__law_seek, b__law_seek⟩ := H__law_seek
  have G__law_seek := G0__law_seek.mono (show 3 ≤ 7 by decide)
  obtain ⟨f__law_right, fd__law_right, G0__law_right, g__law_right, k__law_right, b__law_right⟩ := H__law_right
  have G__law_right := G0__law_right.mono (show 7 ≤ 7 by decide)
  refine FnDok F sc_law (fun vs H Q E h => ?_) (fun cdv A outer s H0 vs Q E gd hr h => ?_)
  · obtain ⟨_, _, _, _, rfl, _⟩ := h
    rfl
  · obtain ⟨F0, v_script, x_script, r0, rfl, hs0, r_script, hm, hk⟩ := h
    have g0 : Gr [] F0 H0 F0 H0 := Gr.refl hs0
    refine ⟨_, PSs.nox (pss_cons (ps_for PassesOwn.never rfl (c_pilist (K := K) rfl (pe_callG G__law_cells gd hr (by rfl) g__law_cells k__law_cells b__law_cells pass0 (pa_cons (pv 0) (pa_cons pe_int pa_nil)))) (pg_name (i := 1) sc_law.nd rfl (by first | exact Or.inl rfl | exact Or.inr rfl)) (pss_cons (ps_set (i := 2) sc_law.nd rfl (by first | exact Or.inl rfl | exact Or.inr rfl) (pe_callG G__law_pool gd hr (by rfl) g__law_pool k__law_pool b__law_pool pass0 (pa_cons (pv 1) pa_nil)))
(pss_cons (ps_set (i := 3) sc_law.nd rfl (by first | exact Or.inl rfl | exact Or.inr rfl) (pe_callG G__law_tree gd hr (by rfl) g__law_tree k__law_tree b__law_tree pass0 (pa_cons (pv 2) (pa_cons pe_int pa_nil))))
(pss_cons (ps_set (i := 4) sc_law.nd rfl (by first | exact Or.inl rfl | exact Or.inr rfl) (pe_freeze (pe_callG G__law_reads gd hr (by rfl) g__law_reads k__law_reads b__law_reads pass0 (pa_cons (pv 3) pa_nil))))
(pss_cons (ps_set (i := 5) sc_law.nd rfl (by first | exact Or.inl rfl | exact Or.inr rfl) (pe_op op_cat (pe_lc (own := [("turn", 7)]) (g := gName 7) (by rfl) sc_law.nd (pi_range1 (by rfl) b_range (pa_cons pe_int pa_nil)) (blkOk_by (own := [("turn", 7)]) (N := ["script", "cell", "pool", "tree", "reads", "words", "word", "turn"]) (sc := defScope s_law) (by decide +kernel)) (fun _ _ _ _ _ => (pg_name (i := 7) sc_law.nd rfl (Or.inl rfl))) (fun _ _ _ _ _ => pts_nil) (fun _ _ _ _ _ => (pe_callG G__law_seek gd hr (by rfl) g__law_seek k__law_seek b__law_seek pass0 (pa_cons (pv 2) (pa_cons (pv 3) pa_nil))))) (pe_stepL (K := K) rfl (pe_callB (c_sortedDL hr rfl) (by rfl) b_sorted bo_sorted (pa_cons (pv 4) pa_nil)) po_none po_none (po_some (pe_op op_add pe_int (pe_op op_fdiv (pe_callB c_lenD (by rfl) b_len bo_len (pa_cons (pv 4) pa_nil)) pe_int))))))
(pss_one (ps_for PassesOwn.never rfl (c_pilist (K := K) rfl (pe_op op_cat (pe_lst (pa_cons pe_str pa_nil)) (pe_lc (own := [("word", 6)]) (g := gName 6) (by rfl) sc_law.nd (c_pilist (K := K) rfl (pv 5)) (blkOk_by (own := [("word", 6)]) (N := ["script", "cell", "pool", "tree", "reads", "words", "word", "turn"]) (sc := defScope s_law) (by decide +kernel)) (fun _ _ _ _ _ => (pg_name (i := 6) sc_law.nd rfl (Or.inl rfl))) (fun _ _ _ _ _ => pts_one (pt_cmp (pc_din (un1 hr) (pv 6) (pv 4)))) (fun _ _ _ _ _ => (pv 6))))) (pg_name (i := 6) sc_law.nd rfl (by first | exact Or.inl rfl | exact Or.inr rfl)) (pss_one (ps_if (pt_not (pt_val (pe_callG G__law_right gd hr (by rfl) g__law_right k__law_right b__law_right pass0 (pa_cons (pv 3) (pa_cons (pv 4) (pa_cons (pv 6) pa_nil)))))) (pss_one (ps_ret pe_bl)) pss_nil)))))))))
(pss_one (ps_ret pe_bl))), ?_⟩
    refine n_seq ?_
    refine n_for ?_
    refine n_itL ?_
    refine n_call ?_
    refine n_cons ?_
    refine n_var rfl ?_
    refine n_cons ?_
    refine n_c ?_
    refine n_nil ?_
    obtain ⟨r22, hr22, hm⟩ := bnd hm
    refine ⟨F0, v_script, x_script, .int (3 : Int), (3 : Int), r22, rfl, g0.fh, r_script, rfl, hr22, fun v32 F23 H24 d25 r33 => ?_⟩
    obtain ⟨p26, vs27, ev32, np28, fp29, hp30, al31⟩ := r33
    subst ev32
    have go34 := g0.old np28
    have g35 := g0.trans0 d25
    have m36 : Mu [] H0 F23 H24 p26 (.lst vs27) := ⟨fp29, hp30, .inl go34⟩
    obtain ⟨F37, q39, sb41, g40, d38⟩ := freeze g35 m36 (m36.own.resolve_right (by simp))
    have al42 := (Al.mono al31 sb41)
    refine v_itL (SqL.of (g40.fh _ _ q39)) ?_
    obtain ⟨z43, hz43, hm⟩ := bnd hm
    have hmo44 := hm
    refine for_r (sr_L al42) hz43 (fun (s7 : Unit) σ7 H7 => ∃ (F7 : Hp) (o_cell : Option V) (o_pool : Option V) (o_tree : Option V) (o_reads : Option V) (o_words : Option V) (o_word : Option V), σ7 = [some v_script, o_cell, o_pool, o_tree, o_reads, o_words, o_word, none] ∧ Gr [] F0 H0 F7 H7 ∧ Sub F37 F7) ⟨_, _, _, _, _, _, _, rfl, g40, Sub.refl _⟩ ?_ ?_ ?_
    · rintro s7 _ H7 ⟨F45, o48, o49, o50, o51, o52, o53, rfl, g46, sb47⟩
      exact (SqL.of (g46.fh _ _ (sb47 _ _ q39)))
    · rintro a54 s55 s56 x57 _ H58 H59 ⟨F63, o66, o67, o68, o69, o70, o71, rfl, g64, sb65⟩ hY60 hm hrt72 N61 hN62
      refine v_nmY hY60 fun r73 => ?_
      have er73 : x57 = V.int a54 := r73
      subst er73
      refine n_name (setS set0) ?_
      refine n_seq ?_
      refine n_asg ?_
      refine n_call ?_
      refine n_cons ?_
      refine n_var rfl ?_
      refine n_nil ?_
      obtain ⟨r74, hr74, hm⟩ := bnd hm
      refine ⟨F63, .int a54, a54, r74, rfl, g64.fh, rfl, hr74, fun v84 F75 H76 d77 r85 => ?_⟩
      obtain ⟨p78, vs79, ev84, np80, fp81, hp82, al83⟩ := r85
      subst ev84
      have go86 := g64.old np80
      have g87 := g64.trans0 d77
      have m88 : Mu [] H0 F75 H76 p78 (.lst vs79) := ⟨fp81, hp82, .inl go86⟩
      refine n_name (setS (setS set0)) ?_
      refine n_seq ?_
      refine n_asg ?_
      refine n_call ?_
      refine n_cons ?_
      refine n_var rfl ?_
      refine n_cons ?_
      refine n_c ?_
      refine n_nil ?_
      obtain ⟨r89, hr89, hm⟩ := bnd hm
      refine ⟨F75, p78, vs79, r74, .int (60 : Int), (60 : Int), r89, rfl, g87.fh, m88.fr, m88.hp, al83, rfl, hr89, fun v96 F90 H91 vs93 d92 hp94 al95 r97 => ?_⟩
      have g98 := g87.trans d92 (fun a ha => (List.mem_cons.mp ha).elim (fun e => e ▸ m88.own) (fun ha => absurd ha (by simp)))
      have m99 := m88.back d92 hp94
      refine n_name (setS (setS (setS set0))) ?_
      refine n_seq ?_
      refine n_asg ?_
      refine n_freeze ?_
      refine n_call ?_
      refine n_cons ?_
      refine n_var rfl ?_
      refine n_nil ?_
      obtain ⟨r100, hr100, hm⟩ := bnd hm
      refine ⟨F90, v96, r89.1, r100, rfl, g98.fh, r97, hr100, fun v110 F101 H102 d103 r111 => ?_⟩
      obtain ⟨p104, vs105, ev110, np106, fp107, hp108, al109⟩ := r111
      subst ev110
      have go112 := g98.old np106
      have ne113 := m99.ne np106
      have g114 := g98.trans0 d103
      have m115 := m99.call0 d103
      have m116 : Mu [] H0 F101 H102 p104 ((dyK keS).ho vs105) := ⟨fp107, hp108, .inl go112⟩
      refine v_freeze g114 m116 (m116.own.resolve_right (by simp)) trivial fun o117 F118 H119 q120 sb121 g122 d123 => ?_
      have m124 := d123 _ _ ne113 m115
      have al125 := Pr.mono al109 sb121
      refine n_name (setS (setS (setS (setS set0)))) ?_
      refine n_seq ?_
      refine n_asg ?_
      refine n_op ?_
      refine n_lc ?_
      refine n_rng1 ?_
      refine n_cons ?_
      refine n_c ?_
      refine n_nil ?_
      obtain ⟨l126, hl126, hm⟩ := bnd hm
      refine v_rng1 hl126 ?_
      obtain ⟨u129, hu129, hm⟩ := bnd hm
      obtain ⟨q130, hq130, hm⟩ := bnd hm
      intro D127 nD128
      have goD127 := g122.old nD128
      have neD127_p78 := m124.ne nD128
      have gg169 := gr_newM (W := []) (o := .lst []) g122.fh nD128
      refine comp_o (sr_R1 hl126) hq130 (need_ok hu129).1 (fun (s7 : List Int) (acc7 : List Sg) H7 => ∃ (F7 : Hp) (vs7 : List V) (us0 : List V), Gr [] F0 H0 F7 H7 ∧ Sub F118 F7 ∧ F7 D127 = none ∧ H7 D127 = some (.lst vs7) ∧ Al eS F7 vs7 acc7 ∧ Mu [] H0 F7 H7 p78 (.lst us0) ∧ Al eI F7 us0 s7) ⟨_, [], vs93, g122.trans0 gg169, Sub.refl _, g122.fh.nn nD128, upd_same, .nil, m124.call0 gg169, (Al.mono al95 (Sub.trans d103.ff sb121))⟩ ?_ ?_ ?_
      · intros; exact trivial
      · rintro a131 s132 r133 acc134 x135 H136 H137 ⟨F142, vs143, vs149, g144, sb145, fD146, hD147, al148, m150, al151⟩ hY138 hm hl141 N139 hN140
        have m152 : Mu [] H0 F142 H136 D127 (.lst vs143) := ⟨fD146, hD147, .inl goD127⟩
        refine wipe_to (σ' := [some v_script, some (.int a54), some (.ref p78), some v96, some (.ref p104), o70, o71, none]) rfl ?_
        refine v_nmR hY138 ?_
        refine n_name (setS (setS (setS (setS (setS (setS (setS set0))))))) ?_
        refine ⟨rfl, ?_⟩
        refine n_yes ?_ rfl
        refine n_call ?_
        refine n_cons ?_
        refine n_var rfl ?_
        refine n_cons ?_
        refine n_var rfl ?_
        refine n_nil ?_
        obtain ⟨r153, hr153, hm⟩ := bnd hm
        refine ⟨F142, p78, vs149, s132, v96, r89.1, r153, rfl, g144.fh, m150.fr, m150.hp, al151, (Rp.mono (eP2 (eT eI) eS) (Sub.trans d103.ff (Sub.trans sb121 sb145)) r97), hr153, fun v160 F154 H155 vs157 d156 hp158 al159 r161 => ?_⟩
        have g162 := g144.trans d156 (fun a ha => (List.mem_cons.mp ha).elim (fun e => e ▸ m150.own) (fun ha => absurd ha (by simp)))
        have m163 := m150.back d156 hp158
        have m164 := m152.call d156 (nin1 (Ne.symm neD127_p78))
        obtain ⟨er161, lr161⟩ : v160 = V.str (S r153.1) ∧ r153.1.length ≤ sizeLine := r161
        subst er161
        obtain rfl := Option.some.inj hm
        refine ⟨_, m164.hp, by rw [al_len (Al.mono al148 d156.ff)]; exact hl141, hN140 _ ?_⟩
        exact ⟨_, _, vs157, m164.gr g162, (Sub.trans sb145 d156.ff), m164.fr, upd_same, pd_snoc (Al.mono al148 d156.ff) (show eS.r F154 (.str (S r153.1)) r153.1 from ⟨rfl, lr161⟩), m163.mut neD127_p78, al159⟩
      rintro H170 ⟨F171, vs172, vs178, g173, sb174, fD175, hD176, al177, m179, al180⟩
      have m181 : Mu [] H0 F171 H170 D127 (.lst vs172) := ⟨fD175, hD176, .inl goD127⟩
      obtain ⟨F182, q184, sb186, g185, d183⟩ := freeze g173 m181 (m181.own.resolve_right (by simp))
      have m187 := d183 _ _ neD127_p78 m179
      have al188 := (Al.mono al177 sb186)
      refine n_stepL ?_
      refine n_cb ?_
      refine n_cons ?_
      refine n_var rfl ?_
      refine n_nil ?_
      obtain ⟨u189, hu189, hm⟩ := bnd hm
      refine v_sortDF g185.fh (.inr ⟨_, g185.fh _ _ ((Sub.trans sb174 sb186) _ _ q120)⟩) (Pr.mono al125 (Sub.trans sb174 sb186)) (need_ok hu189).1 fun p190 vs191 F193 H194 d195 q196 al192 => ?_
      have g197 := g185.trans0 d195
      have m198 := m187.call0 d195
      refine n_nopart ?_
      refine n_nopart ?_
      refine n_part ?_
      refine n_op ?_
      refine n_c ?_
      refine n_op ?_
      refine n_cb ?_
      refine n_cons ?_
      refine n_var rfl ?_
      refine n_nil ?_
      refine v_lenDL g197.fh ((Sub.trans sb174 (Sub.trans sb186 d195.ff)) _ _ q120) (Pr.mono al125 (Sub.trans sb174 (Sub.trans sb186 d195.ff))) ?_
      refine n_c ?_
      refine v_divK (by decide) ?_
      refine v_i2 ?_
      refine v_part ?_
      obtain ⟨u199, hu199, hm⟩ := bnd hm
      refine v_stepLF g197.fh (SqL.of (g197.fh _ _ q196)) al192 (need_ok hu199).1 fun p200 vs201 F203 H204 d205 q206 al202 => ?_
      have g207 := g197.trans0 d205
      have m208 := m198.call0 d205
      obtain ⟨l209, hl209, hm⟩ := bnd hm
      refine v_catF g207.fh (g207.fh _ _ ((Sub.trans d195.ff d205.ff) _ _ q184)) (g207.fh _ _ q206) (Al.mono al188 (Sub.trans d195.ff d205.ff)) al202 hl209 fun p210 vs211 F213 H214 d215 q216 al212 => ?_
      have g217 := g207.trans0 d215
      have m218 := m208.call0 d215
      refine n_name (setS (setS (setS (setS (setS set0))))) ?_
      refine n_for ?_
      refine n_itL ?_
      refine n_op ?_
      refine n_lst ?_
      refine n_cons ?_
      refine n_str (s := []) (by decide +kernel) ?_
      refine n_nil ?_
      refine v_mkLF (t := eS) (xs := [([] : Sg)]) g217.fh (.cons ⟨rfl, (sz_ok (n := 0) rfl)⟩ .nil) rfl fun p287 F288 H289 d290 q291 al292 => ?_
      have g293 := g217.trans0 d290
      have m294 := m218.call0 d290
      refine n_lc ?_
      refine n_itL ?_
      refine n_var rfl ?_
      refine v_itL (SqL.of (g293.fh _ _ (d290.ff _ _ q216))) ?_
      obtain ⟨u297, hu297, hm⟩ := bnd hm
      obtain ⟨q298, hq298, hm⟩ := bnd hm
      intro D295 nD296
      have goD295 := g293.old nD296
      have neD295_p78 := m294.ne nD296
      have gg326 := gr_newM (W := []) (o := .lst []) g293.fh nD296
      refine comp_s (sr_L (Al.mono al212 d290.ff)) hq298 (need_ok hu297).1 (fun (acc7 : List Sg) H7 => ∃ (F7 : Hp) (vs7 : List V), Gr [] F0 H0 F7 H7 ∧ Sub F288 F7 ∧ F7 D295 = none ∧ H7 D295 = some (.lst vs7) ∧ Al eS F7 vs7 acc7 ∧ Mu [] H0 F7 H7 p78 (.lst vs178)) ⟨_, [], g293.trans0 gg326, Sub.refl _, g293.fh.nn nD296, upd_same, .nil, m294.call0 gg326⟩ ?_ ?_ ?_
      · rintro _ _ ⟨F310, vs311, g312, sb313, _, _, _, _⟩
        exact (SqL.of (g312.fh _ _ ((Sub.trans d290.ff sb313) _ _ q216)))
      · rintro a299 r301 acc302 x303 H304 H305 ⟨F310, vs311, g312, sb313, fD314, hD315, al316, m317⟩ hY306 hm hl309 N307 hN308
        have m319 : Mu [] H0 F310 H304 D295 (.lst vs311) := ⟨fD314, hD315, .inl goD295⟩
        refine wipe_to (σ' := [some v_script, some (.int a54), some (.ref p78), some v96, some (.ref p104), some (.ref p210), none, none]) rfl ?_
        refine v_nmY hY306 fun r320 => ?_
        obtain ⟨er320, lr320⟩ : x303 = V.str (S a299) ∧ a299.length ≤ sizeLine := r320
        subst er320
        refine n_name (setS (setS (setS (setS (setS (setS set0)))))) ?_
        refine ⟨rfl, ?_⟩
        refine n_tB ?_
        refine n_din ?_
        refine n_var rfl ?_
        refine n_var rfl ?_
        refine v_dinL g312.fh ((Sub.trans sb174 (Sub.trans sb186 (Sub.trans d195.ff (Sub.trans d205.ff (Sub.trans d215.ff (Sub.trans d290.ff sb313)))))) _ _ q120) (Pr.mono al125 (Sub.trans sb174 (Sub.trans sb186 (Sub.trans d195.ff (Sub.trans d205.ff (Sub.trans d215.ff (Sub.trans d290.ff sb313))))))) (show eS.r F310 (.str (S a299)) a299 from ⟨rfl, lr320⟩) ?_
        refine v_bl ?_
        refine br (fun hb321 => ?_) (fun hb321 => ?_)
        · replace hm := ifT hb321 hm
          refine n_var rfl ?_
          obtain rfl := Option.some.inj hm
          refine ⟨_, m319.hp, by rw [al_len al316]; exact hl309, hN308 _ ?_⟩
          exact ⟨_, _, m319.gr g312, sb313, m319.fr, upd_same, pd_snoc al316 (show eS.r F310 (.str (S a299)) a299 from ⟨rfl, lr320⟩), m317.mut neD295_p78⟩
        · replace hm := ifF hb321 hm
          obtain rfl := Option.some.inj hm
          refine hN308 _ ?_
          simp only [Option.toList, List.append_nil]
          exact ⟨_, _, g312, sb313, m319.fr, m319.hp, al316, m317⟩
      rintro H327 ⟨F328, vs329, g330, sb331, fD332, hD333, al334, m335⟩
      have m337 : Mu [] H0 F328 H327 D295 (.lst vs329) := ⟨fD332, hD333, .inl goD295⟩
      obtain ⟨F338, q340, sb342, g341, d339⟩ := freeze g330 m337 (m337.own.resolve_right (by simp))
      have m343 := d339 _ _ neD295_p78 m335
      have al344 := (Al.mono al334 sb342)
      obtain ⟨l345, hl345, hm⟩ := bnd hm
      refine v_catF g341.fh (g341.fh _ _ ((Sub.trans sb331 sb342) _ _ q291)) (g341.fh _ _ q340) (Al.mono al292 (Sub.trans sb331 sb342)) al344 hl345 fun p346 vs347 F349 H350 d351 q352 al348 => ?_
      have g353 := g341.trans0 d351
      have m354 := m343.call0 d351
      refine v_itL (SqL.of (g353.fh _ _ q352)) ?_
      obtain ⟨z355, hz355, hm⟩ := bnd hm
      have hmo356 := hm
      refine for_r (sr_L al348) hz355 (fun (s7 : Unit) σ7 H7 => ∃ (F7 : Hp) (o_word : Option V), σ7 = [some v_script, some (.int a54), some (.ref p78), some v96, some (.ref p104), some (.ref p210), o_word, none] ∧ Gr [] F0 H0 F7 H7 ∧ Sub F349 F7 ∧ Mu [] H0 F7 H7 p78 (.lst vs178)) ⟨_, _, rfl, g353, Sub.refl _, m354⟩ ?_ ?_ ?_
      · rintro s7 _ H7 ⟨F357, o360, rfl, g358, sb359, m361⟩
        exact (SqL.of (g358.fh _ _ (sb359 _ _ q352)))
      · rintro a362 s363 s364 x365 _ H366 H367 ⟨F371, o374, rfl, g372, sb373, m375⟩ hY368 hm hrt376 N369 hN370
        refine v_nmY hY368 fun r377 => ?_
        obtain ⟨er377, lr377⟩ : x365 = V.str (S a362) ∧ a362.length ≤ sizeLine := r377
        subst er377
        refine n_name (setS (setS (setS (setS (setS (setS set0)))))) ?_
        refine n_ifs ?_
        refine n_not ?_
        refine n_tB ?_
        refine n_call ?_
        refine n_cons ?_
        refine n_var rfl ?_
        refine n_cons ?_
        refine n_var rfl ?_
        refine n_cons ?_
        refine n_var rfl ?_
        refine n_nil ?_
        obtain ⟨r378, hr378, hm⟩ := bnd hm
        refine ⟨F371, v96, r89.1, (.ref p104), r100, .str (S a362), a362, r378, rfl, g372.fh, (Rp.mono (eP2 (eT eI) eS) (Sub.trans d103.ff (Sub.trans sb121 (Sub.trans sb174 (Sub.trans sb186 (Sub.trans d195.ff (Sub.trans d205.ff (Sub.trans d215.ff (Sub.trans d290.ff (Sub.trans sb331 (Sub.trans sb342 (Sub.trans d351.ff sb373))))))))))) r97), (⟨p104, o117, vs105, rfl, ((Sub.trans sb174 (Sub.trans sb186 (Sub.trans d195.ff (Sub.trans d205.ff (Sub.trans d215.ff (Sub.trans d290.ff (Sub.trans sb331 (Sub.trans sb342 (Sub.trans d351.ff sb373))))))))) _ _ q120), (Pr.mono al125 (Sub.trans sb174 (Sub.trans sb186 (Sub.trans d195.ff (Sub.trans d205.ff (Sub.trans d215.ff (Sub.trans d290.ff (Sub.trans sb331 (Sub.trans sb342 (Sub.trans d351.ff sb373))))))))))⟩ : (eDL keS (eL eI)).r F371 (.ref p104) r100), ⟨rfl, lr377⟩, hr378, fun v382 F379 H380 d381 r383 => ?_⟩
        have g384 := g372.trans0 d381
        have m385 := m375.call0 d381
        have er383 : v382 = V.bl r378 := r383
        subst er383
        refine v_bl ?_
        refine br (fun hb386 => ?_) (fun hb386 => ?_)
        · replace hm := ifT hb386 hm
          refine n_ret ?_
          refine n_c ?_
          obtain rfl := Option.some.inj hm
          have hm := thenF_rt (hrt376 _ rfl) hmo356
          obtain rfl := Option.some.inj hm
          have hm := thenF_rt (hrt72 _ rfl) hmo44
          obtain rfl := Option.some.inj hm
          exact hk _ _ _  g384   rfl
        replace hm := ifF hb386 hm
        refine n_nextS ?_
        obtain rfl := Option.some.inj hm
        exact hN370 _ _ _ rfl ⟨_, _, rfl, g384, (Sub.trans sb373 d381.ff), m385⟩
      rintro s388 _ H387 e389 ⟨F390, o393, rfl, g391, sb392, m394⟩
      subst e389
      replace hm := thenF_nx hm
      obtain rfl := Option.some.inj hm
      exact hN62 _ _ _ rfl ⟨_, _, _, _, _, _, _, rfl, g391, (Sub.trans sb65 (Sub.trans d77.ff (Sub.trans d92.ff (Sub.trans d103.ff (Sub.trans sb121 (Sub.trans sb174 (Sub.trans sb186 (Sub.trans d195.ff (Sub.trans d205.ff (Sub.trans d215.ff (Sub.trans d290.ff (Sub.trans sb331 (Sub.trans sb342 (Sub.trans d351.ff sb392))))))))))))))⟩
    rintro s396 _ H395 e397 ⟨F398, o401, o402, o403, o404, o405, o406, rfl, g399, sb400⟩
    subst e397
    replace hm := thenF_nx hm
    refine n_ret ?_
    refine n_c ?_
    obtain rfl := Option.some.inj hm
    exact hk _ _ _  g399   rfl

end
def d_depths_of : He.DefD := ⟨("depths_of", none), "depths_of", "depths_of", defArgs s_depths_of, defBody s_depths_of, defScope s_depths_of, [], []⟩
def d_word_of : He.DefD := ⟨("word_of", none), "word_of", "word_of", defArgs s_word_of, defBody s_word_of, defScope s_word_of, [], []⟩
def d_numbered_keys : He.DefD := ⟨("numbered_keys", none), "numbered_keys", "numbered_keys", defArgs s_numbered_keys, defBody s_numbered_keys, defScope s_numbered_keys, [], []⟩
def d_number_above : He.DefD := ⟨("number_above", none), "number_above", "number_above", defArgs s_number_above, defBody s_number_above, defScope s_number_above, [], []⟩
def d_classes_of : He.DefD := ⟨("classes_of", none), "classes_of", "classes_of", defArgs s_classes_of, defBody s_classes_of, defScope s_classes_of, [], []⟩
def d_order_of : He.DefD := ⟨("order_of", none), "order_of", "order_of", defArgs s_order_of, defBody s_order_of, defScope s_order_of, [], []⟩
def d_sorted_words : He.DefD := ⟨("sorted_words", none), "sorted_words", "sorted_words", defArgs s_sorted_words, defBody s_sorted_words, defScope s_sorted_words, [], []⟩
def d_less_than : He.DefD := ⟨("less_than", none), "less_than", "less_than", defArgs s_less_than, defBody s_less_than, defScope s_less_than, [], []⟩
def d_not_above : He.DefD := ⟨("not_above", none), "not_above", "not_above", defArgs s_not_above, defBody s_not_above, defScope s_not_above, [], []⟩
def d_stretch_in : He.DefD := ⟨("stretch_in", none), "stretch_in", "stretch_in", defArgs s_stretch_in, defBody s_stretch_in, defScope s_stretch_in, [], []⟩
def d_many_in : He.DefD := ⟨("many_in", none), "many_in", "many_in", defArgs s_many_in, defBody s_many_in, defScope s_many_in, [], []⟩
def d_letters_more : He.DefD := ⟨("letters_more", none), "letters_more", "letters_more", defArgs s_letters_more, defBody s_letters_more, defScope s_letters_more, [], []⟩
def d_fronts_of : He.DefD := ⟨("fronts_of", none), "fronts_of", "fronts_of", defArgs s_fronts_of, defBody s_fronts_of, defScope s_fronts_of, [], []⟩
def d_behinds_of : He.DefD := ⟨("behinds_of", none), "behinds_of", "behinds_of", defArgs s_behinds_of, defBody s_behinds_of, defScope s_behinds_of, [], []⟩
def d__law_prime : He.DefD := ⟨("_law_prime", none), "_law_prime", "_law_prime", defArgs s__law_prime, defBody s__law_prime, defScope s__law_prime, [], []⟩
def d__law_pool : He.DefD := ⟨("_law_pool", none), "_law_pool", "_law_pool", defArgs s__law_pool, defBody s__law_pool, defScope s__law_pool, [], []⟩
def d__law_take : He.DefD := ⟨("_law_take", none), "_law_take", "_law_take", defArgs s__law_take, defBody s__law_take, defScope s__law_take, [], []⟩
def d__law_cells : He.DefD := ⟨("_law_cells", none), "_law_cells", "_law_cells", defArgs s__law_cells, defBody s__law_cells, defScope s__law_cells, [], []⟩
def d__law_letter : He.DefD := ⟨("_law_letter", none), "_law_letter", "_law_letter", defArgs s__law_letter, defBody s__law_letter, defScope s__law_letter, [], []⟩
def d__law_tree : He.DefD := ⟨("_law_tree", none), "_law_tree", "_law_tree", defArgs s__law_tree, defBody s__law_tree, defScope s__law_tree, [], []⟩
def d__law_word : He.DefD := ⟨("_law_word", none), "_law_word", "_law_word", defArgs s__law_word, defBody s__law_word, defScope s__law_word, [], []⟩
def d__law_reads : He.DefD := ⟨("_law_reads", none), "_law_reads", "_law_reads", defArgs s__law_reads, defBody s__law_reads, defScope s__law_reads, [], []⟩
def d__law_seek : He.DefD := ⟨("_law_seek", none), "_law_seek", "_law_seek", defArgs s__law_seek, defBody s__law_seek, defScope s__law_seek, [], []⟩
def d__law_same : He.DefD := ⟨("_law_same", none), "_law_same", "_law_same", defArgs s__law_same, defBody s__law_same, defScope s__law_same, [], []⟩
def d__law_pairs : He.DefD := ⟨("_law_pairs", none), "_law_pairs", "_law_pairs", defArgs s__law_pairs, defBody s__law_pairs, defScope s__law_pairs, [], []⟩
def d__law_right : He.DefD := ⟨("_law_right", none), "_law_right", "_law_right", defArgs s__law_right, defBody s__law_right, defScope s__law_right, [], []⟩
def d_law : He.DefD := ⟨("law", none), "law", "law", defArgs s_law, defBody s_law, defScope s_law, [], []⟩
def fn0 : List He.DefD := [d_depths_of, d_word_of, d_numbered_keys, d_number_above, d_classes_of, d_order_of, d_sorted_words, d_less_than, d_not_above, d_stretch_in, d_many_in, d_letters_more, d_fronts_of, d_behinds_of, d__law_prime, d__law_pool, d__law_take, d__law_cells, d__law_letter, d__law_tree, d__law_word, d__law_reads, d__law_seek, d__law_same, d__law_pairs, d__law_right, d_law]
def fn : List He.DefD := fn0
def fa0 : List He.Fa := [.glo "depths_of", .glo "word_of", .glo "numbered_keys", .glo "number_above", .glo "classes_of", .glo "order_of", .glo "sorted_words", .glo "less_than", .glo "not_above", .glo "stretch_in", .glo "many_in", .glo "letters_more", .glo "fronts_of", .glo "behinds_of", .glo "_law_prime", .glo "_law_pool", .glo "_law_take", .glo "_law_cells", .glo "_law_letter", .glo "_law_tree", .glo "_law_word", .glo "_law_reads", .glo "_law_seek", .glo "_law_same", .glo "_law_pairs", .glo "_law_right", .glo "law", .free "dict", .free "enumerate", .free "sorted"]
def fa1 : List He.Fa := [.free "set", .free "range", .free "len", .free "min", .free "max", .free "zip", .free "list", .free "tuple", .free "int", .free "isinstance", .free "all", .free "bool", .free "str", .int "LONGEST" 60, .str "LETTERS" "abcdefghijklmnopqrstuvwxyz"]
def fa : List He.Fa := fa0 ++ fa1
def loose0 : List PySem.Str := ["depths_of", "word_of", "numbered_keys", "number_above", "classes_of", "order_of", "sorted_words", "less_than", "not_above", "stretch_in", "many_in", "letters_more", "fronts_of", "behinds_of", "_law_prime", "_law_pool", "_law_take", "_law_cells", "_law_letter", "_law_tree", "_law_word", "_law_reads", "_law_seek", "_law_same", "_law_pairs", "_law_right", "LETTERS", "LONGEST", "UpError", "NoWord"]
def loose : List PySem.Str := loose0
abbrev R : PySem.W.OpenRow := PySem.W.OpenLaw.row PySem.Challenge.rw_upwords_k22_letters_ahead_and_behind
abbrev hk : PySem.W.Hook := He.hookD 4 fa fn
def ob (s : PySem.W.SharedT) : He.AlD := He.obsDG 4 fa fn (HandSHeadRun.getT s)
theorem ob_eq (s : PySem.W.SharedT) : ob s = hk.obs s.abs := He.obsDG_eq (HandSHeadRun.getT_eq s)
theorem run (w : World) : HandSHeadRun.RunEq R (PySem.W.view R.prog [37]) hk ob 4000 loose w := by
  intro os
  kernel_rfl
theorem facts {P : Program} {w : World} {K : PySem.W.Frag} {h : Heap} {mg : Str → Option Value} {f : Addr} (X : K.In h) (G : h.Ns mainGlobals mg) (hfa : mg ("law" : Str) = some (.ref f)) (c : He.SaysD fa fn K) :
    ∃ fd : FuncData, (∀ (s : Shared) (v : Value), BindsTo s fd ⟨[v], []⟩ [("script", v)]) ∧ ∀ base : Heap, K.In base → base.Ns mainGlobals mg → FnG P w K mg base CX0 8 f fd ["script"] (sp_law K) := by
  obtain ⟨fd_depths_of, F_depths_of⟩ := c.def_ 0 (d := d_depths_of) rfl
  have g_depths_of := He.glo_ok X G (c.fact 0 (f := .glo "depths_of") rfl)
  obtain ⟨fd_word_of, F_word_of⟩ := c.def_ 1 (d := d_word_of) rfl
  have g_word_of := He.glo_ok X G (c.fact 1 (f := .glo "word_of") rfl)
  obtain ⟨fd_numbered_keys, F_numbered_keys⟩ := c.def_ 2 (d := d_numbered_keys) rfl
  have g_numbered_keys := He.glo_ok X G (c.fact 2 (f := .glo "numbered_keys") rfl)
  obtain ⟨fd_number_above, F_number_above⟩ := c.def_ 3 (d := d_number_above) rfl
  have g_number_above := He.glo_ok X G (c.fact 3 (f := .glo "number_above") rfl)
  obtain ⟨fd_classes_of, F_classes_of⟩ := c.def_ 4 (d := d_classes_of) rfl
  have g_classes_of := He.glo_ok X G (c.fact 4 (f := .glo "classes_of") rfl)
  obtain ⟨fd_order_of, F_order_of⟩ := c.def_ 5 (d := d_order_of) rfl
  have g_order_of := He.glo_ok X G (c.fact 5 (f := .glo "order_of") rfl)
  obtain ⟨fd_sorted_words, F_sorted_words⟩ := c.def_ 6 (d := d_sorted_words) rfl
  have g_sorted_words := He.glo_ok X G (c.fact 6 (f := .glo "sorted_words") rfl)
  obtain ⟨fd_less_than, F_less_than⟩ := c.def_ 7 (d := d_less_than) rfl
  have g_less_than := He.glo_ok X G (c.fact 7 (f := .glo "less_than") rfl)
  obtain ⟨fd_not_above, F_not_above⟩ := c.def_ 8 (d := d_not_above) rfl
  have g_not_above := He.glo_ok X G (c.fact 8 (f := .glo "not_above") rfl)
  obtain ⟨fd_stretch_in, F_stretch_in⟩ := c.def_ 9 (d := d_stretch_in) rfl
  have g_stretch_in := He.glo_ok X G (c.fact 9 (f := .glo "stretch_in") rfl)
  obtain ⟨fd_many_in, F_many_in⟩ := c.def_ 10 (d := d_many_in) rfl
  have g_many_in := He.glo_ok X G (c.fact 10 (f := .glo "many_in") rfl)
  obtain ⟨fd_letters_more, F_letters_more⟩ := c.def_ 11 (d := d_letters_more) rfl
  have g_letters_more := He.glo_ok X G (c.fact 11 (f := .glo "letters_more") rfl)
  obtain ⟨fd_fronts_of, F_fronts_of⟩ := c.def_ 12 (d := d_fronts_of) rfl
  have g_fronts_of := He.glo_ok X G (c.fact 12 (f := .glo "fronts_of") rfl)
  obtain ⟨fd_behinds_of, F_behinds_of⟩ := c.def_ 13 (d := d_behinds_of) rfl
  have g_behinds_of := He.glo_ok X G (c.fact 13 (f := .glo "behinds_of") rfl)
  obtain ⟨fd__law_prime, F__law_prime⟩ := c.def_ 14 (d := d__law_prime) rfl
  have g__law_prime := He.glo_ok X G (c.fact 14 (f := .glo "_law_prime") rfl)
  obtain ⟨fd__law_pool, F__law_pool⟩ := c.def_ 15 (d := d__law_pool) rfl
  have g__law_pool := He.glo_ok X G (c.fact 15 (f := .glo "_law_pool") rfl)
  obtain ⟨fd__law_take, F__law_take⟩ := c.def_ 16 (d := d__law_take) rfl
  have g__law_take := He.glo_ok X G (c.fact 16 (f := .glo "_law_take") rfl)
  obtain ⟨fd__law_cells, F__law_cells⟩ := c.def_ 17 (d := d__law_cells) rfl
  have g__law_cells := He.glo_ok X G (c.fact 17 (f := .glo "_law_cells") rfl)
  obtain ⟨fd__law_letter, F__law_letter⟩ := c.def_ 18 (d := d__law_letter) rfl
  have g__law_letter := He.glo_ok X G (c.fact 18 (f := .glo "_law_letter") rfl)
  obtain ⟨fd__law_tree, F__law_tree⟩ := c.def_ 19 (d := d__law_tree) rfl
  have g__law_tree := He.glo_ok X G (c.fact 19 (f := .glo "_law_tree") rfl)
  obtain ⟨fd__law_word, F__law_word⟩ := c.def_ 20 (d := d__law_word) rfl
  have g__law_word := He.glo_ok X G (c.fact 20 (f := .glo "_law_word") rfl)
  obtain ⟨fd__law_reads, F__law_reads⟩ := c.def_ 21 (d := d__law_reads) rfl
  have g__law_reads := He.glo_ok X G (c.fact 21 (f := .glo "_law_reads") rfl)
  obtain ⟨fd__law_seek, F__law_seek⟩ := c.def_ 22 (d := d__law_seek) rfl
  have g__law_seek := He.glo_ok X G (c.fact 22 (f := .glo "_law_seek") rfl)
  obtain ⟨fd__law_same, F__law_same⟩ := c.def_ 23 (d := d__law_same) rfl
  have g__law_same := He.glo_ok X G (c.fact 23 (f := .glo "_law_same") rfl)
  obtain ⟨fd__law_pairs, F__law_pairs⟩ := c.def_ 24 (d := d__law_pairs) rfl
  have g__law_pairs := He.glo_ok X G (c.fact 24 (f := .glo "_law_pairs") rfl)
  obtain ⟨fd__law_right, F__law_right⟩ := c.def_ 25 (d := d__law_right) rfl
  have g__law_right := He.glo_ok X G (c.fact 25 (f := .glo "_law_right") rfl)
  obtain ⟨fd_law, F_law⟩ := c.def_ 26 (d := d_law) rfl
  have g_law := He.glo_ok X G (c.fact 26 (f := .glo "law") rfl)
  have b_dict := He.free_ok X G (c.fact 27 (f := .free "dict") rfl)
  have b_enumerate := He.free_ok X G (c.fact 28 (f := .free "enumerate") rfl)
  have b_sorted := He.free_ok X G (c.fact 29 (f := .free "sorted") rfl)
  have b_set := He.free_ok X G (c.fact 30 (f := .free "set") rfl)
  have b_range := He.free_ok X G (c.fact 31 (f := .free "range") rfl)
  have b_len := He.free_ok X G (c.fact 32 (f := .free "len") rfl)
  have b_min := He.free_ok X G (c.fact 33 (f := .free "min") rfl)
  have b_max := He.free_ok X G (c.fact 34 (f := .free "max") rfl)
  have b_zip := He.free_ok X G (c.fact 35 (f := .free "zip") rfl)
  have b_list := He.free_ok X G (c.fact 36 (f := .free "list") rfl)
  have b_tuple := He.free_ok X G (c.fact 37 (f := .free "tuple") rfl)
  have b_int := He.free_ok X G (c.fact 38 (f := .free "int") rfl)
  have b_isinstance := He.free_ok X G (c.fact 39 (f := .free "isinstance") rfl)
  have b_all := He.free_ok X G (c.fact 40 (f := .free "all") rfl)
  have b_bool := He.free_ok X G (c.fact 41 (f := .free "bool") rfl)
  have b_str := He.free_ok X G (c.fact 42 (f := .free "str") rfl)
  have c_LONGEST := He.int_ok X G (c.fact 43 (f := .int "LONGEST" 60) rfl)
  have c_LETTERS := He.str_ok X G (c.fact 44 (f := .str "LETTERS" "abcdefghijklmnopqrstuvwxyz") rfl)
  refine ⟨fd_law, fun s v => FunD.bindsA (ps := ["script"]) F_law (fun _ _ _ _ _ _ us hl => match us, hl with | [_], _ => rfl) s [v] rfl, fun base _ _ => ?_⟩
  have e := hfa.symm.trans g_law
  cases e
  have O_depths_of := ok_depths_of (P := P) (w := w) (mg := mg) (base := base) F_depths_of 
  have H_depths_of : HasG P w K mg base "depths_of" ["tree"] 1 (sp_depths_of K) := ⟨_, _, O_depths_of, g_depths_of, F_depths_of.kp, F_depths_of.bindsN fun _ _ _ _ _ _ us hl => match us, hl with | [_], _ => rfl⟩
  have O_word_of := ok_word_of (P := P) (w := w) (mg := mg) (base := base) F_word_of 
  have H_word_of : HasG P w K mg base "word_of" ["tree", "place"] 1 (sp_word_of K) := ⟨_, _, O_word_of, g_word_of, F_word_of.kp, F_word_of.bindsN fun _ _ _ _ _ _ us hl => match us, hl with | [_, _], _ => rfl⟩
  have O_numbered_keys := ok_numbered_keys (P := P) (w := w) (mg := mg) (base := base) F_numbered_keys b_dict b_enumerate b_sorted b_set
  have H_numbered_keys : HasG P w K mg base "numbered_keys" ["keys"] 1 (sp_numbered_keys K) := ⟨_, _, O_numbered_keys, g_numbered_keys, F_numbered_keys.kp, F_numbered_keys.bindsN fun _ _ _ _ _ _ us hl => match us, hl with | [_], _ => rfl⟩
  have O_number_above := ok_number_above (P := P) (w := w) (mg := mg) (base := base) F_number_above 
  have H_number_above : HasG P w K mg base "number_above" ["numbers", "up", "length"] 1 (sp_number_above K) := ⟨_, _, O_number_above, g_number_above, F_number_above.kp, F_number_above.bindsN fun _ _ _ _ _ _ us hl => match us, hl with | [_, _, _], _ => rfl⟩
  have O_classes_of := ok_classes_of (P := P) (w := w) (mg := mg) (base := base) F_classes_of H_numbered_keys H_depths_of H_number_above b_range b_len b_min b_max b_enumerate
  have H_classes_of : HasG P w K mg base "classes_of" ["tree", "length"] 2 (sp_classes_of K) := ⟨_, _, O_classes_of, g_classes_of, F_classes_of.kp, F_classes_of.bindsN fun _ _ _ _ _ _ us hl => match us, hl with | [_, _], _ => rfl⟩
  have O_order_of := ok_order_of (P := P) (w := w) (mg := mg) (base := base) F_order_of H_classes_of b_sorted b_enumerate c_LONGEST
  have H_order_of : HasG P w K mg base "order_of" ["tree"] 3 (sp_order_of K) := ⟨_, _, O_order_of, g_order_of, F_order_of.kp, F_order_of.bindsN fun _ _ _ _ _ _ us hl => match us, hl with | [_], _ => rfl⟩
  have O_sorted_words := ok_sorted_words (P := P) (w := w) (mg := mg) (base := base) F_sorted_words H_word_of
  have H_sorted_words : HasG P w K mg base "sorted_words" ["tree", "order"] 2 (sp_sorted_words K) := ⟨_, _, O_sorted_words, g_sorted_words, F_sorted_words.kp, F_sorted_words.bindsN fun _ _ _ _ _ _ us hl => match us, hl with | [_, _], _ => rfl⟩
  have O_less_than := ok_less_than (P := P) (w := w) (mg := mg) (base := base) F_less_than b_len
  have H_less_than : HasG P w K mg base "less_than" ["words", "word"] 1 (sp_less_than K) := ⟨_, _, O_less_than, g_less_than, F_less_than.kp, F_less_than.bindsN fun _ _ _ _ _ _ us hl => match us, hl with | [_, _], _ => rfl⟩
  have O_not_above := ok_not_above (P := P) (w := w) (mg := mg) (base := base) F_not_above b_len
  have H_not_above : HasG P w K mg base "not_above" ["words", "word"] 1 (sp_not_above K) := ⟨_, _, O_not_above, g_not_above, F_not_above.kp, F_not_above.bindsN fun _ _ _ _ _ _ us hl => match us, hl with | [_, _], _ => rfl⟩
  have O_stretch_in := ok_stretch_in (P := P) (w := w) (mg := mg) (base := base) F_stretch_in H_less_than H_not_above
  have H_stretch_in : HasG P w K mg base "stretch_in" ["words", "word"] 2 (sp_stretch_in K) := ⟨_, _, O_stretch_in, g_stretch_in, F_stretch_in.kp, F_stretch_in.bindsN fun _ _ _ _ _ _ us hl => match us, hl with | [_, _], _ => rfl⟩
  have O_many_in := ok_many_in (P := P) (w := w) (mg := mg) (base := base) F_many_in H_stretch_in
  have H_many_in : HasG P w K mg base "many_in" ["words", "word"] 3 (sp_many_in K) := ⟨_, _, O_many_in, g_many_in, F_many_in.kp, F_many_in.bindsN fun _ _ _ _ _ _ us hl => match us, hl with | [_, _], _ => rfl⟩
  have O_letters_more := ok_letters_more (P := P) (w := w) (mg := mg) (base := base) F_letters_more H_sorted_words H_order_of H_many_in b_zip c_LETTERS
  have H_letters_more : HasG P w K mg base "letters_more" ["tree", "word", "longer"] 4 (sp_letters_more K) := ⟨_, _, O_letters_more, g_letters_more, F_letters_more.kp, F_letters_more.bindsN fun _ _ _ _ _ _ us hl => match us, hl with | [_, _, _], _ => rfl⟩
  have O_fronts_of := ok_fronts_of (P := P) (w := w) (mg := mg) (base := base) F_fronts_of H_letters_more c_LETTERS
  have H_fronts_of : HasG P w K mg base "fronts_of" ["tree", "word"] 5 (sp_fronts_of K) := ⟨_, _, O_fronts_of, g_fronts_of, F_fronts_of.kp, F_fronts_of.bindsN fun _ _ _ _ _ _ us hl => match us, hl with | [_, _], _ => rfl⟩
  have O_behinds_of := ok_behinds_of (P := P) (w := w) (mg := mg) (base := base) F_behinds_of H_letters_more c_LETTERS
  have H_behinds_of : HasG P w K mg base "behinds_of" ["tree", "word"] 5 (sp_behinds_of K) := ⟨_, _, O_behinds_of, g_behinds_of, F_behinds_of.kp, F_behinds_of.bindsN fun _ _ _ _ _ _ us hl => match us, hl with | [_, _], _ => rfl⟩
  have O__law_prime := ok__law_prime (P := P) (w := w) (mg := mg) (base := base) F__law_prime 
  have H__law_prime : HasG P w K mg base "_law_prime" ["at"] 1 (sp__law_prime K) := ⟨_, _, O__law_prime, g__law_prime, F__law_prime.kp, F__law_prime.bindsN fun _ _ _ _ _ _ us hl => match us, hl with | [_], _ => rfl⟩
  have O__law_pool := ok__law_pool (P := P) (w := w) (mg := mg) (base := base) F__law_pool b_max
  have H__law_pool : HasG P w K mg base "_law_pool" ["cell"] 1 (sp__law_pool K) := ⟨_, _, O__law_pool, g__law_pool, F__law_pool.kp, F__law_pool.bindsN fun _ _ _ _ _ _ us hl => match us, hl with | [_], _ => rfl⟩
  have O__law_take := ok__law_take (P := P) (w := w) (mg := mg) (base := base) F__law_take H__law_prime
  have H__law_take : HasG P w K mg base "_law_take" ["pool", "many"] 2 (sp__law_take K) := ⟨_, _, O__law_take, g__law_take, F__law_take.kp, F__law_take.bindsN fun _ _ _ _ _ _ us hl => match us, hl with | [_, _], _ => rfl⟩
  have O__law_cells := ok__law_cells (P := P) (w := w) (mg := mg) (base := base) F__law_cells b_range b_len b_list b_max b_min
  have H__law_cells : HasG P w K mg base "_law_cells" ["script", "most"] 1 (sp__law_cells K) := ⟨_, _, O__law_cells, g__law_cells, F__law_cells.kp, F__law_cells.bindsN fun _ _ _ _ _ _ us hl => match us, hl with | [_, _], _ => rfl⟩
  have O__law_letter := ok__law_letter (P := P) (w := w) (mg := mg) (base := base) F__law_letter H__law_take
  have H__law_letter : HasG P w K mg base "_law_letter" ["pool", "base"] 3 (sp__law_letter K) := ⟨_, _, O__law_letter, g__law_letter, F__law_letter.kp, F__law_letter.bindsN fun _ _ _ _ _ _ us hl => match us, hl with | [_, _], _ => rfl⟩
  have O__law_tree := ok__law_tree (P := P) (w := w) (mg := mg) (base := base) F__law_tree H__law_take H__law_letter b_range b_tuple b_max b_int b_min
  have H__law_tree : HasG P w K mg base "_law_tree" ["pool", "most"] 4 (sp__law_tree K) := ⟨_, _, O__law_tree, g__law_tree, F__law_tree.kp, F__law_tree.bindsN fun _ _ _ _ _ _ us hl => match us, hl with | [_, _], _ => rfl⟩
  have O__law_word := ok__law_word (P := P) (w := w) (mg := mg) (base := base) F__law_word 
  have H__law_word : HasG P w K mg base "_law_word" ["tree", "place"] 1 (sp__law_word K) := ⟨_, _, O__law_word, g__law_word, F__law_word.kp, F__law_word.bindsN fun _ _ _ _ _ _ us hl => match us, hl with | [_, _], _ => rfl⟩
  have O__law_reads := ok__law_reads (P := P) (w := w) (mg := mg) (base := base) F__law_reads H__law_word b_range b_len
  have H__law_reads : HasG P w K mg base "_law_reads" ["tree"] 2 (sp__law_reads K) := ⟨_, _, O__law_reads, g__law_reads, F__law_reads.kp, F__law_reads.bindsN fun _ _ _ _ _ _ us hl => match us, hl with | [_], _ => rfl⟩
  have O__law_seek := ok__law_seek (P := P) (w := w) (mg := mg) (base := base) F__law_seek H__law_take H__law_word b_len
  have H__law_seek : HasG P w K mg base "_law_seek" ["pool", "tree"] 3 (sp__law_seek K) := ⟨_, _, O__law_seek, g__law_seek, F__law_seek.kp, F__law_seek.bindsN fun _ _ _ _ _ _ us hl => match us, hl with | [_, _], _ => rfl⟩
  have O__law_same_v0 := ok__law_same_v0 (P := P) (w := w) (mg := mg) (base := base) F__law_same b_isinstance b_list b_tuple b_all b_len b_bool b_int b_str b_zip
  have H__law_same_v0 : HasG P w K mg base "_law_same" ["found", "due"] 1 (sp__law_same_v0 K) := ⟨_, _, O__law_same_v0, g__law_same, F__law_same.kp, F__law_same.bindsN fun _ _ _ _ _ _ us hl => match us, hl with | [_, _], _ => rfl⟩
  have O__law_same_v1 := ok__law_same_v1 (P := P) (w := w) (mg := mg) (base := base) F__law_same H__law_same_v0 b_isinstance b_list b_tuple b_all b_len b_bool b_int b_str b_zip
  have H__law_same_v1 : HasG P w K mg base "_law_same" ["found", "due"] 2 (sp__law_same_v1 K) := ⟨_, _, O__law_same_v1, g__law_same, F__law_same.kp, F__law_same.bindsN fun _ _ _ _ _ _ us hl => match us, hl with | [_, _], _ => rfl⟩
  have O__law_same_o01 := FnG.or (O__law_same_v0.mono (show 1 ≤ 3 by decide)) (O__law_same_v1.mono (show 2 ≤ 3 by decide))
  have H__law_same_o01 : HasG P w K mg base "_law_same" ["found", "due"] 3 (sp__law_same_o01 K) := ⟨_, _, O__law_same_o01, g__law_same, F__law_same.kp, F__law_same.bindsN fun _ _ _ _ _ _ us hl => match us, hl with | [_, _], _ => rfl⟩
  have O__law_same_v2 := ok__law_same_v2 (P := P) (w := w) (mg := mg) (base := base) F__law_same H__law_same_v0 H__law_same_v1 H__law_same_o01 b_isinstance b_list b_tuple b_all b_len b_bool b_int b_str b_zip
  have H__law_same_v2 : HasG P w K mg base "_law_same" ["found", "due"] 4 (sp__law_same_v2 K) := ⟨_, _, O__law_same_v2, g__law_same, F__law_same.kp, F__law_same.bindsN fun _ _ _ _ _ _ us hl => match us, hl with | [_, _], _ => rfl⟩
  have O__law_same_v3 := ok__law_same_v3 (P := P) (w := w) (mg := mg) (base := base) F__law_same H__law_same_v0 H__law_same_v1 H__law_same_o01 H__law_same_v2 b_isinstance b_list b_tuple b_all b_len b_bool b_int b_str b_zip
  have H__law_same_v3 : HasG P w K mg base "_law_same" ["found", "due"] 5 (sp__law_same_v3 K) := ⟨_, _, O__law_same_v3, g__law_same, F__law_same.kp, F__law_same.bindsN fun _ _ _ _ _ _ us hl => match us, hl with | [_, _], _ => rfl⟩
  have O__law_same_v4 := ok__law_same_v4 (P := P) (w := w) (mg := mg) (base := base) F__law_same H__law_same_v0 H__law_same_v1 H__law_same_o01 H__law_same_v2 H__law_same_v3 b_isinstance b_list b_tuple b_all b_len b_bool b_int b_str b_zip
  have H__law_same_v4 : HasG P w K mg base "_law_same" ["found", "due"] 6 (sp__law_same_v4 K) := ⟨_, _, O__law_same_v4, g__law_same, F__law_same.kp, F__law_same.bindsN fun _ _ _ _ _ _ us hl => match us, hl with | [_, _], _ => rfl⟩
  have O__law_pairs := ok__law_pairs (P := P) (w := w) (mg := mg) (base := base) F__law_pairs b_len
  have H__law_pairs : HasG P w K mg base "_law_pairs" ["reads", "words"] 1 (sp__law_pairs K) := ⟨_, _, O__law_pairs, g__law_pairs, F__law_pairs.kp, F__law_pairs.bindsN fun _ _ _ _ _ _ us hl => match us, hl with | [_, _], _ => rfl⟩
  have O__law_right := ok__law_right (P := P) (w := w) (mg := mg) (base := base) F__law_right H__law_pairs H_fronts_of H_behinds_of H__law_same_v0 H__law_same_v1 H__law_same_o01 H__law_same_v2 H__law_same_v3 H__law_same_v4 b_range
  have H__law_right : HasG P w K mg base "_law_right" ["tree", "reads", "word"] 7 (sp__law_right K) := ⟨_, _, O__law_right, g__law_right, F__law_right.kp, F__law_right.bindsN fun _ _ _ _ _ _ us hl => match us, hl with | [_, _, _], _ => rfl⟩
  have O_law := ok_law (P := P) (w := w) (mg := mg) (base := base) F_law H__law_cells H__law_pool H__law_tree H__law_reads H__law_seek H__law_right b_sorted b_range b_len
  exact O_law
/-! ### plain: what the law draws (pools of three) -/
def PoolB (n : Int) (p : List Int) : Prop := ∃ a b c : Int, p = [a, b, c] ∧ 0 ≤ a ∧ 0 ≤ c ∧ c ≤ n
theorem PoolB.mono {n m : Int} {p : List Int} (h : PoolB n p) (e : n ≤ m) : PoolB m p := by
  obtain ⟨a, b, c, rfl, h1, h2, h3⟩ := h
  exact ⟨a, b, c, rfl, h1, h2, by omega⟩
theorem prime_ret {i : Int} (h : 0 ≤ i) : Ret (m__law_prime i) (fun r => 2147483423 ≤ r ∧ r ≤ 2147483647) := by
  unfold m__law_prime
  refine Ret.eq (catLM_of (by decide)) ?_
  refine Ret.bind (ret_in (by omega) (by show i % 11 < (11 : Int); omega)) fun a ha => Ret.pure ?_
  simp at ha; omega
theorem take_ret {n : Int} {p : List Int} {many : Int} (hp : PoolB n p) (hn : n ≤ 1073741824) (h : 0 < many) (h2 : many < 1073741824) : Ret (m__law_take p many) (fun r => (0 ≤ r.1 ∧ r.1 < many) ∧ PoolB (n + 1) r.2) := by
  obtain ⟨a, b, c, rfl, ha, hc, hcn⟩ := hp
  unfold m__law_take
  refine Ret.eq (a := a) (atI_of (i := 0) (by decide) rfl) ?_
  refine Ret.ite (fun hd => ?_) fun hd => ?_
  · refine Ret.eq (a := a) (atI_of (i := 0) (by decide) rfl) ?_
    refine Ret.eq (modM_of h) ?_
    refine Ret.eq (a := a) (atI_of (i := 0) (by decide) rfl) ?_
    refine Ret.eq (divM_of h h2) ?_
    refine Ret.eq (setM_of (i := 0) (by decide) (by show (0 : Int) < 3; decide)) ?_
    exact Ret.pure ⟨⟨Int.emod_nonneg _ (by omega), Int.emod_lt_of_pos _ h⟩, a / many, b, c, rfl, Int.ediv_nonneg ha (by omega), hc, by omega⟩
  · refine Ret.eq (a := c) (atI_of (i := 2) (by decide) rfl) ?_
    refine Ret.eq (setM_of (i := 2) (by decide) (by show (2 : Int) < 3; decide)) ?_
    refine Ret.eq (a := b) (atI_of (i := 1) (by decide) rfl) ?_
    refine Ret.eq (powM_of (by decide) (by omega)) ?_
    refine Ret.bind (prime_ret hc) fun p1 h1 => ?_
    refine Ret.eq (modM_of (by omega)) ?_
    have b1 : ∀ x : Int, 0 ≤ x % p1 ∧ x % p1 < p1 := fun x => ⟨Int.emod_nonneg _ (by omega), Int.emod_lt_of_pos _ (by omega)⟩
    generalize hx : ((b % (2147483399 : Int)) + ((104729 : Int) * c) + (17 : Int)) ^ (3 : Int).toNat = x
    have bx := b1 x
    generalize x % p1 = one at bx
    refine Ret.eq (mulM_of (.inl (by omega))) ?_
    refine Ret.eq (a := b) (atI_of (i := 1) (by decide) rfl) ?_
    have sq : 0 ≤ one * one ∧ one * one ≤ 2147483647 * 2147483647 := ⟨Int.mul_nonneg bx.1 bx.1, Int.mul_le_mul (by omega) (by omega) bx.1 (by decide)⟩
    refine Ret.eq (powM_of (by decide) (by omega)) ?_
    refine Ret.bind (prime_ret (by omega)) fun p2 h2' => ?_
    refine Ret.eq (modM_of (by omega)) ?_
    refine Ret.bind (prime_ret (by omega)) fun p3 h3 => ?_
    refine Ret.eq (modM_of (by omega)) ?_
    refine Ret.eq (modM_of h) ?_
    exact Ret.pure ⟨⟨Int.emod_nonneg _ (by omega), Int.emod_lt_of_pos _ h⟩, a, b, c + 1, rfl, ha, by omega, by omega⟩
theorem pool_ret (cell : Int) : Ret (m__law_pool cell) (PoolB 0) := Ret.pure ⟨_, _, _, rfl, by rw [mx_eq]; omega, Int.le_refl _, Int.le_refl _⟩
def LetOk (x : Sg) : Prop := ∃ c, x = [c] ∧ 97 ≤ c ∧ c ≤ 122
theorem abc_in {c : Nat} (h : c ∈ ([97, 98, 99, 100, 101, 102, 103, 104, 105, 106, 107, 108, 109, 110, 111, 112, 113, 114, 115, 116, 117, 118, 119, 120, 121, 122] : Sg)) : LetOk [c] := ⟨c, rfl, by simp at h; omega⟩
theorem letter_ret {n : Int} {p : List Int} {b : Int × Int} (hp : PoolB n p) (hn : n ≤ 1073741824) (hb : 0 ≤ b.1 ∧ b.1 ≤ 100) (hb2 : 0 < b.2 ∧ b.2 ≤ 100) : Ret (m__law_letter p b) (fun r => LetOk r.1 ∧ PoolB (n + 1) r.2) := by
  unfold m__law_letter
  refine Ret.bind (take_ret hp hn hb2.1 (by omega)) fun r ⟨g, hp⟩ => ?_
  refine Ret.bind (ret_in (by omega) (by show _ < (26 : Int); omega)) fun c hc => Ret.pure ⟨abc_in hc, hp⟩

theorem tree_ret {p : List Int} {most : Int} (hp : PoolB 0 p) (h1 : 7 ≤ most) (h2 : most ≤ 60) : Ret (m__law_tree p most) (fun r => TreeOk r.1 ∧ (r.1.1.length : Int) ≤ most ∧ PoolB 1000 r.2) := by
  unfold m__law_tree
  refine Ret.bind (take_ret hp (by omega) (by omega) (by omega)) fun r1 ⟨g1, hp⟩ => ?_
  refine Ret.bind (take_ret hp (by omega) (by rw [mn_eq]; omega) (by rw [mn_eq]; omega)) fun r2 ⟨g2, hp⟩ => ?_
  refine Ret.bind (take_ret hp (by omega) (by decide) (by decide)) fun r3 ⟨g3, hp⟩ => ?_
  refine Ret.bind (P := fun many => 1 ≤ many ∧ many ≤ most) ((ret_in g3.1 (by show r3.1 < (3 : Int); omega)).mono fun a ha => by
    rw [mn_eq] at g2
    simp at ha; omega) fun many hm => ?_
  refine Ret.bind (take_ret hp (by omega) (by decide) (by decide)) fun r4 ⟨g4, hp⟩ => ?_
  refine Ret.bind (take_ret hp (by omega) (by decide) (by decide)) fun r5 ⟨g5, hp⟩ => ?_
  refine Ret.bind (P := fun b => 1 ≤ b ∧ b ≤ 26) ((ret_in g5.1 (by show r5.1 < (4 : Int); omega)).mono fun a ha => by simp at ha; omega) fun b hb => ?_
  refine Ret.bind (take_ret hp (by omega) (by decide) (by decide)) fun way ⟨gw, hp⟩ => ?_
  refine Ret.bind (take_ret hp (by omega) (by decide) (by decide)) fun pd ⟨gp, hp⟩ => ?_
  refine Ret.eq (uptoM_of (by decide) (by decide) (by omega) (by omega)) ?_
  have lu : (upto 0 (1 + pd.1)).length = (1 + pd.1).toNat := by rw [upto_len]; simp
  refine ret_need (szB_of (by omega)) ?_
  refine Ret.bind (ret_compOi (fun i s => PoolB (11 + (i : Int)) s) (fun x : Int => 0 ≤ x ∧ x < 4) (hp.mono (by omega)) fun i x _ hi s hs => ?_) fun cl ⟨hp, lc, mc⟩ => ?_
  · exact Ret.bind (take_ret hs (by omega) (by decide) (by decide)) fun r ⟨g, hp⟩ => Ret.pure ⟨hp.mono (by omega), _, rfl, g⟩
  refine Ret.eq (uptoM_of (by decide) (by decide) (by omega) (by omega)) ?_
  refine ret_need (szB_of (by omega)) ?_
  refine Ret.bind (ret_compOi (fun i s => PoolB (20 + (i : Int)) s) LetOk (hp.mono (by omega)) fun i x _ hi s hs => ?_) fun sg ⟨hp, ls, ms⟩ => ?_
  · exact Ret.bind (letter_ret hs (by omega) (by simp only; omega) (by simp only; omega)) fun r ⟨g, hp⟩ => Ret.pure ⟨hp.mono (by omega), _, rfl, g⟩
  refine Ret.bind (letter_ret (hp.mono (show _ ≤ (30 : Int) by omega)) (by omega) (by simp only; omega) (by simp only; omega)) fun l0 ⟨hl0, hp⟩ => ?_
  refine Ret.eq (uptoM_of (by decide) (by decide) (by omega) (by omega)) ?_
  have lm : (upto 1 many).length = many.toNat - 1 := by rw [upto_len]; omega
  obtain ⟨c0, ec0, hc01, hc02⟩ := hl0
  refine Ret.bind (ret_foldO (fun i s => s.1.length = i + 1 ∧ s.2.2.length = i + 1 ∧ UpsOk s.2.2 ∧ (∀ c ∈ s.1, 97 ≤ c ∧ c ≤ 122) ∧ PoolB (31 + 10 * (i : Int)) s.2.1) ⟨by simp [ec0], rfl, UpsOk.one, by intro c hc; simp only [ec0, List.mem_singleton] at hc; omega, hp.mono (by omega)⟩ fun i s k hk ⟨e1, e2, U, hc, hp⟩ => ?_) fun s ⟨e1, e2, hu, hc, hp⟩ => ?_
  · obtain ⟨labels, pool, ups⟩ := s
    simp only at e1 e2 U hc hp ⊢
    have hk := upto_get hk
    refine Ret.bind (take_ret hp (by omega) (by decide) (by decide)) fun q1 ⟨w1, hp⟩ => ?_
    refine Ret.bind (take_ret hp (by omega) (by decide) (by decide)) fun q2 ⟨w2, hp⟩ => ?_
    refine Ret.eq (modM_of (by omega)) ?_
    have bm : 0 ≤ k % (1 + pd.1) ∧ k % (1 + pd.1) < 1 + pd.1 := ⟨Int.emod_nonneg _ (by omega), Int.emod_lt_of_pos _ (by omega)⟩
    refine Ret.bind (P := fun x => 0 ≤ x ∧ x < 4) ((ret_in bm.1 (by omega)).mono fun x hx => mc x hx) fun cx hcx => ?_
    refine Ret.bind (take_ret hp (by omega) (by decide) (by decide)) fun q3 ⟨w3, hp⟩ => ?_
    refine Ret.bind (take_ret hp (by omega) (by decide) (by decide)) fun q4 ⟨w4, hp⟩ => ?_
    refine Ret.eq (catLM_of (by simp)) ?_
    refine Ret.bind (P := fun x => 0 ≤ x ∧ x ≤ 60) ((ret_in gw.1 (by show way.1 < (8 : Int); omega)).mono fun x hx => by
      have := Int.emod_nonneg k (show (2 : Int) ≠ 0 by decide)
      have := Int.emod_lt_of_pos k (show (0 : Int) < 2 by decide)
      simp at hx; omega) fun st hst => ?_
    refine Ret.eq (uptoM_of (by decide) (by decide) (by omega) (by omega)) ?_
    -- the place climbed to
    refine Ret.bind (P := fun pl => 0 ≤ pl ∧ pl < (i : Int) + 1 ∧ Anc ups i pl.toNat) ?_ fun pl ⟨a1, a2, a3⟩ => ?_
    · refine ret_foldO (fun _ pl => 0 ≤ pl ∧ pl < (i : Int) + 1 ∧ Anc ups i pl.toNat) ⟨by omega, by omega, ?_⟩ fun j pl x _ ⟨a1, a2, a3⟩ => ?_
      · rw [show (k - 1).toNat = i by omega]; exact .refl _
      · obtain ⟨u, hq⟩ : ∃ u, ups[pl.toNat]? = some u := ⟨_, List.getElem?_eq_getElem (show pl.toNat < ups.length by omega)⟩
        refine Ret.eq (atI_of a1 hq) (Ret.pure ?_)
        rw [mx_eq]
        by_cases hz : pl.toNat = 0
        · rw [hz, U.root] at hq
          have e9 : -1 = u := Option.some.inj hq
          subst e9
          refine ⟨by omega, by omega, ?_⟩
          rw [show (max (0 : Int) (-1)).toNat = 0 by omega]
          rw [hz] at a3; exact a3
        · obtain ⟨u1, u2⟩ := U.up _ _ (by omega) hq
          rw [show max (0 : Int) u = u by omega]
          exact ⟨u1, by omega, a3.trans (.up hq u1 (.refl _))⟩
    refine Ret.eq (snocM_of (by omega)) ?_
    refine Ret.bind (letter_ret hp (by omega) (by simp only; omega) (by simp only; omega)) fun q6 ⟨w6, hp⟩ => ?_
    refine Ret.eq (modM_of (by omega)) ?_
    refine Ret.bind (P := LetOk) ((ret_in bm.1 (by omega)).mono fun x hx => ms x hx) fun l1 hl1 => ?_
    have hb4 := b2_01 (decide (way.1 = (5 : Int)))
    refine Ret.bind (P := LetOk) ((ret_in hb4.1 (by show _ < (2 : Int); omega)).mono fun x hx => by
      simp only [List.mem_cons, List.not_mem_nil, or_false] at hx
      rcases hx with h | h <;> subst h
      · exact w6
      · exact hl1) fun l4 hl4 => ?_
    obtain ⟨c, rfl, hc1, hc2⟩ := hl4
    refine Ret.eq (catM_of (by simp; omega)) (Ret.pure ⟨by simp [e1], by simp [e2], U.snoc a1 (by omega) (by rw [e2]; exact a3), fun d hd => ?_, hp.mono (by omega)⟩)
    rcases List.mem_append.mp hd with h | h
    · exact hc d h
    · simp at h; omega
  · rw [lm] at e1 e2 hp
    exact Ret.pure ⟨⟨by simp only; omega, by simp only; omega, hu, hc⟩, by simp only; omega, hp.mono (by omega)⟩
theorem cells_ret (s : List Int) {many : Int} (h0 : 0 < many) (h : many ≤ 63) (hs : s.length ≤ 63) : Ret (m__law_cells s many) (fun c => c.length ≤ 63) := by
  unfold m__law_cells
  refine Ret.eq (catLM_of (by rw [cutL_to (by omega), List.length_take]; simp; omega)) ?_
  refine Ret.eq (uptoM_of (by omega) (by omega) (by omega) (by omega)) ?_
  have b0 : 0 ≤ mx (1 : Int) (mn many (s.length : Int)) ∧ mx (1 : Int) (mn many (s.length : Int)) ≤ 63 := by rw [mx_eq, mn_eq]; omega
  rw [cutL_to b0.1, cutL_to (by omega)]
  by_cases hl : (s.length : Int) ≤ many
  · have e : upto many (s.length : Int) = [] := by unfold upto; rw [show ((s.length : Int) - many).toNat = 0 by omega]; rfl
    rw [e]
    exact Ret.pure (by rw [List.length_take]; omega)
  · have el : ((s.take many.toNat ++ [(23 : Int)]).take (mx (1 : Int) (mn many (s.length : Int))).toNat).length = many.toNat := by
      rw [List.length_take, List.length_append, List.length_take]
      rw [mx_eq, mn_eq]
      simp; omega
    refine Ret.bind (ret_foldO (fun _ c => c.length = many.toNat) el fun i c a ha hc => ?_) fun c hc => Ret.pure (by omega)
    have ha := upto_get ha
    have bm : 0 ≤ a % many ∧ a % many < many := ⟨Int.emod_nonneg _ (by omega), Int.emod_lt_of_pos _ h0⟩
    refine Ret.eq (modM_of h0) ?_
    refine Ret.bind (ret_in bm.1 (by omega)) fun x _ => ?_
    refine Ret.bind (ret_in (by omega) (by omega)) fun y _ => ?_
    refine Ret.eq (modM_of h0) ?_
    refine Ret.eq (setM_of bm.1 (by omega)) (Ret.pure ?_)
    rw [List.length_set]; exact hc

theorem law_word_eq {t : Tre} (T : TreeOk t) {i : Int} (h1 : -1 ≤ i) (h2 : i < t.1.length) : m__law_word t i = some (wdI t i) := by
  have hl := T.len
  have hm := T.most
  unfold m__law_word
  have key : Ret (whileO 1000000 (([] : Sg), i) (fun s2 => some (decide ((0 : Int) ≤ s2.2))) (fun s11 => (atI t.2 s11.2).bind fun c22 => (catM s11.1 [c22]).bind fun t23 => (atI t.1 s11.2).bind fun a26 => some (t23, a26))) (fun s : Sg × Int => (s.1 ++ wdI t s.2 = wdI t i ∧ s.1.length + (s.2 + 1).toNat ≤ 60 ∧ -1 ≤ s.2 ∧ s.2 < t.1.length) ∧ some (decide ((0 : Int) ≤ s.2)) = some false) := by
    refine ret_whileO (fun s : Sg × Int => s.1 ++ wdI t s.2 = wdI t i ∧ s.1.length + (s.2 + 1).toNat ≤ 60 ∧ -1 ≤ s.2 ∧ s.2 < t.1.length) (fun s : Sg × Int => (s.2 + 1).toNat) ⟨rfl, by simp; omega, h1, h2⟩ (by simp only; omega) fun s ⟨e, hs, h3, h4⟩ => ?_
    refine Ret.pure fun hd => ?_
    have h0 := of_decide_eq_true hd
    have hc := List.getElem?_eq_getElem (show s.2.toNat < t.2.length by omega)
    have hu := List.getElem?_eq_getElem (show s.2.toNat < t.1.length by omega)
    refine Ret.eq (atI_of h0 hc) ?_
    refine Ret.eq (catM_of (by simp; omega)) ?_
    refine Ret.eq (atI_of h0 hu) ?_
    have hb : -1 ≤ t.1[s.2.toNat] ∧ t.1[s.2.toNat] < s.2 := by
      by_cases hk : s.2.toNat = 0
      · have e9 : t.1[s.2.toNat] = -1 := by
          rw [List.getElem?_eq_getElem (by omega)] at hu
          have := T.ups.root
          rw [← hk] at this
          rw [List.getElem?_eq_getElem (by omega)] at this
          exact Option.some.inj this
        omega
      · have := T.ups.up _ _ (by omega) hu
        omega
    refine Ret.pure ⟨⟨?_, ?_, by simp only; omega, by simp only; omega⟩, by simp only; omega⟩
    · rw [← e, wdI_eq T.ups h0 hu, getD_of hc, List.append_assoc]; rfl
    · simp; omega
  obtain ⟨s, e, ⟨h3, _, _, _⟩, h4⟩ := key
  rw [e]
  have h5 := of_decide_eq_false (Option.some.inj h4)
  have h6 : wdI t s.2 = [] := by unfold wdI; rw [if_neg h5]
  rw [h6, List.append_nil] at h3
  show some s.1 = _
  rw [h3]

theorem word_of_eq {t : Tre} (T : TreeOk t) {k : Nat} (hk : k < t.1.length) : m_word_of t k = some (wd t k) := by
  have hl := T.len
  have hm := T.most
  unfold m_word_of
  have hc0 := List.getElem?_eq_getElem (show k < t.2.length by omega)
  have e0 : atI t.2 (k : Int) = some (t.2[k]) := atI_nat hc0
  rw [e0]
  show (whileO 1000000 _ _ _).bind _ = _
  have key : Ret (whileO 1000000 ((k : Int), [[t.2[k]]]) (fun s18 => (atI t.1 s18.1).bind fun a29 => some (decide ((0 : Int) ≤ a29))) (fun s36 => (atI t.1 s36.1).bind fun a47 => (atI t.2 a47).bind fun c54 => (snocM s36.2 [c54]).bind fun l55 => some (a47, l55)))
      (fun s : Int × List Sg => (∃ u, 0 ≤ s.1 ∧ s.1 < t.1.length ∧ t.1[s.1.toNat]? = some u ∧ s.2.flatten ++ wdI t u = wd t k ∧ s.2.length + s.1.toNat ≤ 61 ∧ ∀ x ∈ s.2, x.length = 1) ∧ ((atI t.1 s.1).bind fun a29 => some (decide ((0 : Int) ≤ a29))) = some false) := by
    have hu := List.getElem?_eq_getElem hk
    refine ret_whileO (fun s : Int × List Sg => ∃ u, 0 ≤ s.1 ∧ s.1 < t.1.length ∧ t.1[s.1.toNat]? = some u ∧ s.2.flatten ++ wdI t u = wd t k ∧ s.2.length + s.1.toNat ≤ 61 ∧ ∀ x ∈ s.2, x.length = 1) (fun s : Int × List Sg => s.1.toNat) ⟨_, by simp only; omega, by simp only; omega, by rw [Int.toNat_natCast]; exact hu, ?_, by simp; omega, by simp⟩ (by simp only; omega) fun s ⟨u, h0, h1, hu, e, hs, h1s⟩ => ?_
    · have := wdI_eq T.ups (i := (k : Int)) (by omega) (by rw [Int.toNat_natCast]; exact hu)
      rw [show wdI t (k : Int) = wd t k by unfold wdI; rw [if_pos (by omega)]; simp] at this
      rw [this, Int.toNat_natCast, getD_of hc0]; rfl
    · refine Ret.eq (atI_of h0 hu) (Ret.pure fun hd => ?_)
      have hd := of_decide_eq_true hd
      have hb : 0 < s.1.toNat ∧ u < s.1 := by
        by_cases hk : s.1.toNat = 0
        · rw [hk, T.ups.root] at hu
          have : -1 = u := Option.some.inj hu
          omega
        · have := T.ups.up _ _ (by omega) hu
          omega
      have hc := List.getElem?_eq_getElem (show u.toNat < t.2.length by omega)
      have hu2 := List.getElem?_eq_getElem (show u.toNat < t.1.length by omega)
      refine Ret.eq (atI_of h0 hu) (Ret.eq (atI_of hd hc) (Ret.eq (snocM_of (by omega)) (Ret.pure ⟨⟨_, hd, by simp only; omega, hu2, ?_, by simp; omega, ?_⟩, by simp only; omega⟩)))
      · rw [← e, wdI_eq T.ups hd hu2, getD_of hc]; simp
      · intro x hx
        rcases List.mem_append.mp hx with h | h
        · exact h1s x h
        · simp at h; subst h; rfl
  obtain ⟨s, e, ⟨u, h0, h1, hu, h2, h3, h4⟩, h5⟩ := key
  rw [e]
  have hn : ¬ 0 ≤ u := by
    rw [atI_of h0 hu] at h5
    exact of_decide_eq_false (Option.some.inj h5)
  have h6 : wdI t u = [] := by unfold wdI; rw [if_neg hn]
  rw [h6, List.append_nil] at h2
  have hsum : ∀ xs : List Sg, (∀ x ∈ xs, x.length = 1) → (xs.map List.length).sum = xs.length := fun xs => by
    induction xs with
    | nil => intro; rfl
    | cons x xs ih => intro h; simp [h x (by simp), ih fun y hy => h y (by simp [hy])]; omega
  show (joinM [] s.2).bind _ = _
  rw [joinM_of (by rw [hsum _ h4]; simp; omega), joinL_nil, h2]
  rfl

/-! ### plain: words, one by one -/
theorem words_upto {t : Tre} (T : TreeOk t) : compS (upto 0 (t.1.length : Int)) (fun a => (m__law_word t a).bind fun r => some (some r)) = some ((List.range t.1.length).map (wd t)) := by
  rw [range_of_upto]
  have hm := T.most
  rw [compS_map (fun a : Int => wdI t a) fun a ha => ?_]
  · rw [List.map_map]
    refine congrArg some (List.map_congr_left fun k _ => wdI_nat k)
  · obtain ⟨k, hk, rfl⟩ := List.mem_map.mp ha
    have hk := List.mem_range.mp hk
    rw [law_word_eq T (by omega) (by omega)]; rfl

/-! ### plain: classes by lengths -/
theorem depths_eq {t : Tre} (T : TreeOk t) : m_depths_of t = some ((List.range t.1.length).map fun k => ((wd t k).length : Int) - 1) := by
  have hp := T.ups.pos
  have hm := T.most
  unfold m_depths_of
  rw [cutL_from (by decide)]
  obtain ⟨s, e, hs⟩ := ret_foldO (xs := t.1.drop (1 : Int).toNat) (s := [(0 : Int)]) (f := fun s51 a50 => (atI s51 a50).bind fun a67 => (snocM s51 (a67 + (1 : Int))).bind fun l70 => some l70)
    (fun i s => s = (List.range (i + 1)).map fun k => ((wd t k).length : Int) - 1) (by simp [wd_root T.ups]) fun i s u hu hs => by
      rw [List.getElem?_drop, show (1 : Int).toNat + i = i + 1 by simp; omega] at hu
      have hk := (List.getElem?_eq_some_iff.mp hu).1
      obtain ⟨a, b⟩ := T.ups.up _ u (by omega) hu
      refine Ret.eq (a := ((wd t u.toNat).length : Int) - 1) (atI_of a (by subst hs; rw [List.getElem?_map, List.getElem?_range (by omega)]; rfl)) ?_
      refine Ret.eq (snocM_of (by subst hs; simp; omega)) (Ret.pure ?_)
      rw [hs, show List.range (i + 1 + 1) = List.range (i + 1) ++ [i + 1] from List.range_succ, List.map_append]
      congr 1
      rw [List.map_cons, List.map_nil, wd_up T.ups (by omega) hu]
      simp
  rw [e]
  show some s = _
  rw [hs]
  have : (t.1.drop (1 : Int).toNat).length + 1 = t.1.length := by simp; omega
  rw [this]
theorem numbered_eq {ks : List (Sg × Int)} (h : ks.length ≤ 60) : m_numbered_keys ks = some (ks.map fun k => (rk (ltP ltS ltI) ks k : Int)) := by
  have O : Lo (ltP ltS ltI) := lo_P lo_S lo_I
  unfold m_numbered_keys
  have hs := sset_len (lt := ltP ltS ltI) (xs := ks)
  have hB : ssetB 63 ks = true := decide_eq_true (by omega)
  rw [need_eq hB]
  show (need (szB (enumL (ssetL (ltP ltS ltI) ks)).length) ()).bind _ = _
  rw [need_eq (szB_of (by rw [enumL_len]; omega))]
  show (compS (enumL (ssetL (ltP ltS ltI) ks)) _).bind _ = _
  rw [compS_map (fun p : Int × (Sg × Int) => (p.2, p.1)) fun _ _ => rfl]
  show (need (szB ks.length) ()).bind _ = _
  rw [need_eq (szB_of (by omega))]
  show (compS ks _).bind _ = _
  rw [compS_map (fun k => (rk (ltP ltS ltI) ks k : Int)) fun k hk => ?_]
  · rfl
  · rw [lkp_enum sset_nd (rk_get O hk)]; rfl
/-- beginnings of words -/
def bgs (t : Tre) (m : Nat) : List Sg := (List.range t.1.length).map fun k => (wd t k).take m
theorem above_eq {t : Tre} (T : TreeOk t) {m : Nat} {u : Int} (h1 : -1 ≤ u) (h2 : u < t.1.length) :
    m_number_above ((List.range t.1.length).map fun k => (rk ltS (bgs t m) ((wd t k).take m) : Int)) u (m : Int) = some (if m = 0 then 0 else if u < 0 then -1 else (rk ltS (bgs t m) ((wdI t u).take m) : Int)) := by
  unfold m_number_above
  by_cases h : m = 0
  · subst h; rfl
  · rw [if_neg (by rw [decide_eq_false (by omega)]; decide), if_neg h]
    by_cases h0 : u < 0
    · rw [if_pos (decide_eq_true h0), if_pos h0]
    · rw [if_neg (by rw [decide_eq_false h0]; decide), if_neg h0]
      have : atI ((List.range t.1.length).map fun k => (rk ltS (bgs t m) ((wd t k).take m) : Int)) u = some (rk ltS (bgs t m) ((wd t u.toNat).take m) : Int) := atI_of (by omega) (by rw [List.getElem?_map, List.getElem?_range (by omega)]; rfl)
      rw [this]
      show some _ = some _
      unfold wdI
      rw [if_pos (by omega)]
theorem classes_eq {t : Tre} (T : TreeOk t) {L : Nat} : m_classes_of t (L : Int) = some ((List.range t.1.length).map fun k => (rk ltS (bgs t L) ((wd t k).take L) : Int)) := by
  have hp := T.ups.pos
  have hm := T.most
  have hl := T.len
  have hwl := fun k h => wd_len T.ups k h
  unfold m_classes_of
  refine Ret.val (P := fun r => r = (List.range t.1.length).map fun k => (rk ltS (bgs t L) ((wd t k).take L) : Int)) ?_ fun _ e => e
  have e0 : repM [(0 : Int)] (t.1.length : Int) = some (List.replicate t.1.length 0) := by
    unfold repM
    rw [need_eq (by rw [Bool.and_eq_true]; exact ⟨decide_eq_true (by omega), szB_of (by simp; omega)⟩)]
    simp [repL]
  refine Ret.eq e0 (Ret.eq (depths_eq T) ?_)
  -- the deepest
  obtain ⟨M, hM⟩ : ∃ M, maxM ((List.range t.1.length).map fun k => ((wd t k).length : Int) - 1) = some M := by
    have : ∃ x r, (List.range t.1.length).map (fun k => ((wd t k).length : Int) - 1) = x :: r := by
      cases e : (List.range t.1.length).map fun k => ((wd t k).length : Int) - 1 with
      | nil =>
        have := congrArg List.length e
        rw [List.length_map, List.length_range, List.length_nil] at this
        omega
      | cons x r => exact ⟨x, r, rfl⟩
    obtain ⟨x, r, e⟩ := this
    rw [e]
    unfold maxM
    rw [List.foldl_cons]
    have key : ∀ (r : List Int) (x : Int), ∃ M, r.foldl (fun m x => match m with
      | none => some x
      | some y => some (if x > y then x else y)) (some x) = some M := fun r => by
      induction r with
      | nil => intro x; exact ⟨x, rfl⟩
      | cons y r ih => intro x; rw [List.foldl_cons]; exact ih _
    exact key r x
  obtain ⟨hM1, hM2⟩ := maxM_ok hM
  refine Ret.eq hM ?_
  obtain ⟨j, hj, ej⟩ := List.mem_map.mp hM1
  have hj := List.mem_range.mp hj
  have := hwl j hj
  -- so many turns
  obtain ⟨n, hn, en⟩ : ∃ n : Nat, mn (L : Int) (1 + M) = (n : Int) ∧ ∀ k, k < t.1.length → (wd t k).take n = (wd t k).take L := by
    refine ⟨(mn (L : Int) (1 + M)).toNat, by rw [mn_eq]; omega, fun k hk => ?_⟩
    have h1 := hM2 _ (List.mem_map.mpr ⟨k, List.mem_range.mpr hk, rfl⟩)
    by_cases hL : (L : Int) ≤ 1 + M
    · have e9 : (mn (L : Int) (1 + M)).toNat = L := by rw [mn_eq]; omega
      rw [e9]
    · rw [List.take_of_length_le (by rw [mn_eq]; omega), List.take_of_length_le (by omega)]
  rw [hn]
  have hn60 : n ≤ 61 := by
    have h9 : mn (L : Int) (1 + M) ≤ 1 + M := by rw [mn_eq]; omega
    omega
  refine Ret.eq (uptoM_of (by decide) (by decide) (by omega) (by omega)) ?_
  have fin : ∀ m, (List.range t.1.length).map (fun k => (rk ltS (bgs t m) ((wd t k).take m) : Int)) = (List.range t.1.length).map (fun k => (rk ltS (bgs t m) ((wd t k).take m) : Int)) := fun _ => rfl
  refine Ret.bind (ret_foldO (fun i s => s = (List.range t.1.length).map fun k => (rk ltS (bgs t i) ((wd t k).take i) : Int)) ?_ fun i s a ha hs => ?_) fun s hs => Ret.pure ?_
  · -- none done: all alike
    refine List.ext_getElem? fun k => ?_
    rw [List.getElem?_map]
    by_cases hk : k < t.1.length
    · rw [List.getElem?_replicate, if_pos hk, List.getElem?_range hk]
      have : rk ltS (bgs t 0) ((wd t k).take 0) = 0 := by
        unfold rk
        rw [List.length_eq_zero_iff, List.filter_eq_nil_iff]
        intro x _
        rw [List.take_zero, ltS_nil2]; decide
      show some (0 : Int) = some ((rk ltS (bgs t 0) ((wd t k).take 0) : Nat) : Int)
      rw [this]; rfl
    · rw [List.getElem?_eq_none (by simp; omega), List.getElem?_eq_none (by simp; omega)]; rfl
  · have ha := upto_get ha
    obtain rfl : a = (i : Int) := by omega
    refine ret_need (szB_of (by rw [enumL_len]; omega)) ?_
    let key : Nat → Sg × Int := fun k => ([t.2.getD k 0], if i = 0 then 0 else if t.1.getD k (-1) < 0 then -1 else (rk ltS (bgs t i) ((wdI t (t.1.getD k (-1))).take i) : Int))
    have ek : compS (enumL t.1) (fun a76 : Int × Int => (atI t.2 a76.1).bind fun c103 => (m_number_above s a76.2 (i : Int)).bind fun r104 => some (some ([c103], r104))) = some ((enumL t.1).map fun p => key p.1.toNat) := by
      refine compS_map (fun p : Int × Int => key p.1.toNat) fun p hp => ?_
      obtain ⟨k, e1, e2⟩ := enumL_mem hp
      have hk := (List.getElem?_eq_some_iff.mp e2).1
      have hc := List.getElem?_eq_getElem (show k < t.2.length by omega)
      have hu := up_bd T e2
      rw [e1, atI_nat hc, hs]
      show (m_number_above _ p.2 (i : Int)).bind _ = _
      rw [above_eq T hu.1 (by omega)]
      show some (some ([t.2[k]], _)) = some (some (key ((k : Int)).toNat))
      rw [Int.toNat_natCast]
      show _ = some (some ([t.2.getD k 0], _))
      rw [getD_of hc, getD_of e2]
    have eq2 : (enumL t.1).map (fun p => key p.1.toNat) = (List.range t.1.length).map key := by
      refine List.ext_getElem? fun k => ?_
      rw [List.getElem?_map, List.getElem?_map]
      by_cases hk : k < t.1.length
      · rw [enumL_at (List.getElem?_eq_getElem hk), List.getElem?_range hk]
        show some (key ((k : Int)).toNat) = _
        rw [Int.toNat_natCast]; rfl
      · rw [List.getElem?_eq_none (by rw [enumL_len]; omega), List.getElem?_eq_none (by simp; omega)]; rfl
    rw [eq2] at ek
    refine Ret.eq ek ?_
    refine Ret.eq (numbered_eq (by simp; omega)) (Ret.pure ?_)
    rw [List.map_map]
    refine List.map_congr_left fun k hk => ?_
    show ((rk (ltP ltS ltI) ((List.range t.1.length).map key) (key k) : Nat) : Int) = ((rk ltS (bgs t (i + 1)) ((wd t k).take (i + 1)) : Nat) : Int)
    refine congrArg (fun n : Nat => (n : Int)) (rk_iso key (fun k => (wd t k).take (i + 1)) (lo_P lo_S lo_I) lo_S (List.range t.1.length) (fun j hj k hk => ?_) hk)
    -- the key's order is that of the beginnings of one letter more
    have hj := List.mem_range.mp hj
    have hk := List.mem_range.mp hk
    have ej := List.getElem?_eq_getElem hj
    have ek := List.getElem?_eq_getElem hk
    have bj := up_bd T ej
    have bk := up_bd T ek
    show ltP ltS ltI ([t.2.getD j 0], _) ([t.2.getD k 0], _) = ltS ((wd t j).take (i + 1)) ((wd t k).take (i + 1))
    rw [getD_of ej, getD_of ek, wd_cons T ej, wd_cons T ek, List.take_succ_cons, List.take_succ_cons, ltS_cons]
    unfold ltP
    by_cases hc : t.2.getD j 0 = t.2.getD k 0
    · rw [if_pos (by rw [hc]), decide_eq_false (by omega), decide_eq_true hc, Bool.false_or, Bool.true_and]
      -- by what stands above
      have inb : ∀ u : Int, 0 ≤ u → u < t.1.length → (wdI t u).take i ∈ bgs t i := fun u h0 h1 => by
        refine List.mem_map.mpr ⟨u.toNat, List.mem_range.mpr (by omega), ?_⟩
        unfold wdI
        rw [if_pos h0]
      have neg : ∀ u : Int, u < 0 → wdI t u = [] := fun u h => by unfold wdI; rw [if_neg (by omega)]
      have ne : i ≠ 0 → ∀ u : Int, 0 ≤ u → u < t.1.length → ((wdI t u).take i).isEmpty = false := fun hi u h0 h1 => by
        have h2 := wd_len T.ups u.toNat (by omega)
        have e : wdI t u = wd t u.toNat := by unfold wdI; rw [if_pos h0]
        rw [e]
        cases e2 : wd t u.toNat with
        | nil => rw [e2] at h2; simp at h2
        | cons c r => cases i with
          | zero => exact absurd rfl hi
          | succ i => rfl
      by_cases hi : i = 0
      · subst hi
        simp [ltI, ltS]
      · simp only [if_neg hi]
        by_cases h1 : t.1[j] < 0
        · rw [if_pos h1, neg _ h1, List.take_nil, ltS_nil]
          by_cases h2 : t.1[k] < 0
          · rw [if_pos h2, neg _ h2]; simp [ltI]
          · rw [if_neg h2, ne hi _ (by omega) (by omega)]
            simp only [ltI, Bool.not_false, decide_eq_true_eq]
            omega
        · rw [if_neg h1]
          by_cases h2 : t.1[k] < 0
          · rw [if_pos h2, neg _ h2, List.take_nil, ltS_nil2]
            simp only [ltI, decide_eq_false_iff_not]
            omega
          · rw [if_neg h2]
            have := rk_lt lo_S (inb _ (by omega) (by omega : t.1[j] < t.1.length)) (inb _ (by omega) (by omega : t.1[k] < t.1.length))
            unfold ltI
            rw [Bool.eq_iff_iff, decide_eq_true_eq, ← this]
            omega
    · rw [if_neg (by intro e; exact hc (by simpa using e)), ltS_one, decide_eq_false hc, Bool.false_and, Bool.or_false]
  · rw [hs, upto_len, show ((n : Int) - 0).toNat = n by omega]
    have eb : bgs t n = bgs t L := by
      unfold bgs
      exact List.map_congr_left fun k hk => en k (List.mem_range.mp hk)
    rw [eb]
    refine List.map_congr_left fun k hk => ?_
    rw [en k (List.mem_range.mp hk)]

/-! ### plain: the order -/
theorem order_eq {t : Tre} (T : TreeOk t) : m_order_of t = some ((ordL t).map fun k : Nat => (k : Int)) := by
  have hp := T.ups.pos
  have hm := T.most
  unfold m_order_of
  have hc := classes_eq T (L := 60)
  rw [show (((60 : Nat) : Int)) = (60 : Int) from rfl] at hc
  rw [hc]
  show (need _ ()).bind _ = _
  rw [need_eq (szB_of (by rw [enumL_len]; simp; omega))]
  show (compS _ _).bind _ = _
  rw [compS_map (fun p : Int × Int => (p.2, p.1)) fun _ _ => rfl]
  show (need _ ()).bind _ = _
  rw [need_eq (szB_of (by rw [srt_len, List.length_map, enumL_len]; simp; omega))]
  show (compS _ _).bind _ = _
  rw [compS_map (fun p : Int × Int => p.2) fun _ _ => rfl]
  refine congrArg some ?_
  have e1 : (enumL ((List.range t.1.length).map fun k => (rk ltS (bgs t 60) ((wd t k).take 60) : Int))).map (fun p => (p.2, p.1)) = (List.range t.1.length).map fun k => ((rk ltS (bgs t 60) ((wd t k).take 60) : Int), (k : Int)) := by
    refine List.ext_getElem? fun k => ?_
    rw [List.getElem?_map, List.getElem?_map]
    by_cases hk : k < t.1.length
    · rw [enumL_at (by rw [List.getElem?_map, List.getElem?_range hk]; rfl), List.getElem?_range hk]; rfl
    · rw [List.getElem?_eq_none (by rw [enumL_len]; simp; omega), List.getElem?_eq_none (by simp; omega)]; rfl
  rw [e1]
  obtain ⟨js, h1, h2, h3⟩ := srt_iso (lt := ltP ltI ltI) (lt' := ltP ltS ltI) (fun k : Nat => ((rk ltS (bgs t 60) ((wd t k).take 60) : Int), (k : Int))) (fun k : Nat => (wd t k, (k : Int))) (List.range t.1.length) fun j hj k hk => by
    have hj := List.mem_range.mp hj
    have hk := List.mem_range.mp hk
    have tk : ∀ k, k < t.1.length → (wd t k).take 60 = wd t k := fun k hk => List.take_of_length_le (by have := wd_len T.ups k hk; omega)
    have ib : ∀ k, k < t.1.length → wd t k ∈ bgs t 60 := fun k hk => List.mem_map.mpr ⟨k, List.mem_range.mpr hk, tk k hk⟩
    unfold ltP
    simp only [tk j hj, tk k hk]
    have q1 := rk_lt lo_S (ib j hj) (ib k hk)
    have q2 := rk_eq lo_S (ib j hj) (ib k hk)
    by_cases e : wd t j = wd t k
    · rw [if_pos e, if_pos (by rw [e])]
    · rw [if_neg e, if_neg (by intro z; exact e (q2.mp (by omega)))]
      unfold ltI
      rw [Bool.eq_iff_iff, decide_eq_true_eq, ← q1]
      omega
  have ej : js = ordL t := by
    have h4 : srtL (ltP ltS ltI) ((List.range t.1.length).map fun k => (wd t k, (k : Int))) = (ordL t).map fun k => (wd t k, (k : Int)) := by
      unfold srtL ordL srtL
      exact (List.map_mergeSort (f := fun k : Nat => (wd t k, (k : Int))) (r := fun a b => !wlt t b a) (s := fun a b => !ltP ltS ltI b a) fun a _ b _ => rfl).symm
    rw [h4] at h3
    have h5 : (fun k : Nat => (wd t k, (k : Int))).Injective := fun a b e => by
      have h9 : (a : Int) = (b : Int) := congrArg Prod.snd e
      omega
    exact (List.map_inj_right (fun a b e => h5 e)).mp h3.symm
  rw [h2, ej, List.map_map]; rfl

theorem maxM_some : ∀ {xs : List Int}, xs ≠ [] → ∃ m, maxM xs = some m
  | [], h => absurd rfl h
  | x :: xs, _ => by
    unfold maxM
    rw [List.foldl_cons]
    have key : ∀ (xs : List Int) (a : Int), ∃ m, xs.foldl (fun m x => match m with
      | none => some x
      | some y => some (if x > y then x else y)) (some a) = some m := fun xs => by
      induction xs with
      | nil => exact fun a => ⟨a, rfl⟩
      | cons y ys ih => exact fun a => ih _
    exact key xs x

theorem compS_fil {α : Type} {xs : List α} {f : α → Option (Option α)} (c : α → Bool) (h : ∀ x ∈ xs, f x = if c x = true then some (some x) else some none) : compS xs f = some (xs.filter c) := by
  rw [compS_of (fun x => if c x = true then some x else none) (fun x hx => by rw [h x hx]; cases c x <;> rfl)]
  congr 1
  induction xs with
  | nil => rfl
  | cons x xs ih =>
    rw [List.filterMap_cons, List.filter_cons, ih fun y hy => h y (List.mem_cons_of_mem _ hy)]
    cases c x <;> rfl

/-! ### plain: what is sought by halves -/
def MonoB {α : Type} (W : List α) (c : α → Bool) : Prop := ∀ (i j : Nat) (x y : α), i ≤ j → W[i]? = some x → W[j]? = some y → c y = true → c x = true
theorem count_split {α : Type} {W : List α} {c : α → Bool} {l : Nat} (h1 : ∀ (i : Nat) (x : α), i < l → W[i]? = some x → c x = true) (h2 : ∀ (i : Nat) (x : α), l ≤ i → W[i]? = some x → c x = false) (hl : l ≤ W.length) : (W.filter c).length = l := by
  have e : W.filter c = (W.take l).filter c ++ (W.drop l).filter c := by rw [← List.filter_append, List.take_append_drop]
  rw [e, List.filter_eq_self.mpr fun x hx => ?_, List.filter_eq_nil_iff.mpr fun x hx => ?_]
  · rw [List.append_nil, List.length_take]; omega
  · obtain ⟨i, hi⟩ := List.getElem?_of_mem hx
    rw [List.getElem?_drop] at hi
    rw [h2 _ _ (by omega) hi]; decide
  · obtain ⟨i, hi⟩ := List.getElem?_of_mem hx
    have hlt := (List.getElem?_eq_some_iff.mp hi).1
    rw [List.length_take] at hlt
    rw [List.getElem?_take, if_pos (by omega)] at hi
    exact h1 _ _ (by omega) hi
theorem bs_ret {α : Type} {W : List α} {c : α → Bool} (hW : W.length ≤ 1000) (hM : MonoB W c) : Ret (whileO 1000000 ((0 : Int), (W.length : Int)) (fun s6 => some (decide (s6.1 < s6.2))) (fun s15 => (atI W ((s15.1 + s15.2) / (2 : Int))).bind fun a24 => if c a24 = true then some ((((s15.1 + s15.2) / (2 : Int)) + (1 : Int)), s15.2) else some (s15.1, ((s15.1 + s15.2) / (2 : Int)))))
    (fun s => s.1 = ((W.filter c).length : Int)) := by
  refine (ret_whileO (fun s : Int × Int => 0 ≤ s.1 ∧ s.1 ≤ s.2 ∧ s.2 ≤ W.length ∧ (∀ (i : Nat) (x : α), (i : Int) < s.1 → W[i]? = some x → c x = true) ∧ ∀ (i : Nat) (x : α), s.2 ≤ i → W[i]? = some x → c x = false) (fun s => (s.2 - s.1).toNat)
    ⟨Int.le_refl _, by simp only; omega, Int.le_refl _, fun i x h => by simp only at h; omega, fun i x h e => ?_⟩ (by simp only; omega) fun s ⟨h0, h1, h2, h3, h4⟩ => ?_).mono fun s ⟨⟨h0, h1, h2, h3, h4⟩, h5⟩ => ?_
  · have := (List.getElem?_eq_some_iff.mp e).1
    simp only at h; omega
  · refine Ret.pure fun hd => ?_
    have hd := of_decide_eq_true hd
    have hm : 0 ≤ (s.1 + s.2) / 2 ∧ s.1 ≤ (s.1 + s.2) / 2 ∧ (s.1 + s.2) / 2 < s.2 := by omega
    generalize (s.1 + s.2) / (2 : Int) = m at hm
    have hx := List.getElem?_eq_getElem (show m.toNat < W.length by omega)
    refine Ret.eq (atI_of hm.1 hx) (Ret.ite (fun hc => Ret.pure ⟨⟨by simp only; omega, by simp only; omega, h2, fun i x hi hx2 => ?_, h4⟩, by simp only; omega⟩) fun hc => Ret.pure ⟨⟨h0, hm.2.1, by simp only; omega, h3, fun i x hi hx2 => ?_⟩, by simp only; omega⟩)
    · exact hM i m.toNat _ _ (by simp only at hi; omega) hx2 hx hc
    · cases e : c x with
      | false => rfl
      | true =>
        have := hM m.toNat i _ _ (by simp only at hi; omega) hx hx2 e
        rw [this] at hc; cases hc
  · have h5 := of_decide_eq_false (Option.some.inj h5)
    have := count_split (W := W) (c := c) (l := s.1.toNat) (fun i x hi hx => h3 i x (by omega) hx) (fun i x hi hx => h4 i x (by omega) hx) (by omega)
    omega
theorem take_lt : ∀ (n : Nat) (x y : Sg), ltS (y.take n) (x.take n) = true → ltS y x = true
  | 0, x, y, h => by simp [ltS] at h
  | n + 1, [], y, h => by rw [List.take_nil, ltS_nil2] at h; cases h
  | n + 1, c :: x, [], h => by rw [ltS_nil]; rfl
  | n + 1, c :: x, d :: y, h => by
    rw [List.take_succ_cons, List.take_succ_cons, ltS_cons] at h
    rw [ltS_cons]
    rw [Bool.or_eq_true, Bool.and_eq_true] at *
    exact h.imp id fun ⟨a, b⟩ => ⟨a, take_lt n x y b⟩
theorem tri : ∀ (w x : Sg), (!ltS w (x.take w.length)) = (ltS x w || swB x w) ∧ (ltS x w && swB x w) = false
  | [], x => by
    have : swB x [] = true := by simp [swB]
    rw [this, ltS_nil2]
    simp [ltS]
  | c :: w, [] => by
    have : swB [] (c :: w) = false := by simp [swB]
    rw [this, List.take_nil, ltS_nil2, ltS_nil]
    simp
  | c :: w, d :: x => by
    have e : swB (d :: x) (c :: w) = (decide (d = c) && swB x w) := by
      unfold swB
      rw [List.length_cons, List.take_succ_cons, Bool.eq_iff_iff]
      simp
    obtain ⟨h1, h2⟩ := tri w x
    rw [e, List.length_cons, List.take_succ_cons, ltS_cons, ltS_cons]
    rcases Nat.lt_trichotomy d c with h | h | h
    · have a1 : decide (c < d) = false := decide_eq_false (by omega)
      have a2 : decide (c = d) = false := decide_eq_false (by omega)
      have a3 : decide (d < c) = true := decide_eq_true h
      have a4 : decide (d = c) = false := decide_eq_false (by omega)
      rw [a1, a2, a3, a4]; simp
    · subst h
      have a1 : decide (d < d) = false := decide_eq_false (by omega)
      have a2 : decide (d = d) = true := decide_eq_true rfl
      rw [a1, a2]
      simp only [Bool.false_or, Bool.true_and]
      exact ⟨h1, h2⟩
    · have a1 : decide (c < d) = true := decide_eq_true h
      have a2 : decide (c = d) = false := decide_eq_false (by omega)
      have a3 : decide (d < c) = false := decide_eq_false (by omega)
      have a4 : decide (d = c) = false := decide_eq_false (by omega)
      rw [a1, a2, a3, a4]; simp
theorem fil_or {α : Type} {c d : α → Bool} {xs : List α} (h : ∀ x ∈ xs, (c x && d x) = false) : (xs.filter fun x => c x || d x).length = (xs.filter c).length + (xs.filter d).length := by
  induction xs with
  | nil => rfl
  | cons x xs ih =>
    have := ih fun y hy => h y (List.mem_cons_of_mem _ hy)
    have hx := h x List.mem_cons_self
    rw [List.filter_cons, List.filter_cons, List.filter_cons]
    cases e1 : c x <;> cases e2 : d x <;> simp_all <;> omega
def SortW (W : List Sg) : Prop := W.Pairwise fun a b => ltS b a = false
theorem SortW.le {W : List Sg} (h : SortW W) {i j : Nat} {x y : Sg} (hij : i ≤ j) (hx : W[i]? = some x) (hy : W[j]? = some y) : ltS y x = false := by
  rcases Nat.lt_or_eq_of_le hij with h1 | h1
  · obtain ⟨l1, e1⟩ := List.getElem?_eq_some_iff.mp hx
    obtain ⟨l2, e2⟩ := List.getElem?_eq_some_iff.mp hy
    rw [← e1, ← e2]
    exact List.pairwise_iff_getElem.mp h i j l1 l2 h1
  · subst h1
    rw [hx] at hy
    cases hy
    exact lo_S.irr x
theorem mono_lt {W : List Sg} (h : SortW W) (w : Sg) : MonoB W fun x => decide (x < w) := fun i j x y hij hx hy hc => by
  have e := h.le hij hx hy
  have hc : ltS y w = true := hc
  show ltS x w = true
  cases e2 : ltS x w with
  | true => rfl
  | false => have := lo_S.ntr (x := w) (y := x) (z := y) e2 e; rw [hc] at this; cases this
theorem mono_tk {W : List Sg} (h : SortW W) (w : Sg) : MonoB W fun x => !decide (w < x.take w.length) := fun i j x y hij hx hy hc => by
  have e := h.le hij hx hy
  have hc : (!ltS w (y.take w.length)) = true := hc
  show (!ltS w (x.take w.length)) = true
  have hc : ltS w (y.take w.length) = false := by simpa using hc
  have e2 : ltS (y.take w.length) (x.take w.length) = false := by
    cases z : ltS (y.take w.length) (x.take w.length) with
    | false => rfl
    | true => rw [take_lt _ _ _ z] at e; cases e
  rw [lo_S.ntr e2 hc]; rfl
def lessN (ws : List Sg) (w : Sg) : Nat := (ws.filter fun x => decide (x < w)).length
def bgnN (ws : List Sg) (w : Sg) : Nat := (ws.filter fun x => swB x w).length
theorem lessN_perm {ws vs : List Sg} (h : ws.Perm vs) (w : Sg) : lessN ws w = lessN vs w := (h.filter _).length_eq
theorem bgnN_perm {ws vs : List Sg} (h : ws.Perm vs) (w : Sg) : bgnN ws w = bgnN vs w := (h.filter _).length_eq
theorem cutL_to' {α : Type} (xs : List α) (n : Nat) : cutL xs none (some (n : Int)) = xs.take n := by rw [cutL_to (by omega), Int.toNat_natCast]
def ordW (t : Tre) : List Sg := (ordL t).map (wd t)
theorem ordW_sort (t : Tre) : SortW (ordW t) := by
  unfold ordW
  rw [← wds_sorted]
  exact srt_sorted lo_S
theorem ordW_perm (t : Tre) : (ordW t).Perm ((List.range t.1.length).map (wd t)) := (ordL_perm t).map _
theorem ordW_len (t : Tre) : (ordW t).length = t.1.length := by unfold ordW; rw [List.length_map, ordL_len]
def wds (t : Tre) : List Sg := (List.range t.1.length).map (wd t)

/-! ### plain: sought by halves, in the program -/
theorem less_eq {W : List Sg} (hW : W.length ≤ 1000) (h : SortW W) (w : Sg) : m_less_than W w = some (lessN W w : Int) := by
  unfold m_less_than
  exact Ret.val (P := fun r => r = (lessN W w : Int)) (Ret.bind (bs_ret hW (mono_lt h w)) fun s hs => Ret.pure hs) fun _ e => e
theorem above_eq2 {W : List Sg} (hW : W.length ≤ 1000) (h : SortW W) (w : Sg) : m_not_above W w = some ((lessN W w + bgnN W w : Nat) : Int) := by
  unfold m_not_above
  simp only [cutL_to']
  refine Ret.val (P := fun r => r = ((lessN W w + bgnN W w : Nat) : Int)) (Ret.bind (bs_ret hW (mono_tk h w)) fun s hs => Ret.pure ?_) fun _ e => e
  rw [hs]
  congr 1
  unfold lessN bgnN
  rw [← fil_or (c := fun x => decide (x < w)) (d := fun x => swB x w) fun x _ => (tri w x).2]
  congr 1
  refine List.filter_congr fun x _ => (tri w x).1
theorem stretch_in_eq {t : Tre} (T : TreeOk t) (w : Sg) : m_stretch_in (ordW t) w = some ((lessN (wds t) w : Int), ((lessN (wds t) w + bgnN (wds t) w : Nat) : Int)) := by
  have hm := T.most
  unfold m_stretch_in
  rw [less_eq (by rw [ordW_len]; omega) (ordW_sort t), lessN_perm (ordW_perm t)]
  show (m_not_above _ _).bind _ = _
  rw [above_eq2 (by rw [ordW_len]; omega) (ordW_sort t), lessN_perm (ordW_perm t), bgnN_perm (ordW_perm t)]
  rfl

/-! ### plain: the words in order -/
theorem sorted_eq {t : Tre} (T : TreeOk t) : m_sorted_words t ((ordL t).map fun k : Nat => (k : Int)) = some (ordW t) := by
  have hm := T.most
  unfold m_sorted_words
  refine Ret.val (P := fun r => r = ordW t) (ret_need (szB_of (by rw [List.length_map, ordL_len]; omega)) (Ret.eq (compS_map (fun a : Int => wd t a.toNat) fun a ha => ?_) (Ret.pure ?_))) fun _ e => e
  · obtain ⟨k, hk, rfl⟩ := List.mem_map.mp ha
    rw [word_of_eq T (ordL_mem.mp hk), Int.toNat_natCast]; rfl
  · unfold ordW
    rw [List.map_map]
    exact List.map_congr_left fun k _ => by simp

/-! ### plain: unlike beginnings of words in order -/
theorem sw_nil (x : Sg) : swB x [] = true := by simp [swB]
theorem sw_len {x p : Sg} (h : swB x p = true) : p.length ≤ x.length := by
  have h : x.take p.length = p := of_decide_eq_true h
  have := congrArg List.length h
  rw [List.length_take] at this; omega
theorem sw_take (x : Sg) (n : Nat) : swB x (x.take n) = true := by
  unfold swB
  rw [List.length_take]
  refine decide_eq_true ?_
  by_cases h : n ≤ x.length
  · rw [Nat.min_eq_left h]
  · rw [Nat.min_eq_right (by omega), List.take_of_length_le (Nat.le_refl _), List.take_of_length_le (by omega)]
theorem sw_eq_take {x p : Sg} (h : swB x p = true) : p = x.take p.length := (of_decide_eq_true h).symm
theorem sw_cp : ∀ {x y p : Sg}, swB x p = true → (swB y p = true ↔ p.length ≤ cp y x)
  | _, _, [], _ => by simp [sw_nil]
  | [], _, c :: p, h => by simp [swB] at h
  | d :: x, [], c :: p, h => by simp [swB, cp]
  | d :: x, e :: y, c :: p, h => by
    have h : (d :: x).take (p.length + 1) = c :: p := of_decide_eq_true h
    rw [List.take_succ_cons] at h
    obtain ⟨rfl, h2⟩ := List.cons.inj h
    have ih := sw_cp (y := y) (show swB x p = true from decide_eq_true h2)
    unfold cp
    by_cases e1 : e = d
    · subst e1
      rw [if_pos rfl]
      have : swB (e :: y) (e :: p) = swB y p := by
        unfold swB; rw [List.length_cons, List.take_succ_cons, Bool.eq_iff_iff]; simp
      rw [this, ih]; simp
    · rw [if_neg e1]
      have : swB (e :: y) (d :: p) = false := by
        unfold swB; rw [List.length_cons, List.take_succ_cons]; exact decide_eq_false fun z => e1 (List.cons.inj z).1
      rw [this]; simp
theorem sw_conv {q w x : Sg} (h1 : ltS w q = false) (h2 : ltS x w = false) (h : swB x q = true) : swB w q = true := by
  have t := (tri q w).1
  rw [h1, Bool.false_or] at t
  rw [← t]
  cases e : ltS q (w.take q.length) with
  | false => rfl
  | true =>
    have h : x.take q.length = q := of_decide_eq_true h
    rw [← h] at e
    rw [show (x.take q.length).length = q.length by rw [h]] at e
    rw [take_lt _ _ _ e] at h2; cases h2
theorem sw_le {q x : Sg} (h : swB x q = true) : ltS x q = false := by
  have t := (tri q x).2
  rw [h, Bool.and_true] at t; exact t
theorem lt_take {x : Sg} {i j : Nat} (h : i < j) (hj : j ≤ x.length) : ltS (x.take i) (x.take j) = true := by
  cases e : ltS (x.take i) (x.take j) with
  | true => rfl
  | false =>
    have h2 : swB (x.take j) (x.take i) = true := by
      have : x.take i = (x.take j).take i := by rw [List.take_take, Nat.min_eq_left (by omega)]
      rw [this]; exact sw_take _ _
    have := lo_S.tot _ _ e (sw_le h2)
    have := congrArg List.length this
    rw [List.length_take, List.length_take] at this; omega
/-- the new beginnings of each word -/
def bits (prev w : Sg) : List Sg := (List.range (w.length - cp prev w)).map fun j => w.take (cp prev w + j + 1)
def frs : Sg → List Sg → List Sg
  | _, [] => []
  | prev, w :: r => bits prev w ++ frs w r
def prsF : Sg → List Sg → List (Sg × Int)
  | _, [] => []
  | prev, w :: r => (w, (cp prev w : Int)) :: prsF w r
theorem bits_mem {prev w p : Sg} : p ∈ bits prev w ↔ swB w p = true ∧ swB prev p = false := by
  unfold bits
  rw [List.mem_map]
  constructor
  · rintro ⟨j, hj, rfl⟩
    have hj := List.mem_range.mp hj
    refine ⟨sw_take _ _, ?_⟩
    cases e : swB prev (w.take (cp prev w + j + 1)) with
    | false => rfl
    | true =>
      have := (sw_cp (sw_take w (cp prev w + j + 1))).mp e
      rw [List.length_take] at this
      omega
  · rintro ⟨h1, h2⟩
    have hl := sw_len h1
    have : ¬ p.length ≤ cp prev w := fun z => by rw [(sw_cp h1).mpr z] at h2; cases h2
    refine ⟨p.length - cp prev w - 1, List.mem_range.mpr (by omega), ?_⟩
    rw [show cp prev w + (p.length - cp prev w - 1) + 1 = p.length by omega]
    exact (sw_eq_take h1).symm
theorem frs_mem {p : Sg} : ∀ {ws : List Sg} {prev : Sg}, SortW (prev :: ws) → (p ∈ frs prev ws ↔ (∃ w ∈ ws, swB w p = true) ∧ swB prev p = false)
  | [], _, _ => by simp [frs]
  | w :: r, prev, h => by
    have h1 := List.pairwise_cons.mp h
    have h2 := List.pairwise_cons.mp h1.2
    unfold frs
    rw [List.mem_append, bits_mem, frs_mem h1.2]
    constructor
    · rintro (⟨a, b⟩ | ⟨⟨x, hx, a⟩, b⟩)
      · exact ⟨⟨w, List.mem_cons_self, a⟩, b⟩
      · refine ⟨⟨x, List.mem_cons_of_mem _ hx, a⟩, ?_⟩
        cases e : swB prev p with
        | false => rfl
        | true =>
          have hw := h1.1 w List.mem_cons_self
          have : ltS w p = false := lo_S.ntr (sw_le e) hw
          rw [sw_conv this (h2.1 x hx) a] at b; cases b
    · rintro ⟨⟨x, hx, a⟩, b⟩
      rcases List.mem_cons.mp hx with rfl | hx
      · exact .inl ⟨a, b⟩
      · by_cases e : swB w p = true
        · exact .inl ⟨e, b⟩
        · exact .inr ⟨⟨x, hx, a⟩, by simpa using e⟩
theorem bits_sort (prev w : Sg) : (bits prev w).Pairwise fun a b => ltS a b = true := by
  unfold bits
  rw [List.pairwise_map]
  refine List.Pairwise.imp_of_mem ?_ List.pairwise_lt_range
  intro i j hi hj hij
  have hj := List.mem_range.mp hj
  exact lt_take (by omega) (by omega)
theorem frs_sort : ∀ {ws : List Sg} {prev : Sg}, SortW (prev :: ws) → (frs prev ws).Pairwise fun a b => ltS a b = true
  | [], _, _ => .nil
  | w :: r, prev, h => by
    have h1 := List.pairwise_cons.mp h
    have h2 := List.pairwise_cons.mp h1.2
    unfold frs
    refine List.pairwise_append.mpr ⟨bits_sort prev w, frs_sort h1.2, fun a ha b hb => ?_⟩
    have ha := bits_mem.mp ha
    obtain ⟨⟨x, hx, hb1⟩, hb2⟩ := (frs_mem h1.2).mp hb
    have hwb : ltS w b = true := by
      cases e : ltS w b with
      | true => rfl
      | false => rw [sw_conv e (h2.1 x hx) hb1] at hb2; cases hb2
    cases e : ltS a b with
    | true => rfl
    | false => have := lo_S.ntr e (sw_le ha.1); rw [hwb] at this; cases this
theorem frs_nd {ws : List Sg} {prev : Sg} (h : SortW (prev :: ws)) : (frs prev ws).Nodup := (frs_sort h).imp fun e z => by rw [z, lo_S.irr] at e; cases e
theorem sortW_nil {ws : List Sg} (h : SortW ws) : SortW ([] :: ws) := List.pairwise_cons.mpr ⟨fun w _ => ltS_nil2 w, h⟩
theorem sw_of_nil {p : Sg} : swB [] p = p.isEmpty := by cases p <;> simp [swB]
theorem bits_len (prev w : Sg) : (bits prev w).length = w.length - cp prev w := by unfold bits; rw [List.length_map, List.length_range]
theorem prs_sum : ∀ (ws : List Sg) (prev : Sg), ((prsF prev ws).map fun p => (p.1.length : Int) - p.2).sum = ((frs prev ws).length : Int)
  | [], _ => rfl
  | w :: r, prev => by
    unfold prsF frs
    rw [List.map_cons, List.sum_cons, prs_sum r w, List.length_append, bits_len]
    have := (cp_le prev w).2
    show (w.length : Int) - (cp prev w : Int) + _ = _
    omega
theorem prs_fst : ∀ (ws : List Sg) (prev : Sg), (prsF prev ws).map Prod.fst = ws
  | [], _ => rfl
  | w :: r, prev => by unfold prsF; rw [List.map_cons, prs_fst r w]
theorem prs_len (ws : List Sg) (prev : Sg) : (prsF prev ws).length = ws.length := by
  have := congrArg List.length (prs_fst ws prev)
  rwa [List.length_map] at this
theorem frs_len_le : ∀ (ws : List Sg) (prev : Sg) {M : Nat}, (∀ w ∈ ws, w.length ≤ M) → (frs prev ws).length ≤ ws.length * M
  | [], _, _, _ => by simp [frs]
  | w :: r, prev, M, h => by
    unfold frs
    have := frs_len_le r w (M := M) fun x hx => h x (List.mem_cons_of_mem _ hx)
    have := h w List.mem_cons_self
    rw [List.length_append, bits_len, List.length_cons, Nat.add_mul]; omega
/-! dicts that gather -/
section
variable {α β : Type} [DecidableEq α]
theorem lkp_dput {xs : List (α × β)} {a c : α} {b : β} : lkp (dput xs a b) c = if c = a then some b else lkp xs c := by
  unfold dput lkp
  by_cases h : (xs.any fun kv => decide (kv.1 = a)) = true
  · rw [if_pos h]
    induction xs with
    | nil => simp at h
    | cons x xs ih =>
      rw [List.map_cons, List.find?_cons, List.find?_cons]
      by_cases e : x.1 = a
      · rw [if_pos e]
        by_cases ec : c = a
        · subst ec; simp [e]
        · rw [if_neg ec]
          have d1 : decide (x.1 = c) = false := decide_eq_false (by rw [e]; exact fun z => ec z.symm)
          simp only [d1]
          by_cases h2 : (xs.any fun kv => decide (kv.1 = a)) = true
          · have := ih h2
            rw [if_neg ec] at this; exact this
          · have hid : (xs.map fun kv => if kv.1 = a then (kv.1, b) else kv) = xs := by
              conv => rhs; rw [← List.map_id xs]
              refine List.map_congr_left fun y hy => ?_
              rw [if_neg fun z => h2 (List.any_eq_true.mpr ⟨y, hy, decide_eq_true z⟩)]; rfl
            rw [hid]
      · rw [if_neg e]
        have h2 : (xs.any fun kv => decide (kv.1 = a)) = true := by
          rw [List.any_cons, decide_eq_false e, Bool.false_or] at h; exact h
        have := ih h2
        by_cases ex : x.1 = c
        · rw [decide_eq_true ex]
          have : c ≠ a := fun z => e (by rw [ex, z])
          rw [if_neg this]
        · rw [decide_eq_false ex]; exact this
  · rw [if_neg h, List.find?_append]
    by_cases ec : c = a
    · subst ec
      rw [if_pos rfl]
      have : (xs.find? fun kv => decide (kv.1 = c)) = none := List.find?_eq_none.mpr fun y hy z => h (List.any_eq_true.mpr ⟨y, hy, z⟩)
      rw [this]; simp
    · rw [if_neg ec]
      cases e : xs.find? fun kv => decide (kv.1 = c) with
      | some y => rfl
      | none =>
        have : ([(a, b)].find? fun kv => decide (kv.1 = c)) = none := by
          rw [List.find?_cons, decide_eq_false (by exact fun z => ec z.symm)]; rfl
        rw [this]; rfl
theorem keys_dput {xs : List (α × β)} {a : α} {b : β} : (dput xs a b).map Prod.fst = if a ∈ xs.map Prod.fst then xs.map Prod.fst else xs.map Prod.fst ++ [a] := by
  unfold dput
  have e : (xs.any fun kv => decide (kv.1 = a)) = true ↔ a ∈ xs.map Prod.fst := by
    rw [List.any_eq_true, List.mem_map]
    exact ⟨fun ⟨x, h, z⟩ => ⟨x, h, of_decide_eq_true z⟩, fun ⟨x, h, z⟩ => ⟨x, h, decide_eq_true z⟩⟩
  by_cases h : (xs.any fun kv => decide (kv.1 = a)) = true
  · rw [if_pos h, if_pos (e.mp h), List.map_map]
    refine List.map_congr_left fun y _ => ?_
    show (if y.1 = a then (y.1, b) else y).1 = y.1
    split <;> rfl
  · rw [if_neg h, if_neg fun z => h (e.mpr z), List.map_append]; rfl
theorem lkp_iff {xs : List (α × β)} {a : α} : (lkp xs a).isSome = true ↔ a ∈ xs.map Prod.fst := by
  unfold lkp
  rw [Option.isSome_map, List.find?_isSome, List.mem_map]
  exact ⟨fun ⟨x, h, z⟩ => ⟨x, h, of_decide_eq_true z⟩, fun ⟨x, h, z⟩ => ⟨x, h, decide_eq_true z⟩⟩
theorem lkp_at {xs : List (α × β)} (nd : (xs.map Prod.fst).Nodup) {x : α × β} (h : x ∈ xs) : lkp xs x.1 = some x.2 := lkp_of nd h
/-- gathered: what comes to each key -/
def grp (es : List (α × β)) : List (α × List β) := es.foldl (fun d e => dput d e.1 (getD2 d e.1 [] ++ [e.2])) []
theorem grp_snoc (es : List (α × β)) (e : α × β) : grp (es ++ [e]) = dput (grp es) e.1 (getD2 (grp es) e.1 [] ++ [e.2]) := by
  unfold grp; rw [List.foldl_append]; rfl
theorem snoc_ind {γ : Type} {P : List γ → Prop} (h0 : P []) (h : ∀ xs x, P xs → P (xs ++ [x])) (xs : List γ) : P xs := by
  have : ∀ (n : Nat) (xs : List γ), xs.length = n → P xs := fun n => by
    induction n with
    | zero => intro xs e; rw [List.length_eq_zero_iff.mp e]; exact h0
    | succ n ih =>
      intro xs e
      have hne : xs ≠ [] := fun z => by rw [z] at e; cases e
      rw [← List.dropLast_concat_getLast hne]
      exact h _ _ (ih _ (by rw [List.length_dropLast]; omega))
  exact this _ xs rfl
theorem grp_lkp (es : List (α × β)) : (∀ a : α, lkp (grp es) a = if a ∈ es.map Prod.fst then some ((es.filter fun e => decide (e.1 = a)).map Prod.snd) else none) ∧ ((grp es).map Prod.fst).Nodup ∧ ∀ a : α, a ∈ (grp es).map Prod.fst ↔ a ∈ es.map Prod.fst := by
  induction es using snoc_ind with
  | h0 => exact ⟨fun a => by simp [grp, lkp], by simp [grp], fun a => by simp [grp]⟩
  | h es e ih =>
    obtain ⟨i1, i2, i3⟩ := ih
    have g2 : getD2 (grp es) e.1 [] = (es.filter fun x => decide (x.1 = e.1)).map Prod.snd := by
      unfold getD2
      rw [i1]
      by_cases h : e.1 ∈ es.map Prod.fst
      · rw [if_pos h]; rfl
      · rw [if_neg h]
        have : (es.filter fun x => decide (x.1 = e.1)) = [] := List.filter_eq_nil_iff.mpr fun x hx z => h (List.mem_map.mpr ⟨x, hx, of_decide_eq_true z⟩)
        rw [this]; rfl
    refine ⟨fun a => ?_, ?_, fun a => ?_⟩
    · rw [grp_snoc, lkp_dput, g2, i1]
      rw [List.map_append, List.filter_append]
      by_cases h : a = e.1
      · subst h
        rw [if_pos rfl, if_pos (List.mem_append.mpr (.inr (by simp)))]
        simp
      · rw [if_neg h]
        have e1 : (a ∈ es.map Prod.fst ++ [e].map Prod.fst) ↔ a ∈ es.map Prod.fst := by
          rw [List.mem_append]; simp [h]
        have e2 : ([e].filter fun x => decide (x.1 = a)) = [] := by
          rw [List.filter_cons, decide_eq_false (by exact fun z => h z.symm)]; rfl
        rw [e2, List.append_nil]
        by_cases h3 : a ∈ es.map Prod.fst
        · rw [if_pos h3, if_pos (e1.mpr h3)]
        · rw [if_neg h3, if_neg fun z => h3 (e1.mp z)]
    · rw [grp_snoc, keys_dput]
      split
      · exact i2
      · rename_i h
        exact List.nodup_append.mpr ⟨i2, by simp, fun x hx y hy => by
          rw [List.mem_singleton.mp hy]
          exact fun z => h (z ▸ hx)⟩
    · rw [grp_snoc, keys_dput, List.map_append, List.mem_append, ← i3]
      split
      · rename_i h
        exact ⟨.inl, fun z => z.elim id fun z => by
          have : a = e.1 := by simpa using z
          rw [this]; exact h⟩
      · rw [List.mem_append]; simp
theorem grp_len (es : List (α × β)) : (grp es).length ≤ es.length := by
  induction es using snoc_ind with
  | h0 => exact Nat.le_refl _
  | h es e ih =>
    have := congrArg List.length (keys_dput (xs := grp es) (a := e.1) (b := getD2 (grp es) e.1 [] ++ [e.2]))
    rw [grp_snoc]
    rw [List.length_map] at this
    rw [this, List.length_append]
    split
    · rw [List.length_map]; simp; omega
    · rw [List.length_append, List.length_map]; simp; omega
theorem grp_get (es : List (α × β)) (a : α) : getD2 (grp es) a [] = (es.filter fun e => decide (e.1 = a)).map Prod.snd := by
  unfold getD2
  rw [(grp_lkp es).1]
  by_cases h : a ∈ es.map Prod.fst
  · rw [if_pos h]; rfl
  · rw [if_neg h]
    have : (es.filter fun x => decide (x.1 = a)) = [] := List.filter_eq_nil_iff.mpr fun x hx z => h (List.mem_map.mpr ⟨x, hx, of_decide_eq_true z⟩)
    rw [this]; rfl
end
/-- how many of each length -/
def hist (M : Nat) (xs : List Sg) : List Int := (List.range M).map fun l => ((xs.filter fun p => decide (p.length = l + 1)).length : Int)
theorem hist_get {M : Nat} {xs : List Sg} {l : Nat} (h : l < M) : (hist M xs)[l]? = some ((xs.filter fun p => decide (p.length = l + 1)).length : Int) := by
  unfold hist; rw [List.getElem?_map, List.getElem?_range h]; rfl
theorem hist_len (M : Nat) (xs : List Sg) : (hist M xs).length = M := by unfold hist; rw [List.length_map, List.length_range]
theorem hist_snoc {M : Nat} {xs : List Sg} {p : Sg} (h : 0 < p.length) (h2 : p.length ≤ M) : (hist M xs).set (p.length - 1) (((xs.filter fun q => decide (q.length = p.length - 1 + 1)).length : Int) + 1) = hist M (xs ++ [p]) := by
  refine List.ext_getElem? fun l => ?_
  by_cases hl : l < M
  · rw [hist_get hl, List.filter_append, List.length_append]
    by_cases e : p.length - 1 = l
    · subst e
      rw [List.getElem?_set_self (by rw [hist_len]; omega), List.filter_cons, decide_eq_true (show p.length = p.length - 1 + 1 by omega)]
      simp
    · rw [List.getElem?_set_ne e, hist_get hl, List.filter_cons, decide_eq_false (show ¬ p.length = l + 1 by omega)]
      simp
  · rw [List.getElem?_eq_none (by rw [List.length_set, hist_len]; omega), List.getElem?_eq_none (by rw [hist_len]; omega)]
theorem hist_perm {M : Nat} {xs ys : List Sg} (h : xs.Perm ys) : hist M xs = hist M ys := by
  unfold hist
  exact List.map_congr_left fun l _ => by rw [(h.filter _).length_eq]
theorem hist_nil (M : Nat) : hist M [] = List.replicate M 0 := by
  unfold hist
  refine List.ext_getElem? fun l => ?_
  rw [List.getElem?_map, List.getElem?_replicate]
  by_cases hl : l < M
  · rw [List.getElem?_range hl, if_pos hl]; rfl
  · rw [List.getElem?_eq_none (by rw [List.length_range]; omega), if_neg hl]; rfl

/-- what is read, place by place, each length -/
def ev (t : Tre) (k : Nat) : List (Sg × Int) := (List.range (wd t k).length).map fun j => ((wd t k).take (j + 1), (k : Int))
def evs (t : Tre) : List (Sg × Int) := (List.range t.1.length).flatMap (ev t)
theorem evs_len {t : Tre} (T : TreeOk t) : ∀ n, n ≤ t.1.length → ((List.range n).flatMap (ev t)).length ≤ n * 60
  | 0, _ => by simp
  | n + 1, h => by
    have := evs_len T n (by omega)
    have hw := wd_len T.ups n (by omega)
    have hm := T.most
    rw [List.range_succ, List.flatMap_append, List.length_append, List.flatMap_cons, List.flatMap_nil, List.append_nil]
    have le : (ev t n).length = (wd t n).length := by
      unfold ev
      rw [List.length_map, List.length_range]
    omega
theorem reads_eq {t : Tre} (T : TreeOk t) : m__law_reads t = some (grp (evs t)) := by
  have hm := T.most
  have hl := T.len
  unfold m__law_reads
  rw [← hl]
  refine Ret.val (P := fun r => r = grp (evs t)) (Ret.eq (uptoM_of (by decide) (by decide) (by omega) (by omega)) ?_) fun _ e => e
  refine Ret.bind (ret_foldO (fun i s => s = grp ((List.range i).flatMap (ev t))) rfl fun i s a ha hs => ?_) fun s hs => Ret.pure ?_
  · have ha := upto_get ha
    obtain rfl : a = (i : Int) := by omega
    have hi : i < t.1.length := by omega
    have hw := wd_len T.ups i hi
    refine Ret.eq (law_word_eq T (by omega) (by omega)) ?_
    rw [wdI_nat]
    refine Ret.eq (uptoM_of (by decide) (by decide) (by omega) (by omega)) ?_
    refine Ret.bind (ret_foldO (fun j s => s = grp ((List.range i).flatMap (ev t) ++ (List.range j).map fun j => ((wd t i).take (j + 1), (i : Int)))) (by simpa using hs) fun j s b hb hs => ?_) fun s hs => Ret.pure ?_
    · have hb := upto_get hb
      have el := evs_len T i (by omega)
      have gl := grp_len ((List.range i).flatMap (ev t) ++ (List.range j).map fun j => ((wd t i).take (j + 1), (i : Int)))
      have gg := grp_get ((List.range i).flatMap (ev t) ++ (List.range j).map fun j => ((wd t i).take (j + 1), (i : Int))) ((wd t i).take (j + 1))
      have ll : ((List.range i).flatMap (ev t) ++ (List.range j).map fun j => ((wd t i).take (j + 1), (i : Int))).length ≤ 60 * 60 + 60 := by
        rw [List.length_append, List.length_map, List.length_range]; omega
      rw [cutL_to (by omega), show b.toNat = j + 1 by omega]
      rw [hs]
      refine Ret.eq (catLM_of ?_) (Ret.eq (a := dput (grp ((List.range i).flatMap (ev t) ++ (List.range j).map fun j => ((wd t i).take (j + 1), (i : Int)))) ((wd t i).take (j + 1)) (getD2 (grp ((List.range i).flatMap (ev t) ++ (List.range j).map fun j => ((wd t i).take (j + 1), (i : Int)))) ((wd t i).take (j + 1)) [] ++ [(i : Int)])) (need_eq (decide_eq_true (by omega))) (Ret.pure ?_))
      · rw [gg, List.length_map]
        have := List.length_filter_le (fun e : Sg × Int => decide (e.1 = (wd t i).take (j + 1))) ((List.range i).flatMap (ev t) ++ (List.range j).map fun j => ((wd t i).take (j + 1), (i : Int)))
        simp only [List.length_cons, List.length_nil]
        omega
      · have := grp_snoc ((List.range i).flatMap (ev t) ++ (List.range j).map fun j => ((wd t i).take (j + 1), (i : Int))) ((wd t i).take (j + 1), (i : Int))
        rw [← this, List.append_assoc, List.range_succ, List.map_append]; rfl
    · rw [hs, upto_len, show (((wd t i).length : Int) + 1 - 1).toNat = (wd t i).length by omega, List.range_succ, List.flatMap_append, List.flatMap_cons, List.flatMap_nil, List.append_nil]; rfl
  · rw [hs, upto_len, show ((t.1.length : Int) - 0).toNat = t.1.length by omega]; rfl
/-- the words that are read -/
def keysR (t : Tre) : List Sg := (grp (evs t)).map Prod.fst
theorem keysR_nd (t : Tre) : (keysR t).Nodup := (grp_lkp (evs t)).2.1
theorem ev_mem {t : Tre} {k : Nat} {p : Sg} {i : Int} : (p, i) ∈ ev t k ↔ i = k ∧ p ≠ [] ∧ swB (wd t k) p = true := by
  unfold ev
  rw [List.mem_map]
  constructor
  · rintro ⟨j, hj, e⟩
    have hj := List.mem_range.mp hj
    cases e
    refine ⟨rfl, fun z => ?_, sw_take _ _⟩
    have := congrArg List.length z
    rw [List.length_take, List.length_nil] at this
    omega
  · rintro ⟨rfl, h1, h2⟩
    have hl := sw_len h2
    have h0 : 0 < p.length := List.length_pos_iff.mpr h1
    refine ⟨p.length - 1, List.mem_range.mpr (by omega), ?_⟩
    rw [show p.length - 1 + 1 = p.length by omega, ← sw_eq_take h2]
theorem keysR_mem {t : Tre} {p : Sg} : p ∈ keysR t ↔ p ≠ [] ∧ ∃ k, k < t.1.length ∧ swB (wd t k) p = true := by
  unfold keysR
  rw [(grp_lkp (evs t)).2.2, List.mem_map]
  constructor
  · rintro ⟨⟨q, i⟩, h, rfl⟩
    obtain ⟨k, hk, h⟩ := List.mem_flatMap.mp h
    obtain ⟨_, h1, h2⟩ := ev_mem.mp h
    exact ⟨h1, k, List.mem_range.mp hk, h2⟩
  · rintro ⟨h1, k, hk, h2⟩
    exact ⟨(p, (k : Int)), List.mem_flatMap.mpr ⟨k, List.mem_range.mpr hk, ev_mem.mpr ⟨rfl, h1, h2⟩⟩, rfl⟩
theorem ordW_mem {t : Tre} {w : Sg} : w ∈ ordW t ↔ ∃ k, k < t.1.length ∧ wd t k = w := by
  unfold ordW
  rw [List.mem_map]
  exact ⟨fun ⟨k, h, e⟩ => ⟨k, ordL_mem.mp h, e⟩, fun ⟨k, h, e⟩ => ⟨k, ordL_mem.mpr h, e⟩⟩
/-- the unlike words, in order -/
def frT (t : Tre) : List Sg := frs [] (ordW t)
theorem frT_mem {t : Tre} {p : Sg} : p ∈ frT t ↔ p ≠ [] ∧ ∃ k, k < t.1.length ∧ swB (wd t k) p = true := by
  unfold frT
  rw [frs_mem (sortW_nil (ordW_sort t)), sw_of_nil]
  constructor
  · rintro ⟨⟨w, hw, h⟩, e⟩
    obtain ⟨k, hk, rfl⟩ := ordW_mem.mp hw
    exact ⟨(fun z => by rw [z] at e; cases e), k, hk, h⟩
  · rintro ⟨h1, k, hk, h2⟩
    exact ⟨⟨_, ordW_mem.mpr ⟨k, hk, rfl⟩, h2⟩, by cases p with
      | nil => exact absurd rfl h1
      | cons => rfl⟩
theorem frT_sort (t : Tre) : (frT t).Pairwise fun a b => ltS a b = true := frs_sort (sortW_nil (ordW_sort t))
theorem frT_nd (t : Tre) : (frT t).Nodup := frs_nd (sortW_nil (ordW_sort t))
theorem keysR_perm (t : Tre) : (keysR t).Perm (frT t) := (List.perm_ext_iff_of_nodup (keysR_nd t) (frT_nd t)).mpr fun p => by rw [keysR_mem, frT_mem]
theorem key_len {t : Tre} (T : TreeOk t) {p : Sg} (h : p ∈ keysR t) : 0 < p.length ∧ p.length ≤ 60 := by
  have hm := T.most
  obtain ⟨h1, k, hk, h2⟩ := keysR_mem.mp h
  have := wd_len T.ups k hk
  have := sw_len h2
  exact ⟨List.length_pos_iff.mpr h1, by omega⟩
theorem keysR_len {t : Tre} (T : TreeOk t) : (keysR t).length ≤ 3600 := by
  have hm := T.most
  have := grp_len (evs t)
  have := evs_len T t.1.length (Nat.le_refl _)
  unfold keysR
  rw [List.length_map]
  unfold evs at *
  omega
theorem keys_sz {t : Tre} (T : TreeOk t) : ((grp (evs t)).all fun x => szB x.1.length) = true := List.all_eq_true.mpr fun x hx => szB_of (by
  have := key_len T (p := x.1) (List.mem_map.mpr ⟨x, hx, rfl⟩)
  omega)
/-- the deepest word -/
theorem deep_ex {t : Tre} (T : TreeOk t) : ∃ M : Nat, (∀ k, k < t.1.length → (wd t k).length ≤ M) ∧ M ≤ 60 ∧ 0 < M ∧ ∃ k, k < t.1.length ∧ (wd t k).length = M := by
  have hp := T.ups.pos
  have hm := T.most
  obtain ⟨M, hM⟩ := maxM_some (xs := (List.range t.1.length).map fun k => ((wd t k).length : Int)) fun z => by
    have := congrArg List.length z
    rw [List.length_map, List.length_range, List.length_nil] at this
    omega
  obtain ⟨h1, h2⟩ := maxM_ok hM
  obtain ⟨k, hk, e⟩ := List.mem_map.mp h1
  have hk := List.mem_range.mp hk
  have hw := wd_len T.ups k hk
  refine ⟨M.toNat, fun j hj => ?_, by omega, by omega, k, hk, by omega⟩
  have := h2 _ (List.mem_map.mpr ⟨j, List.mem_range.mpr hj, rfl⟩)
  omega
theorem maxM_is {xs : List Int} {M : Int} (h : M ∈ xs) (h2 : ∀ x ∈ xs, x ≤ M) : maxM xs = some M := by
  obtain ⟨m, hm⟩ := maxM_some (xs := xs) fun z => by rw [z] at h; cases h
  obtain ⟨a, b⟩ := maxM_ok hm
  rw [hm]
  congr 1
  have := h2 _ a
  have := b _ h
  omega

theorem ordW_len60 {t : Tre} (T : TreeOk t) : ∀ w ∈ ordW t, w.length ≤ 60 := fun w hw => by
  have hm := T.most
  obtain ⟨k, hk, rfl⟩ := ordW_mem.mp hw
  have := wd_len T.ups k hk
  omega

theorem take_count {α : Type} {c : α → Bool} : ∀ {L : List α}, MonoB L c → L.take (L.filter c).length = L.filter c ∧ L.drop (L.filter c).length = L.filter fun x => !c x
  | [], _ => ⟨rfl, rfl⟩
  | x :: L, h => by
    have h2 : MonoB L c := fun i j a b hij ha hb hc => h (i + 1) (j + 1) a b (by omega) ha hb hc
    obtain ⟨i1, i2⟩ := take_count h2
    cases e : c x with
    | true =>
      rw [List.filter_cons, if_pos e, List.filter_cons, if_neg (by rw [e]; decide), List.length_cons, List.take_succ_cons, List.drop_succ_cons, i1, i2]
      exact ⟨rfl, rfl⟩
    | false =>
      have all : ∀ y ∈ x :: L, c y = false := fun y hy => by
        obtain ⟨j, hj⟩ := List.getElem?_of_mem hy
        cases e2 : c y with
        | false => rfl
        | true =>
          have := h 0 j x y (Nat.zero_le _) rfl hj e2
          rw [e] at this; cases this
      have e3 : (x :: L).filter c = [] := List.filter_eq_nil_iff.mpr fun y hy => by rw [all y hy]; decide
      rw [e3, List.filter_eq_self.mpr fun y hy => by rw [all y hy]; rfl]
      exact ⟨rfl, rfl⟩
theorem cut_last (w : Sg) : cutL w none (some (-1 : Int)) = w.dropLast := by
  unfold cutL
  have e : HT.sIx w.length w.length (some (-1 : Int)) = w.length - 1 := by
    unfold HT.sIx
    simp
    omega
  rw [HT.sIx_none, e, List.drop_zero, Nat.sub_zero, List.dropLast_eq_take]

/-! ### plain: how many words begin so; closed words -/
theorem cp_comm : ∀ x y : Sg, cp x y = cp y x
  | [], [] => rfl
  | [], _ :: _ => rfl
  | _ :: _, [] => rfl
  | c :: x, d :: y => by
    unfold cp
    by_cases e : c = d
    · rw [if_pos e, if_pos e.symm, cp_comm x y]
    · rw [if_neg e, if_neg fun z => e z.symm]
theorem mono_ix {α : Type} {c : α → Bool} {L : List α} (h : MonoB L c) {j : Nat} {x : α} (hx : L[j]? = some x) : c x = true ↔ j < (L.filter c).length := by
  obtain ⟨t1, t2⟩ := take_count h
  constructor
  · intro hc
    by_cases hj : j < (L.filter c).length
    · exact hj
    · exfalso
      have : (L.drop (L.filter c).length)[j - (L.filter c).length]? = some x := by
        rw [List.getElem?_drop, show (L.filter c).length + (j - (L.filter c).length) = j by omega, hx]
      rw [t2] at this
      have := (List.mem_filter.mp (List.mem_of_getElem? this)).2
      rw [hc] at this; cases this
  · intro hj
    have : (L.take (L.filter c).length)[j]? = some x := by rw [List.getElem?_take, if_pos hj, hx]
    rw [t1] at this
    exact (List.mem_filter.mp (List.mem_of_getElem? this)).2
theorem upto_bgn {W : List Sg} (p : Sg) : (W.filter fun x => !decide (p < x.take p.length)).length = lessN W p + bgnN W p := by
  unfold lessN bgnN
  rw [← fil_or (c := fun x => decide (x < p)) (d := fun x => swB x p) fun x _ => (tri p x).2]
  congr 1
  exact List.filter_congr fun x _ => (tri p x).1
theorem sw_range {W : List Sg} (h : SortW W) {p x : Sg} {j : Nat} (hx : W[j]? = some x) : swB x p = true ↔ lessN W p ≤ j ∧ j < lessN W p + bgnN W p := by
  have h1 := mono_ix (mono_lt h p) hx
  have h2 := mono_ix (mono_tk h p) hx
  rw [upto_bgn] at h2
  have h1 : ltS x p = true ↔ j < lessN W p := h1
  have h2 : (!ltS p (x.take p.length)) = true ↔ j < lessN W p + bgnN W p := h2
  obtain ⟨t1, t2⟩ := tri p x
  rw [t1] at h2
  cases e1 : ltS x p <;> cases e2 : swB x p <;> simp [e1, e2] at h1 h2 t2 ⊢ <;> omega
theorem bgn_le (W : List Sg) (p : Sg) : lessN W p + bgnN W p ≤ W.length := by rw [← upto_bgn]; exact List.length_filter_le _ _
theorem prs_get : ∀ {ws : List Sg} {prev v w : Sg} {j : Nat}, (prev :: ws)[j]? = some v → ws[j]? = some w → (prsF prev ws)[j]? = some (w, (cp v w : Int))
  | [], _, _, _, _, _, h => by simp at h
  | x :: r, prev, v, w, 0, h1, h2 => by
    simp at h1 h2
    subst h1; subst h2; rfl
  | x :: r, prev, v, w, j + 1, h1, h2 => by
    show (prsF x r)[j]? = _
    exact prs_get (by simpa using h1) (by simpa using h2)
theorem frs_take : ∀ {ws : List Sg} {prev v w : Sg} {i : Nat}, (prev :: ws)[i]? = some v → ws[i]? = some w → frs prev (ws.take (i + 1)) = frs prev (ws.take i) ++ bits v w
  | [], _, _, _, _, _, h => by simp at h
  | x :: r, prev, v, w, 0, h1, h2 => by
    simp at h1 h2
    subst h1; subst h2
    rw [List.take_succ_cons, List.take_zero, List.take_zero]
    unfold frs frs
    rw [List.append_nil]; rfl
  | x :: r, prev, v, w, i + 1, h1, h2 => by
    rw [List.take_succ_cons, List.take_succ_cons]
    unfold frs
    rw [frs_take (by simpa using h1) (by simpa using h2), List.append_assoc]
theorem first_at {W : List Sg} (h : SortW W) {v w p : Sg} {i : Nat} (h1 : ([] :: W)[i]? = some v) (h2 : W[i]? = some w) (hp : p ∈ bits v w) : lessN W p = i := by
  obtain ⟨a, b⟩ := bits_mem.mp hp
  have ra := (sw_range h h2).mp a
  cases i with
  | zero => omega
  | succ i =>
    have h1 : W[i]? = some v := by simpa using h1
    have := fun z => b.symm.trans ((sw_range h h1).mpr z)
    by_cases e : lessN W p ≤ i
    · exact absurd (this ⟨e, by omega⟩) (by decide)
    · omega
def clB (W : List Sg) (p : Sg) : Bool := (frs [] W).all fun q => !decide (q.dropLast = p) || decide (bgnN W q < bgnN W p)
theorem sw_trans {x q p : Sg} (h1 : swB x q = true) (h2 : swB q p = true) : swB x p = true := by
  have e1 : x.take q.length = q := of_decide_eq_true h1
  have e2 : q.take p.length = p := of_decide_eq_true h2
  have hl := sw_len h2
  refine decide_eq_true ?_
  rw [← e1, List.take_take, Nat.min_eq_left hl] at e2
  exact e2
theorem sw_drop (q : Sg) : swB q q.dropLast = true := by rw [List.dropLast_eq_take]; exact sw_take _ _
theorem fil_le {α : Type} {c d : α → Bool} {xs : List α} (h : ∀ x ∈ xs, c x = true → d x = true) : (xs.filter c).length ≤ (xs.filter d).length := by
  induction xs with
  | nil => exact Nat.le_refl _
  | cons x xs ih =>
    have := ih fun y hy => h y (List.mem_cons_of_mem _ hy)
    have hx := h x List.mem_cons_self
    rw [List.filter_cons, List.filter_cons]
    cases e1 : c x <;> cases e2 : d x <;> simp_all <;> omega
theorem fil_lt {α : Type} {c d : α → Bool} {xs : List α} (h : ∀ x ∈ xs, c x = true → d x = true) {y : α} (hy : y ∈ xs) (h1 : d y = true) (h2 : c y = false) : (xs.filter c).length < (xs.filter d).length := by
  obtain ⟨a, b, rfl⟩ := List.append_of_mem hy
  rw [List.filter_append, List.filter_append, List.length_append, List.length_append, List.filter_cons, List.filter_cons, if_pos h1, if_neg (by rw [h2]; decide), List.length_cons]
  have i1 := fil_le (c := c) (d := d) (xs := a) fun x hx => h x (List.mem_append.mpr (.inl hx))
  have i2 := fil_le (c := c) (d := d) (xs := b) fun x hx => h x (List.mem_append.mpr (.inr (List.mem_cons_of_mem _ hx)))
  omega
/-- where a word's beginnings close: where the first and the last word that begin so part -/
theorem close_at {W : List Sg} (h : SortW W) {v w wl p : Sg} {i : Nat} (h1 : ([] :: W)[i]? = some v) (h2 : W[i]? = some w) (hp : p ∈ bits v w) (h3 : W[i + bgnN W p - 1]? = some wl) :
    swB wl p = true ∧ 0 < bgnN W p ∧ (clB W p = true ↔ ¬ ∃ c, w[p.length]? = some c ∧ wl[p.length]? = some c) := by
  obtain ⟨a, b⟩ := bits_mem.mp hp
  have hf := first_at h h1 h2 hp
  have ra := (sw_range h h2).mp a
  have b0 : 0 < bgnN W p := by omega
  have hwl : swB wl p = true := (sw_range h h3).mpr (by omega)
  refine ⟨hwl, b0, ?_⟩
  have hpe : p ≠ [] := fun z => by rw [z, sw_nil] at b; cases b
  unfold clB
  rw [List.all_eq_true]
  constructor
  · rintro hall ⟨c, c1, c2⟩
    have l1 := (List.getElem?_eq_some_iff.mp c1).1
    have q1 : swB w (w.take (p.length + 1)) = true := sw_take _ _
    have ql : (w.take (p.length + 1)).length = p.length + 1 := by rw [List.length_take]; omega
    have ew : w.take (p.length + 1) = p ++ [c] := by rw [List.take_succ, c1, ← sw_eq_take a]; rfl
    have q2 : swB wl (w.take (p.length + 1)) = true := by
      refine decide_eq_true ?_
      rw [ql, ew, List.take_succ, c2, ← sw_eq_take hwl]; rfl
    have qm : w.take (p.length + 1) ∈ frs [] W := (frs_mem (sortW_nil h)).mpr ⟨⟨w, List.mem_of_getElem? h2, q1⟩, by rw [sw_of_nil, ew]; cases p <;> rfl⟩
    have := hall _ qm
    rw [ew, List.dropLast_concat, decide_eq_true rfl] at this
    have := of_decide_eq_true (by simpa using this : decide (bgnN W (p ++ [c]) < bgnN W p) = true)
    have ge : bgnN W p ≤ bgnN W (p ++ [c]) := by
      unfold bgnN
      refine fil_le fun x hx hxp => ?_
      obtain ⟨j, hj⟩ := List.getElem?_of_mem hx
      have rx := (sw_range h hj).mp hxp
      rw [← ew]
      have o1 : ltS x (w.take (p.length + 1)) = false := lo_S.ntr (sw_le q1) (h.le (by omega) h2 hj)
      exact sw_conv o1 (h.le (by omega) hj h3) q2
    omega
  · intro hno q hq
    by_cases e : q.dropLast = p
    · rw [decide_eq_true e]
      show decide _ = true
      refine decide_eq_true ?_
      obtain ⟨_, hqe⟩ := (frs_mem (sortW_nil h)).mp hq
      have hqn : q ≠ [] := fun z => by rw [z, sw_nil] at hqe; cases hqe
      have hql : q.length = p.length + 1 := by
        have := congrArg List.length e
        rw [List.length_dropLast] at this
        have := List.length_pos_iff.mpr hqn
        omega
      have sub : ∀ x ∈ W, swB x q = true → swB x p = true := fun x _ hx => sw_trans hx (by rw [← e]; exact sw_drop q)
      have two : swB w q = false ∨ swB wl q = false := by
        cases e1 : swB w q with
        | false => exact .inl rfl
        | true =>
          cases e2 : swB wl q with
          | false => exact .inr rfl
          | true =>
            exfalso
            have x1 : w.take q.length = q := of_decide_eq_true e1
            have x2 : wl.take q.length = q := of_decide_eq_true e2
            have c1 := List.getElem?_eq_getElem (show p.length < q.length by omega)
            refine hno ⟨q[p.length]'(by omega), ?_, ?_⟩
            · have := congrArg (fun l : Sg => l[p.length]?) x1
              simp only [List.getElem?_take, if_pos (show p.length < q.length by omega)] at this
              rw [this, c1]
            · have := congrArg (fun l : Sg => l[p.length]?) x2
              simp only [List.getElem?_take, if_pos (show p.length < q.length by omega)] at this
              rw [this, c1]
      unfold bgnN
      rcases two with z | z
      · exact fil_lt sub (List.mem_of_getElem? h2) a z
      · exact fil_lt sub (List.mem_of_getElem? h3) hwl z
    · rw [decide_eq_false e]; rfl
/-! what the law gathers of a word: its places -/
theorem range_one {n a : Nat} : (List.range n).filter (fun j => decide (j = a)) = if a < n then [a] else [] := by
  induction n with
  | zero => rfl
  | succ n ih =>
    rw [List.range_succ, List.filter_append, ih]
    by_cases h : a < n
    · rw [if_pos h, if_pos (by omega), List.filter_cons, decide_eq_false (by omega)]; rfl
    · rw [if_neg h]
      by_cases e : a = n
      · subst e
        rw [if_pos (by omega), List.filter_cons, decide_eq_true rfl]; rfl
      · rw [if_neg (by omega), List.filter_cons, decide_eq_false (fun z => e z.symm)]; rfl
def plc (t : Tre) (w : Sg) : List Int := ((List.range t.1.length).filter fun k => swB (wd t k) w).map fun k : Nat => (k : Int)
theorem ev_fil {t : Tre} {k : Nat} {p : Sg} (hp : p ≠ []) : (ev t k).filter (fun e => decide (e.1 = p)) = if swB (wd t k) p = true then [(p, (k : Int))] else [] := by
  unfold ev
  rw [List.filter_map]
  have hpl := List.length_pos_iff.mpr hp
  by_cases h : swB (wd t k) p = true
  · have hl := sw_len h
    have e : (List.range (wd t k).length).filter ((fun e : Sg × Int => decide (e.1 = p)) ∘ fun j => ((wd t k).take (j + 1), (k : Int))) = (List.range (wd t k).length).filter fun j => decide (j = p.length - 1) := by
      refine List.filter_congr fun j hj => ?_
      have hj := List.mem_range.mp hj
      show decide ((wd t k).take (j + 1) = p) = decide (j = p.length - 1)
      rw [Bool.eq_iff_iff, decide_eq_true_eq, decide_eq_true_eq]
      constructor
      · intro z
        have := congrArg List.length z
        rw [List.length_take] at this
        omega
      · rintro rfl
        rw [show p.length - 1 + 1 = p.length by omega]
        exact (sw_eq_take h).symm
    rw [e, range_one, if_pos (by omega), if_pos h, List.map_cons, List.map_nil, show p.length - 1 + 1 = p.length by omega, ← sw_eq_take h]
  · rw [if_neg h]
    have : (List.range (wd t k).length).filter ((fun e : Sg × Int => decide (e.1 = p)) ∘ fun j => ((wd t k).take (j + 1), (k : Int))) = [] := by
      refine List.filter_eq_nil_iff.mpr fun j _ z => h ?_
      have z : (wd t k).take (j + 1) = p := of_decide_eq_true z
      rw [← z]; exact sw_take _ _
    rw [this]; rfl
theorem evs_fil {t : Tre} {p : Sg} (hp : p ≠ []) : ((evs t).filter fun e => decide (e.1 = p)).map Prod.snd = plc t p := by
  unfold evs plc
  rw [List.filter_flatMap]
  generalize List.range t.1.length = ks
  induction ks with
  | nil => rfl
  | cons k ks ih =>
    rw [List.flatMap_cons, List.map_append, ih, ev_fil hp, List.filter_cons]
    by_cases h : swB (wd t k) p = true
    · rw [if_pos h, if_pos h]; rfl
    · rw [if_neg h, if_neg h]; rfl
theorem reads_at {t : Tre} {p : Sg} (hp : p ∈ keysR t) : lkp (grp (evs t)) p = some (plc t p) := by
  rw [(grp_lkp (evs t)).1, if_pos ((grp_lkp (evs t)).2.2 p |>.mp hp), evs_fil (keysR_mem.mp hp).1]
theorem reads_no {t : Tre} {p : Sg} (hp : p ∉ keysR t) : lkp (grp (evs t)) p = none := by
  rw [(grp_lkp (evs t)).1, if_neg fun z => hp ((grp_lkp (evs t)).2.2 p |>.mpr z)]
theorem plc_len (t : Tre) (p : Sg) : (plc t p).length = bgnN (ordW t) p := by
  unfold plc
  rw [bgnN_perm (ordW_perm t), List.length_map]
  unfold bgnN
  rw [List.filter_map, List.length_map]; rfl
theorem keys_sorted (t : Tre) : srtL ltS (keysR t) = frT t := srt_of lo_S (keysR_perm t) ((frT_sort t).imp fun h => lo_S.asym h)

/-! ### plain: a word that is sought, drawn -/
theorem repSM_of {s : Sg} {n : Int} (h0 : -1000 ≤ n) (h1 : n ≤ 1000) (h2 : s.length * n.toNat ≤ 16777216) : repSM s n = some (repS s n) := by
  unfold repSM
  exact need_eq (by rw [Bool.and_eq_true]; exact ⟨decide_eq_true (by omega), szB_of h2⟩)
theorem seek_ret {n : Int} {p : List Int} {t : Tre} (T : TreeOk t) (hp : PoolB n p) (hn : n ≤ 1000000) : Ret (m__law_seek p t) (fun r => r.1.length ≤ 200 ∧ PoolB (n + 6) r.2) := by
  have hm := T.most
  have hl := T.len
  have hu := T.ups.pos
  unfold m__law_seek
  refine Ret.bind (take_ret hp (by omega) (by decide) (by decide)) fun way ⟨gw, hp⟩ => ?_
  refine Ret.bind (take_ret hp (by omega) (by omega) (by omega)) fun k ⟨gk, hp⟩ => ?_
  refine Ret.eq (law_word_eq T (by omega) (by omega)) ?_
  have hw : 1 ≤ (wdI t k.1).length ∧ (wdI t k.1).length ≤ 60 := by
    unfold wdI
    rw [if_pos gk.1]
    have := wd_len T.ups k.1.toNat (by omega)
    omega
  generalize wdI t k.1 = w at hw
  refine Ret.bind (take_ret hp (by omega) (by omega) (by omega)) fun a ⟨ga, hp⟩ => ?_
  refine Ret.bind (take_ret hp (by omega) (by omega) (by omega)) fun b ⟨gb, hp⟩ => ?_
  refine Ret.bind (take_ret hp (by omega) (by decide) (by decide)) fun c ⟨gc, hp⟩ => ?_
  refine Ret.bind (ret_in gc.1 (by show c.1 < (26 : Int); omega)) fun l _ => ?_
  have ct : ∀ (lo hi : Option Int), (cutL w lo hi).length ≤ 60 := fun lo hi => by
    unfold cutL
    rw [List.length_take, List.length_drop]
    omega
  have c1 := ct none (some a.1)
  have c2 := ct (some (a.1 + 1)) none
  have c3 := ct (some a.1) none
  refine Ret.eq (catM_of (by simp; omega)) ?_
  refine Ret.eq (catM_of (by simp; omega)) ?_
  refine Ret.eq (catM_of (by simp; omega)) ?_
  refine Ret.eq (catM_of (by simp; omega)) ?_
  refine Ret.eq (repSM_of (by omega) (by omega) (by simp; omega)) ?_
  refine Ret.eq (catLM_of (by simp)) ?_
  have rl : (repS [l] (a.1 + b.1 - a.1)).length ≤ 60 := by rw [rep_len]; simp; omega
  refine Ret.bind (P := fun x : Sg => x.length ≤ 200) ((ret_in gw.1 (by show way.1 < (7 : Int); omega)).mono fun x hx => ?_) fun x hx => Ret.pure ⟨hx, hp.mono (by omega)⟩
  simp only [List.mem_append, List.mem_cons, List.not_mem_nil, or_false] at hx
  have c4 := ct none (some (a.1 + b.1))
  have c5 := ct (some a.1) (some (a.1 + b.1))
  rcases hx with (h | h | h | h | h) | h | h <;> subst h
  · omega
  · omega
  · omega
  · omega
  · simp; omega
  · rw [cutL_to (by decide), List.length_take]; omega
  · omega

/-! ### plain: letters ahead and behind -/
def LET : Sg := [97, 98, 99, 100, 101, 102, 103, 104, 105, 106, 107, 108, 109, 110, 111, 112, 113, 114, 115, 116, 117, 118, 119, 120, 121, 122]
def lmr (W : List Sg) (g : Sg → Sg) : List (Sg × Int) := ((signs LET).map fun c => (c, (bgnN W (g c) : Int))).filter fun x => decide (0 < x.2)
theorem zip_self {α β : Type} (g : α → β) : ∀ xs : List α, List.zip xs (xs.map g) = xs.map fun x => (x, g x)
  | [] => rfl
  | x :: r => by rw [List.map_cons, List.zip_cons_cons, zip_self g r, List.map_cons]
theorem let_len : (signs LET).length = 26 := by decide
theorem lmr_len (W : List Sg) (g : Sg → Sg) : (lmr W g).length ≤ 26 := by
  unfold lmr
  refine Nat.le_trans (List.length_filter_le _ _) ?_
  rw [List.length_map, let_len]; exact Nat.le_refl _
theorem many_eq {W : List Sg} (h : SortW W) (hl : W.length ≤ 1000) (w : Sg) : m_many_in W w = some (bgnN W w : Int) := by
  unfold m_many_in m_stretch_in
  rw [less_eq hl h]
  show ((m_not_above _ _).bind _).bind _ = _
  rw [above_eq2 hl h]
  show some (((lessN W w + bgnN W w : Nat) : Int) - (lessN W w : Int)) = _
  congr 1
  omega
theorem more_eq {t : Tre} (T : TreeOk t) {p : Sg} (hp : 0 < bgnN (ordW t) p) (g : Sg → Sg) : m_letters_more t p ((signs LET).map g) = some (lmr (ordW t) g) := by
  have hm := T.most
  have hl := ordW_len t
  have h := ordW_sort t
  have l26 := let_len
  unfold m_letters_more
  refine Ret.val (P := fun r => r = lmr (ordW t) g) (Ret.eq (order_eq T) (Ret.eq (sorted_eq T) (Ret.eq (many_eq h (by omega) p) ?_))) fun _ e => e
  rw [if_neg (by rw [decide_eq_false (by omega)]; decide)]
  rw [show ([97, 98, 99, 100, 101, 102, 103, 104, 105, 106, 107, 108, 109, 110, 111, 112, 113, 114, 115, 116, 117, 118, 119, 120, 121, 122] : Sg) = LET from rfl, zip_self]
  refine ret_need (szB_of (by rw [List.length_map]; omega)) (Ret.eq (compS_map (fun a : Sg × Sg => (a.1, (bgnN (ordW t) a.2 : Int))) fun a _ => ?_) ?_)
  · rw [many_eq h (by omega)]; rfl
  · rw [List.map_map]
    refine ret_need (szB_of (by rw [List.length_map]; omega)) (Ret.eq (compS_fil (fun a : Sg × Int => decide (0 < a.2)) fun a _ => rfl) (Ret.pure rfl))
theorem pairs_eq {t : Tre} (T : TreeOk t) (g : Sg → Sg) (hg : ∀ c ∈ signs LET, g c ≠ []) : m__law_pairs (grp (evs t)) ((signs LET).map fun c => (c, g c)) = some (lmr (ordW t) g) := by
  have l26 := let_len
  unfold m__law_pairs
  refine Ret.val (P := fun r => r = lmr (ordW t) g) (ret_need (szB_of (by rw [List.length_map]; omega)) (Ret.eq (compS_map (fun a : Sg × Sg => (a.1, (bgnN (ordW t) a.2 : Int))) fun a ha => ?_) ?_)) fun _ e => e
  · obtain ⟨c, hc, rfl⟩ := List.mem_map.mp ha
    show some (some (c, ((getD2 (grp (evs t)) (g c) ([] : List Int)).length : Int))) = _
    have : (getD2 (grp (evs t)) (g c) ([] : List Int)).length = bgnN (ordW t) (g c) := by
      rw [grp_get, evs_fil (hg c hc), plc_len]
    rw [this]
  · rw [List.map_map]
    refine ret_need (szB_of (by rw [List.length_map]; omega)) (Ret.eq (compS_fil (fun a : Sg × Int => decide (0 < a.2)) fun a _ => rfl) (Ret.pure rfl))
theorem let_one {c : Sg} (h : c ∈ signs LET) : c.length = 1 := by
  unfold signs at h
  obtain ⟨x, _, rfl⟩ := List.mem_map.mp h
  rfl
theorem ahead_eq {p : Sg} (hp : p.length ≤ 1000) : compS (signs LET) (fun a5 => (catM a5 p).bind fun t25 => some (some t25)) = some ((signs LET).map fun c => c ++ p) :=
  compS_map (fun c : Sg => c ++ p) fun c hc => by rw [catM_of (by have := let_one hc; omega)]; rfl
theorem behind_eq {p : Sg} (hp : p.length ≤ 1000) : compS (signs LET) (fun a5 => (catM p a5).bind fun t25 => some (some t25)) = some ((signs LET).map fun c => p ++ c) :=
  compS_map (fun c : Sg => p ++ c) fun c hc => by rw [catM_of (by have := let_one hc; omega)]; rfl
theorem fronts_eq {t : Tre} (T : TreeOk t) {p : Sg} (hp : 0 < bgnN (ordW t) p) (hl : p.length ≤ 1000) : m_fronts_of t p = some (lmr (ordW t) fun c => c ++ p) := by
  unfold m_fronts_of
  rw [show ([97, 98, 99, 100, 101, 102, 103, 104, 105, 106, 107, 108, 109, 110, 111, 112, 113, 114, 115, 116, 117, 118, 119, 120, 121, 122] : Sg) = LET from rfl]
  exact Ret.val (P := fun r => r = lmr (ordW t) fun c => c ++ p) (ret_need (szB_of (by rw [let_len]; decide)) (Ret.eq (ahead_eq hl) (Ret.eq (more_eq T hp _) (Ret.pure rfl)))) fun _ e => e
theorem behinds_eq {t : Tre} (T : TreeOk t) {p : Sg} (hp : 0 < bgnN (ordW t) p) (hl : p.length ≤ 1000) : m_behinds_of t p = some (lmr (ordW t) fun c => p ++ c) := by
  unfold m_behinds_of
  rw [show ([97, 98, 99, 100, 101, 102, 103, 104, 105, 106, 107, 108, 109, 110, 111, 112, 113, 114, 115, 116, 117, 118, 119, 120, 121, 122] : Sg) = LET from rfl]
  exact Ret.val (P := fun r => r = lmr (ordW t) fun c => p ++ c) (ret_need (szB_of (by rw [let_len]; decide)) (Ret.eq (behind_eq hl) (Ret.eq (more_eq T hp _) (Ret.pure rfl)))) fun _ e => e
theorem same_pair (p : Sg × Int) : m__law_same_v2 p p = some true := by
  unfold m__law_same_v2
  rw [if_neg (by decide)]
  refine Ret.val (P := fun r => r = true) (ret_need (szB_of (by simp)) (Ret.eq (compS_map (fun _ : (Sg ⊕ Int) × (Sg ⊕ Int) => true) fun a ha => ?_) (Ret.pure rfl))) fun _ e => e
  have : a = (Sum.inl p.1, Sum.inl p.1) ∨ a = (Sum.inr p.2, Sum.inr p.2) := by simpa using ha
  rcases this with rfl | rfl
  · show (m__law_same_v0 p.1 p.1).bind _ = _
    unfold m__law_same_v0
    rw [decide_eq_true rfl, decide_eq_true rfl]; rfl
  · show (m__law_same_v1 p.2 p.2).bind _ = _
    unfold m__law_same_v1
    rw [decide_eq_true rfl, decide_eq_true rfl]; rfl
theorem same_pairs {xs : List (Sg × Int)} (h : xs.length ≤ 100000) : m__law_same_v3 xs xs = some true := by
  unfold m__law_same_v3
  rw [if_neg (by simp)]
  refine Ret.val (P := fun r => r = true) (ret_need (szB_of (by rw [List.length_zip]; omega)) (Ret.eq (compS_map (fun _ : (Sg × Int) × (Sg × Int) => true) fun p hp => ?_) (Ret.pure ?_))) fun _ e => e
  · have e : p.1 = p.2 := by
      obtain ⟨i, hi⟩ := List.getElem?_of_mem hp
      rw [List.getElem?_zip_eq_some] at hi
      exact Option.some.inj (hi.1.symm.trans hi.2)
    rw [← e, same_pair]; rfl
  · rw [List.all_eq_true]
    intro b hb
    obtain ⟨_, _, rfl⟩ := List.mem_map.mp hb
    rfl
theorem same_two {xs ys : List (Sg × Int)} (h : xs.length ≤ 100000) (h' : ys.length ≤ 100000) : m__law_same_v4 [xs, ys] [xs, ys] = some true := by
  unfold m__law_same_v4
  rw [if_neg (by simp)]
  refine Ret.val (P := fun r => r = true) (ret_need (szB_of (by simp)) (Ret.eq (compS_map (fun _ : List (Sg × Int) × List (Sg × Int) => true) fun p hp => ?_) (Ret.pure rfl))) fun _ e => e
  have : p = (xs, xs) ∨ p = (ys, ys) := by simpa using hp
  rcases this with rfl | rfl
  · show (m__law_same_v3 xs xs).bind _ = _
    rw [same_pairs h]; rfl
  · show (m__law_same_v3 ys ys).bind _ = _
    rw [same_pairs h']; rfl
theorem right_eq {t : Tre} (T : TreeOk t) {p : Sg} (hp : 0 < bgnN (ordW t) p) (hl : p.length ≤ 1000) : m__law_right t (grp (evs t)) p = some true := by
  unfold m__law_right
  rw [show ([97, 98, 99, 100, 101, 102, 103, 104, 105, 106, 107, 108, 109, 110, 111, 112, 113, 114, 115, 116, 117, 118, 119, 120, 121, 122] : Sg) = LET from rfl]
  refine Ret.val (P := fun b => b = true) (ret_need (szB_of (by rw [let_len]; decide)) (Ret.eq (compS_map (fun c : Sg => (c, c ++ p)) fun c hc => ?_) (Ret.eq (pairs_eq T (fun c => c ++ p) fun c hc z => ?_) (ret_need (szB_of (by rw [let_len]; decide)) (Ret.eq (compS_map (fun c : Sg => (c, p ++ c)) fun c hc => ?_) (Ret.eq (pairs_eq T (fun c => p ++ c) fun c hc z => ?_) ?_)))))) fun _ e => e
  · rw [catM_of (by have := let_one hc; omega)]; rfl
  · have h1 := let_one hc
    rw [(List.append_eq_nil_iff.mp z).1] at h1
    cases h1
  · rw [catM_of (by have := let_one hc; omega)]; rfl
  · have h1 := let_one hc
    rw [(List.append_eq_nil_iff.mp z).2] at h1
    cases h1
  · have k1 := lmr_len (ordW t) fun c => c ++ p
    have k2 := lmr_len (ordW t) fun c => p ++ c
    refine Ret.eq (uptoM_of (by decide) (by decide) (by decide) (by decide)) ?_
    refine Ret.bind (ret_foldR (fun _ _ => True) trivial fun i s a ha _ => ?_) fun z ⟨s', hz, _⟩ => ?_
    · refine Ret.eq (fronts_eq T hp hl) (Ret.eq (behinds_eq T hp hl) (Ret.eq (same_two (by omega) (by omega)) ?_))
      rw [if_neg (by decide)]
      exact Ret.eq (snocM_of (by omega)) (Ret.eq (snocM_of (by omega)) (Ret.pure ⟨(), rfl, trivial⟩))
    · subst hz
      exact Ret.pure rfl
theorem step_len {α : Type} (xs : List α) (lo hi : Option Int) (c : Int) : (stepL xs lo hi c).length ≤ xs.length := stepL_le xs lo hi c (Array.replicate xs.length Value.none) (by simp)
theorem plain (ns : List Int) (h : ns.length ≤ 63) : m_law ns = some true := by
  unfold m_law
  refine Ret.val (P := fun b => b = true) ?_ fun _ e => e
  refine Ret.bind (cells_ret ns (by decide) (by decide) h) fun cells _ => ?_
  refine Ret.bind (ret_foldR (fun _ _ => True) trivial fun i s a ha _ => ?_) fun z ⟨s', hz, _⟩ => ?_
  · refine Ret.bind (pool_ret a) fun p hp => ?_
    refine Ret.bind (tree_ret hp (by decide) (by decide)) fun r ⟨T, hT, hp⟩ => ?_
    have kl := keysR_len T
    have hn := T.ups.pos
    refine Ret.eq (reads_eq T) (Ret.eq (uptoM_of (by decide) (by decide) (by decide) (by decide)) (ret_need (by decide) ?_))
    refine Ret.bind (ret_compOi (fun i s => PoolB (1000 + 6 * (i : Int)) s) (fun x : Sg => True) (hp.mono (by omega)) fun i x hx hi s hs => ?_) fun q ⟨hp, lq, _⟩ => ?_
    · have hi : i < 4 := hi
      exact Ret.bind (seek_ret T hs (by omega)) fun r ⟨g, hp⟩ => Ret.pure ⟨hp.mono (by omega), _, rfl, trivial⟩
    have lq : q.2.length = 4 := lq
    refine ret_need (keys_sz T) ?_
    refine ret_need (decide_eq_true (by omega)) ?_
    have sl := step_len (srtL ltS ((grp (evs r.1)).map Prod.fst)) none none ((1 : Int) + (((grp (evs r.1)).length : Int) / (4 : Int)))
    rw [srt_len, show ((grp (evs r.1)).map Prod.fst).length = (keysR r.1).length from rfl] at sl
    refine Ret.eq (catLM_of (by omega)) (ret_need (szB_of (by rw [List.length_append]; omega)) ?_)
    refine Ret.eq (compS_fil (fun a : Sg => inD (grp (evs r.1)) a) fun a _ => rfl) ?_
    refine Ret.eq (catLM_of ?_) ?_
    · have := List.length_filter_le (fun a : Sg => inD (grp (evs r.1)) a) (q.2 ++ stepL (srtL ltS ((grp (evs r.1)).map Prod.fst)) none none ((1 : Int) + (((grp (evs r.1)).length : Int) / (4 : Int))))
      rw [List.length_append] at this
      simp only [List.length_cons, List.length_nil]
      omega
    refine Ret.bind (ret_foldR (fun _ _ => True) trivial fun i s a ha _ => ?_) fun z ⟨s', hz, _⟩ => ?_
    · have hb : 0 < bgnN (ordW r.1) a ∧ a.length ≤ 1000 := by
        rcases List.mem_append.mp (List.mem_of_getElem? ha) with h | h
        · rw [List.mem_singleton.mp h]
          refine ⟨?_, by decide⟩
          have : bgnN (ordW r.1) [] = (ordW r.1).length := by
            unfold bgnN
            rw [List.filter_eq_self.mpr fun x _ => sw_nil x]
          rw [this, ordW_len]; exact hn
        · have hk : a ∈ keysR r.1 := lkp_iff.mp (List.mem_filter.mp h).2
          have := key_len T hk
          refine ⟨?_, by omega⟩
          obtain ⟨_, k, hk2, h3⟩ := keysR_mem.mp hk
          unfold bgnN
          exact List.length_pos_iff.mpr fun z => by
            have := (List.mem_filter (p := fun x => swB x a)).mpr ⟨ordW_mem.mpr ⟨k, hk2, rfl⟩, h3⟩
            rw [z] at this; cases this
      refine Ret.eq (right_eq T hb.1 hb.2) ?_
      rw [if_neg (by decide)]
      exact Ret.pure ⟨(), rfl, trivial⟩
    · subst hz
      exact Ret.pure ⟨(), rfl, trivial⟩
  · subst hz
    exact Ret.pure rfl

end G
open PySem PySem.W PySem.Calls PyProof.Rows
section
theorem G.holds (plain : ∀ ns : List Int, ns.length ≤ 63 → G.m_law ns = some true) : PySem.Challenge.rw_upwords_k22_letters_ahead_and_behind.Holds := by
  w_on; o_law
  refine HandSHeadRun.head_any (r := OpenLaw.row PySem.Challenge.rw_upwords_k22_letters_ahead_and_behind) (q := view (OpenLaw.row PySem.Challenge.rw_upwords_k22_letters_ahead_and_behind).prog [37]) (H := G.hk) (ob := G.ob) (M := 4000) (loose := G.loose) (d := HandSHeadRun.topDef (OpenLaw.row PySem.Challenge.rw_upwords_k22_letters_ahead_and_behind).prog 37) (kwd := []) G.ob_eq
    (by kernel_rfl) (fun s => by kernel_rfl) G.run (by kernel_rfl) (by kernel_rfl) (by kernel_rfl) (by rfl) (by first | assumption | decide +kernel) (by decide +kernel) ⟨rfl, rfl, rfl, rfl, rfl, by decide +kernel⟩ ?hw ?hc
  case hw => w_witness2
  case hc =>
    refine U.walkG (l := PySem.Challenge.rw_upwords_k22_letters_ahead_and_behind) (n := 63) (k := 8) (x := "script") rfl (by decide) (by kernel_rfl) ⟨rfl, by decide, by decide⟩ ?F
    intro w mg fa h Y Gm hmg0
    obtain ⟨K, KX, c⟩ := Y
    have hmg : mg ("law" : PySem.Str) = some (.ref fa) := by
      have e : (HandSHeadRun.topDef (OpenLaw.row PySem.Challenge.rw_upwords_k22_letters_ahead_and_behind).prog 37).name = ("law" : PySem.Str) := by kernel_rfl
      rw [← e]
      exact hmg0
    obtain ⟨fd, hb, hF⟩ := G.facts (P := (PySem.Challenge.rw_upwords_k22_letters_ahead_and_behind).prog) (w := w) KX Gm hmg c
    exact ⟨K, fd, G.sp_law K, KX, hb, fun H a ns hl hS => ⟨H, _, ns, true, rfl, fun _ _ e => e, ⟨a, rfl, hS⟩, plain ns hl, fun v _ _ _ e => e⟩, hF⟩
end

set_option maxRecDepth 100000 in
set_option maxHeartbeats 0 in
theorem PySem.Challenge.cw_upwords_k22_letters_ahead_and_behind_holds : PySem.Challenge.rw_upwords_k22_letters_ahead_and_behind.Holds :=
  G.holds G.plain
#print axioms PySem.Challenge.cw_upwords_k22_letters_ahead_and_behind_holds
