import PyProof.Rows.All
import Wide.All
import OpenK.AllK
import Wide.FinOn
import HandS.ForMost
import HandS.Walk
import HandS.TupAny
import HandS.Defaults
import HandS.WordsList
import HandS.IsInst
import HandS.HeadEnd
import KE.GoesEnum
import KE.GoesMore
import KE.SortData
import HandS.TupSets
import HandS.Dict
import KE.KDictPairs
import HandS.Deep
import HandS.Steps
import KE.DataCmp
import HandS.Style
import HandS.Conv
import HandS.WordsDict
import KE.KDictSum
import KE.KDictZip
import HandS.ListItems
import KE.DataMinMax
import HandS.DictEq
import HandS.Wide
import PyProof.Rows.RowBridgeK
import KE.KIndexOf
import KE.DataFind
import PyProof.StrLawsFrom
import HandS.StrMore
import HandS.Flow
import PyProof.StrWalks
import HandS.Codes
import HandS.TupMul
import PyProof.NeKinds
import HandS.HeadHook2
import PyProof.ListStr
import HandS.Head2
import PySem.Challenge.RW_upwords_k53_what_is_a_trie
set_option Elab.async false
set_option linter.all false
set_option maxRecDepth 100000
set_option maxHeartbeats 4000000
namespace U
open PySem PySem.Spec L2

/-! ### heaps: F the part that never changes any more, H all that is tracked -/
def Sub (F H : Hp) : Prop := ∀ a o, F a = some o → H a = some o
theorem Sub.refl (F : Hp) : Sub F F := fun _ _ h => h
theorem Sub.trans {F G H : Hp} (a : Sub F G) (b : Sub G H) : Sub F H := fun x o h => b x o (a x o h)
theorem Sub.nn {F H : Hp} {p : Addr} (s : Sub F H) (h : H p = none) : F p = none := by
  cases e : F p with
  | none => rfl
  | some o => rw [s p o e] at h; cases h
theorem Sub.up1 {F : Hp} {p : Addr} {o : HO} (h : F p = none) : Sub F (upd F p o) := fun a u e => by
  rw [upd_ne (ne_of_none e h)]; exact e
theorem Sub.upd2 {F H : Hp} {p : Addr} {o : HO} (s : Sub F H) : Sub (L2.upd F p o) (L2.upd H p o) := fun a u e => by
  by_cases ha : a = p
  · subst ha; rw [upd_same] at e ⊢; exact e
  · rw [upd_ne ha] at e ⊢; exact s a u e
theorem Sub.rd {F H : Hp} {a : Addr} {u : HO} (s : Sub F H) (h : Rd F a u) : Rd H a u := by
  rcases h with h | ⟨o, h⟩
  · exact .inl (s a _ h)
  · exact .inr ⟨o, s a _ h⟩
theorem Sub.l {K : PySem.W.Frag} {F H : Hp} {a : Addr} {xs : List V} (s : Sub F H) (h : SqL K F a xs) : SqL K H a xs := by
  rcases h with h | h
  · exact .inl (s.rd h)
  · exact .inr h
theorem Sub.t {K : PySem.W.Frag} {F H : Hp} {a : Addr} {xs : List V} (s : Sub F H) (h : SqT K F a xs) : SqT K H a xs := by
  rcases h with h | h
  · exact .inl (s.rd h)
  · exact .inr h

/-- what may change between two points: W the addresses that may be written -/
structure Gr (W : List Addr) (F0 H0 F H : Hp) : Prop where
  ff : Sub F0 F
  fh : Sub F H
  hh : ∀ a o, a ∉ W → H0 a = some o → H a = some o
  lv : ∀ a, H0 a ≠ none → H a ≠ none
  out : ∀ a, H0 a ≠ none → F0 a = none → F a = none
section
variable {W W' : List Addr} {F0 H0 F H F1 H1 F2 H2 : Hp} {p q : Addr} {o u : HO}
theorem Gr.refl (h : Sub F H) : Gr W F H F H := ⟨Sub.refl F, h, fun _ _ _ e => e, fun _ e => e, fun _ _ e => e⟩
theorem Gr.trans (g : Gr W F0 H0 F1 H1) (g' : Gr W' F1 H1 F2 H2) (hW : ∀ a ∈ W', H0 a = none ∨ a ∈ W) : Gr W F0 H0 F2 H2 where
  ff := g.ff.trans g'.ff
  fh := g'.fh
  hh := fun a o hn e => g'.hh a o (fun z => (hW a z).elim (fun n => by rw [n] at e; cases e) hn) (g.hh a o hn e)
  lv := fun a e => g'.lv a (g.lv a e)
  out := fun a e n => g'.out a (g.lv a e) (g.out a e n)
theorem Gr.trans0 (g : Gr W F0 H0 F1 H1) (g' : Gr [] F1 H1 F2 H2) : Gr W F0 H0 F2 H2 := g.trans g' fun a z => absurd z (by simp)
theorem Gr.newF (g : Gr W F0 H0 F H) (hp : H p = none) : Gr W F0 H0 (upd F p o) (upd H p o) where
  ff := g.ff.trans (Sub.up1 (g.fh.nn hp))
  fh := g.fh.upd2
  hh := fun a u hn e => by
    have e1 := g.hh a u hn e
    rw [upd_ne (ne_of_none e1 hp)]; exact e1
  lv := fun a e => by
    have e1 := g.lv a e
    rw [upd_ne (fun z => by rw [z] at e1; exact e1 hp)]; exact e1
  out := fun a e n => by
    have e1 := g.lv a e
    rw [upd_ne (fun z => by rw [z] at e1; exact e1 hp)]; exact g.out a e n
theorem Gr.newM (g : Gr W F0 H0 F H) (hp : H p = none) : Gr W F0 H0 F (upd H p o) where
  ff := g.ff
  fh := g.fh.trans (Sub.up1 hp)
  hh := fun a u hn e => by
    have e1 := g.hh a u hn e
    rw [upd_ne (ne_of_none e1 hp)]; exact e1
  lv := fun a e => by
    have e1 := g.lv a e
    rw [upd_ne (fun z => by rw [z] at e1; exact e1 hp)]; exact e1
  out := g.out
theorem Gr.mut (g : Gr W F0 H0 F H) (hf : F p = none) (hw : H0 p = none ∨ p ∈ W) : Gr W F0 H0 F (upd H p o) where
  ff := g.ff
  fh := fun a u e => by rw [upd_ne (ne_of_none e hf)]; exact g.fh a u e
  hh := fun a u hn e => by
    have hne : a ≠ p := fun z => by
      subst z
      rcases hw with w | w
      · rw [w] at e; cases e
      · exact hn w
    rw [upd_ne hne]; exact g.hh a u hn e
  lv := fun a e => by
    by_cases z : a = p
    · subst z; rw [upd_same]; intro h; cases h
    · rw [upd_ne z]; exact g.lv a e
  out := g.out
theorem Gr.frz (g : Gr W F0 H0 F H) (hf : F p = none) (hh : H p = some o) (h0 : H0 p = none) : Gr W F0 H0 (upd F p o) H where
  ff := g.ff.trans (Sub.up1 hf)
  fh := fun a u e => by
    by_cases z : a = p
    · subst z; rw [upd_same] at e; cases e; exact hh
    · rw [upd_ne z] at e; exact g.fh a u e
  hh := g.hh
  lv := g.lv
  out := fun a e n => by
    rw [upd_ne (fun z => by rw [z] at e; exact e h0)]; exact g.out a e n
/-- an object of the def's own that may still change -/
structure Mu (W : List Addr) (H0 F H : Hp) (p : Addr) (o : HO) : Prop where
  fr : F p = none
  hp : H p = some o
  own : H0 p = none ∨ p ∈ W
theorem Mu.newF (m : Mu W H0 F H q u) (hp : H p = none) : Mu W H0 (upd F p o) (upd H p o) q u := by
  have ne := ne_of_none m.hp hp
  exact ⟨by rw [upd_ne ne]; exact m.fr, by rw [upd_ne ne]; exact m.hp, m.own⟩
theorem Mu.newM (m : Mu W H0 F H q u) (hp : H p = none) : Mu W H0 F (upd H p o) q u := by
  have ne := ne_of_none m.hp hp
  exact ⟨m.fr, by rw [upd_ne ne]; exact m.hp, m.own⟩
theorem Mu.mut (m : Mu W H0 F H q u) (ne : q ≠ p) : Mu W H0 F (upd H p o) q u := ⟨m.fr, by rw [upd_ne ne]; exact m.hp, m.own⟩
theorem Mu.self (m : Mu W H0 F H p u) : Mu W H0 F (upd H p o) p o := ⟨m.fr, upd_same, m.own⟩
theorem Mu.frz (m : Mu W H0 F H q u) (ne : q ≠ p) : Mu W H0 (upd F p o) H q u := ⟨by rw [upd_ne ne]; exact m.fr, m.hp, m.own⟩
theorem Mu.call (m : Mu W H0 F H q u) (g : Gr W' F H F1 H1) (hq : q ∉ W') : Mu W H0 F1 H1 q u :=
  ⟨g.out q (by rw [m.hp]; exact fun z => nomatch z) m.fr, g.hh q u hq m.hp, m.own⟩
theorem Mu.call0 (m : Mu W H0 F H q u) (g : Gr [] F H F1 H1) : Mu W H0 F1 H1 q u := m.call g (by simp)
theorem Mu.back (m : Mu W H0 F H q u) (g : Gr W' F H F1 H1) (h : H1 q = some o) : Mu W H0 F1 H1 q o :=
  ⟨g.out q (by rw [m.hp]; exact fun z => nomatch z) m.fr, h, m.own⟩
/-- a new one -/
theorem Mu.new (g : Gr W F0 H0 F H) (hp : H p = none) : Mu W H0 F (upd H p o) p o := by
  refine ⟨g.fh.nn hp, upd_same, .inl ?_⟩
  cases e : H0 p with
  | none => rfl
  | some x => exact absurd hp (g.lv p (by rw [e]; exact fun z => nomatch z))
theorem Gr.old (g : Gr W F0 H0 F H) (hp : H p = none) : H0 p = none := by
  cases e : H0 p with
  | none => rfl
  | some x => exact absurd hp (g.lv p (by rw [e]; exact fun z => nomatch z))
theorem Mu.gr (m : Mu W H0 F H p u) (g : Gr W F0 H0 F H) : Gr W F0 H0 F (upd H p o) := g.mut m.fr m.own
theorem Mu.ne (m : Mu W H0 F H p u) (hq : H q = none) : p ≠ q := ne_of_none m.hp hq
theorem Mu.l {K : PySem.W.Frag} {vs : List V} (m : Mu W H0 F H p (.lst vs)) : SqL K H p vs := .inl (.inl m.hp)
end

/-! ### what a value stands for -/
structure Rp (α : Type) where
  r : Hp → V → α → Prop
  mono : ∀ {F F' : Hp} {v : V} {x : α}, Sub F F' → r F v x → r F' v x
abbrev Sg := List Nat
abbrev S (l : Sg) : Str := ⟨l.toArray⟩
def eI : Rp Int := ⟨fun _ v x => v = .int x, fun _ h => h⟩
def eB : Rp Bool := ⟨fun _ v x => v = .bl x, fun _ h => h⟩
def eN : Rp Unit := ⟨fun _ v _ => v = .non, fun _ h => h⟩
def eS : Rp Sg := ⟨fun _ v x => v = .str (S x) ∧ x.length ≤ sizeLine, fun _ h => h⟩
def eO {α : Type} (t : Rp α) : Rp (Option α) := ⟨fun F v x => match x with
  | none => v = .non
  | some a => v ≠ .non ∧ t.r F v a, fun {F F' v x} s h => by
    cases x with
    | none => exact h
    | some a => exact ⟨h.1, t.mono s h.2⟩⟩
abbrev Al {α : Type} (t : Rp α) (F : Hp) (vs : List V) (xs : List α) : Prop := Paired (fun v x => t.r F v x) vs xs
theorem Al.mono {α : Type} {t : Rp α} {F F' : Hp} {vs : List V} {xs : List α} (h : Al t F vs xs) (s : Sub F F') : Al t F' vs xs := Paired.mapP h fun _ _ z => t.mono s z
def eP2 {α β : Type} (a : Rp α) (b : Rp β) : Rp (α × β) := ⟨fun F v x => ∃ p y z, v = .ref p ∧ F p = some (.tup [y, z]) ∧ a.r F y x.1 ∧ b.r F z x.2,
  fun s ⟨p, y, z, e, q, h1, h2⟩ => ⟨p, y, z, e, s _ _ q, a.mono s h1, b.mono s h2⟩⟩
def eP3 {α β γ : Type} (a : Rp α) (b : Rp β) (c : Rp γ) : Rp (α × β × γ) := ⟨fun F v x => ∃ p y z w, v = .ref p ∧ F p = some (.tup [y, z, w]) ∧ a.r F y x.1 ∧ b.r F z x.2.1 ∧ c.r F w x.2.2,
  fun s ⟨p, y, z, w, e, q, h1, h2, h3⟩ => ⟨p, y, z, w, e, s _ _ q, a.mono s h1, b.mono s h2, c.mono s h3⟩⟩
def eL {α : Type} (t : Rp α) : Rp (List α) := ⟨fun F v x => ∃ p vs, v = .ref p ∧ F p = some (.lst vs) ∧ Al t F vs x,
  fun s ⟨p, vs, e, q, h⟩ => ⟨p, vs, e, s _ _ q, h.mono s⟩⟩
def eT {α : Type} (t : Rp α) : Rp (List α) := ⟨fun F v x => ∃ p vs, v = .ref p ∧ F p = some (.tup vs) ∧ Al t F vs x,
  fun s ⟨p, vs, e, q, h⟩ => ⟨p, vs, e, s _ _ q, h.mono s⟩⟩
/-- the script: a list of ints, perhaps locked -/
def eQ (K : PySem.W.Frag) : Rp (List Int) := ⟨fun F v x => ∃ p, v = .ref p ∧ SqL K F p (x.map V.int), fun s ⟨p, e, q⟩ => ⟨p, e, s.l q⟩⟩
/-- a new list that is the taker's own -/
def New {α : Type} (t : Rp α) (H F' H' : Hp) (v : V) (x : List α) : Prop := ∃ p vs, v = .ref p ∧ H p = none ∧ F' p = none ∧ H' p = some (.lst vs) ∧ Al t F' vs x

/-! ### lists in step -/
section
variable {α β : Type} {R : α → β → Prop}
theorem pd_get : ∀ {xs : List α} {ys : List β} {i : Nat} {y : β}, Paired R xs ys → ys[i]? = some y → ∃ x, xs[i]? = some x ∧ R x y
  | _, _, _, _, .nil, h => by simp at h
  | _, _, 0, _, .cons r _, h => by simp at h; subst h; exact ⟨_, rfl, r⟩
  | _, _, i + 1, _, .cons _ t, h => by
    obtain ⟨x, e, r⟩ := pd_get (i := i) t (by simpa using h)
    exact ⟨x, by simpa using e, r⟩
theorem pd_getL : ∀ {xs : List α} {ys : List β} {i : Nat} {x : α}, Paired R xs ys → xs[i]? = some x → ∃ y, ys[i]? = some y ∧ R x y
  | _, _, _, _, .nil, h => by simp at h
  | _, _, 0, _, .cons r _, h => by simp at h; subst h; exact ⟨_, rfl, r⟩
  | _, _, i + 1, _, .cons _ t, h => by
    obtain ⟨x, e, r⟩ := pd_getL (i := i) t (by simpa using h)
    exact ⟨x, by simpa using e, r⟩
theorem pd_append : ∀ {xs xs' : List α} {ys ys' : List β}, Paired R xs ys → Paired R xs' ys' → Paired R (xs ++ xs') (ys ++ ys')
  | _, _, _, _, .nil, h => h
  | _, _, _, _, .cons r t, h => .cons r (pd_append t h)
theorem pd_snoc {xs : List α} {ys : List β} {x : α} {y : β} (h : Paired R xs ys) (r : R x y) : Paired R (xs ++ [x]) (ys ++ [y]) := pd_append h (.cons r .nil)
theorem pd_take : ∀ {xs : List α} {ys : List β} (n : Nat), Paired R xs ys → Paired R (xs.take n) (ys.take n)
  | _, _, 0, _ => .nil
  | _, _, _ + 1, .nil => .nil
  | _, _, n + 1, .cons r t => .cons r (pd_take n t)
theorem pd_drop : ∀ {xs : List α} {ys : List β} (n : Nat), Paired R xs ys → Paired R (xs.drop n) (ys.drop n)
  | _, _, 0, h => h
  | _, _, _ + 1, .nil => .nil
  | _, _, n + 1, .cons _ t => pd_drop n t
theorem pd_set : ∀ {xs : List α} {ys : List β} (n : Nat) {x : α} {y : β}, Paired R xs ys → R x y → Paired R (xs.set n x) (ys.set n y)
  | _, _, _, _, _, .nil, _ => .nil
  | _, _, 0, _, _, .cons _ t, h => .cons h t
  | _, _, n + 1, _, _, .cons r t, h => .cons r (pd_set n t h)
theorem pd_rev : ∀ {xs : List α} {ys : List β}, Paired R xs ys → Paired R xs.reverse ys.reverse
  | _, _, .nil => .nil
  | _, _, .cons r t => by
    rw [List.reverse_cons, List.reverse_cons]
    exact pd_snoc (pd_rev t) r
theorem pd_last : ∀ {xs : List α} {ys : List β}, Paired R xs ys → Paired R xs.dropLast ys.dropLast := fun {xs ys} h => by
  rw [List.dropLast_eq_take, List.dropLast_eq_take, Paired.length h]
  exact pd_take _ h
end
theorem al_int {F : Hp} : ∀ {vs : List V} {xs : List Int}, Al eI F vs xs → vs = xs.map V.int
  | _, _, .nil => rfl
  | _, _, .cons r t => by
    have e : _ = V.int _ := r
    rw [e, al_int t]; rfl
theorem al_ofint {F : Hp} : ∀ (xs : List Int), Al eI F (xs.map V.int) xs
  | [] => .nil
  | _ :: r => .cons rfl (al_ofint r)
theorem al_bl {F : Hp} : ∀ {vs : List V} {xs : List Bool}, Al eB F vs xs → vs = xs.map V.bl
  | _, _, .nil => rfl
  | _, _, .cons r t => by
    have e : _ = V.bl _ := r
    rw [e, al_bl t]; rfl
theorem al_str {F : Hp} : ∀ {vs : List V} {xs : List Sg}, Al eS F vs xs → vs = (xs.map S).map V.str
  | _, _, .nil => rfl
  | _, _, .cons r t => by
    have e : _ = V.str _ := r.1
    rw [e, al_str t]; rfl
theorem al_len {α : Type} {t : Rp α} {F : Hp} {vs : List V} {xs : List α} (h : Al t F vs xs) : vs.length = xs.length := Paired.length h
theorem al_at {α : Type} {t : Rp α} {F : Hp} {vs : List V} {xs : List α} {i : Int} {a : α} (h : Al t F vs xs) (e : atI xs i = some a) : ∃ v, atI vs i = some v ∧ t.r F v a := by
  unfold atI at e ⊢
  rw [al_len h]
  cases q : ixN xs.length i with
  | none => rw [q] at e; cases e
  | some j =>
    rw [q] at e
    exact pd_get h e

/-! ### the mirror's words -/
section
variable {α β σ ρ : Type}
theorem bnd {x : Option α} {f : α → Option β} {b : β} (h : x.bind f = some b) : ∃ a, x = some a ∧ f a = some b := Option.bind_eq_some_iff.mp h
def cutL (xs : List α) (lo hi : Option Int) : List α := (xs.drop (HT.sIx xs.length 0 lo)).take (HT.sIx xs.length xs.length hi - HT.sIx xs.length 0 lo)
/-- a condition of the model's limits -/
def need (c : Bool) (x : α) : Option α := if c then some x else none
theorem need_ok {c : Bool} {x a : α} (h : need c x = some a) : c = true ∧ x = a := by
  unfold need at h
  cases c with
  | true => exact ⟨rfl, Option.some.inj h⟩
  | false => cases h
def szB (n : Nat) : Bool := decide (n ≤ 16777216)
theorem sz_ok {n : Nat} (h : szB n = true) : n ≤ sizeLine := by rw [sizeLine_eq]; exact of_decide_eq_true h
def catM (a b : Sg) : Option Sg := need (szB (a.length + b.length)) (a ++ b)
def mulB (i j : Int) : Bool := decide (-(2 ^ 64) < i ∧ i < 2 ^ 64) || decide (-(2 ^ 64) < j ∧ j < 2 ^ 64)
def mulM (i j : Int) : Option Int := need (mulB i j) (i * j)
def modM (i j : Int) : Option Int := need (decide (0 < j)) (i % j)
def divM (i j : Int) : Option Int := need (decide (0 < j ∧ j < 1073741824)) (i / j)
def b2 (b : Bool) : Int := if b then 1 else 0
def mx (i j : Int) : Int := if j > i then j else i
def mn (i j : Int) : Int := if j < i then j else i
def setM (xs : List α) (i : Int) (a : α) : Option (List α) := (ixN xs.length i).map fun j => xs.set j a
def joinM (sep : Sg) (xs : List Sg) : Option Sg := need (szB ((xs.map List.length).sum + xs.length * sep.length)) (TL.joinL sep xs)
def upto (lo hi : Int) : List Int := (List.range (hi - lo).toNat).map fun (i : Nat) => lo + i
def signs (l : Sg) : List Sg := l.map fun c => [c]
def foldO : List α → σ → (σ → α → Option σ) → Option σ
  | [], s, _ => some s
  | x :: xs, s, f => (f s x).bind fun s' => foldO xs s' f
inductive Fl (σ ρ : Type) where
  | nx (s : σ)
  | rt (r : ρ)
def foldR : List α → σ → (σ → α → Option (Fl σ ρ)) → Option (Fl σ ρ)
  | [], s, _ => some (.nx s)
  | x :: xs, s, f => (f s x).bind fun
    | .nx s' => foldR xs s' f
    | .rt r => some (.rt r)
def whileO : Nat → σ → (σ → Option Bool) → (σ → Option σ) → Option σ
  | 0, _, _, _ => none
  | n + 1, s, c, b => (c s).bind fun t => if t = true then (b s).bind fun s' => whileO n s' c b else some s
/-- a comprehension: a state handed on, an item made or none -/
def compO : List α → σ → (σ → α → Option (σ × Option β)) → Option (σ × List β)
  | [], s, _ => some (s, [])
  | x :: xs, s, f => (f s x).bind fun r => (compO xs r.1 f).bind fun q => some (q.1, r.2.toList ++ q.2)
end

/-! ### the readings' nodes -/
section
variable {σ σ' : St} {H : Hp} {Q : VK} {R : V → V → Hp → Prop} {ta tb tc : TE} {t tr : TA} {D : Ends} {v x y : V} {i : Nat}
theorem n_var (h : σ[i]? = some (some v)) (k : Q v H) : tVar i σ H Q := ⟨v, h, k⟩
theorem n_c (k : Q v H) : tC v σ H Q := k
theorem n_op {r : R2} (h : ta σ H fun x H1 => tb σ H1 fun y H2 => r x y H2 Q) : tOp r ta tb σ H Q := h
theorem n_un {r : V → Hp → VK → Prop} (h : ta σ H fun x H1 => r x H1 Q) : tUn r ta σ H Q := h
theorem n_cb {r : List V → Hp → VK → Prop} (h : t σ H fun vs H1 => r vs H1 Q) : tCB r t σ H Q := h
theorem n_cons {Q : List V → Hp → Prop} (h : ta σ H fun x H1 => tr σ H1 fun xs H2 => Q (x :: xs) H2) : tCons ta tr σ H Q := h
theorem n_nil {Q : List V → Hp → Prop} (h : Q [] H) : tNil σ H Q := h
def qT (Q : Bool → Hp → Prop) : VK := fun x H' => ∃ k, x = .bl k ∧ Q k H'
def qNewT (Q : VK) : List V → Hp → Prop := fun xs H1 => xs.length ≤ sizeLine ∧ ∀ p, H1 p = none → Q (.ref p) (upd H1 p (.tup xs))
def qNewL (Q : VK) : List V → Hp → Prop := fun xs H1 => xs.length ≤ sizeLine ∧ ∀ p, H1 p = none → Q (.ref p) (upd H1 p (.lst xs))
theorem n_tup (h : t σ H (qNewT Q)) : tTup t σ H Q := h
theorem n_lst (h : t σ H (qNewL Q)) : tLst t σ H Q := h
theorem n_call {sp : Sp} {dvs : List V} {E : XK} (h : t σ H fun vs H1 => sp (vs ++ dvs) H1 Q E) : tCall sp dvs E t σ H Q := h
theorem n_sl {r : V → Option Int → Option Int → Hp → VK → Prop} {tl th : TO} (h : ta σ H fun x H1 => tl σ H1 fun l H2 => th σ H2 fun u H3 => r x l u H3 Q) : tSl r ta tl th σ H Q := h
def qPart (Q : Option Int → Hp → Prop) : VK := fun x H1 => ∃ i, x = .int i ∧ Q (some i) H1
theorem n_part {Q : Option Int → Hp → Prop} (h : ta σ H (qPart Q)) : tPart ta σ H Q := h
theorem v_part {Q : Option Int → Hp → Prop} {n : Int} (h : Q (some n) H) : qPart Q (.int n) H := ⟨n, rfl, h⟩
theorem n_nopart {Q : Option Int → Hp → Prop} (h : Q none H) : tNoPart σ H Q := h
theorem n_bm {K : PySem.W.Frag} {T : String} {r : V → List V → Hp → VK → Prop} (h : ta σ H fun x H1 => tyV K T x H1 ∧ t σ H1 fun xs H2 => r x xs H2 Q) : tBM K T r ta t σ H Q := h
theorem n_bm0 {K : PySem.W.Frag} {T : String} {r : V → List V → Hp → VK → Prop} (h : ta σ H fun x H1 => tyV K T x H1 ∧ r x [] H1 Q) : tBM0 K T r ta σ H Q := h
theorem n_test {Q : Bool → Hp → Prop} (h : ta σ H (qT Q)) : tTest ta σ H Q := h
variable {nx bk ct : L2.St → Hp → Prop} {rt : VK}
theorem n_seq {t u : TS} (h : t ⟨u ⟨nx, rt, bk, ct⟩, rt, bk, ct⟩ σ H) : tSeq t u ⟨nx, rt, bk, ct⟩ σ H := h
theorem n_asg {g : TG} (h : ta σ H fun x H1 => g x σ H1 nx) : tAsg ta g ⟨nx, rt, bk, ct⟩ σ H := h
theorem n_drop (h : ta σ H fun _ H1 => nx σ H1) : tDrop ta ⟨nx, rt, bk, ct⟩ σ H := h
theorem n_ret (h : ta σ H rt) : tRet ta ⟨nx, rt, bk, ct⟩ σ H := h
theorem n_ifs {c : TT} {t u : TS} (h : c σ H fun b H1 => if b = true then t ⟨nx, rt, bk, ct⟩ σ H1 else u ⟨nx, rt, bk, ct⟩ σ H1) : tIfS c t u ⟨nx, rt, bk, ct⟩ σ H := h
theorem n_nextS (h : nx σ H) : tNext ⟨nx, rt, bk, ct⟩ σ H := h
theorem n_name {Q : St → Hp → Prop} (e : σ.set i (some v) = σ') (k : Q σ' H) : gName i v σ H Q := by rw [← e] at k; exact k
theorem set0 {x y : Option V} {r : St} : (x :: r).set 0 y = y :: r := rfl
theorem setS {x y : Option V} {r r' : St} {n : Nat} (h : r.set n y = r') : (x :: r).set (n + 1) y = x :: r' := by rw [← h]; rfl
theorem br {b : Bool} {A B : Prop} (h1 : b = true → A) (h2 : b = false → B) : if b = true then A else B := by
  cases b with
  | true => rw [if_pos rfl]; exact h1 rfl
  | false => rw [if_neg Bool.false_ne_true]; exact h2 rfl
theorem ifT {α : Type} {b : Bool} {x y : α} {z : α} (hb : b = true) (h : (if b = true then x else y) = z) : x = z := by rw [if_pos hb] at h; exact h
theorem ifF {α : Type} {b : Bool} {x y : α} {z : α} (hb : b = false) (h : (if b = true then x else y) = z) : y = z := by
  rw [if_neg (by rw [hb]; exact Bool.false_ne_true)] at h; exact h
/-- a cut behind an expression -/
theorem n_cut (I : V → Hp → Prop) (h : ∀ Q' : VK, (∀ v H', I v H' → Q' v H') → ta σ H Q') (k : ∀ v H', I v H' → Q v H') : ta σ H Q := h Q k
theorem n_cutT {t : TT} {Q : Bool → Hp → Prop} (I : Bool → Hp → Prop) (h : ∀ Q' : Bool → Hp → Prop, (∀ v H', I v H' → Q' v H') → t σ H Q') (k : ∀ v H', I v H' → Q v H') : t σ H Q := h Q k
end
end U
set_option Elab.async false
set_option linter.all false
set_option maxRecDepth 100000
set_option maxHeartbeats 4000000
namespace U
open PySem PySem.Spec L2

/-! ### what is walked -/
structure Sr {α : Type} (J : It) (G : Hp → Prop) (as : List α) (Y : Hp → V → Hp → α → Prop) : Prop where
  goes : ∀ i H, i < as.length → G H → J.go i H
  stops : ∀ H, G H → J.stop as.length H
  yields : ∀ i H x H', G H → J.yld i H x H' → ∀ a, as[i]? = some a → Y H x H' a
abbrev Forr (J : It) (g : TG) (tb : TS) (nx : L2.St → Hp → Prop) (rt : VK) (σ : L2.St) (H : Hp) : Prop :=
  ∃ W : Nat → Nat → L2.St → Hp → Prop, (∃ m, W 0 m σ H) ∧ ∀ i m σ H, W i m σ H →
    (J.stop i H ∧ nx σ H) ∨ (J.go i H ∧ ∃ N : L2.St → Hp → Prop, (∀ σ' H', N σ' H' → ∃ m', m' < m ∧ W (i + 1) m' σ' H') ∧ ∀ x H', J.yld i H x H' → g x σ H' fun σ2 H2 => tb ⟨N, rt, nx, N⟩ σ2 H2)
section
variable {α τ ρ : Type} {J : It} {G : Hp → Prop} {as : List α} {Y : Hp → V → Hp → α → Prop} {g : TG} {tb : TS} {nx bk ct : L2.St → Hp → Prop} {rt : VK} {σ : L2.St} {H : Hp}
theorem for_o (w : Sr J G as Y) {s0 s1 : τ} {f : τ → α → Option τ} (hm : foldO as s0 f = some s1) (I : τ → L2.St → Hp → Prop) (h0 : I s0 σ H) (hG : ∀ s σ H, I s σ H → G H)
    (hs : ∀ a s s' x σ H H', I s σ H → Y H x H' a → f s a = some s' → ∀ N : L2.St → Hp → Prop, (∀ σ' H', I s' σ' H' → N σ' H') → g x σ H' fun σ2 H2 => tb ⟨N, rt, nx, N⟩ σ2 H2)
    (hd : ∀ σ H, I s1 σ H → nx σ H) : Forr J g tb nx rt σ H := by
  refine ⟨fun i m σ H => m = as.length - i ∧ i ≤ as.length ∧ ∃ s, foldO (as.drop i) s f = some s1 ∧ I s σ H, ⟨as.length, by simp, Nat.zero_le _, s0, by simpa using hm, h0⟩, ?_⟩
  rintro i m σ H ⟨rfl, hi, s, hf, p⟩
  by_cases hlt : i < as.length
  · rw [List.drop_eq_getElem_cons hlt] at hf
    obtain ⟨s', e1, e2⟩ := bnd hf
    refine .inr ⟨w.goes i H hlt (hG _ _ _ p), fun σ' H' => ∃ s, foldO (as.drop (i + 1)) s f = some s1 ∧ I s σ' H', fun σ' H' p' => ⟨as.length - (i + 1), by omega, rfl, hlt, p'⟩, fun x H' y => ?_⟩
    exact hs as[i] s s' x σ H H' p (w.yields i H x H' (hG _ _ _ p) y as[i] (by simp [hlt])) e1 _ fun σ' H' q => ⟨s', e2, q⟩
  · have e : i = as.length := by omega
    subst e
    rw [List.drop_length] at hf
    have e2 : s = s1 := Option.some.inj hf
    subst e2
    exact .inl ⟨w.stops H (hG _ _ _ p), hd σ H p⟩
theorem for_r (w : Sr J G as Y) {s0 : τ} {z : Fl τ ρ} {f : τ → α → Option (Fl τ ρ)} (hm : foldR as s0 f = some z) (I : τ → L2.St → Hp → Prop) (h0 : I s0 σ H) (hG : ∀ s σ H, I s σ H → G H)
    (hs : ∀ a s fl x σ H H', I s σ H → Y H x H' a → f s a = some fl → (∀ r, fl = .rt r → z = .rt r) → ∀ N : L2.St → Hp → Prop, (∀ s' σ' H', fl = .nx s' → I s' σ' H' → N σ' H') → g x σ H' fun σ2 H2 => tb ⟨N, rt, nx, N⟩ σ2 H2)
    (hd : ∀ s1 σ H, z = .nx s1 → I s1 σ H → nx σ H) : Forr J g tb nx rt σ H := by
  refine ⟨fun i m σ H => m = as.length - i ∧ i ≤ as.length ∧ ∃ s, foldR (as.drop i) s f = some z ∧ I s σ H, ⟨as.length, by simp, Nat.zero_le _, s0, by simpa using hm, h0⟩, ?_⟩
  rintro i m σ H ⟨rfl, hi, s, hf, p⟩
  by_cases hlt : i < as.length
  · rw [List.drop_eq_getElem_cons hlt] at hf
    obtain ⟨fl, e1, e2⟩ := bnd hf
    refine .inr ⟨w.goes i H hlt (hG _ _ _ p), fun σ' H' => ∃ s, foldR (as.drop (i + 1)) s f = some z ∧ I s σ' H', fun σ' H' p' => ⟨as.length - (i + 1), by omega, rfl, hlt, p'⟩, fun x H' y => ?_⟩
    refine hs as[i] s fl x σ H H' p (w.yields i H x H' (hG _ _ _ p) y as[i] (by simp [hlt])) e1 (fun r er => ?_) _ fun s' σ' H' es q => ⟨s', ?_, q⟩
    · subst er; exact (Option.some.inj e2).symm
    · subst es; exact e2
  · have e : i = as.length := by omega
    subst e
    rw [List.drop_length] at hf
    have e2 : Fl.nx s = z := Option.some.inj hf
    exact .inl ⟨w.stops H (hG _ _ _ p), hd s σ H e2.symm p⟩
abbrev Compp (J : It) (g : TG) (tt : TT) (te : TE) (ws : List Nat) (σ : L2.St) (H1 : Hp) (Dd : Addr) (Q : VK) : Prop :=
  ∃ W : Nat → Nat → Hp → Prop, (∃ m, W 0 m (upd H1 Dd (.lst []))) ∧ ∀ i m H, W i m H →
    (J.stop i H ∧ Q (.ref Dd) H) ∨ (J.go i H ∧ ∃ Nx : Hp → Prop, (∀ H', Nx H' → ∃ m', m' < m ∧ W (i + 1) m' H') ∧ ∀ x H', J.yld i H x H' → g x (wipe σ ws) H' fun σ2 H2 => wipe σ2 ws = wipe σ ws ∧ tt σ2 H2 fun b H3 =>
      if b = true then te σ2 H3 fun y H4 => ∃ acc, H4 Dd = some (.lst acc) ∧ acc.length < sizeLine ∧ Nx (upd H4 Dd (.lst (acc ++ [y]))) else Nx H3)
theorem compO_len {β : Type} {f : τ → α → Option (τ × Option β)} : ∀ {as : List α} {s s1 : τ} {ys : List β}, compO as s f = some (s1, ys) → ys.length ≤ as.length
  | [], s, s1, ys, h => by
    have e := Option.some.inj h
    have e2 : [] = ys := congrArg Prod.snd e
    subst e2; simp
  | a :: r, s, s1, ys, h => by
    obtain ⟨q, _, h⟩ := bnd h
    obtain ⟨⟨s2, zs⟩, h2, h⟩ := bnd h
    have e := Option.some.inj h
    have e2 : q.2.toList ++ zs = ys := congrArg Prod.snd e
    subst e2
    have l := compO_len h2
    rw [List.length_append, List.length_cons]
    cases q.2 <;> simp <;> omega
theorem comp_p {β : Type} (w : Sr J G as Y) {s0 s1 : τ} {ys : List β} {f : τ → α → Option (τ × Option β)} (hm : compO as s0 f = some (s1, ys)) (hz : szB as.length = true) {tt : TT} {te : TE} {ws : List Nat} {Dd : Addr} {Q : VK}
    (I : τ → List β → Hp → Prop) (h0 : I s0 [] (upd H Dd (.lst []))) (hG : ∀ s acc H, I s acc H → G H)
    (hs : ∀ a s r acc x H H', I s acc H → Y H x H' a → f s a = some r → acc.length < sizeLine → ∀ N : Hp → Prop, (∀ H', I r.1 (acc ++ r.2.toList) H' → N H') → g x (wipe σ ws) H' fun σ2 H2 => wipe σ2 ws = wipe σ ws ∧ tt σ2 H2 fun b H3 =>
      if b = true then te σ2 H3 fun y H4 => ∃ acc, H4 Dd = some (.lst acc) ∧ acc.length < sizeLine ∧ N (upd H4 Dd (.lst (acc ++ [y]))) else N H3)
    (hd : ∀ H, I s1 ys H → Q (.ref Dd) H) : Compp J g tt te ws σ H Dd Q := by
  have hz' := sz_ok hz
  refine ⟨fun i m H => m = as.length - i ∧ i ≤ as.length ∧ ∃ s acc zs, compO (as.drop i) s f = some (s1, zs) ∧ acc ++ zs = ys ∧ acc.length ≤ i ∧ I s acc H, ⟨as.length, by simp, Nat.zero_le _, s0, [], ys, by simpa using hm, rfl, Nat.le_refl _, h0⟩, ?_⟩
  rintro i m H ⟨rfl, hi, s, acc, zs, hf, ez, hl, p⟩
  by_cases hlt : i < as.length
  · rw [List.drop_eq_getElem_cons hlt] at hf
    obtain ⟨r, e1, e2⟩ := bnd hf
    obtain ⟨⟨s2, zs2⟩, e3, e4⟩ := bnd e2
    have e5 := Option.some.inj e4
    have e6 : s2 = s1 := congrArg Prod.fst e5
    have e7 : r.2.toList ++ zs2 = zs := congrArg Prod.snd e5
    subst e6 e7
    refine .inr ⟨w.goes i H hlt (hG _ _ _ p), fun H' => ∃ s acc zs, compO (as.drop (i + 1)) s f = some (s2, zs) ∧ acc ++ zs = ys ∧ acc.length ≤ i + 1 ∧ I s acc H', fun H' p' => ⟨as.length - (i + 1), by omega, rfl, hlt, p'⟩, fun x H' y => ?_⟩
    refine hs as[i] s r acc x H H' p (w.yields i H x H' (hG _ _ _ p) y as[i] (by simp [hlt])) e1 (by omega) _ fun H' q => ⟨r.1, acc ++ r.2.toList, zs2, e3, by rw [List.append_assoc]; exact ez, ?_, q⟩
    rw [List.length_append]
    cases r.2 <;> simp <;> omega
  · have e : i = as.length := by omega
    subst e
    rw [List.drop_length] at hf
    have e2 := Option.some.inj hf
    have e3 : s = s1 := congrArg Prod.fst e2
    have e4 : [] = zs := congrArg Prod.snd e2
    subst e3 e4
    rw [List.append_nil] at ez
    subst ez
    exact .inl ⟨w.stops H (hG _ _ _ p), hd H p⟩
theorem comp_o {β : Type} (w : Sr J G as Y) {s0 : τ} {q : τ × List β} {f : τ → α → Option (τ × Option β)} (hm : compO as s0 f = some q) (hz : szB as.length = true) {tt : TT} {te : TE} {ws : List Nat} {Dd : Addr} {Q : VK}
    (I : τ → List β → Hp → Prop) (h0 : I s0 [] (upd H Dd (.lst []))) (hG : ∀ s acc H, I s acc H → G H)
    (hs : ∀ a s r acc x H H', I s acc H → Y H x H' a → f s a = some r → acc.length < sizeLine → ∀ N : Hp → Prop, (∀ H', I r.1 (acc ++ r.2.toList) H' → N H') → g x (wipe σ ws) H' fun σ2 H2 => wipe σ2 ws = wipe σ ws ∧ tt σ2 H2 fun b H3 =>
      if b = true then te σ2 H3 fun y H4 => ∃ acc, H4 Dd = some (.lst acc) ∧ acc.length < sizeLine ∧ N (upd H4 Dd (.lst (acc ++ [y]))) else N H3)
    (hd : ∀ H, I q.1 q.2 H → Q (.ref Dd) H) : Compp J g tt te ws σ H Dd Q := comp_p (s1 := q.1) (ys := q.2) w hm hz I h0 hG hs hd
def compS {β : Type} : List α → (α → Option (Option β)) → Option (List β)
  | [], _ => some []
  | x :: xs, f => (f x).bind fun r => (compS xs f).bind fun q => some (r.toList ++ q)
theorem compS_o {β : Type} {f : α → Option (Option β)} : ∀ {as : List α} {ys : List β}, compS as f = some ys → compO as () (fun _ a => (f a).bind fun r => some ((), r)) = some ((), ys)
  | [], ys, h => by rw [← Option.some.inj h]; rfl
  | a :: r, ys, h => by
    obtain ⟨q, h1, h2⟩ := bnd h
    obtain ⟨zs, h3, h4⟩ := bnd h2
    rw [← Option.some.inj h4]
    show ((f a).bind fun r => some ((), r)).bind _ = _
    rw [h1]
    show (compO r () _).bind _ = _
    rw [compS_o h3]; rfl
theorem comp_s {β : Type} (w : Sr J G as Y) {q : List β} {f : α → Option (Option β)} (hm : compS as f = some q) (hz : szB as.length = true) {tt : TT} {te : TE} {ws : List Nat} {Dd : Addr} {Q : VK}
    (I : List β → Hp → Prop) (h0 : I [] (upd H Dd (.lst []))) (hG : ∀ acc H, I acc H → G H)
    (hs : ∀ a r acc x H H', I acc H → Y H x H' a → f a = some r → acc.length < sizeLine → ∀ N : Hp → Prop, (∀ H', I (acc ++ r.toList) H' → N H') → g x (wipe σ ws) H' fun σ2 H2 => wipe σ2 ws = wipe σ ws ∧ tt σ2 H2 fun b H3 =>
      if b = true then te σ2 H3 fun y H4 => ∃ acc, H4 Dd = some (.lst acc) ∧ acc.length < sizeLine ∧ N (upd H4 Dd (.lst (acc ++ [y]))) else N H3)
    (hd : ∀ H, I q H → Q (.ref Dd) H) : Compp J g tt te ws σ H Dd Q :=
  comp_p w (compS_o hm) hz (fun _ => I) h0 (fun _ => hG) (fun a s r acc x H H' p y e l N hN => by
    obtain ⟨r', e1, e2⟩ := bnd e
    rw [← Option.some.inj e2] at hN
    exact hs a r' acc x H H' p y e1 l N hN) hd
/-- while -/
theorem while_o {n : Nat} {s0 s1 : τ} {cf : τ → Option Bool} {bf : τ → Option τ} (hm : whileO n s0 cf bf = some s1) {c : TT} (I : τ → L2.St → Hp → Prop) (h0 : I s0 σ H)
    (hc : ∀ s b σ H, I s σ H → cf s = some b → ∀ P : Bool → Hp → Prop, (∀ H1, I s σ H1 → P b H1) → c σ H P)
    (hb : ∀ s s' σ H, I s σ H → cf s = some true → bf s = some s' → ∀ N : L2.St → Hp → Prop, (∀ σ' H', I s' σ' H' → N σ' H') → tb ⟨N, rt, nx, N⟩ σ H)
    (hd : ∀ σ H, I s1 σ H → cf s1 = some false → nx σ H) : tWhile c tb ⟨nx, rt, bk, ct⟩ σ H := by
  refine ⟨fun m σ H => ∃ s, whileO m s cf bf = some s1 ∧ I s σ H, ⟨n, s0, hm, h0⟩, ?_⟩
  rintro m σ H ⟨s, hw, p⟩
  cases m with
  | zero => cases hw
  | succ m =>
    obtain ⟨b, e1, e2⟩ := bnd hw
    refine hc s b σ H p e1 _ fun H1 p1 => ?_
    cases b with
    | true =>
      rw [if_pos rfl] at e2 ⊢
      obtain ⟨s', e3, e4⟩ := bnd e2
      exact ⟨fun σ' H' => ∃ s, whileO m s cf bf = some s1 ∧ I s σ' H', fun σ' H' q => ⟨m, Nat.lt_succ_self m, q⟩, hb s s' σ H1 p1 e1 e3 _ fun σ' H' q => ⟨s', e4, q⟩⟩
    | false =>
      rw [if_neg Bool.false_ne_true] at e2 ⊢
      have e5 : s = s1 := Option.some.inj e2
      subst e5
      exact hd σ H1 p1 e1
def whileR : Nat → τ → (τ → Option Bool) → (τ → Option (Fl τ ρ)) → Option (Fl τ ρ)
  | 0, _, _, _ => none
  | n + 1, s, c, b => (c s).bind fun t => if t = true then (b s).bind fun
    | .nx s' => whileR n s' c b
    | .rt r => some (.rt r) else some (.nx s)
theorem while_r {n : Nat} {s0 : τ} {z : Fl τ ρ} {cf : τ → Option Bool} {bf : τ → Option (Fl τ ρ)} (hm : whileR n s0 cf bf = some z) {c : TT} (I : τ → L2.St → Hp → Prop) (h0 : I s0 σ H)
    (hc : ∀ s b σ H, I s σ H → cf s = some b → ∀ P : Bool → Hp → Prop, (∀ H1, I s σ H1 → P b H1) → c σ H P)
    (hb : ∀ s fl σ H, I s σ H → cf s = some true → bf s = some fl → (∀ r, fl = .rt r → z = .rt r) → ∀ N : L2.St → Hp → Prop, (∀ s' σ' H', fl = .nx s' → I s' σ' H' → N σ' H') → tb ⟨N, rt, nx, N⟩ σ H)
    (hd : ∀ s1 σ H, z = .nx s1 → I s1 σ H → cf s1 = some false → nx σ H) : tWhile c tb ⟨nx, rt, bk, ct⟩ σ H := by
  refine ⟨fun m σ H => ∃ s, whileR m s cf bf = some z ∧ I s σ H, ⟨n, s0, hm, h0⟩, ?_⟩
  rintro m σ H ⟨s, hw, p⟩
  cases m with
  | zero => cases hw
  | succ m =>
    obtain ⟨b, e1, e2⟩ := bnd hw
    refine hc s b σ H p e1 _ fun H1 p1 => ?_
    cases b with
    | true =>
      rw [if_pos rfl] at e2 ⊢
      obtain ⟨fl, e3, e4⟩ := bnd e2
      refine ⟨fun σ' H' => ∃ s, whileR m s cf bf = some z ∧ I s σ' H', fun σ' H' q => ⟨m, Nat.lt_succ_self m, q⟩, hb s fl σ H1 p1 e1 e3 (fun r er => ?_) _ fun s' σ' H' es q => ⟨s', ?_, q⟩⟩
      · subst er; exact (Option.some.inj e4).symm
      · subst es; exact e4
    | false =>
      rw [if_neg Bool.false_ne_true] at e2 ⊢
      have e5 : Fl.nx s = z := Option.some.inj e2
      exact hd s σ H1 e5.symm p1 e1
end
section
variable {α β : Type} {K : PySem.W.Frag} {p q : Addr} {vs ws : List V} {xs : List α} {ys : List β} {t : Rp α} {u : Rp β} {F : Hp}
theorem sr_L (h : Al t F vs xs) : Sr (Itl K p) (fun H => SqL K H p vs) xs (fun H x H' a => H' = H ∧ t.r F x a) := by
  refine ⟨fun i H hi hq => ?_, fun H hq => ⟨vs, hq, by rw [al_len h]; exact Nat.le_refl _⟩, fun i H x H' hq y a ha => ⟨y.1, ?_⟩⟩
  · obtain ⟨v, e, _⟩ := pd_get h (List.getElem?_eq_getElem hi)
    exact ⟨vs, v, hq, e⟩
  · obtain ⟨v, e, r⟩ := pd_get h ha
    have e2 := y.2 vs hq
    rw [e] at e2; cases e2
    exact r
theorem sr_T (h : Al t F vs xs) : Sr (Itt K p) (fun H => SqT K H p vs) xs (fun H x H' a => H' = H ∧ t.r F x a) := by
  refine ⟨fun i H hi hq => ?_, fun H hq => ⟨vs, hq, by rw [al_len h]; exact Nat.le_refl _⟩, fun i H x H' hq y a ha => ⟨y.1, ?_⟩⟩
  · obtain ⟨v, e, _⟩ := pd_get h (List.getElem?_eq_getElem hi)
    exact ⟨vs, v, hq, e⟩
  · obtain ⟨v, e, r⟩ := pd_get h ha
    have e2 := y.2 vs hq
    rw [e] at e2; cases e2
    exact r
theorem upto_len (lo hi : Int) : (upto lo hi).length = (hi - lo).toNat := by simp [upto]
theorem sr_R (lo hi : Int) : Sr (Itr lo (hi - lo).toNat) (fun _ => True) (upto lo hi) (fun H x H' a => H' = H ∧ x = .int a) := by
  refine ⟨fun i H hi _ => by rw [upto_len] at hi; exact hi, fun H _ => by rw [upto_len]; exact Nat.le_refl _, fun i H x H' _ y a ha => ⟨y.1, ?_⟩⟩
  rw [y.2]
  unfold upto at ha
  rw [List.getElem?_map] at ha
  cases e : (List.range (hi - lo).toNat)[i]? with
  | none => rw [e] at ha; cases ha
  | some j =>
    rw [e] at ha
    have ej : j = i := by
      have := List.getElem?_eq_some_iff.mp e
      obtain ⟨h1, h2⟩ := this
      simpa using h2.symm
    subst ej
    exact congrArg V.int (Option.some.inj ha)
theorem sr_R0 (hi : Int) : Sr (Itr 0 hi.toNat) (fun _ => True) (upto 0 hi) (fun H x H' a => H' = H ∧ x = .int a) := by
  have := sr_R 0 hi
  rw [Int.sub_zero] at this
  exact this
theorem sr_S (l : Sg) : Sr (Its (S l)) (fun _ => True) (signs l) (fun H x H' a => H' = H ∧ x = .str (S a) ∧ a.length = 1) := by
  refine ⟨fun i H hi _ => by
    show i < (S l).cps.size
    simpa [signs] using hi, fun H _ => by
    show (S l).cps.size ≤ (signs l).length
    simp [signs], fun i H x H' _ y a ha => ⟨y.1, ?_⟩⟩
  obtain ⟨_, c, hc, e⟩ := y
  unfold signs at ha
  rw [List.getElem?_map] at ha
  have hc' : l[i]? = some c := by simpa using hc
  rw [hc'] at ha
  have ea : [c] = a := Option.some.inj ha
  subst ea
  exact ⟨e, rfl⟩
def enumL (xs : List α) : List (Int × α) := xs.mapIdx fun i x => ((i : Int), x)
theorem sr_E (h : Al t F vs xs) : Sr (Ite K p) (fun H => SqL K H p vs) (enumL xs) (fun H x H' a => ∃ T y, x = .ref T ∧ H T = none ∧ H' = upd H T (.tup [.int a.1, y]) ∧ t.r F y a.2) := by
  refine ⟨fun i H hi hq => ?_, fun H hq => ⟨vs, hq, by rw [al_len h]; simp [enumL]⟩, fun i H x H' hq y a ha => ?_⟩
  · obtain ⟨v, e, _⟩ := pd_get h (List.getElem?_eq_getElem (show i < xs.length by simpa [enumL] using hi))
    exact ⟨vs, v, hq, e⟩
  · obtain ⟨T, z, e1, e2, e3, e4⟩ := y
    unfold enumL at ha
    rw [List.getElem?_mapIdx] at ha
    cases e : xs[i]? with
    | none => rw [e] at ha; cases ha
    | some b =>
      rw [e] at ha
      have ea : ((i : Int), b) = a := Option.some.inj ha
      subst ea
      obtain ⟨v, ev, r⟩ := pd_get h e
      have e5 := e4 vs hq
      rw [ev] at e5; cases e5
      exact ⟨T, _, e1, e2, e3, r⟩
theorem sr_Z (h : Al t F vs xs) (h' : Al u F ws ys) : Sr (Itz K p q) (fun H => SqL K H p vs ∧ SqL K H q ws) (xs.zip ys) (fun H x H' a => ∃ T y z, x = .ref T ∧ H T = none ∧ H' = upd H T (.tup [y, z]) ∧ t.r F y a.1 ∧ u.r F z a.2) := by
  have l1 := al_len h
  have l2 := al_len h'
  refine ⟨fun i H hi hq => ?_, fun H hq => ⟨vs, ws, hq.1, hq.2, by rw [List.length_zip]; omega⟩, fun i H x H' hq y a ha => ?_⟩
  · rw [List.length_zip] at hi
    obtain ⟨v, e, _⟩ := pd_get h (List.getElem?_eq_getElem (show i < xs.length by omega))
    obtain ⟨v', e', _⟩ := pd_get h' (List.getElem?_eq_getElem (show i < ys.length by omega))
    exact ⟨vs, ws, v, v', hq.1, hq.2, e, e'⟩
  · obtain ⟨T, y1, y2, e1, e2, e3, e4, e5⟩ := y
    rw [List.getElem?_zip_eq_some] at ha
    obtain ⟨v, ev, r⟩ := pd_get h ha.1
    obtain ⟨v', ev', r'⟩ := pd_get h' ha.2
    have e6 := e4 vs hq.1
    have e7 := e5 ws hq.2
    rw [ev] at e6; cases e6
    rw [ev'] at e7; cases e7
    exact ⟨T, _, _, e1, e2, e3, r, r'⟩
end
end U
set_option Elab.async false
set_option linter.all false
set_option maxRecDepth 100000
set_option maxHeartbeats 4000000
namespace U
open PySem PySem.Spec L2
/-! ### the rules' readings by names, the written part by its own name -/
abbrev RCl := List V → Hp → VK → Prop
abbrev RMt := V → List V → Hp → VK → Prop
def qLen (K : PySem.W.Frag) : RCl := fun xs H Q => ∃ p ys, xs = [V.ref p] ∧ (SqL K H p ys ∨ SqT K H p ys) ∧ Q (.int (ys.length : Nat)) H
def qLenS : RCl := fun xs H Q => ∃ z, xs = [.str z] ∧ z.length ≤ sizeLine ∧ Q (.int z.length) H
def qMax2 : RCl := fun xs H Q => ∃ i j, xs = [.int i, .int j] ∧ Q (.int (if j > i then j else i)) H
def qMin2 : RCl := fun xs H Q => ∃ i j, xs = [.int i, .int j] ∧ Q (.int (if j < i then j else i)) H
def qInt1 : RCl := fun xs H Q => (∃ i, xs = [.int i] ∧ Q (.int i) H) ∨ ∃ k, xs = [.bl k] ∧ Q (.int (if k then 1 else 0)) H
def qTuple (K : PySem.W.Frag) : RCl := fun xs H Q => ∃ p ys, xs = [V.ref p] ∧ ((SqL K H p ys ∧ ∀ l, H l = none → Q (.ref l) (upd H l (.tup ys))) ∨ (SqT K H p ys ∧ Q (.ref p) H))
def qList (K : PySem.W.Frag) : RCl := fun xs H Q => ∃ p ys, xs = [V.ref p] ∧ (SqL K H p ys ∨ SqT K H p ys) ∧ ∀ l, H l = none → Q (.ref l) (upd H l (.lst ys))
def qJoin (K : PySem.W.Frag) : RMt := fun x xs H Q => ∃ a p, ∃ ys : List Str, x = .str a ∧ xs = [.ref p] ∧ (SqL K H p (ys.map V.str) ∨ SqT K H p (ys.map V.str)) ∧ (ys.map (·.length)).sum + ys.length * a.length ≤ 16777216 ∧ Q (.str (Txt.join a ys)) H
def qCatS : R2 := fun x y H Q => ∃ i j, x = .str i ∧ y = .str j ∧ i.length + j.length ≤ sizeLine ∧ Q (.str (i ++ j)) H
def qLtS : R2 := fun x y H Q => ∃ i j, x = .str i ∧ y = .str j ∧ Q (.bl (decide (i.cps.toList < j.cps.toList))) H
def qLeS : R2 := fun x y H Q => ∃ i j, x = .str i ∧ y = .str j ∧ Q (.bl (!decide (j.cps.toList < i.cps.toList))) H
def qGtS : R2 := fun x y H Q => ∃ i j, x = .str i ∧ y = .str j ∧ Q (.bl (decide (j.cps.toList < i.cps.toList))) H
def qGeS : R2 := fun x y H Q => ∃ i j, x = .str i ∧ y = .str j ∧ Q (.bl (!decide (i.cps.toList < j.cps.toList))) H
section
variable {X : Cx} {K : PySem.W.Frag}
theorem c_len (hK : X.K = K) : CallR X (.builtin "len") (qLen K) := by subst hK; exact call_len_seq
theorem c_lenS : CallR X (.builtin "len") qLenS := call_len_str
theorem c_max2 (hc : X.calm = true) : CallR X (.builtin "max") qMax2 := call_max2 hc
theorem c_min2 (hc : X.calm = true) : CallR X (.builtin "min") qMin2 := call_min2 hc
theorem c_int1 : CallR X (.type "int") qInt1 := call_int1
theorem c_tuple (hK : X.K = K) : CallR X (.type "tuple") (qTuple K) := by subst hK; exact call_tuple_of
theorem c_list (hK : X.K = K) : CallR X (.type "list") (qList K) := by subst hK; exact call_list_of
theorem c_join (hK : X.K = K) : MtR X "str.join" (qJoin K) := by subst hK; exact mt_join
theorem c_catS : OpR X (binaryOp .Add) qCatS := op_add_str
theorem c_ltS : OpR X (compareOp .Lt) qLtS := op_lt_str
theorem c_leS : OpR X (compareOp .LtE) qLeS := op_le_str
theorem c_gtS : OpR X (compareOp .Gt) qGtS := op_gt_str
theorem c_geS : OpR X (compareOp .GtE) qGeS := op_ge_str
theorem c_ixT (hK : X.K = K) : IxR X (rIxT K) := by subst hK; exact ix_tup
theorem c_ixL (hK : X.K = K) : IxR X (rIxL K) := by subst hK; exact ix_list
theorem c_slL (hK : X.K = K) : SlR X (rSlL K) := by subst hK; exact sl_list
theorem c_slT (hK : X.K = K) : SlR X (rSlA K) := by subst hK; exact sl_tupA
variable {name id T : String} {o e : Expr} {es : List Expr} {to : TE} {t : TA} {apos pos : Pos} {nm : Str} {r : V → List V → Hp → VK → Prop} {tg l : Expr} {tl : TE}
theorem c_pgtup {es : List Expr} {k : Nat} {t : TGs} {n : Nat} (hK : X.K = K) (hc : X.calm = true) (h : PGs X es t) (hn : (assignEach es X.env).length = n := by rfl) (hst : (assignEach es X.env).findIdx? (·.1) = none := by rfl) : PG X (.Tuple es k pos) (gTup K n t) := by
  subst hK; exact pg_tup hc h hn hst
theorem c_pilist (hK : X.K = K) (hl : PE X l tl) : PI X tg l (iList K tl) := by subst hK; exact pi_list hl
theorem c_pitup (hK : X.K = K) (hl : PE X l tl) : PI X tg l (iTup K tl) := by subst hK; exact pi_tup hl
end
section
variable {K : PySem.W.Frag} {σ σ' : L2.St} {H F H' : Hp} {Q : VK} {i j a : Int} {x y v : V} {s r : Sg} {b c : Bool} {X : Cx}
/-! ### numbers -/
theorem v_i2 {g : Int → Int → V} (k : Q (g i j) H) : rI0 g (.int i) (.int j) H Q := ⟨i, j, rfl, rfl, k⟩
theorem mulB_ok (h : mulB i j = true) : CMul i j := by
  unfold mulB at h
  rw [Bool.or_eq_true] at h
  exact h.elim (fun z => .inl (of_decide_eq_true z)) fun z => .inr (of_decide_eq_true z)
theorem v_mul (h : mulM i j = some a) (k : Q (.int a) H) : L2.rI CMul (fun i j => .int (i * j)) (.int i) (.int j) H Q := by
  obtain ⟨h1, rfl⟩ := need_ok h
  exact ⟨i, j, rfl, rfl, mulB_ok h1, k⟩
theorem v_mulL (h : -(2 ^ 64) < i ∧ i < 2 ^ 64) (k : Q (.int (i * j)) H) : L2.rI CMul (fun i j => .int (i * j)) (.int i) (.int j) H Q := ⟨i, j, rfl, rfl, .inl h, k⟩
theorem v_mulR (h : -(2 ^ 64) < j ∧ j < 2 ^ 64) (k : Q (.int (i * j)) H) : L2.rI CMul (fun i j => .int (i * j)) (.int i) (.int j) H Q := ⟨i, j, rfl, rfl, .inr h, k⟩
theorem v_mod (h : modM i j = some a) (k : Q (.int a) H) : L2.rI (fun _ j => 0 < j) (fun i j => .int (i % j)) (.int i) (.int j) H Q := by
  obtain ⟨h1, rfl⟩ := need_ok h
  exact ⟨i, j, rfl, rfl, of_decide_eq_true h1, k⟩
theorem v_modK (h : 0 < j) (k : Q (.int (i % j)) H) : L2.rI (fun _ j => 0 < j) (fun i j => .int (i % j)) (.int i) (.int j) H Q := ⟨i, j, rfl, rfl, h, k⟩
theorem v_div (h : divM i j = some a) (k : Q (.int a) H) : L2.rI CDiv (fun i j => .int (i / j)) (.int i) (.int j) H Q := by
  obtain ⟨h1, rfl⟩ := need_ok h
  have h2 : 0 < j ∧ j < 1073741824 := of_decide_eq_true h1
  exact ⟨i, j, rfl, rfl, h2, k⟩
theorem v_divK (h : 0 < j ∧ j < 1073741824) (k : Q (.int (i / j)) H) : L2.rI CDiv (fun i j => .int (i / j)) (.int i) (.int j) H Q := ⟨i, j, rfl, rfl, h, k⟩
theorem v_powK (h : CPow i j) (e : i ^ j.toNat = a) (k : Q (.int a) H) : L2.rI CPow (fun i j => .int (i ^ j.toNat)) (.int i) (.int j) H Q := ⟨i, j, rfl, rfl, h, by subst e; exact k⟩
theorem v_neg (k : Q (.int (-i)) H) : rU (fun i => .int (-i)) (.int i) H Q := ⟨i, rfl, k⟩
theorem v_eqI (k : Q (.bl (decide (i = j))) H) : rEq (.int i) (.int j) H Q := ⟨rfl, by rw [dec_int, Bool.beq_eq_decide_eq]; exact k⟩
theorem v_neI (k : Q (.bl (!decide (i = j))) H) : rNe (.int i) (.int j) H Q := ⟨rfl, by rw [dec_int, Bool.beq_eq_decide_eq]; exact k⟩
theorem v_eqB (k : Q (.bl (decide (b = c))) H) : rEq (.bl b) (.bl c) H Q := ⟨rfl, by rw [dec_bl, Bool.beq_eq_decide_eq]; exact k⟩
theorem v_neB (k : Q (.bl (!decide (b = c))) H) : rNe (.bl b) (.bl c) H Q := ⟨rfl, by rw [dec_bl, Bool.beq_eq_decide_eq]; exact k⟩
theorem S_inj : S s = S r ↔ s = r := ⟨fun h => by
  have h1 := congrArg (fun z : Str => z.cps.toList) h
  exact h1, fun h => by rw [h]⟩
theorem dec_S : decide (V.str (S s) = V.str (S r)) = decide (s = r) := by
  rw [Bool.eq_iff_iff]
  simp only [decide_eq_true_eq, V.str.injEq]
  exact S_inj
theorem v_eqS (k : Q (.bl (decide (s = r))) H) : rEq (.str (S s)) (.str (S r)) H Q := ⟨rfl, by rw [dec_S]; exact k⟩
theorem v_neS (k : Q (.bl (!decide (s = r))) H) : rNe (.str (S s)) (.str (S r)) H Q := ⟨rfl, by rw [dec_S]; exact k⟩
theorem v_ltS (k : Q (.bl (decide (s < r))) H) : qLtS (.str (S s)) (.str (S r)) H Q := ⟨_, _, rfl, rfl, k⟩
theorem v_gtS (k : Q (.bl (decide (r < s))) H) : qGtS (.str (S s)) (.str (S r)) H Q := ⟨_, _, rfl, rfl, k⟩
theorem v_leS (k : Q (.bl (!decide (r < s))) H) : qLeS (.str (S s)) (.str (S r)) H Q := ⟨_, _, rfl, rfl, k⟩
theorem v_geS (k : Q (.bl (!decide (s < r))) H) : qGeS (.str (S s)) (.str (S r)) H Q := ⟨_, _, rfl, rfl, k⟩
theorem v_bl {P : Bool → Hp → Prop} (k : P b H) : qT P (.bl b) H := ⟨b, rfl, k⟩
theorem v_max2 (k : Q (.int (mx i j)) H) : qMax2 [.int i, .int j] H Q := ⟨i, j, rfl, k⟩
theorem v_min2 (k : Q (.int (mn i j)) H) : qMin2 [.int i, .int j] H Q := ⟨i, j, rfl, k⟩
theorem v_intB (k : Q (.int (b2 b)) H) : qInt1 [.bl b] H Q := .inr ⟨b, rfl, k⟩
theorem v_intI (k : Q (.int i) H) : qInt1 [.int i] H Q := .inl ⟨i, rfl, k⟩
/-! ### texts -/
theorem n_str {x : Str} (e : x = S s) (k : Q (.str (S s)) H) : tC (.str x) σ H Q := by rw [e]; exact k
theorem catM_le (h : catM s r = some t) : t.length ≤ sizeLine := by
  obtain ⟨h1, rfl⟩ := need_ok h
  rw [List.length_append]; exact sz_ok h1
theorem v_catS {t : Sg} (h : catM s r = some t) (k : Q (.str (S t)) H) : qCatS (.str (S s)) (.str (S r)) H Q := by
  obtain ⟨h1, rfl⟩ := need_ok h
  refine ⟨_, _, rfl, rfl, by simpa [Str.length] using sz_ok h1, ?_⟩
  have e : (S s ++ S r : Str) = S (s ++ r) := TL.ext_tl (by rw [TL.tl_append])
  rw [e]; exact k
theorem one_le {n : Nat} : ([n] : Sg).length ≤ sizeLine := by show 1 ≤ sizeLine; decide
theorem len1_le (h : s.length = 1) : s.length ≤ sizeLine := by rw [h]; decide
theorem v_ixS {n : Nat} (hl : s.length ≤ sizeLine) (h : atI s i = some n) (k : Q (.str (S [n])) H) : rIxS (.str (S s)) (.int i) H Q := ⟨_, _, n, rfl, rfl, by simpa [Str.length] using hl, h, k⟩
theorem cut_le {lo hi : Option Int} (hl : s.length ≤ sizeLine) : (cutL s lo hi).length ≤ sizeLine := by
  unfold cutL
  rw [List.length_take, List.length_drop]
  omega
theorem v_slS {lo hi : Option Int} (hl : s.length ≤ sizeLine) (k : Q (.str (S (cutL s lo hi))) H) : rSlS (.str (S s)) lo hi H Q := ⟨S s, rfl, by simpa [Str.length] using hl, by
  have e : cutS (S s) lo hi = S (cutL s lo hi) := by unfold cutS cutL; simp [Str.length]
  rw [e]; exact k⟩
theorem v_lenS (hl : s.length ≤ sizeLine) (k : Q (.int s.length) H) : qLenS [.str (S s)] H Q := ⟨S s, rfl, by simpa [Str.length] using hl, by
  have e : (S s).length = s.length := by simp [Str.length]
  rw [e]; exact k⟩
theorem tyS : tyV K "str" (.str (S s)) H := rfl
theorem joinM_le {xs : List Sg} (h : joinM s xs = some r) : r.length ≤ sizeLine := by
  obtain ⟨h1, rfl⟩ := need_ok h
  have h2 := sz_ok h1
  refine Nat.le_trans ?_ h2
  clear h h1 h2
  induction xs with
  | nil => simp [TL.joinL]
  | cons p q ih =>
    cases q with
    | nil => simp [TL.joinL]
    | cons q r =>
      have e : TL.joinL s (p :: q :: r) = p ++ (s ++ TL.joinL s (q :: r)) := rfl
      rw [e]
      simp only [List.length_append, List.map_cons, List.sum_cons, List.length_cons] at ih ⊢
      have : (r.length + 1 + 1) * s.length = (r.length + 1) * s.length + s.length := by rw [Nat.add_mul (r.length + 1) 1]; simp
      omega
theorem join_S (s : Sg) (xs : List Sg) : Txt.join (S s) (xs.map S) = S (TL.joinL s xs) := by
  rw [TL.join_eq]
  refine TL.ext_tl ?_
  rw [TL.tl_join]
  congr 1
  rw [List.map_map]
  exact (List.map_congr_left fun a _ => rfl).trans (List.map_id _)
theorem v_join {p : Addr} {vs : List V} {xs : List Sg} (hq : SqL K H p vs ∨ SqT K H p vs) (hr : Al eS F vs xs) (h : joinM s xs = some r) (k : Q (.str (S r)) H) : qJoin K (.str (S s)) [.ref p] H Q := by
  obtain ⟨h1, rfl⟩ := need_ok h
  have e := al_str hr
  subst e
  refine ⟨S s, p, xs.map S, rfl, rfl, hq, ?_, by rw [join_S]; exact k⟩
  have h2 := of_decide_eq_true h1
  have e1 : (xs.map S).map (·.length) = xs.map List.length := by rw [List.map_map]; exact List.map_congr_left fun a _ => by simp [Str.length]
  rw [e1, List.length_map]
  have e2 : (S s).length = s.length := by simp [Str.length]
  rw [e2]; exact h2
end
section
variable {K : PySem.W.Frag} {σ σ' : L2.St} {H F H' : Hp} {Q : VK} {i j : Int} {x y z v w : V} {α β γ : Type} {t : Rp α} {ta : Rp α} {tb : Rp β} {tc : Rp γ} {p q : Addr} {vs us : List V} {xs zs : List α} {D : Ends}
/-! ### lists and tuples -/
theorem v_len (hq : SqL K H p vs ∨ SqT K H p vs) (hr : Al t F vs xs) (k : Q (.int (xs.length : Int)) H) : qLen K [.ref p] H Q :=
  ⟨p, vs, rfl, hq, by rw [al_len hr]; exact k⟩
theorem v_ixL {a : α} (hq : SqL K H p vs) (hr : Al t F vs xs) (h : atI xs i = some a) (k : ∀ v, t.r F v a → Q v H) : rIxL K (.ref p) (.int i) H Q := by
  obtain ⟨v, e, r⟩ := al_at hr h
  exact ⟨p, vs, i, v, rfl, rfl, hq, e, k v r⟩
theorem v_ixT {a : α} (hq : SqT K H p vs) (hr : Al t F vs xs) (h : atI xs i = some a) (k : ∀ v, t.r F v a → Q v H) : rIxT K (.ref p) (.int i) H Q := by
  obtain ⟨v, e, r⟩ := al_at hr h
  exact ⟨p, vs, i, v, rfl, rfl, hq, e, k v r⟩
theorem v_ix20 {m : α × β} (hs : Sub F H) (hr : (eP2 ta tb).r F x m) (k : ∀ v, ta.r F v m.1 → Q v H) : rIxT K x (.int 0) H Q := by
  obtain ⟨p, y, z, rfl, hq, h1, h2⟩ := hr
  exact ⟨p, _, 0, y, rfl, rfl, .inl (.inl (hs _ _ hq)), rfl, k y h1⟩
theorem v_ix21 {m : α × β} (hs : Sub F H) (hr : (eP2 ta tb).r F x m) (k : ∀ v, tb.r F v m.2 → Q v H) : rIxT K x (.int 1) H Q := by
  obtain ⟨p, y, z, rfl, hq, h1, h2⟩ := hr
  exact ⟨p, _, 1, z, rfl, rfl, .inl (.inl (hs _ _ hq)), rfl, k z h2⟩
theorem v_ix30 {m : α × β × γ} (hs : Sub F H) (hr : (eP3 ta tb tc).r F x m) (k : ∀ v, ta.r F v m.1 → Q v H) : rIxT K x (.int 0) H Q := by
  obtain ⟨p, y, z, w, rfl, hq, h1, h2, h3⟩ := hr
  exact ⟨p, _, 0, y, rfl, rfl, .inl (.inl (hs _ _ hq)), rfl, k y h1⟩
theorem v_ix31 {m : α × β × γ} (hs : Sub F H) (hr : (eP3 ta tb tc).r F x m) (k : ∀ v, tb.r F v m.2.1 → Q v H) : rIxT K x (.int 1) H Q := by
  obtain ⟨p, y, z, w, rfl, hq, h1, h2, h3⟩ := hr
  exact ⟨p, _, 1, z, rfl, rfl, .inl (.inl (hs _ _ hq)), rfl, k z h2⟩
theorem v_ix32 {m : α × β × γ} (hs : Sub F H) (hr : (eP3 ta tb tc).r F x m) (k : ∀ v, tc.r F v m.2.2 → Q v H) : rIxT K x (.int 2) H Q := by
  obtain ⟨p, y, z, w, rfl, hq, h1, h2, h3⟩ := hr
  exact ⟨p, _, 2, w, rfl, rfl, .inl (.inl (hs _ _ hq)), rfl, k w h3⟩
theorem v_unp2 {tg : TGs} {m : α × β} {R : L2.St → Hp → Prop} (hs : Sub F H) (hr : (eP2 ta tb).r F x m) (k : ∀ y z, ta.r F y m.1 → tb.r F z m.2 → tg [y, z] σ H R) : gTup K 2 tg x σ H R := by
  obtain ⟨p, y, z, rfl, hq, h1, h2⟩ := hr
  exact ⟨p, _, rfl, .inl (.inl (hs _ _ hq)), rfl, k y z h1 h2⟩
theorem v_unp3 {tg : TGs} {m : α × β × γ} {R : L2.St → Hp → Prop} (hs : Sub F H) (hr : (eP3 ta tb tc).r F x m) (k : ∀ y z w, ta.r F y m.1 → tb.r F z m.2.1 → tc.r F w m.2.2 → tg [y, z, w] σ H R) : gTup K 3 tg x σ H R := by
  obtain ⟨p, y, z, w, rfl, hq, h1, h2, h3⟩ := hr
  exact ⟨p, _, rfl, .inl (.inl (hs _ _ hq)), rfl, k y z w h1 h2 h3⟩
theorem n_gcons {tg : TG} {tgs : TGs} {R : L2.St → Hp → Prop} (h : tg x σ H fun σ' H' => tgs vs σ' H' R) : gCons tg tgs (x :: vs) σ H R := ⟨_, _, rfl, h⟩
theorem n_gnil {R : L2.St → Hp → Prop} (h : R σ H) : gNil [] σ H R := ⟨rfl, h⟩
/-- new objects -/
theorem gr_newF {W : List Addr} {o : HO} (hs : Sub F H) (hp : H p = none) : Gr W F H (upd F p o) (upd H p o) := (Gr.refl hs).newF hp
theorem gr_newM {W : List Addr} {o : HO} (hs : Sub F H) (hp : H p = none) : Gr W F H F (upd H p o) := (Gr.refl hs).newM hp
theorem v_mk2 {m : α} {n : β} (hs : Sub F H) (h1 : ta.r F x m) (h2 : tb.r F y n) (k : ∀ v F' H', Gr [] F H F' H' → (eP2 ta tb).r F' v (m, n) → Q v H') :
    qNewT Q [x, y] H :=
  ⟨by show 2 ≤ sizeLine; decide, fun p hp => k _ _ _ (gr_newF hs hp) ⟨p, x, y, rfl, upd_same, ta.mono (Sub.up1 (hs.nn hp)) h1, tb.mono (Sub.up1 (hs.nn hp)) h2⟩⟩
theorem v_mk3 {m : α} {n : β} {l : γ} (hs : Sub F H) (h1 : ta.r F x m) (h2 : tb.r F y n) (h3 : tc.r F z l) (k : ∀ v F' H', Gr [] F H F' H' → (eP3 ta tb tc).r F' v (m, n, l) → Q v H') :
    qNewT Q [x, y, z] H :=
  ⟨by show 3 ≤ sizeLine; decide, fun p hp => k _ _ _ (gr_newF hs hp) ⟨p, x, y, z, rfl, upd_same, ta.mono (Sub.up1 (hs.nn hp)) h1, tb.mono (Sub.up1 (hs.nn hp)) h2, tc.mono (Sub.up1 (hs.nn hp)) h3⟩⟩
theorem v_mkT (hs : Sub F H) (hr : Al t F vs xs) (hz : szB vs.length = true) (k : ∀ p F' H', Gr [] F H F' H' → F' p = some (.tup vs) → Al t F' vs xs → Q (.ref p) H') :
    qNewT Q vs H :=
  ⟨sz_ok hz, fun p hp => k _ _ _ (gr_newF hs hp) upd_same (hr.mono (Sub.up1 (hs.nn hp)))⟩
/-- a new list: frozen at once; one's own -/
theorem a_newF (hs : Sub F H) (hr : Al t F vs xs) (k : ∀ p F' H', Gr [] F H F' H' → F' p = some (.lst vs) → Al t F' vs xs → Q (.ref p) H') : ∀ p, H p = none → Q (.ref p) (upd H p (.lst vs)) :=
  fun p hp => k _ _ _ (gr_newF hs hp) upd_same (hr.mono (Sub.up1 (hs.nn hp)))
theorem a_newM (hs : Sub F H) (k : ∀ p H', H p = none → Gr [] F H F H' → F p = none → H' p = some (.lst vs) → Q (.ref p) H') : ∀ p, H p = none → Q (.ref p) (upd H p (.lst vs)) :=
  fun p hp => k _ _ hp (gr_newM hs hp) (hs.nn hp) upd_same
theorem v_mkLF (hs : Sub F H) (hr : Al t F vs xs) (hz : szB vs.length = true) (k : ∀ p F' H', Gr [] F H F' H' → F' p = some (.lst vs) → Al t F' vs xs → Q (.ref p) H') : qNewL Q vs H := ⟨sz_ok hz, a_newF hs hr k⟩
theorem v_mkLM (hs : Sub F H) (hz : szB vs.length = true) (k : ∀ p H', H p = none → Gr [] F H F H' → F p = none → H' p = some (.lst vs) → Q (.ref p) H') : qNewL Q vs H := ⟨sz_ok hz, a_newM hs k⟩
theorem cut_al {lo hi : Option Int} (hr : Al t F vs xs) : Al t F (cutV vs lo hi) (cutL xs lo hi) := by
  unfold cutV cutL
  rw [al_len hr]
  exact pd_take _ (pd_drop _ hr)
theorem v_slT {lo hi : Option Int} (hs : Sub F H) (hq : F p = some (.tup vs)) (hr : Al t F vs xs) (k : ∀ p' us F' H', Gr [] F H F' H' → F' p' = some (.tup us) → Al t F' us (cutL xs lo hi) → Q (.ref p') H') : rSlA K (.ref p) lo hi H Q := by
  refine ⟨p, vs, rfl, .inl (.inl (hs _ _ hq)), fun e => ?_, fun _ p' hp => k p' _ _ _ (gr_newF hs hp) upd_same ((cut_al hr).mono (Sub.up1 (hs.nn hp)))⟩
  have e2 : cutV vs lo hi = vs := by unfold cutV; rw [e.1, e.2]; simp
  have := cut_al (lo := lo) (hi := hi) hr
  rw [e2] at this
  exact k p vs F H (Gr.refl hs) hq this
/-- a list of one's own that changes -/
theorem tyL (hq : SqL K H p vs) : tyV K "list" (.ref p) H := .inl ⟨rfl, _, hq⟩
theorem v_append (hp : H p = some (.lst vs)) (hl : vs.length < sizeLine) (k : Q .non (upd H p (.lst (vs ++ [y])))) : rAppend (.ref p) [y] H Q := ⟨p, vs, y, rfl, rfl, hp, hl, k⟩
theorem v_extend (hp : H p = some (.lst vs)) (hq : H q = some (.lst us)) (hl : vs.length + us.length ≤ sizeLine) (k : Q .non (upd H p (.lst (vs ++ us)))) : rExtend (.ref p) [.ref q] H Q := ⟨p, q, vs, us, rfl, rfl, hp, hq, hl, k⟩
theorem v_setL {n : Nat} {R : Hp → Prop} (hp : H p = some (.lst vs)) (e : ixN vs.length i = some n) (k : R (upd H p (.lst (vs.set n y)))) : rSetL (.ref p) (.int i) y H R := ⟨p, vs, i, n, rfl, rfl, hp, e, k⟩
theorem setM_ok {a : α} {zs : List α} (hr : Al t F vs xs) (h : setM xs i a = some zs) (ha : t.r F y a) : ∃ n, ixN vs.length i = some n ∧ Al t F (vs.set n y) zs := by
  unfold setM at h
  rw [al_len hr]
  cases e : ixN xs.length i with
  | none => rw [e] at h; cases h
  | some n =>
    rw [e] at h
    have e2 : xs.set n a = zs := Option.some.inj h
    subst e2
    exact ⟨n, rfl, pd_set n hr ha⟩
def popM (xs : List α) : Option (α × List α) := (xs[xs.length - 1]?).map fun a => (a, xs.dropLast)
theorem v_pop {m : α × List α} (hp : H p = some (.lst vs)) (hr : Al t F vs xs) (h : popM xs = some m) (k : ∀ v, t.r F v m.1 → Al t F vs.dropLast m.2 → Q v (upd H p (.lst vs.dropLast))) : rPop (.ref p) [] H Q := by
  unfold popM at h
  cases e : xs[xs.length - 1]? with
  | none => rw [e] at h; cases h
  | some a =>
    rw [e] at h
    have e2 : (a, xs.dropLast) = m := Option.some.inj h
    subst e2
    rw [← al_len hr] at e
    obtain ⟨v, ev, rv⟩ := pd_get hr e
    exact ⟨p, vs, v, rfl, rfl, hp, ev, k v rv (pd_last hr)⟩
theorem v_cat (hs : Sub F H) (hp : H p = some (.lst vs)) (hq : H q = some (.lst us)) (hr : Al t F vs xs) (hr' : Al t F us zs) (hz : szB (xs.length + zs.length) = true) (k : ∀ p', H p' = none → Q (.ref p') (upd H p' (.lst (vs ++ us)))) : rCat (.ref p) (.ref q) H Q :=
  ⟨p, q, vs, us, rfl, rfl, hp, hq, by rw [al_len hr, al_len hr']; exact sz_ok hz, k⟩
def repL (xs : List α) (n : Nat) : List α := (List.replicate n xs).flatten
def repM (xs : List α) (i : Int) : Option (List α) := need (decide (-(2 ^ 63) ≤ i ∧ i < 2 ^ 63) && szB (xs.length * i.toNat)) (repL xs i.toNat)
theorem v_tuple (hs : Sub F H) (hq : SqL K H p vs) (hr : Al t F vs xs) (k : ∀ p' F' H', Gr [] F H F' H' → F' p' = some (.tup vs) → Al t F' vs xs → Q (.ref p') H') : qTuple K [.ref p] H Q :=
  ⟨p, vs, rfl, .inl ⟨hq, fun l hl => k _ _ _ (gr_newF hs hl) upd_same (hr.mono (Sub.up1 (hs.nn hl)))⟩⟩
theorem v_tupleT (hq : SqT K H p vs) (k : Q (.ref p) H) : qTuple K [.ref p] H Q := ⟨p, vs, rfl, .inr ⟨hq, k⟩⟩
theorem v_list (hq : SqL K H p vs ∨ SqT K H p vs) (k : ∀ l, H l = none → Q (.ref l) (upd H l (.lst vs))) : qList K [.ref p] H Q := ⟨p, vs, rfl, hq, k⟩
/-! ### loops' targets -/
theorem v_nmY {tg : TG} {P : Prop} {R : L2.St → Hp → Prop} (hY : H' = H ∧ P) (k : P → tg x σ H R) : tg x σ H' R := by
  obtain ⟨e, h⟩ := hY
  subst e; exact k h
theorem v_nmR {tg : TG} {a : Int} {R : L2.St → Hp → Prop} (hY : H' = H ∧ x = .int a) (k : tg (.int a) σ H R) : tg x σ H' R := by
  obtain ⟨e, h⟩ := hY
  subst e; subst h; exact k
theorem v_nmS {tg : TG} {a : Sg} {R : L2.St → Hp → Prop} (hY : H' = H ∧ x = .str (S a) ∧ a.length = 1) (k : a.length = 1 → tg (.str (S a)) σ H R) : tg x σ H' R := by
  obtain ⟨e, h, l⟩ := hY
  subst e; subst h; exact k l
theorem v_unpE {tg : TGs} {Fs : Hp} {a : Int × α} {R : L2.St → Hp → Prop} (hs : Sub F H) (hY : ∃ T y, x = .ref T ∧ H T = none ∧ H' = upd H T (.tup [.int a.1, y]) ∧ t.r Fs y a.2) (k : ∀ y, Gr [] F H F H' → t.r Fs y a.2 → tg [.int a.1, y] σ H' R) : gTup K 2 tg x σ H' R := by
  obtain ⟨T, y, rfl, nT, rfl, r⟩ := hY
  exact ⟨T, _, rfl, .inl (.inl upd_same), rfl, k y (gr_newM hs nT) r⟩
theorem v_unpZ {tg : TGs} {Fs : Hp} {a : α × β} {R : L2.St → Hp → Prop} (hs : Sub F H) (hY : ∃ T y z, x = .ref T ∧ H T = none ∧ H' = upd H T (.tup [y, z]) ∧ ta.r Fs y a.1 ∧ tb.r Fs z a.2) (k : ∀ y z, Gr [] F H F H' → ta.r Fs y a.1 → tb.r Fs z a.2 → tg [y, z] σ H' R) : gTup K 2 tg x σ H' R := by
  obtain ⟨T, y, z, rfl, nT, rfl, r, r'⟩ := hY
  exact ⟨T, _, rfl, .inl (.inl upd_same), rfl, k y z (gr_newM hs nT) r r'⟩
abbrev RIt := It → Hp → Prop
def qRng1 (R : RIt) : List V → Hp → Prop := fun vs H1 => ∃ j : Int, vs = [.int j] ∧ -(2 ^ 62) ≤ j ∧ j < 2 ^ 62 ∧ R (Itr 0 j.toNat) H1
def qRng2 (R : RIt) : List V → Hp → Prop := fun vs H1 => ∃ i j : Int, vs = [.int i, .int j] ∧ (-(2 ^ 62) ≤ i ∧ i < 2 ^ 62 ∧ -(2 ^ 62) ≤ j ∧ j < 2 ^ 62) ∧ R (Itr i (j - i).toNat) H1
def qItL (K : PySem.W.Frag) (R : RIt) : VK := fun x H1 => ∃ a, x = .ref a ∧ (∃ xs, SqL K H1 a xs) ∧ R (Itl K a) H1
def qItT (K : PySem.W.Frag) (R : RIt) : VK := fun x H1 => ∃ a, x = .ref a ∧ (∃ xs, SqT K H1 a xs) ∧ R (Itt K a) H1
def qItS (R : RIt) : VK := fun v H1 => ∃ x, v = .str x ∧ R (Its x) H1
theorem n_rng1 {ta : TA} {R : RIt} (h : ta σ H (qRng1 R)) : iRng1 ta σ H R := h
theorem n_rng2 {ta : TA} {R : RIt} (h : ta σ H (qRng2 R)) : iRng2 ta σ H R := h
theorem n_itL {ta : TE} {R : RIt} (h : ta σ H (qItL K R)) : iList K ta σ H R := h
theorem n_itT {ta : TE} {R : RIt} (h : ta σ H (qItT K R)) : iTup K ta σ H R := h
theorem n_itS {ta : TE} {R : RIt} (h : ta σ H (qItS R)) : iStr ta σ H R := h
def rngB (i : Int) : Bool := decide (-(2 ^ 62) ≤ i ∧ i < 2 ^ 62)
def uptoM (lo hi : Int) : Option (List Int) := need (rngB lo && rngB hi) (upto lo hi)
theorem uptoM_ok {lo hi : Int} {l : List Int} (h : uptoM lo hi = some l) : (-(2 ^ 62) ≤ lo ∧ lo < 2 ^ 62 ∧ -(2 ^ 62) ≤ hi ∧ hi < 2 ^ 62) ∧ upto lo hi = l := by
  obtain ⟨h1, h2⟩ := need_ok h
  unfold rngB at h1
  rw [Bool.and_eq_true] at h1
  have a := of_decide_eq_true h1.1
  have b := of_decide_eq_true h1.2
  exact ⟨⟨a.1, a.2, b.1, b.2⟩, h2⟩
theorem v_rng1 {hi : Int} {l : List Int} {R : It → Hp → Prop} (h : uptoM 0 hi = some l) (k : R (Itr 0 hi.toNat) H) : qRng1 R [.int hi] H :=
  ⟨hi, rfl, (uptoM_ok h).1.2.2.1, (uptoM_ok h).1.2.2.2, k⟩
theorem v_rng2 {lo hi : Int} {l : List Int} {R : It → Hp → Prop} (h : uptoM lo hi = some l) (k : R (Itr lo (hi - lo).toNat) H) : qRng2 R [.int lo, .int hi] H :=
  ⟨lo, hi, rfl, (uptoM_ok h).1, k⟩
theorem sr_R1 {hi : Int} {l : List Int} (h : uptoM 0 hi = some l) : Sr (Itr 0 hi.toNat) (fun _ => True) l (fun H x H' a => H' = H ∧ x = .int a) := by rw [← (uptoM_ok h).2]; exact sr_R0 hi
theorem sr_R2 {lo hi : Int} {l : List Int} (h : uptoM lo hi = some l) : Sr (Itr lo (hi - lo).toNat) (fun _ => True) l (fun H x H' a => H' = H ∧ x = .int a) := by rw [← (uptoM_ok h).2]; exact sr_R lo hi
variable {nx bk ct : L2.St → Hp → Prop} {rt : VK}
theorem n_for {wi : TI} {g : TG} {tb : TS} (h : wi σ H fun J H1 => Forr J g tb nx rt σ H1) : tFor wi g tb ⟨nx, rt, bk, ct⟩ σ H := h
theorem n_lc {wi : TI} {g : TG} {tt : TT} {te : TE} {ws : List Nat} (h : wi σ H fun J H1 => ∀ Dd, H1 Dd = none → Compp J g tt te ws σ H1 Dd Q) : tLc wi g tt te ws σ H Q := h
theorem v_itL (hq : SqL K H p vs) {R : It → Hp → Prop} (k : R (Itl K p) H) : qItL K R (.ref p) H := ⟨p, rfl, ⟨vs, hq⟩, k⟩
theorem v_itT (hq : SqT K H p vs) {R : It → Hp → Prop} (k : R (Itt K p) H) : qItT K R (.ref p) H := ⟨p, rfl, ⟨vs, hq⟩, k⟩
theorem v_itS {s : Sg} {R : It → Hp → Prop} (k : R (Its (S s)) H) : qItS R (.str (S s)) H := ⟨S s, rfl, k⟩
theorem br_join {b : Bool} {t u : TS} (I : L2.St → Hp → Prop) (hr : ∀ σ' H', I σ' H' → nx σ' H') (h1 : b = true → ∀ nx' : L2.St → Hp → Prop, (∀ σ' H', I σ' H' → nx' σ' H') → t ⟨nx', rt, bk, ct⟩ σ H)
    (h2 : b = false → ∀ nx' : L2.St → Hp → Prop, (∀ σ' H', I σ' H' → nx' σ' H') → u ⟨nx', rt, bk, ct⟩ σ H) : if b = true then t ⟨nx, rt, bk, ct⟩ σ H else u ⟨nx, rt, bk, ct⟩ σ H := by
  cases b with
  | true => rw [if_pos rfl]; exact h1 rfl nx hr
  | false => rw [if_neg Bool.false_ne_true]; exact h2 rfl nx hr
/-- and, or: what follows the first part -/
def qAndT (u : TT) (σ : L2.St) (Q : Bool → Hp → Prop) : Bool → Hp → Prop := fun c H1 => if c = true then u σ H1 Q else Q false H1
def qOrT (u : TT) (σ : L2.St) (Q : Bool → Hp → Prop) : Bool → Hp → Prop := fun c H1 => if c = true then Q true H1 else u σ H1 Q
def qAndV (u : TE) (σ : L2.St) (Q : VK) : Bool → Hp → Prop := fun c H1 => if c = true then u σ H1 Q else Q (.bl false) H1
def qOrV (u : TE) (σ : L2.St) (Q : VK) : Bool → Hp → Prop := fun c H1 => if c = true then Q (.bl true) H1 else u σ H1 Q
def qChain (tc : TE) (r' : R2) (y : V) (σ : L2.St) (Q : VK) : Bool → Hp → Prop := fun k H3 => if k = true then tc σ H3 fun w H4 => r' y w H4 Q else Q (.bl false) H3
def qIfE (ta tb : TE) (σ : L2.St) (Q : VK) : Bool → Hp → Prop := fun c H1 => if c = true then ta σ H1 Q else tb σ H1 Q
/-- the later part leaves the heap as it is -/
theorem br_andT {a b : Bool} {u : TT} {Q : Bool → Hp → Prop} (h : a = true → ∀ Q' : Bool → Hp → Prop, Q' b H → u σ H Q') (k : Q (a && b) H) : qAndT u σ Q a H := by
  unfold qAndT
  cases a with
  | true => rw [if_pos rfl]; exact h rfl Q k
  | false => rw [if_neg Bool.false_ne_true]; exact k
theorem br_orT {a b : Bool} {u : TT} {Q : Bool → Hp → Prop} (h : a = false → ∀ Q' : Bool → Hp → Prop, Q' b H → u σ H Q') (k : Q (a || b) H) : qOrT u σ Q a H := by
  unfold qOrT
  cases a with
  | true => rw [if_pos rfl]; exact k
  | false => rw [if_neg Bool.false_ne_true]; exact h rfl Q k
theorem br_andV {a b : Bool} {u : TE} (h : a = true → ∀ Q' : VK, Q' (.bl b) H → u σ H Q') (k : Q (.bl (a && b)) H) : qAndV u σ Q a H := by
  unfold qAndV
  cases a with
  | true => rw [if_pos rfl]; exact h rfl Q k
  | false => rw [if_neg Bool.false_ne_true]; exact k
theorem br_orV {a b : Bool} {u : TE} (h : a = false → ∀ Q' : VK, Q' (.bl b) H → u σ H Q') (k : Q (.bl (a || b)) H) : qOrV u σ Q a H := by
  unfold qOrV
  cases a with
  | true => rw [if_pos rfl]; exact k
  | false => rw [if_neg Bool.false_ne_true]; exact h rfl Q k
theorem br_chain {a b : Bool} {tc : TE} {r' : R2} (h : a = true → ∀ Q' : VK, Q' (.bl b) H → tc σ H fun w H4 => r' y w H4 Q') (k : Q (.bl (a && b)) H) : qChain tc r' y σ Q a H := by
  unfold qChain
  cases a with
  | true => rw [if_pos rfl]; exact h rfl Q k
  | false => rw [if_neg Bool.false_ne_true]; exact k
/-- .. in general: c is the whole's answer, I holds behind it -/
theorem br_andTM {a c : Bool} {u : TT} {Q : Bool → Hp → Prop} (I : Hp → Prop) (h : a = true → ∀ Q' : Bool → Hp → Prop, (∀ H', I H' → Q' c H') → u σ H Q') (hf : a = false → c = false ∧ I H) (k : ∀ H', I H' → Q c H') : qAndT u σ Q a H := by
  unfold qAndT
  cases a with
  | true => rw [if_pos rfl]; exact h rfl Q k
  | false => rw [if_neg Bool.false_ne_true]; have := k H (hf rfl).2; rw [(hf rfl).1] at this; exact this
theorem br_orTM {a c : Bool} {u : TT} {Q : Bool → Hp → Prop} (I : Hp → Prop) (h : a = false → ∀ Q' : Bool → Hp → Prop, (∀ H', I H' → Q' c H') → u σ H Q') (hf : a = true → c = true ∧ I H) (k : ∀ H', I H' → Q c H') : qOrT u σ Q a H := by
  unfold qOrT
  cases a with
  | true => rw [if_pos rfl]; have := k H (hf rfl).2; rw [(hf rfl).1] at this; exact this
  | false => rw [if_neg Bool.false_ne_true]; exact h rfl Q k
theorem br_andVM {a c : Bool} {u : TE} (I : Hp → Prop) (h : a = true → ∀ Q' : VK, (∀ H', I H' → Q' (.bl c) H') → u σ H Q') (hf : a = false → c = false ∧ I H) (k : ∀ H', I H' → Q (.bl c) H') : qAndV u σ Q a H := by
  unfold qAndV
  cases a with
  | true => rw [if_pos rfl]; exact h rfl Q k
  | false => rw [if_neg Bool.false_ne_true]; have := k H (hf rfl).2; rw [(hf rfl).1] at this; exact this
theorem br_orVM {a c : Bool} {u : TE} (I : Hp → Prop) (h : a = false → ∀ Q' : VK, (∀ H', I H' → Q' (.bl c) H') → u σ H Q') (hf : a = true → c = true ∧ I H) (k : ∀ H', I H' → Q (.bl c) H') : qOrV u σ Q a H := by
  unfold qOrV
  cases a with
  | true => rw [if_pos rfl]; have := k H (hf rfl).2; rw [(hf rfl).1] at this; exact this
  | false => rw [if_neg Bool.false_ne_true]; exact h rfl Q k
theorem n_and {t u : TT} {Q : Bool → Hp → Prop} (h : t σ H (qAndT u σ Q)) : tAnd t u σ H Q := h
theorem n_or {t u : TT} {Q : Bool → Hp → Prop} (h : t σ H (qOrT u σ Q)) : tOr t u σ H Q := h
theorem n_not {t : TT} {Q : Bool → Hp → Prop} (h : t σ H fun c H1 => Q (!c) H1) : tNot t σ H Q := h
theorem n_tB {t : TE} {Q : Bool → Hp → Prop} (h : t σ H (qT Q)) : tB t σ H Q := h
theorem n_andV {ta tb : TE} (h : ta σ H (qT (qAndV tb σ Q))) : tAndV ta tb σ H Q := h
theorem n_orV {ta tb : TE} (h : ta σ H (qT (qOrV tb σ Q))) : tOrV ta tb σ H Q := h
theorem n_notV {ta : TE} (h : ta σ H (qT fun c H1 => Q (.bl (!c)) H1)) : tNotV ta σ H Q := h
theorem n_ifE {t : TT} {ta tb : TE} (h : t σ H (qIfE ta tb σ Q)) : tIf t ta tb σ H Q := h
theorem n_chain {r r' : R2} {ta tb tc : TE} (h : ta σ H fun x H1 => tb σ H1 fun y H2 => r x y H2 (qT (qChain tc r' y σ Q))) : tChain r r' ta tb tc σ H Q := h
theorem n_aug {te : TE} {ti : TIp} {n : Nat} (h : σ[n]? = some (some x)) (k : te σ H fun y H1 => ti x y H1 fun z H2 => nx (σ.set n (some z)) H2) : tAug n te ti ⟨nx, rt, bk, ct⟩ σ H := ⟨x, h, k⟩
theorem v_ip {f : Int → Int → Int} (k : Q (.int (f i j)) H) : ipI f (.int i) (.int j) H Q := ⟨i, j, rfl, rfl, k⟩
theorem n_sub {to ti : TE} {st : TSet} {R : L2.St → Hp → Prop} (h : to σ H fun o H1 => ti σ H1 fun i H2 => st o i v H2 fun H3 => R σ H3) : gSub to ti st v σ H R := h
def qPar (σ : L2.St) (i j : Nat) (R : L2.St → Hp → Prop) : List V → Hp → Prop := fun vs H1 => ∃ v w, vs = [v, w] ∧ R ((σ.set i (some v)).set j (some w)) H1
theorem n_par {i j : Nat} {t : TA} (h : t σ H (qPar σ i j nx)) : tPar i j t ⟨nx, rt, bk, ct⟩ σ H := h
theorem v_par {i j : Nat} {τ : L2.St} {R : L2.St → Hp → Prop} (e : (σ.set i (some v)).set j (some w) = τ) (k : R τ H) : qPar σ i j R [v, w] H := ⟨v, w, rfl, by rw [e]; exact k⟩
end
end U
set_option Elab.async false
set_option linter.all false
set_option maxRecDepth 100000
set_option maxHeartbeats 4000000
namespace U
open PySem PySem.Spec L2
section
variable {K : PySem.W.Frag} {σ σ' : L2.St} {H F H' F0 H0 : Hp} {Q : VK} {i j : Int} {x y z v w : V} {α β γ : Type} {t : Rp α} {p q : Addr} {vs us : List V} {xs zs ys : List α} {D : Ends} {W : List Addr} {o u : HO}
def catLM (xs zs : List α) : Option (List α) := need (szB (xs.length + zs.length)) (xs ++ zs)
def snocM (xs : List α) (a : α) : Option (List α) := need (decide (xs.length < 16777216)) (xs ++ [a])
theorem v_catF (hs : Sub F H) (hp : H p = some (.lst vs)) (hq : H q = some (.lst us)) (hr : Al t F vs xs) (hr' : Al t F us zs) (h : catLM xs zs = some ys)
    (k : ∀ p' us' F' H', Gr [] F H F' H' → F' p' = some (.lst us') → Al t F' us' ys → Q (.ref p') H') : rCat (.ref p) (.ref q) H Q := by
  obtain ⟨h1, rfl⟩ := need_ok h
  exact ⟨p, q, vs, us, rfl, rfl, hp, hq, by rw [al_len hr, al_len hr']; exact sz_ok h1, fun p' hp' => k p' _ _ _ (gr_newF hs hp') upd_same (Al.mono (pd_append hr hr') (Sub.up1 (hs.nn hp')))⟩
theorem v_catM (hs : Sub F H) (hp : H p = some (.lst vs)) (hq : H q = some (.lst us)) (hr : Al t F vs xs) (hr' : Al t F us zs) (h : catLM xs zs = some ys)
    (k : ∀ p' us' H', H p' = none → Gr [] F H F H' → F p' = none → H' p' = some (.lst us') → Al t F us' ys → Q (.ref p') H') : rCat (.ref p) (.ref q) H Q := by
  obtain ⟨h1, rfl⟩ := need_ok h
  exact ⟨p, q, vs, us, rfl, rfl, hp, hq, by rw [al_len hr, al_len hr']; exact sz_ok h1, fun p' hp' => k p' _ _ hp' (gr_newM hs hp') (hs.nn hp') upd_same (pd_append hr hr')⟩
theorem pd_rep {n : Nat} (hr : Al t F vs xs) : Al t F (List.replicate n vs).flatten (repL xs n) := by
  unfold repL
  induction n with
  | zero => exact .nil
  | succ n ih => rw [List.replicate_succ, List.replicate_succ, List.flatten_cons, List.flatten_cons]; exact pd_append hr ih
theorem v_repF (hs : Sub F H) (hp : H p = some (.lst vs)) (hr : Al t F vs xs) (h : repM xs i = some ys)
    (k : ∀ p' us' F' H', Gr [] F H F' H' → F' p' = some (.lst us') → Al t F' us' ys → Q (.ref p') H') : rRep (.ref p) (.int i) H Q := by
  obtain ⟨h1, rfl⟩ := need_ok h
  rw [Bool.and_eq_true] at h1
  have h2 := of_decide_eq_true h1.1
  exact ⟨p, i, vs, rfl, rfl, hp, h2.1, h2.2, by rw [al_len hr]; exact sz_ok h1.2, fun p' hp' => k p' _ _ _ (gr_newF hs hp') upd_same (Al.mono (pd_rep hr) (Sub.up1 (hs.nn hp')))⟩
theorem v_repM (hs : Sub F H) (hp : H p = some (.lst vs)) (hr : Al t F vs xs) (h : repM xs i = some ys)
    (k : ∀ p' us' H', H p' = none → Gr [] F H F H' → F p' = none → H' p' = some (.lst us') → Al t F us' ys → Q (.ref p') H') : rRep (.ref p) (.int i) H Q := by
  obtain ⟨h1, rfl⟩ := need_ok h
  rw [Bool.and_eq_true] at h1
  have h2 := of_decide_eq_true h1.1
  exact ⟨p, i, vs, rfl, rfl, hp, h2.1, h2.2, by rw [al_len hr]; exact sz_ok h1.2, fun p' hp' => k p' _ _ hp' (gr_newM hs hp') (hs.nn hp') upd_same (pd_rep hr)⟩
theorem v_slLF {lo hi : Option Int} (hs : Sub F H) (hq : SqL K H p vs) (hr : Al t F vs xs) (k : ∀ p' us' F' H', Gr [] F H F' H' → F' p' = some (.lst us') → Al t F' us' (cutL xs lo hi) → Q (.ref p') H') : rSlL K (.ref p) lo hi H Q :=
  ⟨p, vs, rfl, hq, fun p' hp' => k p' _ _ _ (gr_newF hs hp') upd_same (Al.mono (cut_al hr) (Sub.up1 (hs.nn hp')))⟩
theorem v_slLM {lo hi : Option Int} (hs : Sub F H) (hq : SqL K H p vs) (hr : Al t F vs xs) (k : ∀ p' us' H', H p' = none → Gr [] F H F H' → F p' = none → H' p' = some (.lst us') → Al t F us' (cutL xs lo hi) → Q (.ref p') H') : rSlL K (.ref p) lo hi H Q :=
  ⟨p, vs, rfl, hq, fun p' hp' => k p' _ _ hp' (gr_newM hs hp') (hs.nn hp') upd_same (cut_al hr)⟩
theorem v_ixQ {ns : List Int} {a : Int} (hs : Sub F H) (hr : (eQ K).r F x ns) (h : atI ns i = some a) (k : Q (.int a) H) : rIxL K x (.int i) H Q := by
  obtain ⟨p, rfl, hq⟩ := hr
  obtain ⟨v, e, r⟩ := al_at (al_ofint (F := F) ns) h
  have r' : v = .int a := r
  subst r'
  exact ⟨p, _, i, _, rfl, rfl, hs.l hq, e, k⟩
theorem v_lenQ {ns : List Int} (hs : Sub F H) (hr : (eQ K).r F x ns) (k : Q (.int (ns.length : Int)) H) : qLen K [x] H Q := by
  obtain ⟨p, rfl, hq⟩ := hr
  exact ⟨p, _, rfl, .inl (hs.l hq), by rw [List.length_map]; exact k⟩
theorem snoc_lt {a : α} (hr : Al t F vs xs) (h : snocM xs a = some ys) : vs.length < sizeLine := by
  obtain ⟨h1, _⟩ := need_ok h
  rw [al_len hr, sizeLine_eq]; exact of_decide_eq_true h1
theorem app_ok {a : α} (g : Gr W F0 H0 F H) (m : Mu W H0 F H p (.lst vs)) (hr : Al t F vs xs) (h : snocM xs a = some ys) (ha : t.r F y a) :
    ∃ vs' H', Gr W F0 H0 F H' ∧ Al t F vs' ys ∧ vs' = vs ++ [y] ∧ H' = upd H p (.lst vs') := by
  obtain ⟨_, rfl⟩ := need_ok h
  exact ⟨_, _, m.gr g, pd_snoc hr ha, rfl, rfl⟩
theorem cat_le (hr : Al t F vs xs) (hr' : Al t F us zs) (h : catLM xs zs = some ys) : vs.length + us.length ≤ sizeLine := by
  obtain ⟨h1, _⟩ := need_ok h
  rw [al_len hr, al_len hr']; exact sz_ok h1
theorem ext_ok (g : Gr W F0 H0 F H) (m : Mu W H0 F H p (.lst vs)) (hr : Al t F vs xs) (hr' : Al t F us zs) (h : catLM xs zs = some ys) :
    ∃ vs' H', Gr W F0 H0 F H' ∧ Al t F vs' ys ∧ vs' = vs ++ us ∧ H' = upd H p (.lst vs') := by
  obtain ⟨_, rfl⟩ := need_ok h
  exact ⟨_, _, m.gr g, pd_append hr hr', rfl, rfl⟩
theorem pop_ok (g : Gr W F0 H0 F H) (m : Mu W H0 F H p (.lst vs)) : ∃ vs' H', Gr W F0 H0 F H' ∧ vs' = vs.dropLast ∧ H' = upd H p (.lst vs') := ⟨_, _, m.gr g, rfl, rfl⟩
theorem st_ok (g : Gr W F0 H0 F H) (m : Mu W H0 F H p o) (us : List V) : ∃ vs' H', Gr W F0 H0 F H' ∧ vs' = us ∧ H' = upd H p (.lst vs') := ⟨_, _, m.gr g, rfl, rfl⟩
theorem mu_self (m : Mu W H0 F H p o) (e : H' = upd H p u) : Mu W H0 F H' p u := by subst e; exact m.self
theorem mu_oth (m : Mu W H0 F H q o) (ne : q ≠ p) (e : H' = upd H p u) : Mu W H0 F H' q o := by subst e; exact m.mut ne
theorem freeze (g : Gr W F0 H0 F H) (m : Mu W H0 F H p o) (h0 : H0 p = none) : ∃ F', F' p = some o ∧ Sub F F' ∧ Gr W F0 H0 F' H ∧ (∀ q u, q ≠ p → Mu W H0 F H q u → Mu W H0 F' H q u) :=
  ⟨upd F p o, upd_same, Sub.up1 m.fr, g.frz m.fr m.hp h0, fun _ _ ne m' => m'.frz ne⟩
theorem wipe_to {ws : List Nat} {g : TG} {R : L2.St → Hp → Prop} (e : wipe σ ws = σ') (k : g x σ' H R) : g x (wipe σ ws) H R := by rw [e]; exact k
theorem set_to {n : Nat} {R : L2.St → Hp → Prop} {v : Option V} (e : σ.set n v = σ') (k : R σ' H) : R (σ.set n v) H := by rw [e]; exact k
theorem n_cutI {b : Bool} {ta tb : TE} (x : Int) (h : ∀ Q' : VK, Q' (.int x) H → qIfE ta tb σ Q' b H) (k : Q (.int x) H) : qIfE ta tb σ Q b H := h Q k
theorem n_cutB {b : Bool} {ta tb : TE} (x : Bool) (h : ∀ Q' : VK, Q' (.bl x) H → qIfE ta tb σ Q' b H) (k : Q (.bl x) H) : qIfE ta tb σ Q b H := h Q k
theorem n_cutS {b : Bool} {ta tb : TE} (x : Sg) (h : ∀ Q' : VK, (x.length ≤ sizeLine → Q' (.str (S x)) H) → qIfE ta tb σ Q' b H) (k : x.length ≤ sizeLine → Q (.str (S x)) H) : qIfE ta tb σ Q b H := h Q k
def thenF {σ ρ β : Type} (z : Fl σ ρ) (k : σ → Option β) (e : ρ → Option β) : Option β := match z with
  | .nx s => k s
  | .rt r => e r
theorem thenF_nx {σ ρ β : Type} {s : σ} {k : σ → Option β} {e : ρ → Option β} {b : Option β} (h : thenF (.nx s) k e = b) : k s = b := h
theorem thenF_rt {σ ρ β : Type} {z : Fl σ ρ} {r : ρ} {k : σ → Option β} {e : ρ → Option β} {b : Option β} (hz : z = .rt r) (h : thenF z k e = b) : e r = b := by subst hz; exact h
theorem n_yes {R : Bool → Hp → Prop} {A B : Prop} (k : A) (e : R true H = (if true = true then A else B)) : tYes σ H R := by show R true H; rw [e, if_pos rfl]; exact k
theorem nin1 {a p : Addr} (h : a ≠ p) : a ∉ [p] := by simp [h]
theorem nin2 {a p q : Addr} (h : a ≠ p) (h' : a ≠ q) : a ∉ [p, q] := by simp [h, h']
end
/-- a def of the text -/
abbrev FnP (K : PySem.W.Frag) (x : Str) (st : Stmt) (f : Addr) (fd : FuncData) : Prop := FunD K x x (defArgs st) (defBody st) (defScope st) [] [] f fd
theorem c_isi {X : Cx} {K : PySem.W.Frag} (hK : X.K = K) : CallR X (.builtin "isinstance") (rIsi K) := by subst hK; exact call_isi
section
variable {X : Cx} {K : PySem.W.Frag} {name id T : String} {o e : Expr} {es : List Expr} {to : TE} {t : TA} {apos pos : Pos} {nm : Str} {r : V → List V → Hp → VK → Prop}
theorem c_bm {cpos : Pos} (hK : X.K = K) (pa : PlainAttrs T) (slot : Slot T name id) (hty : typeOf (.builtin id) = pure (.type "method_descriptor")) (hm : MtR X id r) (ho : PE X o to) (ha : PA X (e :: es) t)
    (h1 : attributeBase o name X.env (eval o X.env) = eval o X.env := by rfl)
    (h2 : (((((backTo cpos (starEach (e :: es) X.env)).all fun x => !x.fst) && (backToKw cpos (keywordEach [] X.env)).all fun x => x.fst.isSome) && decide (((e :: es).length + ([] : List Keyword).length + if ([] : List Keyword).isEmpty = true then 0 else 1) < 30)) = true) := by rfl)
    (h3 : (apos.endLine == cpos.line) = true := by rfl) (h4 : starEach (e :: es) X.env = (false, eval e X.env) :: starEach es X.env := by rfl) (h5 : ((backTo cpos (starEach es X.env)).any fun x => x.fst) = false := by rfl) :
    PE X (.Call (.Attribute o name apos) (e :: es) [] cpos) (tBM K T r to t) := by subst hK; exact pe_bm pa slot hty hm ho ha h1 h2 h3 h4 h5
theorem c_bm0 {cpos : Pos} (hK : X.K = K) (pa : PlainAttrs T) (slot : Slot T name id) (hty : typeOf (.builtin id) = pure (.type "method_descriptor")) (hm : MtR X id r) (ho : PE X o to)
    (h1 : attributeBase o name X.env (eval o X.env) = eval o X.env := by rfl) (h3 : (apos.endLine == cpos.line) = true := by rfl) :
    PE X (.Call (.Attribute o name apos) [] [] cpos) (tBM0 K T r to) := by subst hK; exact pe_bm0 pa slot hty hm ho h1 h3
end
def Has (P : Program) (w : World) (K : PySem.W.Frag) (mg : Str → Option Value) (base : Heap) (x : Str) (ps : List Str) (k : Nat) (sp : Sp) : Prop :=
  ∃ f fd, FnOk P w K mg base CX0 k f fd ps sp ∧ mg x = some (.ref f) ∧ PySem.W.keepIn K (.ref f) = true ∧ Binds K fd ps []
end U
namespace U
open PySem PySem.Spec L2
theorem bo_len : bootBuiltins "len" = some (.builtin "len") := by decide +kernel
theorem bo_max : bootBuiltins "max" = some (.builtin "max") := by decide +kernel
theorem bo_min : bootBuiltins "min" = some (.builtin "min") := by decide +kernel
theorem bo_sum : bootBuiltins "sum" = some (.builtin "sum") := by decide +kernel
theorem bo_all : bootBuiltins "all" = some (.builtin "all") := by decide +kernel
theorem bo_any : bootBuiltins "any" = some (.builtin "any") := by decide +kernel
theorem bo_sorted : bootBuiltins "sorted" = some (.builtin "sorted") := by decide +kernel
theorem bo_repr : bootBuiltins "repr" = some (.builtin "repr") := by decide +kernel
theorem bo_isinstance : bootBuiltins "isinstance" = some (.builtin "isinstance") := by decide +kernel
theorem bo_int : bootBuiltins "int" = some (.type "int") := by decide +kernel
theorem bo_bool : bootBuiltins "bool" = some (.type "bool") := by decide +kernel
theorem bo_str : bootBuiltins "str" = some (.type "str") := by decide +kernel
theorem bo_tuple : bootBuiltins "tuple" = some (.type "tuple") := by decide +kernel
theorem bo_list : bootBuiltins "list" = some (.type "list") := by decide +kernel
theorem bo_dict : bootBuiltins "dict" = some (.type "dict") := by decide +kernel
theorem bo_set : bootBuiltins "set" = some (.type "set") := by decide +kernel
theorem bo_type : bootBuiltins "type" = some (.type "type") := by decide +kernel
section
variable {K : PySem.W.Frag} {H F : Hp} {Q : VK} {x : V} {T U : String} {b : Bool}
theorem v_isi (ty : TyX K H x (.type T)) (h : kitB T U = some b) (k : Q (.bl b) H) : rIsi K [x, .ty U] H Q := ⟨x, .ty U, _, _, b, rfl, .ty U, ty, kit_ty h, k⟩
theorem ty_frz {α β : Type} {ta : Rp α} {tb : Rp β} {m : α × β} (hs : Sub F H) (h : (eP2 ta tb).r F x m) : TyX K H x (.type "tuple") := by
  obtain ⟨p, y, z, rfl, q, _⟩ := h
  exact .base (.tup (hs _ _ q))
theorem ty_frz3 {α β γ : Type} {ta : Rp α} {tb : Rp β} {tc : Rp γ} {m : α × β × γ} (hs : Sub F H) (h : (eP3 ta tb tc).r F x m) : TyX K H x (.type "tuple") := by
  obtain ⟨p, y, z, w, rfl, q, _⟩ := h
  exact .base (.tup (hs _ _ q))
theorem ty_vt {α : Type} {ta : Rp α} {m : List α} (hs : Sub F H) (h : (eT ta).r F x m) : TyX K H x (.type "tuple") := by
  obtain ⟨p, vs, rfl, q, _⟩ := h
  exact .base (.tup (hs _ _ q))
theorem ty_list {α : Type} {ta : Rp α} {m : List α} (hs : Sub F H) (h : (eL ta).r F x m) : TyX K H x (.type "list") := by
  obtain ⟨p, vs, rfl, q, _⟩ := h
  exact .base (.lst (hs _ _ q))
end
end U
set_option Elab.async false
set_option linter.all false
set_option maxRecDepth 100000
set_option maxHeartbeats 4000000
namespace U
open PySem PySem.Spec PyProof.Rows L2
/-! ### defs that are called where no repr is under way (a repr within a def asks it) -/
structure FnG (P : Program) (w : World) (K : PySem.W.Frag) (mg : Str → Option Value) (base : Heap) (CX : CXT) (k : Nat) (f : Addr) (fd : FuncData) (ps : List Str) (sp : Sp) : Prop where
  len : ∀ vs H Q E, sp vs H Q E → vs.length = ps.length
  go : ∀ (A : Around) (out : List Env) (s : Shared) (H : Hp) (as : Args) (us : List Value) (vs : List V) (Q : VK) (E : XK), A.guards = some [] → Room k A → Env0 P w K mg base A out s H → BindsTo s fd as (ps.zip us) → Vals vs us →
    sp vs H Q E → codeAny (model P w) A (.call (.ref f) as) (CR CX out P w H s Q E) s
section
variable {P : Program} {w : World} {K : PySem.W.Frag} {mg : Str → Option Value} {base : Heap} {CX : CXT} {k : Nat} {f : Addr} {fd : FuncData} {ps N : List Str} {sp : Sp}
theorem FnG.mono {j : Nat} (G : FnG P w K mg base CX j f fd ps sp) (h : j ≤ k) : FnG P w K mg base CX k f fd ps sp :=
  ⟨G.len, fun A out s H as us vs Q E g hr => G.go A out s H as us vs Q E g (hr.mono h)⟩
theorem FnG.ofOk (F : FnOk P w K mg base CX k f fd ps sp) : FnG P w K mg base CX k f fd ps sp := ⟨F.len, fun A out s H as us vs Q E _ => F.run A out s H as us vs Q E⟩
/-- a def's body -/
theorem body_ok {nm qual : Str} {params : Arguments} {body : List Stmt} {scope : Scope} {dV kV doc pm cdv ct oc : Value} {an od : Option Addr} {osl : Array (Option Value)}
    (lk : K.lookup f = some ⟨oc, od, .func (PySem.W.fnOf nm qual params body scope dV kV doc pm an cdv ct), osl⟩) (hc : PySem.W.codeIn K cdv qual = true) (S : FnScope N ps scope) (hl : ∀ vs H Q E, sp vs H Q E → vs.length = ps.length)
    (hb : ∀ (A : Around) (out : List Env) (s : Shared) (H : Hp) (vs : List V) (Q : VK) (E : XK), A.guards = some [] → Room k (A.deeper (PyProof.Rows.envOfC qual scope s.heap.objs.size f cdv)) → sp vs H Q E →
      ∃ t, PSs (cxOf CX P w K mg base N qual scope f cdv A out s H E) body t ∧ t { nx := fun _ H' => Q .non H', rt := Q } (start N vs) H) :
    FnG P w K mg base CX (k + 1) f (PySem.W.fnOf nm qual params body scope dV kV doc pm an cdv ct) ps sp where
  len := hl
  go := fun A out s H as us vs Q E g hr e0 hbt rv hsp => by
    have kin : K.In s.heap := e0.mod.kin.keeps fun b o e => (e0.bs b o e).1
    have nol : s.heap.NoLimit := e0.mod.nolimit.keeps fun b o e => (e0.bs b o e).1
    have hs : ∀ y ∈ ps.zip us, scope.names.lookup y.1 = some .local ∨ (scope.names.lookup y.1 = some .cell ∧ ((cellsFrom (s.heap.objs.size + 1) scope.names []).lookup y.1).isSome = true) := by
      intro y hy
      rcases S.par y.1 (List.of_mem_zip (a := y.1) (b := y.2) hy).1 with h | h
      · exact .inl h
      · exact .inr ⟨h, PySem.W.cellsFrom_some _ _ _ (.inl h)⟩
    refine codeAny_call_function hr.depth (kin _ _ lk) rfl S.co S.gen rfl (PySem.W.codeRec_of kin hc) (hbt _ _ _ _ ?_)
    refine wpAny_newFunctionEnv_cells S.kind hs fun env he s1 x => ?_
    subst he
    refine ⟨nol.keeps x.toInCall.keep, codeAny_func ?_⟩
    obtain ⟨t, ht, hq⟩ := hb A out s H vs Q E g (hr.deeper _) hsp
    have I := inv_start (CX := CX) (E := E) (cd := cdv) (qual := qual) (f := f) S hr.hd e0 (hl _ _ _ _ hsp) rv x
    refine wpAny_mono (ht.run [] s1 (start N vs) H _ I hq) (fun fl s2 h2 => ?_) fun _ _ h2 => h2
    have done : ∀ {τ : L2.St} {H2 : Hp} {v : V} {u : Value}, Inv (cxOf CX P w K mg base N qual scope f cdv A out s H E) [] τ H2 s2 → RelV v u → Q v H2 → CE out P w H s Q u s2 := fun J r q => ⟨_, _, J.os, J.bare, J.base, J.hok, r, q⟩
    cases fl with
    | next =>
      obtain ⟨_, _, J, q⟩ := h2
      exact done (v := V.non) (u := Value.none) J rfl q
    | ret u =>
      obtain ⟨_, _, _, J, r, q⟩ := h2
      exact done J r q
    | brk =>
      obtain ⟨_, _, _, q⟩ := h2
      exact q.elim
    | cont =>
      obtain ⟨_, _, _, q⟩ := h2
      exact q.elim
theorem FnDok {x qual : Str} {params : Arguments} {body : List Stmt} {scope : Scope} {dvs : List V} {kws : List (Str × V)} (F : FunD K x qual params body scope dvs kws f fd) (S : FnScope N ps scope) (hl : ∀ vs H Q E, sp vs H Q E → vs.length = ps.length)
    (hb : ∀ (cdv : Value) (A : Around) (out : List Env) (s : Shared) (H : Hp) (vs : List V) (Q : VK) (E : XK), A.guards = some [] → Room k (A.deeper (PyProof.Rows.envOfC qual scope s.heap.objs.size f cdv)) → sp vs H Q E →
      ∃ t, PSs (cxOf CX P w K mg base N qual scope f cdv A out s H E) body t ∧ t { nx := fun _ H' => Q .non H', rt := Q } (start N vs) H) : FnG P w K mg base CX (k + 1) f fd ps sp := by
  obtain ⟨_, _, _, _, _, _, _, cdv, _, _, rfl, lk, hc, _, _⟩ := F.ex
  exact body_ok lk hc S hl fun A out s H vs Q E g hr h => hb cdv A out s H vs Q E g hr h
end
section
variable {X : Cx} {CX : CXT} {k : Nat} {f : Addr} {fd : FuncData} {ps : List Str} {sp : Sp} {E : XK} {x : Str} {p pos : Pos} {e : Expr} {es : List Expr} {t : TA}
theorem goG {pins : List (Addr × Obj)} {σ : L2.St} {H : Hp} {s : Shared} {Q : VK} {us : List Value} {vs : List V} (G : FnG X.prog X.w X.K X.mg X.base CX k f fd ps sp) (hg : X.A.guards = some []) (hr : Room k X.A) (hb : Binds X.K fd ps []) (hx : Passes CX X E)
    (I : Inv X pins σ H s) (r : Vals vs us) (h : sp vs H Q E) : wpAny (model X.prog X.w) X.A (call (.ref f) us) (EP X pins σ Q) X.xe s := by
  have hl : (us ++ []).length = ps.length := by rw [List.append_nil, ← r.length]; exact G.len _ _ _ _ h
  have bt := hb s us I.kIn hl
  rw [List.append_nil] at bt
  refine wpAny_call (codeAny_mono (G.go X.A X.stack s H ⟨us, []⟩ us vs Q E hg hr I.env0 bt r h) fun z s2 hz => ?_)
  match z, hz with
  | .error ex, hz => exact hx pins σ H s ex s2 I hz
  | .ok (.ret u), hz => exact I.after hz
theorem pe_callG (G : FnG X.prog X.w X.K X.mg X.base CX k f fd ps sp) (hgd : X.A.guards = some []) (hr : Room k X.A) (hg : Gl X x) (hm : X.mg x = some (.ref f)) (hk : PySem.W.keepIn X.K (.ref f) = true) (hb : Binds X.K fd ps []) (hx : Passes CX X E)
    (ha : PA X (e :: es) t) (hd : (x == ("__debug__" : Str)) = false := by decide) (h1 : starEach (e :: es) X.env = (false, eval e X.env) :: starEach es X.env := by rfl) (h2 : (backTo pos (starEach es X.env)).any (·.1) = false := by rfl) :
    PE X (.Call (.Name x p) (e :: es) [] pos) (tCall sp [] E t) where
  run := fun pins s σ H Q I h => wpAny_Call_Name_kw (ld_glob I hg hm (PySem.W.callWith_K (h₀ := X.base) I.ok.mod.kin hk (thn (ha.run pos pins s σ H _ I h) fun us s1 ⟨vs, H1, I1, r, q⟩ =>
    ⟨I1.kIn, goG G hgd hr hb hx I1 r (List.append_nil vs ▸ q)⟩) h1 h2) hd)
theorem pe_callG0 (G : FnG X.prog X.w X.K X.mg X.base CX k f fd ps sp) (hgd : X.A.guards = some []) (hr : Room k X.A) (hg : Gl X x) (hm : X.mg x = some (.ref f)) (hk : PySem.W.keepIn X.K (.ref f) = true) (hb : Binds X.K fd ps []) (hx : Passes CX X E)
    (hd : (x == ("__debug__" : Str)) = false := by decide) : PE X (.Call (.Name x p) [] [] pos) (tCall sp [] E tNil) where
  run := fun pins s σ H Q I h => wpAny_Call_Name_kw (ld_glob I hg hm (PySem.W.callWith_K0 I.kIn hk (goG G hgd hr hb hx I (us := []) .nil h)) hd)
end
/-- the law's call: from its promise -/
theorem law_goG {P : Program} {w : World} {K : PySem.W.Frag} {mg mb : Str → Option Value} {k : Nat} {fa a : Addr} {fd : FuncData} {x : Str} {sp : Sp} {s1 : Shared} {vs : List Value} {ns : List Int}
    (kin : K.In s1.heap) (hns : s1.heap.Ns mainGlobals mg) (hmb : s1.heap.Ns builtinsNs mb) (hbb : ∀ x : Str, x ≠ "__name__" → mb x = bootBuiltins x) (nol : s1.heap.NoLimit) (hg : s1.gens = #[])
    (ha : s1.heap.get? a = some { cls := .type "list", data := .seq vs.toArray }) (hi : PyProof.Rows.IntsAre vs ns) (hl : ns.length ≤ sizeLine) (hr : Room k callerA)
    (G : ∀ base : Heap, K.In base → base.Ns mainGlobals mg → FnG P w K mg base CX0 k fa fd [x] sp) (hbind : ∀ (s : Shared) (u : Value), BindsTo s fd ⟨[u], []⟩ [(x, u)])
    (hsp : ∀ H : Hp, SqL K H a (ns.map V.int) → sp [.ref a] H (fun v _ => v = .bl true) fun _ _ _ => False) :
    codeAny (model P w) callerA (.call (.ref fa) ⟨[.ref a], []⟩) (fun r s2 => r = .ok (.ret (.bool true)) ∧ OldK s1.heap s2.heap ∧ s2.os = s1.os ∧ AllBare s2.gens) s1 := by
  have rv : Vals (ns.map V.int) vs := vals_ints hi
  have lv := hi.length
  -- what is tracked: the script, where K does not hold it
  have main : ∀ H : Hp, (∀ b u, H b = some u → b = a ∧ K.lookup a = none ∧ ∃ o xs, u = .frz o (.lst xs)) → SqL K H a (ns.map V.int) → HOk P w H s1.heap →
      codeAny (model P w) callerA (.call (.ref fa) ⟨[.ref a], []⟩) (fun r s2 => r = .ok (.ret (.bool true)) ∧ OldK s1.heap s2.heap ∧ s2.os = s1.os ∧ AllBare s2.gens) s1 := by
    intro H hO hS hok
    have isNone : ∀ b, (∀ u, H b ≠ some u) → H b = none := fun b h => by
      cases e : H b with
      | none => rfl
      | some u => exact absurd e (h u)
    have dictNone : ∀ {b : Addr} {o : Obj} {es : Array DictEntry} {ep : Nat}, s1.heap.get? b = some o → o.data = .dict es ep → H b = none := fun {b o es ep} e d => isNone b fun u hu => by
      obtain ⟨rfl, _⟩ := hO b u hu
      rw [ha] at e
      cases e
      exact nomatch (show Data.seq vs.toArray _ = Data.dict es ep from d)
    have nsOf : ∀ {b : Addr} {m : Str → Option Value}, s1.heap.Ns b m → (hidT s1.heap H).Ns b m := fun ⟨o, es, ep, e, d, r⟩ => ⟨o, es, ep, hidT_get e (dictNone e d), d, r⟩
    have hK : K.In (hidT s1.heap H) := fun b o e => hidT_get (kin b o e) (isNone b fun u hu => by
      obtain ⟨rfl, hn, _⟩ := hO b u hu
      rw [hn] at e
      cases e)
    obtain ⟨mc, hc1, hc2⟩ := nol
    have e0 : Env0 P w K mg (hidT s1.heap H) callerA [] s1 H :=
      { frames := rfl, mod := ⟨hK, nsOf hns, ⟨mb, nsOf hmb, hbb⟩, ⟨mc, nsOf hc1, hc2⟩⟩, bs := fun b o e => of_hidT e, bsz := Nat.le_of_eq (hidT_size _ _), funs := trivial, frf := fun b hb => (nomatch hb), hok := hok, bare := .of_eq hg }
    refine codeAny_mono ((G _ hK (nsOf hns)).go callerA [] s1 H ⟨[.ref a], []⟩ [.ref a] [.ref a] _ _ rfl hr e0 (hbind s1 (.ref a)) (.cons rfl .nil) (hsp H hS)) fun r s2 h => ?_
    match r, h with
    | .ok (.ret u), h =>
      obtain ⟨v, H2, os, bare, un, hok2, rr, q⟩ := h
      subst q
      obtain rfl : u = Value.bool true := rr
      refine ⟨rfl, OldK.of_keep fun b o e => ?_, os, bare⟩
      cases hb : H b with
      | none => exact un.keep b o e hb (fun z => nomatch z) (fun z => nomatch z)
      | some u =>
        obtain ⟨_, _, ob, xs, rfl⟩ := hO b u hb
        obtain ⟨e1, _⟩ := hok b _ hb
        obtain ⟨e2, _⟩ := hok2 b _ (un.frzs b ob _ hb)
        rw [e1] at e
        cases e
        exact e2
  cases hk : K.lookup a with
  | none =>
    refine main (upd (fun _ => none) a (.frz { cls := .type "list", data := .seq vs.toArray } (.lst (ns.map V.int)))) (fun b u hb => ?_) (.inl (.inr ⟨_, upd_same⟩)) fun b u hb => ?_
    · by_cases h : b = a
      · subst h
        rw [upd_same] at hb
        exact ⟨rfl, hk, _, _, (Option.some.inj hb).symm⟩
      · rw [upd_ne h] at hb
        cases hb
    · by_cases h : b = a
      · subst h
        rw [upd_same] at hb
        cases hb
        exact ⟨ha, by rw [List.length_map]; exact hl, vs, _, rv, ha⟩
      · rw [upd_ne h] at hb
        cases hb
  | some o =>
    have e := kin a o hk
    rw [ha] at e
    cases e
    exact main (fun _ => none) (fun b u hb => nomatch hb) (.inr ⟨_, vs.toArray, _, hk, rfl, rfl, rfl, by rw [List.size_toArray, lv]; exact hl, by simpa using rv⟩) fun b u hb => nomatch hb
theorem walkG {l : PySem.W.OpenLaw} {n k : Nat} {q : Program} {loose : List Str} {XP : (Str → Option Value) → Heap → Prop} {YP : World → Heap → Prop} {d : DefRec} {x : Str}
    (hn : l.most = some n) (hn2 : n ≤ sizeLine) (hdf : d.params.defaults = []) (hr : Room k callerA)
    (F : ∀ (w : World) (mg : Str → Option Value) (fa : Addr) (h : Heap), YP w h → h.Ns mainGlobals mg → mg d.name = some (.ref fa) →
      ∃ (K : PySem.W.Frag) (fd : FuncData) (sp : Sp), K.In h ∧ (∀ (s : Shared) (u : Value), BindsTo s fd ⟨[u], []⟩ [(x, u)]) ∧
        (∀ (H : Hp) (a : Addr) (ns : List Int), ns.length ≤ n → SqL K H a (ns.map V.int) → sp [.ref a] H (fun v _ => v = .bl true) fun _ _ _ => False) ∧
        ∀ base : Heap, K.In base → base.Ns mainGlobals mg → FnG l.prog w K mg base CX0 k fa fd [x] sp) :
    PySem.W.WalkO q loose XP YP l.row.toRowW d [] (fun f vs => PySem.call f vs) :=
  Att.attach_call hn hdf fun w s0 s1 mg mb fa o pm cd doc a vs ns Gd Y ho hd hcd hmg hobj hints hlen hg => by
    obtain ⟨K, fd, sp, kin, hb, hsp, hF⟩ := F w mg fa _ Y Gd.T.g hmg
    exact law_goG kin Gd.T.g Gd.T.b Gd.T.builtins Gd.T.nolimit hg hobj hints (Nat.le_trans hlen hn2) hr hF hb fun H hS => hsp H a ns hlen hS
def HasG (P : Program) (w : World) (K : PySem.W.Frag) (mg : Str → Option Value) (base : Heap) (x : Str) (ps : List Str) (k : Nat) (sp : Sp) : Prop :=
  ∃ f fd, FnG P w K mg base CX0 k f fd ps sp ∧ mg x = some (.ref f) ∧ PySem.W.keepIn K (.ref f) = true ∧ Binds K fd ps []
end U
set_option Elab.async false
set_option linter.all false
set_option maxRecDepth 100000
set_option maxHeartbeats 4000000
namespace U
open PySem PySem.Spec L2 PyProof.Rows
open Sem (wp)
/-! ### enumerate and zip over lists, tuples, texts -/
/-- the new enumerate's record -/
abbrev enO (it : Addr) : Obj := { cls := .type "enumerate", data := .fields #[.none, .bool false, .ref it, rawInt 0, .none, .none] }
theorem mt_en1 {v : Value} {o : Obj} {Hh : Heap → Prop} (B : Begins v o Hh) : Meets (Builtin.«enumerate.__new__» ⟨[.type "enumerate", v], []⟩)
    (fun _ R s => Hh s.heap ∧ R (.ok (.ret (.ref (s.heap.push o).objs.size))) { s with heap := (s.heap.push o).push (enO s.heap.objs.size) }) :=
  .of_wp fun P w A R s ⟨hh, kk⟩ => by
    obtain ⟨hp, gs, dr, tk, os⟩ := s
    have sb := sub_enumerate
    have it1 : ∀ {A' : Around} {E Q : Value → Shared → Prop}, Q (.ref hp.objs.size) ⟨hp.push o, gs, dr, tk, os⟩ → wpAny (model P w) A' (pyIter v) Q E ⟨hp, gs, dr, tk, os⟩ := fun q => B.iter P w _ _ ⟨hp, gs, dr, tk, os⟩ _ hh q
    wp_walk using it1
    refine wpAny_stack_any fun st => wpAny_pure ?_
    split
    · rename_i c _ _ _ _ _
      cases (c == Value.type "enumerate") <;> (wp_walk using it1; exact ⟨_, rfl, kk⟩)
    · wp_walk using it1
      exact ⟨_, rfl, kk⟩
theorem call_en1 {P : Program} {w : World} {A : Around} {E Q : Value → Shared → Prop} {s : Shared} {v : Value} {o : Obj} {Hh : Heap → Prop} (B : Begins v o Hh) (hh : Hh s.heap)
    (k : ∀ h', IsEnum h' (s.heap.objs.size + 1) s.heap.objs.size 0 .none → h'.get? s.heap.objs.size = some o → (∀ b u, s.heap.get? b = some u → h'.get? b = some u) → Q (.ref (s.heap.objs.size + 1)) { s with heap := h' }) :
    wpAny (model P w) A (call (.type "enumerate") [v]) Q E s := by
  have z1 : (s.heap.push o).objs.size = s.heap.objs.size + 1 := Heap.size_push ..
  refine callType_new F.called_enumerate (by decide) (F.typeCall_enumerate_1 _) (F.newCall_enumerate_1 _) (fun obj => F.args_object_init_2 obj _) F.entry_enumerate_new (mt_en1 B) ⟨hh, ?_⟩
  show _ ∧ _
  rw [z1]
  have e1 : ((s.heap.push o).push (enO s.heap.objs.size)).get? (s.heap.objs.size + 1) = some (enO s.heap.objs.size) := by
    have q := Heap.get?_push_size (s.heap.push o) (o := enO s.heap.objs.size) rfl
    rw [z1] at q; exact q
  exact ⟨⟨_, e1, rfl⟩, k _ e1 (Heap.get?_push_of_some _ (Heap.get?_push_size _ B.free)) fun b u x => Heap.get?_push_of_some _ (Heap.get?_push_of_some _ x)⟩
/-- what is walked by one of these -/
inductive Sk where
  | l (a : Addr)
  | t (a : Addr)
  | s (x : Str)
def Sk.va : Sk → V
  | .l a => .ref a
  | .t a => .ref a
  | .s x => .str x
def sgV (x : Str) : List V := x.cps.toList.map fun c => V.str ⟨#[c]⟩
def Sk.on (K : PySem.W.Frag) (H : Hp) : Sk → List V → Prop
  | .l a, xs => SqL K H a xs
  | .t a, xs => SqT K H a xs
  | .s x, xs => xs = sgV x
def Sk.low (n : Nat) : Sk → Prop
  | .l a => a < n
  | .t a => a < n
  | .s _ => True
def Sk.itr (it : Addr) (i : Nat) (h : Heap) : Sk → Prop
  | .l a => h.IsListIter it a i
  | .t a => h.IsTupleIter it a i
  | .s x => ∃ t, h.IsStrIter it (strIterType x) x t i
theorem Sk.itr_obj {it : Addr} {i : Nat} {h : Heap} {k : Sk} (st : k.itr it i h) : ∃ o, h.get? it = some o ∧ ∀ v, o.data ≠ .cell v := by
  cases k with
  | l a => obtain ⟨o, e, _, d⟩ := st; exact ⟨o, e, fun v z => by rw [d] at z; cases z⟩
  | t a => obtain ⟨o, e, _, d⟩ := st; exact ⟨o, e, fun v z => by rw [d] at z; cases z⟩
  | s x => obtain ⟨t, o, e, _, d⟩ := st; exact ⟨o, e, fun v z => by rw [d] at z; cases z⟩
theorem Sk.itr_keep {it : Addr} {i : Nat} {h h' : Heap} {k : Sk} (st : k.itr it i h) (hk : ∀ o, h.get? it = some o → h'.get? it = some o) : k.itr it i h' := by
  cases k with
  | l a => exact st.at hk
  | t a => exact st.at hk
  | s x => obtain ⟨t, o, e, c, d⟩ := st; exact ⟨t, o, hk o e, c, d⟩
section
variable {X : Cx} {pins : List (Addr × Obj)} {σ : L2.St} {H : Hp} {s : Shared}
theorem vals_get {xs : List V} {us : List Value} {j : Nat} {u : Value} (r : Vals xs us) (h : us[j]? = some u) : ∃ x, xs[j]? = some x ∧ RelV x u := by
  induction r generalizing j with
  | nil => simp at h
  | cons r _ ih =>
    cases j with
    | zero => simp at h; subst h; exact ⟨_, rfl, r⟩
    | succ j => exact ih (by simpa using h)
theorem Sk.draw {k : Sk} {xs : List V} {N : Nat} {it : Addr} {i : Nat} (I : Inv X pins σ H s) (hh : X.A.handled = none) (on : k.on X.K H xs) (lo : k.low N) (hN : N ≤ it) (st : k.itr it i s.heap) :
    ∃ (fp : List Addr) (P : Nat → Value → Prop) (T : Nat → Heap → Prop), Draws X.prog X.w X.A.in1 it (it :: fp) xs.length P T ∧ T i s.heap ∧ (∀ j h', T j h' → k.itr it j h') ∧ (∀ j v, P j v → ∃ x, xs[j]? = some x ∧ RelV x v) ∧ ∀ b ∈ fp, b < N := by
  cases k with
  | l a =>
    obtain ⟨its, rv, p, _⟩ := I.list on
    have lo' : a < N := lo
    have hl : its.toArray.size = xs.length := by rw [List.size_toArray]; exact rv.length.symm
    have D := Draws.list (prog := X.prog) (w := X.w) (A := X.A.in1) hh it a (Nat.ne_of_lt (Nat.lt_of_lt_of_le lo' hN)) its.toArray
    rw [hl] at D
    exact ⟨[a], _, _, D, ⟨st, p.isList⟩, fun j h' z => z.1, fun j v z => vals_get rv (by simpa using z), fun b hb => by rw [List.mem_singleton.mp hb]; exact lo'⟩
  | t a =>
    obtain ⟨its, rv, p, _⟩ := I.tuple on
    have lo' : a < N := lo
    have hl : its.toArray.size = xs.length := by rw [List.size_toArray]; exact rv.length.symm
    have D := Draws.tuple (prog := X.prog) (w := X.w) (A := X.A.in1) hh it a (Nat.ne_of_lt (Nat.lt_of_lt_of_le lo' hN)) its.toArray
    rw [hl] at D
    exact ⟨[a], _, _, D, ⟨st, show s.heap.IsTuple a its.toArray from p⟩, fun j h' z => z.1, fun j v z => vals_get rv (by simpa using z), fun b hb => by rw [List.mem_singleton.mp hb]; exact lo'⟩
  | s x =>
    obtain ⟨t, st⟩ := st
    have e : xs = sgV x := on
    subst e
    have D := Draws.text (prog := X.prog) (w := X.w) (A := X.A.in1) hh it x t
    have hl : x.cps.size = (sgV x).length := by simp [sgV]
    rw [hl] at D
    refine ⟨[], _, _, D, st, fun j h' z => ⟨t, z⟩, fun j v z => ?_, fun b hb => by cases hb⟩
    obtain ⟨c, u, hc, rfl⟩ := z
    refine ⟨.str ⟨#[c]⟩, ?_, u, rfl⟩
    unfold sgV
    rw [List.getElem?_map]
    have : x.cps.toList[j]? = some c := by simpa using hc
    rw [this]; rfl
/-- one new tuple is drawn -/
theorem wt_item {I0 : Addr} {fp wr : List Addr} {n i : Nat} {Pt : Nat → Array Value → Prop} {T : Nat → Heap → Prop} {Mid : Nat → Addr → Heap → Prop} {elts : List Expr} {kk : Nat} {tpos : Pos} {E : Value → Shared → Prop} {Y : List V → Prop}
    (W : WalksT X.prog X.w X.A I0 fp wr n Pt T Mid) (I : Inv X pins σ H s) (hf : ∀ b ∈ wr, FpOk X pins H b) (hw : ∀ b ∈ wr, b < s.heap.objs.size) (hi : i < n) (st : T i s.heap)
    (hP : ∀ vals, Pt i vals → ∃ (xs : List V) (us : List Value), vals = us.toArray ∧ Vals xs us ∧ xs.length ≤ sizeLine ∧ Y xs) :
    wpAny (model X.prog X.w) X.A (pyNext (.ref I0)) (fun r s1 => ∃ u, r = some u ∧ wpAny (model X.prog X.w) X.A (letOwnedTupleGo (.Tuple elts kk tpos) (.ref I0) u)
      (fun _ s2 => ∃ x H', Inv X pins σ H' s2 ∧ RelV x u ∧ (∃ q xs, x = .ref q ∧ s.heap.objs.size ≤ q ∧ H q = none ∧ H' = upd H q (.tup xs) ∧ Y xs) ∧ T (i + 1) s2.heap ∧ ∀ b ∈ wr, H' b = none) E s1) E s := by
  refine W.item i s _ _ hi st fun q vals h1 tk hv hq hT hM k1 => ⟨_, rfl, W.go _ _ _ i q _ _ _ hM fun h2 s2 k2 => ?_⟩
  obtain ⟨xs, us, rfl, rv, hz, y⟩ := hP vals hv
  have hqw := W.apart i q _ hM
  obtain ⟨o, ho, hc, m, hd⟩ := hT
  have new : ObjOk X.prog X.w (upd H q (.tup xs)) h2 q (.tup xs) := ⟨hz, us, rv, ⟨o, k2 q o hqw ho, hc, m, hd⟩⟩
  have I1 : Inv X pins σ (upd H q (.tup xs)) { s with heap := h2, toks := tk } := I.turnedNew (ch := wr) (fun b u hb e => k2 b u hb (k1 b u hb e)) hf hq new
  refine ⟨.ref q, _, I1, rfl, ⟨q, xs, rfl, hq, I.hok.fresh hq, rfl, y⟩, s2, fun b hb => ?_⟩
  rw [upd_ne (Nat.ne_of_lt (Nat.lt_of_lt_of_le (hw b hb) hq))]
  exact (hf b hb).1
end
/-! enumerate -/
def Jen (K : PySem.W.Frag) (k : Sk) (xs : List V) : It :=
  ⟨fun i H => i < xs.length ∧ k.on K H xs, fun i H v H' => ∃ q ys, v = .ref q ∧ H q = none ∧ H' = upd H q (.tup ys) ∧ ∃ x, ys = [.int (i : Nat), x] ∧ xs[i]? = some x, fun i H => xs.length ≤ i ∧ k.on K H xs⟩
theorem turn_en {P : Program} {w : World} {K : PySem.W.Frag} {elts : List Expr} {kk : Nat} {tpos : Pos} {k : Sk} {xs : List V} {N : Nat} (lo : k.low N) :
    Turn P w K (.Tuple elts kk tpos) (Jen K k xs) [N + 1, N] (N + 1) (fun i h => i ≤ xs.length ∧ (∃ old, IsEnum h (N + 1) N ((i : Nat) : Int) old) ∧ k.itr N i h) where
  mem := by simp
  obj := fun i h ⟨_, ⟨old, he⟩, st⟩ b hb => by
    have e : b = N + 1 ∨ b = N := by simpa using hb
    rcases e with rfl | rfl
    · exact ⟨_, he, fun v q => nomatch q⟩
    · exact (Sk.itr_obj st)
  keep := fun i h h' ⟨hi, ⟨old, he⟩, st⟩ hk => ⟨hi, ⟨old, hk _ (by simp) _ he⟩, Sk.itr_keep st (hk N (by simp))⟩
  item := by
    intro X hP hw hK hc i pins s σ H E I hf ⟨hi, he, st⟩ ⟨hlt, on⟩
    subst hP hw hK
    obtain ⟨fp, Pp, T, D, t0, t1, t2, t3⟩ := Sk.draw I (I.ok.hd hc) on lo (Nat.le_refl N) st
    have W := WalksT.enumerateD D (N + 1) (Nat.succ_ne_self N) (fun hm => by
      rcases List.mem_cons.mp hm with e | e
      · exact Nat.succ_ne_self N e
      · exact absurd (t3 _ e) (Nat.not_lt.mpr (Nat.le_succ N))) (by simp)
    have hl : ∀ b ∈ [N + 1, N], b < s.heap.objs.size := fun b hb => by
      have e : b = N + 1 ∨ b = N := by simpa using hb
      rcases e with rfl | rfl
      · obtain ⟨old, he⟩ := he; exact Heap.lt_size he
      · obtain ⟨o, e, _⟩ := (Sk.itr_obj st); exact Heap.lt_size e
    refine wpAny_mono (wt_item (Y := fun ys => ∃ x, ys = [.int (i : Nat), x] ∧ xs[i]? = some x) W I hf hl hlt ⟨he, t0⟩ fun vals ⟨tk, u, hu, e⟩ => ?_) (fun r s1 ⟨u, e, q⟩ => ⟨u, e, wpAny_mono q (fun _ s2 ⟨x, H', a, b, ⟨q1, zs1, c1, _, c⟩, ⟨⟨old, d1⟩, d2⟩, f⟩ => ?_) fun _ _ z => z⟩) fun _ _ z => z
    · obtain ⟨x, hx, r⟩ := t2 i u hu
      exact ⟨[.int (i : Nat), x], [.int i tk, u], by rw [e], .cons ⟨_, rfl⟩ (.cons r .nil), by show 2 ≤ sizeLine; decide, x, rfl, hx⟩
    · refine ⟨x, H', a, b, ⟨q1, zs1, c1, c⟩, ⟨hlt, ⟨old, ?_⟩, t1 _ _ d2⟩, f⟩
      exact d1
  done := by
    intro X hP hw hK hc i pins s σ H E I hf ⟨hi, he, st⟩ ⟨hge, on⟩
    subst hP hw hK
    have ei : i = xs.length := Nat.le_antisymm hi hge
    subst ei
    obtain ⟨old, he⟩ := he
    obtain ⟨fp, Pp, T, D, t0, t1, t2, t3⟩ := Sk.draw I (I.ok.hd hc) on lo (Nat.le_refl N) st
    exact wpAny_pyNext_enum_endD D he t0 fun h' eb => ⟨rfl, I.turnedL (t' := s.toks) (ch := [N + 1, N]) (fun b o hb q => eb b o (fun z => hb (by simp [z])) q) hf⟩
  self := fun A i s Q E ⟨_, ⟨_, he⟩, _⟩ h => wpAny_pyIter_enum he h
def iEn (K : PySem.W.Frag) (ta : TA) : TI := fun σ H R => ta σ H fun vs H1 => ∃ k xs, vs = [k.va] ∧ k.on K H1 xs ∧ R (Jen K k xs) H1
section
variable {X : Cx} {pins : List (Addr × Obj)} {σ : L2.St} {H : Hp} {s : Shared}
/-- it begins -/
theorem Sk.begins {k : Sk} {xs : List V} {u : Value} (I : Inv X pins σ H s) (on : k.on X.K H xs) (r : RelV k.va u) :
    ∃ (o : Obj) (Hh : Heap → Prop), Begins u o Hh ∧ Hh s.heap ∧ k.low s.heap.objs.size ∧ ∀ it h', h'.get? it = some o → k.itr it 0 h' := by
  cases k with
  | l a =>
    cases r
    obtain ⟨its, rv, p, _⟩ := I.list on
    exact ⟨_, _, begins_list a its.toArray, p.isList, p.lt, fun it h' e => ⟨_, e, rfl, rfl⟩⟩
  | t a =>
    cases r
    obtain ⟨its, rv, p, _⟩ := I.tuple on
    exact ⟨_, _, begins_tuple a its.toArray, show s.heap.IsTuple a its.toArray from p, (let ⟨_, e, _⟩ := p; Heap.lt_size e), fun it h' e => ⟨_, e, rfl, rfl⟩⟩
  | s x =>
    obtain ⟨t, rfl⟩ := r
    exact ⟨_, _, begins_text x t, trivial, trivial, fun it h' e => ⟨t, _, e, rfl, rfl⟩⟩
theorem pi_en {e : Expr} {ta : TA} {p pos tpos : Pos} {elts : List Expr} {kk : Nat} {K : PySem.W.Frag} (hK : X.K = K) (hg : Gl X "enumerate") (hm : X.mg "enumerate" = none) (ha : PA X [e] ta) (hs : starEach [e] X.env = [(false, eval e X.env)] := by rfl) :
    PI X (.Tuple elts kk tpos) (.Call (.Name "enumerate" p) [e] [] pos) (iEn K ta) := by
  subst hK
  refine ⟨fun pins s σ H R I h => Call_ (ld_blt I hg hm boot_enumerate (PyProof.Rows.callWith_type1 (thn (ha.run pos pins s σ H _ I h) fun us s1 ⟨vs, H1, I1, r1, k, xs, e1, on, q⟩ => ?_) hs rfl))⟩
  subst e1
  cases r1 with
  | cons r rr =>
    cases rr
    obtain ⟨o, Hh, B, hh, lo, fin⟩ := Sk.begins I1 on r
    refine call_en1 B hh fun h' he ho hk => wpAny_pyIter_enum he ?_
    refine ⟨_, [s1.heap.objs.size + 1, s1.heap.objs.size], _, _, H1, rfl, I1.kept (t' := s1.toks) hk, turn_en (xs := xs) lo, ⟨Nat.zero_le _, ⟨.none, he⟩, fin _ _ ho⟩, fun b hb => ?_, q⟩
    have hle : s1.heap.objs.size ≤ b := by
      have e : b = s1.heap.objs.size + 1 ∨ b = s1.heap.objs.size := by simpa using hb
      rcases e with z | z
      · rw [z]; exact Nat.le_succ _
      · rw [z]; exact Nat.le_refl _
    exact I1.fpOk hle (I1.hok.fresh hle)
end
/-! zip of two -/
def Jzp (K : PySem.W.Frag) (k k' : Sk) (xs ys : List V) : It :=
  ⟨fun i H => i < min xs.length ys.length ∧ k.on K H xs ∧ k'.on K H ys, fun i H v H' => ∃ q zs, v = .ref q ∧ H q = none ∧ H' = upd H q (.tup zs) ∧ ∃ x y, zs = [x, y] ∧ xs[i]? = some x ∧ ys[i]? = some y, fun i H => min xs.length ys.length ≤ i ∧ k.on K H xs ∧ k'.on K H ys⟩
theorem turn_zp {P : Program} {w : World} {K : PySem.W.Frag} {elts : List Expr} {kk : Nat} {tpos : Pos} {k k' : Sk} {xs ys : List V} {N : Nat} (lo : k.low N) (lo' : k'.low N) :
    Turn P w K (.Tuple elts kk tpos) (Jzp K k k' xs ys) [N + 4, N + 2, N + 3, N, N + 1] (N + 4)
      (fun i h => i ≤ min xs.length ys.length ∧ IsZip h (N + 4) (N + 2) (N + 3) .none ∧ IsTupOf2 h (N + 2) (.ref N) (.ref (N + 1)) ∧ (∃ x y, IsTupOf2 h (N + 3) x y) ∧ k.itr N i h ∧ k'.itr (N + 1) i h) where
  mem := by simp
  obj := fun i h ⟨_, hz, hI, ⟨x, y, hO⟩, st, st'⟩ b hb => by
    have e : b = N + 4 ∨ b = N + 2 ∨ b = N + 3 ∨ b = N ∨ b = N + 1 := by simpa using hb
    rcases e with rfl | rfl | rfl | rfl | rfl
    · exact ⟨_, hz, fun v q => nomatch q⟩
    · exact ⟨_, hI, fun v q => nomatch q⟩
    · exact ⟨_, hO, fun v q => nomatch q⟩
    · exact (Sk.itr_obj st)
    · exact (Sk.itr_obj st')
  keep := fun i h h' ⟨hi, hz, hI, ⟨x, y, hO⟩, st, st'⟩ hk => ⟨hi, hk _ (by simp) _ hz, hk _ (by simp) _ hI, ⟨x, y, hk _ (by simp) _ hO⟩, Sk.itr_keep st (hk N (by simp)), Sk.itr_keep st' (hk _ (by simp))⟩
  item := by
    intro X hP hw hK hc i pins s σ H E I hf ⟨hi, hz, hI, hO, st, st'⟩ ⟨hlt, on, on'⟩
    subst hP hw hK
    obtain ⟨fp, Pp, T, D, t0, t1, t2, t3⟩ := Sk.draw I (I.ok.hd hc) on lo (Nat.le_refl N) st
    obtain ⟨fp', Pp', T', D', t0', t1', t2', t3'⟩ := Sk.draw I (I.ok.hd hc) on' lo' (Nat.le_succ N) st'
    have W := WalksT.zipD2 (zip_sep2 t3 t3') D D'
    have sub : ∀ b ∈ [N + 4, N + 3, N, N + 1], b ∈ [N + 4, N + 2, N + 3, N, N + 1] := fun b hb => by
      have e : b = N + 4 ∨ b = N + 3 ∨ b = N ∨ b = N + 1 := by simpa using hb
      rcases e with rfl | rfl | rfl | rfl <;> simp
    have hl : ∀ b ∈ [N + 4, N + 2, N + 3, N, N + 1], b < s.heap.objs.size := fun b hb => by
      have e : b = N + 4 ∨ b = N + 2 ∨ b = N + 3 ∨ b = N ∨ b = N + 1 := by simpa using hb
      rcases e with rfl | rfl | rfl | rfl | rfl
      · exact Heap.lt_size hz
      · exact Heap.lt_size hI
      · obtain ⟨_, _, e⟩ := hO; exact Heap.lt_size e
      · obtain ⟨o, e, _⟩ := (Sk.itr_obj st); exact Heap.lt_size e
      · obtain ⟨o, e, _⟩ := (Sk.itr_obj st'); exact Heap.lt_size e
    refine wpAny_mono (wt_item (Y := fun zs => ∃ x y, zs = [x, y] ∧ xs[i]? = some x ∧ ys[i]? = some y) W I (fun b hb => hf b (sub b hb)) (fun b hb => hl b (sub b hb)) hlt ⟨hz, hI, hO, t0, t0'⟩ fun vals ⟨u, u', hu, hu', e⟩ => ?_)
      (fun r s1 ⟨u, e, q⟩ => ⟨u, e, wpAny_mono q (fun _ s2 ⟨x, H', a, b, c, ⟨d1, d2, d3, d4, d5⟩, f⟩ => ?_) fun _ _ z => z⟩) fun _ _ z => z
    · obtain ⟨x, hx, r⟩ := t2 i u hu
      obtain ⟨y, hy, r'⟩ := t2' i u' hu'
      exact ⟨[x, y], [u, u'], by rw [e], .cons r (.cons r' .nil), by show 2 ≤ sizeLine; decide, x, y, rfl, hx, hy⟩
    · obtain ⟨q, zs, e1, hq, c⟩ := c
      refine ⟨x, H', a, b, ⟨q, zs, e1, c⟩, ⟨hlt, d1, d2, d3, t1 _ _ d4, t1' _ _ d5⟩, fun m hm => ?_⟩
      rw [c.2.1, upd_ne (Nat.ne_of_lt (Nat.lt_of_lt_of_le (hl m hm) hq))]
      exact (hf m hm).1
  done := by
    intro X hP hw hK hc i pins s σ H E I hf ⟨hi, hz, hI, hO, st, st'⟩ ⟨hge, on, on'⟩
    subst hP hw hK
    have ei : i = min xs.length ys.length := Nat.le_antisymm hi hge
    subst ei
    obtain ⟨fp, Pp, T, D, t0, t1, t2, t3⟩ := Sk.draw I (I.ok.hd hc) on lo (Nat.le_refl N) st
    obtain ⟨fp', Pp', T', D', t0', t1', t2', t3'⟩ := Sk.draw I (I.ok.hd hc) on' lo' (Nat.le_succ N) st'
    have W := WalksT.zipD2 (zip_sep2 t3 t3') D D'
    exact W.done s _ _ ⟨hz, hI, hO, t0, t0'⟩ fun h' tk hk => ⟨rfl, I.turnedL (ch := [N + 4, N + 2, N + 3, N, N + 1]) (fun b o hb q => hk b o (fun z => hb (by
      have e : b = N + 4 ∨ b = N + 3 ∨ b = N ∨ b = N + 1 := by simpa using z
      rcases e with rfl | rfl | rfl | rfl <;> simp)) q) hf⟩
  self := fun A i s Q E ⟨_, hz, _⟩ h => wpAny_pyIter_zip hz h
def iZp (K : PySem.W.Frag) (ta : TA) : TI := fun σ H R => ta σ H fun vs H1 => ∃ k k' xs ys, vs = [k.va, k'.va] ∧ k.on K H1 xs ∧ k'.on K H1 ys ∧ R (Jzp K k k' xs ys) H1
section
variable {X : Cx}
theorem pi_zp {e e2 : Expr} {ta : TA} {p pos tpos : Pos} {elts : List Expr} {kk : Nat} {K : PySem.W.Frag} (hK : X.K = K) (hg : Gl X "zip") (hm : X.mg "zip" = none) (ha : PA X [e, e2] ta)
    (hs : starEach [e, e2] X.env = (false, eval e X.env) :: starEach [e2] X.env := by rfl) (hpl : (backTo pos (starEach [e2] X.env)).any (·.1) = false := by rfl) : PI X (.Tuple elts kk tpos) (.Call (.Name "zip" p) [e, e2] [] pos) (iZp K ta) := by
  subst hK
  refine ⟨fun pins s σ H R I h => Call_ (ld_blt I hg hm PyProof.Rows.boot_zip (PyProof.Rows.callWith_type1 (thn (ha.run pos pins s σ H _ I h) fun us s1 ⟨vs, H1, I1, r1, k, k', xs, ys, e1, on, on', q⟩ => ?_) hs hpl))⟩
  subst e1
  cases r1 with
  | cons r rr =>
    cases rr with
    | cons r' rr =>
      cases rr
      obtain ⟨o, Hh, B, hh, lo, fin⟩ := Sk.begins I1 on r
      obtain ⟨o', Hh', B', hh', lo', fin'⟩ := Sk.begins I1 on' r'
      refine zip_begins2 B B' hh hh' fun h' hz hI hO ho ho' hsz hk => wpAny_pyIter_zip hz ?_
      refine ⟨_, [s1.heap.objs.size + 4, s1.heap.objs.size + 2, s1.heap.objs.size + 3, s1.heap.objs.size, s1.heap.objs.size + 1], _, _, H1, rfl, I1.kept (t' := s1.toks) hk, turn_zp (xs := xs) (ys := ys) lo lo', ⟨Nat.zero_le _, hz, hI, ⟨_, _, hO⟩, fin _ _ ho, fin' _ _ ho'⟩, fun b hb => ?_, q⟩
      have hle : s1.heap.objs.size ≤ b := by
        have e : b = s1.heap.objs.size + 4 ∨ b = s1.heap.objs.size + 2 ∨ b = s1.heap.objs.size + 3 ∨ b = s1.heap.objs.size ∨ b = s1.heap.objs.size + 1 := by simpa using hb
        rcases e with z | z | z | z | z <;> (rw [z]; first | exact Nat.le_refl _ | exact Nat.le_add_right _ _)
      exact I1.fpOk hle (I1.hok.fresh hle)
end
section
variable {α β : Type} {K : PySem.W.Frag} {k k' : Sk} {vs ws : List V} {xs : List α} {ys : List β} {t : Rp α} {u : Rp β} {F : Hp}
theorem sr_En (h : Al t F vs xs) : Sr (Jen K k vs) (fun H => k.on K H vs) (enumL xs) (fun H x H' a => ∃ T y, x = .ref T ∧ H T = none ∧ H' = upd H T (.tup [.int a.1, y]) ∧ t.r F y a.2) := by
  refine ⟨fun i H hi hq => ⟨?_, hq⟩, fun H hq => ⟨by rw [al_len h]; simp [enumL], hq⟩, fun i H x H' hq y a ha => ?_⟩
  · rw [al_len h]; simpa [enumL] using hi
  · obtain ⟨q, zs, e1, e2, e3, z, e4, e5⟩ := y
    unfold enumL at ha
    rw [List.getElem?_mapIdx] at ha
    cases e : xs[i]? with
    | none => rw [e] at ha; cases ha
    | some b =>
      rw [e] at ha
      have ea : ((i : Int), b) = a := Option.some.inj ha
      subst ea
      obtain ⟨v, ev, r⟩ := pd_get h e
      rw [ev] at e5; cases e5
      exact ⟨q, _, e1, e2, by rw [e3, e4], r⟩
theorem sr_Zp (h : Al t F vs xs) (h' : Al u F ws ys) : Sr (Jzp K k k' vs ws) (fun H => k.on K H vs ∧ k'.on K H ws) (xs.zip ys) (fun H x H' a => ∃ T y z, x = .ref T ∧ H T = none ∧ H' = upd H T (.tup [y, z]) ∧ t.r F y a.1 ∧ u.r F z a.2) := by
  have l1 := al_len h
  have l2 := al_len h'
  refine ⟨fun i H hi hq => ⟨?_, hq⟩, fun H hq => ⟨by rw [List.length_zip]; omega, hq⟩, fun i H x H' hq y a ha => ?_⟩
  · rw [List.length_zip] at hi; omega
  · obtain ⟨q, zs, e1, e2, e3, y1, y2, e4, e5, e6⟩ := y
    rw [List.getElem?_zip_eq_some] at ha
    obtain ⟨v, ev, r⟩ := pd_get h ha.1
    obtain ⟨v', ev', r'⟩ := pd_get h' ha.2
    rw [ev] at e5; cases e5
    rw [ev'] at e6; cases e6
    exact ⟨q, _, _, e1, e2, by rw [e3, e4], r, r'⟩
theorem al_sg (s : Sg) : Al eS F (sgV (S s)) (signs s) := by
  unfold sgV signs
  show Al eS F (s.map fun c => V.str ⟨#[c]⟩) (s.map fun c => [c])
  induction s with
  | nil => exact .nil
  | cons c r ih => exact .cons ⟨rfl, one_le⟩ ih
end
section
variable {K : PySem.W.Frag} {σ : L2.St} {H : Hp} {k k' : Sk} {vs ws : List V} {ta : TA} {R : RIt}
def qEn (K : PySem.W.Frag) (R : RIt) : List V → Hp → Prop := fun vs H1 => ∃ k xs, vs = [k.va] ∧ k.on K H1 xs ∧ R (Jen K k xs) H1
def qZp (K : PySem.W.Frag) (R : RIt) : List V → Hp → Prop := fun vs H1 => ∃ k k' xs ys, vs = [k.va, k'.va] ∧ k.on K H1 xs ∧ k'.on K H1 ys ∧ R (Jzp K k k' xs ys) H1
theorem n_en (h : ta σ H (qEn K R)) : iEn K ta σ H R := h
theorem n_zp (h : ta σ H (qZp K R)) : iZp K ta σ H R := h
theorem v_en (on : k.on K H vs) (q : R (Jen K k vs) H) : qEn K R [k.va] H := ⟨k, vs, rfl, on, q⟩
theorem v_zp (on : k.on K H vs) (on' : k'.on K H ws) (q : R (Jzp K k k' vs ws) H) : qZp K R [k.va, k'.va] H := ⟨k, k', vs, ws, rfl, on, on', q⟩
end
end U
set_option Elab.async false
set_option linter.all false
set_option maxRecDepth 100000
set_option maxHeartbeats 4000000
namespace U
open PySem PySem.Spec L2
/-! ### data: repr, == and != at any depth -/
mutual
theorem dp_nodict {K : PySem.W.Frag} {H : Hp} : ∀ {v : V} {d : PyData}, Dp K H v d → d.hasDict = false
  | _, _, .non => by simp only [PyData.hasDict]
  | _, _, .bl b => by simp only [PyData.hasDict]
  | _, _, .int i => by simp only [PyData.hasDict]
  | _, _, .str x => by simp only [PyData.hasDict]
  | _, _, .lst _ h => by simp only [PyData.hasDict]; exact dpa_nodict h
  | _, _, .tup _ h => by simp only [PyData.hasDict]; exact dpa_nodict h
theorem dpa_nodict {K : PySem.W.Frag} {H : Hp} : ∀ {vs : List V} {ds : List PyData}, DpAll K H vs ds → PyData.hasDictAll ds = false
  | _, _, .nil => by simp only [PyData.hasDictAll]
  | _, _, .cons h1 h2 => by simp only [PyData.hasDictAll, dp_nodict h1, dpa_nodict h2, Bool.or_self]
end
def reprB (d : PyData) : Bool := d.showable && decide (d.depth ≤ 60 ∧ d.shown.length ≤ 16777216)
def reprM (d : PyData) : Option Sg := need (reprB d) d.shown.cps.toList
def qRepr (K : PySem.W.Frag) : RCl := fun xs H Q => ∃ v d, xs = [v] ∧ Dp K H v d ∧ reprB d = true ∧ Q (.str d.shown) H
theorem c_repr {X : Cx} {K : PySem.W.Frag} {k : Nat} (hK : X.K = K) (hg : X.A.guards = some []) (hr : Room k X.A) : CallR X (.builtin "repr") (qRepr K) := by
  subst hK
  intro pins s σ H xs us Q I rv ⟨v, d, e, hd, hb, q⟩
  subst e
  cases rv with
  | cons r rr =>
    cases rr
    obtain ⟨as, rd⟩ := Dp.reads I d _ _ hd r
    have nd := dp_nodict hd
    unfold reprB at hb
    rw [Bool.and_eq_true] at hb
    obtain ⟨h1, h2⟩ := hb
    have h3 := of_decide_eq_true h2
    have hz : d.shown.length ≤ sizeLine := by rw [sizeLine_eq]; exact h3.2
    cases hd with
    | non =>
      cases r
      exact PySem.P.repr_of_none ⟨.str _, H, I.tok _, ⟨_, rfl⟩, by simpa [PyData.shown] using q⟩
    | bl b =>
      cases r
      exact PySem.P.repr_of_bool ⟨.str _, H, I.tok _, ⟨_, rfl⟩, by simpa [PyData.shown] using q⟩
    | int i =>
      obtain ⟨t, rfl⟩ := r
      exact PySem.P.repr_of_int (by simpa [PyData.showable] using h1) ⟨.str _, H, I.tok _, ⟨_, rfl⟩, by simpa [PyData.shown] using q⟩
    | str x =>
      obtain ⟨t, rfl⟩ := r
      exact PySem.P.repr_of_str ⟨.str _, H, I.tok _, ⟨_, rfl⟩, by simpa [PyData.shown] using q⟩ (by simpa [PyData.shown] using hz)
    | lst _ _ =>
      cases r
      exact PySem.repr_of_reads' rd h1 (fun z => by rw [nd] at z; cases z) hg (by have := hr.un; omega) (fun _ _ e => e) (fun h' u tk hk => ⟨.str _, H, I.kept hk, ⟨u, rfl⟩, q⟩) hz
    | tup _ _ =>
      cases r
      exact PySem.repr_of_reads' rd h1 (fun z => by rw [nd] at z; cases z) hg (by have := hr.un; omega) (fun _ _ e => e) (fun h' u tk hk => ⟨.str _, H, I.kept hk, ⟨u, rfl⟩, q⟩) hz
/-- a typed value's data -/
structure Dt {α : Type} (t : Rp α) where
  d : α → PyData
  ok : ∀ {K : PySem.W.Frag} {F H : Hp} {v : V} {x : α}, Sub F H → t.r F v x → Dp K H v (d x)
  eqv : ∀ x y, PyData.eqv (d x) (d y) = true ↔ x = y
section
variable {α β γ : Type} {t : Rp α} {ta : Rp α} {tb : Rp β} {tc : Rp γ} {K : PySem.W.Frag} {F H : Hp} {v : V} {vs : List V} {xs : List α} {x y : α} {p : Addr} {Q : VK} {r : Sg}
theorem dt_all (D : Dt t) (hs : Sub F H) (h : Al t F vs xs) : DpAll K H vs (xs.map D.d) := by
  induction h with
  | nil => exact .nil
  | cons r _ ih => exact .cons (D.ok hs r) ih
theorem eqv_all (D : Dt t) : ∀ xs ys : List α, PyData.eqvAll (xs.map D.d) (ys.map D.d) = true ↔ xs = ys
  | [], [] => by simp [PyData.eqvAll]
  | [], _ :: _ => by simp [PyData.eqvAll]
  | _ :: _, [] => by simp [PyData.eqvAll]
  | x :: xs, y :: ys => by
    simp only [List.map_cons, PyData.eqvAll, Bool.and_eq_true, List.cons.injEq]
    rw [D.eqv, eqv_all D xs ys]
def dI : Dt eI := ⟨fun i => .int i, fun _ h => by have e : _ = V.int _ := h; subst e; exact .int _, fun x y => by simp [PyData.eqv]⟩
def dB : Dt eB := ⟨fun b => .bool b, fun _ h => by have e : _ = V.bl _ := h; subst e; exact .bl _, fun x y => by simp [PyData.eqv]⟩
def dN : Dt eN := ⟨fun _ => .none, fun _ h => by have e : _ = V.non := h; subst e; exact .non, fun x y => by simp [PyData.eqv]⟩
def dS : Dt eS := ⟨fun s => .str (S s), fun _ h => by obtain ⟨e, _⟩ := h; subst e; exact .str _, fun x y => by simp only [PyData.eqv, beq_iff_eq]; exact S_inj⟩
def dP2 (a : Dt ta) (b : Dt tb) : Dt (eP2 ta tb) := ⟨fun x => .tuple [a.d x.1, b.d x.2], fun hs ⟨p, y, z, e, q, h1, h2⟩ => by
  subst e; exact .tup (.inl (.inl (hs _ _ q))) (.cons (a.ok hs h1) (.cons (b.ok hs h2) .nil)), fun x y => by
  simp only [PyData.eqv, PyData.eqvAll, Bool.and_true, Bool.and_eq_true, a.eqv, b.eqv]; exact (Prod.ext_iff).symm⟩
def dP3 (a : Dt ta) (b : Dt tb) (c : Dt tc) : Dt (eP3 ta tb tc) := ⟨fun x => .tuple [a.d x.1, b.d x.2.1, c.d x.2.2], fun hs ⟨p, y, z, w, e, q, h1, h2, h3⟩ => by
  subst e; exact .tup (.inl (.inl (hs _ _ q))) (.cons (a.ok hs h1) (.cons (b.ok hs h2) (.cons (c.ok hs h3) .nil))), fun x y => by
  simp only [PyData.eqv, PyData.eqvAll, Bool.and_true, Bool.and_eq_true, a.eqv, b.eqv, c.eqv]; rw [Prod.ext_iff, Prod.ext_iff]⟩
def dL (a : Dt t) : Dt (eL t) := ⟨fun x => .list (x.map a.d), fun hs ⟨p, vs, e, q, h⟩ => by subst e; exact .lst (.inl (.inl (hs _ _ q))) (dt_all a hs h), fun x y => by
  simp only [PyData.eqv]; exact eqv_all a x y⟩
def dT (a : Dt t) : Dt (eT t) := ⟨fun x => .tuple (x.map a.d), fun hs ⟨p, vs, e, q, h⟩ => by subst e; exact .tup (.inl (.inl (hs _ _ q))) (dt_all a hs h), fun x y => by
  simp only [PyData.eqv]; exact eqv_all a x y⟩
def isNoneD : PyData → Bool
  | .none => true
  | _ => false
theorem eqv_none {d : PyData} (h : isNoneD d = false) : PyData.eqv .none d = false ∧ PyData.eqv d .none = false := by
  cases d <;> simp [isNoneD, PyData.eqv] at *
def dO (a : Dt t) (nn : ∀ x, isNoneD (a.d x) = false) : Dt (eO t) := ⟨fun x => match x with
  | none => .none
  | some x => a.d x, fun {K F H v x} hs h => by
    cases x with
    | none => have e : _ = V.non := h; subst e; exact .non
    | some x => exact a.ok hs h.2, fun x y => by
    cases x with
    | none => cases y with
      | none => simp [PyData.eqv]
      | some y => simp [(eqv_none (nn y)).1]
    | some x => cases y with
      | none => simp [(eqv_none (nn x)).2]
      | some y => simp only [Option.some.injEq]; exact a.eqv x y⟩
theorem reprM_le {d : PyData} (h : reprM d = some r) : r.length ≤ sizeLine := by
  obtain ⟨h1, rfl⟩ := need_ok h
  unfold reprB at h1
  rw [Bool.and_eq_true] at h1
  have h3 := (of_decide_eq_true h1.2).2
  rw [sizeLine_eq]
  simpa [Str.length] using h3
theorem v_reprD {d : PyData} (hd : Dp K H v d) (h : reprM d = some r) (k : Q (.str (S r)) H) : qRepr K [v] H Q := by
  obtain ⟨h1, rfl⟩ := need_ok h
  exact ⟨v, d, rfl, hd, h1, k⟩
theorem v_repr (D : Dt t) (hs : Sub F H) (hr : t.r F v x) (h : reprM (D.d x) = some r) (k : Q (.str (S r)) H) : qRepr K [v] H Q := v_reprD (D.ok hs hr) h k
theorem v_reprM (D : Dt t) (hs : Sub F H) (hq : H p = some (.lst vs)) (hr : Al t F vs xs) (h : reprM (.list (xs.map D.d)) = some r) (k : Q (.str (S r)) H) : qRepr K [.ref p] H Q :=
  v_reprD (.lst (.inl (.inl hq)) (dt_all D hs hr)) h k
/-! == -/
theorem c_eqD {X : Cx} {k : Nat} (hK : X.K = K) (hr : Room k X.A) : OpR X (compareOp .Eq) (rEqD K) := by subst hK; exact op_eqD hr.units
theorem c_neD {X : Cx} {k : Nat} (hK : X.K = K) (hr : Room k X.A) : OpR X (compareOp .NotEq) (rNeD K) := by subst hK; exact op_neD hr.units
def eqB (d e : PyData) : Bool := SeqAt.shaped d && SeqAt.shaped e
theorem eqv_dec {α : Type} [DecidableEq α] {t : Rp α} (D : Dt t) (x y : α) : PyData.eqv (D.d x) (D.d y) = decide (x = y) := by
  rw [Bool.eq_iff_iff, decide_eq_true_eq]; exact D.eqv x y
theorem v_eqDp {v w : V} {d e : PyData} {b : Bool} (h1 : Dp K H v d) (h2 : Dp K H w e) (hb : eqB d e = true) (he : PyData.eqv d e = b) (k : Q (.bl b) H) : rEqD K v w H Q := by
  unfold eqB at hb
  rw [Bool.and_eq_true] at hb
  exact ⟨d, e, h1, h2, hb.1, hb.2, by rw [he]; exact k⟩
theorem v_neDp {v w : V} {d e : PyData} {b : Bool} (h1 : Dp K H v d) (h2 : Dp K H w e) (hb : eqB d e = true) (he : PyData.eqv d e = b) (k : Q (.bl (!b)) H) : rNeD K v w H Q := by
  unfold eqB at hb
  rw [Bool.and_eq_true] at hb
  exact ⟨d, e, h1, h2, hb.1, hb.2, by rw [he]; exact k⟩
theorem dp_mut (D : Dt t) (hs : Sub F H) (hq : H p = some (.lst vs)) (hr : Al t F vs xs) : Dp K H (.ref p) (.list (xs.map D.d)) := .lst (.inl (.inl hq)) (dt_all D hs hr)
end
/-! ### plain: how long a repr is -/
structure Rk (e B : Nat) (d : PyData) : Prop where
  sh : d.showable = true
  dp : d.depth ≤ e
  ln : d.shown.length ≤ B
structure Rks (e B : Nat) (ds : List PyData) : Prop where
  sh : PyData.showableAll ds = true
  dp : PyData.depthAll ds ≤ e
  ln : piled (PyData.shownAll ds) ≤ B
theorem rks_nil {e : Nat} : Rks e 0 [] := ⟨by simp only [PyData.showableAll], by simp only [PyData.depthAll]; exact Nat.zero_le _, by simp only [PyData.shownAll, piled_nil]; exact Nat.le_refl _⟩
theorem rks_cons {e B C : Nat} {d : PyData} {ds : List PyData} (h : Rk e B d) (h' : Rks e C ds) : Rks e (B + 2 + C) (d :: ds) :=
  ⟨by simp only [PyData.showableAll, h.sh, h'.sh, Bool.and_self], by simp only [PyData.depthAll]; exact Nat.max_le.mpr ⟨h.dp, h'.dp⟩, by
    simp only [PyData.shownAll, piled_cons]
    have := h.ln; have := h'.ln; omega⟩
theorem rks_all {e B : Nat} : ∀ {ds : List PyData}, (∀ d ∈ ds, Rk e B d) → Rks e (ds.length * (B + 2)) ds
  | [], _ => by simpa using rks_nil
  | d :: ds, h => by
    have q := rks_cons (h d (by simp)) (rks_all (ds := ds) fun c hc => h c (List.mem_cons_of_mem _ hc))
    refine ⟨q.sh, q.dp, ?_⟩
    have := q.ln
    rw [List.length_cons, Nat.add_mul, Nat.one_mul]
    omega
theorem Rk.mono {e e' B B' : Nat} {d : PyData} (h : Rk e B d) (he : e ≤ e') (hB : B ≤ B') : Rk e' B' d := ⟨h.sh, Nat.le_trans h.dp he, Nat.le_trans h.ln hB⟩
theorem textFrom_le (ts : List Str) : (listText ts).length ≤ piled ts + 2 := by
  unfold listText
  rw [strLen_append]
  cases ts with
  | nil => exact Nat.le_of_eq rfl
  | cons t r =>
    have e : textFrom 0 "[" (t :: r) = textFrom 1 (("[" : Str) ++ "" ++ t) r := rfl
    rw [e, textFrom_length_pos _ _ _ (Nat.succ_pos 0), strLen_append, strLen_append, piled_cons]
    have e1 : (("[" : String) : Str).length = 1 := rfl
    have e2 : (("" : String) : Str).length = 0 := rfl
    have e3 : (("]" : String) : Str).length = 1 := rfl
    rw [e1, e2, e3]; omega
theorem tupText_le (ts : List Str) : (tupleText ts).length ≤ piled ts + 3 := by
  unfold tupleText
  rw [strLen_append, strLen_append]
  have e1 : (("(" : String) : Str).length = 1 := rfl
  have e3 : (((if ts.length == 1 then ",)" else ")" : String) : Str)).length ≤ 2 := by split <;> decide
  rw [e1]
  by_cases h : ts = []
  · subst h
    have e4 : (Str.join ", " ([] : List Str)).length = 0 := rfl
    rw [e4]; omega
  · have := join_length_add ts h
    omega
theorem rk_list {e B : Nat} {ds : List PyData} (h : Rks e B ds) : Rk (e + 1) (B + 2) (.list ds) :=
  ⟨by simp only [PyData.showable]; exact h.sh, by simp only [PyData.depth]; exact Nat.succ_le_succ h.dp, by simp only [PyData.shown]; exact Nat.le_trans (textFrom_le _) (Nat.add_le_add_right h.ln 2)⟩
theorem rk_tup {e B : Nat} {ds : List PyData} (h : Rks e B ds) : Rk (e + 1) (B + 3) (.tuple ds) :=
  ⟨by simp only [PyData.showable]; exact h.sh, by simp only [PyData.depth]; exact Nat.succ_le_succ h.dp, by simp only [PyData.shown]; exact Nat.le_trans (tupText_le _) (Nat.add_le_add_right h.ln 3)⟩
theorem rk_non : Rk 0 4 .none := ⟨by simp only [PyData.showable], by simp only [PyData.depth]; exact Nat.le_refl _, by simp only [PyData.shown]; decide⟩
theorem rk_bool (b : Bool) : Rk 0 5 (.bool b) := ⟨by simp only [PyData.showable], by simp only [PyData.depth]; exact Nat.le_refl _, by simp only [PyData.shown]; cases b <;> decide⟩
theorem rk_str {s : Sg} {n : Nat} (hs : ∀ c ∈ s, c < 1114112) (hn : s.length ≤ n) : Rk 0 (10 * n + 2) (.str (S s)) :=
  ⟨by simp only [PyData.showable], by simp only [PyData.depth]; exact Nat.le_refl _, by
    simp only [PyData.shown]
    have := StrLaws.reprText_len (S s) (fun c hc => by have := hs c (by simpa using hc); omega)
    have e : (S s).length = s.length := by simp [Str.length]
    omega⟩
theorem rk_int {i : Int} {k : Nat} (hk : 0 < k) (h : i.natAbs < 2 ^ k) (hk2 : k ≤ 1920) : Rk 0 (k + 1) (.int i) := by
  have hl : i.natAbs.log2 < k := by
    by_cases h0 : i.natAbs = 0
    · rw [h0]; simpa using hk
    · exact (Nat.log2_lt h0).mpr h
  refine ⟨by simp only [PyData.showable]; exact decide_eq_true (Nat.lt_of_lt_of_le hl hk2), by simp only [PyData.depth]; exact Nat.le_refl _, ?_⟩
  simp only [PyData.shown]
  have h1 := int_text_length_le hk hl
  rw [ofString_length]; exact h1
theorem reprB_of {e B : Nat} {d : PyData} (h : Rk e B d) (he : e ≤ 60) (hB : B ≤ 16777216) : reprB d = true := by
  unfold reprB
  rw [h.sh, Bool.true_and]
  exact decide_eq_true ⟨Nat.le_trans h.dp he, Nat.le_trans h.ln hB⟩
theorem reprM_of {e B : Nat} {d : PyData} (h : Rk e B d) (he : e ≤ 60) (hB : B ≤ 16777216) : reprM d = some d.shown.cps.toList := by unfold reprM need; rw [reprB_of h he hB]; rfl
end U
set_option Elab.async false
set_option linter.all false
set_option maxRecDepth 100000
set_option maxHeartbeats 4000000
namespace U
open PySem PySem.Spec L2 PySem.W
/-! ### sorted: lists of typed data -/
def srtL {α : Type} (lt : α → α → Bool) (xs : List α) : List α := xs.mergeSort fun a b => !lt b a
def srtV (vs : List V) (ds : List PyData) : List V := ((vs.zip ds).mergeSort (dataLe false Prod.snd)).map Prod.fst
def qSorted (K : PySem.W.Frag) : RCl := fun xs H Q => ∃ p vs ds, xs = [V.ref p] ∧ SqL K H p vs ∧ DpAll K H vs ds ∧ AllAlike ds ∧ Sortable ds ∧ (∀ d ∈ ds, d.depth ≤ 60) ∧ ∀ l, H l = none → Q (.ref l) (upd H l (.lst (srtV vs ds)))
theorem dpa_len {K : PySem.W.Frag} {H : Hp} : ∀ {vs : List V} {ds : List PyData}, DpAll K H vs ds → vs.length = ds.length
  | _, _, .nil => rfl
  | _, _, .cons _ t => congrArg (· + 1) (dpa_len t)
theorem map_snd_zip : ∀ (vs : List V) (ds : List PyData), vs.length = ds.length → (vs.zip ds).map Prod.snd = ds
  | [], [], _ => rfl
  | [], _ :: _, h => by cases h
  | _ :: _, [], h => by cases h
  | v :: vs, d :: ds, h => by
    rw [List.zip_cons_cons, List.map_cons, map_snd_zip vs ds (Nat.succ.inj h)]
theorem each_zip {R : V → Value → Prop} : ∀ {vs : List V} {us : List Value} {ds : List PyData}, Paired R vs us → vs.length = ds.length → EachIs (fun u (b : V × PyData) => R b.1 u) us (vs.zip ds)
  | _, _, [], .nil, _ => .nil
  | _, _, _ :: _, .nil, h => by cases h
  | _, _, [], .cons _ _, h => by cases h
  | _, _, _ :: _, .cons r t, h => .cons r (each_zip t (Nat.succ.inj h))
theorem each_reads {X : Cx} {pins : List (Addr × Obj)} {σ : L2.St} {H : Hp} {s : Shared} (I : Inv X pins σ H s) : ∀ {vs : List V} {us : List Value} {ds : List PyData}, Vals vs us → DpAll X.K H vs ds → EachIs (fun u (b : V × PyData) => ∃ as, Reads s.heap u b.2 as) us (vs.zip ds)
  | _, _, _, .nil, .nil => .nil
  | _, _, _, .cons r t, .cons h k => .cons (Dp.reads I _ _ _ h r) (each_reads I t k)
theorem each_fst {R : V → Value → Prop} : ∀ {us : List Value} {bs : List (V × PyData)}, EachIs (fun u (b : V × PyData) => R b.1 u) us bs → Paired R (bs.map Prod.fst) us
  | _, _, .nil => .nil
  | _, _, .cons r t => .cons r (each_fst t)
theorem c_sorted {X : Cx} {K : PySem.W.Frag} {k : Nat} (hK : X.K = K) (hr : Room k X.A) : CallR X (.builtin "sorted") (qSorted K) := by
  subst hK
  intro pins s σ H xs us Q I rv ⟨p, vs, ds, e, hq, hd, ha, hs, hdp, q⟩
  subst e
  obtain ⟨u, rfl, ru⟩ := vals1 rv
  obtain rfl : u = Value.ref p := ru
  obtain ⟨its, ri, hl, hz⟩ := I.list hq
  have hlen := dpa_len hd
  have es := map_snd_zip vs ds hlen
  refine PySem.W.sorted_data (R := fun u (b : V × PyData) => RelV b.1 u) (enc := Prod.snd) (bs := vs.zip ds) hl.isList (each_zip ri hlen) (each_reads I ri hd) (by rw [es]; exact ha) (by rw [es]; exact hs) (by rw [List.length_zip]; omega) (fun b hb => ?_) fun out ho eo => ?_
  · have h1 := hdp b.2 (List.of_mem_zip (a := b.1) (b := b.2) hb).2
    have := hr.un
    omega
  · obtain ⟨n, hn⟩ := PyProof.Rows.sortedAll_at s.heap its out.toArray
    have hp : s.heap.objs.size ≤ s.heap.objs.size + 1 := Nat.le_succ _
    refine ⟨.ref (s.heap.objs.size + 1), upd H (s.heap.objs.size + 1) (.lst (srtV vs ds)), I.laid (t' := s.toks) (fun _ _ => PyProof.Rows.sortedAll_old) hp ?_, rfl, q _ (I.hok.fresh hp)⟩
    refine ⟨?_, out, n, each_fst eo, hn⟩
    unfold srtV
    rw [List.length_map, List.length_mergeSort, List.length_zip]
    omega
/-- what can be ordered -/
structure So {α : Type} {t : Rp α} (D : Dt t) where
  lt : α → α → Bool
  al : ∀ x y, alike (D.d x) (D.d y) = true
  so : (∀ x, ∃ a r, D.d x = .tuple (a :: r)) ∨ ∀ x, D.d x ≠ .none ∧ ∀ xs, D.d x ≠ .tuple xs
  dp : ∀ x, (D.d x).depth ≤ 60
  ok : ∀ x y, dataLt (D.d x) (D.d y) = lt x y
theorem row_nil : rowLt [] [] = false := PyProof.Rows.lex_irrefl _
theorem row_cons {x y : PyData} (h : alike x y = true) (xs ys : List PyData) : rowLt (x :: xs) (y :: ys) = if PyData.eqv x y = true then rowLt xs ys else dataLt x y := dataLt_cons h xs ys
section
variable {α β γ : Type} {t : Rp α} {u : Rp β} {w : Rp γ} {D : Dt t} {E : Dt u} {G : Dt w}
theorem So.irr (S : So D) (x : α) : S.lt x x = false := by
  rw [← S.ok]; exact PyProof.Rows.lex_irrefl _
theorem row_one (S : So D) (x y : α) : rowLt [D.d x] [D.d y] = S.lt x y := by
  rw [row_cons (S.al x y), row_nil, S.ok]
  by_cases h : PyData.eqv (D.d x) (D.d y) = true
  · rw [if_pos h]
    have e := (D.eqv x y).mp h
    subst e
    exact (S.irr x).symm
  · rw [if_neg h]
def ltI (x y : Int) : Bool := decide (x < y)
def ltS (x y : Sg) : Bool := decide (x < y)
def ltP {α β : Type} [DecidableEq α] (f : α → α → Bool) (g : β → β → Bool) (p q : α × β) : Bool := if p.1 = q.1 then g p.2 q.2 else f p.1 q.1
def soI : So dI := ⟨ltI, fun x y => by simp [dI, alike], .inr fun x => ⟨by simp [dI], by simp [dI]⟩, fun x => by simp [dI, PyData.depth], fun x y => dataLt_int x y⟩
def soS : So dS := ⟨ltS, fun x y => by simp [dS, alike], .inr fun x => ⟨by simp [dS], by simp [dS]⟩, fun x => by simp [dS, PyData.depth], fun x y => by
  show dataLt (.str (S x)) (.str (S y)) = _
  rw [dataLt_str]; rfl⟩
theorem ite_eqv [DecidableEq α] (D : Dt t) (x y : α) (a b : Bool) : (if PyData.eqv (D.d x) (D.d y) = true then a else b) = if x = y then a else b := by
  by_cases h : x = y
  · rw [if_pos h, if_pos ((D.eqv x y).mpr h)]
  · rw [if_neg h, if_neg (fun z => h ((D.eqv x y).mp z))]
def soP2 [DecidableEq α] (S : So D) (T : So E) (hd : ∀ x y, (D.d x).depth ≤ 20 ∧ (E.d y).depth ≤ 20) : So (dP2 D E) := ⟨ltP S.lt T.lt, fun x y => by
  show alike (.tuple [D.d x.1, E.d x.2]) (.tuple [D.d y.1, E.d y.2]) = true
  simp [alike, alikeAll, S.al, T.al], .inl fun x => ⟨_, _, rfl⟩, fun x => by
  have := hd x.1 x.2
  show (PyData.tuple [D.d x.1, E.d x.2]).depth ≤ 60
  simp only [PyData.depth, PyData.depthAll]; omega, fun x y => by
  show dataLt (.tuple [D.d x.1, E.d x.2]) (.tuple [D.d y.1, E.d y.2]) = _
  rw [dataLt_tuple]
  show rowLt _ _ = _
  rw [row_cons (S.al _ _), row_one T, S.ok, ite_eqv]; rfl⟩
def soP3 [DecidableEq α] [DecidableEq β] (S : So D) (T : So E) (U : So G) (hd : ∀ x y z, (D.d x).depth ≤ 20 ∧ (E.d y).depth ≤ 20 ∧ (G.d z).depth ≤ 20) : So (dP3 D E G) := ⟨ltP S.lt (ltP T.lt U.lt), fun x y => by
  show alike (.tuple [D.d x.1, E.d x.2.1, G.d x.2.2]) (.tuple [D.d y.1, E.d y.2.1, G.d y.2.2]) = true
  simp [alike, alikeAll, S.al, T.al, U.al], .inl fun x => ⟨_, _, rfl⟩, fun x => by
  have := hd x.1 x.2.1 x.2.2
  show (PyData.tuple [D.d x.1, E.d x.2.1, G.d x.2.2]).depth ≤ 60
  simp only [PyData.depth, PyData.depthAll]; omega, fun x y => by
  show dataLt (.tuple [D.d x.1, E.d x.2.1, G.d x.2.2]) (.tuple [D.d y.1, E.d y.2.1, G.d y.2.2]) = _
  rw [dataLt_tuple]
  show rowLt _ _ = _
  rw [row_cons (S.al _ _), row_cons (T.al _ _), row_one U, S.ok, T.ok, ite_eqv, ite_eqv]; rfl⟩
theorem so_alike (S : So D) (xs : List α) : AllAlike (xs.map D.d) := fun d hd e he => by
  obtain ⟨x, _, rfl⟩ := List.mem_map.mp hd
  obtain ⟨y, _, rfl⟩ := List.mem_map.mp he
  exact S.al x y
theorem so_sortable (S : So D) (xs : List α) : Sortable (xs.map D.d) := S.so.imp (fun h d hd => by
  obtain ⟨x, _, rfl⟩ := List.mem_map.mp hd
  exact h x) fun h d hd => by
  obtain ⟨x, _, rfl⟩ := List.mem_map.mp hd
  exact h x
theorem pd_zipmem {R : V → α → Prop} : ∀ {vs : List V} {xs : List α}, Paired R vs xs → ∀ b ∈ vs.zip xs, R b.1 b.2
  | _, _, .nil, b, h => by cases h
  | _, _, .cons r t, b, h => by
    rcases List.mem_cons.mp h with e | e
    · subst e; exact r
    · exact pd_zipmem t b e
theorem pd_unzip {R : V → α → Prop} : ∀ zs : List (V × α), (∀ b ∈ zs, R b.1 b.2) → Paired R (zs.map Prod.fst) (zs.map Prod.snd)
  | [], _ => .nil
  | b :: zs, h => .cons (h b (by simp)) (pd_unzip zs fun c hc => h c (by simp [hc]))
theorem map_fst_zipA : ∀ (vs : List V) (xs : List α), vs.length = xs.length → (vs.zip xs).map Prod.snd = xs
  | [], [], _ => rfl
  | [], _ :: _, h => by cases h
  | _ :: _, [], h => by cases h
  | v :: vs, d :: ds, h => by
    rw [List.zip_cons_cons, List.map_cons, map_fst_zipA vs ds (Nat.succ.inj h)]
variable {K : PySem.W.Frag} {F H : Hp} {vs us : List V} {xs : List α} {p : Addr} {Q : VK}
theorem al_sorted (S : So D) (hr : Al t F vs xs) : Al t F (srtV vs (xs.map D.d)) (srtL S.lt xs) := by
  have hl := al_len hr
  have e1 : (vs.zip (xs.map D.d)) = (vs.zip xs).map fun b => (b.1, D.d b.2) := by
    rw [List.zip_map_right]; rfl
  have e2 : ((vs.zip xs).map fun b : V × α => (b.1, D.d b.2)).mergeSort (dataLe false Prod.snd) = ((vs.zip xs).mergeSort fun a b => !S.lt b.2 a.2).map fun b => (b.1, D.d b.2) :=
    (List.map_mergeSort (fun a _ b _ => by
      show (!S.lt b.2 a.2) = (!dataLt (D.d b.2) (D.d a.2))
      rw [S.ok])).symm
  have e3 : ((vs.zip xs).mergeSort fun a b => !S.lt b.2 a.2).map Prod.snd = srtL S.lt xs := by
    rw [List.map_mergeSort (s := fun a b => !S.lt b a) (fun a _ b _ => rfl), map_fst_zipA vs xs hl]; rfl
  unfold srtV
  rw [e1, e2, List.map_map, ← e3]
  show Al t F (List.map (fun b : V × α => b.1) _) _
  exact pd_unzip _ fun b hb => pd_zipmem hr b ((List.mergeSort_perm _ _).mem_iff.mp hb)
theorem v_sortedF (S : So D) (hs : Sub F H) (hq : SqL K H p vs) (hr : Al t F vs xs) (k : ∀ p' us F' H', Gr [] F H F' H' → F' p' = some (.lst us) → Al t F' us (srtL S.lt xs) → Q (.ref p') H') : qSorted K [.ref p] H Q :=
  ⟨p, vs, xs.map D.d, rfl, hq, dt_all D hs hr, so_alike S xs, so_sortable S xs, fun d hd => by obtain ⟨x, _, rfl⟩ := List.mem_map.mp hd; exact S.dp x, fun l hl => k l _ _ _ (gr_newF hs hl) upd_same (Al.mono (al_sorted S hr) (Sub.up1 (hs.nn hl)))⟩
theorem v_sortedM (S : So D) (hs : Sub F H) (hq : SqL K H p vs) (hr : Al t F vs xs) (k : ∀ p' us H', H p' = none → Gr [] F H F H' → F p' = none → H' p' = some (.lst us) → Al t F us (srtL S.lt xs) → Q (.ref p') H') : qSorted K [.ref p] H Q :=
  ⟨p, vs, xs.map D.d, rfl, hq, dt_all D hs hr, so_alike S xs, so_sortable S xs, fun d hd => by obtain ⟨x, _, rfl⟩ := List.mem_map.mp hd; exact S.dp x, fun l hl => k l _ _ hl (gr_newM hs hl) (hs.nn hl) upd_same (al_sorted S hr)⟩
end
/-! ### plain: what is sorted -/
structure Lo {α : Type} (lt : α → α → Bool) : Prop where
  irr : ∀ x, lt x x = false
  tr : ∀ x y z, lt x y = true → lt y z = true → lt x z = true
  tot : ∀ x y, lt x y = false → lt y x = false → x = y
section
variable {α β : Type} {lt : α → α → Bool} {xs ys : List α}
theorem Lo.asym (O : Lo lt) {x y : α} (h : lt x y = true) : lt y x = false := by
  cases e : lt y x with
  | false => rfl
  | true => have := O.tr x y x h e; rw [O.irr] at this; cases this
theorem Lo.ntr (O : Lo lt) {x y z : α} (h : lt y x = false) (k : lt z y = false) : lt z x = false := by
  cases e : lt z x with
  | false => rfl
  | true =>
    cases e2 : lt x y with
    | true => have := O.tr z x y e e2; rw [this] at k; cases k
    | false =>
      have := O.tot x y e2 h
      subst this
      rw [e] at k; cases k
theorem srt_perm : (srtL lt xs).Perm xs := List.mergeSort_perm _ _
theorem srt_len : (srtL lt xs).length = xs.length := srt_perm.length_eq
theorem srt_mem {x : α} : x ∈ srtL lt xs ↔ x ∈ xs := srt_perm.mem_iff
theorem srt_sorted (O : Lo lt) : (srtL lt xs).Pairwise fun a b => lt b a = false := by
  have := List.pairwise_mergeSort (le := fun a b => !lt b a) (fun a b c h1 h2 => by
    simp only [Bool.not_eq_true'] at *
    exact O.ntr h1 h2) (fun a b => by
    cases e : lt b a with
    | false => rfl
    | true => simp [O.asym e]) xs
  exact this.imp fun h => by simpa using h
/-- two orderings of the same things are one -/
theorem sorted_uniq (O : Lo lt) (hp : xs.Perm ys) (h1 : xs.Pairwise fun a b => lt b a = false) (h2 : ys.Pairwise fun a b => lt b a = false) : xs = ys :=
  List.Perm.eq_of_pairwise (fun a b _ _ h k => O.tot a b k h) h1 h2 hp
theorem srt_of (O : Lo lt) (hp : xs.Perm ys) (h2 : ys.Pairwise fun a b => lt b a = false) : srtL lt xs = ys := sorted_uniq O (srt_perm.trans hp) (srt_sorted O) h2
theorem lo_I : Lo ltI := ⟨fun x => by simp [ltI], fun x y z h k => by simp [ltI] at *; omega, fun x y h k => by simp [ltI] at *; omega⟩
theorem sg_tot (x y : Sg) (h : ¬ x < y) (k : ¬ y < x) : x = y := List.le_antisymm k h
theorem lo_S : Lo ltS := ⟨fun x => by simp [ltS], fun x y z h k => by
  simp only [ltS, decide_eq_true_eq] at *; exact List.lt_trans h k, fun x y h k => by
  simp only [ltS, decide_eq_false_iff_not] at *; exact sg_tot x y h k⟩
theorem lo_P [DecidableEq α] {f : α → α → Bool} {g : β → β → Bool} (A : Lo f) (B : Lo g) : Lo (ltP f g) := by
  refine ⟨fun x => ?_, fun x y z h k => ?_, fun x y h k => ?_⟩
  · unfold ltP; rw [if_pos rfl]; exact B.irr _
  · unfold ltP at *
    by_cases e1 : x.1 = y.1
    · rw [if_pos e1] at h
      by_cases e2 : y.1 = z.1
      · rw [if_pos e2] at k; rw [if_pos (e1.trans e2)]; exact B.tr _ _ _ h k
      · rw [if_neg e2] at k; rw [if_neg (by rw [e1]; exact e2), e1]; exact k
    · rw [if_neg e1] at h
      by_cases e2 : y.1 = z.1
      · rw [if_neg (by rw [← e2]; exact e1), ← e2]; exact h
      · rw [if_neg e2] at k
        have := A.tr _ _ _ h k
        by_cases e3 : x.1 = z.1
        · rw [e3, A.irr] at this; cases this
        · rw [if_neg e3]; exact this
  · unfold ltP at h k
    by_cases e1 : x.1 = y.1
    · rw [if_pos e1] at h; rw [if_pos e1.symm] at k
      exact Prod.ext e1 (B.tot _ _ h k)
    · rw [if_neg e1] at h; rw [if_neg (Ne.symm e1)] at k
      exact absurd (A.tot _ _ h k) e1
end
end U
set_option Elab.async false
set_option linter.all false
set_option maxRecDepth 100000
set_option maxHeartbeats 4000000
namespace U
open PySem PySem.Spec L2 PyProof.Rows
/-! ### sets that are built of a list and sorted at once: kinds of elements -/
abbrev nset (w : World) : Obj := { cls := .type "set", dict := none, data := .set #[] 0 (.fresh 0 0 (!w.params.followText "set-order")) }
/-- a kind of element: what a value has to be, its hash; what is known of a set of such (rows: key and value, in the set's own order) -/
structure Ekd (P : Program) (w : World) where
  κ : Type
  dec : DecidableEq κ
  is : Heap → κ → Value → Prop
  hash : κ → Int
  dat : κ → PyData
  most : Nat
  bound : most < 4000
  ok : Heap → Addr → List (κ × Value) → Array (Int × Value) → Nat → SetTable → Prop
  ob : ∀ {h : Heap} {a : Addr} {L : List (κ × Value)} {es : Array (Int × Value)} {ep : Nat} {t : SetTable}, ok h a L es ep t → ∃ o, h.get? a = some o ∧ o.ExactSet ∧ o.data = .set es ep t
  row : ∀ {h : Heap} {a : Addr} {L : List (κ × Value)} {es : Array (Int × Value)} {ep : Nat} {t : SetTable}, ok h a L es ep t → es.toList.map Prod.snd = L.map Prod.snd
  nd : ∀ {h : Heap} {a : Addr} {L : List (κ × Value)} {es : Array (Int × Value)} {ep : Nat} {t : SetTable}, ok h a L es ep t → (L.map Prod.fst).Nodup
  el : ∀ {h : Heap} {a : Addr} {L : List (κ × Value)} {es : Array (Int × Value)} {ep : Nat} {t : SetTable}, ok h a L es ep t → ∀ p ∈ L, is h p.1 p.2
  fits : ∀ {h : Heap} {a : Addr} {L : List (κ × Value)} {es : Array (Int × Value)} {ep : Nat} {t : SetTable}, ok h a L es ep t → t.fits es.size = true
  ris : ∀ {h : Heap} {a : Addr} {L : List (κ × Value)} {es : Array (Int × Value)} {ep : Nat} {t : SetTable}, ok h a L es ep t → Ris t.place.toList
  led : ∀ {h : Heap} {a : Addr} {L : List (κ × Value)} {es : Array (Int × Value)} {ep : Nat} {t : SetTable}, ok h a L es ep t → (w.params.followText "set-order" = true ∨ t.led = true)
  few : ∀ {h : Heap} {a : Addr} {L : List (κ × Value)} {es : Array (Int × Value)} {ep : Nat} {t : SetTable}, ok h a L es ep t → L.length ≤ most
  hold : ∀ {h h' : Heap} {a : Addr} {L : List (κ × Value)} {es : Array (Int × Value)} {ep : Nat} {t : SetTable}, ok h a L es ep t → (∀ o, h.get? a = some o → h'.get? a = some o) → (∀ p ∈ L, is h' p.1 p.2) → ok h' a L es ep t
  keep : ∀ {h h' : Heap} {k : κ} {v : Value}, is h k v → (∀ c o, h.get? c = some o → h'.get? c = some o) → is h' k v
  reads : ∀ {h : Heap} {k : κ} {v : Value}, is h k v → Reads h v (dat k) []
  fresh : ∀ {h : Heap} {a : Addr}, h.get? a = some (nset w) → ok h a [] #[] 0 (.fresh 0 0 (!w.params.followText "set-order"))
  hashed : ∀ {A : Around} {E : Value → Shared → Prop} {s : Shared} {k : κ} {v : Value} {Q : Int → Shared → Prop}, A.units < cLine → is s.heap k v → (∀ tk, s.toks ≤ tk → Q (hash k) { s with toks := tk }) → wpAny (model P w) A (pyHash v) Q E s
  add : ∀ {A : Around} {E : Value → Shared → Prop} {s : Shared} {a : Addr} {L : List (κ × Value)} {es : Array (Int × Value)} {ep : Nat} {t : SetTable} {k : κ} {v : Value} {Q : Bool → Shared → Prop}, A.units < cLine → ok s.heap a L es ep t → is s.heap k v → L.length < most →
    (∀ b h' L' es' ep' t', Heap.SameBut a s.heap h' → ok h' a L' es' ep' t' → (k ∈ L.map Prod.fst → L' = L) → (k ∉ L.map Prod.fst → L'.Perm ((k, v) :: L)) → Q b { s with heap := h' }) → wpAny (model P w) A (setAddHashed a v (hash k)) Q E s
theorem perm_lift {α β : Type} (f : α → β) {xs ys : List β} (h : xs.Perm ys) : ∀ M : List α, ys = M.map f → ∃ M1 : List α, xs = M1.map f ∧ M1.Perm M := by
  induction h with
  | nil => intro M e; exact ⟨M, e, .refl _⟩
  | cons x _ ih =>
    intro M e
    cases M with
    | nil => cases e
    | cons p M =>
      obtain ⟨M1, e1, h1⟩ := ih M (List.cons.inj e).2
      exact ⟨p :: M1, by rw [List.map_cons, ← e1, (List.cons.inj e).1], h1.cons p⟩
  | swap x y l =>
    intro M e
    match M, e with
    | p :: p2 :: M, e =>
      have a1 := (List.cons.inj e).1
      have a2 := (List.cons.inj (List.cons.inj e).2).1
      have a3 := (List.cons.inj (List.cons.inj e).2).2
      exact ⟨p2 :: p :: M, by rw [List.map_cons, List.map_cons, ← a1, ← a2, ← a3], .swap p p2 M⟩
  | trans _ _ ih1 ih2 =>
    intro M e
    obtain ⟨M2, b1, b2⟩ := ih2 M e
    obtain ⟨M3, c1, c2⟩ := ih1 M2 b1
    exact ⟨M3, c1, c2.trans b2⟩
section
variable {P : Program} {w : World} {D : Ekd P w} {A : Around} {E : Value → Shared → Prop} {s : Shared}
/-- the rows that came of the first i items -/
structure GotE (D : Ekd P w) (ks : List (D.κ × Value)) (i : Nat) (L : List (D.κ × Value)) : Prop where
  sub : ∀ p ∈ L, p ∈ ks.take i
  all : ∀ p ∈ ks.take i, p.1 ∈ L.map Prod.fst
  len : L.length ≤ i
theorem gotE_none (ks : List (D.κ × Value)) : GotE D ks 0 [] := ⟨nofun, fun p hp => by simp at hp, Nat.zero_le _⟩
theorem gotE_next {ks L L' : List (D.κ × Value)} {i : Nat} {x : D.κ × Value} (g : GotE D ks i L) (hx : ks[i]? = some x) (c1 : x.1 ∈ L.map Prod.fst → L' = L) (c2 : x.1 ∉ L.map Prod.fst → L'.Perm (x :: L)) : GotE D ks (i + 1) L' := by
  have et : ks.take (i + 1) = ks.take i ++ [x] := by rw [List.take_succ, hx]; rfl
  by_cases hm : x.1 ∈ L.map Prod.fst
  · have e := c1 hm
    subst e
    refine ⟨fun p hp => by rw [et]; exact List.mem_append_left _ (g.sub p hp), fun p hp => ?_, Nat.le_succ_of_le g.len⟩
    rw [et] at hp
    rcases List.mem_append.mp hp with z | z
    · exact g.all p z
    · rw [List.mem_singleton] at z; subst z; exact hm
  · have pm := c2 hm
    refine ⟨fun p hp => ?_, fun p hp => ?_, by rw [pm.length_eq]; exact Nat.succ_le_succ g.len⟩
    · rw [et]
      rcases List.mem_cons.mp (pm.mem_iff.mp hp) with z | z
      · subst z; simp
      · exact List.mem_append_left _ (g.sub p z)
    · refine (pm.map Prod.fst).mem_iff.mpr ?_
      rw [et] at hp
      rw [List.map_cons]
      rcases List.mem_append.mp hp with z | z
      · exact List.mem_cons_of_mem _ (g.all p z)
      · rw [List.mem_singleton] at z; subst z; exact List.mem_cons_self
/-- the loop that takes the items in -/
theorem set_loop {I : Addr} {fp wr : List Addr} {G : Array GenState → Array GenState → Prop} {n : Nat} {Pv : Nat → Value → Prop} {St : Nat → Shared → Prop} {R : Result → Shared → Prop}
    (W : WalksS P w A.in1 I fp wr G n Pv St) (Z : Addr) (hZ : Z ∉ fp) (ks : List (D.κ × Value)) (en : n = ks.length) (few : ks.length ≤ D.most) (vals : ∀ i v, Pv i v → ∃ p, ks[i]? = some p ∧ v = p.2)
    (g0 : Heap) (hk : ∀ p ∈ ks, D.is g0 p.1 p.2) (hZ0 : g0.get? Z = none) (hw0 : ∀ b ∈ wr, g0.get? b = none) (hu : A.in1.units < cLine) :
    ∀ (m i : Nat) (s : Shared), n - i = m → i ≤ n → St i s → (∀ b o, g0.get? b = some o → s.heap.get? b = some o) → (∃ L es ep t, D.ok s.heap Z L es ep t ∧ GotE D ks i L) →
      (∀ s' L es ep t, Moved (Z :: wr) G s s' → D.ok s'.heap Z L es ep t → GotE D ks n L → (∀ b o, g0.get? b = some o → s'.heap.get? b = some o) → R (.ok (.ret .none)) s') →
      codeAny (model P w) A (.builtin "set.update.loop" ⟨[.ref Z, .ref I], []⟩) R s := by
  have nZ : Z ∉ wr := fun z => hZ (W.sub _ z)
  have up : ∀ b ∈ wr, b ∈ Z :: wr := fun b => List.mem_cons_of_mem _
  have old : ∀ {u v : Shared}, Moved wr G u v → (∀ b o, g0.get? b = some o → u.heap.get? b = some o) → ∀ b o, g0.get? b = some o → v.heap.get? b = some o := fun mv k b o e =>
    mv.heap b o (fun z => by rw [hw0 b z] at e; cases e) (k b o e)
  have here : ∀ {L : List (D.κ × Value)} {i : Nat}, GotE D ks i L → ∀ p ∈ L, p ∈ ks := fun g p hp => List.mem_of_mem_take (g.sub p hp)
  intro m
  induction m with
  | zero =>
    rintro i s em hi st kp ⟨L, es, ep, t, ok, g⟩ hR
    obtain rfl : i = n := by omega
    refine codeAny_builtin F.entry_set_update_loop ?_
    rw [Around.under_plainId F.plain_set_update_loop _]
    show wpAny _ A.in1 (_ >>= _) _ _ s
    refine wpAny_bind (W.done s _ _ st fun s1 mv => ?_)
    have kp1 := old mv kp
    show wpAny _ _ (ret .none) _ _ s1
    exact wpAny_pure (hR s1 L es ep t (mv.mono up) (D.hold ok (fun o => mv.heap Z o nZ) fun p hp => D.keep (hk p (here g p hp)) kp1) g kp1)
  | succ m ih =>
    rintro i s em hi st kp ⟨L, es, ep, t, ok, g⟩ hR
    have lt : i < n := by omega
    refine codeAny_builtin F.entry_set_update_loop ?_
    rw [Around.under_plainId F.plain_set_update_loop _]
    show wpAny _ A.in1 (_ >>= _) _ _ s
    refine wpAny_bind (W.item i s _ _ lt st fun v s1 hv st1 mv => ?_)
    obtain ⟨⟨k, u⟩, hp, ev⟩ := vals i v hv
    have eu : u = v := ev.symm
    subst eu
    have kp1 := old mv kp
    have ok1 := D.hold ok (fun o => mv.heap Z o nZ) fun p hp => D.keep (hk p (here g p hp)) kp1
    have x1 : D.is s1.heap k u := D.keep (hk _ (List.mem_of_getElem? hp)) kp1
    show wpAny _ _ (holding [u] (setAdd Z u) >>= _) _ _ s1
    refine wpAny_bind (wpAny_holding ?_)
    unfold setAdd
    refine wpAny_holding (wpAny_bind (D.hashed hu x1 fun tk ht => ?_))
    refine D.add (s := { s1 with toks := tk }) hu ok1 x1 (by have := g.len; omega) fun b g2 L2 es2 ep2 t2 sb ok2 c1 c2 => ?_
    have got := gotE_next g hp c1 c2
    have kp2 : ∀ b o, g0.get? b = some o → g2.get? b = some o := fun b o e => by
      rw [sb.2 b fun z => by rw [z, hZ0] at e; cases e]; exact kp1 b o e
    have oth : ∀ b, b ≠ Z → g2.get? b = s1.heap.get? b := fun b hb => sb.2 b hb
    refine wpAny_pure ⟨plainId_quiet F.plain_set_update_loop _, ih (i + 1) _ (by omega) lt (W.frame _ s1 _ _ st1 ht fun b hb o e => ?_) kp2 ⟨L2, es2, ep2, t2, ok2, got⟩ fun s3 L3 es3 ep3 t3 mv3 ok3 got3 kp3 => ?_⟩
    · rw [oth b fun z => hZ (z ▸ hb)]; exact e
    · refine hR s3 L3 es3 ep3 t3 (Moved.trans W.gtrans ((mv.mono up).then_heap ht fun b o hb e => ?_) mv3) ok3 got3 kp3
      rw [oth b fun z => hb (z ▸ List.mem_cons_self)]; exact e
set_option maxHeartbeats 8000000 in
/-- set(xs), xs a list -/
theorem set_made {l : Addr} {items : Array Value} (ks : List (D.κ × Value)) {Q : Value → Shared → Prop} (hh : A.handled = none) (il : s.heap.IsList l items) (ei : items.toList = ks.map Prod.snd)
    (hk : ∀ p ∈ ks, D.is s.heap p.1 p.2) (few : ks.length ≤ D.most) (hu : A.units + 3 < cLine)
    (q : ∀ (g : Heap) (tk : Nat) L es ep t, D.ok g s.heap.objs.size L es ep t → GotE D ks ks.length L → (∀ b o, s.heap.get? b = some o → g.get? b = some o) → Q (.ref s.heap.objs.size) { s with heap := g, toks := tk }) :
    wpAny (model P w) A (call (.type "set") [.ref l]) Q E s := by
  have sz : items.size = ks.length := by
    rw [← Array.length_toList, ei, List.length_map]
  obtain ⟨c, tl, hmro⟩ := F.called_set.mro
  have hmade := F.called_set.made
  have hsub := F.called_set.sub
  refine wpAny_call (codeAny_of_tree ?_)
  show wpAny _ _ (callAny (.type "set") _) _ _ _
  refine wpAny_pure ⟨Code.quiet_builtin _ (by decide +kernel), codeAny_builtin F.entry_type_call ?_⟩
  rw [Around.under_plain (weight_type_call_type "set" [.ref l] []) rfl]
  have h1 := F.called_set.notType
  have h2 := F.called_set.canCreate
  have hct := F.typeCall_set_1 (.ref l)
  repeat (any_goals (first | assumption | wp_step))
  refine codeAny_mono (code_set_led1 (.ref l) (E := E) (Q₁ := fun v s₁ => v = .ref s.heap.objs.size ∧ s₁ = { s with heap := s.heap.push (nset w) }) ⟨rfl, rfl⟩) fun r s₁ hr => ?_
  match r, hr with
  | .error e, hr => exact hr
  | .ok (.ret v), ⟨ev, es1⟩ =>
    subst ev es1
    have gZ : (s.heap.push (nset w)).get? s.heap.objs.size = some (nset w) := Heap.get?_push_size _ rfl
    have tZ : Shared.TypeIs { s with heap := s.heap.push (nset w) } (.ref s.heap.objs.size) "set" := ⟨_, gZ, rfl⟩
    have hli := F.called_set.init.lookup
    have hbi := F.called_set.init.bind (.ref s.heap.objs.size)
    repeat (any_goals (first | assumption | wp_step))
    refine codeAny_mono (codeAny_call_builtin (R := wants (fun r u => r = .none ∧ ∃ g tk L es ep t, u = { s with heap := g, toks := tk } ∧ D.ok g s.heap.objs.size L es ep t ∧ GotE D ks ks.length L ∧ (∀ b o, s.heap.get? b = some o → g.get? b = some o)) E)
      F.called_set.init.plain F.entry_set_init (check_set_init_1 tZ ?_)) fun r2 s2 hr2 => ?_
    · obtain ⟨ol, gl, cl, nl, dl⟩ := il
      obtain ⟨ocls, odict, odata, oslots⟩ := ol
      simp only at cl dl
      subst cl dl
      have gl1 : (s.heap.push (nset w)).get? l = some { cls := .type "list", dict := odict, data := .seq items nl, slots := oslots } := Heap.get?_push_of_some _ gl
      have nls := F.sub_list_set
      have nlf := F.sub_list_frozenset
      have nld : (Value.type "list" == Value.type "dict") = false := by decide
      have il1 : (s.heap.push (nset w)).IsList l items := ⟨_, gl1, rfl, nl, rfl⟩
      unfold Builtin.«set.__init__» noKeywords Builtin.Frozenset.updateFrom
      generalize hPI : pyIter = PI
      wp_walk
      subst hPI
      refine wpAny_pyIter_list il1 ?_
      refine wpAny_bind (wpAny_runValue ?_)
      have ll : l < s.heap.objs.size := Heap.lt_size gl
      have hh3 : A.in1.in1.in1.handled = none := hh
      have z1 : (s.heap.push (nset w)).objs.size = s.heap.objs.size + 1 := Heap.size_push ..
      have nI : l ≠ (s.heap.push (nset w)).objs.size := by rw [z1]; exact Nat.ne_of_lt (Nat.lt_succ_of_lt ll)
      have nf : s.heap.objs.size ∉ [(s.heap.push (nset w)).objs.size, l] := by
        rw [z1]
        intro z
        simp only [List.mem_cons, List.not_mem_nil, or_false] at z
        exact z.elim (Nat.ne_of_lt (Nat.lt_succ_self _)) (Nat.ne_of_gt ll)
      have vals : ∀ (i : Nat) (v : Value), items[i]? = some v → ∃ p, ks[i]? = some p ∧ v = p.2 := fun i v hv => by
        rw [← Array.getElem?_toList, ei, List.getElem?_map] at hv
        cases e : ks[i]? with
        | none => rw [e] at hv; cases hv
        | some p => rw [e] at hv; exact ⟨p, rfl, (Option.some.inj hv).symm⟩
      have gone : ∀ b, s.heap.objs.size ≤ b → s.heap.get? b = none := fun b hb => by
        cases e : s.heap.get? b with
        | none => rfl
        | some o => exact absurd (Nat.lt_of_lt_of_le (Heap.lt_size e) hb) (Nat.lt_irrefl _)
      refine set_loop (D := D) ((Walks.list hh3 _ l nI items).toS) s.heap.objs.size nf ks sz few vals s.heap hk (gone _ (Nat.le_refl _))
        (fun b hb => gone b (by rw [List.mem_singleton.mp hb, z1]; omega)) hu (items.size - 0) 0 _ (by omega) (Nat.zero_le _) ⟨⟨_, Heap.get?_push_size _ rfl, rfl, rfl⟩, (il1.push _)⟩
        (fun b o e => Heap.get?_push_of_some _ (Heap.get?_push_of_some _ e)) ⟨[], #[], 0, _, D.fresh (Heap.get?_push_of_some _ gZ), gotE_none ks⟩ ?_
      rintro ⟨g, gs, dr, tk, os⟩ L es ep t mv ok got kp
      have e1 : gs = s.gens := mv.gens
      have e2 : dr = s.drawn := mv.drawn
      have e3 : os = s.os := mv.os
      subst e1 e2 e3
      show wpAny _ _ _ _ _ _
      refine wpAny_pure ?_
      show wpAny _ _ (ret .none) _ _ _
      rw [sz] at got
      exact wpAny_pure ⟨rfl, g, tk, L, es, ep, t, rfl, ok, got, kp⟩
    · match r2, hr2 with
      | .error e, hr2 => exact hr2
      | .ok (.ret v2), ⟨e0, g, tk, L, es, ep, t, e1, ok, got, kp⟩ =>
        subst e0 e1
        repeat (any_goals (first | assumption | wp_step))
        exact q _ _ _ _ _ _ ok got kp
/-- sorted(S), S such a set -/
theorem set_sorted {a : Addr} {L : List (D.κ × Value)} {es : Array (Int × Value)} {ep : Nat} {t : SetTable} {Q : Value → Shared → Prop} (ok : D.ok s.heap a L es ep t) (hh : A.handled = none)
    (al : W.AllAlike (L.map fun p => D.dat p.1)) (so : W.Sortable (L.map fun p => D.dat p.1)) (dp : ∀ p ∈ L, (D.dat p.1).depth ≤ 60) (hu : A.units + 100 < cLine)
    (q : ∀ (s1 : Shared) (p : Addr) (out : List Value) (c : Nat) (L2 : List (D.κ × Value)), (∀ b o, s.heap.get? b = some o → s1.heap.get? b = some o) → s1.gens = s.gens → s1.os = s.os → s.heap.objs.size ≤ p → s1.heap.get? p = some (seqObj "list" out.toArray c) → out = L2.map Prod.snd → L2.Perm L →
      L2.Pairwise (fun x y => W.dataLt (D.dat y.1) (D.dat x.1) = false) → Q (.ref p) s1) : wpAny (model P w) A (call (.builtin "sorted") [.ref a]) Q E s := by
  obtain ⟨o, go, ex, da⟩ := D.ob ok
  have few := D.few ok
  have bd := D.bound
  have rw1 := D.row ok
  have esz : es.size = L.length := by
    have := congrArg List.length rw1
    rw [List.length_map, List.length_map, Array.length_toList] at this
    exact this
  refine Calls.call_function_entry kind_sorted plain_sorted entry_sorted (args_sorted1 _) ?_
  unfold Builtin.«sorted»
  refine wpAny_bind (m := checkCount "sorted" 1 1 _) (wpAny_pure ?_)
  refine wpAny_bind (collect_set (A := A.in1) hh ⟨o, go, ex.1, da⟩ (D.fits ok) (by unfold scanBound; omega) (D.ris ok) (D.led ok) fun s1 vs k1 z1 g1 o1 pm => ?_)
  rw [rw1] at pm
  -- the values, with their keys
  obtain ⟨L1, e1, p1⟩ := perm_lift Prod.snd pm L rfl
  subst e1
  have ln : (L1.map Prod.snd).length ≤ sizeLine := by rw [List.length_map, p1.length_eq, sizeLine_eq]; omega
  refine wpAny_bind (wpAny_newList ?_ ln)
  have gL : (s1.heap.push (seqObj "list" (L1.map Prod.snd).toArray 0)).get? s1.heap.objs.size = some (seqObj "list" (L1.map Prod.snd).toArray 0) := Heap.get?_push_size _ rfl
  have pmd : (L1.map fun p => D.dat p.1).Perm (L.map fun p => D.dat p.1) := p1.map _
  have each : ∀ M : List (D.κ × Value), (∀ p ∈ M, p ∈ L) → W.EachIs (fun v (b : D.κ × Value) => (v = b.2) ∧ ∃ as, Reads (s1.heap.push (seqObj "list" (L1.map Prod.snd).toArray 0)) v (D.dat b.1) as ∧ s1.heap.objs.size ∉ as) (M.map Prod.snd) M := by
    intro M
    induction M with
    | nil => intro _; exact .nil
    | cons p M ih =>
      intro hM
      refine .cons ⟨rfl, ?_⟩ (ih fun r hr => hM r (List.mem_cons_of_mem _ hr))
      have i0 := D.keep (D.el ok p (hM p List.mem_cons_self)) k1
      exact ⟨[], Reads.keeps (fun b u e => Heap.get?_push_of_some _ e) (D.reads i0), nofun⟩
  have ea := each L1 fun p hp => p1.mem_iff.mp hp
  refine wpAny_bind (wpAny_holding (W.list_sort_data (s := { s1 with heap := s1.heap.push (seqObj "list" (L1.map Prod.snd).toArray 0) }) (R := fun v (b : D.κ × Value) => v = b.2) (enc := fun b : D.κ × Value => D.dat b.1) (bs := L1) (vs := L1.map Prod.snd) gL (ea.mono fun _ _ z => z.1) (ea.mono fun _ _ z => z.2)
    (fun d hd e he => al d (pmd.mem_iff.mp hd) e (pmd.mem_iff.mp he)) (so.imp (fun f d hd => f d (pmd.mem_iff.mp hd)) fun f d hd => f d (pmd.mem_iff.mp hd)) (by rw [List.length_map] at ln; exact ln) (fun b hb => ?_) fun out lo eo => ?_))
  · have := dp b (p1.mem_iff.mp hb)
    show A.units + 1 + 1 + (D.dat b.1).depth < cLine
    omega
  · obtain ⟨c, gc⟩ := sortedHeap_at (vs := L1.map Prod.snd) (out := out.toArray) gL
    have eo2 : out = (L1.mergeSort (W.dataLe false fun b : D.κ × Value => D.dat b.1)).map Prod.snd := by
      have key : ∀ {us : List Value} {M : List (D.κ × Value)}, W.EachIs (fun v (b : D.κ × Value) => v = b.2) us M → us = M.map Prod.snd := by
        intro us M h
        induction h with
        | nil => rfl
        | cons r _ ih => rw [List.map_cons, r, ih]
      exact key eo
    refine wpAny_pure ⟨_, rfl, q _ s1.heap.objs.size out c _ (fun b u e => ?_) g1 o1 z1 gc eo2 ((List.mergeSort_perm _ _).trans p1) ?_⟩
    · have e2 := k1 b u e
      have lt := Heap.lt_size e2
      show (sortedHeap _ _ _ _).get? b = some u
      rw [sortedHeap_old (Nat.ne_of_lt lt) (by rw [size_push']; exact Nat.lt_succ_of_lt lt)]
      exact Heap.get?_push_of_some _ e2
    · have := List.pairwise_mergeSort (le := W.dataLe false fun b : D.κ × Value => D.dat b.1) (fun a b c => (W.sortLe_total _ _ _).trans a b c) (fun a b => (Bool.or_eq_true _ _).mpr ((W.sortLe_total _ _ _).total a b)) L1
      exact this.imp fun h => by simpa [W.dataLe_eq] using h
end
/-! ### ints and texts -/
def datK : Key → PyData
  | .inl i => .int i
  | .inr x => .str x
def rowK (w : World) (p : Key × Value) : Int × Value := (keyH w p.1, p.2)
structure SetKy (P : Program) (w : World) (h : Heap) (a : Addr) (L : List (Key × Value)) (es : Array (Int × Value)) (ep : Nat) (t : SetTable) : Prop where
  ob : ∃ o, h.get? a = some o ∧ o.ExactSet ∧ o.data = .set es ep t
  rw0 : es.toList = L.map (rowK w)
  nd : (L.map Prod.fst).Nodup
  el : ∀ p ∈ L, (mixKind P w).is p.1 p.2 = true
  ft : t.fits es.size = true
  rs : Ris t.place.toList
  ld : w.params.followText "set-order" = true ∨ t.led = true
  fw : L.length ≤ 3999
section
variable {P : Program} {w : World} {A : Around} {E : Value → Shared → Prop} {s : Shared} {a : Addr} {L : List (Key × Value)} {es : Array (Int × Value)} {ep : Nat} {t : SetTable}
theorem scan_ok {k : Key} {v : Value} (h : (mixKind P w).is k v = true) : v.scannable = true := by
  rcases keyIs_shape h with ⟨i, u, rfl, rfl⟩ | ⟨x, u, rfl, rfl⟩ <;> rfl
theorem elems_ok (el : ∀ p ∈ L, (mixKind P w).is p.1 p.2 = true) : ElemsOf (mixKind P w) (L.map (rowK w)) := fun e he => by
  obtain ⟨p, hp, rfl⟩ := List.mem_map.mp he
  exact ⟨⟨p.1, el p hp, rfl⟩, scan_ok (el p hp)⟩
/-- the state's writing, and the table laid anew where it is full -/
theorem scan_tail {g : Bool → Sem Unit} (hg : ∀ (b : Bool) (u : Shared) (Q : Unit → Shared → Prop), Q () u → wpAny (model P w) A (g b) Q E u) {o : Obj} (go : s.heap.get? a = some o) (ex : o.ExactSet) (da : o.data = .set es ep t)
    {L1 : List (Key × Value)} {es1 : Array (Int × Value)} {t1 : SetTable} (r1 : es1.toList = L1.map (rowK w)) (n1 : (L1.map Prod.fst).Nodup) (l1 : ∀ p ∈ L1, (mixKind P w).is p.1 p.2 = true) (f1 : t1.fits es1.size = true) (s1 : Ris t1.place.toList) (d1 : w.params.followText "set-order" = true ∨ t1.led = true) (w1 : L1.length ≤ 3999)
    {dummy : Bool} {R : Option Bool → Shared → Prop} (q : ∀ h' L' es' ep' t', Heap.SameBut a s.heap h' → SetKy P w h' a L' es' ep' t' → L'.Perm L1 → R (some true) { s with heap := h' }) :
    wpAny (model P w) A (do
      storeSet a es1 t1
      if (!dummy && t1.tooFull) = true then do
        g (relayAll t1 es1 (SetTable.grown es1.size)).2.2
        storeSet a (relayAll t1 es1 (SetTable.grown es1.size)).1 (relayAll t1 es1 (SetTable.grown es1.size)).2.1
        pure (some true)
      else pure (some true)) R E s := by
  have z1 : es1.size = L1.length := by rw [← Array.length_toList, r1, List.length_map]
  refine wpAny_bind (wpAny_storeSet_of go da ?_ (by rw [z1, sizeLine_eq]; omega))
  have go1 := store_at (es' := es1) (t' := t1) go da
  have sb1 := Heap.SameBut.update s.heap a (Obj.putSet es1 t1)
  split
  · have b1 := relayAll_perm t1 es1 (SetTable.grown es1.size)
    have b2 := relayAll_fits t1 es1 (SetTable.grown es1.size)
    have b3 := relayAll_ris t1 es1 (SetTable.grown es1.size)
    have b4 := relayAll_led t1 es1 (SetTable.grown es1.size)
    generalize relayAll t1 es1 (SetTable.grown es1.size) = Z at b1 b2 b3 b4 ⊢
    obtain ⟨es2, t2, gave⟩ := Z
    dsimp only at b1 b2 b3 b4 ⊢
    rw [r1] at b1
    obtain ⟨L2, c1, c2⟩ := perm_lift _ b1 L1 rfl
    have z2 : es2.size = L2.length := by rw [← Array.length_toList, c1, List.length_map]
    have w2 : L2.length ≤ 3999 := by rw [c2.length_eq]; exact w1
    refine wpAny_bind (hg _ _ _ ?_)
    refine wpAny_bind (wpAny_storeSet_of go1 rfl ?_ (by rw [z2, sizeLine_eq]; omega))
    exact wpAny_pure (q _ L2 es2 _ t2 (sb1.trans (Heap.SameBut.update _ a _)) ⟨⟨_, store_at (es' := es2) (t' := t2) go1 rfl, ex, rfl⟩, c1, (c2.map _).nodup_iff.mpr n1, fun p hp => l1 p (c2.mem_iff.mp hp), b2, b3, d1.imp id fun z => by rw [b4]; exact z, w2⟩ c2)
  · exact wpAny_pure (q _ L1 es1 _ t1 sb1 ⟨⟨_, go1, ex, rfl⟩, r1, n1, l1, f1, s1, d1, w1⟩ (.refl _))
theorem scan_add {k : Key} {v : Value} {Q : Bool → Shared → Prop} (S : SetKy P w s.heap a L es ep t) (hv : (mixKind P w).is k v = true) (lt : L.length < 3999)
    (q : ∀ b h' L' es' ep' t', Heap.SameBut a s.heap h' → SetKy P w h' a L' es' ep' t' → (k ∈ L.map Prod.fst → L' = L) → (k ∉ L.map Prod.fst → L'.Perm ((k, v) :: L)) → Q b { s with heap := h' }) :
    wpAny (model P w) A (setAddHashed a v ((mixKind P w).hash k)) Q E s := by
  obtain ⟨o, go, ex, da⟩ := S.ob
  have ee : ElemsOf (mixKind P w) es.toList := by rw [S.rw0]; exact elems_ok S.el
  have zz : es.size = L.length := by rw [← Array.length_toList, S.rw0, List.length_map]
  have sc := scan_ok hv
  have isIn : ∀ e ∈ es.toList, (mixKind P w).is k e.2 = true → k ∈ L.map Prod.fst := fun e he hk => by
    rw [S.rw0] at he
    obtain ⟨p, hp, rfl⟩ := List.mem_map.mp he
    rw [(mixKind P w).inj _ _ _ hk (S.el p hp)]
    exact List.mem_map.mpr ⟨p, hp, rfl⟩
  unfold setAddHashed setAddHashedIn
  refine wpAny_holding (wpAny_bind (wpAny_setState_of go da S.ft ?_))
  dsimp only
  rw [byScan_of sc (by unfold scanBound; omega) ee]
  simp only [↓reduceIte]
  unfold setAddByScan
  refine wpAny_bind (wpAny_bind (wpAny_rule (wpAny_bind (wpAny_setScan_of hv go da S.ft ee ?_))))
  cases hf : List.findIdx? (fun e => (mixKind P w).is k e.2) es.toList with
  | some j =>
    dsimp only
    obtain ⟨hj, pj, _⟩ := List.findIdx?_eq_some_iff_getElem.mp hf
    have hm := isIn _ (List.getElem_mem hj) pj
    exact wpAny_pure (wpAny_pure (q false s.heap L es ep t (Heap.SameBut.refl a s.heap) S (fun _ => rfl) fun z => absurd hm z))
  | none =>
    dsimp only
    have hm : k ∉ L.map Prod.fst := fun z => by
      obtain ⟨p, hp, e⟩ := List.mem_map.mp z
      have c := List.findIdx?_eq_none_iff.mp hf (rowK w p) (by rw [S.rw0]; exact List.mem_map.mpr ⟨p, hp, rfl⟩)
      have := S.el p hp
      rw [e] at this
      simp only [rowK] at c
      rw [this] at c
      cases c
    have gv : ∀ (b : Bool) (u : Shared) (Q' : Unit → Shared → Prop), Q' () u → wpAny (model P w) A (match b with | true => rule "set.scan.the-table-gave-way" | false => pure ()) Q' E u := fun b u Q' z => by
      cases b
      · exact wpAny_pure z
      · exact wpAny_rule z
    have b1 := layNew_perm t es ((mixKind P w).hash k) v
    have b2 := layNew_fits t es ((mixKind P w).hash k) v
    have b3 := layNew_ris t es ((mixKind P w).hash k) v S.rs
    have b4 := layNew_led t es ((mixKind P w).hash k) v
    generalize layNew t es ((mixKind P w).hash k) v = Z at b1 b2 b3 b4 ⊢
    obtain ⟨es1, t1, dummy, gave⟩ := Z
    dsimp only at b1 b2 b3 b4 ⊢
    rw [Array.toList_push, S.rw0] at b1
    obtain ⟨L1, c1, c2⟩ := perm_lift (rowK w) b1 (L ++ [(k, v)]) (by rw [List.map_append]; rfl)
    have c3 : L1.Perm ((k, v) :: L) := c2.trans (List.perm_append_singleton _ _)
    have n1 : (L1.map Prod.fst).Nodup := (c3.map _).nodup_iff.mpr (List.nodup_cons.mpr ⟨hm, S.nd⟩)
    have l1 : ∀ p ∈ L1, (mixKind P w).is p.1 p.2 = true := fun p hp => by
      rcases List.mem_cons.mp (c3.mem_iff.mp hp) with z | z
      · subst z; exact hv
      · exact S.el p z
    have w1 : L1.length ≤ 3999 := by rw [c3.length_eq, List.length_cons]; omega
    have d1 : w.params.followText "set-order" = true ∨ t1.led = true := S.ld.imp id fun z => by rw [b4]; exact z
    have fin : ∀ h' L' es' ep' t', Heap.SameBut a s.heap h' → SetKy P w h' a L' es' ep' t' → L'.Perm L1 → Q true { s with heap := h' } := fun h' L' es' ep' t' sb S' pm => q true h' L' es' ep' t' sb S' (fun z => absurd z hm) fun _ => pm.trans c3
    refine wpAny_bind (gv _ _ _ ?_)
    split
    · refine wpAny_bind ?_
      rw [hashByValue_scannable 8 sc]
      refine wpAny_pure (scan_tail gv go ex da c1 n1 l1 ?_ ?_ ?_ w1 fun h' L' es' ep' t' sb S' pm => ?_)
      · split
        · exact b2
        · exact SetTable.fits_plain_off b2
      · split <;> exact b3
      · split <;> exact d1
      · dsimp only
        exact wpAny_pure (fin _ _ _ _ _ sb S' pm)
    · refine wpAny_bind (wpAny_pure ?_)
      simp only [↓reduceIte]
      refine scan_tail gv go ex da c1 n1 l1 b2 b3 d1 w1 fun h' L' es' ep' t' sb S' pm => ?_
      dsimp only
      exact wpAny_pure (fin _ _ _ _ _ sb S' pm)
end
theorem key_reads {P : Program} {w : World} {h : Heap} {k : Key} {v : Value} (e : (mixKind P w).is k v = true) : Reads h v (datK k) [] := by
  rcases keyIs_shape e with ⟨i, u, rfl, rfl⟩ | ⟨x, u, rfl, rfl⟩
  · exact .int i u
  · exact .str x u
def ekKey (P : Program) (w : World) : Ekd P w where
  κ := Key
  dec := inferInstance
  is := fun _ k v => (mixKind P w).is k v = true
  hash := (mixKind P w).hash
  dat := datK
  most := 3999
  bound := by decide
  ok := SetKy P w
  ob := SetKy.ob
  row := fun S => by
    rw [S.rw0, List.map_map]; rfl
  nd := SetKy.nd
  el := SetKy.el
  fits := SetKy.ft
  ris := SetKy.rs
  led := SetKy.ld
  few := SetKy.fw
  hold := fun S k _ => by
    obtain ⟨o, go, r⟩ := S.ob
    exact ⟨⟨o, k o go, r⟩, S.rw0, S.nd, S.el, S.ft, S.rs, S.ld, S.fw⟩
  keep := fun e _ => e
  reads := key_reads
  fresh := fun g => ⟨⟨_, g, ⟨rfl, rfl, rfl⟩, rfl⟩, rfl, List.nodup_nil, nofun, rfl, List.Pairwise.nil, by
    show _ ∨ (!w.params.followText "set-order") = true
    cases w.params.followText "set-order"
    · exact .inr rfl
    · exact .inl rfl, Nat.zero_le _⟩
  hashed := fun _ e q => (mixKind P w).pyHash e (q _ (Nat.le_succ _))
  add := fun _ S e lt q => scan_add S e lt q
end U
set_option Elab.async false
set_option linter.all false
set_option maxRecDepth 100000
set_option maxHeartbeats 4000000
namespace U
open PySem PySem.Spec L2 PyProof.Rows
/-! ### tuples of ints and texts as elements -/
abbrev hT (P : Program) (w : World) (k : List Key) : Int := tupleKeyHash (mixKind P w) k
def IsTu (P : Program) (w : World) (h : Heap) (k : List Key) (v : Value) : Prop := ∃ b, v = .ref b ∧ IsTupleKey (mixKind P w) h k b
section
variable {P : Program} {w : World} {A : Around} {E : Value → Shared → Prop} {s : Shared} {k : List Key} {v : Value} {b : Addr}
theorem IsTu.keep {h h' : Heap} (x : IsTu P w h k v) (q : ∀ c o, h.get? c = some o → h'.get? c = some o) : IsTu P w h' k v := by
  obtain ⟨b, e, o, its, n, go, r⟩ := x
  exact ⟨b, e, o, its, n, q b o go, r⟩
theorem parts_ok {vs : List Value} (h : ItemsAre (mixKind P w) k vs) : ∀ v ∈ vs, (∃ i t, v = Value.int i t) ∨ ∃ x t, v = Value.str x t := by
  induction h with
  | nil => nofun
  | cons e _ ih =>
    intro v hv
    rcases List.mem_cons.mp hv with z | z
    · subst z
      rcases keyIs_shape e with ⟨i, u, _, rfl⟩ | ⟨x, u, _, rfl⟩
      · exact .inl ⟨i, u, rfl⟩
      · exact .inr ⟨x, u, rfl⟩
    · exact ih v z
/-- such a tuple is of no class of the program's own -/
theorem tu_class {Q : Bool → Shared → Prop} (x : IsTupleKey (mixKind P w) s.heap k b) (q : Q false s) : wpAny (model P w) A (ofAClassStatement 8 (.ref b)) Q E s := by
  have ty := x.typeIs
  obtain ⟨o, its, n, go, _, da, ia⟩ := x
  unfold ofAClassStatement
  refine wpAny_bind (wpAny_typeOf ty ?_)
  dsimp only
  have e1 : (("tuple" : String) == "tuple") = true := by decide
  simp only [e1, if_true, Bool.not_true, Bool.false_eq_true, if_false]
  try refine wpAny_bind (wpAny_pure ?_)
  try simp only [Bool.not_true, Bool.false_eq_true, if_false]
  show wpAny _ _ (seqItems? (.ref b) >>= _) _ _ s
  refine wpAny_bind (wpAny_seqItems go da ?_)
  dsimp only
  refine wpAny_bind ?_
  show wpAny _ _ (forIn its _ _) _ _ s
  rw [← Array.forIn_toList]
  refine wpAny_forIn_list _ (fun l r u => r.1 = none ∧ u = s ∧ ∀ y ∈ l, (∃ i t, y = Value.int i t) ∨ ∃ x t, y = Value.str x t) _ ?_ ?_ _ _ ⟨rfl, rfl, parts_ok ia⟩
  · rintro y l r u ⟨hr, rfl, all⟩
    have e2 : ofAClassStatement 7 y = pure false := by
      rcases all y List.mem_cons_self with ⟨i, t, rfl⟩ | ⟨z, t, rfl⟩ <;> rfl
    rw [e2]
    refine wpAny_bind (wpAny_pure ?_)
    simp only [Bool.false_eq_true, if_false]
    exact wpAny_pure ⟨rfl, rfl, fun c hc => all c (List.mem_cons_of_mem _ hc)⟩
  · rintro ⟨r1, r2⟩ u ⟨hr, rfl, _⟩
    simp only at hr
    subst hr
    exact wpAny_pure q
/-- whether its hash is one by value: either way -/
theorem tu_byval {Q : Bool → Shared → Prop} (x : IsTupleKey (mixKind P w) s.heap k b) (q : ∀ c, Q c s) : wpAny (model P w) A (hashByValue 8 (.ref b)) Q E s := by
  have ty := x.typeIs
  obtain ⟨o, its, n, go, _, da, ia⟩ := x
  unfold hashByValue
  refine wpAny_bind (wpAny_specialOf ty F.slot_tuple_hash.lookup ?_)
  show wpAny _ _ (seqItems? (.ref b) >>= _) _ _ s
  refine wpAny_bind (wpAny_seqItems go da ?_)
  refine wpAny_bind ?_
  show wpAny _ _ (forIn its _ _) _ _ s
  rw [← Array.forIn_toList]
  refine wpAny_forIn_list _ (fun l r u => u = s ∧ (∀ c, r.1 = some c → True) ∧ ∀ y ∈ l, (∃ i t, y = Value.int i t) ∨ ∃ x t, y = Value.str x t) _ ?_ ?_ _ _ ⟨rfl, fun _ _ => trivial, parts_ok ia⟩
  · rintro y l r u ⟨rfl, _, all⟩
    rcases all y List.mem_cons_self with ⟨i, t, rfl⟩ | ⟨z, t, rfl⟩
    · have e2 : hashByValue 7 (.int i t) = pure true := rfl
      rw [e2]
      refine wpAny_bind (wpAny_pure ?_)
      simp only [Bool.not_true, Bool.false_eq_true, if_false]
      exact wpAny_pure ⟨rfl, fun _ _ => trivial, fun c hc => all c (List.mem_cons_of_mem _ hc)⟩
    · have e2 : hashByValue 7 (.str z t) = pure false := rfl
      rw [e2]
      refine wpAny_bind (wpAny_pure ?_)
      simp only [Bool.not_false, if_true]
      exact wpAny_pure (wpAny_pure (q false))
  · rintro ⟨r1, r2⟩ u ⟨rfl, _, _⟩
    cases r1 with
    | none => exact wpAny_pure (q true)
    | some c => exact wpAny_pure (q c)
theorem tu_seen {Q : Bool → Shared → Prop} (x : IsTupleKey (mixKind P w) s.heap k b) {ys : List Value} (hy : ∀ y ∈ ys, ∃ k', IsTu P w s.heap k' y) (q : Q false s) : wpAny (model P w) A (searchCouldBeSeen (.ref b) ys) Q E s := by
  unfold searchCouldBeSeen
  refine wpAny_bind ?_
  refine wpAny_forIn_list _ (fun l r u => r.1 = none ∧ u = s ∧ ∀ y ∈ l, ∃ k', IsTu P w s.heap k' y) _ ?_ ?_ _ _ ⟨rfl, rfl, hy⟩
  · rintro y l r u ⟨hr, rfl, all⟩
    obtain ⟨k', c, rfl, hc⟩ := all y List.mem_cons_self
    have all' : ∀ y ∈ l, ∃ k', IsTu P w u.heap k' y := fun z hz => all z (List.mem_cons_of_mem _ hz)
    dsimp only
    by_cases hv : (b == c || (carriedByValue (.ref b) && carriedByValue (.ref c))) = true
    · exact wp_if_pos hv (wpAny_pure ⟨rfl, rfl, all'⟩)
    · refine wp_if_neg hv ?_
      refine wpAny_bind (wpAny_eqIsQuiet_tuple x ?_)
      simp only [Bool.not_true, Bool.false_eq_true, if_false]
      refine wpAny_bind (wpAny_eqIsQuiet_tuple hc ?_)
      simp only [Bool.not_true, Bool.false_eq_true, if_false]
      refine wpAny_bind (tu_class x ?_)
      simp only [Bool.false_eq_true, if_false]
      refine wpAny_bind (tu_class hc ?_)
      simp only [Bool.false_eq_true, if_false]
      exact wpAny_pure ⟨rfl, rfl, all'⟩
  · rintro ⟨r1, r2⟩ u ⟨hr, rfl, _⟩
    simp only at hr
    subst hr
    exact wpAny_pure q
end
def rowT (P : Program) (w : World) (p : List Key × Value) : Int × Value := (hT P w p.1, p.2)
structure SetTu (P : Program) (w : World) (h : Heap) (a : Addr) (L : List (List Key × Value)) (es : Array (Int × Value)) (ep : Nat) (t : SetTable) : Prop where
  ob : ∃ o, h.get? a = some o ∧ o.ExactSet ∧ o.data = .set es ep t
  rw0 : es.toList = L.map (rowT P w)
  tab : TabOk t (L.map fun p => hT P w p.1)
  nd : (L.map Prod.fst).Nodup
  el : ∀ p ∈ L, IsTu P w h p.1 p.2
  ld : w.params.followText "set-order" = true ∨ t.led = true
  rm : L.length * 5 < t.mask * 3
  fw : L.length ≤ 63
section
variable {P : Program} {w : World} {A : Around} {E : Value → Shared → Prop} {s : Shared} {a : Addr} {L : List (List Key × Value)} {es : Array (Int × Value)} {ep : Nat} {t : SetTable}
theorem rows_size {L : List (List Key × Value)} (e : es.toList = L.map (rowT P w)) : es.size = L.length := by rw [← Array.length_toList, e, List.length_map]
theorem tab_fits (tb : TabOk t (L.map fun p => hT P w p.1)) (e : es.toList = L.map (rowT P w)) (hm : L.length ≤ t.mask) : t.fits es.size = true := by
  have h1 := tb.sz
  rw [List.length_map] at h1
  unfold SetTable.fits SetTable.fill
  rw [tb.dm, Bool.and_eq_true, beq_iff_eq, decide_eq_true_eq, rows_size e]
  exact ⟨h1, by show t.place.size + 0 ≤ t.mask; omega⟩
theorem SetTu.ft (S : SetTu P w s.heap a L es ep t) : t.fits es.size = true := tab_fits S.tab S.rw0 (by have := S.rm; omega)
theorem SetTu.at' (S : SetTu P w s.heap a L es ep t) {i : Nat} {p : List Key × Value} (h : L[i]? = some p) : es[i]? = some (hT P w p.1, p.2) := by
  rw [← Array.getElem?_toList, S.rw0, List.getElem?_map, h]; rfl
abbrev st0 (t : SetTable) (h : Int) : SetTable.Probe := runAt t.mask (SetTable.bits h % (t.mask + 1)) (SetTable.bits h)
theorem nodummy (m : Nat) : ∀ (n : Nat) (p : SetTable.Probe), p.dummy = none → (nth m p n).dummy = none
  | 0, _, h => h
  | n + 1, p, h => nodummy m n (adv m p) (by unfold adv; split <;> exact h)
/-- the search goes on from the c-th step -/
theorem tu_from (S : SetTu P w s.heap a L es ep t) {b : Addr} {k : List Key} (x : IsTupleKey (mixKind P w) s.heap k b) (hu : A.units < cLine) {N : Nat} (hN : N < 10 * SetTable.turns t.mask) (nf : way t.mask (hT P w k) N ∉ t.place.toList)
    (nb : ∀ c, c < N → way t.mask (hT P w k) c ∈ t.place.toList) {Q : SetFound → Shared → Prop} (q1 : k ∈ L.map Prod.fst → Q (.there none) s) (q2 : k ∉ L.map Prod.fst → Q (.free (way t.mask (hT P w k) N) false) s) :
    ∀ (f c : Nat) (at0 : Option SetTable.Probe), at0.getD (t.probeStart (hT P w k)) = nth t.mask (st0 t (hT P w k)) c → c ≤ N → N - c < f →
      (∀ (i : Nat) p, L[i]? = some p → p.1 = k → ∃ d, c ≤ d ∧ d < N ∧ t.place.toList[i]? = some (way t.mask (hT P w k) d)) → wpAny (model P w) A (setSearchFrom a (.ref b) (hT P w k) true f at0) Q E s := by
  intro f
  induction f with
  | zero => intro c _ _ _ hf _; omega
  | succ f ih =>
    intro c at0 ea hc hf hr
    obtain ⟨o, go, ex, da⟩ := S.ob
    rw [setSearchFrom_succ]
    refine wpAny_bind (wpAny_setState_of go da S.ft ?_)
    dsimp only
    refine wp_if_neg (by unfold SetTable.gaveWay; rw [mask_odd S.tab.mok]; decide) ?_
    try refine wpAny_bind (wpAny_pure ?_)
    have sh : ∀ n, nth t.mask (nth t.mask (st0 t (hT P w k)) c) n = nth t.mask (st0 t (hT P w k)) (c + n) := fun n => (nth_add t.mask c _ n).symm
    have wy : ∀ n, (nth t.mask (nth t.mask (st0 t (hT P w k)) c) n).j = way t.mask (hT P w k) (c + n) := fun n => congrArg SetTable.Probe.j (sh n)
    have hs : ∀ (i : Nat) p, L[i]? = some p → (es[i]?.map (·.1)).getD 0 = hT P w p.1 := fun i p hp => by rw [S.at' hp]; rfl
    rcases go_spec t S.tab.ris S.tab.dm (fun i => (es[i]?.map (·.1)).getD 0) (hT P w k) (10 * SetTable.turns t.mask) (N - c) (nth t.mask (st0 t (hT P w k)) c) (nodummy _ _ _ rfl) (by omega)
      (fun n hn => by rw [wy]; exact nb _ (by omega)) (by rw [wy, Nat.add_sub_cancel' hc]; exact nf) with ⟨n, i, hn, hi, hh, hno, pr⟩ | ⟨hno, pr⟩
    · have pr1 : t.probe (fun i => (es[i]?.map (·.1)).getD 0) (hT P w k) (at0.getD (t.probeStart (hT P w k))) = some (.candidate (way t.mask (hT P w k) (c + n)) i (nth t.mask (st0 t (hT P w k)) (c + (n + 1)))) := by
        rw [ea, ← wy, ← sh]; exact pr
      rw [pr1]
      dsimp only
      rw [wy] at hi
      have li : i < L.length := by
        have h1 := (List.getElem?_eq_some_iff.mp hi).1
        have h2 := S.tab.sz
        rw [List.length_map] at h2
        rw [Array.length_toList] at h1
        omega
      obtain ⟨p, hp⟩ : ∃ p, L[i]? = some p := ⟨_, List.getElem?_eq_getElem li⟩
      have mp : p ∈ L := List.mem_of_getElem? hp
      obtain ⟨pb, pe, px⟩ := S.el p mp
      have go2 : wpAny (model P w) A (searchRest a (.ref b) (hT P w k) true f es t (way t.mask (hT P w k) (c + n)) i (nth t.mask (st0 t (hT P w k)) (c + (n + 1)))) Q E s := by
        unfold searchRest
        rw [S.at' hp, pe]
        dsimp only
        refine wpAny_bind (wpAny_holding (wpAny_eqBool_tuple hu px x ?_))
        refine wpAny_bind (wpAny_setState_of go da S.ft ?_)
        dsimp only
        by_cases e : p.1 = k
        · refine wp_if_pos (by rw [decide_eq_true e]; rfl) ?_
          exact wpAny_pure (q1 (List.mem_map.mpr ⟨p, mp, e⟩))
        · refine wp_if_neg (by rw [decide_eq_false e]; decide) ?_
          try refine wpAny_bind (wpAny_pure ?_)
          rw [sameMem]
          dsimp only
          have sl := slot_live S.tab.ris hi
          simp only [if_true, sl, S.at' hp, pe]
          refine wpAny_bind (wpAny_isSame_ref_self (wpAny_bind (wpAny_pure ?_)))
          simp only [if_true]
          refine wp_if_neg (by rw [decide_eq_false e]; exact Bool.false_ne_true) ?_
          refine ih (c + (n + 1)) _ rfl (by omega) (by omega) fun i0 p0 h0 e0 => ?_
          obtain ⟨d, d1, d2, d3⟩ := hr i0 p0 h0 e0
          refine ⟨d, ?_, d2, d3⟩
          have c1 : ¬ d < c + n := fun z => by
            refine hno (d - c) i0 (by omega) (by rw [wy, Nat.add_sub_cancel' d1]; exact d3) ?_
            show (es[i0]?.map (·.1)).getD 0 = _
            rw [hs i0 p0 h0, e0]
          have c2 : d ≠ c + n := fun z => by
            subst z
            have s2 := slot_live S.tab.ris d3
            rw [sl] at s2
            have e9 : i = i0 := by injection s2
            subst e9
            rw [hp] at h0
            exact e (by rw [Option.some.inj h0]; exact e0)
          omega
      by_cases hl : t.led = true
      · refine wp_if_neg (by rw [hl]; decide) ?_
        try refine wpAny_bind (wpAny_pure ?_)
        exact go2
      · refine wp_if_pos (by simpa using hl) ?_
        refine wpAny_bind (tu_seen x (fun y hy => ?_) ?_)
        · obtain ⟨e, he, rfl⟩ := List.mem_map.mp hy
          have h1 : e ∈ es ∧ e.1 = hT P w k := by simpa using he
          have h2 : e ∈ es.toList := by simpa using h1.1
          rw [S.rw0] at h2
          obtain ⟨p2, hp2, rfl⟩ := List.mem_map.mp h2
          exact ⟨p2.1, S.el p2 hp2⟩
        · refine wp_if_neg (by decide) ?_
          try refine wpAny_bind (wpAny_pure ?_)
          exact go2
    · have pr1 : t.probe (fun i => (es[i]?.map (·.1)).getD 0) (hT P w k) (at0.getD (t.probeStart (hT P w k))) = some (.empty (way t.mask (hT P w k) N) none) := by
        have e2 : way t.mask (hT P w k) N = (nth t.mask (nth t.mask (st0 t (hT P w k)) c) (N - c)).j := by rw [wy, Nat.add_sub_cancel' hc]
        rw [ea, e2]; exact pr
      rw [pr1]
      dsimp only
      refine wpAny_pure (q2 fun hm => ?_)
      obtain ⟨p0, m0, e0⟩ := List.mem_map.mp hm
      obtain ⟨i0, h0⟩ := List.getElem?_of_mem m0
      obtain ⟨d, d1, d2, d3⟩ := hr i0 p0 h0 e0
      refine hno (d - c) i0 (by omega) (by rw [wy, Nat.add_sub_cancel' d1]; exact d3) ?_
      show (es[i0]?.map (·.1)).getD 0 = _
      rw [hs i0 p0 h0, e0]
theorem tu_search (S : SetTu P w s.heap a L es ep t) {b : Addr} {k : List Key} (x : IsTupleKey (mixKind P w) s.heap k b) (hu : A.units < cLine) {Q : SetFound → Shared → Prop} (q1 : k ∈ L.map Prod.fst → Q (.there none) s)
    (q2 : ∀ N, k ∉ L.map Prod.fst → way t.mask (hT P w k) N ∉ t.place.toList → (∀ c, c < N → way t.mask (hT P w k) c ∈ t.place.toList) → Q (.free (way t.mask (hT P w k) N) false) s) :
    wpAny (model P w) A (setSearch a (.ref b) (hT P w k) true) Q E s := by
  have rm := S.rm
  obtain ⟨N, hN, nf, nb⟩ := S.tab.first (by rw [List.length_map]; omega) (hT P w k)
  have big : N < 100000 := by
    have : 10 * SetTable.turns t.mask ≤ 1420 := by
      unfold SetTable.turns
      rcases S.tab.mok with e | e | e <;> omega
    omega
  unfold setSearch
  refine tu_from S x hu hN nf nb q1 (fun z => q2 N z nf nb) 100000 0 none rfl (Nat.zero_le _) (by omega) fun i p hp e => ?_
  have h1 : (L.map fun p => hT P w p.1)[i]? = some (hT P w k) := by rw [List.getElem?_map, hp, ← e]; rfl
  have h2 : i < t.place.toList.length := by
    have := (List.getElem?_eq_some_iff.mp hp).1
    have h3 := S.tab.sz
    rw [List.length_map] at h3
    rw [Array.length_toList]; omega
  obtain ⟨d, d1, d2⟩ := S.tab.before nf h1 (List.getElem?_eq_getElem h2)
  exact ⟨d, Nat.zero_le _, d1, by rw [d2]; exact List.getElem?_eq_getElem h2⟩
theorem tu_same {h h' : Heap} {k : List Key} {v : Value} {o : Obj} (x : IsTu P w h k v) (go : h.get? a = some o) (da : o.data = .set es ep t) (sb : Heap.SameBut a h h') : IsTu P w h' k v := by
  obtain ⟨b, e, o', its, n, go', cl, dt, ia⟩ := x
  have ne : b ≠ a := fun z => by
    subst z
    rw [go] at go'
    cases go'
    rw [da] at dt
    cases dt
  exact ⟨b, e, o', its, n, (sb.2 b ne).trans go', cl, dt, ia⟩
theorem order_ok {L : List (List Key × Value)} {es : Array (Int × Value)} {order : Array Nat} (e : es.toList = L.map (rowT P w)) (pm : order.toList.Perm (List.range L.length)) :
    ∃ L2 : List (List Key × Value), (order.filterMap (es[·]?)).toList = L2.map (rowT P w) ∧ L2.Perm L ∧ (L2.map fun p => hT P w p.1) = order.toList.map fun i => (es.map (·.1)).getD i 0 := by
  have zz := rows_size e
  have at0 : ∀ i, (h : i < L.length) → es[i]? = some (rowT P w L[i]) := fun i h => by
    rw [← Array.getElem?_toList, e, List.getElem?_map, List.getElem?_eq_getElem h]; rfl
  refine ⟨order.toList.filterMap fun i => L[i]?, ?_, ?_, ?_⟩
  · rw [Array.toList_filterMap]
    have : ∀ l : List Nat, (∀ i ∈ l, i < L.length) → l.filterMap (fun i => es[i]?) = (l.filterMap fun i => L[i]?).map (rowT P w) := fun l => by
      induction l with
      | nil => intro _; rfl
      | cons i l ih =>
        intro h
        have hi := h i List.mem_cons_self
        rw [List.filterMap_cons_some (at0 i hi), List.filterMap_cons_some (List.getElem?_eq_getElem hi), List.map_cons, ih fun j hj => h j (List.mem_cons_of_mem _ hj)]
    exact this _ fun i hi => List.mem_range.mp (pm.mem_iff.mp hi)
  · have h1 := pm.filterMap fun i => L[i]?
    have h2 : ∀ n, n ≤ L.length → (List.range n).filterMap (fun i => L[i]?) = L.take n := fun n => by
      induction n with
      | zero => intro _; rfl
      | succ n ih =>
        intro h
        rw [List.range_succ, List.filterMap_append, ih (Nat.le_of_lt h), List.take_succ, List.getElem?_eq_getElem h, List.filterMap_cons_some (List.getElem?_eq_getElem h)]; rfl
    rw [h2 _ (Nat.le_refl _), List.take_length] at h1
    exact h1
  · have : ∀ l : List Nat, (∀ i ∈ l, i < L.length) → ((l.filterMap fun i => L[i]?).map fun p => hT P w p.1) = l.map fun i => (es.map (·.1)).getD i 0 := fun l => by
      induction l with
      | nil => intro _; rfl
      | cons i l ih =>
        intro h
        have hi := h i List.mem_cons_self
        have e5 : (es.map (·.1))[i]? = some (hT P w L[i].1) := by rw [Array.getElem?_map, at0 i hi]; rfl
        rw [List.filterMap_cons_some (List.getElem?_eq_getElem hi), List.map_cons, List.map_cons, ih fun j hj => h j (List.mem_cons_of_mem _ hj)]
        congr 1
        simp [Array.getD_eq_getD_getElem?, e5]
    exact this _ fun i hi => List.mem_range.mp (pm.mem_iff.mp hi)
/-- a larger table -/
theorem tu_relay {o : Obj} (go : s.heap.get? a = some o) (ex : o.ExactSet) (da : o.data = .set es ep t) (r : es.toList = L.map (rowT P w)) (pz : t.place.size = es.size) (dm : t.dummies = #[]) (hm : es.size ≤ t.mask) (nd : (L.map Prod.fst).Nodup)
    (el : ∀ p ∈ L, IsTu P w s.heap p.1 p.2) (ld : w.params.followText "set-order" = true ∨ t.led = true) (fw : L.length ≤ 63) {wanted M : Nat} (eM : SetTable.sizeAbove wanted - 1 = M) (okM : MaskOk M) (leM : SetTable.sizeAbove wanted ≤ 128) (rm : L.length * 5 < M * 3) {Q : Unit → Shared → Prop}
    (q : ∀ h' L' es' ep' t', Heap.SameBut a s.heap h' → SetTu P w h' a L' es' ep' t' → L'.Perm L → Q () { s with heap := h' }) : wpAny (model P w) A (setRelay a wanted) Q E s := by
  have zz := rows_size r
  have ft : t.fits es.size = true := by
    unfold SetTable.fits SetTable.fill
    rw [dm, Bool.and_eq_true, beq_iff_eq, decide_eq_true_eq]
    exact ⟨pz, by show t.place.size + 0 ≤ t.mask; omega⟩
  obtain ⟨t1, order, e1, pm, tb, e2, e3, _, _⟩ := relaid_ok t (hs := es.map (·.1)) (wanted := wanted) eM okM (by rw [Array.size_map, zz]; omega)
  rw [Array.size_map, zz] at pm
  obtain ⟨L2, c1, c2, c3⟩ := order_ok r pm
  rw [← c3] at tb
  have z2 : (order.filterMap (es[·]?)).size = es.size := by rw [rows_size c1, c2.length_eq, zz]
  rw [setRelay_eq]
  refine wpAny_bind (wpAny_setState_of go da ft ?_)
  dsimp only
  refine wp_if_neg (by rw [sizeLine_eq]; omega) ?_
  try refine wpAny_bind (wpAny_pure ?_)
  rw [e1]
  dsimp only
  refine wpAny_bind (wp_if_neg (by rw [z2]; simp) ?_)
  try refine wpAny_bind (wpAny_pure ?_)
  refine wpAny_pure ?_
  dsimp only
  refine wpAny_storeSet_of go da ?_ (by rw [z2, zz, sizeLine_eq]; omega)
  have sb : Heap.SameBut a s.heap (s.heap.update a (Obj.putSet (order.filterMap (es[·]?)) t1)) := Heap.SameBut.update ..
  exact q _ L2 _ (ep + 1) t1 sb ⟨⟨_, store_at go da, ex, rfl⟩, c1, tb, (c2.map _).nodup_iff.mpr nd, fun p hp => tu_same (el p (c2.mem_iff.mp hp)) go da sb, by rw [e3]; exact ld, by rw [c2.length_eq, e2]; exact rm, by rw [c2.length_eq]; exact fw⟩ c2
theorem tu_add {v : Value} {k : List Key} {Q : Bool → Shared → Prop} (S : SetTu P w s.heap a L es ep t) (x : IsTu P w s.heap k v) (hu : A.units < cLine) (lt : L.length < 63)
    (q : ∀ b h' L' es' ep' t', Heap.SameBut a s.heap h' → SetTu P w h' a L' es' ep' t' → (k ∈ L.map Prod.fst → L' = L) → (k ∉ L.map Prod.fst → L'.Perm ((k, v) :: L)) → Q b { s with heap := h' }) :
    wpAny (model P w) A (setAddHashed a v (hT P w k)) Q E s := by
  have x0 := x
  obtain ⟨b, rfl, xb⟩ := x
  obtain ⟨o, go, ex, da⟩ := S.ob
  have zz := rows_size S.rw0
  have rm := S.rm
  unfold setAddHashed
  refine wpAny_holding ?_
  rw [show (100000 : Nat) = 99999 + 1 from rfl, setAddHashedIn_succ]
  refine wpAny_bind (wpAny_setState_of go da S.ft ?_)
  dsimp only
  refine wp_if_neg (by simp [byScan, Value.scannable]) ?_
  try refine wpAny_bind (wpAny_pure ?_)
  refine wpAny_bind (tu_search S xb hu (fun hm => ?_) fun N hm nf nb => ?_)
  · dsimp only
    exact wpAny_pure (q false s.heap L es ep t (Heap.SameBut.refl a s.heap) S (fun _ => rfl) fun z => absurd hm z)
  · dsimp only
    refine wpAny_bind (wpAny_setState_of go da S.ft ?_)
    dsimp only
    obtain ⟨b1, b2, b3, b4, b5, b6, b7, b8, b9⟩ := S.tab.put nf nb
    generalize t.put (way t.mask (hT P w k) N) = pt at b1 b3 b4 b5 b6 b7 b8 b9 ⊢
    obtain ⟨t1, j⟩ := pt
    dsimp only at b1 b3 b4 b5 b6 b7 b8 b9 ⊢
    subst b1
    generalize SetTable.below t.place (way t.mask (hT P w k) N) = j at b2 b3 ⊢
    -- the rows with the new one
    have r1 : (SetTable.insertAt es j (hT P w k, Value.ref b)).toList = (L.take j ++ (k, Value.ref b) :: L.drop j).map (rowT P w) := by
      rw [SetTable.toList_insertAt, S.rw0, List.map_append, List.map_cons, List.map_take, List.map_drop]; rfl
    have pm : (L.take j ++ (k, Value.ref b) :: L.drop j).Perm ((k, Value.ref b) :: L) := by
      have := List.perm_middle (a := (k, Value.ref b)) (l₁ := L.take j) (l₂ := L.drop j)
      rw [List.take_append_drop] at this
      exact this
    have eh : (L.take j ++ (k, Value.ref b) :: L.drop j).map (fun p => hT P w p.1) = (L.map fun p => hT P w p.1).take j ++ hT P w k :: (L.map fun p => hT P w p.1).drop j := by
      rw [List.map_append, List.map_cons, List.map_take, List.map_drop]
    rw [← eh] at b3
    generalize L.take j ++ (k, Value.ref b) :: L.drop j = L1 at r1 pm b3
    generalize SetTable.insertAt es j (hT P w k, Value.ref b) = es1 at r1 ⊢
    have l1 : L1.length = L.length + 1 := pm.length_eq
    have n1 : (L1.map Prod.fst).Nodup := (pm.map _).nodup_iff.mpr (List.nodup_cons.mpr ⟨hm, S.nd⟩)
    have z1 := rows_size r1
    -- the state behind the writing, for a table that differs in no more than plain
    have last : ∀ t2 : SetTable, t2.place = t1.place → t2.dummies = t1.dummies → t2.mask = t1.mask → t2.led = t1.led → TabOk t2 (L1.map fun p => hT P w p.1) → t2.tooFull = t1.tooFull → wpAny (model P w) A (do
        storeSet a es1 t2
        if (!false && t2.tooFull) = true then setRelay a (SetTable.grown (es.size + 1))
        return true) Q E s := by
      intro t2 p1 p2 p3 p4 tb p5
      refine wpAny_bind (wpAny_storeSet_of go da ?_ (by rw [z1, l1, sizeLine_eq]; omega))
      have sb : Heap.SameBut a s.heap (s.heap.update a (Obj.putSet es1 t2)) := Heap.SameBut.update ..
      have go1 := store_at (es' := es1) (t' := t2) go da
      generalize s.heap.update a (Obj.putSet es1 t2) = g1 at sb go1 ⊢
      have el1 : ∀ p ∈ L1, IsTu P w g1 p.1 p.2 := fun p hp => by
        rcases List.mem_cons.mp (pm.mem_iff.mp hp) with e | e
        · subst e; exact tu_same x0 go da sb
        · exact tu_same (S.el p e) go da sb
      have d1 : w.params.followText "set-order" = true ∨ t2.led = true := by rw [p4, b5]; exact S.ld
      have tf : t2.tooFull = decide (t2.fill * 5 ≥ t2.mask * 3) := rfl
      have fl : t1.fill = L.length + 1 := by rw [b9, List.length_map]
      have fl2 : t2.fill = L.length + 1 := by rw [← fl]; unfold SetTable.fill; rw [p1, p2]
      rw [fl2, p3, b4] at tf
      by_cases hf : t2.tooFull = true
      · first
          | (refine wpAny_bind ?_; refine wp_if_pos (by rw [hf]; rfl) ?_)
          | (refine wp_if_pos (by rw [hf]; rfl) ?_; refine wpAny_bind ?_)
        rw [hf] at tf
        have full := of_decide_eq_true tf.symm
        rw [zz]
        have two : (t.mask = 7 ∧ L.length = 4) ∨ (t.mask = 31 ∧ L.length = 18) := by
          rcases S.tab.mok with e | e | e
          · rw [e] at full rm; exact .inl ⟨e, by omega⟩
          · rw [e] at full rm; exact .inr ⟨e, by omega⟩
          · rw [e] at full; omega
        have go2 : ∀ M, SetTable.sizeAbove (SetTable.grown (L.length + 1)) - 1 = M → MaskOk M → SetTable.sizeAbove (SetTable.grown (L.length + 1)) ≤ 128 → (L.length + 1) * 5 < M * 3 →
            wpAny (model P w) A (setRelay a (SetTable.grown (L.length + 1))) (fun _ u => wpAny (model P w) A (pure true) Q E u) E { s with heap := g1 } := fun M m1 m2 m3 m4 =>
          tu_relay (s := { s with heap := g1 }) go1 ex rfl r1 (by have := tb.sz; rw [List.length_map] at this; rw [z1]; exact this) tb.dm (by rw [z1, l1, p3, b4]; omega) n1 el1 d1 (by omega) m1 m2 m3 (by rw [l1]; exact m4)
            fun g2 L2 es2 ep2 t3 sb2 S2 pm2 => wpAny_pure (q true g2 L2 es2 ep2 t3 (sb.trans sb2) S2 (fun z => absurd z hm) fun _ => pm2.trans pm)
        rcases two with ⟨_, e⟩ | ⟨_, e⟩
        · exact go2 31 (by rw [e, size_20]) (.inr (.inl rfl)) (by rw [e, size_20]; decide) (by omega)
        · exact go2 127 (by rw [e, size_76]) (.inr (.inr rfl)) (by rw [e, size_76]; decide) (by omega)
      · first
          | refine wp_if_neg (by simpa using hf) ?_
          | (refine wpAny_bind ?_; refine wp_if_neg (by simpa using hf) ?_; refine wpAny_pure ?_)
        have nf2 : ¬ ((L.length + 1) * 5 ≥ t.mask * 3) := fun z => hf (by rw [tf]; exact decide_eq_true z)
        exact wpAny_pure (q true g1 L1 es1 (ep + 1) t2 sb ⟨⟨_, go1, ex, rfl⟩, r1, tb, n1, el1, d1, by rw [l1, p3, b4]; omega, by omega⟩ (fun z => absurd z hm) fun _ => pm)
    have tb1 : TabOk ({ t1 with plain := false } : SetTable) (L1.map fun p => hT P w p.1) := ⟨b3.ris, b3.dm, b3.sz, b3.mok, b3.bd, b3.reach⟩
    have plain_case : ∀ c : Bool, wpAny (model P w) A (do
        storeSet a es1 (if c = true then t1 else { t1 with plain := false })
        if (!false && (if c = true then t1 else { t1 with plain := false }).tooFull) = true then setRelay a (SetTable.grown (es.size + 1))
        return true) Q E s := by
      intro c
      cases c with
      | true => exact last t1 rfl rfl rfl rfl b3 rfl
      | false => exact last { t1 with plain := false } rfl rfl rfl rfl tb1 rfl
    by_cases hp : t1.plain = true
    · first
        | (refine wpAny_bind ?_; refine wp_if_pos hp ?_; exact tu_byval xb fun c => plain_case c)
        | exact wp_if_pos hp (wpAny_bind (tu_byval xb fun c => plain_case c))
    · first
        | (refine wpAny_bind ?_; refine wp_if_neg hp ?_; exact wpAny_pure (plain_case true))
        | exact wp_if_neg hp (wpAny_bind (wpAny_pure (plain_case true)))
end
theorem tu_reads {P : Program} {w : World} {h : Heap} {k : List Key} {v : Value} (x : IsTu P w h k v) : Reads h v (.tuple (k.map datK)) [] := by
  obtain ⟨b, rfl, o, its, n, go, cl, da, ia⟩ := x
  have : ∀ {k : List Key} {vs : List Value}, ItemsAre (mixKind P w) k vs → ReadsAll h vs (k.map datK) [] := fun {k vs} e => by
    induction e with
    | nil => exact .nil
    | cons r _ ih => exact .cons (as := []) (bs := []) (key_reads r) ih
  exact .tuple go cl da (this ia)
def ekTup (P : Program) (w : World) : Ekd P w where
  κ := List Key
  dec := inferInstance
  is := IsTu P w
  hash := hT P w
  dat := fun k => .tuple (k.map datK)
  most := 63
  bound := by decide
  ok := SetTu P w
  ob := SetTu.ob
  row := fun S => by rw [S.rw0, List.map_map]; rfl
  nd := SetTu.nd
  el := SetTu.el
  fits := fun S => tab_fits S.tab S.rw0 (by have := S.rm; omega)
  ris := fun S => S.tab.ris
  led := SetTu.ld
  few := SetTu.fw
  hold := fun S k e => by
    obtain ⟨o, go, r⟩ := S.ob
    exact ⟨⟨o, k o go, r⟩, S.rw0, S.tab, S.nd, e, S.ld, S.rm, S.fw⟩
  keep := IsTu.keep
  reads := tu_reads
  fresh := fun g => ⟨⟨_, g, ⟨rfl, rfl, rfl⟩, rfl⟩, rfl, ⟨List.Pairwise.nil, rfl, rfl, .inl rfl, nofun, fun i h j hi => by simp at hi⟩, List.nodup_nil, nofun, by
    show _ ∨ (!w.params.followText "set-order") = true
    cases w.params.followText "set-order"
    · exact .inr rfl
    · exact .inl rfl, by show 0 * 5 < 7 * 3; decide, Nat.zero_le _⟩
  hashed := fun hu x q => by
    obtain ⟨b, rfl, xb⟩ := x
    exact wpAny_pyHash_tuple hu xb (q _ (Nat.le_add_right _ _))
  add := fun hu S x lt q => tu_add S x hu lt q
end U
set_option Elab.async false
set_option linter.all false
set_option maxRecDepth 100000
set_option maxHeartbeats 4000000
namespace U
open PySem PySem.Spec L2 PyProof.Rows
open PySem.W (AllAlike Sortable)
/-! ### sorted(set(xs)), len(set(xs)) -/
def qSset (K : PySem.W.Frag) {κ : Type} (R : Hp → V → κ → Prop) (dat : κ → PyData) (most : Nat) : RCl := fun xs H Q => ∃ (p : Addr) (ks : List (κ × V)), xs = [V.ref p] ∧ SqL K H p (ks.map Prod.snd) ∧ (∀ x ∈ ks, R H x.2 x.1) ∧ ks.length ≤ most ∧
  AllAlike (ks.map fun x => dat x.1) ∧ Sortable (ks.map fun x => dat x.1) ∧ (∀ x ∈ ks, (dat x.1).depth ≤ 60) ∧
  ∀ (l : Addr) (us : List (κ × V)), H l = none → (∀ x ∈ us, x ∈ ks) → (∀ x ∈ ks, x.1 ∈ us.map Prod.fst) → (us.map Prod.fst).Nodup → us.Pairwise (fun x y => W.dataLt (dat y.1) (dat x.1) = false) → Q (.ref l) (upd H l (.lst (us.map Prod.snd)))
theorem lift_in {α β : Type} (f : α → β) (zs : List α) : ∀ M : List β, (∀ q ∈ M, q ∈ zs.map f) → ∃ Z : List α, M = Z.map f ∧ ∀ z ∈ Z, z ∈ zs
  | [], _ => ⟨[], rfl, nofun⟩
  | q :: M, h => by
    obtain ⟨z, hz, e⟩ := List.mem_map.mp (h q List.mem_cons_self)
    obtain ⟨Z, e2, h2⟩ := lift_in f zs M fun r hr => h r (List.mem_cons_of_mem _ hr)
    exact ⟨z :: Z, by rw [List.map_cons, e, ← e2], fun y hy => (List.mem_cons.mp hy).elim (fun e => e ▸ hz) (h2 y)⟩
section
variable {X : Cx}
/-- that R is what the kind asks -/
def RelD (X : Cx) (D : Ekd X.prog X.w) (R : Hp → V → D.κ → Prop) : Prop := ∀ (pins : List (Addr × Obj)) (σ : L2.St) (H : Hp) (s : Shared) (v : V) (u : Value) (k : D.κ), Inv X pins σ H s → R H v k → RelV v u → D.is s.heap k u
theorem zip_rel {α : Type} : ∀ {ks : List (α × V)} {us : List Value}, Vals (ks.map Prod.snd) us → ∃ zs : List ((α × V) × Value), ks = zs.map Prod.fst ∧ us = zs.map Prod.snd ∧ ∀ z ∈ zs, RelV z.1.2 z.2
  | [], _, .nil => ⟨[], rfl, rfl, nofun⟩
  | x :: ks, _, .cons r t => by
    obtain ⟨zs, e1, e2, h⟩ := zip_rel t
    exact ⟨(x, _) :: zs, by rw [List.map_cons, ← e1], by rw [List.map_cons, ← e2], fun z hz => (List.mem_cons.mp hz).elim (fun e => e ▸ r) (h z)⟩
theorem vals_of : ∀ (zs : List (V × Value)), (∀ z ∈ zs, RelV z.1 z.2) → Vals (zs.map Prod.fst) (zs.map Prod.snd)
  | [], _ => .nil
  | z :: zs, h => .cons (h z List.mem_cons_self) (vals_of zs fun y hy => h y (List.mem_cons_of_mem _ hy))
variable {E : Value → Shared → Prop} {e : Expr} {ta : TA} {p1 p2 q1 pos : Pos}
theorem pe_ssetD {n : Nat} (D : Ekd X.prog X.w) {R : Hp → V → D.κ → Prop} (hR : RelD X D R) (hr : Room n X.A) (hg : Gl X "sorted") (hm : X.mg "sorted" = none) (hg2 : Gl X "set") (hm2 : X.mg "set" = none) (ha : PA X [e] ta)
    (he : starEach [e] X.env = [(false, eval e X.env)] := by rfl) : PE X (.Call (.Name "sorted" p1) [.Call (.Name "set" p2) [e] [] q1] [] pos) (tCB (qSset X.K R D.dat D.most) ta) := by
  refine ⟨fun pins s σ H Q I h => ?_⟩
  refine Call_ (ld_blt I hg hm bo_sorted ?_)
  refine PyProof.Rows.callWith_builtin1 (PyProof.Rows.args_cons ?_ rfl) rfl rfl
  refine Call_ (ld_blt I hg2 hm2 bo_set ?_)
  refine PyProof.Rows.callWith_type1 (thn (ha.run q1 pins s σ H _ I h) fun us s1 ⟨vs, H1, I1, r1, z⟩ => ?_) he rfl
  obtain ⟨p, ks, rfl, sq, rel, few, al, so, dp, z⟩ := z
  obtain ⟨u, rfl, ru⟩ := vals1 r1
  obtain rfl : u = Value.ref p := ru
  obtain ⟨its, rv, pl, hz⟩ := I1.list sq
  obtain ⟨zs, rfl, rfl, hzs⟩ := zip_rel rv
  let f : (D.κ × V) × Value → D.κ × Value := fun z => (z.1.1, z.2)
  have un := hr.un
  refine set_made (D := D) (zs.map f) hr.hd pl.isList (by rw [List.map_map]; rfl) (fun q hq => ?_) (by rw [List.length_map] at few ⊢; exact few) (by omega) fun g tk L es ep t ok got kp => ?_
  · obtain ⟨y, hy, rfl⟩ := List.mem_map.mp hq
    exact hR pins σ H1 s1 y.1.2 y.2 y.1.1 I1 (rel y.1 (List.mem_map.mpr ⟨y, hy, rfl⟩)) (hzs y hy)
  have sub : ∀ q ∈ L, q ∈ zs.map f := fun q hq => List.mem_of_mem_take (got.sub q hq)
  have eqd : (zs.map f).map (fun q => D.dat q.1) = (zs.map Prod.fst).map fun x => D.dat x.1 := by rw [List.map_map, List.map_map]; rfl
  have insd : ∀ d ∈ L.map (fun q => D.dat q.1), d ∈ (zs.map Prod.fst).map fun x => D.dat x.1 := fun d hd => by
    obtain ⟨q, hq, rfl⟩ := List.mem_map.mp hd
    rw [← eqd]
    exact List.mem_map.mpr ⟨q, sub q hq, rfl⟩
  refine PyProof.Rows.args_nil ?_
  refine set_sorted (s := { s1 with heap := g, toks := tk }) ok hr.hd (fun d hd d2 hd2 => al d (insd d hd) d2 (insd d2 hd2)) (so.imp (fun w d hd => w d (insd d hd)) fun w d hd => w d (insd d hd)) (fun q hq => ?_) (by omega) fun s3 l out c L2 k3 g3 o3 hl gl eo pm pw => ?_
  · obtain ⟨y, hy, e⟩ := List.mem_map.mp (sub q hq)
    rw [← e]
    exact dp y.1 (List.mem_map.mpr ⟨y, hy, rfl⟩)
  · obtain ⟨Z, eZ, hZ⟩ := lift_in f zs L2 fun q hq => sub q (pm.mem_iff.mp hq)
    subst eZ
    have kk : ∀ b o, s1.heap.get? b = some o → s3.heap.get? b = some o := fun b o e => k3 b o (kp b o e)
    have l0 : s1.heap.objs.size ≤ l := Nat.le_trans (Nat.le_of_lt (let ⟨_, go, _⟩ := D.ob ok; Heap.lt_size go)) hl
    have hn : H1 l = none := I1.hok.fresh l0
    have few2 := D.few ok
    have bd := D.bound
    have ln : ((Z.map Prod.fst).map Prod.snd).length ≤ sizeLine := by
      have := pm.length_eq
      rw [List.length_map] at this
      rw [List.length_map, List.length_map, sizeLine_eq]; omega
    have vz : Vals ((Z.map Prod.fst).map Prod.snd) out := by
      rw [eo]
      have := vals_of (Z.map fun z => (z.1.2, z.2)) fun y hy => by
        obtain ⟨y0, hy0, rfl⟩ := List.mem_map.mp hy
        exact hzs y0 (hZ y0 hy0)
      rw [List.map_map, List.map_map] at this
      rw [List.map_map, List.map_map]
      exact this
    have J : Inv X pins σ (upd H1 l (.lst ((Z.map Prod.fst).map Prod.snd))) { s1 with heap := s3.heap, gens := s3.gens, drawn := s3.drawn, toks := s3.toks } :=
      I1.call (ch := []) (Un.laid kk l0 hn) (I1.hok.laid kk l0 ⟨ln, out, c, vz, gl⟩) (by rw [g3]; exact I1.bare) nofun
    have e3 : s3 = { s1 with heap := s3.heap, gens := s3.gens, drawn := s3.drawn, toks := s3.toks } := by
      cases s3; cases s1; cases o3; rfl
    rw [e3]
    have nd : ((Z.map f).map Prod.fst).Nodup := (pm.map _).nodup_iff.mpr (D.nd ok)
    refine ⟨.ref l, _, J, rfl, z l (Z.map Prod.fst) hn (fun x hx => ?_) (fun x hx => ?_) (by rw [List.map_map] at nd ⊢; exact nd) (List.pairwise_map.mpr (List.pairwise_map.mp pw))⟩
    · obtain ⟨y, hy, rfl⟩ := List.mem_map.mp hx
      exact List.mem_map.mpr ⟨y, hZ y hy, rfl⟩
    · obtain ⟨y, hy, rfl⟩ := List.mem_map.mp hx
      have h1 := got.all (f y) (by rw [List.take_length]; exact List.mem_map.mpr ⟨y, hy, rfl⟩)
      have h2 := (pm.map Prod.fst).mem_iff.mpr h1
      rw [List.map_map] at h2 ⊢
      exact h2
end
/-! #### ints, texts -/
def RK (_ : Hp) (v : V) (k : Key) : Prop := v = kV k
theorem relK {X : Cx} : RelD X (ekKey X.prog X.w) RK := fun pins σ H s v u k I e r => by
  subst e
  exact kV_is r
theorem items_ok {P : Program} {w : World} : ∀ {k : List Key} {us : List Value}, Vals (k.map kV) us → ItemsAre (mixKind P w) k us
  | [], _, .nil => .nil
  | _ :: _, _, .cons r t => .cons (kV_is r) (items_ok t)
def RT (K : PySem.W.Frag) (H : Hp) (v : V) (k : List Key) : Prop := ∃ b, v = .ref b ∧ SqT K H b (k.map kV)
theorem relT {X : Cx} : RelD X (ekTup X.prog X.w) (RT X.K) := fun pins σ H s v u k I e r => by
  obtain ⟨b, rfl, hq⟩ := e
  obtain rfl : u = Value.ref b := r
  obtain ⟨its, rv, ⟨o, go, cl, n, da⟩, _⟩ := I.tuple hq
  exact ⟨b, rfl, o, its.toArray, n, go, cl, da, by simpa using items_ok rv⟩
abbrev datT (k : List Key) : PyData := .tuple (k.map datK)
/-! #### typed -/
/-- a type whose values are keys of a dict, elements of a set -/
structure Ke {α : Type} {t : Rp α} (D : Dt t) where
  k : α → Key
  r : ∀ {F : Hp} {v : V} {x : α}, t.r F v x → v = kV (k x)
  d : ∀ x, D.d x = datK (k x)
def keI : Ke dI := ⟨fun i => .inl i, fun h => h, fun _ => rfl⟩
def keS : Ke dS := ⟨fun s => .inr (S s), fun h => h.1, fun _ => rfl⟩
structure Kt {α : Type} {t : Rp α} (D : Dt t) where
  k : α → List Key
  r : ∀ {F : Hp} {v : V} {x : α}, t.r F v x → ∃ b, v = .ref b ∧ F b = some (.tup ((k x).map kV))
  d : ∀ x, D.d x = datT (k x)
section
variable {α β γ : Type} {t : Rp α} {u : Rp β} {w : Rp γ} {D : Dt t} {E : Dt u} {G : Dt w}
def ktP2 (A : Ke D) (B : Ke E) : Kt (dP2 D E) := ⟨fun x => [A.k x.1, B.k x.2], fun ⟨p, y, z, e, q, h1, h2⟩ => ⟨p, e, by rw [q, A.r h1, B.r h2]; rfl⟩, fun x => by
  show PyData.tuple [D.d x.1, E.d x.2] = _
  rw [A.d, B.d]; rfl⟩
def ktP3 (A : Ke D) (B : Ke E) (C : Ke G) : Kt (dP3 D E G) := ⟨fun x => [A.k x.1, B.k x.2.1, C.k x.2.2], fun ⟨p, y, z, v, e, q, h1, h2, h3⟩ => ⟨p, e, by rw [q, A.r h1, B.r h2, C.r h3]; rfl⟩, fun x => by
  show PyData.tuple [D.d x.1, E.d x.2.1, G.d x.2.2] = _
  rw [A.d, B.d, C.d]; rfl⟩
theorem al_keys (A : Ke D) {F : Hp} : ∀ {vs : List V} {xs : List α}, Al t F vs xs → vs = (xs.map A.k).map kV
  | _, _, .nil => rfl
  | _, _, .cons r h => by rw [List.map_cons, List.map_cons, ← A.r r, ← al_keys A h]
def ktT (A : Ke D) : Kt (dT D) := ⟨fun x => x.map A.k, fun ⟨p, vs, e, q, h⟩ => ⟨p, e, by rw [q, al_keys A h]⟩, fun x => by
  show PyData.tuple (x.map D.d) = _
  rw [List.map_congr_left fun y _ => A.d y]
  show _ = PyData.tuple ((x.map A.k).map datK)
  rw [List.map_map]; rfl⟩
end
/-- each once: the last stays -/
def uq {α : Type} [DecidableEq α] : List α → List α
  | [] => []
  | x :: xs => if x ∈ xs then uq xs else x :: uq xs
theorem mem_uq {α : Type} [DecidableEq α] {y : α} : ∀ {xs : List α}, y ∈ uq xs ↔ y ∈ xs
  | [] => .rfl
  | x :: xs => by
    unfold uq
    split
    · rename_i h
      rw [mem_uq, List.mem_cons]
      exact ⟨.inr, fun z => z.elim (fun e => e ▸ h) id⟩
    · rw [List.mem_cons, List.mem_cons, mem_uq]
theorem uq_nodup {α : Type} [DecidableEq α] : ∀ xs : List α, (uq xs).Nodup
  | [] => List.nodup_nil
  | x :: xs => by
    unfold uq
    split
    · exact uq_nodup xs
    · rename_i h
      exact List.nodup_cons.mpr ⟨fun z => h (mem_uq.mp z), uq_nodup xs⟩
theorem uq_len {α : Type} [DecidableEq α] : ∀ xs : List α, (uq xs).length ≤ xs.length
  | [] => Nat.le_refl _
  | x :: xs => by
    unfold uq
    split
    · exact Nat.le_succ_of_le (uq_len xs)
    · exact Nat.succ_le_succ (uq_len xs)
/-- sorted(set(xs)) -/
def ssetL {α : Type} [DecidableEq α] (lt : α → α → Bool) (xs : List α) : List α := srtL lt (uq xs)
section
variable {α : Type} [DecidableEq α] {t : Rp α} {D : Dt t} {K : PySem.W.Frag} {F H : Hp} {vs : List V} {xs : List α} {p : Addr} {Q : VK}
/-- what comes out is the mirror's -/
theorem sset_core {κ : Type} (S : So D) (kk : α → κ) {dat : κ → PyData} (hd : ∀ x, D.d x = dat (kk x)) {zs : List (V × α)} {us : List (κ × V)} (h1 : ∀ x ∈ us, x ∈ zs.map fun z => (kk z.2, z.1)) (h2 : ∀ x ∈ zs.map fun z => (kk z.2, z.1), x.1 ∈ us.map Prod.fst)
    (h3 : (us.map Prod.fst).Nodup) (h4 : us.Pairwise fun x y => W.dataLt (dat y.1) (dat x.1) = false) (O : Lo S.lt) (hr : ∀ z ∈ zs, t.r F z.1 z.2) : Al t F (us.map Prod.snd) (ssetL S.lt (zs.map Prod.snd)) := by
  obtain ⟨Z, rfl, hZ⟩ := lift_in _ zs us h1
  have inj : ∀ x y, kk x = kk y → x = y := fun x y e => (D.eqv x y).mp (by rw [hd, hd, e, ← hd]; exact (D.eqv _ _).mpr rfl)
  have e1 : ssetL S.lt (zs.map Prod.snd) = Z.map Prod.snd := by
    refine srt_of O ((List.perm_ext_iff_of_nodup (uq_nodup _) ?_).mpr fun x => ?_) ?_
    · rw [List.map_map] at h3
      exact List.pairwise_map.mpr ((List.pairwise_map.mp h3).imp fun h e => h (congrArg kk e))
    · rw [mem_uq]
      constructor
      · intro hx
        obtain ⟨z, hz, rfl⟩ := List.mem_map.mp hx
        have := h2 (kk z.2, z.1) (List.mem_map.mpr ⟨z, hz, rfl⟩)
        rw [List.map_map] at this
        obtain ⟨y, hy, e⟩ := List.mem_map.mp this
        exact List.mem_map.mpr ⟨y, hy, inj _ _ e⟩
      · intro hx
        obtain ⟨z, hz, rfl⟩ := List.mem_map.mp hx
        exact List.mem_map.mpr ⟨z, hZ z hz, rfl⟩
    · refine List.pairwise_map.mpr ((List.pairwise_map.mp h4).imp fun {x y} h => ?_)
      rw [← S.ok, hd, hd]; exact h
  rw [e1, List.map_map]
  exact pd_unzip Z fun z hz => hr z (hZ z hz)
def ssetB (n : Nat) {α : Type} (xs : List α) : Bool := decide (xs.length ≤ n)
theorem zip_parts {vs : List V} {xs : List α} (h : Al t F vs xs) : (vs.zip xs).map Prod.fst = vs ∧ (vs.zip xs).map Prod.snd = xs ∧ ∀ z ∈ vs.zip xs, t.r F z.1 z.2 := by
  refine ⟨?_, map_fst_zipA _ _ (al_len h), pd_zipmem h⟩
  have := al_len h
  induction h with
  | nil => rfl
  | cons r t ih => rw [List.zip_cons_cons, List.map_cons, ih (al_len t)]
/-- ints, texts -/
theorem v_ssetK (S : So D) (A : Ke D) (O : Lo S.lt) (hs : Sub F H) (hq : SqL K H p vs) (hr : Al t F vs xs) (hb : ssetB 3999 xs = true) (k : ∀ l us, H l = none → Al t F us (ssetL S.lt xs) → Q (.ref l) (upd H l (.lst us))) : qSset K RK datK 3999 [.ref p] H Q := by
  obtain ⟨e1, e2, e3⟩ := zip_parts hr
  have ed : ((vs.zip xs).map fun z => (A.k z.2, z.1)).map (fun x => datK x.1) = xs.map D.d := by
    rw [List.map_map]
    conv => rhs; rw [← e2]
    rw [List.map_map]
    exact List.map_congr_left fun z _ => (A.d z.2).symm
  refine ⟨p, (vs.zip xs).map fun z => (A.k z.2, z.1), rfl, ?_, fun x hx => ?_, ?_, by rw [ed]; exact so_alike S xs, by rw [ed]; exact so_sortable S xs, fun x hx => ?_, fun l us hl h1 h2 h3 h4 => ?_⟩
  · rw [List.map_map]
    show SqL K H p ((vs.zip xs).map Prod.fst)
    rw [e1]; exact hq
  · obtain ⟨z, hz, rfl⟩ := List.mem_map.mp hx
    exact A.r (e3 z hz)
  · have := of_decide_eq_true hb
    rw [List.length_map, List.length_zip]; omega
  · obtain ⟨z, hz, rfl⟩ := List.mem_map.mp hx
    rw [← A.d]; exact S.dp _
  · have := sset_core (F := F) S A.k A.d h1 h2 h3 h4 O e3
    rw [e2] at this
    exact k l _ hl this
/-- tuples of ints and texts -/
theorem v_ssetT (S : So D) (A : Kt D) (O : Lo S.lt) (hs : Sub F H) (hq : SqL K H p vs) (hr : Al t F vs xs) (hb : ssetB 63 xs = true) (k : ∀ l us, H l = none → Al t F us (ssetL S.lt xs) → Q (.ref l) (upd H l (.lst us))) : qSset K (RT K) datT 63 [.ref p] H Q := by
  obtain ⟨e1, e2, e3⟩ := zip_parts hr
  have ed : ((vs.zip xs).map fun z => (A.k z.2, z.1)).map (fun x => datT x.1) = xs.map D.d := by
    rw [List.map_map]
    conv => rhs; rw [← e2]
    rw [List.map_map]
    exact List.map_congr_left fun z _ => (A.d z.2).symm
  refine ⟨p, (vs.zip xs).map fun z => (A.k z.2, z.1), rfl, ?_, fun x hx => ?_, ?_, by rw [ed]; exact so_alike S xs, by rw [ed]; exact so_sortable S xs, fun x hx => ?_, fun l us hl h1 h2 h3 h4 => ?_⟩
  · rw [List.map_map]
    show SqL K H p ((vs.zip xs).map Prod.fst)
    rw [e1]; exact hq
  · obtain ⟨z, hz, rfl⟩ := List.mem_map.mp hx
    obtain ⟨b, e, q⟩ := A.r (e3 z hz)
    exact ⟨b, e, .inl (.inl (hs _ _ q))⟩
  · have := of_decide_eq_true hb
    rw [List.length_map, List.length_zip]; omega
  · obtain ⟨z, hz, rfl⟩ := List.mem_map.mp hx
    rw [← A.d]; exact S.dp _
  · have := sset_core (F := F) S A.k A.d h1 h2 h3 h4 O e3
    rw [e2] at this
    exact k l _ hl this
theorem a_ssetF {us : List V} {zs : List α} {P : Prop} (hs : Sub F H) (k : ∀ p' us F' H', Gr [] F H F' H' → F' p' = some (.lst us) → Al t F' us zs → Q (.ref p') H') : ∀ l us, H l = none → Al t F us zs → Q (.ref l) (upd H l (.lst us)) :=
  fun l us hl h => k l us _ _ (gr_newF hs hl) upd_same (Al.mono h (Sub.up1 (hs.nn hl)))
end
section
variable {X : Cx} {K : PySem.W.Frag} {n : Nat} {e : Expr} {ta : TA} {p1 p2 q1 pos : Pos}
theorem pe_ssetK (hK : X.K = K) (hr : Room n X.A) (hg : Gl X "sorted") (hm : X.mg "sorted" = none) (hg2 : Gl X "set") (hm2 : X.mg "set" = none) (ha : PA X [e] ta) (he : starEach [e] X.env = [(false, eval e X.env)] := by rfl) :
    PE X (.Call (.Name "sorted" p1) [.Call (.Name "set" p2) [e] [] q1] [] pos) (tCB (qSset K RK datK 3999) ta) := by
  subst hK; exact pe_ssetD (ekKey X.prog X.w) relK hr hg hm hg2 hm2 ha he
theorem pe_ssetT (hK : X.K = K) (hr : Room n X.A) (hg : Gl X "sorted") (hm : X.mg "sorted" = none) (hg2 : Gl X "set") (hm2 : X.mg "set" = none) (ha : PA X [e] ta) (he : starEach [e] X.env = [(false, eval e X.env)] := by rfl) :
    PE X (.Call (.Name "sorted" p1) [.Call (.Name "set" p2) [e] [] q1] [] pos) (tCB (qSset K (RT K) datT 63) ta) := by
  subst hK; exact pe_ssetD (ekTup X.prog X.w) relT hr hg hm hg2 hm2 ha he
end
end U
set_option Elab.async false
set_option linter.all false
set_option maxRecDepth 100000
set_option maxHeartbeats 4000000
namespace U
open PySem PySem.Spec L2 PyProof.Rows
/-! ### dicts of typed keys and values -/
structure Dy {α : Type} (t : Rp α) where
  κ : Type
  dec : DecidableEq κ
  k : α → κ
  inj : ∀ x y, k x = k y → x = y
  ho : List (κ × V) → HO
  get : ∀ {F H : Hp} {a : Addr} {kvs : List (κ × V)} {v : V} {x : α}, Sub F H → H a = some (ho kvs) → t.r F v x → DGet H a v (valV kvs (k x))
  put : ∀ {F H : Hp} {a : Addr} {kvs : List (κ × V)} {v y : V} {x : α}, Sub F H → H a = some (ho kvs) → t.r F v x → kvs.length < sizeLine → DPut H a v y (upd H a (ho (putK kvs (k x) y)))
  isd : ∀ {H : Hp} {a : Addr} {kvs : List (κ × V)}, H a = some (ho kvs) → IsD H a
section
variable {α β : Type} {t : Rp α} {u : Rp β} {D : Dt t}
def dyK (A : Ke D) : Dy t where
  κ := Key
  dec := inferInstance
  k := A.k
  inj := fun x y e => (D.eqv x y).mp (by rw [A.d, A.d, e, ← A.d]; exact (D.eqv _ _).mpr rfl)
  ho := .dK
  get := fun hs e h => by rw [A.r h]; exact DGet.k e
  put := fun hs e h l => by rw [A.r h]; exact DPut.k e l
  isd := fun e => .inl ⟨_, .inl e⟩
def dyT (A : Kt D) : Dy t where
  κ := List Key
  dec := inferInstance
  k := A.k
  inj := fun x y e => (D.eqv x y).mp (by rw [A.d, A.d, e, ← A.d]; exact (D.eqv _ _).mpr rfl)
  ho := .dT
  get := fun hs e h => by
    obtain ⟨b, rfl, q⟩ := A.r h
    exact DGet.t e (hs _ _ q)
  put := fun hs e h l => by
    obtain ⟨b, rfl, q⟩ := A.r h
    exact DPut.t e (hs _ _ q) l
  isd := fun e => .inr ⟨_, .inl e⟩
abbrev Pr (Y : Dy t) (u : Rp β) (F : Hp) (kvs : List (Y.κ × V)) (xs : List (α × β)) : Prop := Paired (fun kv y => kv.1 = Y.k y.1 ∧ u.r F kv.2 y.2) kvs xs
theorem Pr.mono {Y : Dy t} {F F' : Hp} {kvs : List (Y.κ × V)} {xs : List (α × β)} (h : Pr Y u F kvs xs) (s : Sub F F') : Pr Y u F' kvs xs := Paired.mapP h fun _ _ z => ⟨z.1, u.mono s z.2⟩
/-- a dict -/
def eD (Y : Dy t) (u : Rp β) : Rp (List (α × β)) := ⟨fun F v x => ∃ p kvs, v = .ref p ∧ F p = some (Y.ho kvs) ∧ Pr Y u F kvs x, fun s ⟨p, kvs, e, q, h⟩ => ⟨p, kvs, e, s _ _ q, h.mono s⟩⟩
/-! the mirror's words -/
section
variable [DecidableEq α]
def lkp (xs : List (α × β)) (a : α) : Option β := (xs.find? fun kv => decide (kv.1 = a)).map (·.2)
def inD (xs : List (α × β)) (a : α) : Bool := (lkp xs a).isSome
def dput (xs : List (α × β)) (a : α) (b : β) : List (α × β) := if (xs.any fun kv => decide (kv.1 = a)) = true then xs.map (fun kv => if kv.1 = a then (kv.1, b) else kv) else xs ++ [(a, b)]
def dputM (xs : List (α × β)) (a : α) (b : β) : Option (List (α × β)) := need (decide (xs.length < 16777216)) (dput xs a b)
def getD2 (xs : List (α × β)) (a : α) (b : β) : β := (lkp xs a).getD b
/-- dict of pairs -/
def ofPairs (ps : List (α × β)) : List (α × β) := ps.foldl (fun acc kv => dput acc kv.1 kv.2) []
variable {Y : Dy t} {F H : Hp} {kvs : List (Y.κ × V)} {xs ys : List (α × β)} {a : α} {b : β} {p : Addr} {v y w : V} {Q : VK}
theorem key_iff {c : Y.κ} {x : α} (e : c = Y.k x) : (@decide (c = Y.k a) (Y.dec _ _)) = decide (x = a) := by
  subst e
  rw [Bool.eq_iff_iff]
  exact ⟨fun h => decide_eq_true (Y.inj _ _ (@of_decide_eq_true _ (Y.dec _ _) h)), fun h => @decide_eq_true _ (Y.dec _ _) (by rw [of_decide_eq_true h])⟩
theorem pr_some (h : Pr Y u F kvs xs) (e : lkp xs a = some b) : ∃ v, @valV _ Y.dec kvs (Y.k a) = some v ∧ u.r F v b := by
  induction h with
  | nil => cases e
  | @cons kv x kvs xs r t ih =>
    unfold lkp at e
    rw [List.find?_cons] at e
    unfold valV
    rw [List.find?_cons, key_iff r.1]
    cases q : decide (x.1 = a) with
    | true =>
      rw [q] at e
      have e2 : x.2 = b := Option.some.inj e
      subst e2
      exact ⟨_, rfl, r.2⟩
    | false => rw [q] at e; exact ih e
theorem pr_none (h : Pr Y u F kvs xs) (e : lkp xs a = none) : @valV _ Y.dec kvs (Y.k a) = none := by
  induction h with
  | nil => rfl
  | @cons kv x kvs xs r t ih =>
    unfold lkp at e
    rw [List.find?_cons] at e
    unfold valV
    rw [List.find?_cons, key_iff r.1]
    cases q : decide (x.1 = a) with
    | true => rw [q] at e; cases e
    | false => rw [q] at e; exact ih e
theorem pr_is (h : Pr Y u F kvs xs) : (@valV _ Y.dec kvs (Y.k a)).isSome = inD xs a := by
  unfold inD
  cases e : lkp xs a with
  | none => rw [pr_none h e]; rfl
  | some b => obtain ⟨v, e2, _⟩ := pr_some h e; rw [e2]; rfl
theorem pr_any (h : Pr Y u F kvs xs) : (kvs.any fun kv => @decide (kv.1 = Y.k a) (Y.dec _ _)) = xs.any fun kv => decide (kv.1 = a) := by
  induction h with
  | nil => rfl
  | @cons kv x kvs xs r t ih => rw [List.any_cons, List.any_cons, key_iff r.1, ih]
theorem pr_put (h : Pr Y u F kvs xs) (r : u.r F y b) : Pr Y u F (@putK _ Y.dec kvs (Y.k a) y) (dput xs a b) := by
  unfold putK dput
  rw [pr_any h]
  split
  · induction h with
    | nil => exact .nil
    | @cons kv x kvs xs r2 t ih =>
      rename_i hc
      rw [List.map_cons, List.map_cons]
      have all : ∀ {kvs : List (Y.κ × V)} {xs : List (α × β)}, Pr Y u F kvs xs → Pr Y u F (kvs.map fun kv => @ite _ (kv.1 = Y.k a) (Y.dec _ _) (kv.1, y) kv) (xs.map fun kv => if kv.1 = a then (kv.1, b) else kv) := fun h => by
        induction h with
        | nil => exact .nil
        | @cons kv x kvs xs r2 t ih =>
          refine .cons ?_ ih
          dsimp only
          by_cases e : x.1 = a
          · rw [if_pos e, if_pos (by rw [r2.1, e])]; exact ⟨r2.1, r⟩
          · rw [if_neg e, if_neg (fun z => e (Y.inj _ _ (r2.1.symm.trans z)))]; exact r2
      exact all (.cons r2 t)
  · exact pd_snoc h ⟨rfl, r⟩
theorem pr_len (h : Pr Y u F kvs xs) : kvs.length = xs.length := Paired.length h
/-! readings -/
def qDGet (y : V) (Q : VK) : VK := fun x H2 => ∃ a v, x = .ref a ∧ DGet H2 a y (some v) ∧ Q v H2
theorem n_dget {td ty : TE} {σ : L2.St} (h : td σ H fun x H1 => ty σ H1 fun y H2 => qDGet y Q x H2) : tDGet td ty σ H Q := h
theorem v_dget (hs : Sub F H) (hp : H p = some (Y.ho kvs)) (h : Pr Y u F kvs xs) (hk : t.r F y a) (e : lkp xs a = some b) (k : ∀ v, u.r F v b → Q v H) : qDGet y Q (.ref p) H := by
  obtain ⟨v, e2, r⟩ := pr_some h e
  exact ⟨p, v, rfl, by have := Y.get hs hp hk; rw [e2] at this; exact this, k v r⟩
def qDIn (y : V) (Q : VK) : VK := fun x H2 => ∃ a o, x = .ref a ∧ DGet H2 a y o ∧ Q (.bl o.isSome) H2
def qDNotIn (y : V) (Q : VK) : VK := fun x H2 => ∃ a o, x = .ref a ∧ DGet H2 a y o ∧ Q (.bl (!o.isSome)) H2
theorem n_din {td ty : TE} {σ : L2.St} (h : ty σ H fun y H1 => td σ H1 fun x H2 => qDIn y Q x H2) : tDIn ty td σ H Q := h
theorem n_dnotin {td ty : TE} {σ : L2.St} (h : ty σ H fun y H1 => td σ H1 fun x H2 => qDNotIn y Q x H2) : tDNotIn ty td σ H Q := h
theorem v_din (hs : Sub F H) (hp : H p = some (Y.ho kvs)) (h : Pr Y u F kvs xs) (hk : t.r F y a) (k : Q (.bl (inD xs a)) H) : qDIn y Q (.ref p) H := ⟨p, _, rfl, Y.get hs hp hk, by rw [pr_is h]; exact k⟩
theorem v_dnotin (hs : Sub F H) (hp : H p = some (Y.ho kvs)) (h : Pr Y u F kvs xs) (hk : t.r F y a) (k : Q (.bl (!inD xs a)) H) : qDNotIn y Q (.ref p) H := ⟨p, _, rfl, Y.get hs hp hk, by rw [pr_is h]; exact k⟩
def qDPut (D : Ends) (σ : L2.St) (v y : V) : VK := fun x H3 => ∃ a H4, x = .ref a ∧ DPut H3 a y v H4 ∧ D.nx σ H4
theorem n_dput {nx bk ct : L2.St → Hp → Prop} {rt : VK} {td ty tv : TE} {σ : L2.St} (h : tv σ H fun v H1 => td σ H1 fun x H2 => ty σ H2 fun y H3 => qDPut ⟨nx, rt, bk, ct⟩ σ v y x H3) : sDPut td ty tv ⟨nx, rt, bk, ct⟩ σ H := h
theorem v_dput {nx bk ct : L2.St → Hp → Prop} {rt : VK} {σ : L2.St} (hs : Sub F H) (hp : H p = some (Y.ho kvs)) (h : Pr Y u F kvs xs) (hk : t.r F y a) (e : dputM xs a b = some ys) (k : nx σ (upd H p (Y.ho (@putK _ Y.dec kvs (Y.k a) v)))) : qDPut ⟨nx, rt, bk, ct⟩ σ v y (.ref p) H := by
  obtain ⟨h1, _⟩ := need_ok e
  exact ⟨p, _, rfl, Y.put hs hp hk (by rw [pr_len h, sizeLine_eq]; exact of_decide_eq_true h1), k⟩
theorem dput_ok {W : List Addr} {F0 H0 : Hp} (g : Gr W F0 H0 F H) (m : Mu W H0 F H p (Y.ho kvs)) (h : Pr Y u F kvs xs) (e : dputM xs a b = some ys) (r : u.r F v b) :
    ∃ kvs' H', Gr W F0 H0 F H' ∧ Pr Y u F kvs' ys ∧ kvs' = @putK _ Y.dec kvs (Y.k a) v ∧ H' = upd H p (Y.ho kvs') := by
  obtain ⟨_, rfl⟩ := need_ok e
  exact ⟨_, _, m.gr g, pr_put h r, rfl, rfl⟩
def qDGet2 (y z : V) (Q : VK) (p : Addr) : Hp → Prop := fun H3 => ∃ o, DGet H3 p y o ∧ Q (o.getD z) H3
theorem n_dget2 {td ty tx : TE} {σ : L2.St} (h : td σ H fun x H1 => ∃ a, x = .ref a ∧ IsD H1 a ∧ ty σ H1 fun y H2 => tx σ H2 fun z H3 => qDGet2 y z Q a H3) : tDGet2 td ty tx σ H Q := h
theorem v_dget2 (hs : Sub F H) (hp : H p = some (Y.ho kvs)) (h : Pr Y u F kvs xs) (hk : t.r F y a) (hz : u.r F w b) (k : ∀ v, u.r F v (getD2 xs a b) → Q v H) : qDGet2 y w Q p H := by
  refine ⟨_, Y.get hs hp hk, ?_⟩
  unfold getD2 at k
  cases e : lkp xs a with
  | none => rw [pr_none h e]; rw [e] at k; exact k _ hz
  | some c =>
    obtain ⟨v, e2, r⟩ := pr_some h e
    rw [e2]; rw [e] at k; exact k v r
end
/-- a new dict, empty -/
def qDnew (Q : VK) (H : Hp) (ho : HO) : Prop := ∀ p, H p = none → Q (.ref p) (upd H p ho)
theorem v_dnew {Y : Dy t} {F H : Hp} {Q : VK} (hs : Sub F H) (k : ∀ p H', H p = none → Gr [] F H F H' → F p = none → H' p = some (Y.ho []) → Q (.ref p) H') : qDnew Q H (Y.ho []) :=
  fun p hp => k p _ hp (gr_newM hs hp) (hs.nn hp) upd_same
theorem n_dnewK {H : Hp} {Q : VK} {σ : L2.St} (h : qDnew Q H (.dK [])) : tDNewK σ H Q := h
theorem n_dnewT {H : Hp} {Q : VK} {σ : L2.St} (h : qDnew Q H (.dT [])) : tDNewT σ H Q := h
end
/-! ### dict(pairs) -/
def mergeT (kvs more : List (List Key × V)) : List (List Key × V) := more.foldl (fun acc kv => putK acc kv.1 kv.2) kvs
def qDictT (K : PySem.W.Frag) : RCl := fun xs H Q => ∃ (a : Addr) (rs : List (Addr × List Key × Addr × V)), xs = [.ref a] ∧ SqL K H a (rs.map fun r => .ref r.1) ∧ (∀ r ∈ rs, SqT K H r.1 [.ref r.2.2.1, r.2.2.2] ∧ H r.2.2.1 = some (.tup (r.2.1.map kV))) ∧
  ∀ p, H p = none → Q (.ref p) (upd H p (.dT (mergeT [] (rs.map fun r => (r.2.1, r.2.2.2)))))
def qDictK (K : PySem.W.Frag) : RCl := fun xs H Q => ∃ (a : Addr) (ps : List Addr) (kvs : List (Key × V)), xs = [.ref a] ∧ SqL K H a (ps.map V.ref) ∧ Paired (fun p kv => SqT K H p [kV kv.1, kv.2]) ps kvs ∧ ∀ p, H p = none → Q (.ref p) (upd H p (.dK (mergeK [] kvs)))
theorem c_dictK {X : Cx} {K : PySem.W.Frag} (hK : X.K = K) (hc : X.calm = true) : CallR X (.type "dict") (qDictK K) := by subst hK; exact call_dictP hc
theorem kt_merge {H : Hp} : ∀ {rs : List (List Key × V)} {ps : List (List Key × Addr × Value)} {kvs : List (List Key × V)} {xs : List (List Key × Addr × Value)}, KT H rs ps → KT H kvs xs → KT H (mergeT kvs rs) (storedAllH xs ps)
  | _, _, _, _, .nil, h => h
  | _, _, kvs, xs, .cons (a := a) (b := b) r t, h => by
    have h2 : KT H (putK kvs a.1 a.2) (storedH xs b.1 b.2.1 b.2.2) := by
      rw [← r.1]
      exact KT.put h a.1 r.2.1 r.2.2
    have h3 := kt_merge t h2
    exact h3
theorem c_dictT {X : Cx} {K : PySem.W.Frag} {n : Nat} (hK : X.K = K) (hr : Room n X.A) : CallR X (.type "dict") (qDictT K) := by
  subst hK
  intro pins s σ H xs us Q I rv ⟨a, rs, ex, sq, hp, q⟩
  subst ex
  obtain ⟨u, rfl, ru⟩ := vals1 rv
  obtain rfl : u = Value.ref a := ru
  obtain ⟨its, ri, pl, hz⟩ := I.list sq
  have ei : its = rs.map fun r => Value.ref r.1 := by
    have e1 : (rs.map fun r => V.ref r.1) = (rs.map fun r => r.1).map V.ref := by rw [List.map_map]; rfl
    rw [e1] at ri
    rw [refs_at ri, List.map_map]; rfl
  subst ei
  -- each pair's second value
  obtain ⟨ys, hy⟩ : ∃ ys : List Value, Paired (fun (r : Addr × List Key × Addr × V) y => RelV r.2.2.2 y ∧ IsTup s.heap r.1 #[.ref r.2.2.1, y]) rs ys := by
    clear ri sq pl q rv hz
    induction rs with
    | nil => exact ⟨[], .nil⟩
    | cons r rs ih =>
      obtain ⟨ys, h⟩ := ih fun r hr => hp r (List.mem_cons_of_mem _ hr)
      obtain ⟨it, iv, tp, _⟩ := I.tuple (hp r List.mem_cons_self).1
      obtain ⟨c, y, e, rc, ry⟩ := vals2 iv
      subst e
      obtain rfl : c = Value.ref r.2.2.1 := rc
      exact ⟨y :: ys, .cons ⟨ry, tp⟩ h⟩
  have ly : rs.length = ys.length := Paired.length hy
  let ps : List (List Key × Addr × Value) := (rs.zip ys).map fun z => (z.1.2.1, z.1.2.2.1, z.2)
  let vs : List (Value × Value) := (rs.zip ys).map fun z => (Value.ref z.1.2.2.1, z.2)
  have lp : ps.length = rs.length := by simp [ps, ly]
  have lv : vs.length = rs.length := by simp [vs, ly]
  have kt : KT H (rs.map fun r => (r.2.1, r.2.2.2)) ps := by
    clear ri sq pl q lp lv ly hz
    induction hy with
    | nil => exact .nil
    | cons r t ih => exact .cons ⟨rfl, (hp _ List.mem_cons_self).2, r.1⟩ (ih fun r hr => hp r (List.mem_cons_of_mem _ hr))
  obtain ⟨o, m, ho, hc, hd, hdat⟩ := pl
  have P := PairArg.list (prog := X.prog) (w := X.w) a (rs.map fun r => Value.ref r.1).toArray (fun j => (rs.map fun r => r.1).getD j 0) vs
  have un := hr.un
  have at0 : ∀ (j : Nat) (k v : Value), vs[j]? = some (k, v) → ∃ r : Addr × List Key × Addr × V, rs[j]? = some r ∧ k = Value.ref r.2.2.1 ∧ ps[j]? = some (r.2.1, r.2.2.1, v) ∧ IsTup s.heap r.1 #[Value.ref r.2.2.1, v] := fun j k v e => by
    simp only [vs, List.getElem?_map] at e
    cases ez : (rs.zip ys)[j]? with
    | none => rw [ez] at e; cases e
    | some z =>
      rw [ez] at e
      have e2 := Option.some.inj e
      have z1 := (List.getElem?_zip_eq_some.mp ez)
      obtain ⟨y, hy1, hy2⟩ := pd_getL hy z1.1
      rw [z1.2] at hy1
      have e3 : z.2 = y := Option.some.inj hy1
      have e4 : v = z.2 := (congrArg Prod.snd e2).symm
      refine ⟨z.1, z1.1, (congrArg Prod.fst e2).symm, ?_, ?_⟩
      · simp only [ps, List.getElem?_map, ez]; rw [e4]; rfl
      · rw [e4, e3]; exact hy2.2
  refine call_dict_pairsH (knd := tupleKind (mixKind X.prog X.w)) (ps := ps) P hr.hd (by show X.A.in1.in1.units < cLine; show X.A.units + 1 + 1 < cLine; omega) ⟨⟨o, m, ho, hc, hd, hdat⟩, by simp [lv], fun j k v e => ?_⟩ ⟨by rw [lp, lv], fun j k v e => ?_⟩ (fun h' hk x hx => ?_) (by rw [lv]; rw [List.length_map] at hz; exact hz) fun h' tk hd' hk => ?_
  · obtain ⟨r, h1, h2, _, h4⟩ := at0 j k v e
    refine ⟨by rw [List.getElem?_toArray, List.getElem?_map, h1]; simp [List.getD_eq_getElem?_getD, h1], .inl ?_⟩
    have eT : (rs.map fun r => r.1).getD j 0 = r.1 := by rw [List.getD_eq_getElem?_getD, List.getElem?_map, h1]; rfl
    dsimp only
    rw [eT, h2]
    obtain ⟨o2, g2, c2, n2, d2⟩ := h4
    exact ⟨o2, g2, c2, n2, d2⟩
  · obtain ⟨r, _, h2, h3, _⟩ := at0 j k v e
    exact ⟨_, _, h3, h2⟩
  · have : ∀ {l : List (List Key × V)} {m : List (List Key × Addr × Value)}, KT H l m → ∀ x ∈ m, (tupleKind (mixKind X.prog X.w)).is s.heap x.1 x.2.1 := fun r => by
      induction r with
      | nil => nofun
      | cons hq t ih =>
        intro x hx
        rcases List.mem_cons.mp hx with e | e
        · subst e; exact key_of I.hok (by rw [← hq.1]; exact hq.2.1)
        · exact ih x e
    obtain ⟨o2, its2, n2, g2, r2⟩ := this kt x hx
    exact ⟨o2, its2, n2, hk _ _ (Nat.ne_of_lt (Heap.lt_size g2)) (by simp) g2, r2⟩
  · have hm : (s.heap.objs.size == sysModules) = false := beq_eq_false_iff_ne.mpr (Nat.ne_of_gt I.big)
    have hn := I.hok.fresh (Nat.le_refl s.heap.objs.size)
    have k2 := kt_merge kt (.nil (F := fun (p : List Key × V) (q : List Key × Addr × Value) => p.1 = q.1 ∧ H q.2.1 = some (.tup (p.1.map kV)) ∧ RelV p.2 q.2.2))
    have k3 : KT (upd H s.heap.objs.size (.dT (mergeT [] (rs.map fun r => (r.2.1, r.2.2.2))))) (mergeT [] (rs.map fun r => (r.2.1, r.2.2.2))) (storedAllH [] ps) := k2.keeps fun b ys e => by rw [upd_ne (ne_of_none e hn)]; exact e
    have len : (mergeT [] (rs.map fun r => (r.2.1, r.2.2.2))).length ≤ sizeLine := by
      have h1 := storedAllH_length ps []
      have h2 := Paired.length k2
      have h3 : rs.length ≤ sizeLine := by rw [List.length_map] at hz; exact hz
      rw [h2]
      simp only [List.length_nil, Nat.zero_add] at h1
      exact Nat.le_trans h1 (by rw [lp]; exact h3)
    obtain ⟨o2, es, ep, g1, g2, g3, g4, _, g5⟩ := hd'
    exact ⟨.ref s.heap.objs.size, upd H s.heap.objs.size (.dT (mergeT [] (rs.map fun r => (r.2.1, r.2.2.2)))), I.laid (t' := tk) (fun b u e => hk b u (by simp) e) (Nat.le_refl _) ⟨len, hm, _, k3, o2, es, ep, g1, g2, g3, g4, g5⟩, rfl, q _ hn⟩
section
variable {α β : Type} [DecidableEq α] {t : Rp α} {u : Rp β} {D : Dt t} {K : PySem.W.Frag} {F H : Hp} {vs : List V} {ps : List (α × β)} {p : Addr} {Q : VK}
theorem pr_merge {Y : Dy t} : ∀ {rs : List (Y.κ × V)} {ps : List (α × β)}, Pr Y u F rs ps → ∀ {kvs : List (Y.κ × V)} {xs : List (α × β)}, Pr Y u F kvs xs → Pr Y u F (rs.foldl (fun acc kv => @putK _ Y.dec acc kv.1 kv.2) kvs) (ps.foldl (fun acc kv => dput acc kv.1 kv.2) xs)
  | _, _, .nil, _, _, h => h
  | _, _, .cons (a := a) (b := b) r t, kvs, xs, h => by
    have h2 : Pr Y u F (@putK _ Y.dec kvs a.1 a.2) (dput xs b.1 b.2) := by
      rw [r.1]
      exact pr_put h r.2
    have h3 := pr_merge t h2
    exact h3
theorem v_dictT (A : Kt D) (hs : Sub F H) (hq : SqL K H p vs) (hr : Al (eP2 t u) F vs ps) (k : ∀ q kvs, H q = none → Pr (dyT A) u F kvs (ofPairs ps) → Q (.ref q) (upd H q ((dyT A).ho kvs))) : qDictT K [.ref p] H Q := by
  have : ∀ {vs : List V} {ps : List (α × β)}, Al (eP2 t u) F vs ps → ∃ rs : List (Addr × List Key × Addr × V), vs = rs.map (fun r => V.ref r.1) ∧ (∀ r ∈ rs, F r.1 = some (.tup [.ref r.2.2.1, r.2.2.2]) ∧ F r.2.2.1 = some (.tup (r.2.1.map kV))) ∧ Pr (dyT A) u F (rs.map fun r => (r.2.1, r.2.2.2)) ps := fun h => by
    induction h with
    | nil => exact ⟨[], rfl, nofun, .nil⟩
    | @cons v x vs ps r t ih =>
      obtain ⟨rs, e, h1, h2⟩ := ih
      obtain ⟨a, y, z, rfl, q, ry, rz⟩ := r
      obtain ⟨b, rfl, qb⟩ := A.r ry
      exact ⟨(a, A.k x.1, b, z) :: rs, by rw [List.map_cons, ← e], fun r hr => (List.mem_cons.mp hr).elim (fun e => by subst e; exact ⟨q, qb⟩) (h1 r), .cons ⟨rfl, rz⟩ h2⟩
  obtain ⟨rs, rfl, h1, h2⟩ := this hr
  exact ⟨p, rs, rfl, hq, fun r hr => ⟨.inl (.inl (hs _ _ (h1 r hr).1)), hs _ _ (h1 r hr).2⟩, fun q hn => k q _ hn (pr_merge (kvs := []) (xs := []) h2 .nil)⟩
theorem v_dictK (A : Ke D) (hs : Sub F H) (hq : SqL K H p vs) (hr : Al (eP2 t u) F vs ps) (k : ∀ q kvs, H q = none → Pr (dyK A) u F kvs (ofPairs ps) → Q (.ref q) (upd H q ((dyK A).ho kvs))) : qDictK K [.ref p] H Q := by
  have : ∀ {vs : List V} {ps : List (α × β)}, Al (eP2 t u) F vs ps → ∃ (as : List Addr) (rs : List (Key × V)), vs = as.map V.ref ∧ Paired (fun a kv => SqT K H a [kV kv.1, kv.2]) as rs ∧ Pr (dyK A) u F rs ps := fun h => by
    induction h with
    | nil => exact ⟨[], [], rfl, .nil, .nil⟩
    | @cons v x vs ps r t ih =>
      obtain ⟨as, rs, e, h1, h2⟩ := ih
      obtain ⟨a, y, z, rfl, q, ry, rz⟩ := r
      have ey := A.r ry
      subst ey
      exact ⟨a :: as, (A.k x.1, z) :: rs, by rw [List.map_cons, ← e], .cons (.inl (.inl (hs _ _ q))) h1, .cons ⟨rfl, rz⟩ h2⟩
  obtain ⟨as, rs, rfl, h1, h2⟩ := this hr
  exact ⟨p, as, rs, rfl, hq, h1, fun q hn => k q _ hn (pr_merge (kvs := []) (xs := []) h2 .nil)⟩
theorem a_ssF {α : Type} {t : Rp α} {zs : List α} (hs : Sub F H) (k : ∀ p' us F' H', Gr [] F H F' H' → F' p' = some (.lst us) → Al t F' us zs → Q (.ref p') H') : ∀ l us, H l = none → Al t F us zs → Q (.ref l) (upd H l (.lst us)) :=
  fun l us hl h => k l us _ _ (gr_newF hs hl) upd_same (Al.mono h (Sub.up1 (hs.nn hl)))
theorem a_ssM {α : Type} {t : Rp α} {zs : List α} (hs : Sub F H) (k : ∀ p' us H', H p' = none → Gr [] F H F H' → F p' = none → H' p' = some (.lst us) → Al t F us zs → Q (.ref p') H') : ∀ l us, H l = none → Al t F us zs → Q (.ref l) (upd H l (.lst us)) :=
  fun l us hl h => k l us _ hl (gr_newM hs hl) (hs.nn hl) upd_same h
theorem a_dF {Y : Dy t} {zs : List (α × β)} (hs : Sub F H) (k : ∀ p' kvs F' H', Gr [] F H F' H' → F' p' = some (Y.ho kvs) → Pr Y u F' kvs zs → Q (.ref p') H') : ∀ l kvs, H l = none → Pr Y u F kvs zs → Q (.ref l) (upd H l (Y.ho kvs)) :=
  fun l kvs hl h => k l kvs _ _ (gr_newF hs hl) upd_same (Pr.mono h (Sub.up1 (hs.nn hl)))
theorem a_dM {Y : Dy t} {zs : List (α × β)} (hs : Sub F H) (k : ∀ p' kvs H', H p' = none → Gr [] F H F H' → F p' = none → H' p' = some (Y.ho kvs) → Pr Y u F kvs zs → Q (.ref p') H') : ∀ l kvs, H l = none → Pr Y u F kvs zs → Q (.ref l) (upd H l (Y.ho kvs)) :=
  fun l kvs hl h => k l kvs _ hl (gr_newM hs hl) (hs.nn hl) upd_same h
end
end U
set_option Elab.async false
set_option linter.all false
set_option maxRecDepth 100000
set_option maxHeartbeats 4000000
namespace U
open PySem PySem.Spec L2
/-! ### more rules by name, more values -/
def qAll (K : PySem.W.Frag) : RCl := fun vs H Q => ∃ (a : Addr) (bs : List Bool), vs = [V.ref a] ∧ SqL K H a (bs.map V.bl) ∧ Q (.bl (bs.all id)) H
def qAny (K : PySem.W.Frag) : RCl := fun vs H Q => ∃ (a : Addr) (bs : List Bool), vs = [V.ref a] ∧ SqL K H a (bs.map V.bl) ∧ Q (.bl (bs.any id)) H
def qSum (K : PySem.W.Frag) : RCl := fun vs H Q => ∃ (a : Addr) (ns : List Int), vs = [V.ref a] ∧ SqL K H a (ns.map V.int) ∧ Q (.int ns.sum) H
def qMax (K : PySem.W.Frag) : RCl := fun vs H Q => ∃ (a : Addr) (ns : List Int), vs = [V.ref a] ∧ SqL K H a (ns.map V.int) ∧ 0 < ns.length ∧ ∀ m, m ∈ ns → (∀ y, y ∈ ns → y ≤ m) → Q (.int m) H
def qMin (K : PySem.W.Frag) : RCl := fun vs H Q => ∃ (a : Addr) (ns : List Int), vs = [V.ref a] ∧ SqL K H a (ns.map V.int) ∧ 0 < ns.length ∧ ∀ m, m ∈ ns → (∀ y, y ∈ ns → m ≤ y) → Q (.int m) H
section
variable {X : Cx} {K : PySem.W.Frag} {n : Nat}
theorem c_all (hK : X.K = K) (hr : X.calm = true) : CallR X (.builtin "all") (qAll K) := by subst hK; exact cr_all hr
theorem c_any (hK : X.K = K) (hr : X.calm = true) : CallR X (.builtin "any") (qAny K) := by subst hK; exact cr_any hr
theorem c_sum (hK : X.K = K) (hr : X.calm = true) : CallR X (.builtin "sum") (qSum K) := by subst hK; exact cr_sum hr
theorem c_maxL (hK : X.K = K) (hr : X.calm = true) : CallR X (.builtin "max") (qMax K) := by subst hK; exact cr_max hr
theorem c_minL (hK : X.K = K) (hr : X.calm = true) : CallR X (.builtin "min") (qMin K) := by subst hK; exact cr_min hr
theorem c_inD (hK : X.K = K) (hr : Room n X.A) : OpR X (compareOp .In) (rInD K) := by subst hK; exact op_inD (by have := hr.un; omega)
theorem c_notInD (hK : X.K = K) (hr : Room n X.A) : OpR X (compareOp .NotIn) (rNotInD K) := by subst hK; exact op_notInD (by have := hr.un; omega)
theorem c_indexD (hK : X.K = K) (hr : Room n X.A) : MtR X "list.index" (rIndexD K) := by subst hK; exact mt_indexD (by have := hr.un; omega)
theorem un1 {A : Around} (hr : Room n A) : A.units + 1 < cLine := by have := hr.un; omega
end
def qInS : R2 := fun x y H Q => ∃ i j, x = .str i ∧ y = .str j ∧ Q (.bl (!(Builtin.Str.occurrences j i 0 j.length 1).isEmpty)) H
def qNotInS : R2 := fun x y H Q => ∃ i j, x = .str i ∧ y = .str j ∧ Q (.bl (!(!(Builtin.Str.occurrences j i 0 j.length 1).isEmpty))) H
theorem c_inS {X : Cx} : OpR X (compareOp .In) qInS := op_in_str
theorem c_notInS {X : Cx} : OpR X (compareOp .NotIn) qNotInS := op_notin_str
def inSg (a b : Sg) : Bool := !(Builtin.Str.occurrences (S b) (S a) 0 (S b).length 1).isEmpty
def maxM (xs : List Int) : Option Int := xs.foldl (fun m x => match m with
  | none => some x
  | some y => some (if x > y then x else y)) none
def minM (xs : List Int) : Option Int := xs.foldl (fun m x => match m with
  | none => some x
  | some y => some (if x < y then x else y)) none
theorem maxM_ok {xs : List Int} {m : Int} (h : maxM xs = some m) : m ∈ xs ∧ ∀ y ∈ xs, y ≤ m := by
  have key : ∀ (xs : List Int) (a m : Int), xs.foldl (fun m x => match m with
    | none => some x
    | some y => some (if x > y then x else y)) (some a) = some m → (m = a ∨ m ∈ xs) ∧ a ≤ m ∧ ∀ y ∈ xs, y ≤ m := fun xs => by
    induction xs with
    | nil => intro a m h; have := Option.some.inj h; subst this; exact ⟨.inl rfl, Int.le_refl _, nofun⟩
    | cons x xs ih =>
      intro a m h
      obtain ⟨h1, h2, h3⟩ := ih (if x > a then x else a) m h
      have h4 : a ≤ m ∧ x ≤ m := by split at h2 <;> omega
      refine ⟨?_, h4.1, fun y hy => ?_⟩
      · rcases h1 with h1 | h1
        · split at h1
          · exact .inr (h1 ▸ List.mem_cons_self)
          · exact .inl h1
        · exact .inr (List.mem_cons_of_mem _ h1)
      · rcases List.mem_cons.mp hy with e | e
        · rw [e]; exact h4.2
        · exact h3 y e
  cases xs with
  | nil => cases h
  | cons x xs =>
    obtain ⟨h1, h2, h3⟩ := key xs x m h
    exact ⟨h1.elim (fun e => e ▸ List.mem_cons_self) (List.mem_cons_of_mem _), fun y hy => (List.mem_cons.mp hy).elim (fun e => e ▸ h2) (h3 y)⟩
theorem minM_ok {xs : List Int} {m : Int} (h : minM xs = some m) : m ∈ xs ∧ ∀ y ∈ xs, m ≤ y := by
  have key : ∀ (xs : List Int) (a m : Int), xs.foldl (fun m x => match m with
    | none => some x
    | some y => some (if x < y then x else y)) (some a) = some m → (m = a ∨ m ∈ xs) ∧ m ≤ a ∧ ∀ y ∈ xs, m ≤ y := fun xs => by
    induction xs with
    | nil => intro a m h; have := Option.some.inj h; subst this; exact ⟨.inl rfl, Int.le_refl _, nofun⟩
    | cons x xs ih =>
      intro a m h
      obtain ⟨h1, h2, h3⟩ := ih (if x < a then x else a) m h
      have h4 : m ≤ a ∧ m ≤ x := by split at h2 <;> omega
      refine ⟨?_, h4.1, fun y hy => ?_⟩
      · rcases h1 with h1 | h1
        · split at h1
          · exact .inr (h1 ▸ List.mem_cons_self)
          · exact .inl h1
        · exact .inr (List.mem_cons_of_mem _ h1)
      · rcases List.mem_cons.mp hy with e | e
        · rw [e]; exact h4.2
        · exact h3 y e
  cases xs with
  | nil => cases h
  | cons x xs =>
    obtain ⟨h1, h2, h3⟩ := key xs x m h
    exact ⟨h1.elim (fun e => e ▸ List.mem_cons_self) (List.mem_cons_of_mem _), fun y hy => (List.mem_cons.mp hy).elim (fun e => e ▸ h2) (h3 y)⟩
def idxM {α : Type} [DecidableEq α] (xs : List α) (a : α) : Option Int := (xs.findIdx? fun x => decide (x = a)).map fun (j : Nat) => (j : Int)
def popAtM {α : Type} (xs : List α) (i : Int) : Option (α × List α) := need (decide (-(2 ^ 63) ≤ i ∧ i < 2 ^ 63)) () |>.bind fun _ => (seqIndex? i xs.length).bind fun k => (xs[k]?).map fun a => (a, xs.eraseIdx k)
section
variable {K : PySem.W.Frag} {H F : Hp} {Q : VK} {p : Addr} {vs : List V} {xs : List Int} {bs : List Bool} {m : Int}
theorem v_all (hq : SqL K H p vs) (hr : Al eB F vs bs) (k : Q (.bl (bs.all id)) H) : qAll K [.ref p] H Q := by
  have e := al_bl hr
  subst e
  exact ⟨p, bs, rfl, hq, k⟩
theorem v_any (hq : SqL K H p vs) (hr : Al eB F vs bs) (k : Q (.bl (bs.any id)) H) : qAny K [.ref p] H Q := by
  have e := al_bl hr
  subst e
  exact ⟨p, bs, rfl, hq, k⟩
theorem v_sum (hq : SqL K H p vs) (hr : Al eI F vs xs) (k : Q (.int xs.sum) H) : qSum K [.ref p] H Q := by
  have e := al_int hr
  subst e
  exact ⟨p, xs, rfl, hq, k⟩
theorem v_maxL (hq : SqL K H p vs) (hr : Al eI F vs xs) (h : maxM xs = some m) (k : Q (.int m) H) : qMax K [.ref p] H Q := by
  have e := al_int hr
  subst e
  obtain ⟨h1, h2⟩ := maxM_ok h
  exact ⟨p, xs, rfl, hq, List.length_pos_of_mem h1, fun n n1 n2 => by
    have : n = m := Int.le_antisymm (h2 n n1) (n2 m h1)
    subst this; exact k⟩
theorem v_minL (hq : SqL K H p vs) (hr : Al eI F vs xs) (h : minM xs = some m) (k : Q (.int m) H) : qMin K [.ref p] H Q := by
  have e := al_int hr
  subst e
  obtain ⟨h1, h2⟩ := minM_ok h
  exact ⟨p, xs, rfl, hq, List.length_pos_of_mem h1, fun n n1 n2 => by
    have : n = m := Int.le_antisymm (n2 m h1) (h2 n n1)
    subst this; exact k⟩
theorem v_inS {a b : Sg} (k : Q (.bl (inSg a b)) H) : qInS (.str (S a)) (.str (S b)) H Q := ⟨_, _, rfl, rfl, k⟩
theorem v_notInS {a b : Sg} (k : Q (.bl (!inSg a b)) H) : qNotInS (.str (S a)) (.str (S b)) H Q := ⟨_, _, rfl, rfl, k⟩
end
section
variable {α : Type} [DecidableEq α] {t : Rp α} {K : PySem.W.Frag} {H F : Hp} {Q : VK} {p : Addr} {vs : List V} {xs : List α} {a : α} {v w : V} {d e : PyData}
theorem any_eqv (D : Dt t) (xs : List α) (a : α) : ((xs.map D.d).any fun z => PyData.eqv z (D.d a)) = decide (a ∈ xs) := by
  induction xs with
  | nil => rfl
  | cons x xs ih =>
    rw [List.map_cons, List.any_cons, ih, eqv_dec D]
    rw [Bool.eq_iff_iff]
    simp only [Bool.or_eq_true, decide_eq_true_eq, List.mem_cons]
    exact ⟨fun h => h.imp Eq.symm id, fun h => h.imp Eq.symm id⟩
theorem v_inD (D : Dt t) (h1 : Dp K H v (D.d a)) (h2 : Dp K H w (.list (xs.map D.d))) (hb : eqB (D.d a) (.list (xs.map D.d)) = true) (k : Q (.bl (decide (a ∈ xs))) H) : rInD K v w H Q := by
  unfold eqB at hb
  rw [Bool.and_eq_true] at hb
  exact ⟨_, _, h1, h2, hb.1, hb.2, by rw [any_eqv]; exact k⟩
theorem v_notInD (D : Dt t) (h1 : Dp K H v (D.d a)) (h2 : Dp K H w (.list (xs.map D.d))) (hb : eqB (D.d a) (.list (xs.map D.d)) = true) (k : Q (.bl (!decide (a ∈ xs))) H) : rNotInD K v w H Q := by
  unfold eqB at hb
  rw [Bool.and_eq_true] at hb
  exact ⟨_, _, h1, h2, hb.1, hb.2, by rw [any_eqv]; exact k⟩
theorem v_indexD {j : Int} (D : Dt t) (h1 : Dp K H v (D.d a)) (h2 : Dp K H (.ref p) (.list (xs.map D.d))) (hb : eqB (D.d a) (.list (xs.map D.d)) = true) (h : idxM xs a = some j) (k : Q (.int j) H) : rIndexD K (.ref p) [v] H Q := by
  unfold eqB at hb
  rw [Bool.and_eq_true] at hb
  unfold idxM at h
  cases e : xs.findIdx? fun x => decide (x = a) with
  | none => rw [e] at h; cases h
  | some i =>
    rw [e] at h
    have ej : (i : Int) = j := Option.some.inj h
    subst ej
    obtain ⟨hi, pi, no⟩ := List.findIdx?_eq_some_iff_getElem.mp e
    refine ⟨p, v, _, _, i, D.d xs[i], rfl, rfl, h2, h1, hb.2, hb.1, by rw [List.getElem?_map, List.getElem?_eq_getElem hi]; rfl, (D.eqv _ _).mpr (of_decide_eq_true pi), fun m z hm hz => ?_, k⟩
    rw [List.getElem?_map] at hz
    rw [List.getElem?_eq_getElem (by omega)] at hz
    have ez := Option.some.inj hz
    subst ez
    rw [eqv_dec D]
    exact decide_eq_false fun z => by have := no m hm; simp [z] at this
end
section
variable {α β : Type} {t : Rp α} {K : PySem.W.Frag} {H F H0 F0 H' F' : Hp} {Q : VK} {p q : Addr} {vs : List V} {xs : List α} {v w : V} {σ : L2.St} {W : List Addr} {o u : HO}
theorem n_isN {ta : TE} (h : ta σ H fun x H1 => Q (.bl (decide (x = .non))) H1) : tIsN ta σ H Q := h
theorem n_notN {ta : TE} (h : ta σ H fun x H1 => Q (.bl (!decide (x = .non))) H1) : tNotN ta σ H Q := h
theorem opt_non {x : Option α} (h : (eO t).r F v x) : decide (v = .non) = x.isNone := by
  cases x with
  | none => have e : v = .non := h; rw [e]; rfl
  | some a => rw [decide_eq_false h.1]; rfl
theorem v_isN {x : Option α} (h : (eO t).r F v x) (k : Q (.bl x.isNone) H) : Q (.bl (decide (v = .non))) H := by rw [opt_non h]; exact k
theorem v_notN {x : Option α} (h : (eO t).r F v x) (k : Q (.bl (!x.isNone)) H) : Q (.bl (!decide (v = .non))) H := by rw [opt_non h]; exact k
theorem pd_erase {R : V → α → Prop} : ∀ {vs : List V} {xs : List α} (n : Nat), Paired R vs xs → Paired R (vs.eraseIdx n) (xs.eraseIdx n)
  | _, _, _, .nil => .nil
  | _, _, 0, .cons _ h => h
  | _, _, n + 1, .cons r h => .cons r (pd_erase n h)
theorem v_popAt {i : Int} {m : α × List α} (hp : H p = some (.lst vs)) (hr : Al t F vs xs) (h : popAtM xs i = some m) (k : ∀ v n, t.r F v m.1 → Al t F (vs.eraseIdx n) m.2 → Q v (upd H p (.lst (vs.eraseIdx n)))) : rPopAt (.ref p) [.int i] H Q := by
  unfold popAtM at h
  obtain ⟨_, h1, h⟩ := bnd h
  have hb := of_decide_eq_true (need_ok h1).1
  obtain ⟨n, hn, h⟩ := bnd h
  cases e : xs[n]? with
  | none => rw [e] at h; cases h
  | some a =>
    rw [e] at h
    have em : (a, xs.eraseIdx n) = m := Option.some.inj h
    subst em
    obtain ⟨v, ev, rv⟩ := pd_get hr e
    exact ⟨p, vs, i, n, v, rfl, rfl, hp, hb.1, hb.2, by rw [al_len hr]; exact hn, ev, k v n rv (pd_erase n hr)⟩
theorem v_clear (hp : H p = some (.lst vs)) (k : Q .non (upd H p (.lst []))) : rClear (.ref p) [] H Q := ⟨p, vs, rfl, rfl, hp, k⟩
theorem v_reverse (hp : H p = some (.lst vs)) (k : Q .non (upd H p (.lst vs.reverse))) : rReverse (.ref p) [] H Q := ⟨p, vs, rfl, rfl, hp, k⟩
/-! a list of one's own lent to a call that reads it -/
theorem lend (m : Mu W H0 F H p o) (hs : Sub F H) : ∃ F1, F1 p = some o ∧ Sub F F1 ∧ Sub F1 H ∧ (∀ q u, q ≠ p → F q = u → F1 q = u) :=
  ⟨upd F p o, upd_same, Sub.up1 m.fr, fun a u e => by
    by_cases h : a = p
    · subst h; rw [upd_same] at e; cases e; exact m.hp
    · rw [upd_ne h] at e; exact hs a u e, fun q u ne e => by rw [upd_ne ne]; exact e⟩
theorem unlend {F1 : Hp} (s1 : Sub F F1) (g : Gr [] F1 H F' H') : Gr [] F H F H' := ⟨Sub.refl F, fun a u e => g.fh a u (g.ff a u (s1 a u e)), g.hh, g.lv, fun a _ n => n⟩
/-- what doesn't ask the heap -/
def Hf (t : Rp α) : Prop := ∀ (F F' : Hp) (v : V) (x : α), t.r F v x → t.r F' v x
theorem hf_I : Hf eI := fun _ _ _ _ h => h
theorem hf_B : Hf eB := fun _ _ _ _ h => h
theorem hf_S : Hf eS := fun _ _ _ _ h => h
theorem hf_N : Hf eN := fun _ _ _ _ h => h
theorem hf_O {t : Rp α} (h : Hf t) : Hf (eO t) := fun F F' v x r => by
  cases x with
  | none => exact r
  | some a => exact ⟨r.1, h F F' v a r.2⟩
theorem hf_al {t : Rp α} (h : Hf t) (a : Al t F vs xs) : Al t F' vs xs := Paired.mapP a fun _ _ z => h F F' _ _ z
/-- a conditional expression in general -/
theorem br_ifE {b : Bool} {ta tb : TE} (I : V → Hp → Prop) (h1 : b = true → ∀ Q' : VK, (∀ v H', I v H' → Q' v H') → ta σ H Q') (h2 : b = false → ∀ Q' : VK, (∀ v H', I v H' → Q' v H') → tb σ H Q') (k : ∀ v H', I v H' → Q v H') : qIfE ta tb σ Q b H := by
  unfold qIfE
  cases b with
  | true => rw [if_pos rfl]; exact h1 rfl Q k
  | false => rw [if_neg Bool.false_ne_true]; exact h2 rfl Q k
end
section
variable {α β γ : Type} {t : Rp α} {u : Rp β} {w : Rp γ} {D : Dt t} {E : Dt u} {G : Dt w}
theorem dl_I (n : Nat) (x : Int) : (dI.d x).depth ≤ n := by show (PyData.int x).depth ≤ n; simp only [PyData.depth]; exact Nat.zero_le _
theorem dl_S (n : Nat) (x : Sg) : (dS.d x).depth ≤ n := by show (PyData.str (S x)).depth ≤ n; simp only [PyData.depth]; exact Nat.zero_le _
theorem dl_B (n : Nat) (x : Bool) : (dB.d x).depth ≤ n := by show (PyData.bool x).depth ≤ n; simp only [PyData.depth]; exact Nat.zero_le _
theorem dl_P2 {n : Nat} (h : ∀ x, (D.d x).depth ≤ n) (k : ∀ x, (E.d x).depth ≤ n) (x : α × β) : ((dP2 D E).d x).depth ≤ n + 1 := by
  have h1 := h x.1
  have h2 := k x.2
  show (PyData.tuple [D.d x.1, E.d x.2]).depth ≤ n + 1
  simp only [PyData.depth, PyData.depthAll]; omega
theorem dl_P3 {n : Nat} (h : ∀ x, (D.d x).depth ≤ n) (k : ∀ x, (E.d x).depth ≤ n) (l : ∀ x, (G.d x).depth ≤ n) (x : α × β × γ) : ((dP3 D E G).d x).depth ≤ n + 1 := by
  have h1 := h x.1
  have h2 := k x.2.1
  have h3 := l x.2.2
  show (PyData.tuple [D.d x.1, E.d x.2.1, G.d x.2.2]).depth ≤ n + 1
  simp only [PyData.depth, PyData.depthAll]; omega
end
section
variable {α : Type} {t : Rp α} {K : PySem.W.Frag} {H F : Hp} {Q : VK} {p : Addr} {vs : List V} {xs : List α}
theorem v_listF (hs : Sub F H) (hq : SqL K H p vs ∨ SqT K H p vs) (hr : Al t F vs xs) (k : ∀ p' us F' H', Gr [] F H F' H' → F' p' = some (.lst us) → Al t F' us xs → Q (.ref p') H') : qList K [.ref p] H Q := ⟨p, vs, rfl, hq, fun l hl => k l _ _ _ (gr_newF hs hl) upd_same (Al.mono hr (Sub.up1 (hs.nn hl)))⟩
theorem v_listM (hs : Sub F H) (hq : SqL K H p vs ∨ SqT K H p vs) (hr : Al t F vs xs) (k : ∀ p' us H', H p' = none → Gr [] F H F H' → F p' = none → H' p' = some (.lst us) → Al t F us xs → Q (.ref p') H') : qList K [.ref p] H Q := ⟨p, vs, rfl, hq, fun l hl => k l _ _ hl (gr_newM hs hl) (hs.nn hl) upd_same hr⟩
end
section
variable {α β : Type} [DecidableEq α] {t : Rp α} {u : Rp β} {D : Dt t} {K : PySem.W.Frag} {H F : Hp} {Q : VK} {p : Addr} {vs : List V} {xs : List α} {ps : List (α × β)}
theorem v_ssetKF (S : So D) (A : Ke D) (O : Lo S.lt) (hs : Sub F H) (hq : SqL K H p vs) (hr : Al t F vs xs) (hb : ssetB 3999 xs = true) (k : ∀ p' us F' H', Gr [] F H F' H' → F' p' = some (.lst us) → Al t F' us (ssetL S.lt xs) → Q (.ref p') H') : qSset K RK datK 3999 [.ref p] H Q := v_ssetK S A O hs hq hr hb (a_ssF (Q := Q) hs k)
theorem v_ssetKM (S : So D) (A : Ke D) (O : Lo S.lt) (hs : Sub F H) (hq : SqL K H p vs) (hr : Al t F vs xs) (hb : ssetB 3999 xs = true) (k : ∀ p' us H', H p' = none → Gr [] F H F H' → F p' = none → H' p' = some (.lst us) → Al t F us (ssetL S.lt xs) → Q (.ref p') H') : qSset K RK datK 3999 [.ref p] H Q := v_ssetK S A O hs hq hr hb (a_ssM (Q := Q) hs k)
theorem v_ssetTF (S : So D) (A : Kt D) (O : Lo S.lt) (hs : Sub F H) (hq : SqL K H p vs) (hr : Al t F vs xs) (hb : ssetB 63 xs = true) (k : ∀ p' us F' H', Gr [] F H F' H' → F' p' = some (.lst us) → Al t F' us (ssetL S.lt xs) → Q (.ref p') H') : qSset K (RT K) datT 63 [.ref p] H Q := v_ssetT S A O hs hq hr hb (a_ssF (Q := Q) hs k)
theorem v_ssetTM (S : So D) (A : Kt D) (O : Lo S.lt) (hs : Sub F H) (hq : SqL K H p vs) (hr : Al t F vs xs) (hb : ssetB 63 xs = true) (k : ∀ p' us H', H p' = none → Gr [] F H F H' → F p' = none → H' p' = some (.lst us) → Al t F us (ssetL S.lt xs) → Q (.ref p') H') : qSset K (RT K) datT 63 [.ref p] H Q := v_ssetT S A O hs hq hr hb (a_ssM (Q := Q) hs k)
theorem v_dictTF (A : Kt D) (hs : Sub F H) (hq : SqL K H p vs) (hr : Al (eP2 t u) F vs ps) (k : ∀ p' kvs F' H', Gr [] F H F' H' → F' p' = some ((dyT A).ho kvs) → Pr (dyT A) u F' kvs (ofPairs ps) → Q (.ref p') H') : qDictT K [.ref p] H Q := v_dictT A hs hq hr (a_dF (Q := Q) hs k)
theorem v_dictTM (A : Kt D) (hs : Sub F H) (hq : SqL K H p vs) (hr : Al (eP2 t u) F vs ps) (k : ∀ p' kvs H', H p' = none → Gr [] F H F H' → F p' = none → H' p' = some ((dyT A).ho kvs) → Pr (dyT A) u F kvs (ofPairs ps) → Q (.ref p') H') : qDictT K [.ref p] H Q := v_dictT A hs hq hr (a_dM (Q := Q) hs k)
theorem v_dictKF (A : Ke D) (hs : Sub F H) (hq : SqL K H p vs) (hr : Al (eP2 t u) F vs ps) (k : ∀ p' kvs F' H', Gr [] F H F' H' → F' p' = some ((dyK A).ho kvs) → Pr (dyK A) u F' kvs (ofPairs ps) → Q (.ref p') H') : qDictK K [.ref p] H Q := v_dictK A hs hq hr (a_dF (Q := Q) hs k)
theorem v_dictKM (A : Ke D) (hs : Sub F H) (hq : SqL K H p vs) (hr : Al (eP2 t u) F vs ps) (k : ∀ p' kvs H', H p' = none → Gr [] F H F H' → F p' = none → H' p' = some ((dyK A).ho kvs) → Pr (dyK A) u F kvs (ofPairs ps) → Q (.ref p') H') : qDictK K [.ref p] H Q := v_dictK A hs hq hr (a_dM (Q := Q) hs k)
end
/-! what == takes: all typed data -/
structure Sh {α : Type} {t : Rp α} (D : Dt t) (n : Nat) : Prop where
  ok : ∀ x, (D.d x).canLay0 = true ∧ (D.d x).depth ≤ n
section
variable {α β γ : Type} {t : Rp α} {u : Rp β} {w : Rp γ} {D : Dt t} {E : Dt u} {G : Dt w} {n m l : Nat}
theorem sh_I : Sh dI 0 := ⟨fun x => by show (PyData.int x).canLay0 = true ∧ (PyData.int x).depth ≤ 0; simp only [PyData.canLay0, PyData.depth]; exact ⟨trivial, Nat.le_refl _⟩⟩
theorem sh_B : Sh dB 0 := ⟨fun x => by show (PyData.bool x).canLay0 = true ∧ (PyData.bool x).depth ≤ 0; simp only [PyData.canLay0, PyData.depth]; exact ⟨trivial, Nat.le_refl _⟩⟩
theorem sh_N : Sh dN 0 := ⟨fun x => by show PyData.none.canLay0 = true ∧ PyData.none.depth ≤ 0; simp only [PyData.canLay0, PyData.depth]; exact ⟨trivial, Nat.le_refl _⟩⟩
theorem sh_P2 (h : Sh D n) (k : Sh E m) : Sh (dP2 D E) (n + m + 1) := ⟨fun x => by
  obtain ⟨h1, h2⟩ := h.ok x.1
  obtain ⟨h3, h4⟩ := k.ok x.2
  show (PyData.tuple [D.d x.1, E.d x.2]).canLay0 = true ∧ (PyData.tuple [D.d x.1, E.d x.2]).depth ≤ n + m + 1
  simp only [PyData.canLay0, PyData.canLayAll0, PyData.depth, PyData.depthAll, h1, h3]
  exact ⟨rfl, by omega⟩⟩
theorem sh_P3 (h : Sh D n) (k : Sh E m) (j : Sh G l) : Sh (dP3 D E G) (n + m + l + 1) := ⟨fun x => by
  obtain ⟨h1, h2⟩ := h.ok x.1
  obtain ⟨h3, h4⟩ := k.ok x.2.1
  obtain ⟨h5, h6⟩ := j.ok x.2.2
  show (PyData.tuple [D.d x.1, E.d x.2.1, G.d x.2.2]).canLay0 = true ∧ (PyData.tuple [D.d x.1, E.d x.2.1, G.d x.2.2]).depth ≤ n + m + l + 1
  simp only [PyData.canLay0, PyData.canLayAll0, PyData.depth, PyData.depthAll, h1, h3, h5]
  exact ⟨rfl, by omega⟩⟩
theorem sh_all (h : Sh D n) (xs : List α) : PyData.canLayAll0 (xs.map D.d) = true ∧ PyData.depthAll (xs.map D.d) ≤ n := by
  induction xs with
  | nil => simp only [List.map_nil, PyData.canLayAll0, PyData.depthAll]; exact ⟨trivial, Nat.zero_le _⟩
  | cons x xs ih =>
    obtain ⟨h1, h2⟩ := h.ok x
    simp only [List.map_cons, PyData.canLayAll0, PyData.depthAll, h1, ih.1]
    exact ⟨rfl, by have := ih.2; omega⟩
theorem sh_L (h : Sh D n) : Sh (dL D) (n + 1) := ⟨fun x => by
  obtain ⟨h1, h2⟩ := sh_all h x
  show (PyData.list (x.map D.d)).canLay0 = true ∧ (PyData.list (x.map D.d)).depth ≤ n + 1
  simp only [PyData.canLay0, PyData.depth, h1]
  exact ⟨trivial, by omega⟩⟩
theorem sh_T (h : Sh D n) : Sh (dT D) (n + 1) := ⟨fun x => by
  obtain ⟨h1, h2⟩ := sh_all h x
  show (PyData.tuple (x.map D.d)).canLay0 = true ∧ (PyData.tuple (x.map D.d)).depth ≤ n + 1
  simp only [PyData.canLay0, PyData.depth, h1]
  exact ⟨trivial, by omega⟩⟩
theorem sh_O {nn : ∀ x, isNoneD (D.d x) = false} (h : Sh D n) : Sh (dO D nn) n := ⟨fun x => by
  cases x with
  | none => exact ⟨(sh_N.ok ()).1, Nat.le_trans (sh_N.ok ()).2 (Nat.zero_le _)⟩
  | some a => exact h.ok a⟩
theorem eqB_sh (h : Sh D n) (k : Sh E m) (hn : n ≤ 64) (hm : m ≤ 64) (x : α) (y : β) : eqB (D.d x) (E.d y) = true := by
  unfold eqB SeqAt.shaped
  rw [(h.ok x).1, (k.ok y).1, decide_eq_true (Nat.le_trans (h.ok x).2 hn), decide_eq_true (Nat.le_trans (k.ok y).2 hm)]; rfl
end
/-! plain: what == takes, where texts are within -/
structure Sk1 (e : Nat) (d : PyData) : Prop where
  can : d.canLay0 = true
  dp : d.depth ≤ e
structure Sks (e : Nat) (ds : List PyData) : Prop where
  can : PyData.canLayAll0 ds = true
  dp : PyData.depthAll ds ≤ e
theorem sk_str {s : Sg} (hs : ∀ c ∈ s, c < 1114112) : Sk1 0 (.str (S s)) := ⟨by
  simp only [PyData.canLay0]
  show (s.toArray.all fun c => decide (c < 1114112)) = true
  rw [List.all_toArray]
  exact List.all_eq_true.mpr fun c hc => decide_eq_true (hs c hc), by simp only [PyData.depth]; exact Nat.le_refl _⟩
theorem sk_int (i : Int) : Sk1 0 (.int i) := ⟨by simp only [PyData.canLay0], by simp only [PyData.depth]; exact Nat.le_refl _⟩
theorem sk_bool (i : Bool) : Sk1 0 (.bool i) := ⟨by simp only [PyData.canLay0], by simp only [PyData.depth]; exact Nat.le_refl _⟩
theorem sk_none : Sk1 0 .none := ⟨by simp only [PyData.canLay0], by simp only [PyData.depth]; exact Nat.le_refl _⟩
theorem sks_nil {e : Nat} : Sks e [] := ⟨by simp only [PyData.canLayAll0], by simp only [PyData.depthAll]; exact Nat.zero_le _⟩
theorem sks_cons {e : Nat} {d : PyData} {ds : List PyData} (h : Sk1 e d) (h' : Sks e ds) : Sks e (d :: ds) := ⟨by simp only [PyData.canLayAll0, h.can, h'.can, Bool.and_self], by simp only [PyData.depthAll]; exact Nat.max_le.mpr ⟨h.dp, h'.dp⟩⟩
theorem sks_all {e : Nat} : ∀ {ds : List PyData}, (∀ d ∈ ds, Sk1 e d) → Sks e ds
  | [], _ => sks_nil
  | _ :: _, h => sks_cons (h _ List.mem_cons_self) (sks_all fun c hc => h c (List.mem_cons_of_mem _ hc))
theorem sk_list {e : Nat} {ds : List PyData} (h : Sks e ds) : Sk1 (e + 1) (.list ds) := ⟨by simp only [PyData.canLay0]; exact h.can, by simp only [PyData.depth]; exact Nat.succ_le_succ h.dp⟩
theorem sk_tup {e : Nat} {ds : List PyData} (h : Sks e ds) : Sk1 (e + 1) (.tuple ds) := ⟨by simp only [PyData.canLay0]; exact h.can, by simp only [PyData.depth]; exact Nat.succ_le_succ h.dp⟩
theorem Sk1.mono {e e' : Nat} {d : PyData} (h : Sk1 e d) (he : e ≤ e') : Sk1 e' d := ⟨h.can, Nat.le_trans h.dp he⟩
theorem eqB_of {e e' : Nat} {d d' : PyData} (h : Sk1 e d) (h' : Sk1 e' d') (he : e ≤ 64) (he' : e' ≤ 64) : eqB d d' = true := by
  unfold eqB SeqAt.shaped
  rw [h.can, h'.can, decide_eq_true (Nat.le_trans h.dp he), decide_eq_true (Nat.le_trans h'.dp he')]; rfl
end U
set_option Elab.async false
set_option linter.all false
set_option maxRecDepth 100000
set_option maxHeartbeats 4000000
namespace U
open PySem PySem.Spec L2
open PySem.W (alike dataLt)
/-! ### order of data -/
def qCmpD (K : PySem.W.Frag) (f : PyData → PyData → Bool) : R2 := fun x y H Q => ∃ d e, Dp K H x d ∧ Dp K H y e ∧ alike d e = true ∧ d ≠ .none ∧ d.depth ≤ 60 ∧ Q (.bl (f d e)) H
section
variable {X : Cx} {K : PySem.W.Frag} {n : Nat}
theorem c_ltD (hK : X.K = K) (hr : Room n X.A) : OpR X (compareOp .Lt) (qCmpD K fun d e => dataLt d e) := by
  subst hK
  intro pins s σ H x y v u Q I rx ry ⟨d, e, hd, he, ha, hn, hp, q⟩
  obtain ⟨as, r1⟩ := Dp.reads I d _ _ hd rx
  obtain ⟨bs, r2⟩ := Dp.reads I e _ _ he ry
  exact PySem.W.lt_data r1 r2 ha hn (by have := hr.un; omega) ⟨.bl _, H, I, rfl, q⟩
theorem c_gtD (hK : X.K = K) (hr : Room n X.A) : OpR X (compareOp .Gt) (qCmpD K fun d e => dataLt e d) := by
  subst hK
  intro pins s σ H x y v u Q I rx ry ⟨d, e, hd, he, ha, hn, hp, q⟩
  obtain ⟨as, r1⟩ := Dp.reads I d _ _ hd rx
  obtain ⟨bs, r2⟩ := Dp.reads I e _ _ he ry
  exact PySem.W.gt_data r1 r2 ha hn (by have := hr.un; omega) ⟨.bl _, H, I, rfl, q⟩
theorem c_leD (hK : X.K = K) (hr : Room n X.A) : OpR X (compareOp .LtE) (qCmpD K fun d e => !dataLt e d) := by
  subst hK
  intro pins s σ H x y v u Q I rx ry ⟨d, e, hd, he, ha, hn, hp, q⟩
  obtain ⟨as, r1⟩ := Dp.reads I d _ _ hd rx
  obtain ⟨bs, r2⟩ := Dp.reads I e _ _ he ry
  exact PySem.W.le_data r1 r2 ha hn (by have := hr.un; omega) ⟨.bl _, H, I, rfl, q⟩
theorem c_geD (hK : X.K = K) (hr : Room n X.A) : OpR X (compareOp .GtE) (qCmpD K fun d e => !dataLt d e) := by
  subst hK
  intro pins s σ H x y v u Q I rx ry ⟨d, e, hd, he, ha, hn, hp, q⟩
  obtain ⟨as, r1⟩ := Dp.reads I d _ _ hd rx
  obtain ⟨bs, r2⟩ := Dp.reads I e _ _ he ry
  exact PySem.W.ge_data r1 r2 ha hn (by have := hr.un; omega) ⟨.bl _, H, I, rfl, q⟩
end
section
variable {α : Type} {t : Rp α} {D : Dt t} {K : PySem.W.Frag} {H : Hp} {Q : VK} {v w : V} {a b : α} {f : PyData → PyData → Bool} {c : Bool}
theorem so_nn (S : So D) (x : α) : D.d x ≠ .none := S.so.elim (fun h e => by obtain ⟨a, r, q⟩ := h x; rw [q] at e; cases e) fun h => (h x).1
theorem v_cmpD (S : So D) (h1 : Dp K H v (D.d a)) (h2 : Dp K H w (D.d b)) (e : f (D.d a) (D.d b) = c) (k : Q (.bl c) H) : qCmpD K f v w H Q := ⟨_, _, h1, h2, S.al a b, so_nn S a, S.dp a, by rw [e]; exact k⟩
end
theorem c_revL {X : Cx} {K : PySem.W.Frag} {e : Expr} {te : TE} {k : Nat} {p1 p2 p3 pos : Pos} (hK : X.K = K) (he : PE X e te) : PE X (.Subscript e (.Slice none none (some (.UnaryOp .USub (.Constant (.int 1) k p1) p2)) p3) pos) (tRevL K te) := by
  subst hK; exact pe_revL he
def qRevL (K : PySem.W.Frag) (Q : VK) : VK := fun x H1 => ∃ a xs, x = .ref a ∧ SqL K H1 a xs ∧ ∀ p, H1 p = none → Q (.ref p) (upd H1 p (.lst xs.reverse))
section
variable {α : Type} {t : Rp α} {K : PySem.W.Frag} {H F : Hp} {Q : VK} {p : Addr} {vs : List V} {xs : List α} {te : TE} {σ : L2.St}
theorem n_revL (h : te σ H (qRevL K Q)) : tRevL K te σ H Q := h
theorem v_revLF (hs : Sub F H) (hq : SqL K H p vs) (hr : Al t F vs xs) (k : ∀ p' us F' H', Gr [] F H F' H' → F' p' = some (.lst us) → Al t F' us xs.reverse → Q (.ref p') H') : qRevL K Q (.ref p) H := ⟨p, vs, rfl, hq, fun l hl => k l _ _ _ (gr_newF hs hl) upd_same (Al.mono (pd_rev hr) (Sub.up1 (hs.nn hl)))⟩
theorem v_revLM (hs : Sub F H) (hq : SqL K H p vs) (hr : Al t F vs xs) (k : ∀ p' us H', H p' = none → Gr [] F H F H' → F p' = none → H' p' = some (.lst us) → Al t F us xs.reverse → Q (.ref p') H') : qRevL K Q (.ref p) H := ⟨p, vs, rfl, hq, fun l hl => k l _ _ hl (gr_newM hs hl) (hs.nn hl) upd_same (pd_rev hr)⟩
end
end U
namespace U
open PySem PySem.Spec L2
def powM (i j : Int) : Option Int := need (decide (0 ≤ j ∧ j ≤ 1000000 ∧ i.natAbs < 18446744073709551616)) (i ^ j.toNat)
theorem v_pow {H : Hp} {Q : VK} {i j a : Int} (h : powM i j = some a) (k : Q (.int a) H) : L2.rI CPow (fun i j => .int (i ^ j.toNat)) (.int i) (.int j) H Q := by
  obtain ⟨h1, rfl⟩ := need_ok h
  have h2 := of_decide_eq_true h1
  exact ⟨i, j, rfl, rfl, h2, k⟩
section
variable {K : PySem.W.Frag} {F H : Hp} {v : V} {ns : List Int}
theorem dp_Q {p : Addr} (hs : Sub F H) (q : SqL K F p (ns.map V.int)) : Dp K H (.ref p) ((dL dI).d ns) := .lst (hs.l q) (dt_all dI (Sub.refl H) (al_ofint ns))
end
end U
set_option Elab.async false
set_option linter.all false
set_option maxRecDepth 100000
set_option maxHeartbeats 4000000
namespace U
open PySem PySem.Spec L2
/-! ### texts: again and again, begins with -/
def qMulS : R2 := fun x y H Q => ∃ a n, x = .str a ∧ y = .int n ∧ MulOk a n ∧ Q (.str (Txt.mul a n)) H
section
variable {X : Cx} {K : PySem.W.Frag}
theorem c_mulS : OpR X (binaryOp .Mult) qMulS := by
  intro pins s σ H x y v u Q I rx ry h
  obtain ⟨a, n, rfl, rfl, hz, q⟩ := h
  obtain ⟨t, rfl⟩ := rx
  obtain ⟨t', rfl⟩ := ry
  exact SB.mul hz fun t' k => ⟨.str (Txt.mul a n), H, I.tok _, ⟨_, rfl⟩, q⟩
def qSw : RMt := fun x xs H Q => ∃ a b, x = .str a ∧ xs = [.str b] ∧ Q (.bl (Txt.startswith a b)) H
theorem c_sw : MtR X "str.startswith" qSw := mt_startswith
def qEw : RMt := fun x xs H Q => ∃ a b, x = .str a ∧ xs = [.str b] ∧ Q (.bl (Txt.endswith a b)) H
theorem c_ew : MtR X "str.endswith" qEw := mt_endswith
end
def repS (s : Sg) (n : Int) : Sg := (List.replicate n.toNat s).flatten
def repSM (s : Sg) (n : Int) : Option Sg := need (decide (-(2 ^ 63) ≤ n ∧ n < 2 ^ 62) && szB (s.length * n.toNat)) (repS s n)
theorem rep_len (s : Sg) (n : Int) : (repS s n).length = s.length * n.toNat := by
  unfold repS
  rw [List.length_flatten, List.map_replicate, List.sum_replicate_nat, Nat.mul_comm]
theorem fold_app (l : List (Array Nat)) (a : Array Nat) : (l.foldl (· ++ ·) a).toList = a.toList ++ (l.map Array.toList).flatten := by
  induction l generalizing a with
  | nil => simp
  | cons x l ih => rw [List.foldl_cons, ih]; simp
theorem repS_eq (s : Sg) (n : Int) : Txt.mul (S s) n = S (repS s n) := by
  unfold Txt.mul repS
  by_cases h : n < 1
  · rw [if_pos h, Int.toNat_of_nonpos (by omega)]; rfl
  · rw [if_neg h]
    by_cases h2 : (n == 1 || (S s).length == 0) = true
    · rw [if_pos h2]
      rw [Bool.or_eq_true] at h2
      rcases h2 with h2 | h2
      · have : n = 1 := by simpa using h2
        subst this
        exact TL.ext_tl (by simp [TL.tl])
      · have h3 : s = [] := by
          have : (S s).length = 0 := by simpa using h2
          exact List.length_eq_zero_iff.mp (by simpa [Str.length] using this)
        subst h3
        exact TL.ext_tl (by simp [TL.tl])
    · rw [if_neg h2]
      exact TL.ext_tl (by simp [TL.tl, fold_app])
theorem repSM_le {s t : Sg} {n : Int} (h : repSM s n = some t) : t.length ≤ sizeLine := by
  obtain ⟨h1, rfl⟩ := need_ok h
  rw [Bool.and_eq_true] at h1
  rw [rep_len]; exact sz_ok h1.2
section
variable {H F : Hp} {Q : VK} {n : Int} {s r : Sg}
theorem v_mulS {t : Sg} (h : repSM s n = some t) (k : Q (.str (S t)) H) : qMulS (.str (S s)) (.int n) H Q := by
  obtain ⟨h1, rfl⟩ := need_ok h
  rw [Bool.and_eq_true, decide_eq_true_eq] at h1
  have hz := sz_ok h1.2
  refine ⟨S s, n, rfl, rfl, ⟨by simp; omega, fun h2 h3 => ?_, fun h2 h3 => ?_⟩, by rw [repS_eq]; exact k⟩
  · have hl : (S s).length = s.length := by simp [Str.length]
    rw [hl]
    have hz2 : ((s.length : Int)) * n ≤ (sizeLine : Nat) := by
      have : (s.length * n.toNat : Nat) ≤ sizeLine := hz
      have h5 : ((s.length * n.toNat : Nat) : Int) ≤ (sizeLine : Nat) := by exact_mod_cast this
      rw [Int.natCast_mul, Int.toNat_of_nonneg (by omega)] at h5
      exact h5
    have hs : ((sizeLine : Nat) : Int) ≤ 2 ^ 63 - 1 := by decide
    have := (Int.le_ediv_iff_mul_le (by omega : (0 : Int) < n)).mpr (Int.le_trans hz2 hs)
    omega
  · have hl : (S s).length = s.length := by simp [Str.length]
    rw [hl]
    have : s.length * n.toNat ≤ sizeLine := hz
    unfold Builtin.Str.tooLong
    simpa using this
end
/-- begins with -/
def swB (a b : Sg) : Bool := decide (a.take b.length = b)
theorem sw_eq (a b : Sg) : Txt.startswith (S a) (S b) = swB a b := by
  unfold Txt.startswith swB
  rw [show Builtin.Str.subAt (S a) (S b) 0 = (((S a).cps.toList.drop 0).take (S b).length == (S b).cps.toList) by
    unfold Builtin.Str.subAt
    rw [show ∀ x y : Array Nat, (x == y) = (x.toList == y.toList) from fun x y => by rw [Bool.eq_iff_iff, beq_iff_eq, beq_iff_eq, Array.toList_inj]]
    simp]
  have h1 : (S a).length = a.length := by simp [Str.length]
  have h2 : (S b).length = b.length := by simp [Str.length]
  rw [h1, h2, Nat.zero_add]
  rw [Bool.eq_iff_iff]
  simp
  intro e
  have := congrArg List.length e
  rw [List.length_take] at this
  omega
theorem v_sw {H : Hp} {Q : VK} {a b : Sg} (k : Q (.bl (swB a b)) H) : qSw (.str (S a)) [.str (S b)] H Q := ⟨S a, S b, rfl, rfl, by rw [sw_eq]; exact k⟩
theorem v_lenP2 {K : PySem.W.Frag} {F H : Hp} {Q : VK} {v : V} {α β : Type} {ta : Rp α} {tb : Rp β} {m : α × β} (hs : Sub F H) (hr : (eP2 ta tb).r F v m) (k : Q (.int 2) H) : qLen K [v] H Q := by
  obtain ⟨p, x, y, rfl, hp, _⟩ := hr
  exact ⟨p, [x, y], rfl, .inr (.inl (.inl (hs _ _ hp))), k⟩
theorem v_lenP3 {K : PySem.W.Frag} {F H : Hp} {Q : VK} {v : V} {α β γ : Type} {ta : Rp α} {tb : Rp β} {tc : Rp γ} {m : α × β × γ} (hs : Sub F H) (hr : (eP3 ta tb tc).r F v m) (k : Q (.int 3) H) : qLen K [v] H Q := by
  obtain ⟨p, x, y, z, rfl, hp, _⟩ := hr
  exact ⟨p, [x, y, z], rfl, .inr (.inl (.inl (hs _ _ hp))), k⟩
/-! ### what is never reached -/
def tNoS : TS := fun _ _ _ => False
def tNoT : TT := fun _ _ _ => False
def tNoE : TE := fun _ _ _ => False
section
variable {X : Cx} {K : PySem.W.Frag} {ss : List Stmt} {e : Expr}
theorem ps_no : PSs X ss tNoS := ⟨fun _ _ _ _ _ _ h => h.elim⟩
theorem pw_no : PW X e tNoT := ⟨fun _ _ _ _ _ _ _ h => h.elim⟩
theorem pe_no : PE X e tNoE := ⟨fun _ _ _ _ _ _ h => h.elim⟩
theorem c_isiT (hK : X.K = K) : CallR X (.builtin "isinstance") (rIsiT K) := by subst hK; exact call_isiT
end
theorem v_mkTy {F H : Hp} {Q : VK} {us : List V} (hs : Sub F H) (hz : szB us.length = true) (k : ∀ p F' H', Gr [] F H F' H' → F' p = some (.tup us) → Q (.ref p) H') : qNewT Q us H := ⟨sz_ok hz, fun p hp => k _ _ _ (gr_newF hs hp) upd_same⟩
theorem v_isiT {K : PySem.W.Frag} {H : Hp} {Q : VK} {x : V} {T U W : String} {tp : Addr} {b c : Bool} (ty : TyX K H x (.type T)) (hq : H tp = some (.tup [.ty U, .ty W])) (h : kitB T U = some b) (h' : kitB T W = some c) (k : Q (.bl (b || c)) H) : rIsiT K [x, .ref tp] H Q := by
  refine ⟨x, tp, _, _, [.type U, .type W], b || c, rfl, hq, .cons (.ty U) (.cons (.ty W) .nil), ty, ?_, k⟩
  have e1 := kit_ty (K := K) h
  have e2 := kit_ty (K := K) h'
  unfold PySem.W.kitAny
  rw [e1]
  cases b with
  | true => rfl
  | false =>
    show PySem.W.kitAny K _ _ = _
    unfold PySem.W.kitAny
    rw [e2]
    cases c <;> rfl
theorem p2_T {α : Type} {t : Rp α} {F : Hp} {v : V} {m : α × α} (h : (eP2 t t).r F v m) : (eT t).r F v [m.1, m.2] := by
  obtain ⟨p, x, y, rfl, hp, h1, h2⟩ := h
  exact ⟨p, [x, y], rfl, hp, .cons h1 (.cons h2 .nil)⟩
/-! ### xs[lo:hi:step] -/
def stepL {α : Type} (xs : List α) (lo hi : Option Int) (c : Int) : List α := (sliceRange (sliceBounds lo hi (some c) xs.length).1 (sliceBounds lo hi (some c) xs.length).2.1 (sliceBounds lo hi (some c) xs.length).2.2).filterMap (xs[·]?)
theorem pd_pick {α β : Type} {R : α → β → Prop} {xs : List α} {ys : List β} (h : Paired R xs ys) (is : List Nat) : Paired R (is.filterMap (xs[·]?)) (is.filterMap (ys[·]?)) := by
  have hl := Paired.length h
  induction is with
  | nil => exact .nil
  | cons i is ih =>
    rw [List.filterMap_cons, List.filterMap_cons]
    by_cases hi : i < xs.length
    · have e1 := List.getElem?_eq_getElem hi
      have e2 := List.getElem?_eq_getElem (show i < ys.length by omega)
      obtain ⟨v, e, r⟩ := pd_get h e2
      rw [e, e2]
      exact .cons r ih
    · rw [List.getElem?_eq_none (by omega), List.getElem?_eq_none (by omega)]
      exact ih
def tStepL (K : PySem.W.Frag) (te : TE) (tl tu ts : TO) : TE := fun σ H Q => te σ H fun x H1 => tl σ H1 fun l H2 => tu σ H2 fun u H3 => ts σ H3 fun o H4 =>
  ∃ (a : Addr) (xs : List V) (c : Int), x = .ref a ∧ o = some c ∧ c ≠ 0 ∧ SqL K H4 a xs ∧ ∀ p, H4 p = none → Q (.ref p) (upd H4 p (.lst (stepL xs l u c)))
def qStepL (K : PySem.W.Frag) (Q : VK) (x : V) (l u o : Option Int) : Hp → Prop := fun H4 => ∃ (a : Addr) (xs : List V) (c : Int), x = .ref a ∧ o = some c ∧ c ≠ 0 ∧ SqL K H4 a xs ∧ ∀ p, H4 p = none → Q (.ref p) (upd H4 p (.lst (stepL xs l u c)))
theorem stepL_le {α : Type} (xs : List α) (lo hi : Option Int) (c : Int) (ys : Array Value) (h : ys.size = xs.length) : (stepL xs lo hi c).length ≤ xs.length := by
  have e : (stepL xs lo hi c).length = (slicePick ys lo hi (some c)).size := by
    unfold stepL slicePick
    rw [h, List.size_toArray]
    have key : ∀ is : List Nat, (is.filterMap (xs[·]?)).length = (is.filterMap (ys[·]?)).length := fun is => by
      induction is with
      | nil => rfl
      | cons i is ih =>
        rw [List.filterMap_cons, List.filterMap_cons]
        by_cases hi : i < xs.length
        · rw [List.getElem?_eq_getElem hi, Array.getElem?_eq_getElem (by omega)]
          simp [ih]
        · rw [List.getElem?_eq_none (by omega), Array.getElem?_eq_none (by omega)]
          exact ih
    exact key _
  rw [e, ← h]
  exact slicePick_size_le ys lo hi (some c)
theorem pe_stepL {X : Cx} {K : PySem.W.Frag} {e st : Expr} {lo hi : Option Expr} {te : TE} {tl tu ts : TO} {p2 pos : Pos} (hK : X.K = K) (he : PE X e te) (hl : PO X lo tl) (hu : PO X hi tu) (hst : PO X (some st) ts) : PE X (.Subscript e (.Slice lo hi (some st) p2) pos) (tStepL K te tl tu ts) := by
  subst hK
  refine ⟨fun pins s σ H Q I h => ?_⟩
  refine PyProof.Rows.Subscript_ (thn (he.run pins s σ H _ I h) fun v s1 ⟨x, H1, I1, r1, q1⟩ => ?_)
  refine wpAny_Slice (thn (hl.run pins s1 σ H1 _ I1 q1) fun vl s2 ⟨l, H2, I2, pl, q2⟩ => thn (hu.run pins s2 σ H2 _ I2 q2) fun vu s3 ⟨u, H3, I3, pu, q3⟩ => ?_)
  refine thn (hst.run pins s3 σ H3 _ I3 q3) fun vs s4 ⟨o, H4, I4, ps, a, xs, c, ex, eo, h0, hx, q⟩ => ?_
  subst ex eo
  obtain rfl : v = Value.ref a := r1
  have I5 : Inv X pins σ H4 { s4 with heap := s4.heap.push { cls := .type "slice", data := .fields #[vl, vu, vs] } } := I4.kept (t' := s4.toks) fun b ob q => Heap.get?_push_of_some _ q
  obtain ⟨its, r, ht, hz⟩ := I5.list hx
  have hlen := r.length
  show wpAny (model X.prog X.w) X.A (PyProof.Rows.subscriptTail e (.Slice lo hi (some st) p2) (.ref a) (.ref s4.heap.objs.size)) (EP X pins σ Q) X.xe { s4 with heap := s4.heap.push { cls := .type "slice", data := .fields #[vl, vu, vs] } }
  refine PyProof.Rows.tail_any (ops := [.ref a, .ref s4.heap.objs.size]) ht.isList.typeIs (PySem.slot_list_getitem.lookup) ?_ (by with_unfolding_all rfl)
  refine wpAny_getItem_list_slice ht.isList (Heap.IsSliceOf.new _ vl vu vs) pl pu ps (fun z => h0 (Option.some.inj z)) ?_ (by rw [List.size_toArray]; omega)
  refine ⟨.ref _, _, I5.laid (t' := s4.toks) (o := .lst (stepL xs l u c)) (fun b ob q => Heap.get?_push_of_some _ q) (Nat.le_refl _) ?_, rfl, q _ (I5.hok.fresh (Nat.le_refl _))⟩
  have es : its.toArray.size = xs.length := by rw [List.size_toArray]; omega
  refine ⟨Nat.le_trans (stepL_le xs l u c its.toArray es) (by omega), (slicePick its.toArray l u (some c)).toList, 0, ?_, ?_⟩
  · unfold stepL slicePick
    rw [es]
    have := pd_pick r (sliceRange (sliceBounds l u (some c) xs.length).1 (sliceBounds l u (some c) xs.length).2.1 (sliceBounds l u (some c) xs.length).2.2)
    simpa using this
  · exact Heap.get?_push_size _ rfl
section
variable {α : Type} {t : Rp α} {K : PySem.W.Frag} {H F : Hp} {Q : VK} {p : Addr} {vs : List V} {xs : List α} {te : TE} {tl tu ts : TO} {σ : L2.St}
theorem n_stepL (h : te σ H fun x H1 => tl σ H1 fun l H2 => tu σ H2 fun u H3 => ts σ H3 fun o H4 => qStepL K Q x l u o H4) : tStepL K te tl tu ts σ H Q := h
theorem v_stepLF {lo hi : Option Int} {c : Int} (hs : Sub F H) (hq : SqL K H p vs) (hr : Al t F vs xs) (hc : decide (c ≠ 0) = true) (k : ∀ p' us F' H', Gr [] F H F' H' → F' p' = some (.lst us) → Al t F' us (stepL xs lo hi c) → Q (.ref p') H') : qStepL K Q (.ref p) lo hi (some c) H :=
  ⟨p, vs, c, rfl, rfl, of_decide_eq_true hc, hq, fun l hl => k l _ _ _ (gr_newF hs hl) upd_same (Al.mono (by
    unfold stepL
    rw [al_len hr]
    exact pd_pick hr _) (Sub.up1 (hs.nn hl)))⟩
theorem v_stepLM {lo hi : Option Int} {c : Int} (hs : Sub F H) (hq : SqL K H p vs) (hr : Al t F vs xs) (hc : decide (c ≠ 0) = true) (k : ∀ p' us H', H p' = none → Gr [] F H F H' → F p' = none → H' p' = some (.lst us) → Al t F us (stepL xs lo hi c) → Q (.ref p') H') : qStepL K Q (.ref p) lo hi (some c) H :=
  ⟨p, vs, c, rfl, rfl, of_decide_eq_true hc, hq, fun l hl => k l _ _ hl (gr_newM hs hl) (hs.nn hl) upd_same (by
    unfold stepL
    rw [al_len hr]
    exact pd_pick hr _)⟩
end
/-! ### list(range(..)) -/
theorem rgV_eq (a b : Int) : rgV a b = (upto a b).map V.int := by
  unfold rgV upto
  rw [List.map_map]; rfl
section
variable {K : PySem.W.Frag} {H F : Hp} {Q : VK} {i j : Int} {l : List Int} {ta tb : TE} {σ : L2.St}
def qLrg (a b : Int) (Q : VK) : Hp → Prop := fun H1 => RgOk a b ∧ ∀ q, H1 q = none → Q (.ref q) (upd H1 q (.lst (rgV a b)))
theorem n_lrg1 (h : ta σ H fun x H1 => ∃ n, x = .int n ∧ qLrg 0 n Q H1) : tLstRg (tRg1 ta) σ H Q := h
theorem n_lrg2 (h : ta σ H fun x H1 => tb σ H1 fun y H2 => ∃ i j, x = .int i ∧ y = .int j ∧ qLrg i j Q H2) : tLstRg (tRg2 ta tb) σ H Q := h
theorem lrg_ok (h : uptoM i j = some l) (hz : szB l.length = true) : RgOk i j ∧ upto i j = l := by
  obtain ⟨⟨h1, h2, h3, h4⟩, rfl⟩ := uptoM_ok h
  have := sz_ok hz
  rw [upto_len, sizeLine_eq] at this
  exact ⟨⟨h1, h2, h3, h4, this⟩, rfl⟩
theorem q_lrgF (hs : Sub F H) (h : uptoM i j = some l) (hz : szB l.length = true) (k : ∀ p' us F' H', Gr [] F H F' H' → F' p' = some (.lst us) → Al eI F' us l → Q (.ref p') H') : qLrg i j Q H := by
  obtain ⟨r, rfl⟩ := lrg_ok h hz
  exact ⟨r, fun p hp => k p _ _ _ (gr_newF hs hp) upd_same (by rw [rgV_eq]; exact al_ofint _)⟩
theorem q_lrgM (hs : Sub F H) (h : uptoM i j = some l) (hz : szB l.length = true) (k : ∀ p' us H', H p' = none → Gr [] F H F H' → F p' = none → H' p' = some (.lst us) → Al eI F us l → Q (.ref p') H') : qLrg i j Q H := by
  obtain ⟨r, rfl⟩ := lrg_ok h hz
  exact ⟨r, fun p hp => k p _ _ hp (gr_newM hs hp) (hs.nn hp) upd_same (by rw [rgV_eq]; exact al_ofint _)⟩
theorem v_lrg1F (hs : Sub F H) (h : uptoM 0 j = some l) (hz : szB l.length = true) (k : ∀ p' us F' H', Gr [] F H F' H' → F' p' = some (.lst us) → Al eI F' us l → Q (.ref p') H') : ∃ n, V.int j = .int n ∧ qLrg 0 n Q H := ⟨j, rfl, q_lrgF hs h hz k⟩
theorem v_lrg1M (hs : Sub F H) (h : uptoM 0 j = some l) (hz : szB l.length = true) (k : ∀ p' us H', H p' = none → Gr [] F H F H' → F p' = none → H' p' = some (.lst us) → Al eI F us l → Q (.ref p') H') : ∃ n, V.int j = .int n ∧ qLrg 0 n Q H := ⟨j, rfl, q_lrgM hs h hz k⟩
theorem v_lrg2F (hs : Sub F H) (h : uptoM i j = some l) (hz : szB l.length = true) (k : ∀ p' us F' H', Gr [] F H F' H' → F' p' = some (.lst us) → Al eI F' us l → Q (.ref p') H') : ∃ a b, V.int i = .int a ∧ V.int j = .int b ∧ qLrg a b Q H := ⟨i, j, rfl, rfl, q_lrgF hs h hz k⟩
theorem v_lrg2M (hs : Sub F H) (h : uptoM i j = some l) (hz : szB l.length = true) (k : ∀ p' us H', H p' = none → Gr [] F H F H' → F p' = none → H' p' = some (.lst us) → Al eI F us l → Q (.ref p') H') : ∃ a b, V.int i = .int a ∧ V.int j = .int b ∧ qLrg a b Q H := ⟨i, j, rfl, rfl, q_lrgM hs h hz k⟩
end
/-! ### a number in a tuple or list of numbers; a comprehension in a comprehension -/
theorem c_inQ {X : Cx} {K : PySem.W.Frag} (hK : X.K = K) : OpR X (compareOp .In) (rIn K false) := by subst hK; exact op_in_seq
theorem c_notInQ {X : Cx} {K : PySem.W.Frag} (hK : X.K = K) : OpR X (compareOp .NotIn) (rIn K true) := by subst hK; exact op_notIn_seq
theorem inV_int (a : Int) (xs : List Int) : inV (.int a) (xs.map V.int) = decide (a ∈ xs) := by
  unfold inV
  induction xs with
  | nil => rfl
  | cons x xs ih =>
    rw [List.map_cons, List.any_cons, ih]
    show ((x == a) || decide (a ∈ xs)) = decide (a ∈ x :: xs)
    rw [Bool.eq_iff_iff, Bool.or_eq_true, decide_eq_true_eq, decide_eq_true_eq, beq_iff_eq, List.mem_cons, eq_comm]
theorem flat_int (xs : List Int) : (xs.map V.int).all flatV = true := by
  rw [List.all_map, List.all_eq_true]
  intros; rfl
theorem v_inQ {K : PySem.W.Frag} {H F : Hp} {Q : VK} {p : Addr} {vs : List V} {xs : List Int} {a : Int} (hq : SqL K H p vs ∨ SqT K H p vs) (hr : Al eI F vs xs) (k : Q (.bl (decide (a ∈ xs))) H) : rIn K false (.int a) (.ref p) H Q := by
  have e := al_int hr
  subst e
  exact ⟨p, _, rfl, hq, rfl, flat_int xs, by rw [inV_int]; exact k⟩
theorem v_notInQ {K : PySem.W.Frag} {H F : Hp} {Q : VK} {p : Addr} {vs : List V} {xs : List Int} {a : Int} (hq : SqL K H p vs ∨ SqT K H p vs) (hr : Al eI F vs xs) (k : Q (.bl (!decide (a ∈ xs))) H) : rIn K true (.int a) (.ref p) H Q := by
  have e := al_int hr
  subst e
  exact ⟨p, _, rfl, hq, rfl, flat_int xs, by rw [inV_int]; exact k⟩
theorem relab_lookup (c : Str → NameKind → Bool) : ∀ (ns : List (Str × NameKind)) (x : Str), (ns.lookup x = some .cell ∨ ns.lookup x = some .free) →
    ((ns.map fun p => if c p.1 p.2 = true then (p.1, NameKind.cell) else (p.1, p.2)).lookup x = some .cell ∨ (ns.map fun p => if c p.1 p.2 = true then (p.1, NameKind.cell) else (p.1, p.2)).lookup x = some .free)
  | [], x, h => by simp at h
  | (n, k) :: r, x, h => by
    rw [List.map_cons]
    rw [List.lookup_cons] at h
    cases hx : x == n with
    | true =>
      rw [hx] at h
      cases hc : c n k with
      | true =>
        rw [if_pos rfl, List.lookup_cons, hx]
        exact .inl rfl
      | false =>
        rw [if_neg (by decide), List.lookup_cons, hx]
        exact h
    | false =>
      rw [hx] at h
      have ih := relab_lookup c r x h
      cases hc : c n k with
      | true =>
        rw [if_pos rfl, List.lookup_cons, hx]
        exact ih
      | false =>
        rw [if_neg (by decide), List.lookup_cons, hx]
        exact ih
theorem blk_in {N : List Str} {sc scope : Scope} {own : List (Str × Nat)} {cl : List (Str × Addr)} {C : Addr} {env : Env} (h : BlkOk N sc scope own) : BlkOk N (compEnvC sc cl C env).scope scope own :=
  ⟨h.kind, h.uniq, h.ix, fun y hy e => relab_lookup (fun n k => k == NameKind.free && env.scope.kind == .function && env.kindOf n == some .cell) sc.names y.1 (h.free y hy e), h.own⟩
/-! ### range downwards; a raise that is never reached -/
theorem st_no {X : Cx} {st : Stmt} : PS X st tNoS := ⟨fun _ _ _ _ _ _ h => h.elim⟩
def down (i j : Int) : List Int := (List.range (i - j).toNat).map fun k : Nat => i - (k : Int)
def downM (i j : Int) : Option (List Int) := need (rngB i && rngB j) (down i j)
theorem downM_ok {lo hi : Int} {l : List Int} (h : downM lo hi = some l) : (-(2 ^ 62) ≤ lo ∧ lo < 2 ^ 62 ∧ -(2 ^ 62) ≤ hi ∧ hi < 2 ^ 62) ∧ down lo hi = l := by
  obtain ⟨h1, h2⟩ := need_ok h
  unfold rngB at h1
  rw [Bool.and_eq_true] at h1
  have a := of_decide_eq_true h1.1
  have b := of_decide_eq_true h1.2
  exact ⟨⟨a.1, a.2, b.1, b.2⟩, h2⟩
section
variable {H : Hp} {σ : L2.St}
def qRng3 (R : RIt) : List V → Hp → Prop := fun vs H1 => ∃ (i j c : Int) (n : Nat), vs = [.int i, .int j, .int c] ∧ RgC i j c n ∧ R (Itc i c n) H1
theorem n_rng3 {ta : TA} {R : RIt} (h : ta σ H (qRng3 R)) : iRng3 ta σ H R := h
theorem v_rng3 {lo hi c : Int} {l : List Int} {R : It → Hp → Prop} (hc : c = -1) (h : downM lo hi = some l) (k : R (Itc lo (-1) (lo - hi).toNat) H) : qRng3 R [.int lo, .int hi, .int c] H := by
  subst hc
  obtain ⟨⟨h1, h2, h3, h4⟩, _⟩ := downM_ok h
  exact ⟨lo, hi, -1, _, rfl, RgC.neg h1 h2 h3 h4, k⟩
theorem sr_C {lo hi : Int} {l : List Int} (h : downM lo hi = some l) : Sr (Itc lo (-1) (lo - hi).toNat) (fun _ => True) l (fun H x H' a => H' = H ∧ x = .int a) := by
  rw [← (downM_ok h).2]
  have hl : (down lo hi).length = (lo - hi).toNat := by unfold down; rw [List.length_map, List.length_range]
  refine ⟨fun i H hi' _ => by rw [hl] at hi'; exact hi', fun H _ => by rw [hl]; exact Nat.le_refl _, fun i H x H' _ y a ha => ⟨y.1, ?_⟩⟩
  rw [y.2]
  unfold down at ha
  rw [List.getElem?_map] at ha
  cases e : (List.range (lo - hi).toNat)[i]? with
  | none => rw [e] at ha; cases ha
  | some j =>
    rw [e] at ha
    have e2 : lo - (j : Int) = a := Option.some.inj ha
    have e3 : j = i := by
      obtain ⟨h1, h2⟩ := List.getElem?_eq_some_iff.mp e
      rw [List.getElem_range] at h2; exact h2.symm
    subst e3
    congr 1
    omega
end
/-! ### tuples one behind the other; is True -/
section
variable {X : Cx} {K : PySem.W.Frag}
theorem c_catA (hK : X.K = K) : OpR X (binaryOp .Add) (rCatA K) := by subst hK; exact op_catA
end
theorem v_catA {α : Type} {t : Rp α} {K : PySem.W.Frag} {F H : Hp} {Q : VK} {p q : Addr} {vs us : List V} {xs ys zs : List α} (hs : Sub F H) (hp : F p = some (.tup vs)) (h1 : Al t F vs xs) (hq : F q = some (.tup us)) (h2 : Al t F us ys) (h : catLM xs ys = some zs)
    (k : ∀ v F' H', Gr [] F H F' H' → (eT t).r F' v zs → Q v H') : rCatA K (.ref p) (.ref q) H Q := by
  obtain ⟨hz, rfl⟩ := need_ok h
  have hz := sz_ok hz
  refine ⟨p, q, vs, us, rfl, rfl, .inl (.inl (hs _ _ hp)), .inl (.inl (hs _ _ hq)), by rw [al_len h1, al_len h2]; exact hz, fun e => ?_, fun _ e => ?_, fun _ _ l hl => ?_⟩
  · subst e
    cases h1
    exact k _ F H (Gr.refl hs) ⟨q, us, rfl, hq, h2⟩
  · subst e
    cases h2
    exact k _ F H (Gr.refl hs) ⟨p, vs, rfl, hp, by rw [List.append_nil]; exact h1⟩
  · exact k _ _ _ (gr_newF hs hl) ⟨l, vs ++ us, rfl, upd_same, Al.mono (pd_append h1 h2) (Sub.up1 (hs.nn hl))⟩
theorem v_isBl {H : Hp} {Q : VK} {a b : Bool} (k : Q (.bl (decide (a = b))) H) : rIsB (.bl a) (.bl b) H Q := ⟨a, b, rfl, rfl, k⟩
theorem v_notBl {H : Hp} {Q : VK} {a b : Bool} (k : Q (.bl (!decide (a = b))) H) : rNotB (.bl a) (.bl b) H Q := ⟨a, b, rfl, rfl, k⟩
end U
set_option Elab.async false
set_option linter.all false
set_option maxRecDepth 100000
set_option maxHeartbeats 4000000
namespace U
open PySem PySem.Spec L2
/-! ### a thing of one's own that stays as it is from here on (locked for good) -/
def qFreeze (Q : VK) : VK := fun x H1 => ∃ d u, x = .ref d ∧ H1 d = some u ∧ Mut (some u) ∧ ∀ o, Q x (upd H1 d (.frz o u))
def tFreeze (te : TE) : TE := fun σ H Q => te σ H (qFreeze Q)
theorem pe_freeze {X : Cx} {e : Expr} {te : TE} (he : PE X e te) : PE X e (tFreeze te) := by
  refine ⟨fun pins s σ H Q I h => ?_⟩
  refine thn (he.run pins s σ H _ I h) fun v s1 ⟨x, H1, I1, r1, d, u, ex, hd, mu, q⟩ => ?_
  obtain ⟨od, I2⟩ := I1.lock hd mu
  exact ⟨x, _, I2, r1, q od⟩
section
variable {W : List Addr} {F0 H0 F H : Hp} {p : Addr} {u : HO} {Q : VK} {σ : L2.St} {te : TE}
theorem n_freeze (h : te σ H (qFreeze Q)) : tFreeze te σ H Q := h
theorem v_freeze (g : Gr W F0 H0 F H) (m : Mu W H0 F H p u) (h0 : H0 p = none) (mu : Mut (some u))
    (k : ∀ o F' H', F' p = some (.frz o u) → Sub F F' → Gr W F0 H0 F' H' → (∀ q w, q ≠ p → Mu W H0 F H q w → Mu W H0 F' H' q w) → Q (.ref p) H') : qFreeze Q (.ref p) H := by
  refine ⟨p, u, rfl, m.hp, mu, fun o => k o (upd F p (.frz o u)) _ upd_same (Sub.up1 m.fr) ⟨g.ff.trans (Sub.up1 m.fr), fun a w e => ?_, fun a w hn e => ?_, fun a e => ?_, fun a e n => ?_⟩ fun q w ne m' => ⟨by rw [upd_ne ne]; exact m'.fr, by rw [upd_ne ne]; exact m'.hp, m'.own⟩⟩
  · by_cases z : a = p
    · subst z; rw [upd_same] at e ⊢; exact e
    · rw [upd_ne z] at e ⊢; exact g.fh a w e
  · have z : a ≠ p := fun z => by rw [z, h0] at e; cases e
    rw [upd_ne z]; exact g.hh a w hn e
  · by_cases z : a = p
    · subst z; exact absurd h0 e
    · rw [upd_ne z]; exact g.lv a e
  · rw [upd_ne (fun z => by rw [z] at e; exact e h0)]; exact g.out a e n
end
/-! ### a dict locked: read, walked, sorted -/
section
variable {α β : Type} {t : Rp α} {D : Dt t} {A : Ke D} {u : Rp β}
def eDL (A : Ke D) (u : Rp β) : Rp (List (α × β)) := ⟨fun F v x => ∃ p o kvs, v = .ref p ∧ F p = some (.frz o (.dK kvs)) ∧ Pr (dyK A) u F kvs x, fun s ⟨p, o, kvs, e, q, h⟩ => ⟨p, o, kvs, e, s _ _ q, h.mono s⟩⟩
variable [DecidableEq α] {F H : Hp} {p : Addr} {o : Obj} {kvs : List (Key × V)} {xs : List (α × β)} {y w : V} {a : α} {b : β} {Q : VK}
theorem v_dgetL (hs : Sub F H) (hp : F p = some (.frz o (.dK kvs))) (h : Pr (dyK A) u F kvs xs) (hk : t.r F y a) (e : lkp xs a = some b) (k : ∀ v, u.r F v b → Q v H) : qDGet y Q (.ref p) H := by
  obtain ⟨v, e2, r⟩ := pr_some (Y := dyK A) h e
  exact ⟨p, v, rfl, .inl ⟨kvs, A.k a, .inr ⟨o, hs _ _ hp⟩, A.r hk, e2.symm⟩, k v r⟩
theorem v_dinL (hs : Sub F H) (hp : F p = some (.frz o (.dK kvs))) (h : Pr (dyK A) u F kvs xs) (hk : t.r F y a) (k : Q (.bl (inD xs a)) H) : qDIn y Q (.ref p) H :=
  ⟨p, _, rfl, .inl ⟨kvs, A.k a, .inr ⟨o, hs _ _ hp⟩, A.r hk, rfl⟩, by have := pr_is (Y := dyK A) (a := a) h; rw [← this] at k; exact k⟩
theorem v_dnotinL (hs : Sub F H) (hp : F p = some (.frz o (.dK kvs))) (h : Pr (dyK A) u F kvs xs) (hk : t.r F y a) (k : Q (.bl (!inD xs a)) H) : qDNotIn y Q (.ref p) H :=
  ⟨p, _, rfl, .inl ⟨kvs, A.k a, .inr ⟨o, hs _ _ hp⟩, A.r hk, rfl⟩, by have := pr_is (Y := dyK A) (a := a) h; rw [← this] at k; exact k⟩
def qLenD : RCl := fun xs H Q => ∃ a kvs, xs = [V.ref a] ∧ Rd H a (.dK kvs) ∧ Q (.int kvs.length) H
theorem c_lenD {X : Cx} : CallR X (.builtin "len") qLenD := by
  intro pins s σ H xs us Q I r h
  obtain ⟨a, kvs, rfl, ha, q⟩ := h
  obtain ⟨u, rfl, ru⟩ := vals1 r
  cases ru
  exact d_len I ha fun t s' I' => ⟨.int kvs.length, H, I', ⟨t, rfl⟩, q⟩
theorem v_lenDL (hs : Sub F H) (hp : F p = some (.frz o (.dK kvs))) (h : Pr (dyK A) u F kvs xs) (k : Q (.int (xs.length : Int)) H) : qLenD [.ref p] H Q :=
  ⟨p, kvs, rfl, .inr ⟨o, hs _ _ hp⟩, by
    have e : (kvs : List (Key × V)).length = xs.length := pr_len (Y := dyK A) h
    rw [e]; exact k⟩
theorem v_lenDM (hp : H p = some (.dK kvs)) (h : Pr (dyK A) u F kvs xs) (k : Q (.int (xs.length : Int)) H) : qLenD [.ref p] H Q :=
  ⟨p, kvs, rfl, .inl hp, by
    have e : (kvs : List (Key × V)).length = xs.length := pr_len (Y := dyK A) h
    rw [e]; exact k⟩
end
section
variable {σ : L2.St} {F H : Hp} {p : Addr} {o : Obj} {kvs : List (Key × V)} {R : RIt} {td : TE} {β : Type} {u : Rp β}
def qKeys (R : RIt) : VK := fun x H1 => ∃ d o, x = .ref d ∧ ((∃ kvs, H1 d = some (.frz o (.dK kvs)) ∧ R (Itk d o kvs) H1) ∨ ∃ kvs, H1 d = some (.frz o (.dT kvs)) ∧ R (Itkt d o kvs) H1)
theorem n_keys (h : td σ H (qKeys R)) : iKeys td σ H R := h
theorem v_keys (hs : Sub F H) (hp : F p = some (.frz o (.dK kvs))) (k : R (Itk p o kvs) H) : qKeys R (.ref p) H := ⟨p, o, rfl, .inl ⟨kvs, hs _ _ hp, k⟩⟩
theorem sr_KS {xs : List (Sg × β)} (h : Pr (dyK keS) u F kvs xs) (hz : (xs.all fun x => szB x.1.length) = true) : Sr (Itk p o kvs) (fun H => H p = some (.frz o (.dK kvs))) (xs.map Prod.fst) (fun H x H' a => H' = H ∧ eS.r F x a) := by
  have hl : (kvs : List (Key × V)).length = xs.length := pr_len (Y := dyK keS) h
  refine ⟨fun i H hi g => ⟨g, by rw [List.length_map] at hi; show i < kvs.length; rw [hl]; exact hi⟩, fun H g => ⟨g, by rw [List.length_map, ← hl]; exact Nat.le_refl _⟩, fun i H x H' g y a ha => ⟨y.1, ?_⟩⟩
  obtain ⟨_, k, v, e1, e2⟩ := y
  rw [List.getElem?_map] at ha
  cases e : xs[i]? with
  | none => rw [e] at ha; cases ha
  | some z =>
    rw [e] at ha
    have ha : z.1 = a := Option.some.inj ha
    obtain ⟨kv, e3, r⟩ := pd_get h e
    have e4 : kv = (k, v) := Option.some.inj (e3.symm.trans e1)
    subst e4
    have r1 : k = Sum.inr (S z.1) := r.1
    rw [e2, r1, ← ha]
    exact ⟨rfl, sz_ok (List.all_eq_true.mp hz z (List.mem_of_getElem? e))⟩
theorem sr_KI {xs : List (Int × β)} (h : Pr (dyK keI) u F kvs xs) : Sr (Itk p o kvs) (fun H => H p = some (.frz o (.dK kvs))) (xs.map Prod.fst) (fun H x H' a => H' = H ∧ eI.r F x a) := by
  have hl : (kvs : List (Key × V)).length = xs.length := pr_len (Y := dyK keI) h
  refine ⟨fun i H hi g => ⟨g, by rw [List.length_map] at hi; show i < kvs.length; rw [hl]; exact hi⟩, fun H g => ⟨g, by rw [List.length_map, ← hl]; exact Nat.le_refl _⟩, fun i H x H' g y a ha => ⟨y.1, ?_⟩⟩
  obtain ⟨_, k, v, e1, e2⟩ := y
  rw [List.getElem?_map] at ha
  cases e : xs[i]? with
  | none => rw [e] at ha; cases ha
  | some z =>
    rw [e] at ha
    have ha : z.1 = a := Option.some.inj ha
    obtain ⟨kv, e3, r⟩ := pd_get h e
    have e4 : kv = (k, v) := Option.some.inj (e3.symm.trans e1)
    subst e4
    have r1 : k = Sum.inl z.1 := r.1
    rw [e2, r1, ← ha]
    exact rfl
end
/-- a new dict told -/
def NewD {α β : Type} {t : Rp α} (Y : Dy t) (u : Rp β) (H F' H' : Hp) (v : V) (x : List (α × β)) : Prop := ∃ p kvs, v = .ref p ∧ H p = none ∧ F' p = none ∧ H' p = some (Y.ho kvs) ∧ Pr Y u F' kvs x
/-- a told pair: what stays, and a new list -/
def NewP {α β : Type} (ta : Rp α) (tb : Rp β) (H F' H' : Hp) (v : V) (r : α × List β) : Prop := ∃ p q x vs, v = .ref p ∧ F' p = some (.tup [x, .ref q]) ∧ ta.r F' x r.1 ∧ H q = none ∧ F' q = none ∧ H' q = some (.lst vs) ∧ Al tb F' vs r.2
theorem v_ixRaw1 {K : PySem.W.Frag} {F H : Hp} {Q : VK} {p : Addr} {x y : V} (hs : Sub F H) (hq : F p = some (.tup [x, y])) (k : Q y H) : rIxT K (.ref p) (.int 1) H Q := ⟨p, _, 1, y, rfl, rfl, .inl (.inl (hs _ _ hq)), rfl, k⟩
end U
set_option Elab.async false
set_option linter.all false
set_option maxRecDepth 100000
set_option maxHeartbeats 4000000
namespace U
open PySem PySem.Spec L2 PySem.W PyProof.Rows
/-! ### sorted(d): the keys in order, however many -/
theorem each_flat {h : Heap} {a : Addr} : ∀ {ks : List Key} {us : List Value}, Vals (ks.map kV) us → EachIs (fun u (b : V × PyData) => ∃ as, Reads h u b.2 as ∧ a ∉ as) us ((ks.map kV).zip (ks.map datK))
  | [], _, .nil => .nil
  | .inl i :: ks, _, .cons r t => by
    obtain ⟨k, rfl⟩ := r
    exact .cons ⟨[], .int _ _, by simp⟩ (each_flat t)
  | .inr x :: ks, _, .cons r t => by
    obtain ⟨k, rfl⟩ := r
    exact .cons ⟨[], .str _ _, by simp⟩ (each_flat t)
def qSortD : RCl := fun xs H Q => ∃ (a : Addr) (kvs : List (Key × V)), xs = [V.ref a] ∧ Rd H a (.dK kvs) ∧ AllAlike (kvs.map fun kv => datK kv.1) ∧ Sortable (kvs.map fun kv => datK kv.1) ∧
  ∀ l, H l = none → Q (.ref l) (upd H l (.lst (srtV (kvs.map fun kv => kV kv.1) (kvs.map fun kv => datK kv.1))))
theorem c_sortedDL {X : Cx} {n : Nat} (hr : Room n X.A) (hcalm : X.calm = true) : CallR X (.builtin "sorted") qSortD := by
  intro pins s σ H xs us Q I r q
  obtain ⟨a, kvs, ex, hd, ha, hs, q⟩ := q
  subst ex
  obtain ⟨u, eu, rx⟩ := vals1 r
  subst eu
  cases rx
  obtain ⟨z, lo, vs, rel, dd⟩ := dk_rd I.hok hd
  obtain ⟨ep, hat⟩ := dd.dictAt
  have hl : kvs.length = vs.length := Paired.length rel
  have h16 : vs.length ≤ sizeLine := by omega
  refine Calls.call_function_entry PyProof.Rows.kind_sorted PyProof.Rows.plain_sorted PyProof.Rows.entry_sorted (PyProof.Rows.args_sorted1 _) ?_
  unfold Builtin.«sorted»
  refine wpAny_bind (m := checkCount "sorted" 1 1 _) (wpAny_pure ?_)
  refine wpAny_bind (PySem.W.kdu_collect (A := X.A.in1) (PySem.W.kdl_dict (knd := mixKind X.prog X.w) (kvs := vs) (ep := ep) lo) (I.ok.hd hcalm) hat h16 fun h' tk acc hk hacc => ?_)
  have hal : acc.toList.length = vs.length := by rw [Array.length_toList, hacc.1]
  have rv0 : Vals (vs.map fun p => kV p.1) acc.toList := keys_at hal fun j v e => hacc.2 j v (by rw [← Array.getElem?_toList]; exact e)
  have ek : (vs.map fun p => kV p.1) = (kvs.map (·.1)).map kV := by
    rw [rel.keys, List.map_map]; rfl
  have rv : Vals ((kvs.map (·.1)).map kV) acc.toList := by rw [← ek]; exact rv0
  have I1 : Inv X pins σ H { s with heap := h', toks := tk } := I.kept hk
  refine wpAny_bind (wpAny_newList ?_ (by rw [hal]; exact h16))
  have hoL : (h'.push (seqObj "list" acc.toList.toArray 0)).get? h'.objs.size = some (seqObj "list" acc.toList.toArray 0) := Heap.get?_push_size _ rfl
  show wpAny _ _ _ _ _ { s with heap := h'.push (seqObj "list" acc.toList.toArray 0), toks := tk }
  have e1 : ((kvs.map (·.1)).map kV) = kvs.map fun kv => kV kv.1 := by rw [List.map_map]; rfl
  have e2 : ((kvs.map (·.1)).map datK) = kvs.map fun kv => datK kv.1 := by rw [List.map_map]; rfl
  have hlen : ((kvs.map (·.1)).map kV).length = ((kvs.map (·.1)).map datK).length := by simp
  have es := map_snd_zip _ _ hlen
  refine wpAny_bind (wpAny_holding (PySem.W.list_sort_data (s := { s with heap := h'.push (seqObj "list" acc.toList.toArray 0), toks := tk }) (R := fun u (b : V × PyData) => RelV b.1 u) (enc := Prod.snd) (bs := ((kvs.map (·.1)).map kV).zip ((kvs.map (·.1)).map datK)) hoL (each_zip rv hlen) (each_flat rv)
    (by rw [es, e2]; exact ha) (by rw [es, e2]; exact hs) (by rw [List.length_zip]; simp; omega) (fun b hb => ?_) fun out ho eo => ?_))
  · have hb2 : b.2 ∈ ((kvs.map (·.1)).map datK) := (List.of_mem_zip (a := b.1) (b := b.2) hb).2
    obtain ⟨k, _, e⟩ := List.mem_map.mp hb2
    have hdp : b.2.depth ≤ 1 := by
      rw [← e]
      cases k <;> simp [datK, PyData.depth]
    have := hr.un
    show X.A.units + 1 + 1 + _ < _
    omega
  · obtain ⟨e', he'⟩ := PyProof.Rows.sortedHeap_at (vs := acc.toList) (out := out.toArray) hoL
    refine wpAny_pure ⟨_, rfl, .ref h'.objs.size, upd H h'.objs.size (.lst (srtV (kvs.map fun kv => kV kv.1) (kvs.map fun kv => datK kv.1))), I1.laid (t' := tk) (fun b u e => ?_) (Nat.le_refl _)
      (show ObjOk X.prog X.w _ _ _ (.lst _) from ⟨?_, out, e', ?_, he'⟩), rfl, q _ (I1.hok.fresh (Nat.le_refl _))⟩
    · have hb : b < h'.objs.size := Heap.lt_size e
      rw [PyProof.Rows.sortedHeap_old (Nat.ne_of_lt hb) (by rw [size_push']; exact Nat.lt_succ_of_lt hb)]
      exact Heap.get?_push_of_some _ e
    · unfold srtV
      rw [List.length_map, List.length_mergeSort, List.length_zip]
      simp
      omega
    · unfold srtV
      rw [← e1, ← e2]
      exact each_fst eo
section
variable {β : Type} {u : Rp β} {F H : Hp} {Q : VK} {p : Addr} {kvs : List (Key × V)} {xs : List (Sg × β)}
theorem keys_txt (h : Pr (dyK keS) u F kvs xs) : (xs.all fun x => szB x.1.length) = true → Al eS F (kvs.map fun kv => kV kv.1) (xs.map Prod.fst) ∧ (kvs.map fun kv => datK kv.1) = (xs.map Prod.fst).map dS.d := by
  induction h with
  | nil => exact fun _ => ⟨.nil, rfl⟩
  | @cons kv x kvs xs r t ih =>
    intro hz
    rw [List.all_cons, Bool.and_eq_true] at hz
    obtain ⟨i1, i2⟩ := ih hz.2
    have r1 : kv.1 = Sum.inr (S x.1) := r.1
    refine ⟨.cons ⟨by show kV kv.1 = V.str (S x.1); rw [r1]; rfl, sz_ok hz.1⟩ i1, ?_⟩
    rw [List.map_cons, List.map_cons, List.map_cons, i2, r1]
    rfl
theorem v_sortDF (hs : Sub F H) (hd : Rd H p (.dK kvs)) (h : Pr (dyK keS) u F kvs xs) (hz : (xs.all fun x => szB x.1.length) = true) (k : ∀ p' us F' H', Gr [] F H F' H' → F' p' = some (.lst us) → Al eS F' us (srtL ltS (xs.map Prod.fst)) → Q (.ref p') H') : qSortD [.ref p] H Q := by
  obtain ⟨e1, e2⟩ := keys_txt h hz
  refine ⟨p, kvs, rfl, hd, by rw [e2]; exact so_alike soS _, by rw [e2]; exact so_sortable soS _, fun l hl => k l _ _ _ (gr_newF hs hl) upd_same (Al.mono (by rw [e2]; exact al_sorted soS e1) (Sub.up1 (hs.nn hl)))⟩
theorem v_sortDM (hs : Sub F H) (hd : Rd H p (.dK kvs)) (h : Pr (dyK keS) u F kvs xs) (hz : (xs.all fun x => szB x.1.length) = true) (k : ∀ p' us H', H p' = none → Gr [] F H F H' → F p' = none → H' p' = some (.lst us) → Al eS F us (srtL ltS (xs.map Prod.fst)) → Q (.ref p') H') : qSortD [.ref p] H Q := by
  obtain ⟨e1, e2⟩ := keys_txt h hz
  refine ⟨p, kvs, rfl, hd, by rw [e2]; exact so_alike soS _, by rw [e2]; exact so_sortable soS _, fun l hl => k l _ _ hl (gr_newM hs hl) (hs.nn hl) upd_same (by rw [e2]; exact al_sorted soS e1)⟩
end
/-! ### len of a text that is there; lists of unlike things -/
theorem v_lenSO {F H : Hp} {Q : VK} {v : V} {x : Option Sg} {b : Sg} (hr : (eO eS).r F v x) (h : x = some b) (k : Q (.int b.length) H) : qLenS [v] H Q := by
  subst h
  obtain ⟨_, e, hl⟩ := hr
  subst e
  exact v_lenS hl k
theorem v_mkLy {F H : Hp} {Q : VK} {us : List V} (hs : Sub F H) (hz : szB us.length = true) (k : ∀ p F' H', Gr [] F H F' H' → F' p = some (.lst us) → Q (.ref p) H') : qNewL Q us H := ⟨sz_ok hz, fun p hp => k _ _ _ (gr_newF hs hp) upd_same⟩
/-! ### a dict display of one item; get with None -/
def qDisp1 (p : Addr) (x y : V) (Q : VK) : Hp → Prop := fun H2 => H2 p = some (.dK []) ∧ ∃ kvs : List (Key × V), [(x, y)] = kvs.map (fun kv => (kV kv.1, kv.2)) ∧ kvs.length ≤ 15 ∧ Q (.ref p) (upd H2 p (.dK (mergeK [] kvs)))
def qDispN (P : Addr → Hp → Prop) (H : Hp) : Prop := ∀ p, H p = none → P p (upd H p (.dK []))
theorem n_disp1 {tk tv : TE} {σ : L2.St} {H : Hp} {Q : VK} (h : qDispN (fun p H1 => tk σ H1 fun x H2 => tv σ H2 fun y H3 => qDisp1 p x y Q H3) H) : L2.tDisp [(tk, tv)] σ H Q := h
theorem v_dispN {P : Addr → Hp → Prop} {F H : Hp} (hs : Sub F H) (k : ∀ p H', H p = none → Gr [] F H F H' → F p = none → H' p = some (.dK []) → P p H') : qDispN P H := fun p hp => k p _ hp (gr_newM hs hp) (hs.nn hp) upd_same
theorem v_disp1 {α : Type} {t : Rp α} {D : Dt t} {A : Ke D} {F H : Hp} {Q : VK} {p : Addr} {x y : V} {a : α} (hp : H p = some (.dK [])) (hk : t.r F x a) (k : Q (.ref p) (upd H p ((dyK A).ho (@putK _ (dyK A).dec [] ((dyK A).k a) y)))) : qDisp1 p x y Q H :=
  ⟨hp, [(A.k a, y)], by rw [A.r hk]; rfl, (by simp), k⟩
theorem v_dget2N {α : Type} {t : Rp α} {Y : Dy t} [DecidableEq α] {F H : Hp} {p : Addr} {kvs : List (Y.κ × V)} {xs : List (α × Int)} {y : V} {a : α} {Q : VK} (hs : Sub F H) (hp : H p = some (Y.ho kvs)) (h : Pr Y eI F kvs xs) (hk : t.r F y a) (k : ∀ v, (eO eI).r F v (lkp xs a) → Q v H) : qDGet2 y .non Q p H := by
  refine ⟨_, Y.get hs hp hk, ?_⟩
  cases e : lkp xs a with
  | none => rw [pr_none h e]; rw [e] at k; exact k _ rfl
  | some c =>
    obtain ⟨v, e2, r⟩ := pr_some h e
    rw [e2]; rw [e] at k
    have r1 : v = .int c := r
    exact k v ⟨(by rw [r1]; exact fun z => nomatch z), r⟩
end U
set_option Elab.async false
set_option linter.all false
set_option maxRecDepth 100000
set_option maxHeartbeats 4000000
namespace U
open PySem PySem.Spec L2 PySem.W PyProof.Rows
/-! ### len(set(xs)) -/
def qLenSet (K : PySem.W.Frag) {κ : Type} (R : Hp → V → κ → Prop) (most : Nat) : RCl := fun xs H Q => ∃ (p : Addr) (ks : List (κ × V)), xs = [V.ref p] ∧ SqL K H p (ks.map Prod.snd) ∧ (∀ x ∈ ks, R H x.2 x.1) ∧ ks.length ≤ most ∧
  ∀ L : List κ, L.Nodup → (∀ k, k ∈ L ↔ k ∈ ks.map Prod.fst) → Q (.int (L.length : Int)) H
section
variable {X : Cx} {e : Expr} {ta : TA} {p1 p2 q1 pos : Pos}
theorem pe_lenSetD {n : Nat} (D : Ekd X.prog X.w) {R : Hp → V → D.κ → Prop} (hR : RelD X D R) (hr : Room n X.A) (hg : Gl X "len") (hm : X.mg "len" = none) (hg2 : Gl X "set") (hm2 : X.mg "set" = none) (ha : PA X [e] ta)
    (he : starEach [e] X.env = [(false, eval e X.env)] := by rfl) : PE X (.Call (.Name "len" p1) [.Call (.Name "set" p2) [e] [] q1] [] pos) (tCB (qLenSet X.K R D.most) ta) := by
  refine ⟨fun pins s σ H Q I h => ?_⟩
  refine Call_ (ld_blt I hg hm bo_len ?_)
  refine PyProof.Rows.callWith_builtin1 (PyProof.Rows.args_cons ?_ rfl) rfl rfl
  refine Call_ (ld_blt I hg2 hm2 bo_set ?_)
  refine PyProof.Rows.callWith_type1 (thn (ha.run q1 pins s σ H _ I h) fun us s1 ⟨vs, H1, I1, r1, z⟩ => ?_) he rfl
  obtain ⟨p, ks, rfl, sq, rel, few, z⟩ := z
  obtain ⟨u, rfl, ru⟩ := vals1 r1
  obtain rfl : u = Value.ref p := ru
  obtain ⟨its, rv, pl, hz⟩ := I1.list sq
  obtain ⟨zs, rfl, rfl, hzs⟩ := zip_rel rv
  let f : (D.κ × V) × Value → D.κ × Value := fun z => (z.1.1, z.2)
  have un := hr.un
  have bd := D.bound
  refine set_made (D := D) (zs.map f) hr.hd pl.isList (by rw [List.map_map]; rfl) (fun q hq => ?_) (by rw [List.length_map] at few ⊢; exact few) (by omega) fun g tk L es ep t ok got kp => ?_
  · obtain ⟨y, hy, rfl⟩ := List.mem_map.mp hq
    exact hR pins σ H1 s1 y.1.2 y.2 y.1.1 I1 (rel y.1 (List.mem_map.mpr ⟨y, hy, rfl⟩)) (hzs y hy)
  refine PyProof.Rows.args_nil ?_
  obtain ⟨o, go, ex, da⟩ := D.ob ok
  have few2 := D.few ok
  have esz : es.size = L.length := by
    have := congrArg List.length (D.row ok)
    rw [List.length_map, List.length_map, Array.length_toList] at this
    exact this
  have I2 : Inv X pins σ H1 { s1 with heap := g, toks := tk } := I1.kept kp
  refine call_len_set go ex da (D.fits ok) (by rw [esz]; omega) ⟨.int es.size, H1, I2.tok _, ⟨_, rfl⟩, ?_⟩
  have := z (L.map Prod.fst) (D.nd ok) fun k => ?_
  · rw [List.length_map] at this
    rw [esz]; exact this
  · rw [List.map_map]
    have got2 := got.all
    rw [List.take_length] at got2
    constructor
    · intro h
      obtain ⟨q, hq, rfl⟩ := List.mem_map.mp h
      obtain ⟨y, hy, e⟩ := List.mem_map.mp (List.mem_of_mem_take (got.sub q hq))
      rw [← e]
      exact List.mem_map.mpr ⟨y, hy, rfl⟩
    · intro h
      obtain ⟨y, hy, rfl⟩ := List.mem_map.mp h
      exact got2 (f y) (List.mem_map.mpr ⟨y, hy, rfl⟩)
variable {n : Nat} {K : PySem.W.Frag}
theorem pe_lenSetK (hK : X.K = K) (hr : Room n X.A) (hg : Gl X "len") (hm : X.mg "len" = none) (hg2 : Gl X "set") (hm2 : X.mg "set" = none) (ha : PA X [e] ta) (he : starEach [e] X.env = [(false, eval e X.env)] := by rfl) :
    PE X (.Call (.Name "len" p1) [.Call (.Name "set" p2) [e] [] q1] [] pos) (tCB (qLenSet K RK 3999) ta) := by
  subst hK; exact pe_lenSetD (ekKey X.prog X.w) relK hr hg hm hg2 hm2 ha he
end
section
variable {α : Type} [DecidableEq α] {t : Rp α} {D : Dt t} {K : PySem.W.Frag} {F H : Hp} {p : Addr} {vs : List V} {xs : List α} {Q : VK}
theorem v_lenSet (A : Ke D) (hs : Sub F H) (hq : SqL K H p vs) (hr : Al t F vs xs) (hb : ssetB 3999 xs = true) (k : Q (.int ((uq xs).length : Int)) H) : qLenSet K RK 3999 [.ref p] H Q := by
  obtain ⟨e1, e2, e3⟩ := zip_parts hr
  have inj : ∀ x y : α, A.k x = A.k y → x = y := fun x y e => by
    have e2 : D.d x = D.d y := by rw [A.d, A.d, e]
    exact (D.eqv x y).mp (by rw [← e2]; exact (D.eqv x x).mpr rfl)
  refine ⟨p, (vs.zip xs).map fun z => (A.k z.2, z.1), rfl, ?_, fun x hx => ?_, ?_, fun L nd mem => ?_⟩
  · rw [List.map_map]
    show SqL K H p ((vs.zip xs).map Prod.fst)
    rw [e1]; exact hq
  · obtain ⟨z, hz, rfl⟩ := List.mem_map.mp hx
    exact A.r (e3 z hz)
  · have := of_decide_eq_true hb
    rw [List.length_map, List.length_zip]; omega
  · have ek : ((vs.zip xs).map fun z => (A.k z.2, z.1)).map Prod.fst = xs.map A.k := by
      rw [List.map_map]
      conv => rhs; rw [← e2]
      rw [List.map_map]; rfl
    rw [ek] at mem
    have nd2 : ((uq xs).map A.k).Nodup := List.pairwise_map.mpr ((uq_nodup xs).imp fun h e => h (inj _ _ e))
    have pm : L.Perm ((uq xs).map A.k) := (List.perm_ext_iff_of_nodup nd nd2).mpr fun a => by
      rw [mem, List.mem_map, List.mem_map]
      exact ⟨fun ⟨x, h, e⟩ => ⟨x, mem_uq.mpr h, e⟩, fun ⟨x, h, e⟩ => ⟨x, mem_uq.mp h, e⟩⟩
    rw [pm.length_eq, List.length_map]
    exact k
end
section
variable {α : Type} [DecidableEq α] {t : Rp α} {K : PySem.W.Frag} {H F : Hp} {Q : VK} {p : Addr} {vs : List V} {xs : List α} {a : α} {v w : V} {d e : PyData}
theorem v_inDi [i : Decidable (a ∈ xs)] (D : Dt t) (h1 : Dp K H v (D.d a)) (h2 : Dp K H w (.list (xs.map D.d))) (hb : eqB (D.d a) (.list (xs.map D.d)) = true) (k : Q (.bl (@decide (a ∈ xs) i)) H) : rInD K v w H Q :=
  v_inD D h1 h2 hb (Eq.mp (congrArg (fun j => Q (.bl (@decide (a ∈ xs) j)) H) (Subsingleton.elim i _)) k)
theorem v_notInDi [i : Decidable (a ∈ xs)] (D : Dt t) (h1 : Dp K H v (D.d a)) (h2 : Dp K H w (.list (xs.map D.d))) (hb : eqB (D.d a) (.list (xs.map D.d)) = true) (k : Q (.bl (!@decide (a ∈ xs) i)) H) : rNotInD K v w H Q :=
  v_notInD D h1 h2 hb (Eq.mp (congrArg (fun j => Q (.bl (!@decide (a ∈ xs) j)) H) (Subsingleton.elim i _)) k)
end
end U
set_option Elab.async false
set_option linter.all false
set_option maxRecDepth 100000
set_option maxHeartbeats 4000000
/-! ### list(zip(xs, ys)) of two lists -/
namespace U
open PySem PySem.Calls PyProof.Rows PyProof.V PySem.Spec PySem.W
open PySem.W (kdx_alive)
/-- new pairs drawn one by one, each stays -/
structure TuS (prog : Program) (w : World) (A : Around) (I S : Addr) (wr : List Addr) (n : Nat) (Rel : Nat → Value → Value → Prop) (St : Nat → Heap → Prop) : Prop where
  off : ∀ b ∈ wr, b < S
  self : I < S
  frame : ∀ i h h', St i h → (∀ b o, b ≠ S → h.get? b = some o → h'.get? b = some o) → St i h'
  item : ∀ i (s : Shared) (Q : Option Value → Shared → Prop) (E : Value → Shared → Prop), i < n → St i s.heap → S < s.heap.objs.size →
    (∀ k v h', Rel i k v → h'.get? s.heap.objs.size = some { cls := .type "tuple", data := .seq #[k, v] } → St (i + 1) h' → (∀ b o, b ∉ wr → s.heap.get? b = some o → h'.get? b = some o) → Q (some (.ref s.heap.objs.size)) { s with heap := h' }) → wpAny (model prog w) A (pyNext (.ref I)) Q E s
  done : ∀ (s : Shared) (Q : Option Value → Shared → Prop) (E : Value → Shared → Prop), St n s.heap →
    (∀ h', (∀ b o, b ∉ wr → s.heap.get? b = some o → h'.get? b = some o) → Q none { s with heap := h' }) → wpAny (model prog w) A (pyNext (.ref I)) Q E s
structure TuG (n : Nat) (Rel : Nat → Value → Value → Prop) (lo : Addr) (h : Heap) (as : List Addr) : Prop where
  rise : as.Pairwise (· < ·)
  above : ∀ a ∈ as, lo < a
  pairs : ∀ (j : Nat) (a : Addr), as[j]? = some a → ∃ k v, Rel j k v ∧ h.get? a = some { cls := .type "tuple", data := .seq #[k, v] }
section
variable {prog : Program} {w : World} {A : Around} {s : Shared} {R : Result → Shared → Prop} {n : Nat} {Rel : Nat → Value → Value → Prop} {St : Nat → Heap → Prop} {wr : List Addr}
theorem TuG.there {lo : Addr} {h : Heap} {as : List Addr} (g : TuG n Rel lo h as) {a : Addr} (ha : a ∈ as) : a < h.objs.size := by
  obtain ⟨j, hj⟩ := List.mem_iff_getElem?.mp ha
  obtain ⟨_, _, _, e⟩ := g.pairs j a hj
  exact Heap.lt_size e
theorem tu_loop {S I : Addr} (W : TuS prog w A.in1 I S wr n Rel St) (hn : n ≤ sizeLine) (res : Value) {h₁ : Heap}
    (hR : ∀ h' tk acc c as, (∀ b o, b ≠ S → b ∉ wr → h₁.get? b = some o → h'.get? b = some o) → h'.get? S = some { cls := .type "list", dict := none, data := .seq acc c, slots := #[] } → as.length = n → TuG n Rel S h' as →
      acc.toList = as.map Value.ref → R (.ok (.ret res)) { s with heap := h', toks := tk }) :
    ∀ (k i : Nat) (h : Heap) (tk c : Nat) (acc : Array Value) (as : List Addr), n - i = k → i ≤ n → St i h → (∀ b o, b ≠ S → b ∉ wr → h₁.get? b = some o → h.get? b = some o) →
      h.get? S = some { cls := .type "list", dict := none, data := .seq acc c, slots := #[] } → acc.toList = as.map Value.ref → as.length = i → TuG n Rel S h as →
      codeAny (model prog w) A (.builtin "list.extend.loop" ⟨[.ref S, .ref I, res], []⟩) R { s with heap := h, toks := tk } := by
  have offS : ∀ b ∈ wr, S ≠ b := fun b hb => Nat.ne_of_gt (W.off b hb)
  have offT : ∀ a, S < a → a ∉ wr := fun a ha hb => Nat.lt_asymm ha (W.off a hb)
  have Sn : S ∉ wr := fun hb => Nat.lt_irrefl _ (W.off S hb)
  intro k
  induction k with
  | zero =>
    intro i h tk c acc as hk hi hst hkeep hS hacc hal hG
    have hin : i = n := by omega
    subst hin
    refine codeAny_builtin PySem.F.entry_extend_loop ?_
    rw [Around.under_plainId PySem.F.plain_extend_loop _]
    show wpAny _ A.in1 (pyNext (.ref I) >>= _) _ _ _
    refine wpAny_bind (W.done { s with heap := h, toks := tk } _ _ hst fun h' he => ?_)
    refine wpAny_pure (hR h' tk acc c as (fun b o h1 h2 e => he b o h2 (hkeep b o h1 h2 e)) (he S _ Sn hS) hal ⟨hG.rise, hG.above, fun j a hj => ?_⟩ hacc)
    obtain ⟨k, v, r, e3⟩ := hG.pairs j a hj
    exact ⟨k, v, r, he a _ (offT a (hG.above a (List.mem_of_getElem? hj))) e3⟩
  | succ k ih =>
    intro i h tk c acc as hk hi hst hkeep hS hacc hal hG
    have hlt : i < n := by omega
    have hsz : acc.size = i := by rw [← Array.length_toList, hacc, List.length_map, hal]
    have hSl : S < h.objs.size := Heap.lt_size hS
    refine codeAny_builtin PySem.F.entry_extend_loop ?_
    rw [Around.under_plainId PySem.F.plain_extend_loop _]
    show wpAny _ A.in1 (pyNext (.ref I) >>= _) _ _ _
    refine wpAny_bind (W.item i { s with heap := h, toks := tk } _ _ hlt hst hSl fun kk vv h' hrel ht hst' hkp => ?_)
    dsimp only at ht hkp ⊢
    have hS' := hkp S _ Sn hS
    have up : ∀ b o, b ≠ S → h'.get? b = some o → (h'.update S (Obj.mapSeq (·.push (Value.ref h.objs.size)))).get? b = some o := fun b o hb e => (Heap.get?_update_other _ _ (Ne.symm hb)).trans e
    show wpAny _ A.in1 (updateSeq S (·.push (Value.ref h.objs.size)) >>= _) _ _ _
    refine wpAny_bind ?_
    refine wpAny_updateSeq hS' rfl (wpAny_pure ⟨plainId_quiet PySem.F.plain_extend_loop _, ih (i + 1) _ tk _ (acc.push (Value.ref h.objs.size)) (as ++ [h.objs.size]) (by omega) hlt (W.frame (i + 1) _ _ hst' up)
      (fun b o h1 h2 e => up b o h1 (hkp b o h2 (hkeep b o h1 h2 e))) (Heap.get?_update_self _ hS' rfl) (by rw [Array.toList_push, hacc, List.map_append]; rfl) (by rw [List.length_append, hal]; rfl) ⟨?_, ?_, ?_⟩⟩) (by rw [hsz]; omega) (by show (acc.push (Value.ref h.objs.size)).size ≤ sizeLine + 1; rw [Array.size_push, hsz]; omega)
    · refine List.pairwise_append.mpr ⟨hG.rise, List.pairwise_singleton _ _, fun a ha b hb => ?_⟩
      rw [List.mem_singleton.mp hb]
      exact hG.there ha
    · intro a ha
      rcases List.mem_append.mp ha with ha | ha
      · exact hG.above a ha
      · rw [List.mem_singleton.mp ha]; exact hSl
    · intro j b hj
      rcases Nat.lt_trichotomy j as.length with h1 | h1 | h1
      · rw [List.getElem?_append_left h1] at hj
        obtain ⟨k, v, r, e3⟩ := hG.pairs j b hj
        have hb := hG.above b (List.mem_of_getElem? hj)
        exact ⟨k, v, r, up b _ (Nat.ne_of_gt hb) (hkp b _ (offT b hb) e3)⟩
      · subst h1
        have hb : h.objs.size = b := by simpa using hj
        subst hb
        exact ⟨kk, vv, by subst hal; exact hrel, up _ _ (Nat.ne_of_gt hSl) ht⟩
      · have hnone : (as ++ [h.objs.size])[j]? = none := List.getElem?_eq_none (by rw [List.length_append, List.length_singleton]; omega)
        rw [hnone] at hj; cases hj
end
theorem zip_no_len : typeLookup (.type "zip") "__len__" = pure none := by rw [typeLookup_type, builtinLookup_eq_fast]; kernel_rfl
theorem zip_no_hint : typeLookup (.type "zip") "__length_hint__" = pure none := by rw [typeLookup_type, builtinLookup_eq_fast]; kernel_rfl
section
variable {prog : Program} {w : World} {A : Around} {s : Shared} {n : Nat} {Rel : Nat → Value → Value → Prop} {St : Nat → Heap → Prop} {wr : List Addr}
theorem tu_extend {R : Result → Shared → Prop} {S I : Addr} (W : TuS prog w A.in1 I S wr n Rel St) (hn : n ≤ sizeLine) (hty : ∀ i h, St i h → ∃ o, h.get? I = some o ∧ o.cls = .type "zip") (hself : ∀ (s : Shared) (Q : Value → Shared → Prop) (E : Value → Shared → Prop), St 0 s.heap → Q (.ref I) s → wpAny (model prog w) A.in1 (pyIter (.ref I)) Q E s)
    (st : St 0 s.heap) (res : Value) (c₀ : Nat) (hS : s.heap.get? S = some { cls := .type "list", data := .seq #[] c₀ })
    (hR : ∀ h' tk acc c as, (∀ b o, b ≠ S → b ∉ wr → s.heap.get? b = some o → h'.get? b = some o) → h'.get? S = some { cls := .type "list", dict := none, data := .seq acc c, slots := #[] } → as.length = n → TuG n Rel S h' as →
      acc.toList = as.map Value.ref → R (.ok (.ret res)) { s with heap := h', toks := tk }) :
    wpAny (model prog w) A.in1 (Builtin.List.listExtendWith (.ref S) (.ref I) res)
      (fun fin s' => match fin with | .done f => R (.ok f) s' | .again c' => c'.quiet = true ∧ codeAny (model prog w) A c' R s') (fun e s' => R (.error e) s') s := by
  have hSI : S ≠ I := Nat.ne_of_gt W.self
  have hT : s.TypeIs (.ref I) "zip" := hty 0 _ st
  unfold Builtin.List.listExtendWith
  refine wpAny_bind (wpAny_typeOf (T := "zip") hT ?_)
  have h1 : Builtin.List.listSameRef (.ref S) (.ref I) = false := by simp [Builtin.List.listSameRef, hSI]
  have h2 : (Value.type "zip" == Value.type "list") = false := by decide
  have h3 : (Value.type "zip" == Value.type "tuple") = false := by decide
  simp only [h1, h2, h3, Bool.or_false, Bool.false_eq_true, if_false]
  refine wpAny_bind (hself _ _ _ st ?_)
  refine wpAny_bind (wpAny_holding ?_)
  unfold Builtin.List.listLengthHint
  refine wpAny_bind (wpAny_specialOf hT zip_no_len ?_)
  show wpAny _ A.in1 (specialOf (Value.ref I) (Str.ofString "__length_hint__") >>= _) _ _ _
  refine wpAny_bind (wpAny_specialOf hT zip_no_hint ?_)
  refine wpAny_pure ?_
  show wpAny _ A.in1 (rule "list.extend.makes-room" >>= fun _ => Builtin.List.listTouch (.ref S) >>= fun _ =>
    again (.builtin "list.extend.loop" ⟨[.ref S, .ref I, res], []⟩)) _ _ _
  refine wpAny_bind (wpAny_rule ?_)
  refine wpAny_bind ?_
  show wpAny _ A.in1 (updateSeq S (·.push .none) >>= fun _ => updateSeq S (·.pop)) _ _ _
  refine wpAny_bind (wpAny_updateSeq hS rfl ?_)
  have hS₂ := Heap.get?_update_self (Obj.mapSeq (·.push Value.none)) hS rfl
  refine wpAny_updateSeq (hz := by seq_fits) hS₂ rfl ?_
  have hS₃ := Heap.get?_update_self (Obj.mapSeq (·.pop)) hS₂ rfl
  have oth : ∀ b o, b ≠ S → s.heap.get? b = some o → ((s.heap.update S (Obj.mapSeq (·.push Value.none))).update S (Obj.mapSeq (·.pop))).get? b = some o :=
    fun b o hb e => (Heap.get?_update_other _ _ (Ne.symm hb)).trans ((Heap.get?_update_other _ _ (Ne.symm hb)).trans e)
  refine wpAny_pure ⟨plainId_quiet PySem.F.plain_extend_loop _, ?_⟩
  refine tu_loop (s := s) (h₁ := s.heap) W hn res hR n 0 _ s.toks _ _ [] (Nat.sub_zero _) (Nat.zero_le _) (W.frame 0 _ _ st oth) (fun b o hb _ e => oth b o hb e) hS₃ rfl rfl ⟨List.Pairwise.nil, (fun _ ha => nomatch ha), (fun j a hj => by simp at hj)⟩
theorem tu_init {R : Result → Shared → Prop} {S I : Addr} (W : TuS prog w A.in1 I S wr n Rel St) (hn : n ≤ sizeLine) (hty : ∀ i h, St i h → ∃ o, h.get? I = some o ∧ o.cls = .type "zip") (hself : ∀ (s : Shared) (Q : Value → Shared → Prop) (E : Value → Shared → Prop), St 0 s.heap → Q (.ref I) s → wpAny (model prog w) A.in1 (pyIter (.ref I)) Q E s)
    (st : St 0 s.heap) (hS : s.heap.get? S = some { cls := .type "list", data := .seq #[] })
    (hR : ∀ h' tk acc c as, (∀ b o, b ≠ S → b ∉ wr → s.heap.get? b = some o → h'.get? b = some o) → h'.get? S = some { cls := .type "list", dict := none, data := .seq acc c, slots := #[] } → as.length = n → TuG n Rel S h' as →
      acc.toList = as.map Value.ref → R (.ok (.ret .none)) { s with heap := h', toks := tk }) :
    wpAny (model prog w) A.in1 (Builtin.«list.__init__» ⟨[.ref S, .ref I], []⟩)
      (fun fin s' => match fin with | .done f => R (.ok f) s' | .again c' => c'.quiet = true ∧ codeAny (model prog w) A c' R s') (fun e s' => R (.error e) s') s := by
  show wpAny _ _ (do let old ← Builtin.List.listItems (.ref S); Builtin.List.listUpdate (.ref S) (fun _ => #[]); letGo old.toList.reverse; Builtin.List.listExtendWith (.ref S) (.ref I) .none) _ _ s
  refine wpAny_bind ?_
  unfold Builtin.List.listItems
  refine wpAny_bind (wpAny_seqItems hS rfl (wpAny_pure ?_))
  show wpAny _ _ (updateSeq S (fun _ => #[]) >>= fun _ => letGo (#[] : Array Value).toList.reverse >>= fun _ => Builtin.List.listExtendWith (.ref S) (.ref I) .none) _ _ s
  refine wpAny_bind (wpAny_updateSeq hS rfl ?_)
  have hS₂ := Heap.get?_update_self (Obj.mapSeq (fun _ => (#[] : Array Value))) hS rfl
  have oth : ∀ b o, b ≠ S → s.heap.get? b = some o → (s.heap.update S (Obj.mapSeq (fun _ => (#[] : Array Value)))).get? b = some o :=
    fun b o hb e => (Heap.get?_update_other _ _ (Ne.symm hb)).trans e
  refine wpAny_bind (wpAny_letGo ?_)
  exact tu_extend W hn hty hself (W.frame 0 _ _ st oth) .none _ hS₂ fun h' tk acc c as hk hS' hl hG hacc => hR h' tk acc c as (fun b o hb hw e => hk b o hb hw (oth b o hb e)) hS' hl hG hacc
theorem tu_call {E : Value → Shared → Prop} {Q : Value → Shared → Prop} {I : Addr} (W : TuS prog w A.in1.in1 I s.heap.objs.size wr n Rel St) (hn : n ≤ sizeLine) (hty : ∀ i h, St i h → ∃ o, h.get? I = some o ∧ o.cls = .type "zip") (hself : ∀ (s : Shared) (Q : Value → Shared → Prop) (E : Value → Shared → Prop), St 0 s.heap → Q (.ref I) s → wpAny (model prog w) A.in1.in1 (pyIter (.ref I)) Q E s)
    (st : St 0 s.heap)
    (hQ : ∀ h' tk acc c as, (∀ b o, b ∉ wr → s.heap.get? b = some o → h'.get? b = some o) → h'.get? s.heap.objs.size = some { cls := .type "list", dict := none, data := .seq acc c, slots := #[] } → as.length = n → TuG n Rel s.heap.objs.size h' as →
      acc.toList = as.map Value.ref → Q (.ref s.heap.objs.size) { s with heap := h', toks := tk }) :
    wpAny (model prog w) A (call (.type "list") [.ref I]) Q E s := by
  refine callType_codes (Q₁ := fun obj s₁ => obj = .ref s.heap.objs.size ∧ s₁ = { s with heap := s.heap.push { cls := .type "list", data := .seq #[] } }) PySem.F.called_list (PySem.F.typeCall_list_1 _) PySem.F.entry_list_init
    (code_list_new _ ⟨rfl, rfl⟩) fun obj s₁ h₁ => ?_
  obtain ⟨rfl, rfl⟩ := h₁
  have hS : (s.heap.push { cls := .type "list", data := .seq #[] }).get? s.heap.objs.size = some { cls := .type "list", data := .seq #[] } := Heap.get?_push_size _ rfl
  refine ⟨⟨_, hS, rfl⟩, PySem.F.args_list_init_2 _ _, tu_init (A := A.in1) (s := { s with heap := s.heap.push { cls := .type "list", data := .seq #[] } }) W hn hty hself (W.frame 0 _ _ st fun b o _ e => Heap.get?_push_of_some _ e) hS fun h' tk acc c as hk hS' hl hG hacc => ?_⟩
  exact ⟨rfl, hQ h' tk acc c as (fun b o hw e => hk b o (Nat.ne_of_lt (Heap.lt_size e)) hw (Heap.get?_push_of_some _ e)) hS' hl hG hacc⟩
theorem tus_zip (hA : A.handled = none) {z TI TO i1 i2 l1 l2 S : Addr} (D : ZipApart z TI TO i1 i2 l1 l2) (xs ys : Array Value) (z1 : z < S) (z2 : TI < S) (z3 : TO < S) (z4 : i1 < S) (z5 : i2 < S) (z6 : l1 < S) (z7 : l2 < S) :
    TuS prog w A z S [z, TO, i1, i2] (min xs.size ys.size) (fun i k v => xs[i]? = some k ∧ ys[i]? = some v)
      (fun i h => IsPair h TI (.ref i1) (.ref i2) ∧ h.IsListIter i1 l1 i ∧ h.IsListIter i2 l2 i ∧ h.IsList l1 xs ∧ h.IsList l2 ys ∧
      ((IsZip h z TI TO .none ∧ ∃ a b, IsPair h TO a b) ∨ ∃ T f oT, IsZipHeld h z TI TO T f ∧ h.get? T = some oT ∧ T ≠ z ∧ T ≠ i1 ∧ T ≠ i2 ∧ T ≠ S)) where
  off := fun b hb => by
    simp only [List.mem_cons, List.not_mem_nil, or_false] at hb
    rcases hb with rfl | rfl | rfl | rfl <;> assumption
  self := z1
  frame := fun i h₁ h₂ st hk => by
    obtain ⟨hTI, h1, h2, hl1, hl2, hz⟩ := st
    refine ⟨hk _ _ (Nat.ne_of_lt z2) hTI, h1.at fun o e => hk _ o (Nat.ne_of_lt z4) e, h2.at fun o e => hk _ o (Nat.ne_of_lt z5) e, hl1.at fun o e => hk _ o (Nat.ne_of_lt z6) e, hl2.at fun o e => hk _ o (Nat.ne_of_lt z7) e, ?_⟩
    rcases hz with ⟨hz, a, b, hTO⟩ | ⟨T, f, oT, hz, hT, r1, r2, r3, r4⟩
    · exact .inl ⟨hk _ _ (Nat.ne_of_lt z1) hz, a, b, hk _ _ (Nat.ne_of_lt z3) hTO⟩
    · exact .inr ⟨T, f, oT, hk _ _ (Nat.ne_of_lt z1) hz, hk _ _ r4 hT, r1, r2, r3, r4⟩
  item := fun i s₁ Q₁ E₁ hi st hds hQ => by
    obtain ⟨hTI, h1, h2, hl1, hl2, hz⟩ := st
    have hix : i < xs.size := Nat.lt_of_lt_of_le hi (Nat.min_le_left ..)
    have hiy : i < ys.size := Nat.lt_of_lt_of_le hi (Nat.min_le_right ..)
    have ex := Array.getElem?_eq_getElem hix
    have ey := Array.getElem?_eq_getElem hiy
    have lt : ∀ {c o}, s₁.heap.get? c = some o → s₁.heap.objs.size ≠ c := fun e => Nat.ne_of_gt (Heap.lt_size e)
    have n1 : s₁.heap.objs.size ≠ i1 := let ⟨_, e, _⟩ := h1; lt e
    have n2 : s₁.heap.objs.size ≠ i2 := let ⟨_, e, _⟩ := h2; lt e
    rcases hz with ⟨hz, a, b, hTO⟩ | ⟨T, f, oT, hz, hT, r1, r2, r3, r4⟩
    · refine wpAny_pyNext_zip_item D hz hTI hTO h1 h2 hl1 hl2 ex ey fun h' a1 a2 a3 a4 a5 a6 hk => ?_
      exact hQ _ _ h' ⟨ex, ey⟩ a5
        ⟨hk _ _ D.TIz D.TITO D.TIi1 D.TIi2 hTI, a3, a4, hl1.at fun o e => hk _ o D.l1z D.l1TO D.l1i1 D.l1i2 e, hl2.at fun o e => hk _ o D.l2z D.l2TO D.l2i1 D.l2i2 e,
          .inr ⟨s₁.heap.objs.size, false, _, a1, a5, lt hz, n1, n2, Nat.ne_of_gt hds⟩⟩
        fun c o hc e => hk c o (fun x => hc (by simp [x])) (fun x => hc (by simp [x])) (fun x => hc (by simp [x])) (fun x => hc (by simp [x])) e
    · refine wpAny_pyNext_zip_item_held D hz hT hTI h1 h2 hl1 hl2 ex ey fun h' a1 a3 a4 a5 a6 hk => ?_
      exact hQ _ _ h' ⟨ex, ey⟩ a5
        ⟨hk _ _ D.TIz D.TIi1 D.TIi2 hTI, a3, a4, hl1.at fun o e => hk _ o D.l1z D.l1i1 D.l1i2 e, hl2.at fun o e => hk _ o D.l2z D.l2i1 D.l2i2 e,
          .inr ⟨T, true, oT, a1, hk _ _ r1 r2 r3 hT, r1, r2, r3, r4⟩⟩
        fun c o hc e => hk c o (fun x => hc (by simp [x])) (fun x => hc (by simp [x])) (fun x => hc (by simp [x])) e
  done := fun s₁ Q₁ E₁ st hQ => by
    obtain ⟨hTI, h1, h2, hl1, hl2, hz⟩ := st
    have hend : xs[min xs.size ys.size]? = none ∨ ys[min xs.size ys.size]? = none := by
      rcases Nat.le_total xs.size ys.size with h | h
      · exact .inl (Array.getElem?_eq_none (by rw [Nat.min_eq_left h]; exact Nat.le_refl _))
      · exact .inr (Array.getElem?_eq_none (by rw [Nat.min_eq_right h]; exact Nat.le_refl _))
    rcases hz with ⟨hz, a, b, hTO⟩ | ⟨T, f, oT, hz, hT, r1, r2, r3, r4⟩
    · exact wpAny_pyNext_zip_end hA D hz hTI hTO h1 h2 hl1 hl2 hend fun h' hk => hQ h' fun c o hc e => hk c o (fun x => hc (by simp [x])) (fun x => hc (by simp [x])) (fun x => hc (by simp [x])) (fun x => hc (by simp [x])) e
    · exact wpAny_pyNext_zip_end_held hA D hz hT hTI h1 h2 hl1 hl2 hend fun h' hk => hQ h' fun c o hc e => hk c o (fun x => hc (by simp [x])) (fun x => hc (by simp [x])) (fun x => hc (by simp [x])) e
end
end U
namespace U
open PySem PySem.Spec PyProof.Rows L2
/-- new pairs at their addresses -/
def putZ : Hp → List Addr → List (V × V) → Hp
  | H, a :: as, p :: ps => putZ (upd H a (.tup [p.1, p.2])) as ps
  | H, _, _ => H
theorem putZ_off {b : Addr} : ∀ (as : List Addr) (ps : List (V × V)) (H : Hp), b ∉ as → putZ H as ps b = H b
  | [], _, _, _ => rfl
  | _ :: _, [], _, _ => rfl
  | a :: as, p :: ps, H, h => by
    show putZ (upd H a (.tup [p.1, p.2])) as ps b = H b
    rw [putZ_off as ps _ (fun z => h (List.mem_cons_of_mem _ z)), upd_ne (fun z => h (by rw [z]; exact List.mem_cons_self))]
theorem putZ_at : ∀ (as : List Addr) (ps : List (V × V)) (H : Hp), as.length = ps.length → as.Nodup → Paired (fun (t : Addr) (p : V × V) => putZ H as ps t = some (.tup [p.1, p.2])) as ps
  | [], [], _, _, _ => .nil
  | [], _ :: _, _, h, _ => by cases h
  | _ :: _, [], _, h, _ => by cases h
  | a :: as, p :: ps, H, h, hn => by
    have hn' := List.nodup_cons.mp hn
    have ih := putZ_at as ps (upd H a (.tup [p.1, p.2])) (Nat.succ.inj h) hn'.2
    refine .cons ?_ ih
    show putZ (upd H a (.tup [p.1, p.2])) as ps a = some (.tup [p.1, p.2])
    rw [putZ_off as ps _ hn'.1, upd_same]
def qLZip (K : PySem.W.Frag) : RCl := fun vs H Q => ∃ (a b : Addr) (xs ys : List V), vs = [V.ref a, V.ref b] ∧ SqL K H a xs ∧ SqL K H b ys ∧
  ∀ (H' : Hp) (p : Addr) (ts : List Addr), (∀ b o, H b = some o → H' b = some o) → H p = none → (∀ t ∈ ts, H t = none) → p ∉ ts → H' p = some (.lst (ts.map V.ref)) → Paired (fun (t : Addr) (q : V × V) => H' t = some (.tup [q.1, q.2])) ts (xs.zip ys) → Q (.ref p) H'
section
variable {X : Cx}
theorem zips_laid {pins : List (Addr × Obj)} {σ : L2.St} {H : Hp} {s : Shared} {h' : Heap} {tk : Nat} {xs ys : List V} {us ws : List Value} {acc : Array Value} {c n : Nat} {as : List Addr} {S : Addr} (I : Inv X pins σ H s) (hS0 : s.heap.objs.size ≤ S) (hz : xs.length ≤ sizeLine) (rv : Vals xs us) (rw' : Vals ys ws)
    (hk : ∀ b o, s.heap.get? b = some o → h'.get? b = some o) (hS : h'.get? S = some { cls := .type "list", dict := none, data := .seq acc c, slots := #[] }) (hl : as.length = min xs.length ys.length) (hG : TuG n (fun i k v => us.toArray[i]? = some k ∧ ws.toArray[i]? = some v) S h' as) (hacc : acc.toList = as.map Value.ref) :
    ∃ H' : Hp, (∀ b o, H b = some o → H' b = some o) ∧ H S = none ∧ (∀ t ∈ as, H t = none) ∧ S ∉ as ∧ H' S = some (.lst (as.map V.ref)) ∧ Paired (fun (t : Addr) (q : V × V) => H' t = some (.tup [q.1, q.2])) as (xs.zip ys) ∧ Inv X pins σ H' { s with heap := h', toks := tk } := by
  have lk : as.length = (xs.zip ys).length := by rw [List.length_zip]; exact hl
  have hSn : S ∉ as := fun z => Nat.lt_irrefl _ (hG.above _ z)
  have nd : as.Nodup := List.Pairwise.imp (fun {a b} (h : a < b) => Nat.ne_of_lt h) hG.rise
  have new : ∀ t ∈ as, H t = none := fun t ht => I.hok.fresh (Nat.le_trans hS0 (Nat.le_of_lt (hG.above t ht)))
  have newS : H S = none := I.hok.fresh hS0
  have atP := putZ_at as (xs.zip ys) (upd H S (.lst (as.map V.ref))) lk nd
  have off : ∀ b, b ∉ as → b ≠ S → putZ (upd H S (.lst (as.map V.ref))) as (xs.zip ys) b = H b := fun b h1 h2 => by rw [putZ_off as _ _ h1, upd_ne h2]
  have low : ∀ b o, s.heap.get? b = some o → b ∉ as ∧ b ≠ S := fun b o e => ⟨fun z => absurd (Heap.lt_size e) (Nat.not_lt.mpr (Nat.le_trans hS0 (Nat.le_of_lt (hG.above b z)))), Nat.ne_of_lt (Nat.lt_of_lt_of_le (Heap.lt_size e) hS0)⟩
  have kp : ∀ b u, H b = some u → (putZ (upd H S (.lst (as.map V.ref))) as (xs.zip ys)) b = some u := fun b u e => by
    rw [off b (fun z => by rw [new b z] at e; cases e) (fun z => by rw [z, newS] at e; cases e)]
    exact e
  have eS : putZ (upd H S (.lst (as.map V.ref))) as (xs.zip ys) S = some (.lst (as.map V.ref)) := by rw [putZ_off as _ _ hSn, upd_same]
  refine ⟨putZ (upd H S (.lst (as.map V.ref))) as (xs.zip ys), kp, newS, new, hSn, eS, atP, ?_⟩
  refine I.call' (ch := []) rfl ⟨fun b o q _ _ _ => hk b o q, fun b o q _ _ _ => ⟨o.slots, hk b o q⟩, fun b o q n _ => ?_, fun b o q _ => ⟨o, hk b o q⟩, fun b xs q => kp b _ q, fun b o u q => kp b _ q, fun b ps q => ⟨#[], by rw [kp b _ q]; simp⟩⟩ (fun b u q => ?_) I.bare fun b z => by simp at z
  · obtain ⟨z1, z2⟩ := low b o q
    rw [off b z1 z2]
    exact n
  · by_cases hb : b ∈ as
    · obtain ⟨j, pk, e1, e2, e3⟩ := LiI.paired_ix atP hb
      rw [e3] at q
      cases q
      obtain ⟨kk, vv, ⟨f1, f2⟩, f3⟩ := hG.pairs j b e1
      rw [List.getElem?_zip_eq_some] at e2
      obtain ⟨u1, g1, g2⟩ := rv.get e2.1
      obtain ⟨u2, g3, g4⟩ := rw'.get e2.2
      have h1 : u1 = kk := Option.some.inj (g1.symm.trans (by simpa using f1))
      have h2 : u2 = vv := Option.some.inj (g3.symm.trans (by simpa using f2))
      subst h1
      subst h2
      exact ⟨by show 2 ≤ sizeLine; decide, [u1, u2], .cons g2 (.cons g4 .nil), ⟨_, f3, rfl, _, rfl⟩⟩
    · by_cases hb2 : b = S
      · rw [hb2] at q ⊢
        rw [eS] at q
        cases q
        refine ⟨by rw [List.length_map]; omega, acc.toList, c, by rw [hacc]; exact LiI.vals_refs as, ?_⟩
        rw [Array.toArray_toList]
        exact hS
      · rw [off b hb hb2] at q
        exact (I.hok b u q).stay (fun d v _ y => hk d v y) (fun d y => kp d _ y) fun d xs y => kp d _ y
variable {e e2 : Expr} {ta : TA} {p1 p2 q1 pos : Pos} {K : PySem.W.Frag}
theorem pe_lzip (hK : X.K = K) (hc : X.calm = true) (hg : Gl X "list") (hm : X.mg "list" = none) (hg2 : Gl X "zip") (hm2 : X.mg "zip" = none) (ha : PA X [e, e2] ta)
    (he : starEach [e, e2] X.env = (false, eval e X.env) :: starEach [e2] X.env := by rfl) (hpl : (backTo q1 (starEach [e2] X.env)).any (·.1) = false := by rfl) :
    PE X (.Call (.Name "list" p1) [.Call (.Name "zip" p2) [e, e2] [] q1] [] pos) (tCB (qLZip K) ta) := by
  subst hK
  refine ⟨fun pins s σ H Q I h => ?_⟩
  refine Call_ (ld_blt I hg hm bo_list ?_)
  refine PyProof.Rows.callWith_type1 (PyProof.Rows.args_cons ?_ rfl) rfl rfl
  refine Call_ (ld_blt I hg2 hm2 PyProof.Rows.boot_zip ?_)
  refine PyProof.Rows.callWith_type1 (thn (ha.run q1 pins s σ H _ I h) fun us s1 ⟨vs, H1, I1, r1, z⟩ => ?_) he hpl
  obtain ⟨a, b, xs, ys, rfl, sq, sq2, z⟩ := z
  cases r1 with
  | cons r rr =>
  cases rr with
  | cons r' rr =>
  cases rr
  cases r
  cases r'
  obtain ⟨its, rv, pl, hz⟩ := I1.list sq
  obtain ⟨its2, rv2, pl2, hz2⟩ := I1.list sq2
  refine zip_begins2 (begins_list a its.toArray) (begins_list b its2.toArray) pl.isList pl2.isList fun h' hz1 hI hO ho ho' hsz hk => ?_
  refine PyProof.Rows.args_nil ?_
  have lxs : xs.length = its.length := rv.length
  have lys : ys.length = its2.length := rv2.length
  have la : a < s1.heap.objs.size := pl.lt
  have lb : b < s1.heap.objs.size := pl2.lt
  have hlt : ∀ k, k < 5 → s1.heap.objs.size + k < h'.objs.size := fun k hk5 => by rw [hsz]; exact Nat.add_lt_add_left hk5 _
  have l0 : s1.heap.objs.size < h'.objs.size := hlt 0 (by decide)
  have up : ∀ (l : Addr) {xs : Array Value}, s1.heap.IsList l xs → h'.IsList l xs := fun l _ hl => hl.at fun o e => hk _ o e
  have hh : X.A.handled = none := I1.ok.hd hc
  refine tu_call (s := { s1 with heap := h' }) (tus_zip (A := X.A.in1.in1) hh (zipApart_new la lb) its.toArray its2.toArray (hlt 4 (by decide)) (hlt 2 (by decide)) (hlt 3 (by decide)) l0 (hlt 1 (by decide)) (Nat.lt_trans la l0) (Nat.lt_trans lb l0)) (by simp only [List.size_toArray]; omega)
    (fun i h st => ?_) (fun s' Q' E' st q => ?_) ⟨hI, ⟨_, ho, rfl, rfl⟩, ⟨_, ho', rfl, rfl⟩, up a pl.isList, up b pl2.isList, .inl ⟨hz1, _, _, hO⟩⟩ fun h2 tk acc c as hk2 hS hl hG hacc => ?_
  · rcases st.2.2.2.2.2 with ⟨q, _⟩ | ⟨_, _, _, q, _⟩
    · exact ⟨_, q, rfl⟩
    · exact ⟨_, q, rfl⟩
  · rcases st.2.2.2.2.2 with ⟨q1, _⟩ | ⟨T, f, oT, q1, q2⟩
    · exact wpAny_pyIter_zip q1 q
    · have hT : s'.TypeIs (.ref (s1.heap.objs.size + 4)) "zip" := ⟨_, q1, rfl⟩
      refine wpAny_pyIter_slot hT F.slot_zip_iter (wpAny_call_entry F.slot_zip_iter hT F.entry_zip_iter ?_ (F.args_zip_iter_1 _))
      show wpAny _ _ (ret (.ref _)) _ _ s'
      exact wpAny_pure ⟨_, rfl, "zip", _, hT, F.slot_zip_next.lookup, q⟩
  · have low : ∀ b o, s1.heap.get? b = some o → b ∉ [s1.heap.objs.size + 4, s1.heap.objs.size + 3, s1.heap.objs.size, s1.heap.objs.size + 1] := fun b o e hb => by
      have hlt2 := Heap.lt_size e
      simp only [List.mem_cons, List.not_mem_nil, or_false] at hb
      rcases hb with z | z | z | z <;> (rw [z] at hlt2; first | exact Nat.lt_irrefl _ hlt2 | exact absurd hlt2 (Nat.not_lt.mpr (Nat.le_add_right _ _)))
    obtain ⟨H', k1, k2, k3, k4, k5, k6, J⟩ := zips_laid (tk := tk) (S := h'.objs.size) I1 (Nat.le_of_lt l0) hz rv rv2 (fun b o e => hk2 b o (low b o e) (hk b o e)) hS (by rw [hl]; simp only [List.size_toArray]; omega) hG hacc
    exact ⟨.ref _, H', J, rfl, z H' _ as k1 k2 k3 k4 k5 k6⟩
end
section
variable {α β : Type} {t : Rp α} {u : Rp β} {K : PySem.W.Frag} {F H : Hp} {a b : Addr} {vs ws : List V} {xs : List α} {ys : List β} {Q : VK}
theorem al_zips {F' : Hp} : ∀ {ts : List Addr} {vs ws : List V} {xs : List α} {ys : List β}, Al t F' vs xs → Al u F' ws ys → Paired (fun (t : Addr) (q : V × V) => F' t = some (.tup [q.1, q.2])) ts (vs.zip ws) → Al (eP2 t u) F' (ts.map V.ref) (xs.zip ys)
  | _, _, _, _, _, .nil, _, p => by cases p; exact .nil
  | _, _, _, _, _, .cons _ _, .nil, p => by cases p; exact .nil
  | _, _, _, _, _, .cons h1 t1, .cons h2 t2, p => by
    cases p with
    | cons q r => exact .cons ⟨_, _, _, rfl, q, h1, h2⟩ (al_zips t1 t2 r)
theorem v_lzip (hs : Sub F H) (hq : SqL K H a vs) (al : Al t F vs xs) (hq2 : SqL K H b ws) (al2 : Al u F ws ys)
    (k : ∀ p us F' H', Gr [] F H F' H' → F' p = some (.lst us) → Al (eP2 t u) F' us (xs.zip ys) → Q (.ref p) H') : qLZip K [.ref a, .ref b] H Q := by
  refine ⟨a, b, vs, ws, rfl, hq, hq2, fun H' p ts e1 e2 e3 e4 e5 e6 => ?_⟩
  let F' : Hp := fun b => if (H b).isSome then F b else H' b
  have f1 : Sub F F' := fun a o e => by
    show (if (H a).isSome then F a else H' a) = some o
    rw [hs _ _ e]; exact e
  have f2 : Sub F' H' := fun a o e => by
    have e : (if (H a).isSome then F a else H' a) = some o := e
    cases hh : H a with
    | none => rw [hh] at e; exact e
    | some u => rw [hh] at e; exact e1 _ _ (hs _ _ e)
  have f3 : ∀ a, H a = none → F' a = H' a := fun a e => by
    show (if (H a).isSome then F a else H' a) = H' a
    rw [e]; rfl
  have g : Gr [] F H F' H' := ⟨f1, f2, fun a o _ e => e1 _ _ e, fun a e => by
      cases hh : H a with
      | none => exact absurd hh e
      | some u => rw [e1 _ _ hh]; exact (fun z => nomatch z), fun a e n => by
      show (if (H a).isSome then F a else H' a) = none
      cases hh : H a with
      | none => exact absurd hh e
      | some u => exact n⟩
  refine k p (ts.map V.ref) F' H' g (by rw [f3 p e2]; exact e5) (al_zips (Al.mono al f1) (Al.mono al2 f1) ?_)
  have lm : ∀ {ts : List Addr} {ps : List (V × V)}, (∀ t ∈ ts, H t = none) → Paired (fun (t : Addr) (q : V × V) => H' t = some (.tup [q.1, q.2])) ts ps → Paired (fun (t : Addr) (q : V × V) => F' t = some (.tup [q.1, q.2])) ts ps := fun {ts ps} hn p => by
    induction p with
    | nil => exact .nil
    | cons r _ ih => exact .cons (by rw [f3 _ (hn _ List.mem_cons_self)]; exact r) (ih fun t ht => hn t (List.mem_cons_of_mem _ ht))
  exact lm e3 e6
end
end U
/-! ### xs[i] += k -/
namespace U
open PySem PySem.Spec PyProof.Rows L2
section
variable {X : Cx} {K : PySem.W.Frag}
theorem pget_list (hK : X.K = K) : PGet X (rIxL K) := by
  subst hK
  intro pins s σ H o i ov iv Q I ro ri h
  obtain ⟨p, xs, k, z, rfl, rfl, hq, he, q⟩ := h
  cases ro
  obtain ⟨t, rfl⟩ := ri
  obtain ⟨its, r, pl, hz⟩ := I.list hq
  obtain ⟨j, h1, h2, h3, h4, h5⟩ := atI_get he
  obtain ⟨w, ew, rw'⟩ := r.get h2
  have hl := r.length
  have hn := line63
  have fin : EP X pins σ Q w s := ⟨z, H, I, rw', q⟩
  by_cases h0 : 0 ≤ k
  · have hj : k.toNat = j := by
      rw [seqIndex_of h0 h5] at h1
      exact Option.some.inj h1
    exact wpAny_getItem_list pl.isList h0 (by omega) (by rw [hj]; simpa using ew) fin
  · have hj : (k + (its.toArray.size : Int)).toNat = j := by
      rw [seqIndex_neg (by omega) h4] at h1
      rw [List.size_toArray, ← hl]
      exact Option.some.inj h1
    exact wpAny_getItem_list_neg pl.isList (by omega) (by rw [List.size_toArray] <;> omega) (by omega) (by rw [hj]; simpa using ew) fin
end
theorem n_augS {σ : L2.St} {H : Hp} {nx : L2.St → Hp → Prop} {to ti te : TE} {tget : V → V → Hp → VK → Prop} {tip : TIp} {tset : TSet} {rt bk ct} (h : to σ H fun o H1 => ti σ H1 fun i H2 => tget o i H2 fun x H3 => te σ H3 fun y H4 => tip x y H4 fun z H5 => tset o i z H5 fun H6 => nx σ H6) : tAugS to ti te tget tip tset ⟨nx, rt, bk, ct⟩ σ H := h
end U
set_option Elab.async false
set_option linter.all false
set_option maxRecDepth 100000
set_option maxHeartbeats 4000000
/-! ### things of one of two kinds -/
namespace U
open PySem PySem.Spec PyProof.Rows L2
section
variable {α β α' β' γ : Type} {A : Rp α} {B : Rp β} {A' : Rp α'} {B' : Rp β'} {F : Hp} {v w : V}
def eU {α β : Type} (A : Rp α) (B : Rp β) : Rp (α ⊕ β) := ⟨fun F v x => match x with
  | .inl a => A.r F v a
  | .inr b => B.r F v b, fun {F F' v x} s h => match x, h with
  | .inl _, h => A.mono s h
  | .inr _, h => B.mono s h⟩
theorem p2_U {x : α × β} (h : (eP2 A B).r F v x) : (eT (eU A B)).r F v [.inl x.1, .inr x.2] := by
  obtain ⟨p, y, z, e, q, h1, h2⟩ := h
  exact ⟨p, [y, z], e, q, .cons h1 (.cons h2 .nil)⟩
def orM (f : α → α' → Option γ) (g : β → β' → Option γ) : α ⊕ β → α' ⊕ β' → Option γ
  | .inl x, .inl y => f x y
  | .inr x, .inr y => g x y
  | _, _ => none
theorem orM_ok {P : Prop} {f : α → α' → Option γ} {g : β → β' → Option γ} {a : α ⊕ β} {b : α' ⊕ β'} {r : γ} (ra : (eU A B).r F v a) (rb : (eU A' B').r F w b) (h : orM f g a b = some r)
    (k1 : ∀ x y, A.r F v x → A'.r F w y → f x y = some r → P) (k2 : ∀ x y, B.r F v x → B'.r F w y → g x y = some r → P) : P := by
  cases a <;> cases b
  · exact k1 _ _ ra rb h
  · cases h
  · cases h
  · exact k2 _ _ ra rb h
end
def spOr (a b : Sp) : Sp := fun vs H Q E => a vs H Q E ∨ b vs H Q E
theorem FnG.or {P : Program} {w : World} {K : PySem.W.Frag} {mg : Str → Option Value} {base : Heap} {CX : CXT} {k : Nat} {f : Addr} {fd : FuncData} {ps : List Str} {a b : Sp} (A : FnG P w K mg base CX k f fd ps a) (B : FnG P w K mg base CX k f fd ps b) :
    FnG P w K mg base CX k f fd ps (spOr a b) :=
  ⟨fun vs H Q E h => h.elim (A.len vs H Q E) (B.len vs H Q E), fun A' out s H as us vs Q E g hr e bd rv h => h.elim (fun h => A.go A' out s H as us vs Q E g hr e bd rv h) (fun h => B.go A' out s H as us vs Q E g hr e bd rv h)⟩
theorem sp_ors {γ : Type} {T : Rp γ} {a b : Sp} {F H : Hp} {vs : List V} {Q : VK} {E : XK} {r : γ} (go : (∀ v F' H', Gr [] F H F' H' → T.r F' v r → Q v H') → spOr a b vs H Q E) (k : ∀ v F' H', Gr [] F H F' H' → T.r F' v r → Q v H') : spOr a b vs H Q E := go k
/-! ### d.get(k, x) of a dict locked -/
section
variable {α β : Type} {t : Rp α} {D : Dt t} {A : Ke D} {u : Rp β} [DecidableEq α] {F H : Hp} {p : Addr} {o : Obj} {kvs : List (Key × V)} {xs : List (α × β)} {y w : V} {a : α} {b : β} {Q : VK}
theorem v_dget2L (hs : Sub F H) (hp : F p = some (.frz o (.dK kvs))) (h : Pr (dyK A) u F kvs xs) (hk : t.r F y a) (hz : u.r F w b) (k : ∀ v, u.r F v (getD2 xs a b) → Q v H) : qDGet2 y w Q p H := by
  refine ⟨_, .inl ⟨kvs, A.k a, .inr ⟨o, hs _ _ hp⟩, A.r hk, rfl⟩, ?_⟩
  unfold getD2 at k
  cases e : lkp xs a with
  | none =>
    have := pr_none (Y := dyK A) h e
    rw [e] at k
    rw [show valV kvs (A.k a) = none from this]
    exact k _ hz
  | some c =>
    obtain ⟨v, e2, r⟩ := pr_some (Y := dyK A) h e
    rw [e] at k
    rw [show valV kvs (A.k a) = some v from e2]
    exact k v r
end
end U
set_option Elab.async false
set_option linter.all false
set_option maxRecDepth 100000
set_option maxHeartbeats 4000000
/-! ### min and max of a list of data that can be ordered -/
namespace U
open PySem PySem.Spec PyProof.Rows L2 PySem.W
def minG {α : Type} (lt : α → α → Bool) : List α → Option α
  | [] => none
  | x :: r => some (r.foldl (fun a y => if lt y a then y else a) x)
def maxG {α : Type} (lt : α → α → Bool) : List α → Option α
  | [] => none
  | x :: r => some (r.foldl (fun a y => if lt a y then y else a) x)
def qMnD (K : PySem.W.Frag) (f : PyData → List PyData → PyData) : RCl := fun xs H Q => ∃ p vs d r, xs = [V.ref p] ∧ SqL K H p vs ∧ DpAll K H vs (d :: r) ∧ AlikeAll (d :: r) ∧ (∀ e ∈ d :: r, e.depth ≤ 60) ∧
  ∀ (i : Nat) (v : V) (e : PyData), vs[i]? = some v → (d :: r)[i]? = some e → e = f d r → Q v H
theorem depthAll_le {m : Nat} : ∀ {ds : List PyData}, (∀ e ∈ ds, e.depth ≤ m) → PyData.depthAll ds ≤ m
  | [], _ => Nat.zero_le _
  | d :: ds, h => Nat.max_le.mpr ⟨h d List.mem_cons_self, depthAll_le fun e he => h e (List.mem_cons_of_mem _ he)⟩
section
variable {X : Cx} {K : PySem.W.Frag} {k : Nat}
theorem c_mnD (hK : X.K = K) (hr : Room k X.A) (hc : X.calm = true) : CallR X (.builtin "min") (qMnD K PySem.W.minD) := by
  subst hK
  intro pins s σ H xs us Q I rv ⟨p, vs, d, r, e, hq, hd, ha, hdp, q⟩
  subst e
  obtain ⟨u, rfl, ru⟩ := vals1 rv
  obtain rfl : u = Value.ref p := ru
  obtain ⟨its, ri, hl, hz⟩ := I.list hq
  obtain ⟨as, rd⟩ := Dp.readsAll I (d :: r) vs its hd ri
  have dl := depthAll_le hdp
  have hu := hr.un
  refine PySem.W.min_list_data (I.ok.hd hc) hl.isList (by simpa using rd) ha (by omega) fun i v h' tk bs hv rm hk => ?_
  have hv : its[i]? = some v := by simpa using hv
  obtain ⟨x, hx, rx⟩ := vals_get ri hv
  obtain ⟨bs2, r2, h3, _, _⟩ := readsAll_at rd i v hv
  have e1 := (PyProof.Rows.reads_det (h := s.heap) (h' := h') (fun b o e _ => hk b o e) r2 rm).1
  have e2 : (d :: r)[i]? = some ((d :: r).getD i .none) := by
    rw [List.getD_eq_getElem?_getD, List.getElem?_eq_getElem h3]; rfl
  exact ⟨x, H, I.kept (t' := tk) hk, rx, q i x _ hx e2 e1.symm⟩
theorem c_mxD (hK : X.K = K) (hr : Room k X.A) (hc : X.calm = true) : CallR X (.builtin "max") (qMnD K PySem.W.maxD) := by
  subst hK
  intro pins s σ H xs us Q I rv ⟨p, vs, d, r, e, hq, hd, ha, hdp, q⟩
  subst e
  obtain ⟨u, rfl, ru⟩ := vals1 rv
  obtain rfl : u = Value.ref p := ru
  obtain ⟨its, ri, hl, hz⟩ := I.list hq
  obtain ⟨as, rd⟩ := Dp.readsAll I (d :: r) vs its hd ri
  have dl := depthAll_le hdp
  have hu := hr.un
  refine PySem.W.max_list_data (I.ok.hd hc) hl.isList (by simpa using rd) ha (by omega) fun i v h' tk bs hv rm hk => ?_
  have hv : its[i]? = some v := by simpa using hv
  obtain ⟨x, hx, rx⟩ := vals_get ri hv
  obtain ⟨bs2, r2, h3, _, _⟩ := readsAll_at rd i v hv
  have e1 := (PyProof.Rows.reads_det (h := s.heap) (h' := h') (fun b o e _ => hk b o e) r2 rm).1
  have e2 : (d :: r)[i]? = some ((d :: r).getD i .none) := by
    rw [List.getD_eq_getElem?_getD, List.getElem?_eq_getElem h3]; rfl
  exact ⟨x, H, I.kept (t' := tk) hk, rx, q i x _ hx e2 e1.symm⟩
end
section
variable {α : Type} [DecidableEq α] {t : Rp α} {D : Dt t} {K : PySem.W.Frag} {F H : Hp} {p : Addr} {vs : List V} {xs : List α} {m : α} {Q : VK}
theorem dt_inj (D : Dt t) {x y : α} (e : D.d x = D.d y) : x = y := (D.eqv x y).mp (by rw [← e]; exact (D.eqv x x).mpr rfl)
theorem so_alikeAll (S : So D) (xs : List α) : AlikeAll (xs.map D.d) := by
  refine ⟨fun x hx y hy => ?_, fun x hx => ?_⟩
  · obtain ⟨a, _, rfl⟩ := List.mem_map.mp hx
    obtain ⟨b, _, rfl⟩ := List.mem_map.mp hy
    exact S.al a b
  · obtain ⟨a, _, rfl⟩ := List.mem_map.mp hx
    rcases S.so with h | h
    · obtain ⟨b, r, e⟩ := h a
      rw [e]; exact fun z => nomatch z
    · exact (h a).1
theorem minD_map (S : So D) : ∀ (r : List α) (x : α), PySem.W.minD (D.d x) (r.map D.d) = D.d (r.foldl (fun a y => if S.lt y a then y else a) x)
  | [], x => rfl
  | y :: r, x => by
    have ih := minD_map S r (if S.lt y x then y else x)
    rw [List.foldl_cons, ← ih]
    unfold PySem.W.minD
    rw [List.map_cons, List.foldl_cons, S.ok]
    cases S.lt y x <;> rfl
theorem maxD_map (S : So D) : ∀ (r : List α) (x : α), PySem.W.maxD (D.d x) (r.map D.d) = D.d (r.foldl (fun a y => if S.lt a y then y else a) x)
  | [], x => rfl
  | y :: r, x => by
    have ih := maxD_map S r (if S.lt x y then y else x)
    rw [List.foldl_cons, ← ih]
    unfold PySem.W.maxD
    rw [List.map_cons, List.foldl_cons, S.ok]
    cases S.lt x y <;> rfl
theorem v_minG (S : So D) (hs : Sub F H) (hq : SqL K H p vs) (hr : Al t F vs xs) (h : minG S.lt xs = some m) (k : ∀ v, t.r F v m → Q v H) : qMnD K PySem.W.minD [.ref p] H Q := by
  cases xs with
  | nil => cases h
  | cons x r =>
    have h := Option.some.inj h
    refine ⟨p, vs, D.d x, r.map D.d, rfl, hq, dt_all D hs hr, so_alikeAll S (x :: r), fun d hd => ?_, fun i v e hv he ee => ?_⟩
    · obtain ⟨y, _, rfl⟩ := List.mem_map.mp (show d ∈ (x :: r).map D.d from hd)
      exact S.dp y
    · rw [minD_map S r x, h] at ee
      have he : ((x :: r).map D.d)[i]? = some e := he
      rw [List.getElem?_map] at he
      cases ey : (x :: r)[i]? with
      | none => rw [ey] at he; cases he
      | some y =>
        rw [ey] at he
        have he : D.d y = e := Option.some.inj he
        obtain ⟨v', e1, rv⟩ := pd_get hr ey
        rw [hv] at e1
        cases e1
        have : y = m := dt_inj D (he.trans ee)
        rw [this] at rv
        exact k _ rv
theorem v_maxG (S : So D) (hs : Sub F H) (hq : SqL K H p vs) (hr : Al t F vs xs) (h : maxG S.lt xs = some m) (k : ∀ v, t.r F v m → Q v H) : qMnD K PySem.W.maxD [.ref p] H Q := by
  cases xs with
  | nil => cases h
  | cons x r =>
    have h := Option.some.inj h
    refine ⟨p, vs, D.d x, r.map D.d, rfl, hq, dt_all D hs hr, so_alikeAll S (x :: r), fun d hd => ?_, fun i v e hv he ee => ?_⟩
    · obtain ⟨y, _, rfl⟩ := List.mem_map.mp (show d ∈ (x :: r).map D.d from hd)
      exact S.dp y
    · rw [maxD_map S r x, h] at ee
      have he : ((x :: r).map D.d)[i]? = some e := he
      rw [List.getElem?_map] at he
      cases ey : (x :: r)[i]? with
      | none => rw [ey] at he; cases he
      | some y =>
        rw [ey] at he
        have he : D.d y = e := Option.some.inj he
        obtain ⟨v', e1, rv⟩ := pd_get hr ey
        rw [hv] at e1
        cases e1
        have : y = m := dt_inj D (he.trans ee)
        rw [this] at rv
        exact k _ rv
end
/-! ### d == {} ; a list's item as it stands; what an optional thing holds -/
def qEqD0 : R2 := fun x y H Q => ∃ a b kvs, x = V.ref a ∧ y = V.ref b ∧ Rd H a (.dK kvs) ∧ Rd H b (.dK []) ∧ Q (.bl (kvs.length == 0)) H
theorem op_eqD0 {X : Cx} {k : Nat} (hr : Room k X.A) : OpR X (compareOp .Eq) qEqD0 := by
  intro pins s σ H x y v u Q I rx ry h
  obtain ⟨a, b, kvs, rfl, rfl, h1, h2, q⟩ := h
  cases rx
  cases ry
  obtain ⟨z1, lo1, vs1, rel1, d1⟩ := dk_rd I.hok h1
  obtain ⟨z2, lo2, vs2, rel2, d2⟩ := dk_rd I.hok h2
  have l1 : kvs.length = vs1.length := Paired.length rel1
  have l2 : vs2 = [] := by
    have := Paired.length rel2
    exact List.length_eq_zero_iff.mp this.symm
  subst l2
  have hu := hr.un
  refine PySem.W.rcP_dicts lo1 lo2 d1 d2 (by omega) (r := true) (fun e => ?_) _ _ ⟨.bl (vs1.length == ([] : List (Key × Value)).length && true), H, I, rfl, ?_⟩
  · have : vs1 = [] := List.length_eq_zero_iff.mp e
    rw [this]; exact .nil
  · rw [Bool.and_true, ← l1]
    exact q
section
variable {α β : Type} [DecidableEq α] {t : Rp α} {D : Dt t} {A : Ke D} {u : Rp β} {F H : Hp} {p p2 : Addr} {kvs : List (Key × V)} {xs : List (α × β)} {Q : VK}
theorem v_eqD0 (hp : H p = some (.dK kvs)) (h : Pr (dyK A) u F kvs xs) (hp2 : H p2 = some (.dK [])) (k : Q (.bl (xs.length == 0)) H) : qEqD0 (.ref p) (.ref p2) H Q :=
  ⟨p, p2, kvs, rfl, rfl, .inl hp, .inl hp2, by
    have e : (kvs : List (Key × V)).length = xs.length := pr_len (Y := dyK A) h
    rw [e]; exact k⟩
theorem v_ixRawL {K : PySem.W.Frag} {vs : List V} {i : Int} {y : V} (hs : Sub F H) (hq : F p = some (.lst vs)) (h : atI vs i = some y) (k : Q y H) : rIxL K (.ref p) (.int i) H Q :=
  ⟨p, vs, i, y, rfl, rfl, .inl (.inl (hs _ _ hq)), h, k⟩
theorem eO_get {v : V} {x : Option α} {b : α} (hr : (eO t).r F v x) (h : x = some b) : t.r F v b := by
  subst h
  exact hr.2
end
end U
/-! ### max(d.values()) -/
namespace U
open PySem PySem.Spec PyProof.Rows L2
theorem getDat {α : Type} {xs : List α} {i : Nat} {a d : α} (h : xs[i]? = some a) : xs.getD i d = a := by rw [List.getD_eq_getElem?_getD, h]; rfl
def tMaxVals (td : TE) : TE := fun σ H Q => td σ H fun x H1 => ∃ a kvs is, x = V.ref a ∧ H1 a = some (.dK kvs) ∧ kvs.map (·.2) = is.map V.int ∧ is ≠ [] ∧ ∀ m, m ∈ is → (∀ j ∈ is, j ≤ m) → Q (.int m) H1
section
variable {X : Cx} {o : Expr} {p pos apos mpos : Pos} {td : TE}
theorem pe_maxVals (hc : X.calm = true) (hg : Gl X "max") (hm : X.mg "max" = none) (hd : PE X o td) (hbase : attributeBase o "values" X.env (eval o X.env) = eval o X.env := by rfl) (hline : (apos.endLine == mpos.line) = true := by rfl)
    (hse : starEach [Expr.Call (.Attribute o "values" apos) [] [] mpos] X.env = [(false, eval (Expr.Call (.Attribute o "values" apos) [] [] mpos) X.env)] := by rfl) :
    PE X (.Call (.Name "max" p) [.Call (.Attribute o "values" apos) [] [] mpos] [] pos) (tMaxVals td) := by
  refine ⟨fun pins s σ H Q I h => ?_⟩
  refine Call_ (ld_blt I hg hm bo_max (PyProof.Rows.callWith_builtin1 (PyProof.Rows.args_cons ?_ rfl) hse rfl))
  refine wpAny_Call_method (T := "dict") (id := "dict.values") hbase rfl hline F.plainAttrs_dict F.slot_dict_values F.type_dict_values (thn (hd.run pins s σ H _ I h) fun v s1 ⟨x, H1, I1, r1, a, kvs, is, ex, ha, hv, hne, q⟩ => ?_)
  subst ex
  obtain rfl : v = Value.ref a := r1
  obtain ⟨_, sysn, vs, rel, dof⟩ := dk_of I1.hok ha
  obtain ⟨ep, dat⟩ := dof.dictAt
  refine ⟨dof.typeIs, dof.mapOf.noDict, ?_⟩
  refine method_meetsIn F.slot_dict_values F.entry_dict_values rfl (PySem.evalArgs_none ⟨rfl, dof.typeIs, F.args_dict_values_1 _, _, meets_dict_values (mixKind X.prog X.w) a sysn, ⟨vs, dof⟩, ?_⟩)
  refine PyProof.Rows.args_nil ?_
  let view : Obj := { cls := .type "dict_values", data := .fields #[.ref a] }
  have up : ∀ b u, s1.heap.get? b = some u → (s1.heap.push view).get? b = some u := fun b u e => Heap.get?_push_of_some _ e
  have S := PySem.W.kdl_values (knd := mixKind X.prog X.w) (prog := X.prog) (w := X.w) (r := s1.heap.objs.size) (d := a) (kvs := vs) (ep := ep)
  have okv : (s1.heap.push view).IsValuesView s1.heap.objs.size a ∧ (s1.heap.push view).DictAt (mixKind X.prog X.w) a vs ep := ⟨⟨_, Heap.get?_push_size _ rfl, rfl, rfl⟩, dat.keep up⟩
  obtain ⟨oI, St, hit, W, st⟩ := S.iter X.A.in1 { s1 with heap := s1.heap.push view } (I.ok.hd hc) okv
  obtain ⟨lr, la⟩ := S.there _ okv
  have lv : vs.length = is.length := by
    have e1 := congrArg List.length hv
    rw [List.length_map, List.length_map, Paired.length rel] at e1
    exact e1
  have num : ∀ (i : Nat) (v : Value), (∃ k, vs[i]? = some (k, v)) → ∃ t, v = Value.int (is.getD i 0) t := fun i v ⟨k, hk⟩ => by
    obtain ⟨x, h1, h2⟩ := L2.KV.at' rel hk
    have e1 : (kvs.map (·.2))[i]? = some x := by rw [List.getElem?_map, h1] <;> rfl
    rw [hv, List.getElem?_map] at e1
    cases e3 : is[i]? with
    | none => rw [e3] at e1; cases e1
    | some j =>
      rw [e3] at e1
      cases e1
      obtain ⟨t, e4⟩ := h2
      exact ⟨t, by rw [e4, getDat e3]⟩
  have n0 : 0 < is.length := List.length_pos_iff.mpr hne
  refine call_max_walk (hit _ _ ⟨_, _, _, _, _, _, _, rfl, W, st, fun b hb => ?_, by omega, CmpOf.ints_gt (fun i => is.getD i 0) num, fun v h' tk hP hk => ?_⟩)
  · show b < ((s1.heap.push view).push oI).objs.size
    rw [Heap.size_push]
    rcases List.mem_cons.mp hb with e | e
    · rw [e]; exact Nat.lt_succ_self _
    · rw [List.mem_singleton.mp e]; exact Nat.lt_succ_of_lt la
  · obtain ⟨t, rfl⟩ := num _ v hP
    have best := argBest_gt (fun i => is.getD i 0) (vs.length - 1)
    have inn : argBest (fun i j => decide (is.getD i 0 > is.getD j 0)) (vs.length - 1) < is.length := by have := best.1; omega
    refine ⟨.int _, H1, I1.kept (t' := tk) fun b u e => hk b u (fun z => ?_) (Heap.get?_push_of_some _ (up b u e)), ⟨t, rfl⟩, q _ ?_ fun j hj => ?_⟩
    · have l2 := Heap.lt_size e
      rw [List.mem_singleton.mp z] at l2
      exact Nat.lt_asymm lr l2
    · rw [getDat (List.getElem?_eq_getElem inn)]
      exact List.getElem_mem inn
    · obtain ⟨i, hi⟩ := List.getElem?_of_mem hj
      have := best.2 i (by have := (List.getElem?_eq_some_iff.mp hi).1; omega)
      rw [← getDat hi (d := 0)]; exact this
end
section
variable {α : Type} {t : Rp α} {D : Dt t} {A : Ke D} {F H : Hp} {p : Addr} {kvs : List (Key × V)} {xs : List (α × Int)} {m : Int} {Q : VK} {σ : L2.St} {td : TE}
def qMaxVals (Q : VK) : VK := fun x H1 => ∃ a kvs is, x = V.ref a ∧ H1 a = some (.dK kvs) ∧ kvs.map (·.2) = is.map V.int ∧ is ≠ [] ∧ ∀ m, m ∈ is → (∀ j ∈ is, j ≤ m) → Q (.int m) H1
theorem n_maxVals (h : td σ H (qMaxVals Q)) : tMaxVals td σ H Q := h
theorem pr_vals {kvs : List (Key × V)} {xs : List (α × Int)} (h : Pr (dyK A) eI F kvs xs) : kvs.map (·.2) = (xs.map Prod.snd).map V.int := by
  induction h with
  | nil => rfl
  | @cons kv y kvs ys r t ih => exact congr (congrArg List.cons r.2) ih
theorem v_maxVals (hp : H p = some (.dK kvs)) (h : Pr (dyK A) eI F kvs xs) (e : maxM (xs.map Prod.snd) = some m) (k : Q (.int m) H) : qMaxVals Q (.ref p) H := by
  obtain ⟨h1, h2⟩ := maxM_ok e
  refine ⟨p, kvs, xs.map Prod.snd, rfl, hp, pr_vals h, (fun z => by rw [z] at h1; cases h1), fun m' g1 g2 => ?_⟩
  have a := h2 _ g1
  have b := g2 _ h1
  have : m' = m := by omega
  rw [this]; exact k
end
end U
/-! ### // by a divisor of many digits -/
namespace U
open PySem PySem.Spec L2
def divW (i j : Int) : Option Int := need (decide (0 < j ∧ j.natAbs < 2 ^ 8000)) (i / j)
theorem v_divW {F H : Hp} {Q : VK} {i j a : Int} (h : divW i j = some a) (k : Q (.int a) H) : L2.rI CDivW (fun i j => .int (i / j)) (.int i) (.int j) H Q := by
  obtain ⟨h1, rfl⟩ := need_ok h
  have h2 := of_decide_eq_true h1
  exact ⟨i, j, rfl, rfl, wide_div h2.1 h2.2 (by decide) (by decide), k⟩
end U
/-! ### what is no None -/
namespace U
open PySem PySem.Spec L2
section
variable {α β γ : Type} {a : Rp α} {b : Rp β} {c : Rp γ} {F : Hp} {v : V}
theorem nn_P2 {x : α × β} (h : (eP2 a b).r F v x) : v ≠ .non := by obtain ⟨p, _, _, e, _⟩ := h; rw [e]; exact fun z => nomatch z
theorem nn_P3 {x : α × β × γ} (h : (eP3 a b c).r F v x) : v ≠ .non := by obtain ⟨p, _, _, _, e, _⟩ := h; rw [e]; exact fun z => nomatch z
theorem nn_L {x : List α} (h : (eL a).r F v x) : v ≠ .non := by obtain ⟨p, _, e, _⟩ := h; rw [e]; exact fun z => nomatch z
theorem nn_T {x : List α} (h : (eT a).r F v x) : v ≠ .non := by obtain ⟨p, _, e, _⟩ := h; rw [e]; exact fun z => nomatch z
end
end U
set_option Elab.async false
set_option linter.all false
set_option maxRecDepth 100000
set_option maxHeartbeats 4000000
/-! ### tuples of numbers: index, max, min -/
namespace U
open PySem PySem.Spec PyProof.Rows L2 PySem.W
def rTIdx (K : PySem.W.Frag) : V → List V → Hp → VK → Prop := fun x xs H Q => ∃ (p : Addr) (ns : List Int) (k : Int), x = V.ref p ∧ xs = [V.int k] ∧ SqT K H p (ns.map V.int) ∧ k ∈ ns ∧ Q (.int (ns.idxOf k : Nat)) H
def qMnT (K : PySem.W.Frag) (f : PyData → List PyData → PyData) : RCl := fun xs H Q => ∃ p vs d r, xs = [V.ref p] ∧ SqT K H p vs ∧ DpAll K H vs (d :: r) ∧ AlikeAll (d :: r) ∧ (∀ e ∈ d :: r, e.depth ≤ 60) ∧
  ∀ (i : Nat) (v : V) (e : PyData), vs[i]? = some v → (d :: r)[i]? = some e → e = f d r → Q v H
section
variable {X : Cx} {K : PySem.W.Frag} {k : Nat}
theorem ints_of_vals : ∀ {ns : List Int} {us : List Value}, Vals (ns.map V.int) us → IntsAre us ns
  | [], _, .nil => .nil
  | n :: ns, _, .cons r t => by
    obtain ⟨k, rfl⟩ := r
    exact .cons _ _ (ints_of_vals t)
theorem mt_tidx (hK : X.K = K) : MtR X "tuple.index" (rTIdx K) := by
  subst hK
  intro pins s σ H x xs v us Q I rx rxs h
  obtain ⟨p, ns, k, rfl, rfl, hq, hk, q⟩ := h
  cases rx
  obtain ⟨u, rfl, ru⟩ := vals1 rxs
  obtain ⟨t, rfl⟩ := ru
  obtain ⟨its, rv, tup, _⟩ := I.tuple hq
  exact PySem.SeqAt.tuple_index_ints tup (ints_of_vals rv) hk ⟨.int _, H, I.tok _, ⟨_, rfl⟩, q⟩
theorem c_mxT (hK : X.K = K) (hr : Room k X.A) (hc : X.calm = true) : CallR X (.builtin "max") (qMnT K PySem.W.maxD) := by
  subst hK
  intro pins s σ H xs us Q I rv ⟨p, vs, d, r, e, hq, hd, ha, hdp, q⟩
  subst e
  obtain ⟨u, rfl, ru⟩ := vals1 rv
  obtain rfl : u = Value.ref p := ru
  obtain ⟨its, ri, hl, hz⟩ := I.tuple hq
  obtain ⟨as, rd⟩ := Dp.readsAll I (d :: r) vs its hd ri
  have dl := depthAll_le hdp
  have hu := hr.un
  refine PySem.W.max_tuple_data (I.ok.hd hc) hl (by simpa using rd) ha (by omega) fun i v h' tk bs hv rm hk => ?_
  have hv : its[i]? = some v := by simpa using hv
  obtain ⟨x, hx, rx⟩ := vals_get ri hv
  obtain ⟨bs2, r2, h3, _, _⟩ := readsAll_at rd i v hv
  have e1 := (PyProof.Rows.reads_det (h := s.heap) (h' := h') (fun b o e _ => hk b o e) r2 rm).1
  have e2 : (d :: r)[i]? = some ((d :: r).getD i .none) := by
    rw [List.getD_eq_getElem?_getD, List.getElem?_eq_getElem h3]; rfl
  exact ⟨x, H, I.kept (t' := tk) hk, rx, q i x _ hx e2 e1.symm⟩
theorem c_mnT (hK : X.K = K) (hr : Room k X.A) (hc : X.calm = true) : CallR X (.builtin "min") (qMnT K PySem.W.minD) := by
  subst hK
  intro pins s σ H xs us Q I rv ⟨p, vs, d, r, e, hq, hd, ha, hdp, q⟩
  subst e
  obtain ⟨u, rfl, ru⟩ := vals1 rv
  obtain rfl : u = Value.ref p := ru
  obtain ⟨its, ri, hl, hz⟩ := I.tuple hq
  obtain ⟨as, rd⟩ := Dp.readsAll I (d :: r) vs its hd ri
  have dl := depthAll_le hdp
  have hu := hr.un
  refine PySem.W.min_tuple_data (I.ok.hd hc) hl (by simpa using rd) ha (by omega) fun i v h' tk bs hv rm hk => ?_
  have hv : its[i]? = some v := by simpa using hv
  obtain ⟨x, hx, rx⟩ := vals_get ri hv
  obtain ⟨bs2, r2, h3, _, _⟩ := readsAll_at rd i v hv
  have e1 := (PyProof.Rows.reads_det (h := s.heap) (h' := h') (fun b o e _ => hk b o e) r2 rm).1
  have e2 : (d :: r)[i]? = some ((d :: r).getD i .none) := by
    rw [List.getD_eq_getElem?_getD, List.getElem?_eq_getElem h3]; rfl
  exact ⟨x, H, I.kept (t' := tk) hk, rx, q i x _ hx e2 e1.symm⟩
end
section
variable {K : PySem.W.Frag} {F H : Hp} {p : Addr} {vs : List V} {xs : List Int} {k j : Int} {Q : VK}
theorem v_tidx (hq : SqT K H p vs) (hr : Al eI F vs xs) (h : idxM xs k = some j) (q : Q (.int j) H) : rTIdx K (.ref p) [.int k] H Q := by
  have e := al_int hr
  subst e
  unfold idxM at h
  cases e : xs.findIdx? fun x => decide (x = k) with
  | none => rw [e] at h; cases h
  | some i =>
    rw [e] at h
    have ej : (i : Int) = j := Option.some.inj h
    subst ej
    obtain ⟨hi, pi, no⟩ := List.findIdx?_eq_some_iff_getElem.mp e
    have pk : xs[i] = k := of_decide_eq_true pi
    have hm : k ∈ xs := pk ▸ List.getElem_mem hi
    have : xs.idxOf k = i := by
      unfold List.idxOf
      rw [List.findIdx_eq hi]
      refine ⟨by simpa using pk, fun m hm => ?_⟩
      have := no m hm
      simpa using this
    exact ⟨p, xs, k, rfl, rfl, hq, hm, by rw [this]; exact q⟩
end
section
variable {α : Type} [DecidableEq α] {t : Rp α} {D : Dt t} {K : PySem.W.Frag} {F H : Hp} {p : Addr} {vs : List V} {xs : List α} {m : α} {Q : VK}
theorem v_maxT (S : So D) (hs : Sub F H) (hq : SqT K H p vs) (hr : Al t F vs xs) (h : maxG S.lt xs = some m) (k : ∀ v, t.r F v m → Q v H) : qMnT K PySem.W.maxD [.ref p] H Q := by
  cases xs with
  | nil => cases h
  | cons x r =>
    have h := Option.some.inj h
    refine ⟨p, vs, D.d x, r.map D.d, rfl, hq, dt_all D hs hr, so_alikeAll S (x :: r), fun d hd => ?_, fun i v e hv he ee => ?_⟩
    · obtain ⟨y, _, rfl⟩ := List.mem_map.mp (show d ∈ (x :: r).map D.d from hd)
      exact S.dp y
    · rw [maxD_map S r x, h] at ee
      have he : ((x :: r).map D.d)[i]? = some e := he
      rw [List.getElem?_map] at he
      cases ey : (x :: r)[i]? with
      | none => rw [ey] at he; cases he
      | some y =>
        rw [ey] at he
        have he : D.d y = e := Option.some.inj he
        obtain ⟨v', e1, rv⟩ := pd_get hr ey
        rw [hv] at e1
        cases e1
        have : y = m := dt_inj D (he.trans ee)
        rw [this] at rv
        exact k _ rv
theorem v_minT (S : So D) (hs : Sub F H) (hq : SqT K H p vs) (hr : Al t F vs xs) (h : minG S.lt xs = some m) (k : ∀ v, t.r F v m → Q v H) : qMnT K PySem.W.minD [.ref p] H Q := by
  cases xs with
  | nil => cases h
  | cons x r =>
    have h := Option.some.inj h
    refine ⟨p, vs, D.d x, r.map D.d, rfl, hq, dt_all D hs hr, so_alikeAll S (x :: r), fun d hd => ?_, fun i v e hv he ee => ?_⟩
    · obtain ⟨y, _, rfl⟩ := List.mem_map.mp (show d ∈ (x :: r).map D.d from hd)
      exact S.dp y
    · rw [minD_map S r x, h] at ee
      have he : ((x :: r).map D.d)[i]? = some e := he
      rw [List.getElem?_map] at he
      cases ey : (x :: r)[i]? with
      | none => rw [ey] at he; cases he
      | some y =>
        rw [ey] at he
        have he : D.d y = e := Option.some.inj he
        obtain ⟨v', e1, rv⟩ := pd_get hr ey
        rw [hv] at e1
        cases e1
        have : y = m := dt_inj D (he.trans ee)
        rw [this] at rv
        exact k _ rv
end
end U
set_option Elab.async false
set_option linter.all false
set_option maxRecDepth 100000
set_option maxHeartbeats 4000000
/-! ### tuples of which it is known that they have no dict: their methods -/
namespace U
open PySem PySem.Spec PyProof.Rows L2
def eZ {α : Type} (t : Rp α) : Rp (List α) := ⟨fun F v x => ∃ p o vs, v = .ref p ∧ F p = some (.frz o (.tup vs)) ∧ o.dict = none ∧ Al t F vs x,
  fun s ⟨p, o, vs, e, q, hd, h⟩ => ⟨p, o, vs, e, s _ _ q, hd, h.mono s⟩⟩
section
variable {α : Type} {t : Rp α} {F H : Hp} {v : V}
def dZ (a : Dt t) : Dt (eZ t) := ⟨fun x => .tuple (x.map a.d), fun hs ⟨p, o, vs, e, q, _, h⟩ => by subst e; exact .tup (.inl (.inr ⟨o, hs _ _ q⟩)) (dt_all a hs h), fun x y => by
  simp only [PyData.eqv]; exact eqv_all a x y⟩
theorem sh_Z {D : Dt t} {n : Nat} (h : Sh D n) : Sh (dZ D) (n + 1) := ⟨fun x => (sh_T h).ok x⟩
theorem sqZ {K : PySem.W.Frag} {a : Addr} {o : Obj} {xs : List V} (h : H a = some (.frz o (.tup xs))) : SqT K H a xs := .inl (.inr ⟨o, h⟩)
theorem nn_Z {x : List α} (h : (eZ t).r F v x) : v ≠ .non := by obtain ⟨p, _, _, e, _⟩ := h; rw [e]; exact fun z => nomatch z
theorem ty_zt {K : PySem.W.Frag} {m : List α} (hs : Sub F H) (h : (eZ t).r F v m) : TyX K H v (.type "tuple") := by
  obtain ⟨p, o, vs, rfl, q, _⟩ := h
  exact .fTuple (hs _ _ q)
end
def qTupleZ (K : PySem.W.Frag) : RCl := fun xs H Q => ∃ p ys, xs = [V.ref p] ∧ SqL K H p ys ∧ ∀ l (o : Obj), H l = none → o.dict = none → Q (.ref l) (upd H l (.frz o (.tup ys)))
theorem c_tupleZ {X : Cx} {K : PySem.W.Frag} (hK : X.K = K) : CallR X (.type "tuple") (qTupleZ K) := by
  subst hK
  intro pins s σ H xs us Q I r h
  obtain ⟨p, ys, rfl, hq, q⟩ := h
  obtain ⟨u, rfl, rx⟩ := vals1 r
  cases rx
  obtain ⟨its, rv, pl, hz⟩ := I.list hq
  have hlen := rv.length
  refine call_tuple_list pl.isList (fun h' kp => ?_) (by simp only [List.size_toArray] <;> omega)
  have I1 : Inv X pins σ H { s with heap := h' } := I.kept (t' := s.toks) kp
  let tu : Obj := { cls := .type "tuple", data := .seq its.toArray }
  have at0 : (h'.push tu).get? h'.objs.size = some tu := Heap.get?_push_size _ rfl
  refine ⟨.ref h'.objs.size, _, I1.laid (t' := s.toks) (o := .frz tu (.tup ys)) (fun b o e => Heap.get?_push_of_some _ e) (Nat.le_refl _) ⟨at0, hz, its, rv, IsTup.new _ _⟩, rfl, q _ tu (I1.hok.fresh (Nat.le_refl _)) rfl⟩
/-- t.m(..), t a tuple without a dict -/
def tTM (r : V → List V → Hp → VK → Prop) (to : TE) (t : TA) : TE := fun σ H Q => to σ H fun x H1 => (∃ p o xs, x = V.ref p ∧ H1 p = some (.frz o (.tup xs)) ∧ o.dict = none) ∧ t σ H1 fun xs H2 => r x xs H2 Q
section
variable {X : Cx} {o e : Expr} {es : List Expr} {to : TE} {t : TA} {name : Str} {apos cpos : Pos} {id : String} {r : V → List V → Hp → VK → Prop}
theorem pe_tm (slot : Slot "tuple" name id) (hty : typeOf (.builtin id) = pure (.type "method_descriptor")) (hm : MtR X id r) (ho : PE X o to) (ha : PA X (e :: es) t)
    (h1 : attributeBase o name X.env (eval o X.env) = eval o X.env := by rfl)
    (h2 : (((((backTo cpos (starEach (e :: es) X.env)).all fun x => !x.fst) && (backToKw cpos (keywordEach [] X.env)).all fun x => x.fst.isSome) && decide (((e :: es).length + ([] : List Keyword).length + if ([] : List Keyword).isEmpty = true then 0 else 1) < 30)) = true) := by rfl)
    (h3 : (apos.endLine == cpos.line) = true := by rfl) (h4 : starEach (e :: es) X.env = (false, eval e X.env) :: starEach es X.env := by rfl) (h5 : ((backTo cpos (starEach es X.env)).any fun x => x.fst) = false := by rfl) :
    PE X (.Call (.Attribute o name apos) (e :: es) [] cpos) (tTM r to t) := by
  refine ⟨fun pins s σ H Q I h => ?_⟩
  refine wpAny_Call_method_late h1 h2 h3 rfl (thn (ho.run pins s σ H _ I h) fun v s1 ⟨x, H1, I1, r1, ⟨p, ob, xs, ex, hp, nd⟩, q1⟩ => ?_)
  subst ex
  obtain rfl : v = Value.ref p := r1
  obtain ⟨g, _, its, _, ⟨ob2, g2, c2, _⟩⟩ := (show ObjOk X.prog X.w H1 s1.heap p (.frz ob (.tup xs)) from I1.hok p _ hp)
  rw [g] at g2
  cases g2
  refine ⟨"tuple", id, F.plainAttrs_tuple, slot, hty, ⟨ob, g, c2⟩, fun a z => by cases z; exact ⟨ob, g, nd⟩, ?_⟩
  have hA := ha.run cpos pins s1 σ H1 _ I1 q1
  rw [h4] at hA ⊢
  refine Calls.callWith_builtin (by show (false || (backTo cpos (starEach es X.env)).any (·.1)) = false; rw [h5] <;> rfl) (Calls.evalArgs_plain ?_)
  exact thn hA fun us s2 ⟨vs, H2, I2, r2, q2⟩ => hm pins s2 σ H2 (.ref p) vs (.ref p) us Q I2 rfl r2 q2
theorem n_tm {σ : L2.St} {H : Hp} {Q : VK} (h : to σ H fun x H1 => (∃ p o xs, x = V.ref p ∧ H1 p = some (.frz o (.tup xs)) ∧ o.dict = none) ∧ t σ H1 fun xs H2 => r x xs H2 Q) : tTM r to t σ H Q := h
end
/-! t.count(b), truths -/
def rTCnt (K : PySem.W.Frag) : V → List V → Hp → VK → Prop := fun x xs H Q => ∃ (p : Addr) (bs : List Bool) (b : Bool), x = V.ref p ∧ xs = [V.bl b] ∧ SqT K H p (bs.map V.bl) ∧ Q (.int ((bs.filter fun c => decide (c = b)).length : Int)) H
theorem dpa_bools {K : PySem.W.Frag} {H : Hp} : ∀ bs : List Bool, DpAll K H (bs.map V.bl) (bs.map PyData.bool)
  | [] => .nil
  | b :: bs => .cons (.bl b) (dpa_bools bs)
theorem plain_bools : ∀ bs : List Bool, PyData.plainAll (bs.map PyData.bool) = true
  | [] => by simp [PyData.plainAll]
  | b :: bs => by simp [PyData.plainAll, PyData.plain, plain_bools bs]
theorem cnt_bools (b : Bool) : ∀ bs : List Bool, (bs.map PyData.bool).countP (fun y => PyData.eqv y (.bool b)) = (bs.filter fun c => decide (c = b)).length
  | [] => rfl
  | c :: bs => by
    rw [List.map_cons, List.countP_cons, cnt_bools b bs, List.filter_cons]
    cases b <;> cases c <;> simp [PyData.eqv]
theorem mt_tcnt {X : Cx} {K : PySem.W.Frag} {k : Nat} (hK : X.K = K) (hr : Room k X.A) : MtR X "tuple.count" (rTCnt K) := by
  subst hK
  intro pins s σ H x xs v us Q I rx rxs h
  obtain ⟨p, bs, b, rfl, rfl, hq, q⟩ := h
  cases rx
  obtain ⟨u, rfl, ru⟩ := vals1 rxs
  obtain rfl : u = Value.bool b := ru
  obtain ⟨its, rv, tup, _⟩ := I.tuple hq
  obtain ⟨as, rd⟩ := Dp.readsAll I _ _ its (dpa_bools bs) rv
  have hu := hr.un
  refine PySem.SeqAt.count_tuple_data tup (by simpa using rd) (Reads.bool b) (plain_bools bs) (by simp [PyData.plain]) (by simp only [PyData.depth]; omega) ⟨.int _, H, I.tok _, ⟨_, rfl⟩, ?_⟩
  rw [cnt_bools]; exact q
theorem v_tcnt {K : PySem.W.Frag} {F H : Hp} {p : Addr} {vs : List V} {bs : List Bool} {b : Bool} {Q : VK} (hq : SqT K H p vs) (hr : Al eB F vs bs) (k : Q (.int ((bs.filter fun c => decide (c = b)).length : Int)) H) : rTCnt K (.ref p) [.bl b] H Q := by
  have e := al_bl hr
  subst e
  exact ⟨p, bs, b, rfl, rfl, hq, k⟩
theorem v_tupleZ {α : Type} {t : Rp α} {K : PySem.W.Frag} {F H : Hp} {p : Addr} {vs : List V} {xs : List α} {Q : VK} (hs : Sub F H) (hq : SqL K H p vs) (hr : Al t F vs xs)
    (k : ∀ p' (o : Obj) F' H', Gr [] F H F' H' → F' p' = some (.frz o (.tup vs)) → o.dict = none → Al t F' vs xs → Q (.ref p') H') : qTupleZ K [.ref p] H Q :=
  ⟨p, vs, rfl, hq, fun l o hl ho => k _ o _ _ (gr_newF hs hl) upd_same ho (hr.mono (Sub.up1 (hs.nn hl)))⟩
end U
set_option Elab.async false
set_option linter.all false
set_option maxRecDepth 100000
set_option maxHeartbeats 4000000
/-! ### text.find from a place; a text or else another -/
namespace U
open PySem PySem.Spec PyProof.Rows L2
def findS (a b : Sg) (i : Int) : Int := Txt.find3 (S a) (S b) i
def qFind3 : RMt := fun x xs H Q => ∃ (a b : Str) (i : Int), x = .str a ∧ xs = [.str b, .int i] ∧ Q (.int (Txt.find3 a b i)) H
theorem c_find3 {X : Cx} : MtR X "str.find" qFind3 := mt_find3
theorem v_find3 {H : Hp} {Q : VK} {a b : Sg} {i : Int} (k : Q (.int (findS a b i)) H) : qFind3 (.str (S a)) [.str (S b), .int i] H Q := ⟨S a, S b, i, rfl, rfl, k⟩
theorem findS_at {a : Sg} {c i k : Nat} (h1 : i ≤ k) (h2 : a[k]? = some c) (h3 : ∀ v, i ≤ v → v < k → a[v]? ≠ some c) : findS a [c] (i : Int) = (k : Int) := by
  have hk := (List.getElem?_eq_some_iff.mp h2).1
  have hl : (S a).length = a.length := by simp [Str.length]
  have hd : ∀ v, (S a).cps.getD v 0 = a.getD v 0 := fun v => by simp [Array.getD, List.getD_eq_getElem?_getD]; split <;> simp_all
  have fi : fromIndex (S a).length (i : Int) = i := by
    unfold PySem.fromIndex
    rw [if_neg (by omega)]
    omega
  unfold findS
  rcases PySem.StrLaws.find3_spec (S a) c (i : Int) with ⟨_, h⟩ | ⟨m, e, m1, m2, m3, m4⟩
  · exact absurd (by rw [hd, List.getD_eq_getElem?_getD, h2]; rfl) (h k (by rw [fi]; exact h1) (by rw [hl]; exact hk))
  · rw [fi] at m1 m4
    rw [hl] at m2
    have e9 : a[m]? = some c := by
      rw [hd, List.getD_eq_getElem?_getD, List.getElem?_eq_getElem m2] at m3
      rw [List.getElem?_eq_getElem m2]
      exact congrArg some m3
    have : m = k := by
      rcases Nat.lt_trichotomy m k with z | z | z
      · exact absurd e9 (h3 m m1 z)
      · exact z
      · exact absurd (by rw [hd, List.getD_eq_getElem?_getD, h2]; rfl) (m4 k h1 z)
    subst this
    exact e
/-- a or b, texts -/
def orS (a b : Sg) : Sg := if a.isEmpty then b else a
def qOrS (K : PySem.W.Frag) (tb : TE) (σ : L2.St) (Q : VK) : VK := fun x H1 => ∃ k, TruV K x H1 k ∧ if k = true then Q x H1 else tb σ H1 Q
theorem n_orS {K : PySem.W.Frag} {ta tb : TE} {σ : L2.St} {H : Hp} {Q : VK} (h : ta σ H (qOrS K tb σ Q)) : tOrT K ta tb σ H Q := h
theorem br_orS {K : PySem.W.Frag} {u : TE} {σ : L2.St} {H : Hp} {Q : VK} {a b : Sg} (la : a.length ≤ sizeLine) (h : ∀ Q' : VK, (b.length ≤ sizeLine → Q' (.str (S b)) H) → u σ H Q') (k : (orS a b).length ≤ sizeLine → Q (.str (S (orS a b))) H) : qOrS K u σ Q (.str (S a)) H := by
  have hl : (S a).length = a.length := by simp [Str.length]
  refine ⟨!a.isEmpty, ⟨by rw [hl]; exact la, ?_⟩, ?_⟩
  · rw [hl]
    cases a with
    | nil => rfl
    | cons c r =>
      show true = _
      rw [List.length_cons]
      exact (bne_iff_ne.mpr (by omega)).symm
  · unfold orS at k
    cases a with
    | nil =>
      rw [if_neg (by simp)]
      exact h Q k
    | cons c r =>
      rw [if_pos (by simp)]
      exact k la
end U
set_option Elab.async false
set_option linter.all false
set_option maxRecDepth 100000
set_option maxHeartbeats 4000000
/-! ### sorted(set(a)), a a text -/
namespace U
open PySem PySem.Spec L2 PyProof.Rows
section
variable {P : Program} {w : World} {A : Around} {E : Value → Shared → Prop} {s : Shared}
/-- the rows that came of the first i signs: known by their keys -/
structure GotK (ks : List Key) (i : Nat) (L : List (Key × Value)) : Prop where
  sub : ∀ p ∈ L, p.1 ∈ ks.take i
  all : ∀ k ∈ ks.take i, k ∈ L.map Prod.fst
  len : L.length ≤ i
theorem gotK_next {ks : List Key} {L L' : List (Key × Value)} {i : Nat} {k : Key} {v : Value} (g : GotK ks i L) (hx : ks[i]? = some k) (c1 : k ∈ L.map Prod.fst → L' = L) (c2 : k ∉ L.map Prod.fst → L'.Perm ((k, v) :: L)) : GotK ks (i + 1) L' := by
  have et : ks.take (i + 1) = ks.take i ++ [k] := by rw [List.take_succ, hx]; rfl
  by_cases hm : k ∈ L.map Prod.fst
  · have e := c1 hm
    subst e
    refine ⟨fun p hp => by rw [et]; exact List.mem_append_left _ (g.sub p hp), fun p hp => ?_, Nat.le_succ_of_le g.len⟩
    rw [et] at hp
    rcases List.mem_append.mp hp with z | z
    · exact g.all p z
    · rw [List.mem_singleton] at z; subst z; exact hm
  · have pm := c2 hm
    refine ⟨fun p hp => ?_, fun p hp => ?_, by rw [pm.length_eq]; exact Nat.succ_le_succ g.len⟩
    · rw [et]
      rcases List.mem_cons.mp (pm.mem_iff.mp hp) with z | z
      · subst z; simp
      · exact List.mem_append_left _ (g.sub p z)
    · refine (pm.map Prod.fst).mem_iff.mpr ?_
      rw [et] at hp
      rw [List.map_cons]
      rcases List.mem_append.mp hp with z | z
      · exact List.mem_cons_of_mem _ (g.all p z)
      · rw [List.mem_singleton] at z; subst z; exact List.mem_cons_self
theorem set_loopK {I : Addr} {fp wr : List Addr} {G : Array GenState → Array GenState → Prop} {n : Nat} {Pv : Nat → Value → Prop} {St : Nat → Shared → Prop} {R : Result → Shared → Prop}
    (W : WalksS P w A.in1 I fp wr G n Pv St) (Z : Addr) (hZ : Z ∉ fp) (ks : List Key) (en : n = ks.length) (few : ks.length ≤ 3999) (vals : ∀ i v, Pv i v → ∃ k, ks[i]? = some k ∧ (mixKind P w).is k v = true)
    (g0 : Heap) (hZ0 : g0.get? Z = none) (hw0 : ∀ b ∈ wr, g0.get? b = none) (hu : A.in1.units < cLine) :
    ∀ (m i : Nat) (s : Shared), n - i = m → i ≤ n → St i s → (∀ b o, g0.get? b = some o → s.heap.get? b = some o) → (∃ L es ep t, (ekKey P w).ok s.heap Z L es ep t ∧ GotK ks i L) →
      (∀ s' L es ep t, Moved (Z :: wr) G s s' → (ekKey P w).ok s'.heap Z L es ep t → GotK ks n L → (∀ b o, g0.get? b = some o → s'.heap.get? b = some o) → R (.ok (.ret .none)) s') →
      codeAny (model P w) A (.builtin "set.update.loop" ⟨[.ref Z, .ref I], []⟩) R s := by
  have nZ : Z ∉ wr := fun z => hZ (W.sub _ z)
  have up : ∀ b ∈ wr, b ∈ Z :: wr := fun b => List.mem_cons_of_mem _
  have old : ∀ {u v : Shared}, Moved wr G u v → (∀ b o, g0.get? b = some o → u.heap.get? b = some o) → ∀ b o, g0.get? b = some o → v.heap.get? b = some o := fun mv k b o e =>
    mv.heap b o (fun z => by rw [hw0 b z] at e; cases e) (k b o e)
  intro m
  induction m with
  | zero =>
    rintro i s em hi st kp ⟨L, es, ep, t, ok, g⟩ hR
    obtain rfl : i = n := by omega
    refine codeAny_builtin F.entry_set_update_loop ?_
    rw [Around.under_plainId F.plain_set_update_loop _]
    show wpAny _ A.in1 (_ >>= _) _ _ s
    refine wpAny_bind (W.done s _ _ st fun s1 mv => ?_)
    have kp1 := old mv kp
    show wpAny _ _ (ret .none) _ _ s1
    exact wpAny_pure (hR s1 L es ep t (mv.mono up) ((ekKey P w).hold ok (fun o => mv.heap Z o nZ) fun p hp => (ekKey P w).el ok p hp) g kp1)
  | succ m ih =>
    rintro i s em hi st kp ⟨L, es, ep, t, ok, g⟩ hR
    have lt : i < n := by omega
    refine codeAny_builtin F.entry_set_update_loop ?_
    rw [Around.under_plainId F.plain_set_update_loop _]
    show wpAny _ A.in1 (_ >>= _) _ _ s
    refine wpAny_bind (W.item i s _ _ lt st fun v s1 hv st1 mv => ?_)
    obtain ⟨k, hp, hi1⟩ := vals i v hv
    have kp1 := old mv kp
    have ok1 := (ekKey P w).hold ok (fun o => mv.heap Z o nZ) fun p hp => (ekKey P w).el ok p hp
    have x1 : (ekKey P w).is s1.heap k v := hi1
    show wpAny _ _ (holding [v] (setAdd Z v) >>= _) _ _ s1
    refine wpAny_bind (wpAny_holding ?_)
    unfold setAdd
    refine wpAny_holding (wpAny_bind ((ekKey P w).hashed hu x1 fun tk ht => ?_))
    refine (ekKey P w).add (s := { s1 with toks := tk }) hu ok1 x1 (Nat.lt_of_le_of_lt g.len (Nat.lt_of_lt_of_le (en ▸ lt) few)) fun b g2 L2 es2 ep2 t2 sb ok2 c1 c2 => ?_
    have got := gotK_next g hp c1 c2
    have kp2 : ∀ b o, g0.get? b = some o → g2.get? b = some o := fun b o e => by
      rw [sb.2 b fun z => by rw [z, hZ0] at e; cases e]; exact kp1 b o e
    have oth : ∀ b, b ≠ Z → g2.get? b = s1.heap.get? b := fun b hb => sb.2 b hb
    refine wpAny_pure ⟨plainId_quiet F.plain_set_update_loop _, ih (i + 1) _ (by omega) lt (W.frame _ s1 _ _ st1 ht fun b hb o e => ?_) kp2 ⟨L2, es2, ep2, t2, ok2, got⟩ fun s3 L3 es3 ep3 t3 mv3 ok3 got3 kp3 => ?_⟩
    · rw [oth b fun z => hZ (z ▸ hb)]; exact e
    · refine hR s3 L3 es3 ep3 t3 (Moved.trans W.gtrans ((mv.mono up).then_heap ht fun b o hb e => ?_) mv3) ok3 got3 kp3
      rw [oth b fun z => hb (z ▸ List.mem_cons_self)]; exact e
def sgK (a : Sg) : List Key := (signs a).map fun z => .inr (S z)
theorem sgK_at {a : Sg} {i : Nat} {v : Value} (h : SignAt (S a) i v) : ∃ k, (sgK a)[i]? = some k ∧ (mixKind P w).is k v = true := by
  obtain ⟨c, u, hc, rfl⟩ := h
  have hc : a[i]? = some c := by simpa using hc
  refine ⟨.inr (S [c]), ?_, mixKind_str P w _ _⟩
  unfold sgK signs
  rw [List.map_map, List.getElem?_map, hc]; rfl
set_option maxHeartbeats 8000000 in
/-- set(a), a a text -/
theorem set_madeS {a : Sg} {t0 : Tok} {Q : Value → Shared → Prop} (hh : A.handled = none) (few : a.length ≤ 3999) (hu : A.units + 3 < cLine)
    (q : ∀ (g : Heap) (tk : Nat) L es ep t, (ekKey P w).ok g s.heap.objs.size L es ep t → GotK (sgK a) (sgK a).length L → (∀ b o, s.heap.get? b = some o → g.get? b = some o) → Q (.ref s.heap.objs.size) { s with heap := g, toks := tk }) :
    wpAny (model P w) A (call (.type "set") [.str (S a) t0]) Q E s := by
  have kl : (sgK a).length = a.length := by simp [sgK, signs]
  obtain ⟨c, tl, hmro⟩ := F.called_set.mro
  have hmade := F.called_set.made
  have hsub := F.called_set.sub
  refine wpAny_call (codeAny_of_tree ?_)
  show wpAny _ _ (callAny (.type "set") _) _ _ _
  refine wpAny_pure ⟨Code.quiet_builtin _ (by decide +kernel), codeAny_builtin F.entry_type_call ?_⟩
  rw [Around.under_plain (weight_type_call_type "set" [.str (S a) t0] []) rfl]
  have h1 := F.called_set.notType
  have h2 := F.called_set.canCreate
  have hct := F.typeCall_set_1 (.str (S a) t0)
  repeat (any_goals (first | assumption | wp_step))
  refine codeAny_mono (code_set_led1 (.str (S a) t0) (E := E) (Q₁ := fun v s₁ => v = .ref s.heap.objs.size ∧ s₁ = { s with heap := s.heap.push (nset w) }) ⟨rfl, rfl⟩) fun r s₁ hr => ?_
  match r, hr with
  | .error e, hr => exact hr
  | .ok (.ret v), ⟨ev, es1⟩ =>
    subst ev es1
    have gZ : (s.heap.push (nset w)).get? s.heap.objs.size = some (nset w) := Heap.get?_push_size _ rfl
    have tZ : Shared.TypeIs { s with heap := s.heap.push (nset w) } (.ref s.heap.objs.size) "set" := ⟨_, gZ, rfl⟩
    have hli := F.called_set.init.lookup
    have hbi := F.called_set.init.bind (.ref s.heap.objs.size)
    repeat (any_goals (first | assumption | wp_step))
    refine codeAny_mono (codeAny_call_builtin (R := wants (fun r u => r = .none ∧ ∃ g tk L es ep t, u = { s with heap := g, toks := tk } ∧ (ekKey P w).ok g s.heap.objs.size L es ep t ∧ GotK (sgK a) (sgK a).length L ∧ (∀ b o, s.heap.get? b = some o → g.get? b = some o)) E)
      F.called_set.init.plain F.entry_set_init (check_set_init_1 tZ ?_)) fun r2 s2 hr2 => ?_
    · have nls := F.sub_str_set
      have nlf := F.sub_str_frozenset
      have nld : (Value.type "str" == Value.type "dict") = false := by decide
      unfold Builtin.«set.__init__» noKeywords Builtin.Frozenset.updateFrom
      generalize hPI : pyIter = PI
      wp_walk
      subst hPI
      refine wpAny_pyIter_str fun o St hW hS0 => ?_
      refine wpAny_bind (wpAny_runValue ?_)
      have hh3 : A.in1.in1.in1.handled = none := hh
      have z1 : (s.heap.push (nset w)).objs.size = s.heap.objs.size + 1 := Heap.size_push ..
      have nf : s.heap.objs.size ∉ [(s.heap.push (nset w)).objs.size] := by
        rw [z1, List.mem_singleton]
        exact Nat.ne_of_lt (Nat.lt_succ_of_le (Nat.le_refl _))
      have gone : ∀ b, s.heap.objs.size ≤ b → s.heap.get? b = none := fun b hb => by
        cases e : s.heap.get? b with
        | none => rfl
        | some o => exact absurd (Nat.lt_of_lt_of_le (Heap.lt_size e) hb) (Nat.lt_irrefl _)
      have sz : (S a).cps.size = (sgK a).length := by rw [kl]; simp
      refine set_loopK (hW _ hh3).toS s.heap.objs.size nf (sgK a) sz (by rw [kl]; exact few) (fun i v h => sgK_at h) s.heap (gone _ (Nat.le_refl _))
        (fun b hb => gone b (by rw [List.mem_singleton.mp hb, z1]; omega)) hu ((S a).cps.size - 0) 0 _ (by omega) (Nat.zero_le _) hS0
        (fun b o e => Heap.get?_push_of_some _ (Heap.get?_push_of_some _ e)) ⟨[], #[], 0, _, (ekKey P w).fresh (Heap.get?_push_of_some _ gZ), ⟨nofun, fun p hp => by simp at hp, Nat.zero_le _⟩⟩ ?_
      rintro ⟨g, gs, dr, tk, os⟩ L es ep t mv ok got kp
      have e1 : gs = s.gens := mv.gens
      have e2 : dr = s.drawn := mv.drawn
      have e3 : os = s.os := mv.os
      subst e1 e2 e3
      show wpAny _ _ _ _ _ _
      refine wpAny_pure ?_
      show wpAny _ _ (ret .none) _ _ _
      rw [sz] at got
      exact wpAny_pure ⟨rfl, g, tk, L, es, ep, t, rfl, ok, got, kp⟩
    · match r2, hr2 with
      | .error e, hr2 => exact hr2
      | .ok (.ret v2), ⟨e0, g, tk, L, es, ep, t, e1, ok, got, kp⟩ =>
        subst e0 e1
        repeat (any_goals (first | assumption | wp_step))
        exact q _ _ _ _ _ _ ok got kp
end
def qSsetS : RCl := fun xs H Q => ∃ a : Sg, xs = [V.str (S a)] ∧ a.length ≤ 3999 ∧ ∀ (l : Addr) (us : List V) (F : Hp), H l = none → Al eS F us (ssetL ltS (signs a)) → Q (.ref l) (upd H l (.lst us))
theorem relV_of {P : Program} {w : World} {k : Key} {v : Value} (h : (mixKind P w).is k v = true) : RelV (kV k) v := by
  rcases keyIs_shape (show keyIs k v = true from h) with ⟨i, t, rfl, rfl⟩ | ⟨x, t, rfl, rfl⟩
  · exact ⟨t, rfl⟩
  · exact ⟨t, rfl⟩
section
variable {X : Cx} {e : Expr} {ta : TA} {p1 p2 q1 pos : Pos}
theorem pe_ssetS {n : Nat} (hr : Room n X.A) (hg : Gl X "sorted") (hm : X.mg "sorted" = none) (hg2 : Gl X "set") (hm2 : X.mg "set" = none) (ha : PA X [e] ta)
    (he : starEach [e] X.env = [(false, eval e X.env)] := by rfl) : PE X (.Call (.Name "sorted" p1) [.Call (.Name "set" p2) [e] [] q1] [] pos) (tCB qSsetS ta) := by
  refine ⟨fun pins s σ H Q I h => ?_⟩
  refine Call_ (ld_blt I hg hm bo_sorted ?_)
  refine PyProof.Rows.callWith_builtin1 (PyProof.Rows.args_cons ?_ rfl) rfl rfl
  refine Call_ (ld_blt I hg2 hm2 bo_set ?_)
  refine PyProof.Rows.callWith_type1 (thn (ha.run q1 pins s σ H _ I h) fun us s1 ⟨vs, H1, I1, r1, z⟩ => ?_) he rfl
  obtain ⟨a, rfl, few, z⟩ := z
  obtain ⟨u, rfl, ru⟩ := vals1 r1
  obtain ⟨t0, rfl⟩ := ru
  have kl : (sgK a).length = a.length := by simp [sgK, signs]
  have un := hr.un
  refine set_madeS hr.hd few (by omega) fun g tk L es ep t ok got kp => ?_
  have sub : ∀ p ∈ L, p.1 ∈ sgK a := fun p hp => List.mem_of_mem_take (got.sub p hp)
  have isS : ∀ p ∈ L, ∃ z ∈ signs a, p.1 = .inr (S z) := fun p hp => by
    obtain ⟨z, hz, e⟩ := List.mem_map.mp (sub p hp)
    exact ⟨z, hz, e.symm⟩
  have txt : ∀ d ∈ L.map (fun q => (ekKey X.prog X.w).dat q.1), ∃ z ∈ signs a, d = dS.d z := fun d hd => by
    obtain ⟨p, hp, rfl⟩ := List.mem_map.mp hd
    obtain ⟨z, hz, e⟩ := isS p hp
    exact ⟨z, hz, by rw [e]; rfl⟩
  refine PyProof.Rows.args_nil ?_
  have al0 := so_alike soS (signs a)
  have so0 := so_sortable soS (signs a)
  have ins : ∀ d ∈ L.map (fun q => (ekKey X.prog X.w).dat q.1), d ∈ (signs a).map dS.d := fun d hd => by
    obtain ⟨z, hz, e⟩ := txt d hd
    rw [e]; exact List.mem_map.mpr ⟨z, hz, rfl⟩
  refine set_sorted (s := { s1 with heap := g, toks := tk }) ok hr.hd (fun d hd d2 hd2 => al0 d (ins d hd) d2 (ins d2 hd2)) (so0.imp (fun w d hd => w d (ins d hd)) fun w d hd => w d (ins d hd)) (fun p hp => ?_) (by omega) fun s3 l out c L2 k3 g3 o3 hl gl eo pm pw => ?_
  · obtain ⟨z, hz, e⟩ := isS p hp
    rw [e]
    show (dS.d z).depth ≤ 60
    exact soS.dp z
  · have kk : ∀ b o, s1.heap.get? b = some o → s3.heap.get? b = some o := fun b o e => k3 b o (kp b o e)
    have l0 : s1.heap.objs.size ≤ l := Nat.le_trans (Nat.le_of_lt (let ⟨_, go, _⟩ := (ekKey X.prog X.w).ob ok; Heap.lt_size go)) hl
    have hn : H1 l = none := I1.hok.fresh l0
    have few2 : L2.length ≤ 3999 := by rw [pm.length_eq]; exact (ekKey X.prog X.w).few ok
    let us : List (Key × V) := L2.map fun p => (p.1, kV p.1)
    have ln : (us.map Prod.snd).length ≤ sizeLine := by
      rw [List.length_map, List.length_map, sizeLine_eq]; omega
    have vz : Vals (us.map Prod.snd) out := by
      rw [eo]
      show Vals ((L2.map fun p => (p.1, kV p.1)).map Prod.snd) _
      have := vals_of (L2.map fun p => (kV p.1, p.2)) fun y hy => by
        obtain ⟨y0, hy0, rfl⟩ := List.mem_map.mp hy
        exact relV_of ((ekKey X.prog X.w).el ok y0 (pm.mem_iff.mp hy0))
      rw [List.map_map, List.map_map] at this
      rw [List.map_map]
      exact this
    have J : Inv X pins σ (upd H1 l (.lst (us.map Prod.snd))) { s1 with heap := s3.heap, gens := s3.gens, drawn := s3.drawn, toks := s3.toks } :=
      I1.call (ch := []) (Un.laid kk l0 hn) (I1.hok.laid kk l0 ⟨ln, out, c, vz, gl⟩) (by rw [g3]; exact I1.bare) nofun
    have e3 : s3 = { s1 with heap := s3.heap, gens := s3.gens, drawn := s3.drawn, toks := s3.toks } := by
      cases s3; cases s1; cases o3; rfl
    rw [e3]
    have nd : (L2.map Prod.fst).Nodup := (pm.map _).nodup_iff.mpr ((ekKey X.prog X.w).nd ok)
    have core : Al eS H1 (us.map Prod.snd) (ssetL ltS (((signs a).map fun z => (V.str (S z), z)).map Prod.snd)) := by
      refine sset_core (D := dS) soS (fun z => (.inr (S z) : Key)) (dat := datK) (fun _ => rfl) (fun x hx => ?_) (fun x hx => ?_) ?_ ?_ lo_S fun z hz => ?_
      · obtain ⟨p, hp, rfl⟩ := List.mem_map.mp hx
        obtain ⟨z, hz, e⟩ := isS p (pm.mem_iff.mp hp)
        refine List.mem_map.mpr ⟨(V.str (S z), z), List.mem_map.mpr ⟨z, hz, rfl⟩, ?_⟩
        show _ = (p.1, kV p.1)
        rw [e]; rfl
      · obtain ⟨y, hy, rfl⟩ := List.mem_map.mp hx
        obtain ⟨z, hz, rfl⟩ := List.mem_map.mp hy
        have h1 := got.all (.inr (S z)) (by rw [List.take_length]; exact List.mem_map.mpr ⟨z, hz, rfl⟩)
        have h2 := (pm.map Prod.fst).mem_iff.mpr h1
        rw [List.map_map]
        exact h2
      · rw [List.map_map]; exact nd
      · exact List.pairwise_map.mpr pw
      · obtain ⟨y, hy, rfl⟩ := List.mem_map.mp hz
        have : y.length = 1 := by
          obtain ⟨c, _, rfl⟩ := List.mem_map.mp hy
          rfl
        exact ⟨rfl, by show y.length ≤ _; rw [this, sizeLine_eq]; omega⟩
    rw [show ((signs a).map fun z => (V.str (S z), z)).map Prod.snd = signs a from by rw [List.map_map]; exact List.map_id' _] at core
    exact ⟨.ref l, _, J, rfl, z l _ H1 hn core⟩
end
theorem al_txt {F G : Hp} {vs : List V} {xs : List Sg} (h : Al eS F vs xs) : Al eS G vs xs := by
  induction h with
  | nil => exact .nil
  | cons r t ih => exact .cons r ih
section
variable {F H : Hp} {Q : VK} {a : Sg}
theorem v_ssetSF (hs : Sub F H) (hb : a.length ≤ 3999) (k : ∀ p' us F' H', Gr [] F H F' H' → F' p' = some (.lst us) → Al eS F' us (ssetL ltS (signs a)) → Q (.ref p') H') : qSsetS [.str (S a)] H Q :=
  ⟨a, rfl, hb, fun l us G hl h => k l us _ _ (gr_newF hs hl) upd_same (al_txt h)⟩
theorem v_ssetSM (hs : Sub F H) (hb : a.length ≤ 3999) (k : ∀ p' us H', H p' = none → Gr [] F H F H' → F p' = none → H' p' = some (.lst us) → Al eS F us (ssetL ltS (signs a)) → Q (.ref p') H') : qSsetS [.str (S a)] H Q :=
  ⟨a, rfl, hb, fun l us G hl h => k l us _ hl (gr_newM hs hl) (hs.nn hl) upd_same (al_txt h)⟩
end
end U
set_option Elab.async false
set_option linter.all false
set_option maxRecDepth 100000
set_option maxHeartbeats 4000000
/-! ### isinstance of things that may be None; a tuple of one and a pair -/
namespace U
open PySem PySem.Spec PyProof.Rows L2
section
variable {α β γ : Type} {t : Rp α} {A : Rp α} {B : Rp β} {C : Rp γ} {K : PySem.W.Frag} {F H : Hp} {Q : VK} {v w : V} {x : Option α} {T U W : String} {tp : Addr} {b c : Bool}
theorem ty_eI {y : Int} (r : eI.r F v y) : TyX K H v (.type "int") := by
  obtain rfl : v = V.int y := r
  exact .base (.int _)
theorem ty_eS {y : Sg} (r : eS.r F v y) : TyX K H v (.type "str") := by
  obtain rfl : v = V.str (S y) := r.1
  exact .base (.str _)
theorem ty_eB {y : Bool} (r : eB.r F v y) : TyX K H v (.type "bool") := by
  obtain rfl : v = V.bl y := r
  exact .base (.bl _)
theorem v_isiO (hr : (eO t).r F v x) (ht : ∀ y, t.r F v y → TyX K H v (.type T)) (h : kitB T U = some true) (hn : kitB "NoneType" U = some false) (k : Q (.bl x.isSome) H) : rIsi K [v, .ty U] H Q := by
  cases x with
  | none =>
    obtain rfl : v = .non := hr
    exact v_isi (.base .non) hn k
  | some y => exact v_isi (ht y hr.2) h k
theorem v_isiO0 (hr : (eO t).r F v x) (ht : ∀ y, t.r F v y → TyX K H v (.type T)) (h : kitB T U = some false) (hn : kitB "NoneType" U = some false) (k : Q (.bl false) H) : rIsi K [v, .ty U] H Q := by
  cases x with
  | none =>
    obtain rfl : v = .non := hr
    exact v_isi (.base .non) hn k
  | some y => exact v_isi (ht y hr.2) h k
theorem v_isiTO (hr : (eO t).r F v x) (ht : ∀ y, t.r F v y → TyX K H v (.type T)) (hq : H tp = some (.tup [.ty U, .ty W])) (h : kitB T U = some b) (h' : kitB T W = some c) (hn : kitB "NoneType" U = some false) (hn' : kitB "NoneType" W = some false) (e : (b || c) = true) (k : Q (.bl x.isSome) H) : rIsiT K [v, .ref tp] H Q := by
  cases x with
  | none =>
    obtain rfl : v = .non := hr
    exact v_isiT (b := false) (c := false) (.base .non) hq hn hn' k
  | some y => exact v_isiT (ht y hr.2) hq h h' (by rw [e]; exact k)
theorem v_isiTO0 (hr : (eO t).r F v x) (ht : ∀ y, t.r F v y → TyX K H v (.type T)) (hq : H tp = some (.tup [.ty U, .ty W])) (h : kitB T U = some b) (h' : kitB T W = some c) (hn : kitB "NoneType" U = some false) (hn' : kitB "NoneType" W = some false) (e : (b || c) = false) (k : Q (.bl false) H) : rIsiT K [v, .ref tp] H Q := by
  cases x with
  | none =>
    obtain rfl : v = .non := hr
    exact v_isiT (b := false) (c := false) (.base .non) hq hn hn' k
  | some y => exact v_isiT (ht y hr.2) hq h h' (by rw [e]; exact k)
theorem p3_U {x : α × β × β} (h : (eP3 A B B).r F v x) : (eT (eU A B)).r F v [.inl x.1, .inr x.2.1, .inr x.2.2] := by
  obtain ⟨p, y, z, u, e, q, h1, h2, h3⟩ := h
  exact ⟨p, [y, z, u], e, q, .cons h1 (.cons h2 (.cons h3 .nil))⟩
theorem v_cat12 {a : α} {m : β × γ} (hs : Sub F H) (h1 : (eT A).r F v [a]) (h2 : (eP2 B C).r F w m) (k : ∀ u F' H', Gr [] F H F' H' → (eP3 A B C).r F' u (a, m.1, m.2) → Q u H') : rCatA K v w H Q := by
  obtain ⟨p, vs, rfl, hp, al⟩ := h1
  obtain ⟨q, y, z, rfl, hq, r1, r2⟩ := h2
  cases al with
  | cons r al =>
    cases al
    refine ⟨p, q, _, _, rfl, rfl, .inl (.inl (hs _ _ hp)), .inl (.inl (hs _ _ hq)), by rw [sizeLine_eq]; simp, (fun z => by cases z), (fun _ z => by cases z), fun _ _ l hl => ?_⟩
    exact k _ _ _ (gr_newF hs hl) ⟨l, _, _, _, rfl, upd_same, A.mono (Sub.up1 (hs.nn hl)) r, B.mono (Sub.up1 (hs.nn hl)) r1, C.mono (Sub.up1 (hs.nn hl)) r2⟩
end
end U
set_option Elab.async false
set_option linter.all false
set_option maxRecDepth 100000
set_option maxHeartbeats 4000000
/-! ### str of a number, int of a text, text.split(sign) -/
namespace U
open PySem PySem.Spec PyProof.Rows L2
def strI (i : Int) : Sg := (Str.ofString (toString i)).cps.toList
theorem strI_S (i : Int) : S (strI i) = Str.ofString (toString i) := by
  unfold strI S
  cases h : Str.ofString (toString i) with
  | mk a => rfl
def strIM (i : Int) : Option Sg := need (decide (i.natAbs.log2 < 1920) && szB (strI i).length) (strI i)
def qStrI : RCl := fun xs H Q => ∃ i, xs = [.int i] ∧ i.natAbs.log2 < 1920 ∧ Q (.str (toString i)) H
theorem c_strI {X : Cx} : CallR X (.type "str") qStrI := call_str_int
theorem v_strI {H : Hp} {Q : VK} {i : Int} {a : Sg} (h : strIM i = some a) (k : Q (.str (S a)) H) : qStrI [.int i] H Q := by
  obtain ⟨hz, rfl⟩ := need_ok h
  rw [Bool.and_eq_true] at hz
  exact ⟨i, rfl, of_decide_eq_true hz.1, by rw [strI_S] at k; exact k⟩
theorem strI_le {i : Int} {a : Sg} (h : strIM i = some a) : a.length ≤ sizeLine := by
  obtain ⟨hz, rfl⟩ := need_ok h
  rw [Bool.and_eq_true] at hz
  exact sz_ok hz.2
def intTM (a : Sg) : Option Int := (need (decide (a.length ≤ 640)) ()).bind fun _ => PySem.intText? (S a)
def qIntT : RCl := fun xs H Q => ∃ a n, xs = [.str a] ∧ PySem.intText? a = some n ∧ a.length ≤ 640 ∧ Q (.int n) H
theorem c_intT {X : Cx} : CallR X (.type "int") qIntT := call_int_str
theorem v_intT {H : Hp} {Q : VK} {a : Sg} {n : Int} (h : intTM a = some n) (k : Q (.int n) H) : qIntT [.str (S a)] H Q := by
  unfold intTM at h
  obtain ⟨u, hu, h⟩ := Option.bind_eq_some_iff.mp h
  have hl := of_decide_eq_true (need_ok hu).1
  refine ⟨S a, n, rfl, h, ?_, k⟩
  show (S a).length ≤ 640
  simpa [Str.length] using hl
def splitM (a b : Sg) : Option (List Sg) := need (!b.isEmpty && (b.all (· < 256) && decide (a.length + 2 ≤ 16777216))) (TL.spl b 0 [] a)
def qSplit : RMt := fun x xs H Q => ∃ a b, x = .str a ∧ xs = [.str b] ∧ (b.length == 0) = false ∧ a.length + 2 ≤ sizeLine ∧ rNewStrs (Txt.split a b) H Q
theorem c_split {X : Cx} : MtR X "str.split" qSplit := mt_split
theorem spl_len {b : Sg} : ∀ (r : Sg) (k : Nat) (acc : Sg), ∀ p ∈ TL.spl b k acc r, p.length ≤ acc.length + r.length
  | [], k, acc, p, h => by
    rw [TL.spl_nil] at h
    simp at h
    subst h; simp
  | c :: r, 0, acc, p, h => by
    unfold TL.spl at h
    split at h
    · rcases List.mem_cons.mp h with e | e
      · subst e; omega
      · have := spl_len r _ [] p e
        simp at this ⊢; omega
    · have := spl_len r 0 (acc ++ [c]) p h
      simp at this ⊢; omega
  | c :: r, k + 1, acc, p, h => by
    have h : p ∈ TL.spl b k acc r := h
    have := spl_len r k acc p h
    simp at this ⊢; omega
theorem v_split {H F : Hp} {Q : VK} {a b : Sg} {l : List Sg} (hs : Sub F H) (h : splitM a b = some l) (k : ∀ p us F' H', Gr [] F H F' H' → F' p = some (.lst us) → Al eS F' us l → Q (.ref p) H') : qSplit (.str (S a)) [.str (S b)] H Q := by
  obtain ⟨hz, rfl⟩ := need_ok h
  rw [Bool.and_eq_true, Bool.and_eq_true] at hz
  obtain ⟨h1, h2, h3⟩ := hz
  have h3 := of_decide_eq_true h3
  have la : (S a).length = a.length := by simp [Str.length]
  have lb : (S b).length = b.length := by simp [Str.length]
  have hb : b ≠ [] := fun z => by rw [z] at h1; cases h1
  refine ⟨S a, S b, rfl, rfl, ?_, by rw [la, sizeLine_eq]; omega, fun p hp => ?_⟩
  · rw [lb]
    cases b with
    | nil => exact absurd rfl hb
    | cons c r => rfl
  · rw [SX.split_S hb h2]
    refine k p _ _ _ (gr_newF hs hp) upd_same ?_
    have key : ∀ l : List Sg, (∀ x ∈ l, x.length ≤ sizeLine) → Al eS (upd F p (.lst (((TL.spl b 0 [] a).map S).map V.str))) ((l.map S).map V.str) l := fun l => by
      induction l with
      | nil => intro _; exact .nil
      | cons x l ih => intro hl; exact .cons ⟨rfl, hl x List.mem_cons_self⟩ (ih fun y hy => hl y (List.mem_cons_of_mem _ hy))
    refine key _ fun x hx => ?_
    have := spl_len a 0 [] x hx
    simp at this
    rw [sizeLine_eq]; omega
end U
set_option Elab.async false
set_option linter.all false
set_option maxRecDepth 100000
set_option maxHeartbeats 4000000
/-! ### things of any kind -/
namespace U
open PySem PySem.Spec PyProof.Rows L2
inductive An where
  | non | bl (b : Bool) | int (i : Int) | str (s : Sg) | tup (z : Bool) (xs : List An) | lst (xs : List An) | dic (ks : List Sg) (xs : List An)
def TpZ (F : Hp) (p : Addr) : Bool → List V → Prop
  | true, vs => ∃ o, F p = some (.frz o (.tup vs)) ∧ o.dict = none
  | false, vs => F p = some (.tup vs)
theorem TpZ.mono {F F' : Hp} {p : Addr} {z : Bool} {vs : List V} (s : Sub F F') (h : TpZ F p z vs) : TpZ F' p z vs := by
  cases z with
  | true => obtain ⟨o, e, d⟩ := h; exact ⟨o, s _ _ e, d⟩
  | false => exact s _ _ h
theorem TpZ.rd {F : Hp} {p : Addr} {z : Bool} {vs : List V} (h : TpZ F p z vs) : Rd F p (.tup vs) := by
  cases z with
  | true => obtain ⟨o, e, d⟩ := h; exact .inr ⟨o, e⟩
  | false => exact .inl h
mutual
inductive RA (F : Hp) : V → An → Prop
  | non : RA F .non .non
  | bl (b : Bool) : RA F (.bl b) (.bl b)
  | int (i : Int) : RA F (.int i) (.int i)
  | str {s : Sg} : s.length ≤ sizeLine → RA F (.str (S s)) (.str s)
  | tup {p : Addr} {z : Bool} {vs : List V} {xs : List An} : TpZ F p z vs → RAs F vs xs → RA F (.ref p) (.tup z xs)
  | lst {p : Addr} {vs : List V} {xs : List An} : F p = some (.lst vs) → RAs F vs xs → RA F (.ref p) (.lst xs)
  | dic {p : Addr} {o : Obj} {kvs : List (Key × V)} {ks : List Sg} {xs : List An} : F p = some (.frz o (.dK kvs)) → kvs.map Prod.fst = ks.map (fun s => Sum.inr (S s)) → (∀ s ∈ ks, s.length ≤ sizeLine) → RAs F (kvs.map Prod.snd) xs → RA F (.ref p) (.dic ks xs)
inductive RAs (F : Hp) : List V → List An → Prop
  | nil : RAs F [] []
  | cons {v : V} {x : An} {vs : List V} {xs : List An} : RA F v x → RAs F vs xs → RAs F (v :: vs) (x :: xs)
end
mutual
theorem RA.mono {F F' : Hp} (s : Sub F F') : ∀ {v : V} {x : An}, RA F v x → RA F' v x
  | _, _, .non => .non
  | _, _, .bl b => .bl b
  | _, _, .int i => .int i
  | _, _, .str h => .str h
  | _, _, .tup q h => .tup (q.mono s) (RAs.mono s h)
  | _, _, .lst q h => .lst (s _ _ q) (RAs.mono s h)
  | _, _, .dic q e l h => .dic (s _ _ q) e l (RAs.mono s h)
theorem RAs.mono {F F' : Hp} (s : Sub F F') : ∀ {vs : List V} {xs : List An}, RAs F vs xs → RAs F' vs xs
  | _, _, .nil => .nil
  | _, _, .cons r t => .cons (RA.mono s r) (RAs.mono s t)
end
def eA : Rp An := ⟨RA, fun s h => RA.mono s h⟩
theorem ras_al {F : Hp} : ∀ {vs : List V} {xs : List An}, RAs F vs xs → Al eA F vs xs
  | _, _, .nil => .nil
  | _, _, .cons r t => .cons r (ras_al t)
theorem al_ras {F : Hp} {vs : List V} {xs : List An} (h : Al eA F vs xs) : RAs F vs xs := by
  induction h with
  | nil => exact .nil
  | cons r _ ih => exact .cons r ih
/-! what kind -/
namespace An
def isI : An → Bool | .int _ => true | .bl _ => true | _ => false
def isB : An → Bool | .bl _ => true | _ => false
def isS : An → Bool | .str _ => true | _ => false
def isT : An → Bool | .tup _ _ => true | _ => false
def isL : An → Bool | .lst _ => true | _ => false
def isD : An → Bool | .dic _ _ => true | _ => false
def isN : An → Bool | .non => true | _ => false
def tyn : An → String | .non => "NoneType" | .bl _ => "bool" | .int _ => "int" | .str _ => "str" | .tup _ _ => "tuple" | .lst _ => "list" | .dic _ _ => "dict"
def intM : An → Option Int | .int i => some i | _ => none
def blM : An → Option Bool | .bl i => some i | _ => none
def strM : An → Option Sg | .str i => some i | _ => none
def nonM : An → Option Unit | .non => some () | _ => none
def tupM : An → Option (List An) | .tup _ xs => some xs | _ => none
def zM : An → Option (List An) | .tup true xs => some xs | _ => none
def tM : An → Option (List An) | .tup false xs => some xs | _ => none
def lstM : An → Option (List An) | .lst xs => some xs | _ => none
def lenM : An → Option Int | .str s => some s.length | .tup _ xs => some xs.length | .lst xs => some xs.length | .dic ks _ => some ks.length | _ => none
def ixM : An → Int → Option An
  | .str s, i => (atI s i).map fun c => .str [c]
  | .tup _ xs, i => atI xs i
  | .lst xs, i => atI xs i
  | _, _ => none
def un2 : An → Option (An × An) | .tup _ [a, b] => some (a, b) | _ => none
def un3 : An → Option (An × An × An) | .tup _ [a, b, c] => some (a, b, c) | _ => none
end An
mutual
def An.pd : An → PyData
  | .non => .none
  | .bl b => .bool b
  | .int i => .int i
  | .str s => .str (S s)
  | .tup _ xs => .tuple (An.pds xs)
  | .lst xs => .list (An.pds xs)
  | .dic ks xs => .dict ((ks.map fun s => PyData.str (S s)).zip (An.pds xs))
def An.pds : List An → List PyData
  | [] => []
  | x :: xs => An.pd x :: An.pds xs
end
mutual
def An.nd : An → Bool
  | .tup _ xs => An.nds xs
  | .lst xs => An.nds xs
  | .dic _ _ => false
  | _ => true
def An.nds : List An → Bool
  | [] => true
  | x :: xs => An.nd x && An.nds xs
end
theorem pds_map (xs : List An) : An.pds xs = xs.map An.pd := by
  induction xs with
  | nil => rw [An.pds]; rfl
  | cons x xs ih => rw [An.pds, ih]; rfl
theorem nds_all (xs : List An) : An.nds xs = xs.all An.nd := by
  induction xs with
  | nil => rw [An.nds]; rfl
  | cons x xs ih => rw [An.nds, ih]; rfl
section
variable {K : PySem.W.Frag} {F H : Hp} {v w : V} {x y : An} {Q : VK} {i : Int} {U W : String} {b c : Bool} {tp : Addr}
theorem kit_int (x : An) : kitB x.tyn "int" = some x.isI := by cases x <;> (simp only [An.tyn, An.isI]; decide +kernel)
theorem kit_bool (x : An) : kitB x.tyn "bool" = some x.isB := by cases x <;> (simp only [An.tyn, An.isB]; decide +kernel)
theorem kit_str (x : An) : kitB x.tyn "str" = some x.isS := by cases x <;> (simp only [An.tyn, An.isS]; decide +kernel)
theorem kit_tuple (x : An) : kitB x.tyn "tuple" = some x.isT := by cases x <;> (simp only [An.tyn, An.isT]; decide +kernel)
theorem kit_list (x : An) : kitB x.tyn "list" = some x.isL := by cases x <;> (simp only [An.tyn, An.isL]; decide +kernel)
theorem kit_dict (x : An) : kitB x.tyn "dict" = some x.isD := by cases x <;> (simp only [An.tyn, An.isD]; decide +kernel)
theorem tyA (hs : Sub F H) (r : RA F v x) : TyX K H v (.type x.tyn) := by
  cases r with
  | non => exact .base .non
  | bl b => exact .base (.bl b)
  | int i => exact .base (.int i)
  | str h => exact .base (.str _)
  | @tup p z vs xs q h =>
    cases z with
    | true => obtain ⟨o, e, d⟩ := q; exact .fTuple (hs _ _ e)
    | false => exact .base (.tup (hs _ _ q))
  | lst q h => exact .base (.lst (hs _ _ q))
  | dic q e l h => exact .fDict (hs _ _ q)
theorem v_isiA (hs : Sub F H) (r : RA F v x) (h : kitB x.tyn U = some b) (k : Q (.bl b) H) : rIsi K [v, .ty U] H Q := v_isi (tyA hs r) h k
theorem v_isiAT (hs : Sub F H) (r : RA F v x) (hq : H tp = some (.tup [.ty U, .ty W])) (h : kitB x.tyn U = some b) (h' : kitB x.tyn W = some c) (k : Q (.bl (b || c)) H) : rIsiT K [v, .ref tp] H Q := v_isiT (tyA hs r) hq h h' k
theorem v_isNA {x : An} (r : RA F v x) (k : Q (.bl x.isN) H) : Q (.bl (decide (v = .non))) H := by
  have e : decide (v = .non) = x.isN := by cases r <;> rfl
  rw [e]; exact k
/-! len -/
def qLenA (K : PySem.W.Frag) : RCl := fun xs H Q => qLen K xs H Q ∨ qLenS xs H Q ∨ qLenD xs H Q
theorem c_lenA {X : Cx} (hK : X.K = K) : CallR X (.builtin "len") (qLenA K) := by
  intro pins s σ H xs us Q I r h
  rcases h with h | h | h
  · exact c_len hK pins s σ H xs us Q I r h
  · exact c_lenS pins s σ H xs us Q I r h
  · exact c_lenD pins s σ H xs us Q I r h
theorem TpZ.sq {p : Addr} {z : Bool} {vs : List V} (hs : Sub F H) (h : TpZ F p z vs) : SqT K H p vs := .inl (hs.rd h.rd)
theorem v_lenA (hs : Sub F H) (r : RA F v x) (h : x.lenM = some i) (k : Q (.int i) H) : qLenA K [v] H Q := by
  cases r with
  | non => cases h
  | bl b => cases h
  | int i => cases h
  | str l => obtain rfl := Option.some.inj h; exact .inr (.inl (v_lenS l k))
  | tup q t => obtain rfl := Option.some.inj h; exact .inl (v_len (.inr (q.sq hs)) (ras_al t) k)
  | lst q t => obtain rfl := Option.some.inj h; exact .inl (v_len (.inl (.inl (.inl (hs _ _ q)))) (ras_al t) k)
  | @dic p o kvs ks xs q e l t =>
    obtain rfl := Option.some.inj h
    refine .inr (.inr ⟨p, kvs, rfl, .inr ⟨o, hs _ _ q⟩, ?_⟩)
    have e1 : kvs.length = ks.length := by
      have := congrArg List.length e
      simpa using this
    rw [e1]; exact k
/-! thing[i] -/
def qIxA (K : PySem.W.Frag) : R2 := fun x y H Q => rIxL K x y H Q ∨ rIxT K x y H Q ∨ rIxS x y H Q
theorem c_ixA {X : Cx} (hK : X.K = K) : IxR X (qIxA K) := (c_ixL hK).or ((c_ixT hK).or ix_str)
theorem v_ixA (hs : Sub F H) (r : RA F v x) (h : x.ixM i = some y) (k : ∀ v, RA F v y → Q v H) : qIxA K v (.int i) H Q := by
  cases r with
  | non => cases h
  | bl b => cases h
  | int i => cases h
  | @str s l =>
    have h : (atI s i).map (fun c => An.str [c]) = some y := h
    cases e : atI s i with
    | none => rw [e] at h; cases h
    | some c =>
      rw [e] at h
      have h : An.str [c] = y := Option.some.inj h
      subst h
      exact .inr (.inr (v_ixS l e (k _ (.str one_le))))
  | tup q t => exact .inr (.inl (v_ixT (q.sq hs) (ras_al t) h k))
  | lst q t => exact .inl (v_ixL (.inl (.inl (hs _ _ q))) (ras_al t) h k)
  | dic q e l t => cases h
/-! a, b = thing -/
theorem v_unpA2 {σ : L2.St} {tg : TGs} {m : An × An} {R : L2.St → Hp → Prop} (hs : Sub F H) (r : RA F v x) (h : x.un2 = some m) (k : ∀ y z, RA F y m.1 → RA F z m.2 → tg [y, z] σ H R) : gTup K 2 tg v σ H R := by
  cases r with
  | @tup p z vs xs q t =>
    cases t with
    | nil => cases h
    | cons r1 t =>
      cases t with
      | nil => cases h
      | cons r2 t =>
        cases t with
        | nil => obtain rfl := Option.some.inj h; exact ⟨p, _, rfl, q.sq hs, rfl, k _ _ r1 r2⟩
        | cons r3 t => cases h
  | _ => cases h
theorem v_unpA3 {σ : L2.St} {tg : TGs} {m : An × An × An} {R : L2.St → Hp → Prop} (hs : Sub F H) (r : RA F v x) (h : x.un3 = some m) (k : ∀ y z w, RA F y m.1 → RA F z m.2.1 → RA F w m.2.2 → tg [y, z, w] σ H R) : gTup K 3 tg v σ H R := by
  cases r with
  | @tup p z vs xs q t =>
    cases t with
    | nil => cases h
    | cons r1 t =>
      cases t with
      | nil => cases h
      | cons r2 t =>
        cases t with
        | nil => cases h
        | cons r3 t =>
          cases t with
          | nil => obtain rfl := Option.some.inj h; exact ⟨p, _, rfl, q.sq hs, rfl, k _ _ _ r1 r2 r3⟩
          | cons r4 t => cases h
  | _ => cases h
end
/-! ### a tuple that can be read (of either kind) -/
def eR {α : Type} (t : Rp α) : Rp (List α) := ⟨fun F v x => ∃ p vs, v = .ref p ∧ Rd F p (.tup vs) ∧ Al t F vs x, fun s ⟨p, vs, e, q, h⟩ => ⟨p, vs, e, s.rd q, h.mono s⟩⟩
section
variable {α β γ : Type} {t : Rp α} {a : Rp α} {b : Rp β} {c : Rp γ} {F H : Hp} {v : V} {K : PySem.W.Frag}
theorem sqR {p : Addr} {vs : List V} (hs : Sub F H) (h : Rd F p (.tup vs)) : SqT K H p vs := .inl (hs.rd h)
theorem eT_R {x : List α} (h : (eT t).r F v x) : (eR t).r F v x := by
  obtain ⟨p, vs, e, q, al⟩ := h
  exact ⟨p, vs, e, .inl q, al⟩
theorem eZ_R {x : List α} (h : (eZ t).r F v x) : (eR t).r F v x := by
  obtain ⟨p, o, vs, e, q, d, al⟩ := h
  exact ⟨p, vs, e, .inr ⟨o, q⟩, al⟩
/-! ### casts: from a thing of any kind to a typed one, and back -/
structure Ct (t : Rp α) where
  c : An → Option α
  ok : ∀ {F : Hp} {v : V} {x : An} {a : α}, RA F v x → c x = some a → t.r F v a
structure Td (t : Rp α) where
  d : α → An
  ok : ∀ {F : Hp} {v : V} {a : α}, t.r F v a → RA F v (d a)
theorem ct_all (C : Ct t) {xs : List An} {vs : List V} (al : Al eA F vs xs) : ∀ {ys : List α}, xs.mapM C.c = some ys → Al t F vs ys := by
  induction al with
  | nil =>
    intro ys h
    have e : [] = ys := Option.some.inj h
    subst e; exact .nil
  | cons r tl ih =>
    intro ys h
    rw [List.mapM_cons] at h
    obtain ⟨a, h1, h⟩ := bnd h
    obtain ⟨zs, h2, h⟩ := bnd h
    have e := Option.some.inj h
    subst e
    exact .cons (C.ok r h1) (ih h2)
def cA : Ct eA := ⟨some, fun r h => by cases h; exact r⟩
def cI : Ct eI := ⟨An.intM, fun r h => by cases r <;> first | (cases h; done) | (cases h; rfl)⟩
def cB : Ct eB := ⟨An.blM, fun r h => by cases r <;> first | (cases h; done) | (cases h; rfl)⟩
def cN : Ct eN := ⟨An.nonM, fun r h => by cases r <;> first | (cases h; done) | rfl⟩
def cS : Ct eS := ⟨An.strM, fun r h => by
  cases r with
  | str l => cases h; exact ⟨rfl, l⟩
  | _ => cases h⟩
def cT (C : Ct t) : Ct (eT t) := ⟨fun x => (x.tM).bind fun xs => xs.mapM C.c, fun {F v x a} r h => by
  obtain ⟨xs, h1, h2⟩ := bnd h
  cases r with
  | @tup p z vs xs' q tl =>
    cases z with
    | true => cases h1
    | false =>
      have e : xs' = xs := Option.some.inj h1
      subst e
      exact ⟨p, vs, rfl, q, ct_all C (ras_al tl) h2⟩
  | _ => cases h1⟩
def cZ (C : Ct t) : Ct (eZ t) := ⟨fun x => (x.zM).bind fun xs => xs.mapM C.c, fun {F v x a} r h => by
  obtain ⟨xs, h1, h2⟩ := bnd h
  cases r with
  | @tup p z vs xs' q tl =>
    cases z with
    | false => cases h1
    | true =>
      have e : xs' = xs := Option.some.inj h1
      subst e
      obtain ⟨o, q, d⟩ := q
      exact ⟨p, o, vs, rfl, q, d, ct_all C (ras_al tl) h2⟩
  | _ => cases h1⟩
def cR (C : Ct t) : Ct (eR t) := ⟨fun x => (x.tupM).bind fun xs => xs.mapM C.c, fun {F v x a} r h => by
  obtain ⟨xs, h1, h2⟩ := bnd h
  cases r with
  | @tup p z vs xs' q tl =>
    have e : xs' = xs := Option.some.inj h1
    subst e
    exact ⟨p, vs, rfl, q.rd, ct_all C (ras_al tl) h2⟩
  | _ => cases h1⟩
def cRA : Ct (eR eA) := ⟨An.tupM, fun {F v x a} r h => by
  cases r with
  | @tup p z vs xs' q tl =>
    have e : xs' = a := Option.some.inj h
    subst e
    exact ⟨p, vs, rfl, q.rd, ras_al tl⟩
  | _ => cases h⟩
def cL (C : Ct t) : Ct (eL t) := ⟨fun x => (x.lstM).bind fun xs => xs.mapM C.c, fun {F v x a} r h => by
  obtain ⟨xs, h1, h2⟩ := bnd h
  cases r with
  | @lst p vs xs' q tl =>
    have e : xs' = xs := Option.some.inj h1
    subst e
    exact ⟨p, vs, rfl, q, ct_all C (ras_al tl) h2⟩
  | _ => cases h1⟩
def cLA : Ct (eL eA) := ⟨An.lstM, fun {F v x a} r h => by
  cases r with
  | @lst p vs xs' q tl =>
    have e : xs' = a := Option.some.inj h
    subst e
    exact ⟨p, vs, rfl, q, ras_al tl⟩
  | _ => cases h⟩
def cP2 (A : Ct a) (B : Ct b) : Ct (eP2 a b) := ⟨fun x => (x.tM).bind fun xs => match xs with
  | [y, z] => (A.c y).bind fun m => (B.c z).bind fun n => some (m, n)
  | _ => none, fun {F v x m} r h => by
  obtain ⟨xs, h1, h2⟩ := bnd h
  cases r with
  | @tup p z vs xs' q tl =>
    cases z with
    | true => cases h1
    | false =>
      have e : xs' = xs := Option.some.inj h1
      subst e
      cases tl with
      | nil => cases h2
      | cons r1 tl =>
        cases tl with
        | nil => cases h2
        | cons r2 tl =>
          cases tl with
          | nil =>
            obtain ⟨m1, e1, h2⟩ := bnd h2
            obtain ⟨n1, e2, h2⟩ := bnd h2
            cases h2
            exact ⟨p, _, _, rfl, q, A.ok r1 e1, B.ok r2 e2⟩
          | cons r3 tl => cases h2
  | _ => cases h1⟩
def tdA : Td eA := ⟨id, fun r => r⟩
def tdI : Td eI := ⟨.int, fun r => by have e : _ = V.int _ := r; subst e; exact .int _⟩
def tdB : Td eB := ⟨.bl, fun r => by have e : _ = V.bl _ := r; subst e; exact .bl _⟩
def tdN : Td eN := ⟨fun _ => .non, fun r => by have e : _ = V.non := r; subst e; exact .non⟩
def tdS : Td eS := ⟨.str, fun r => by obtain ⟨e, l⟩ := r; subst e; exact .str l⟩
theorem td_all (D : Td t) {vs : List V} {xs : List α} (h : Al t F vs xs) : RAs F vs (xs.map D.d) := by
  induction h with
  | nil => exact .nil
  | cons r _ ih => exact .cons (D.ok r) ih
def tdT (D : Td t) : Td (eT t) := ⟨fun x => .tup false (x.map D.d), fun r => by obtain ⟨p, vs, e, q, h⟩ := r; subst e; exact .tup q (td_all D h)⟩
def tdZ (D : Td t) : Td (eZ t) := ⟨fun x => .tup true (x.map D.d), fun r => by obtain ⟨p, o, vs, e, q, d, h⟩ := r; subst e; exact .tup ⟨o, q, d⟩ (td_all D h)⟩
def tdL (D : Td t) : Td (eL t) := ⟨fun x => .lst (x.map D.d), fun r => by obtain ⟨p, vs, e, q, h⟩ := r; subst e; exact .lst q (td_all D h)⟩
def tdP2 (A : Td a) (B : Td b) : Td (eP2 a b) := ⟨fun x => .tup false [A.d x.1, B.d x.2], fun r => by obtain ⟨p, y, z, e, q, h1, h2⟩ := r; subst e; exact .tup q (.cons (A.ok h1) (.cons (B.ok h2) .nil))⟩
def tdP3 (A : Td a) (B : Td b) (C : Td c) : Td (eP3 a b c) := ⟨fun x => .tup false [A.d x.1, B.d x.2.1, C.d x.2.2], fun r => by obtain ⟨p, y, z, u, e, q, h1, h2, h3⟩ := r; subst e; exact .tup q (.cons (A.ok h1) (.cons (B.ok h2) (.cons (C.ok h3) .nil)))⟩
def tdO (D : Td t) : Td (eO t) := ⟨fun x => match x with
  | none => .non
  | some a => D.d a, fun {F v x} r => by
  cases x with
  | none => have e : v = V.non := r; subst e; exact .non
  | some a => exact D.ok r.2⟩
def tdU (A : Td a) (B : Td b) : Td (eU a b) := ⟨fun x => match x with
  | .inl y => A.d y
  | .inr y => B.d y, fun {F v x} r => by
  cases x with
  | inl y => exact A.ok r
  | inr y => exact B.ok r⟩
end
/-- {}, locked -/
theorem ra_dic0 {F : Hp} {p : Addr} {o : Obj} (h : F p = some (.frz o (.dK []))) : RA F (.ref p) (.dic [] []) := .dic h rfl (fun _ z => nomatch z) .nil
theorem ra_dic1 {α : Type} {F : Hp} {p : Addr} {o : Obj} {D : Dt eS} {A : Ke D} {t : Rp α} (T : Td t) {kvs : List (Key × V)} {s : Sg} {x : α} (h : F p = some (.frz o (.dK kvs))) (hk : ∀ s, A.k s = Sum.inr (S s)) (l : s.length ≤ sizeLine) (r : Pr (dyK A) t F kvs [(s, x)]) : RA F (.ref p) (.dic [s] [T.d x]) := by
  cases r with
  | cons r1 tl =>
    cases tl
    obtain ⟨e, rv⟩ := r1
    refine .dic h ?_ (fun y hy => by rw [List.mem_singleton.mp hy]; exact l) (.cons (T.ok rv) .nil)
    show [_] = [_]
    rw [e]
    exact congrArg (fun z => [z]) (hk s)
end U
set_option Elab.async false
set_option linter.all false
set_option maxRecDepth 100000
set_option maxHeartbeats 4000000
/-! ### things of any kind: repr, == -/
namespace U
open PySem PySem.Spec PyProof.Rows L2
/-- what stands at the dict of all modules -/
def SysK (K : PySem.W.Frag) : Prop := ∃ o, K.lookup sysModules = some o ∧ o.cls = .type "dict"
section
variable {X : Cx} {pins : List (Addr × Obj)} {σ : L2.St} {H : Hp} {s : Shared}
theorem not_sys (I : Inv X pins σ H s) (hS : SysK X.K) {a : Addr} {o : Obj} (e : s.heap.get? a = some o) (hc : o.cls ≠ .type "dict") : a ≠ sysModules := fun z => by
  obtain ⟨o2, e2, c2⟩ := hS
  have e3 := I.kIn sysModules o2 e2
  rw [z, e3] at e
  cases e
  exact hc c2
theorem pairs_reads {P : Program} {w : World} {h : Heap} : ∀ {kvs : List (Key × V)} {vs : List (Key × Value)} {es : List DictEntry} {ks : List Sg}, KV kvs vs → Pairs (mixKind P w) es vs → kvs.map Prod.fst = ks.map (fun s => Sum.inr (S s)) →
    Vals (kvs.map Prod.snd) (es.map (·.val)) ∧ ReadsAll h (es.map (·.key)) (ks.map fun s => PyData.str (S s)) []
  | [], _, _, ks, .nil, .nil, e => by
    have : ks = [] := by
      cases ks with
      | nil => rfl
      | cons a r => cases e
    subst this
    exact ⟨.nil, .nil⟩
  | kv :: kvs, q :: vs, en :: es, ks, .cons r t, .cons hk hv tp, e => by
    cases ks with
    | nil => cases e
    | cons a ks =>
      rw [List.map_cons, List.map_cons, List.cons.injEq] at e
      obtain ⟨i1, i2⟩ := pairs_reads (h := h) t tp e.2
      have e1 : q.1 = Sum.inr (S a) := r.1.symm.trans e.1
      rw [e1] at hk
      rcases keyIs_shape (show keyIs (Sum.inr (S a)) en.key = true from hk) with ⟨i, t0, e3, _⟩ | ⟨x, t0, e3, e4⟩
      · cases e3
      · cases e3
        refine ⟨.cons (by show L2.RelV kv.snd en.val; rw [hv]; exact r.2) i1, ?_⟩
        rw [List.map_cons, e4]
        exact ReadsAll.cons (as := []) (bs := []) (Reads.str _ _) i2
mutual
theorem RA.reads (I : Inv X pins σ H s) (hS : SysK X.K) : ∀ (x : An) (v : V) (u : Value), RA H v x → RelV v u → ∃ as, Reads s.heap u x.pd as ∧ sysModules ∉ as
  | .non, _, _, h, r => by
    cases h
    cases r
    rw [An.pd]
    exact ⟨_, Reads.none, nofun⟩
  | .bl b, _, _, h, r => by
    cases h
    cases r
    rw [An.pd]
    exact ⟨_, Reads.bool b, nofun⟩
  | .int i, _, _, h, r => by
    cases h
    obtain ⟨t, rfl⟩ := r
    rw [An.pd]
    exact ⟨_, Reads.int i t, nofun⟩
  | .str x, _, _, h, r => by
    cases h
    obtain ⟨t, rfl⟩ := r
    rw [An.pd]
    exact ⟨_, Reads.str _ t, nofun⟩
  | .lst xs, _, _, h, r => by
    cases h with
    | @lst p vs _ q t =>
      cases r
      obtain ⟨its, rv, ⟨o, n, ho, hc, _, hd⟩, _⟩ := I.list (.inl (.inl q))
      obtain ⟨as, hr, hn⟩ := RAs.reads I hS xs vs its t rv
      rw [An.pd]
      exact ⟨_, Reads.list ho hc hd hr, fun z => (List.mem_cons.mp z).elim (fun z => not_sys I hS ho (by rw [hc]; intro z; injection z with z; revert z; decide) z.symm) hn⟩
  | .tup z xs, _, _, h, r => by
    cases h with
    | @tup p _ vs _ q t =>
      cases r
      obtain ⟨its, rv, ⟨o, ho, hc, n, hd⟩, _⟩ := I.tuple (.inl q.rd)
      obtain ⟨as, hr, hn⟩ := RAs.reads I hS xs vs its t rv
      rw [An.pd]
      exact ⟨_, Reads.tuple ho hc hd hr, hn⟩
  | .dic ks xs, _, _, h, r => by
    cases h with
    | @dic p o kvs _ _ q e l t =>
      cases r
      obtain ⟨_, hsy, vs, kv, ob, es, ep, ho, hx, hd, _, pr, _⟩ := (show ObjOk X.prog X.w H s.heap p (.frz o (.dK kvs)) from I.hok p _ q).2
      obtain ⟨rv, rk⟩ := pairs_reads (h := s.heap) kv pr e
      obtain ⟨bs, hr, hn⟩ := RAs.reads I hS xs _ _ t rv
      rw [An.pd]
      have l1 : ks.length = xs.length := by
        have h1 := congrArg List.length e
        have h2 := Paired.length (ras_al t)
        simp only [List.length_map] at h1 h2
        omega
      have l2 : (ks.map fun s => PyData.str (S s)).length = (An.pds xs).length := by rw [pds_map, List.length_map, List.length_map, l1]
      refine ⟨_, Reads.dict (as := []) (bs := bs) ho hx.1 hd ?_ ?_, ?_⟩
      · rw [List.map_fst_zip (Nat.le_of_eq l2)]; exact rk
      · rw [List.map_snd_zip (Nat.le_of_eq l2.symm)]; exact hr
      · intro z
        rcases List.mem_cons.mp z with z | z
        · rw [← z] at hsy; simp at hsy
        · exact hn (by simpa using z)
theorem RAs.reads (I : Inv X pins σ H s) (hS : SysK X.K) : ∀ (xs : List An) (vs : List V) (us : List Value), RAs H vs xs → Vals vs us → ∃ as, ReadsAll s.heap us (An.pds xs) as ∧ sysModules ∉ as
  | [], _, _, h, r => by
    cases h
    cases r
    rw [An.pds]
    exact ⟨_, ReadsAll.nil, nofun⟩
  | x :: xs, _, _, h, r => by
    cases h with
    | cons h1 h2 =>
      cases r with
      | cons r1 r2 =>
        obtain ⟨as, q1, n1⟩ := RA.reads I hS x _ _ h1 r1
        obtain ⟨bs, q2, n2⟩ := RAs.reads I hS xs _ _ h2 r2
        rw [An.pds]
        exact ⟨_, ReadsAll.cons q1 q2, fun z => (List.mem_append.mp z).elim n1 n2⟩
end
end
def qReprA : RCl := fun xs H Q => ∃ v x, xs = [v] ∧ RA H v x ∧ reprB x.pd = true ∧ Q (.str x.pd.shown) H
theorem c_reprA {X : Cx} {k : Nat} (hS : SysK X.K) (hg : X.A.guards = some []) (hr : Room k X.A) : CallR X (.builtin "repr") qReprA := by
  intro pins s σ H xs us Q I rv ⟨v, x, e, hd, hb, q⟩
  subst e
  obtain ⟨u, rfl, r⟩ := vals1 rv
  obtain ⟨as, rd, hn⟩ := RA.reads I hS x _ _ hd r
  unfold reprB at hb
  rw [Bool.and_eq_true] at hb
  obtain ⟨h1, h2⟩ := hb
  have h3 := of_decide_eq_true h2
  have hz : x.pd.shown.length ≤ sizeLine := by rw [sizeLine_eq]; exact h3.2
  cases hd with
  | non =>
    cases r
    exact PySem.P.repr_of_none ⟨.str _, H, I.tok _, ⟨_, rfl⟩, by simpa [An.pd, PyData.shown] using q⟩
  | bl b =>
    cases r
    exact PySem.P.repr_of_bool ⟨.str _, H, I.tok _, ⟨_, rfl⟩, by simpa [An.pd, PyData.shown] using q⟩
  | int i =>
    obtain ⟨t, rfl⟩ := r
    exact PySem.P.repr_of_int (by simpa [An.pd, PyData.showable] using h1) ⟨.str _, H, I.tok _, ⟨_, rfl⟩, by simpa [An.pd, PyData.shown] using q⟩
  | str l =>
    obtain ⟨t, rfl⟩ := r
    exact PySem.P.repr_of_str ⟨.str _, H, I.tok _, ⟨_, rfl⟩, by simpa [An.pd, PyData.shown] using q⟩ (by simpa [An.pd, PyData.shown] using hz)
  | tup _ _ =>
    cases r
    exact PySem.repr_of_reads' rd h1 (fun _ => hn) hg (by have := hr.un; omega) (fun _ _ e => e) (fun h' u tk hk => ⟨.str _, H, I.kept hk, ⟨u, rfl⟩, q⟩) hz
  | lst _ _ =>
    cases r
    exact PySem.repr_of_reads' rd h1 (fun _ => hn) hg (by have := hr.un; omega) (fun _ _ e => e) (fun h' u tk hk => ⟨.str _, H, I.kept hk, ⟨u, rfl⟩, q⟩) hz
  | dic _ _ _ _ =>
    cases r
    exact PySem.repr_of_reads' rd h1 (fun _ => hn) hg (by have := hr.un; omega) (fun _ _ e => e) (fun h' u tk hk => ⟨.str _, H, I.kept hk, ⟨u, rfl⟩, q⟩) hz
section
variable {K : PySem.W.Frag} {F H : Hp} {v w : V} {x y : An} {Q : VK} {b : Bool} {r : Sg}
theorem v_reprA (hs : Sub F H) (hr : RA F v x) (h : reprM x.pd = some r) (k : Q (.str (S r)) H) : qReprA [v] H Q := by
  obtain ⟨h1, rfl⟩ := need_ok h
  exact ⟨v, x, rfl, hr.mono hs, h1, k⟩
mutual
theorem RA.dp : ∀ {v : V} {x : An}, RA H v x → x.nd = true → Dp K H v x.pd
  | _, _, .non, _ => by rw [An.pd]; exact .non
  | _, _, .bl b, _ => by rw [An.pd]; exact .bl b
  | _, _, .int i, _ => by rw [An.pd]; exact .int i
  | _, _, .str h, _ => by rw [An.pd]; exact .str _
  | _, _, .tup q h, n => by rw [An.pd]; rw [An.nd] at n; exact .tup (.inl q.rd) (RAs.dp h n)
  | _, _, .lst q h, n => by rw [An.pd]; rw [An.nd] at n; exact .lst (.inl (.inl q)) (RAs.dp h n)
  | _, _, .dic q e l h, n => by rw [An.nd] at n; cases n
theorem RAs.dp : ∀ {vs : List V} {xs : List An}, RAs H vs xs → An.nds xs = true → DpAll K H vs (An.pds xs)
  | _, _, .nil, _ => by rw [An.pds]; exact .nil
  | _, _, .cons r t, n => by
    rw [An.pds]
    rw [An.nds, Bool.and_eq_true] at n
    exact .cons (RA.dp r n.1) (RAs.dp t n.2)
end
/-- == of things without dicts -/
def eqAM (x y : An) : Option Bool := need (x.nd && y.nd && eqB x.pd y.pd) (PyData.eqv x.pd y.pd)
theorem eqAM_ok (hs : Sub F H) (hx : RA F v x) (hy : RA F w y) (h : eqAM x y = some b) : Dp K H v x.pd ∧ Dp K H w y.pd ∧ eqB x.pd y.pd = true ∧ PyData.eqv x.pd y.pd = b := by
  obtain ⟨h1, h2⟩ := need_ok h
  rw [Bool.and_eq_true, Bool.and_eq_true] at h1
  exact ⟨RA.dp (hx.mono hs) h1.1.1, RA.dp (hy.mono hs) h1.1.2, h1.2, h2⟩
theorem v_eqA (hs : Sub F H) (hx : RA F v x) (hy : RA F w y) (h : eqAM x y = some b) (k : Q (.bl b) H) : rEqD K v w H Q := by
  obtain ⟨h1, h2, h3, h4⟩ := eqAM_ok (K := K) hs hx hy h
  exact v_eqDp h1 h2 h3 h4 k
theorem v_neA (hs : Sub F H) (hx : RA F v x) (hy : RA F w y) (h : eqAM x y = some b) (k : Q (.bl (!b)) H) : rNeD K v w H Q := by
  obtain ⟨h1, h2, h3, h4⟩ := eqAM_ok (K := K) hs hx hy h
  exact v_neDp h1 h2 h3 h4 k
end
/-! xs == [], t == () : by their lengths alone -/
def qEqL0 (K : PySem.W.Frag) : R2 := fun x y H Q => ∃ a b xs, x = V.ref a ∧ y = V.ref b ∧ ((SqL K H a xs ∧ SqL K H b []) ∨ (SqT K H a xs ∧ SqT K H b [])) ∧ Q (.bl xs.isEmpty) H
def qNeL0 (K : PySem.W.Frag) : R2 := fun x y H Q => ∃ a b xs, x = V.ref a ∧ y = V.ref b ∧ ((SqL K H a xs ∧ SqL K H b []) ∨ (SqT K H a xs ∧ SqT K H b [])) ∧ Q (.bl (!xs.isEmpty)) H
theorem rc_lt0 {X : Cx} {k : Nat} (hr : Room k X.A) {pins : List (Addr × Obj)} {σ : L2.St} {H : Hp} {s : Shared} (I : Inv X pins σ H s) {a b : Addr} {xs : List V} (h : (SqL X.K H a xs ∧ SqL X.K H b []) ∨ (SqT X.K H a xs ∧ SqT X.K H b [])) :
    SeqAt.RcAt X.A s (.ref a) (.ref b) xs.isEmpty := by
  have hu := hr.un
  rcases h with ⟨h1, h2⟩ | ⟨h1, h2⟩
  · obtain ⟨its, rv, pl, _⟩ := I.list h1
    obtain ⟨its2, rv2, pl2, _⟩ := I.list h2
    cases rv2
    cases rv with
    | nil => exact SeqAt.RcAt.lists (e := fun _ => true) pl.isList pl2.isList rfl (by omega) (fun j h1 => absurd h1 (Nat.not_lt_zero _))
    | cons r t => exact SeqAt.RcAt.lists_lengths pl.isList pl2.isList (by simp) (by omega)
  · obtain ⟨its, rv, pl, _⟩ := I.tuple h1
    obtain ⟨its2, rv2, pl2, _⟩ := I.tuple h2
    cases rv2
    have := SeqAt.RcAt.tuples (e := fun _ => true) pl pl2 (show X.A.units < cLine by omega) (fun j h1 h2 => absurd h2 (Nat.not_lt_zero _))
    cases rv with
    | nil => exact this
    | cons r t => exact this
theorem rcn_lt0 {X : Cx} {k : Nat} (hr : Room k X.A) {pins : List (Addr × Obj)} {σ : L2.St} {H : Hp} {s : Shared} (I : Inv X pins σ H s) {a b : Addr} {xs : List V} (h : (SqL X.K H a xs ∧ SqL X.K H b []) ∨ (SqT X.K H a xs ∧ SqT X.K H b [])) :
    SeqAt.RcNeAt X.A s (.ref a) (.ref b) (!xs.isEmpty) := by
  have hu := hr.un
  rcases h with ⟨h1, h2⟩ | ⟨h1, h2⟩
  · obtain ⟨its, rv, pl, _⟩ := I.list h1
    obtain ⟨its2, rv2, pl2, _⟩ := I.list h2
    cases rv2
    cases rv with
    | nil => exact SeqAt.RcNeAt.lists (e := fun _ => true) pl.isList pl2.isList rfl (by omega) (fun j h1 => absurd h1 (Nat.not_lt_zero _))
    | cons r t => exact SeqAt.RcNeAt.lists_lengths pl.isList pl2.isList (by simp) (by omega)
  · obtain ⟨its, rv, pl, _⟩ := I.tuple h1
    obtain ⟨its2, rv2, pl2, _⟩ := I.tuple h2
    cases rv2
    have := SeqAt.RcNeAt.tuples (e := fun _ => true) pl pl2 (show X.A.units < cLine by omega) (fun j h1 h2 => absurd h2 (Nat.not_lt_zero _))
    cases rv with
    | nil => exact this
    | cons r t => exact this
theorem c_eqL0 {X : Cx} {K : PySem.W.Frag} {k : Nat} (hK : X.K = K) (hr : Room k X.A) : OpR X (compareOp .Eq) (qEqL0 K) := by
  subst hK
  intro pins s σ H x y v u Q I rx ry ⟨a, b, xs, e1, e2, h, q⟩
  subst e1 e2
  cases rx
  cases ry
  exact rc_lt0 hr I h _ _ _ _ ⟨.bl _, H, I, rfl, q⟩
theorem c_neL0 {X : Cx} {K : PySem.W.Frag} {k : Nat} (hK : X.K = K) (hr : Room k X.A) : OpR X (compareOp .NotEq) (qNeL0 K) := by
  subst hK
  intro pins s σ H x y v u Q I rx ry ⟨a, b, xs, e1, e2, h, q⟩
  subst e1 e2
  cases rx
  cases ry
  exact rcn_lt0 hr I h _ _ _ _ ⟨.bl _, H, I, rfl, q⟩
section
variable {α β : Type} {t : Rp α} {K : PySem.W.Frag} {F H : Hp} {p q : Addr} {vs : List V} {xs : List α} {Q : VK}
theorem al_emp (h : Al t F vs xs) : vs.isEmpty = xs.isEmpty := by cases h <;> rfl
theorem v_eqL0 (h : (SqL K H p vs ∧ SqL K H q []) ∨ (SqT K H p vs ∧ SqT K H q [])) (hr : Al t F vs xs) (k : Q (.bl xs.isEmpty) H) : qEqL0 K (.ref p) (.ref q) H Q := ⟨p, q, vs, rfl, rfl, h, by rw [al_emp hr]; exact k⟩
theorem v_neL0 (h : (SqL K H p vs ∧ SqL K H q []) ∨ (SqT K H p vs ∧ SqT K H q [])) (hr : Al t F vs xs) (k : Q (.bl (!xs.isEmpty)) H) : qNeL0 K (.ref p) (.ref q) H Q := ⟨p, q, vs, rfl, rfl, h, by rw [al_emp hr]; exact k⟩
end
end U
set_option Elab.async false
set_option linter.all false
set_option maxRecDepth 100000
set_option maxHeartbeats 4000000
/-! ### tuples without a dict: displays, sums, slices -/
namespace U
open PySem PySem.Spec PyProof.Rows L2
def qNewTZ (Q : VK) : List V → Hp → Prop := fun xs H1 => xs.length ≤ sizeLine ∧ ∀ p (o : Obj), H1 p = none → o.dict = none → Q (.ref p) (upd H1 p (.frz o (.tup xs)))
def tTupZ (t : TA) : TE := fun σ H Q => t σ H (qNewTZ Q)
section
variable {X : Cx} {K : PySem.W.Frag} {es : List Expr} {t : TA} {pos : Pos}
theorem pe_tupZ {x1} (h : PA X es t) : PE X (.Tuple es x1 pos) (tTupZ t) := by
  refine ⟨fun pins s σ H Q I hq => ?_⟩
  refine wpAny_Tuple_spliced (thn (h.run pos pins s σ H _ I hq) fun us s1 ⟨xs, H1, I1, r, z, q⟩ => ⟨by rw [← r.length]; exact z, ?_⟩)
  have hf : H1 s1.heap.objs.size = none := I1.hok.fresh (Nat.le_refl _)
  let tu : Obj := { cls := .type "tuple", data := .seq us.toArray }
  have at0 : (s1.heap.push tu).get? s1.heap.objs.size = some tu := Heap.get?_push_size _ rfl
  refine ⟨.ref s1.heap.objs.size, upd H1 s1.heap.objs.size (.frz tu (.tup xs)), I1.laid (t' := s1.toks) (fun b u e => Heap.get?_push_of_some _ e) (Nat.le_refl _) ?_, rfl, q _ tu hf rfl⟩
  exact ⟨at0, z, us, r, IsTup.new _ _⟩
/-- t + u -/
def rCatZ (K : PySem.W.Frag) : R2 := fun x y H Q => ∃ a b xs ys, x = .ref a ∧ y = .ref b ∧ SqT K H a xs ∧ SqT K H b ys ∧ xs.length + ys.length ≤ sizeLine ∧
  (xs = [] → Q (.ref b) H) ∧ (xs ≠ [] → ys = [] → Q (.ref a) H) ∧ (xs ≠ [] → ys ≠ [] → ∀ p (o : Obj), H p = none → o.dict = none → Q (.ref p) (upd H p (.frz o (.tup (xs ++ ys)))))
theorem op_catZ (hK : X.K = K) : OpR X (binaryOp .Add) (rCatZ K) := by
  subst hK
  intro pins s σ H x y v u Q I rx ry h
  obtain ⟨a, b, xs, ys, rfl, rfl, ha, hb, hz, q0, q1, q2⟩ := h
  by_cases hx : xs = []
  · subst hx
    cases rx
    cases ry
    obtain ⟨its, r1, p1, _⟩ := I.tuple ha
    obtain ⟨its2, r2, p2, _⟩ := I.tuple hb
    cases r1
    exact cat_tup0 p1 p2 ⟨.ref b, H, I, rfl, q0 rfl⟩
  · cases rx
    cases ry
    obtain ⟨its, r1, p1, _⟩ := I.tuple ha
    obtain ⟨its2, r2, p2, _⟩ := I.tuple hb
    refine HT.cat_tup p1 p2 (fun z => hx (r1.nil_iff.mp z)) (fun z => ⟨.ref a, H, I, rfl, q1 hx (r2.nil_iff.mp z)⟩) (fun z => ?_) (by rw [← r1.length, ← r2.length]; exact hz)
    let tu : Obj := { cls := .type "tuple", data := .seq (its ++ its2).toArray }
    have at0 : (s.heap.push tu).get? s.heap.objs.size = some tu := Heap.get?_push_size _ rfl
    refine ⟨.ref s.heap.objs.size, _, I.laid (t' := s.toks) (o := .frz tu (.tup (xs ++ ys))) (fun b ob q => Heap.get?_push_of_some _ q) (Nat.le_refl _) ?_, rfl, q2 hx (fun w => z (r2.nil_iff.mpr w)) _ tu (I.hok.fresh (Nat.le_refl _)) rfl⟩
    exact ⟨at0, by rw [List.length_append]; exact hz, _, r1.append r2, IsTup.new _ _⟩
/-- t[lo:hi] -/
def rSlZ (K : PySem.W.Frag) : V → Option Int → Option Int → Hp → VK → Prop := fun x lo hi H Q => ∃ a xs, x = .ref a ∧ SqT K H a xs ∧
  (HT.sIx xs.length 0 lo = 0 ∧ HT.sIx xs.length xs.length hi = xs.length → Q (.ref a) H) ∧ (¬ (HT.sIx xs.length 0 lo = 0 ∧ HT.sIx xs.length xs.length hi = xs.length) → ∀ p (o : Obj), H p = none → o.dict = none → Q (.ref p) (upd H p (.frz o (.tup (cutV xs lo hi)))))
theorem sl_tupZ (hK : X.K = K) : SlR X (rSlZ K) := by
  subst hK
  intro pins s σ H x v vl vu lo hi sl Q I rx hs pl pu h
  obtain ⟨a, xs, rfl, hx, q1, q2⟩ := h
  cases rx
  obtain ⟨its, r, ht, hz⟩ := I.tuple hx
  have hlen : its.toArray.size = xs.length := by rw [List.size_toArray]; exact r.length.symm
  refine ⟨"tuple", _, PyProof.Rows.slot_tuple_getitem.lookup, ht.typeIs, ?_⟩
  by_cases hw : HT.sIx xs.length 0 lo = 0 ∧ HT.sIx xs.length xs.length hi = xs.length
  · exact getItem_tuple_whole ht hs pl pu (by rw [hlen]; exact hw) ⟨.ref a, H, I, rfl, q1 hw⟩
  · refine HT.getItem_tuple_cut ht hs pl pu (by rw [hlen]; exact hw) ?_ (by rw [hlen]; exact hz)
    rw [hlen]
    let ws := (its.drop (HT.sIx xs.length 0 lo)).take (HT.sIx xs.length xs.length hi - HT.sIx xs.length 0 lo)
    let tu : Obj := { cls := .type "tuple", data := .seq ws.toArray }
    have at0 : (s.heap.push tu).get? s.heap.objs.size = some tu := Heap.get?_push_size _ rfl
    refine ⟨.ref s.heap.objs.size, _, I.laid (t' := s.toks) (o := .frz tu (.tup (cutV xs lo hi))) (fun b ob q => Heap.get?_push_of_some _ q) (Nat.le_refl _) ?_, rfl, q2 hw _ tu (I.hok.fresh (Nat.le_refl _)) rfl⟩
    exact ⟨at0, Nat.le_trans (cutV_length xs lo hi) hz, _, (r.drop (HT.sIx xs.length 0 lo)).take (HT.sIx xs.length xs.length hi - HT.sIx xs.length 0 lo), IsTup.new _ _⟩
end
section
variable {α β : Type} {t : Rp α} {K : PySem.W.Frag} {σ : L2.St} {F H : Hp} {p q : Addr} {vs us : List V} {xs zs ys : List α} {Q : VK} {o o2 : Obj} {lo hi : Option Int}
theorem n_tupZ {ta : TA} (h : ta σ H (qNewTZ Q)) : tTupZ ta σ H Q := h
theorem v_mkZ (hs : Sub F H) (hr : Al t F vs xs) (hz : szB vs.length = true) (k : ∀ p (o : Obj) F' H', Gr [] F H F' H' → F' p = some (.frz o (.tup vs)) → o.dict = none → Al t F' vs xs → Q (.ref p) H') : qNewTZ Q vs H :=
  ⟨sz_ok hz, fun p o hp ho => k _ o _ _ (gr_newF hs hp) upd_same ho (hr.mono (Sub.up1 (hs.nn hp)))⟩
theorem v_catZ (hs : Sub F H) (hp : F p = some (.frz o (.tup vs))) (hd : o.dict = none) (hr : Al t F vs xs) (hq : F q = some (.frz o2 (.tup us))) (hd2 : o2.dict = none) (hr' : Al t F us zs) (h : catLM xs zs = some ys)
    (k : ∀ p' (o : Obj) ws F' H', Gr [] F H F' H' → F' p' = some (.frz o (.tup ws)) → o.dict = none → Al t F' ws ys → Q (.ref p') H') : rCatZ K (.ref p) (.ref q) H Q := by
  obtain ⟨h1, rfl⟩ := need_ok h
  refine ⟨p, q, vs, us, rfl, rfl, sqZ (hs _ _ hp), sqZ (hs _ _ hq), by rw [al_len hr, al_len hr']; exact sz_ok h1, fun e => ?_, fun _ e => ?_, fun _ _ l o hl ho => k l o _ _ _ (gr_newF hs hl) upd_same ho (Al.mono (pd_append hr hr') (Sub.up1 (hs.nn hl)))⟩
  · subst e
    cases hr
    exact k q o2 us F H (Gr.refl hs) hq hd2 hr'
  · subst e
    cases hr'
    exact k p o vs F H (Gr.refl hs) hp hd (by rw [List.append_nil]; exact hr)
theorem v_slZ (hs : Sub F H) (hq : F p = some (.frz o (.tup vs))) (hd : o.dict = none) (hr : Al t F vs xs) (k : ∀ p' (o : Obj) us F' H', Gr [] F H F' H' → F' p' = some (.frz o (.tup us)) → o.dict = none → Al t F' us (cutL xs lo hi) → Q (.ref p') H') : rSlZ K (.ref p) lo hi H Q := by
  refine ⟨p, vs, rfl, sqZ (hs _ _ hq), fun e => ?_, fun _ p' o' hp ho => k p' o' _ _ _ (gr_newF hs hp) upd_same ho ((cut_al hr).mono (Sub.up1 (hs.nn hp)))⟩
  have e2 : cutV vs lo hi = vs := by unfold cutV; rw [e.1, e.2]; simp
  have := cut_al (lo := lo) (hi := hi) hr
  rw [e2] at this
  exact k p o vs F H (Gr.refl hs) hq hd this
/-- slices of a readable tuple, sums of readable ones: readable -/
theorem v_slR (hs : Sub F H) (hq : Rd F p (.tup vs)) (hr : Al t F vs xs) (k : ∀ p' us F' H', Gr [] F H F' H' → Rd F' p' (.tup us) → Al t F' us (cutL xs lo hi) → Q (.ref p') H') : rSlA K (.ref p) lo hi H Q := by
  refine ⟨p, vs, rfl, sqR hs hq, fun e => ?_, fun _ p' hp => k p' _ _ _ (gr_newF hs hp) (.inl upd_same) ((cut_al hr).mono (Sub.up1 (hs.nn hp)))⟩
  have e2 : cutV vs lo hi = vs := by unfold cutV; rw [e.1, e.2]; simp
  have := cut_al (lo := lo) (hi := hi) hr
  rw [e2] at this
  exact k p vs F H (Gr.refl hs) hq this
end
/-! ### lifted to things of any kind; a tuple unpacked to so many names; what is walked, of either kind -/
section
variable {α : Type} {t : Rp α} {K : PySem.W.Frag} {F H : Hp} {v w : V} {xs : List α} {x : An} {Q : VK}
theorem eT_any (D : Td t) (r : (eT t).r F v xs) : (eT eA).r F v (xs.map D.d) := by obtain ⟨p, vs, e, q, h⟩ := r; exact ⟨p, vs, e, q, ras_al (td_all D h)⟩
theorem eL_any (D : Td t) (r : (eL t).r F v xs) : (eL eA).r F v (xs.map D.d) := by obtain ⟨p, vs, e, q, h⟩ := r; exact ⟨p, vs, e, q, ras_al (td_all D h)⟩
theorem eR_any (D : Td t) (r : (eR t).r F v xs) : (eR eA).r F v (xs.map D.d) := by obtain ⟨p, vs, e, q, h⟩ := r; exact ⟨p, vs, e, q, ras_al (td_all D h)⟩
theorem eZ_any (D : Td t) (r : (eZ t).r F v xs) : (eZ eA).r F v (xs.map D.d) := by obtain ⟨p, o, vs, e, q, d, h⟩ := r; exact ⟨p, o, vs, e, q, d, ras_al (td_all D h)⟩
theorem eTA_A {xs : List An} (r : (eT eA).r F v xs) : RA F v (.tup false xs) := by obtain ⟨p, vs, rfl, q, h⟩ := r; exact .tup q (al_ras h)
theorem eZA_A {xs : List An} (r : (eZ eA).r F v xs) : RA F v (.tup true xs) := by obtain ⟨p, o, vs, rfl, q, d, h⟩ := r; exact .tup ⟨o, q, d⟩ (al_ras h)
theorem eLA_A {xs : List An} (r : (eL eA).r F v xs) : RA F v (.lst xs) := by obtain ⟨p, vs, rfl, q, h⟩ := r; exact .lst q (al_ras h)
theorem ra_dicL {kvs : List (Key × V)} {xs : List (Sg × An)} {p : Addr} {o : Obj} (h : F p = some (.frz o (.dK kvs))) (r : Pr (dyK keS) eA F kvs xs) (hz : (xs.all fun x => szB x.1.length) = true) : RA F (.ref p) (.dic (xs.map Prod.fst) (xs.map Prod.snd)) := by
  refine .dic h ?_ (fun s hs => ?_) ?_
  · clear h hz
    induction r with
    | nil => rfl
    | cons r t ih => rw [List.map_cons, List.map_cons, List.map_cons, ih]; exact congrArg (fun z => z :: _) r.1
  · obtain ⟨y, hy, rfl⟩ := List.mem_map.mp hs
    exact sz_ok (List.all_eq_true.mp hz y hy)
  · clear h hz
    induction r with
    | nil => exact .nil
    | cons r t ih => exact .cons r.2 ih
def un2L {α : Type} : List α → Option (α × α) | [a, b] => some (a, b) | _ => none
def un3L {α : Type} : List α → Option (α × α × α) | [a, b, c] => some (a, b, c) | _ => none
theorem v_unpL2 {σ : L2.St} {tg : TGs} {m : α × α} {R : L2.St → Hp → Prop} {p : Addr} {vs : List V} (hq : SqT K H p vs) (al : Al t F vs xs) (h : un2L xs = some m) (k : ∀ y z, t.r F y m.1 → t.r F z m.2 → tg [y, z] σ H R) : gTup K 2 tg (.ref p) σ H R := by
  cases al with
  | nil => cases h
  | cons r1 al =>
    cases al with
    | nil => cases h
    | cons r2 al =>
      cases al with
      | nil => obtain rfl := Option.some.inj h; exact ⟨p, _, rfl, hq, rfl, k _ _ r1 r2⟩
      | cons r3 al => cases h
theorem v_unpL3 {σ : L2.St} {tg : TGs} {m : α × α × α} {R : L2.St → Hp → Prop} {p : Addr} {vs : List V} (hq : SqT K H p vs) (al : Al t F vs xs) (h : un3L xs = some m) (k : ∀ y z w, t.r F y m.1 → t.r F z m.2.1 → t.r F w m.2.2 → tg [y, z, w] σ H R) : gTup K 3 tg (.ref p) σ H R := by
  cases al with
  | nil => cases h
  | cons r1 al =>
    cases al with
    | nil => cases h
    | cons r2 al =>
      cases al with
      | nil => cases h
      | cons r3 al =>
        cases al with
        | nil => obtain rfl := Option.some.inj h; exact ⟨p, _, rfl, hq, rfl, k _ _ _ r1 r2 r3⟩
        | cons r4 al => cases h
theorem v_notNA {x : An} (r : RA F v x) (k : Q (.bl (!x.isN)) H) : Q (.bl (!decide (v = .non))) H := by
  have e : decide (v = .non) = x.isN := by cases r <;> rfl
  rw [e]; exact k
/-- a list or a tuple -/
def An.seqM : An → Option (List An) | .tup _ xs => some xs | .lst xs => some xs | _ => none
theorem seqA {xs : List An} (r : RA F v x) (h : x.seqM = some xs) : ∃ (k : Sk) (vs : List V), v = k.va ∧ (∀ H, Sub F H → k.on K H vs) ∧ Al eA F vs xs := by
  cases r with
  | @tup p z vs ys q t =>
    obtain rfl := Option.some.inj h
    exact ⟨.t p, vs, rfl, fun H hs => .inl (hs.rd q.rd), ras_al t⟩
  | @lst p vs ys q t =>
    obtain rfl := Option.some.inj h
    exact ⟨.l p, vs, rfl, fun H hs => .inl (.inl (hs _ _ q)), ras_al t⟩
  | _ => cases h
end
end U
set_option Elab.async false
set_option linter.all false
set_option maxRecDepth 100000
set_option maxHeartbeats 4000000
/-! ### the head's facts, with the dict of all modules and a Bool more -/
namespace U
open PySem PySem.Spec PyProof.Rows L2
def sysB (K : PySem.W.Frag) : Bool := match K.lookup sysModules with
  | some ⟨.type c, _, _, _⟩ => decide (c = "dict")
  | _ => false
theorem sysB_ok {K : PySem.W.Frag} (h : sysB K = true) : SysK K := by
  unfold sysB at h
  cases e : K.lookup sysModules with
  | none => rw [e] at h; cases h
  | some o =>
    rw [e] at h
    obtain ⟨oc, od, dt, sl⟩ := o
    cases oc with
    | type c => exact ⟨_, e, congrArg Value.type (of_decide_eq_true h)⟩
    | _ => cases h
abbrev AlS : Type := He.AlD × Bool
def obsS (fa : List He.Fa) (fn : List He.DefD) (ex : PySem.W.Frag → Bool) (K : PySem.W.Frag) : AlS := (He.obsD fa fn K, ex K)
def obsSG (n : Nat) (fa : List He.Fa) (fn : List He.DefD) (ex : PySem.W.Frag → Bool) (g : Addr → Option Obj) : AlS := obsS fa fn ex (He.frG g (sysModules :: He.asD g n))
def hookS (n : Nat) (fa : List He.Fa) (fn : List He.DefD) (ex : PySem.W.Frag → Bool) : PySem.W.Hook where
  α := AlS
  obs := fun s => obsSG n fa fn ex s.heap.get?
  val := fun _ => (He.valD fn, true)
  says := fun _ h => ∃ K : PySem.W.Frag, K.In h ∧ He.SaysD fa fn K ∧ ex K = true
  of := fun _ _ e => ⟨_, He.frG_in, congrArg (fun z : AlS => z.1) e, congrArg (fun z : AlS => z.2) e⟩
  keeps := fun _ _ _ ⟨K, hK, c⟩ k => ⟨K, PySem.W.Frag.In.keeps hK k, c⟩
theorem obsSG_eq {n : Nat} {fa : List He.Fa} {fn : List He.DefD} {ex : PySem.W.Frag → Bool} {g : Addr → Option Obj} {s : Shared} (h : ∀ a, g a = s.heap.get? a) : obsSG n fa fn ex g = (hookS n fa fn ex).obs s := by
  have e : g = s.heap.get? := funext h
  rw [e] <;> rfl
end U
set_option Elab.async false
set_option linter.all false
set_option maxRecDepth 100000
set_option maxHeartbeats 4000000
/-! ### tuple * int of any kind; tuple(..) of a thing of any kind -/
namespace U
open PySem PySem.Spec PyProof.Rows L2
theorem tuple_mul1 (l : Addr) (items : Array Value) (n : Nat) (dd : Option Addr) (sl : Array (Option Value)) (x : Int) (u : Tok) (c0 : (decide (x < -(2 ^ 63)) || decide (x ≥ 2 ^ 63)) = false) (c1 : (items.isEmpty || x == 1) = true) :
    Meets (Builtin.«tuple.__mul__» ⟨[.ref l, .int x u], []⟩) (fun _ R s => s.heap.get? l = some { cls := .type "tuple", dict := dd, data := .seq items n, slots := sl } ∧ R (.ok (.ret (Value.ref l))) s) :=
  .of_wp fun prog w A R s h => by
    obtain ⟨hp, g, d, tk, os⟩ := s
    obtain ⟨hl, h⟩ := h
    have f1 := AutoSeq1.idx_int
    wp_walk using wpAny_loadPart' hl
    repeat (first
      | (refine wpAny_ite_false (decide_eq_false (by rw [c0]; exact Bool.false_ne_true)) ?_; wp_walk using wpAny_loadPart' hl)
      | (refine wpAny_ite_true (decide_eq_true c1) ?_; wp_walk using wpAny_loadPart' hl))
    exact ⟨_, rfl, h⟩
theorem tuple_mul0 (l : Addr) (items : Array Value) (n : Nat) (dd : Option Addr) (sl : Array (Option Value)) (x : Int) (u : Tok) (c0 : (decide (x < -(2 ^ 63)) || decide (x ≥ 2 ^ 63)) = false) (c1 : (items.isEmpty || x == 1) = false) (c2 : (decide (x ≤ 0) || items.isEmpty) = true) :
    Meets (Builtin.«tuple.__mul__» ⟨[.ref l, .int x u], []⟩) (fun _ R s => s.heap.get? l = some { cls := .type "tuple", dict := dd, data := .seq items n, slots := sl } ∧
      R (.ok (.ret (Value.ref s.heap.objs.size))) { s with heap := s.heap.push { cls := Value.type "tuple", data := Data.seq #[] }, toks := s.toks }) :=
  .of_wp fun prog w A R s h => by
    obtain ⟨hp, g, d, tk, os⟩ := s
    obtain ⟨hl, h⟩ := h
    have f1 := AutoSeq1.idx_int
    wp_walk using wpAny_loadPart' hl
    repeat (first
      | (refine wpAny_ite_false (decide_eq_false (by rw [c0]; exact Bool.false_ne_true)) ?_; wp_walk using wpAny_loadPart' hl)
      | (refine wpAny_ite_false (decide_eq_false (by rw [c1]; exact Bool.false_ne_true)) ?_; wp_walk using wpAny_loadPart' hl)
      | (refine wpAny_ite_true (decide_eq_true c2) ?_; wp_walk using wpAny_loadPart' hl))
    exact ⟨_, rfl, h⟩
def hoZ (z : Bool) (o : Obj) (ys : List V) : HO := match z with
  | true => .frz o (.tup ys)
  | false => .tup ys
def rRepZ (z : Bool) (K : PySem.W.Frag) : R2 := fun x y H Q => ∃ l k xs, x = .ref l ∧ y = .int k ∧ SqT K H l xs ∧ -(2 ^ 63) ≤ k ∧ k ≤ 1000 ∧ xs.length ≤ 1000 ∧ (xs = [] ∨ k = 1 → Q (.ref l) H) ∧
  (¬ (xs = [] ∨ k = 1) → ∀ p (o : Obj), H p = none → o.dict = none → Q (.ref p) (upd H p (hoZ z o (List.replicate k.toNat xs).flatten)))
theorem op_repZ {X : Cx} {K : PySem.W.Frag} (z : Bool) (hK : X.K = K) : OpR X (binaryOp .Mult) (rRepZ z K) := by
  subst hK
  intro pins s σ H x y v u Q I rx ry h
  obtain ⟨l, k, xs, rfl, rfl, hT, h1, h2, hz, q1, q2⟩ := h
  cases rx
  obtain ⟨t, rfl⟩ := ry
  obtain ⟨its, r, ⟨⟨cls, dd, data, sl⟩, ho, hc, n, hd⟩, hs⟩ := I.tuple hT
  simp only at hc hd
  subst hc hd
  have hle : its.length = xs.length := r.length.symm
  have hsz0 : its.toArray.size = xs.length := by rw [List.size_toArray, hle]
  have c0 : (decide (k < -(2 ^ 63)) || decide (k ≥ 2 ^ 63)) = false := by
    rw [decide_eq_false (by omega), decide_eq_false (by omega)] <;> rfl
  have go : ∀ {R : Result → Shared → Prop} {Pm : Around → (Result → Shared → Prop) → Shared → Prop}, True := fun {_ _} => trivial
  by_cases he : xs = [] ∨ k = 1
  · have c1 : (its.toArray.isEmpty || k == 1) = true := by
      rcases he with e | e
      · subst e
        have : its = [] := List.eq_nil_of_length_eq_zero hle
        subst this; rfl
      · subst e; simp
    refine wpAny_binaryOp_repeat_ref (T := "tuple") (U := "int") (by decide) ⟨_, ho, rfl⟩ (fun s' => typeIs_int s' k t) noFill_tuple_mul F.fills_int_mul F.slot_int_rmul repeat_tuple F.slot_int_index.lookup
      (call_meets F.slot_int_rmul (typeIs_int s k t) F.entry_int_rmul (F.args_int_rmul_2 _ _) (int_rmul_tuple k t l its.toArray n dd sl)
        ⟨ho, rfl, ⟨_, ho, rfl⟩, call_meets F.slot_tuple_mul ⟨_, ho, rfl⟩ F.entry_tuple_mul (F.args_tuple_mul_2 _ _) (tuple_mul1 l its.toArray n dd sl k t c0 c1) ⟨ho, ?_⟩⟩)
    exact ⟨.ref l, H, I, rfl, q1 he⟩
  · have hne : xs ≠ [] := fun e => he (.inl e)
    have hk1 : k ≠ 1 := fun e => he (.inr e)
    have hn : its ≠ [] := fun e => hne (by
      rw [e] at hle
      exact List.eq_nil_of_length_eq_zero hle.symm)
    have hi : its.toArray.isEmpty = false := by
      cases its with
      | nil => exact absurd rfl hn
      | cons a b => rfl
    have c1 : (its.toArray.isEmpty || k == 1) = false := by
      rw [hi, Bool.false_or]
      exact beq_eq_false_iff_ne.mpr hk1
    have flen : (List.replicate k.toNat its).flatten.length ≤ sizeLine := by
      rw [PyProof.Rows.lm_len_rep_flat, hle, sizeLine_eq]
      have a1 : k.toNat * xs.length ≤ 1000 * 1000 := Nat.mul_le_mul (by omega) hz
      omega
    have fin : ∀ (us : List Value), Vals (List.replicate k.toNat xs).flatten us → EP X pins σ Q (.ref s.heap.objs.size) { s with heap := s.heap.push { cls := Value.type "tuple", data := Data.seq us.toArray } } := fun us rv => by
      let tu : Obj := { cls := .type "tuple", data := .seq us.toArray }
      have at0 : (s.heap.push tu).get? s.heap.objs.size = some tu := Heap.get?_push_size _ rfl
      have hl2 : (List.replicate k.toNat xs).flatten.length ≤ sizeLine := by
        rw [PyProof.Rows.lm_len_rep_flat] at flen ⊢
        rw [← hle]; exact flen
      refine ⟨.ref s.heap.objs.size, _, I.laid (t' := s.toks) (o := hoZ z tu (List.replicate k.toNat xs).flatten) (fun b ob q => Heap.get?_push_of_some _ q) (Nat.le_refl _) ?_, rfl, q2 he _ tu (I.hok.fresh (Nat.le_refl _)) rfl⟩
      cases z with
      | true => exact ⟨at0, hl2, us, rv, IsTup.new _ _⟩
      | false => exact ⟨hl2, us, rv, IsTup.new _ _⟩
    by_cases hk : k ≤ 0
    · have c2 : (decide (k ≤ 0) || its.toArray.isEmpty) = true := by rw [decide_eq_true hk]; rfl
      refine wpAny_binaryOp_repeat_ref (T := "tuple") (U := "int") (by decide) ⟨_, ho, rfl⟩ (fun s' => typeIs_int s' k t) noFill_tuple_mul F.fills_int_mul F.slot_int_rmul repeat_tuple F.slot_int_index.lookup
        (call_meets F.slot_int_rmul (typeIs_int s k t) F.entry_int_rmul (F.args_int_rmul_2 _ _) (int_rmul_tuple k t l its.toArray n dd sl)
          ⟨ho, rfl, ⟨_, ho, rfl⟩, call_meets F.slot_tuple_mul ⟨_, ho, rfl⟩ F.entry_tuple_mul (F.args_tuple_mul_2 _ _) (tuple_mul0 l its.toArray n dd sl k t c0 c1 c2) ⟨ho, ?_⟩⟩)
      exact fin [] (by rw [show k.toNat = 0 by omega]; exact .nil)
    · have hm : ((its.toArray.size : Nat) : Int) * k ≤ 1000000 := by
        rw [hsz0]
        have a1 : ((xs.length : Nat) : Int) * k ≤ 1000 * k := Int.mul_le_mul_of_nonneg_right (by omega) (by omega)
        omega
      have c2 : (decide (k ≤ 0) || its.toArray.isEmpty) = false := by
        rw [hi, Bool.or_false]
        exact decide_eq_false (by omega)
      have c4 : Builtin.Tuple.tupleTooMany (((its.toArray.size : Nat) : Int) * k) = false := by
        unfold Builtin.Tuple.tupleTooMany
        rw [sizeLine_eq]
        exact decide_eq_false (by omega)
      refine wpAny_binaryOp_repeat_ref (T := "tuple") (U := "int") (by decide) ⟨_, ho, rfl⟩ (fun s' => typeIs_int s' k t) noFill_tuple_mul F.fills_int_mul F.slot_int_rmul repeat_tuple F.slot_int_index.lookup
        (call_meets F.slot_int_rmul (typeIs_int s k t) F.entry_int_rmul (F.args_int_rmul_2 _ _) (int_rmul_tuple k t l its.toArray n dd sl)
          ⟨ho, rfl, ⟨_, ho, rfl⟩, call_meets F.slot_tuple_mul ⟨_, ho, rfl⟩ F.entry_tuple_mul (F.args_tuple_mul_2 _ _) (tuple_mulW l its.toArray n dd sl k t c0 c1 c2 (by omega) c4 (by rw [size_rep, List.size_toArray]; exact flen)) ⟨ho, ?_⟩⟩)
      rw [size_rep]
      exact fin _ (r.rep k.toNat)
section
variable {α β : Type} {t : Rp α} {K : PySem.W.Frag} {F H : Hp} {p : Addr} {vs : List V} {xs ys : List α} {x : An} {v : V} {Q : VK} {o : Obj} {i : Int}
def repTM (xs : List α) (i : Int) : Option (List α) := need (decide (-(2 ^ 63) ≤ i ∧ i ≤ 1000 ∧ xs.length ≤ 1000)) (repL xs i.toNat)
theorem rep_one (hi : xs = [] ∨ i = 1) : repL xs i.toNat = xs := by
  unfold repL
  rcases hi with e | e
  · subst e
    induction i.toNat with
    | zero => rfl
    | succ n ih => rw [List.replicate_succ, List.flatten_cons, ih]; rfl
  · subst e
    show (List.replicate 1 xs).flatten = xs
    simp
theorem al_nil_iff (hr : Al t F vs xs) : vs = [] ↔ xs = [] := by cases hr <;> simp
theorem v_repT (hs : Sub F H) (hp : F p = some (.tup vs)) (hr : Al t F vs xs) (h : repTM xs i = some ys) (k : ∀ p' ws F' H', Gr [] F H F' H' → F' p' = some (.tup ws) → Al t F' ws ys → Q (.ref p') H') : rRepZ false K (.ref p) (.int i) H Q := by
  obtain ⟨h1, rfl⟩ := need_ok h
  have h1 := of_decide_eq_true h1
  refine ⟨p, i, vs, rfl, rfl, .inl (.inl (hs _ _ hp)), h1.1, h1.2.1, by rw [al_len hr]; exact h1.2.2, fun e => ?_, fun _ l o hl ho => k l _ _ _ (gr_newF hs hl) upd_same (Al.mono (pd_rep hr) (Sub.up1 (hs.nn hl)))⟩
  rw [rep_one (e.imp (al_nil_iff hr).mp id)] at k
  exact k p vs F H (Gr.refl hs) hp hr
theorem v_repZ (hs : Sub F H) (hp : F p = some (.frz o (.tup vs))) (hd : o.dict = none) (hr : Al t F vs xs) (h : repTM xs i = some ys) (k : ∀ p' (o : Obj) ws F' H', Gr [] F H F' H' → F' p' = some (.frz o (.tup ws)) → o.dict = none → Al t F' ws ys → Q (.ref p') H') : rRepZ true K (.ref p) (.int i) H Q := by
  obtain ⟨h1, rfl⟩ := need_ok h
  have h1 := of_decide_eq_true h1
  refine ⟨p, i, vs, rfl, rfl, sqZ (hs _ _ hp), h1.1, h1.2.1, by rw [al_len hr]; exact h1.2.2, fun e => ?_, fun _ l o hl ho => k l o _ _ _ (gr_newF hs hl) upd_same ho (Al.mono (pd_rep hr) (Sub.up1 (hs.nn hl)))⟩
  rw [rep_one (e.imp (al_nil_iff hr).mp id)] at k
  exact k p o vs F H (Gr.refl hs) hp hd hr
def toTM (C : Ct t) (x : An) : Option (List α) := (match x with
  | .tup false xs => some xs
  | .lst xs => some xs
  | _ => none).bind fun xs => xs.mapM C.c
theorem v_tupleA (C : Ct t) (hs : Sub F H) (r : RA F v x) (h : toTM C x = some ys) (k : ∀ v' F' H', Gr [] F H F' H' → (eT t).r F' v' ys → Q v' H') : qTuple K [v] H Q := by
  obtain ⟨xs, h1, h2⟩ := bnd h
  cases r with
  | @tup p z vs zs q tl =>
    cases z with
    | true => cases h1
    | false =>
      have e : zs = xs := Option.some.inj h1
      subst e
      exact v_tupleT (.inl (.inl (hs _ _ q))) (k _ F H (Gr.refl hs) ⟨p, vs, rfl, q, ct_all C (ras_al tl) h2⟩)
  | @lst p vs zs q tl =>
    have e : zs = xs := Option.some.inj h1
    subst e
    exact v_tuple hs (.inl (.inl (hs _ _ q))) (ct_all C (ras_al tl) h2) fun p' F' H' d hp al => k _ F' H' d ⟨p', vs, rfl, hp, al⟩
  | _ => cases h1
end
end U
set_option Elab.async false
set_option linter.all false
set_option maxRecDepth 100000
set_option maxHeartbeats 4000000
/-! ### t[::-1] -/
namespace U
open PySem PySem.Spec PyProof.Rows L2 HT
theorem rev_pick (xs : List Value) : (List.range xs.length).filterMap (fun (m : Nat) => xs.toArray[(((xs.length : Int) - 1) + (m : Int) * (-1)).toNat]?) = xs.reverse := by
  have h : ∀ m ∈ List.range xs.length, (fun (m : Nat) => xs.toArray[(((xs.length : Int) - 1) + (m : Int) * (-1)).toNat]?) m = some (xs.reverse.getD m .none) := fun m hm => by
    have hm := List.mem_range.mp hm
    show xs.toArray[(((xs.length : Int) - 1) + (m : Int) * (-1)).toNat]? = _
    have e : (((xs.length : Int) - 1) + (m : Int) * (-1)).toNat = xs.length - 1 - m := by omega
    rw [e, List.getElem?_toArray, List.getD_eq_getElem?_getD, List.getElem?_reverse hm, List.getElem?_eq_getElem (by omega)]
    rfl
  have e0 : ∀ l : List Nat, (∀ m ∈ l, m ∈ List.range xs.length) → l.filterMap (fun (m : Nat) => xs.toArray[(((xs.length : Int) - 1) + (m : Int) * (-1)).toNat]?) = l.map fun m => xs.reverse.getD m .none := by
    intro l
    induction l with
    | nil => intro _; rfl
    | cons a r ih =>
      intro hl
      have ha : xs.toArray[(((xs.length : Int) - 1) + (a : Int) * (-1)).toNat]? = some (xs.reverse.getD a .none) := h a (hl a List.mem_cons_self)
      rw [List.filterMap_cons, ha, ih fun m hm => hl m (List.mem_cons_of_mem _ hm)]; rfl
  rw [e0 _ fun _ h => h]
  apply List.ext_getElem?
  intro i
  rw [List.getElem?_map]
  by_cases hi : i < xs.length
  · rw [List.getElem?_range hi, List.getElem?_eq_getElem (by simpa using hi)]
    show some (xs.reverse.getD i .none) = _
    rw [List.getD_eq_getElem?_getD, List.getElem?_eq_getElem (by simpa using hi)]; rfl
  · rw [List.getElem?_eq_none (by simpa using hi), List.getElem?_eq_none (by simpa using hi)]; rfl
section
variable {prog : Program} {w : World} {A : Around} {E : Value → Shared → Prop} {s : Shared}
theorem sliceApplied_rev {sl : Addr} {n : Nat} {u : Tok} {Q : Int × Int × Nat → Shared → Prop} (hs : s.heap.IsSliceOf sl .none .none (.int (-1) u)) (h : Q ((n : Int) - 1, -1, n) s) : wpAny (model prog w) A (Builtin.Slice.sliceApplied (.ref sl) (pure (n : Int))) Q E s := by
  obtain ⟨os, hos, hcs, hds⟩ := id hs
  unfold Builtin.Slice.sliceApplied Builtin.Slice.sliceFields
  refine wpAny_bind (wpAny_bind (wpAny_field hos hds (x := .none) rfl (wpAny_bind (wpAny_field hos hds (x := .none) rfl (wpAny_bind (wpAny_field hos hds (x := .int (-1) u) rfl (wpAny_pure ?_)))))))
  refine wpAny_bind (slicePart_int ?_)
  show wpAny _ _ (if ((-1 : Int) == 0) = true then _ else _) _ _ s
  rw [if_neg (by decide)]
  refine wpAny_bind (slicePart_none (wpAny_bind (slicePart_none (wpAny_bind (wpAny_pure ?_)))))
  show wpAny _ _ (match Builtin.Slice.sliceAdjust none none (-1) (n : Int) with | (lo, hi) => pure (lo, (-1 : Int), Builtin.Slice.slicePlaces lo hi (-1))) _ _ s
  have e : Builtin.Slice.sliceAdjust none none (-1) (n : Int) = ((n : Int) - 1, -1) := by
    unfold Builtin.Slice.sliceAdjust
    simp
  rw [e]
  show wpAny _ _ (pure ((n : Int) - 1, (-1 : Int), Builtin.Slice.slicePlaces ((n : Int) - 1) (-1) (-1))) _ _ s
  have e2 : Builtin.Slice.slicePlaces ((n : Int) - 1) (-1) (-1) = n := by
    unfold Builtin.Slice.slicePlaces
    simp
    try split
    all_goals omega
  rw [e2]
  exact wpAny_pure h
theorem getItem_tuple_rev {t sl : Addr} {items : List Value} {u : Tok} {Q : Value → Shared → Prop} (ht : IsTup s.heap t items.toArray) (hs : s.heap.IsSliceOf sl .none .none (.int (-1) u))
    (h : Q (.ref s.heap.objs.size) { s with heap := s.heap.push { cls := .type "tuple", data := .seq items.reverse.toArray } })
    (hsz : items.length ≤ sizeLine) : wpAny (model prog w) A (getItem (.ref t) (.ref sl)) Q E s := by
  have htake : sizeOk (.seq items.reverse.toArray) := by
    show items.reverse.toArray.size ≤ sizeLine
    rw [List.size_toArray, List.length_reverse]; exact hsz
  obtain ⟨os, hos, hcs, hds⟩ := id hs
  have hTs : s.TypeIs (.ref sl) "slice" := ⟨os, hos, hcs⟩
  unfold getItem
  try with_reducible refine wpAny_holding ?_
  first | refine wpAny_bind (wpAny_pure ?_) | skip
  refine wpAny_bind (wpAny_sequenceKey ht.typeIs (by decide) ?_)
  refine wpAny_bind (wpAny_callSpecial?_slot (name := Str.ofString "__getitem__") ht.typeIs PyProof.Rows.slot_tuple_getitem
    (wpAny_call_entry PyProof.Rows.slot_tuple_getitem ht.typeIs entry_tuple_getitem ?_ (args_tuple_getitem _ _)))
  show wpAny _ _ (Builtin.Tuple.tupleItemsOf (.ref t) >>= _) _ _ s
  refine wpAny_bind (tupleItemsOf_ ht ?_)
  refine wpAny_bind (wpAny_typeOf hTs ?_)
  rw [if_pos (by decide)]
  refine wpAny_bind (sliceApplied_rev hs ?_)
  have hno : ¬ ((((items.toArray.size : Int) - 1) == 0 && (-1 : Int) == 1 && items.toArray.size == items.toArray.size) = true) := by
    intro q
    rw [Bool.and_eq_true, Bool.and_eq_true] at q
    exact absurd q.1.2 (by decide)
  show wpAny _ _ (if (((items.toArray.size : Int) - 1) == 0 && (-1 : Int) == 1 && items.toArray.size == items.toArray.size) = true then _ else _) _ _ s
  rw [if_neg hno]
  have e : (List.range items.toArray.size).filterMap (fun (m : Nat) => items.toArray[(((items.toArray.size : Int) - 1) + (m : Int) * (-1)).toNat]?) = items.reverse := by
    have := rev_pick items
    simpa using this
  rw [e]
  first
    | exact wpAny_bind (m := Builtin.Tuple.tupleExact _) (wpAny_newObj_type (wpAny_pure ⟨_, rfl, wpAny_pure h⟩) htake)
    | exact wpAny_bind (m := Builtin.Tuple.tupleExact _) (wpAny_newObj_type (wpAny_bind (wpAny_pure (wpAny_pure ⟨_, rfl, wpAny_pure h⟩))) htake)
    | exact wpAny_bind (wpAny_bind (m := Builtin.Tuple.tupleExact _) (wpAny_newObj_type (wpAny_pure (wpAny_pure ⟨_, rfl, wpAny_pure h⟩)) htake))
    | exact wpAny_bind (wpAny_bind (m := Builtin.Tuple.tupleExact _) (wpAny_newObj_type (wpAny_pure ⟨_, rfl, wpAny_pure h⟩) htake))
end
def qRevT (z : Bool) (K : PySem.W.Frag) (Q : VK) : VK := fun x H1 => ∃ a xs, x = .ref a ∧ SqT K H1 a xs ∧ ∀ l (o : Obj), H1 l = none → o.dict = none → Q (.ref l) (upd H1 l (hoZ z o xs.reverse))
def qStepT (z : Bool) (K : PySem.W.Frag) (Q : VK) (x : V) (l u o : Option Int) (H1 : Hp) : Prop := l = none ∧ u = none ∧ o = some (-1) ∧ qRevT z K Q x H1
def tStepT (z : Bool) (K : PySem.W.Frag) (te : TE) (tl tu ts : TO) : TE := fun σ H Q => te σ H fun x H1 => tl σ H1 fun l H2 => tu σ H2 fun u H3 => ts σ H3 fun o H4 => qStepT z K Q x l u o H4
theorem pe_stepT {X : Cx} {K : PySem.W.Frag} {e st : Expr} {lo hi : Option Expr} {te : TE} {tl tu ts : TO} {p2 pos : Pos} (z : Bool) (hK : X.K = K) (he : PE X e te) (hl : PO X lo tl) (hu : PO X hi tu) (hst : PO X (some st) ts) : PE X (.Subscript e (.Slice lo hi (some st) p2) pos) (tStepT z K te tl tu ts) := by
  subst hK
  refine ⟨fun pins s σ H Q I h => ?_⟩
  refine PyProof.Rows.Subscript_ (thn (he.run pins s σ H _ I h) fun v s1 ⟨x, H1, I1, r1, q1⟩ => ?_)
  refine wpAny_Slice (thn (hl.run pins s1 σ H1 _ I1 q1) fun vl s2 ⟨l, H2, I2, pl, q2⟩ => thn (hu.run pins s2 σ H2 _ I2 q2) fun vu s3 ⟨u, H3, I3, pu, q3⟩ => ?_)
  refine thn (hst.run pins s3 σ H3 _ I3 q3) fun vs s4 ⟨o, H4, I4, ps, el, eu, eo, a, xs, ex, hx, q⟩ => ?_
  subst ex eo el eu
  obtain rfl : v = Value.ref a := r1
  cases pl
  cases pu
  cases ps with
  | int i t =>
  have I5 : Inv X pins σ H4 { s4 with heap := s4.heap.push { cls := .type "slice", data := .fields #[.none, .none, .int (-1) t] } } := I4.kept (t' := s4.toks) fun b ob q => Heap.get?_push_of_some _ q
  obtain ⟨its, r, ht, hz⟩ := I5.tuple hx
  have hlen := r.length
  show wpAny (model X.prog X.w) X.A (PyProof.Rows.subscriptTail e (.Slice lo hi (some st) p2) (.ref a) (.ref s4.heap.objs.size)) (EP X pins σ Q) X.xe { s4 with heap := s4.heap.push { cls := .type "slice", data := .fields #[.none, .none, .int (-1) t] } }
  refine PyProof.Rows.tail_any (ops := [.ref a, .ref s4.heap.objs.size]) ht.typeIs (PyProof.Rows.slot_tuple_getitem.lookup) ?_ (by with_unfolding_all rfl)
  refine getItem_tuple_rev ht (Heap.IsSliceOf.new _ _ _ _) ?_ (by omega)
  have hl2 : xs.reverse.length ≤ sizeLine := by rw [List.length_reverse]; exact hz
  have rv : Vals xs.reverse its.reverse := pd_rev r
  let tu : Obj := { cls := .type "tuple", data := .seq its.reverse.toArray }
  have at0 : ∀ h : Heap, (h.push tu).get? h.objs.size = some tu := fun h => Heap.get?_push_size h rfl
  refine ⟨.ref _, _, I5.laid (t' := s4.toks) (o := hoZ z tu xs.reverse) (fun b ob q => Heap.get?_push_of_some _ q) (Nat.le_refl _) ?_, rfl, q _ tu (I5.hok.fresh (Nat.le_refl _)) rfl⟩
  cases z with
  | true => exact ⟨at0 _, hl2, _, rv, IsTup.new _ _⟩
  | false => exact ⟨hl2, _, rv, IsTup.new _ _⟩
section
variable {α : Type} {t : Rp α} {K : PySem.W.Frag} {F H : Hp} {p : Addr} {vs : List V} {xs : List α} {Q : VK} {o : Obj} {te : TE} {tl tu ts : TO} {σ : L2.St} {z : Bool}
theorem n_stepT (h : te σ H fun x H1 => tl σ H1 fun l H2 => tu σ H2 fun u H3 => ts σ H3 fun o H4 => qStepT z K Q x l u o H4) : tStepT z K te tl tu ts σ H Q := h
theorem v_revTup (hs : Sub F H) (hq : SqT K H p vs) (hr : Al t F vs xs) (k : ∀ p' ws F' H', Gr [] F H F' H' → F' p' = some (.tup ws) → Al t F' ws xs.reverse → Q (.ref p') H') : qStepT false K Q (.ref p) none none (some (-1)) H :=
  ⟨rfl, rfl, rfl, p, vs, rfl, hq, fun l o hl ho => k l _ _ _ (gr_newF hs hl) upd_same (Al.mono (pd_rev hr) (Sub.up1 (hs.nn hl)))⟩
theorem v_revTupZ (hs : Sub F H) (hq : SqT K H p vs) (hr : Al t F vs xs) (k : ∀ p' (o : Obj) ws F' H', Gr [] F H F' H' → F' p' = some (.frz o (.tup ws)) → o.dict = none → Al t F' ws xs.reverse → Q (.ref p') H') : qStepT true K Q (.ref p) none none (some (-1)) H :=
  ⟨rfl, rfl, rfl, p, vs, rfl, hq, fun l o hl ho => k l o _ _ _ (gr_newF hs hl) upd_same ho (Al.mono (pd_rev hr) (Sub.up1 (hs.nn hl)))⟩
end
end U
set_option Elab.async false
set_option linter.all false
set_option maxRecDepth 100000
set_option maxHeartbeats 4000000
/-! ### str(t), t a tuple or a list -/
namespace U
open PySem PySem.Spec PyProof.Rows L2
def qStrA : RCl := fun xs H Q => ∃ v x, xs = [v] ∧ RA H v x ∧ x.seqM.isSome = true ∧ reprB x.pd = true ∧ Q (.str x.pd.shown) H
theorem c_strA {X : Cx} {k : Nat} (hS : SysK X.K) (hg : X.A.guards = some []) (hr : Room k X.A) : CallR X (.type "str") qStrA := by
  intro pins s σ H xs us Q I rv ⟨v, x, e, hd, hq, hb, q⟩
  subst e
  obtain ⟨u, rfl, r⟩ := vals1 rv
  obtain ⟨as, rd, hn⟩ := RA.reads I hS x _ _ hd r
  unfold reprB at hb
  rw [Bool.and_eq_true] at hb
  obtain ⟨h1, h2⟩ := hb
  have h3 := of_decide_eq_true h2
  have hz : x.pd.shown.length ≤ sizeLine := by rw [sizeLine_eq]; exact h3.2
  have hu := hr.un
  cases hd with
  | tup _ _ =>
    cases r
    exact PySem.str_of_reads rd h1 (fun _ => hn) hg (by omega) (fun _ _ e => e) (fun h' u tk hk => ⟨.str _, H, I.kept hk, ⟨u, rfl⟩, q⟩) hz
  | lst _ _ =>
    cases r
    exact PySem.str_of_reads rd h1 (fun _ => hn) hg (by omega) (fun _ _ e => e) (fun h' u tk hk => ⟨.str _, H, I.kept hk, ⟨u, rfl⟩, q⟩) hz
  | _ => cases hq
theorem v_strA {F H : Hp} {v : V} {x : An} {Q : VK} {r : Sg} (hs : Sub F H) (hr : RA F v x) (hq : x.seqM.isSome = true) (h : reprM x.pd = some r) (k : Q (.str (S r)) H) : qStrA [v] H Q := by
  obtain ⟨h1, rfl⟩ := need_ok h
  exact ⟨v, x, rfl, hr.mono hs, hq, h1, k⟩

/-! ### s[::-1] -/
theorem rev_range (n : Nat) : sliceRange ((n : Int) - 1) (-1) (-1) = (List.range n).map fun k => n - 1 - k := by
  unfold sliceRange
  rw [if_neg (by decide)]
  have e : (if (n : Int) - 1 > -1 then ((n : Int) - 1 - (-1) - (-1) - 1) / (-(-1)) else 0).toNat = n := by
    by_cases h : n = 0
    · subst h; rfl
    · rw [if_pos (by omega)]
      have : ((n : Int) - 1 - (-1) - (-1) - 1) / (-(-1)) = n := by
        rw [show (-(-1) : Int) = 1 by decide, Int.ediv_one]; omega
      rw [this]; simp
  show (List.range (if (n : Int) - 1 > -1 then ((n : Int) - 1 - (-1) - (-1) - 1) / (-(-1)) else 0).toNat).map _ = _
  rw [e]
  exact List.map_congr_left fun k hk => by
    have := List.mem_range.mp hk
    omega
def qStepS (Q : VK) (x : V) (l u o : Option Int) (H1 : Hp) : Prop := l = none ∧ u = none ∧ o = some (-1) ∧ ∃ s : Sg, x = .str (S s) ∧ s.length ≤ sizeLine ∧ Q (.str (S s.reverse)) H1
def tStepS (te : TE) (tl tu ts : TO) : TE := fun σ H Q => te σ H fun x H1 => tl σ H1 fun l H2 => tu σ H2 fun u H3 => ts σ H3 fun o H4 => qStepS Q x l u o H4
theorem pe_stepS {X : Cx} {e st : Expr} {lo hi : Option Expr} {te : TE} {tl tu ts : TO} {p2 pos : Pos} (he : PE X e te) (hl : PO X lo tl) (hu : PO X hi tu) (hst : PO X (some st) ts) : PE X (.Subscript e (.Slice lo hi (some st) p2) pos) (tStepS te tl tu ts) := by
  refine ⟨fun pins s σ H Q I h => ?_⟩
  refine PyProof.Rows.Subscript_ (thn (he.run pins s σ H _ I h) fun v s1 ⟨x, H1, I1, r1, q1⟩ => ?_)
  refine wpAny_Slice (thn (hl.run pins s1 σ H1 _ I1 q1) fun vl s2 ⟨l, H2, I2, pl, q2⟩ => thn (hu.run pins s2 σ H2 _ I2 q2) fun vu s3 ⟨u, H3, I3, pu, q3⟩ => ?_)
  refine thn (hst.run pins s3 σ H3 _ I3 q3) fun vs s4 ⟨o, H4, I4, ps, el, eu, eo, z, ex, hz, q⟩ => ?_
  subst ex eo el eu
  obtain ⟨t, rfl⟩ := r1
  cases pl
  cases pu
  cases ps with
  | int i tk =>
  have I5 : Inv X pins σ H4 { s4 with heap := s4.heap.push { cls := .type "slice", data := .fields #[.none, .none, .int (-1) tk] } } := I4.kept (t' := s4.toks) fun b ob q => Heap.get?_push_of_some _ q
  show wpAny (model X.prog X.w) X.A (PyProof.Rows.subscriptTail e (.Slice lo hi (some st) p2) (.str (S z) t) (.ref s4.heap.objs.size)) (EP X pins σ Q) X.xe { s4 with heap := s4.heap.push { cls := .type "slice", data := .fields #[.none, .none, .int (-1) tk] } }
  refine PyProof.Rows.tail_any (ops := [.str (S z) t, .ref s4.heap.objs.size]) (typeIs_str _ _ _) (F.slot_str_getitem.lookup) ?_ (by with_unfolding_all rfl)
  obtain ⟨os, hos, hcs, hds⟩ := Heap.IsSliceOf.new s4.heap (.none) (.none) (.int (-1) tk)
  refine wpAny_getItem_str_slice (l := none) (u := none) (st := some (-1, tk)) ⟨os, hos, hcs, hds⟩ rfl ?_
  have e1 : (⟨((Builtin.Str.strSliceIndices none none (-1) (S z).length).filterMap ((S z).cps[·]?)).toArray⟩ : Str) = S z.reverse := by
    have e2 : Builtin.Str.strSliceIndices none none (-1) (S z).length = (List.range z.length).map fun k => z.length - 1 - k := by
      have e3 : (S z).length = z.length := by simp [Str.length]
      rw [e3]
      show sliceRange (if (-1 : Int) > 0 then 0 else (z.length : Int) - 1) (if (-1 : Int) > 0 then (z.length : Int) else -1) (-1) = _
      rw [if_neg (by decide), if_neg (by decide)]
      exact rev_range z.length
    rw [e2, List.filterMap_map]
    have e4 : (List.range z.length).filterMap (((S z).cps[·]?) ∘ fun k => z.length - 1 - k) = z.reverse := by
      have key : ∀ l : List Nat, (∀ m ∈ l, m < z.length) → l.filterMap (((S z).cps[·]?) ∘ fun k => z.length - 1 - k) = l.map fun m => z.reverse.getD m 0 := by
        intro l
        induction l with
        | nil => intro _; rfl
        | cons a r ih =>
          intro hl
          have ha := hl a List.mem_cons_self
          have e5 : (((S z).cps[·]?) ∘ fun k => z.length - 1 - k) a = some (z.reverse.getD a 0) := by
            show z.toArray[z.length - 1 - a]? = _
            rw [List.getElem?_toArray, List.getD_eq_getElem?_getD, List.getElem?_reverse ha, List.getElem?_eq_getElem (by omega)]; rfl
          rw [List.filterMap_cons, e5, ih fun m hm => hl m (List.mem_cons_of_mem _ hm)]; rfl
      rw [key _ fun m hm => List.mem_range.mp hm]
      apply List.ext_getElem?
      intro i
      rw [List.getElem?_map]
      by_cases hi : i < z.length
      · rw [List.getElem?_range hi, List.getElem?_eq_getElem (by simpa using hi)]
        show some (z.reverse.getD i 0) = _
        rw [List.getD_eq_getElem?_getD, List.getElem?_eq_getElem (by simpa using hi)]; rfl
      · rw [List.getElem?_eq_none (by simpa using hi), List.getElem?_eq_none (by simpa using hi)]; rfl
    rw [e4]
  show Made.post (if ((-1 : Int) == 1 && (Builtin.Str.strSliceIndices none none (-1) (S z).length).length == (S z).length) = true then Made.val (.str (S z) t)
    else Made.str ⟨((Builtin.Str.strSliceIndices none none (-1) (S z).length).filterMap ((S z).cps[·]?)).toArray⟩) (EP X pins σ Q) _
  rw [if_neg (by simp), e1]
  exact ⟨by simpa [Str.length] using hz, .str _, H4, I5.tok _, ⟨_, rfl⟩, q⟩
section
variable {σ : L2.St} {H : Hp} {Q : VK} {te : TE} {tl tu ts : TO} {s : Sg}
theorem n_stepS (h : te σ H fun x H1 => tl σ H1 fun l H2 => tu σ H2 fun u H3 => ts σ H3 fun o H4 => qStepS Q x l u o H4) : tStepS te tl tu ts σ H Q := h
theorem v_revS (hl : s.length ≤ sizeLine) (k : Q (.str (S s.reverse)) H) : qStepS Q (.str (S s)) none none (some (-1)) H := ⟨rfl, rfl, rfl, s, rfl, hl, k⟩
theorem rev_le (hl : s.length ≤ sizeLine) : s.reverse.length ≤ sizeLine := by rw [List.length_reverse]; exact hl
end
end U
set_option Elab.async false
set_option linter.all false
set_option maxRecDepth 100000
set_option maxHeartbeats 4000000
/-! ### sum of a tuple of ints; pairs and triples as tuples of any -/
namespace U
open PySem PySem.Spec PySem.Calls PyProof.Rows PyProof.V L2
section
variable {prog : Program} {w : World} {A : Around} {E : Value → Shared → Prop} {s : Shared} {t : Addr}
theorem sum_tupG {xs : Array (Int × Tok)} {Q : Value → Shared → Prop} (hh : A.handled = none) (ht : s.heap.IsTuple t (intItems xs))
    (h : ∀ h' tk t', (∀ b o, s.heap.get? b = some o → h'.get? b = some o) → Q (.int (preSum (numAt xs) xs.size) t') { s with heap := h', toks := tk }) :
    wpAny (model prog w) A (call (.builtin "sum") [.ref t]) Q E s := by
  obtain ⟨o, ho, hc, n, hd⟩ := id ht
  have hne : t ≠ s.heap.objs.size := Nat.ne_of_lt (Heap.lt_size ho)
  have hsz : (intItems xs).size = xs.size := by simp [intItems]
  have W := (Walks.tuple (prog := prog) (w := w) (A := A.in1) hh s.heap.objs.size t hne (intItems xs)).toS
  rw [hsz] at W
  refine call_sum_walkAnyS (wpAny_pyIter_tuple ht ?_)
  refine ⟨s.heap.objs.size, _, _, _, _, _, _, numAt xs, rfl, W, ⟨⟨_, Heap.get?_push_size _ rfl, rfl, rfl⟩, ht.at fun o e => Heap.get?_push_of_some _ e⟩, fun b hb => ?_, fun i v hP => intItems_at hP, fun s' t' hm => ?_⟩
  · rcases List.mem_cons.mp hb with rfl | hb
    · exact Heap.lt_size (Heap.get?_push_size _ rfl)
    · obtain rfl := List.mem_singleton.mp hb
      exact Heap.lt_size (Heap.get?_push_of_some _ ho)
  · obtain ⟨h', g', d', tk', os'⟩ := s'
    have e1 : g' = s.gens := hm.gens
    have e2 : d' = s.drawn := hm.drawn
    have e3 : os' = s.os := hm.os
    subst e1 e2 e3
    exact h h' tk' t' fun b o e => hm.heap b o (fun hb => absurd (Heap.lt_size e) ((List.mem_singleton.mp hb) ▸ Nat.lt_irrefl _)) (Heap.get?_push_of_some _ e)
theorem sum_tupR {its : List Value} {ns : List Int} {Q : Value → Shared → Prop} (hh : A.handled = none) (hl : s.heap.IsTuple t its.toArray) (hi : IntsAre its ns)
    (h : ∀ h' tk t', (∀ b o, s.heap.get? b = some o → h'.get? b = some o) → Q (.int ns.sum t') { s with heap := h', toks := tk }) : wpAny (model prog w) A (call (.builtin "sum") [.ref t]) Q E s := by
  obtain ⟨xs, e⟩ := hi.allInts.items
  have hn : numsOf (intItems xs).toList = ns := by rw [← e]; exact hi.numsOf
  rw [nums_intItems] at hn
  rw [e] at hl
  refine sum_tupG hh hl fun h' tk t' hk => ?_
  have := h h' tk t' hk
  rw [preSum_eq, List.take_of_length_le (by simp), hn]; exact this
end
section
variable {X : Cx} {K : PySem.W.Frag} {F H : Hp} {p : Addr} {vs : List V} {xs : List Int} {Q : VK} {v : V}
def qSumT (K : PySem.W.Frag) : RCl := fun vs H Q => ∃ (a : Addr) (ns : List Int), vs = [V.ref a] ∧ SqT K H a (ns.map V.int) ∧ Q (.int ns.sum) H
theorem c_sumT (hK : X.K = K) (hc : X.calm = true) : CallR X (.builtin "sum") (qSumT K) := by
  subst hK
  intro pins s σ H vs us Q I r h
  obtain ⟨a, ns, rfl, hs, q⟩ := h
  obtain ⟨its, rv, hl, _⟩ := I.tuple hs
  rw [Vals.ref1 r]
  exact sum_tupR (I.ok.hd hc) hl rv.ints fun h' tk t' hk => ⟨.int _, H, I.kept hk, ⟨_, rfl⟩, q⟩
theorem v_sumT (hq : SqT K H p vs) (hr : Al eI F vs xs) (k : Q (.int xs.sum) H) : qSumT K [.ref p] H Q := by
  have e := al_int hr
  subst e
  exact ⟨p, xs, rfl, hq, k⟩
end
theorem n_beta {Q : VK} {v : V} {H : Hp} (h : Q v H) : Q v H := h
section
variable {α β γ : Type} {a : Rp α} {b : Rp β} {c : Rp γ} {F : Hp} {v : V}
theorem p2_any (A : Td a) (B : Td b) {x : α × β} (h : (eP2 a b).r F v x) : (eT eA).r F v [A.d x.1, B.d x.2] := by
  obtain ⟨p, y, z, rfl, hp, h1, h2⟩ := h
  exact ⟨p, [y, z], rfl, hp, .cons (A.ok h1) (.cons (B.ok h2) .nil)⟩
theorem p3_any (A : Td a) (B : Td b) (C : Td c) {x : α × β × γ} (h : (eP3 a b c).r F v x) : (eT eA).r F v [A.d x.1, B.d x.2.1, C.d x.2.2] := by
  obtain ⟨p, y, z, w, rfl, hp, h1, h2, h3⟩ := h
  exact ⟨p, [y, z, w], rfl, hp, .cons (A.ok h1) (.cons (B.ok h2) (.cons (C.ok h3) .nil))⟩
end
/-! text.find -/
theorem find_3 (a b : Str) : Txt.find a b = Txt.find3 a b 0 := by
  unfold Txt.find Txt.find3
  have : fromIndex a.length 0 = 0 := by
    unfold PySem.fromIndex
    rw [if_neg (by decide)]
    simp
  rw [this]
  generalize PySem.Builtin.Str.occurrences a b 0 a.length 1 = l
  cases l <;> rfl
def qFind1 : RMt := fun x xs H Q => ∃ (a b : Str), x = .str a ∧ xs = [.str b] ∧ Q (.int (Txt.find3 a b 0)) H
theorem c_find1 {X : Cx} : MtR X "str.find" qFind1 := by
  have h := mt_find (X := X)
  have e : qFind1 = fun x xs H Q => ∃ a b, x = .str a ∧ xs = [.str b] ∧ Q (.int (Txt.find a b)) H := by
    funext x xs H Q
    unfold qFind1
    simp only [find_3]
  rw [e]; exact h
theorem v_find1 {H : Hp} {Q : VK} {a b : Sg} (k : Q (.int (findS a b 0)) H) : qFind1 (.str (S a)) [.str (S b)] H Q := ⟨S a, S b, rfl, rfl, k⟩
theorem findS_bd {a : Sg} {c : Nat} : -1 ≤ findS a [c] 0 ∧ findS a [c] 0 < max 1 (a.length : Int) := by
  have hl : (S a).length = a.length := by simp [Str.length]
  unfold findS
  rcases PySem.StrLaws.find3_spec (S a) c 0 with ⟨e, _⟩ | ⟨m, e, _, m2, _⟩
  · have e : Txt.find3 (S a) (S [c]) 0 = -1 := e
    rw [e]; omega
  · have e : Txt.find3 (S a) (S [c]) 0 = m := e
    rw [hl] at m2
    rw [e]; omega
/-! a list of numbers as one of numbers or none; a triple's end -/
theorem al_some {F : Hp} {vs : List V} {xs : List Int} (h : Al eI F vs xs) : Al (eO eI) F vs (xs.map some) := by
  induction h with
  | nil => exact .nil
  | cons r _ ih =>
    refine .cons ⟨?_, r⟩ ih
    rw [show _ = V.int _ from r]
    exact fun z => nomatch z
theorem eL_some {F : Hp} {v : V} {xs : List Int} (h : (eL eI).r F v xs) : (eL (eO eI)).r F v (xs.map some) := by
  obtain ⟨p, vs, e, q, al⟩ := h
  exact ⟨p, vs, e, q, al_some al⟩
theorem v_sl3 {α β : Type} {a : Rp α} {b : Rp β} {K : PySem.W.Frag} {F H : Hp} {Q : VK} {v : V} {m : α × β × β} (hs : Sub F H) (h : (eP3 a b b).r F v m) (k : ∀ p' us F' H', Gr [] F H F' H' → F' p' = some (.tup us) → Al b F' us [m.2.1, m.2.2] → Q (.ref p') H') : rSlA K v (some 1) none H Q := by
  obtain ⟨p, x, y, z, rfl, hp, h1, h2, h3⟩ := h
  refine ⟨p, _, rfl, .inl (.inl (hs _ _ hp)), fun e => ?_, fun _ p' hl => ?_⟩
  · exact absurd (show HT.sIx 3 0 (some 1) = 0 from e.1) (by decide)
  · exact k p' (cutV [x, y, z] (some 1) none) _ _ (gr_newF hs hl) upd_same (.cons (b.mono (Sub.up1 (hs.nn hl)) h2) (.cons (b.mono (Sub.up1 (hs.nn hl)) h3) .nil))
end U
set_option Elab.async false
set_option linter.all false
set_option maxRecDepth 100000
set_option maxHeartbeats 4000000
/-! ### list(text) -/
namespace U
open PySem PySem.Spec PyProof.Rows L2
def qListS : RCl := fun xs H Q => ∃ a : Sg, xs = [.str (S a)] ∧ a.length ≤ sizeLine ∧ ∀ l, H l = none → Q (.ref l) (upd H l (.lst (a.map fun c => V.str (S [c]))))
theorem signs_at : ∀ {a : Sg} {us : List Value}, us.length = a.length → (∀ (j : Nat) (v : Value), us[j]? = some v → ∃ c u, a[j]? = some c ∧ v = .str (S [c]) u) → Vals (a.map fun c => V.str (S [c])) us
  | [], [], _, _ => .nil
  | c :: a, u :: us, hl, h => by
    obtain ⟨c', t, e1, e2⟩ := h 0 u rfl
    have e1 : c = c' := Option.some.inj e1
    subst e1
    rw [List.map_cons]
    exact .cons ⟨t, e2⟩ (signs_at (by simpa using hl) fun j v e => h (j + 1) v (by rw [List.getElem?_cons_succ]; exact e))
theorem c_listS {X : Cx} (hc : X.calm = true) : CallR X (.type "list") qListS := by
  intro pins s σ H xs us Q I r ⟨a, ex, hz, q⟩
  subst ex
  obtain ⟨u, eu, rx⟩ := vals1 r
  subst eu
  obtain ⟨t, rfl⟩ := rx
  have hs : (S a).cps.size = a.length := by simp
  refine call_list_str (I.ok.hd hc) (S a) t (fun h' tk acc c' hk hS hacc => ?_) (by rw [hs]; exact hz)
  have hv : Vals (a.map fun c => V.str (S [c])) acc.toList := signs_at (by rw [Array.length_toList, hacc.1, hs]) fun j v e => by
    obtain ⟨c, u, e1, e2⟩ := hacc.2 j v (by rw [← Array.getElem?_toList]; exact e)
    refine ⟨c, u, ?_, e2⟩
    rw [← e1]; simp
  exact ⟨.ref s.heap.objs.size, upd H s.heap.objs.size (.lst (a.map fun c => V.str (S [c]))), I.laid (t' := tk) hk (Nat.le_refl _)
    (show ObjOk X.prog X.w _ _ _ (.lst (a.map fun c => V.str (S [c]))) from ⟨by rw [List.length_map]; exact hz, acc.toList, c', hv, by rw [Array.toArray_toList]; exact hS⟩), rfl, q _ (I.hok.fresh (Nat.le_refl _))⟩
section
variable {F H : Hp} {Q : VK} {a : Sg}
theorem al_signs {F : Hp} : ∀ a : Sg, Al eS F (a.map fun c => V.str (S [c])) (signs a)
  | [] => .nil
  | c :: a => .cons ⟨rfl, by show [c].length ≤ _; rw [sizeLine_eq]; simp⟩ (al_signs a)
theorem v_listSF (hs : Sub F H) (hl : a.length ≤ sizeLine) (k : ∀ p vs F' H', Gr [] F H F' H' → F' p = some (.lst vs) → Al eS F' vs (signs a) → Q (.ref p) H') : qListS [.str (S a)] H Q :=
  ⟨a, rfl, hl, fun l h => k l _ _ _ (gr_newF hs h) upd_same (al_signs a)⟩
end
end U
set_option Elab.async false
set_option linter.all false
set_option maxRecDepth 100000
set_option maxHeartbeats 4000000
namespace U
open PySem PySem.Spec L2
/-! ### plain: what a mirror gives -/
section
variable {α β σ ρ : Type} {P Q : α → Prop} {R : β → Prop} {x : Option α} {f : α → Option β} {a : α}
def Ret (x : Option α) (P : α → Prop) : Prop := ∃ a, x = some a ∧ P a
theorem Ret.pure (h : P a) : Ret (some a) P := ⟨a, rfl, h⟩
theorem Ret.bind (h : Ret x P) (k : ∀ a, P a → Ret (f a) R) : Ret (x.bind f) R := by
  obtain ⟨a, rfl, p⟩ := h
  exact k a p
theorem Ret.mono (h : Ret x P) (k : ∀ a, P a → Q a) : Ret x Q := by
  obtain ⟨a, e, p⟩ := h
  exact ⟨a, e, k a p⟩
theorem Ret.eq (h : x = some a) (k : Ret (f a) R) : Ret (x.bind f) R := by subst h; exact k
theorem Ret.of (h : x = some a) (p : P a) : Ret x P := ⟨a, h, p⟩
theorem Ret.val {b : α} (h : Ret x P) (k : ∀ a, P a → a = b) : x = some b := by
  obtain ⟨a, e, p⟩ := h
  rw [e, k a p]
theorem ret_need {c : Bool} (h : c = true) (k : Ret (f a) R) : Ret ((need c a).bind f) R := by subst h; exact k
theorem need_eq {c : Bool} (h : c = true) : need c a = some a := by subst h; rfl
theorem Ret.ite {c : Bool} {x y : Option α} (h1 : c = true → Ret x P) (h2 : c = false → Ret y P) : Ret (if c = true then x else y) P := by
  cases c with
  | true => rw [if_pos rfl]; exact h1 rfl
  | false => rw [if_neg Bool.false_ne_true]; exact h2 rfl
theorem atI_of {xs : List α} {i : Int} {a : α} (h0 : 0 ≤ i) (h : xs[i.toNat]? = some a) : atI xs i = some a := by
  have := atI_nat h
  rw [show ((i.toNat : Nat) : Int) = i by omega] at this
  exact this
theorem atI_lt {xs : List α} {i : Int} (h0 : 0 ≤ i) (h : i < xs.length) : atI xs i = some (xs[i.toNat]'(by omega)) := atI_of h0 (List.getElem?_eq_getElem (by omega))
theorem ret_at {xs : List α} {i : Int} (h0 : 0 ≤ i) (h : i < xs.length) : Ret (atI xs i) (fun a => xs[i.toNat]? = some a) := ⟨_, atI_lt h0 h, List.getElem?_eq_getElem (by omega)⟩
theorem atI_neg {xs : List α} {i : Int} (h0 : i < 0) (h : -(xs.length : Int) ≤ i) : atI xs i = xs[(i + xs.length).toNat]? := by
  unfold atI ixN
  rw [if_neg (by omega), if_pos h]
  rfl
theorem ixN_of {n : Nat} {i : Int} (h0 : 0 ≤ i) (h : i < n) : ixN n i = some i.toNat := by
  unfold ixN
  rw [if_pos h0, if_pos h]
theorem setM_of {xs : List α} {i : Int} {a : α} (h0 : 0 ≤ i) (h : i < xs.length) : setM xs i a = some (xs.set i.toNat a) := by
  unfold setM
  rw [ixN_of h0 h]; rfl
theorem szB_of {n : Nat} (h : n ≤ 16777216) : szB n = true := decide_eq_true h
theorem snocM_of {xs : List α} {a : α} (h : xs.length < 16777216) : snocM xs a = some (xs ++ [a]) := need_eq (decide_eq_true h)
theorem catLM_of {xs ys : List α} (h : xs.length + ys.length ≤ 16777216) : catLM xs ys = some (xs ++ ys) := need_eq (szB_of h)
theorem catM_of {xs ys : Sg} (h : xs.length + ys.length ≤ 16777216) : catM xs ys = some (xs ++ ys) := need_eq (szB_of h)
theorem modM_of {i j : Int} (h : 0 < j) : modM i j = some (i % j) := need_eq (decide_eq_true h)
theorem divM_of {i j : Int} (h : 0 < j) (h2 : j < 1073741824) : divM i j = some (i / j) := need_eq (decide_eq_true ⟨h, h2⟩)
theorem mulM_of {i j : Int} (h : (-(2 ^ 64) < i ∧ i < 2 ^ 64) ∨ (-(2 ^ 64) < j ∧ j < 2 ^ 64)) : mulM i j = some (i * j) := by
  refine need_eq ?_
  unfold mulB
  rcases h with h | h
  · rw [decide_eq_true h]; rfl
  · rw [decide_eq_true h, Bool.or_true]
theorem uptoM_of {lo hi : Int} (h1 : -(2 ^ 62) ≤ lo) (h2 : lo < 2 ^ 62) (h3 : -(2 ^ 62) ≤ hi) (h4 : hi < 2 ^ 62) : uptoM lo hi = some (upto lo hi) := by
  refine need_eq ?_
  unfold rngB
  rw [decide_eq_true ⟨h1, h2⟩, decide_eq_true ⟨h3, h4⟩]; rfl
theorem upto_get {lo hi : Int} {i : Nat} {a : Int} (h : (upto lo hi)[i]? = some a) : a = lo + i ∧ lo + i < hi := by
  unfold upto at h
  rw [List.getElem?_map] at h
  cases e : (List.range (hi - lo).toNat)[i]? with
  | none => rw [e] at h; cases h
  | some j =>
    rw [e] at h
    obtain ⟨h1, h2⟩ := List.getElem?_eq_some_iff.mp e
    rw [List.length_range] at h1
    have ej : j = i := by simpa using h2.symm
    subst ej
    have e3 : lo + (j : Int) = a := Option.some.inj h
    exact ⟨e3.symm, by omega⟩
theorem upto_mem {lo hi a : Int} (h : a ∈ upto lo hi) : lo ≤ a ∧ a < hi := by
  obtain ⟨i, hi'⟩ := List.getElem?_of_mem h
  have := upto_get hi'
  omega
theorem mx_eq (i j : Int) : mx i j = max i j := by unfold mx; split <;> omega
theorem mn_eq (i j : Int) : mn i j = min i j := by unfold mn; split <;> omega
theorem ret_foldO {xs : List α} {s : σ} {f : σ → α → Option σ} (I : Nat → σ → Prop) (h0 : I 0 s) (step : ∀ i s x, xs[i]? = some x → I i s → Ret (f s x) (I (i + 1))) : Ret (foldO xs s f) (I xs.length) := by
  induction xs generalizing s I with
  | nil => exact ⟨s, rfl, h0⟩
  | cons x xs ih =>
    obtain ⟨s', e, h1⟩ := step 0 s x rfl h0
    have := ih (s := s') (fun i => I (i + 1)) h1 fun i s y hy hi => step (i + 1) s y (by simpa using hy) hi
    obtain ⟨z, e2, h2⟩ := this
    refine ⟨z, ?_, by simpa using h2⟩
    show (f s x).bind _ = _
    rw [e]; exact e2
theorem ret_foldR {xs : List α} {s : σ} {f : σ → α → Option (Fl σ ρ)} (I : Nat → σ → Prop) (h0 : I 0 s) (step : ∀ i s x, xs[i]? = some x → I i s → Ret (f s x) (fun z => ∃ s', z = .nx s' ∧ I (i + 1) s')) :
    Ret (foldR xs s f) (fun z => ∃ s', z = .nx s' ∧ I xs.length s') := by
  induction xs generalizing s I with
  | nil => exact ⟨_, rfl, s, rfl, h0⟩
  | cons x xs ih =>
    obtain ⟨_, e, s', rfl, h1⟩ := step 0 s x rfl h0
    have := ih (s := s') (fun i => I (i + 1)) h1 fun i s y hy hi => step (i + 1) s y (by simpa using hy) hi
    obtain ⟨z, e2, h2⟩ := this
    refine ⟨z, ?_, by simpa using h2⟩
    show (f s x).bind _ = _
    rw [e]; exact e2
theorem ret_whileO {n : Nat} {s : σ} {c : σ → Option Bool} {b : σ → Option σ} (I : σ → Prop) (μ : σ → Nat) (h0 : I s) (hn : μ s < n)
    (step : ∀ s, I s → Ret (c s) (fun t => t = true → Ret (b s) (fun s' => I s' ∧ μ s' < μ s))) : Ret (whileO n s c b) (fun s => I s ∧ c s = some false) := by
  induction n generalizing s with
  | zero => omega
  | succ n ih =>
    obtain ⟨t, e, h⟩ := step s h0
    unfold whileO
    rw [e]
    cases t with
    | false => exact ⟨s, rfl, h0, e⟩
    | true =>
      obtain ⟨s', e2, h1, h2⟩ := h rfl
      show Ret ((b s).bind _) _
      rw [e2]
      exact ih h1 (by omega)
theorem compS_of {xs : List α} {f : α → Option (Option β)} (g : α → Option β) (h : ∀ x ∈ xs, f x = some (g x)) : compS xs f = some (xs.filterMap g) := by
  induction xs with
  | nil => rfl
  | cons x xs ih =>
    show (f x).bind _ = _
    rw [h x (by simp)]
    show (compS xs f).bind _ = _
    rw [ih fun y hy => h y (by simp [hy])]
    show some _ = some _
    rw [List.filterMap_cons]
    cases g x <;> rfl
theorem compS_map {xs : List α} {f : α → Option (Option β)} (g : α → β) (h : ∀ x ∈ xs, f x = some (some (g x))) : compS xs f = some (xs.map g) := by
  rw [compS_of (fun x => some (g x)) h]
  congr 1
  rw [List.filterMap_eq_map']
/-- items made one by one, each with a property -/
theorem ret_compS {xs : List α} {f : α → Option (Option β)} (P : β → Prop) (h : ∀ x ∈ xs, Ret (f x) (fun r => ∃ y, r = some y ∧ P y)) : Ret (compS xs f) (fun ys => ys.length = xs.length ∧ ∀ y ∈ ys, P y) := by
  induction xs with
  | nil => exact ⟨[], rfl, rfl, by simp⟩
  | cons x xs ih =>
    obtain ⟨_, e, y, rfl, p⟩ := h x (by simp)
    obtain ⟨ys, e2, l, q⟩ := ih fun z hz => h z (by simp [hz])
    refine ⟨y :: ys, ?_, by simp [l], by simp; exact ⟨p, q⟩⟩
    show (f x).bind _ = _
    rw [e]
    show (compS xs f).bind _ = _
    rw [e2]; rfl
theorem cutL_from {xs : List α} {a : Int} (h : 0 ≤ a) : cutL xs (some a) none = xs.drop a.toNat := by
  unfold cutL
  obtain ⟨n, rfl⟩ : ∃ n : Nat, a = n := ⟨a.toNat, by omega⟩
  rw [HT.sIx_nat, HT.sIx_none, Int.toNat_natCast]
  by_cases hn : n ≤ xs.length
  · rw [Nat.min_eq_left hn]
    exact List.take_of_length_le (by rw [List.length_drop]; omega)
  · rw [Nat.min_eq_right (by omega)]
    simp
    omega
theorem cutL_to {xs : List α} {b : Int} (h : 0 ≤ b) : cutL xs none (some b) = xs.take b.toNat := by
  unfold cutL
  obtain ⟨n, rfl⟩ : ∃ n : Nat, b = n := ⟨b.toNat, by omega⟩
  rw [HT.sIx_nat, HT.sIx_none, Int.toNat_natCast]
  rw [List.drop_zero, Nat.sub_zero]
  by_cases hn : n ≤ xs.length
  · rw [Nat.min_eq_left hn]
  · rw [Nat.min_eq_right (by omega), List.take_of_length_le (Nat.le_refl _), List.take_of_length_le (by omega)]
theorem joinL_nil : ∀ xs : List Sg, TL.joinL [] xs = xs.flatten
  | [] => rfl
  | [x] => by simp [TL.joinL]
  | x :: y :: r => by
    show x ++ ([] ++ TL.joinL [] (y :: r)) = _
    rw [joinL_nil (y :: r)]
    simp
theorem joinM_of {sep : Sg} {xs : List Sg} (h : (xs.map List.length).sum + xs.length * sep.length ≤ 16777216) : joinM sep xs = some (TL.joinL sep xs) := need_eq (szB_of h)
end
end U
set_option Elab.async false
set_option linter.all false
set_option maxRecDepth 100000
set_option maxHeartbeats 4000000
namespace U
open PySem PySem.Spec L2
/-! ### trees, words: plain -/
abbrev Tre := List Int × Sg
inductive Anc (ups : List Int) : Nat → Nat → Prop where
  | refl (k : Nat) : Anc ups k k
  | up {k a : Nat} {u : Int} (h : ups[k]? = some u) (hu : 0 ≤ u) (r : Anc ups u.toNat a) : Anc ups k a
theorem get_app {α : Type} {xs ys : List α} {i : Nat} {a : α} (h : xs[i]? = some a) : (xs ++ ys)[i]? = some a := by
  rw [List.getElem?_append_left (List.getElem?_eq_some_iff.mp h).1]; exact h
theorem Anc.app {ups more : List Int} {k a : Nat} (h : Anc ups k a) : Anc (ups ++ more) k a := by
  induction h with
  | refl k => exact .refl k
  | up h hu _ ih => exact .up (get_app h) hu ih
theorem Anc.trans {ups : List Int} {k a b : Nat} (h : Anc ups k a) (h' : Anc ups a b) : Anc ups k b := by
  induction h with
  | refl k => exact h'
  | up h hu _ ih => exact .up h hu (ih h')
structure UpsOk (ups : List Int) : Prop where
  root : ups[0]? = some (-1)
  up : ∀ (k : Nat) (u : Int), 0 < k → ups[k]? = some u → 0 ≤ u ∧ u < k
  ch : ∀ (k : Nat) (u : Int), 0 < k → ups[k]? = some u → Anc ups (k - 1) u.toNat
structure TreeOk (t : Tre) : Prop where
  len : t.1.length = t.2.length
  most : t.1.length ≤ 60
  ups : UpsOk t.1
  low : ∀ c ∈ t.2, 97 ≤ c ∧ c ≤ 122
theorem UpsOk.pos {ups : List Int} (h : UpsOk ups) : 0 < ups.length := by
  have := h.root
  cases ups with
  | nil => cases this
  | cons _ _ => simp
theorem UpsOk.one : UpsOk [-1] := ⟨rfl, fun k u hk h => by
  cases k with
  | zero => omega
  | succ k => simp at h, fun k u hk h => by
  cases k with
  | zero => omega
  | succ k => simp at h⟩
theorem UpsOk.snoc {ups : List Int} {p : Int} (h : UpsOk ups) (h0 : 0 ≤ p) (hp : p < ups.length) (ha : Anc ups (ups.length - 1) p.toNat) : UpsOk (ups ++ [p]) := by
  have hl := h.pos
  refine ⟨get_app h.root, fun k u hk e => ?_, fun k u hk e => ?_⟩
  · by_cases hlt : k < ups.length
    · rw [List.getElem?_append_left hlt] at e; exact h.up k u hk e
    · rw [List.getElem?_append_right (by omega)] at e
      have hk2 : k = ups.length := by
        by_cases h9 : k - ups.length = 0
        · omega
        · rw [List.getElem?_eq_none (by simp; omega)] at e; cases e
      subst hk2
      simp at e; subst e
      exact ⟨h0, hp⟩
  · by_cases hlt : k < ups.length
    · rw [List.getElem?_append_left hlt] at e; exact (h.ch k u hk e).app
    · rw [List.getElem?_append_right (by omega)] at e
      have hk2 : k = ups.length := by
        by_cases h9 : k - ups.length = 0
        · omega
        · rw [List.getElem?_eq_none (by simp; omega)] at e; cases e
      subst hk2
      simp at e; subst e
      exact ha.app
/-- all come to the root -/
theorem UpsOk.toRoot {ups : List Int} (h : UpsOk ups) : ∀ k, k < ups.length → Anc ups k 0 := by
  intro k
  induction k using Nat.strongRecOn with
  | _ k ih =>
    intro hk
    by_cases h0 : k = 0
    · subst h0; exact .refl 0
    · have e := List.getElem?_eq_getElem hk
      obtain ⟨a, b⟩ := h.up k _ (by omega) e
      exact .up e a (ih _ (by omega) (by omega))
/-- the word of a place -/
def wdF (ups : List Int) (labels : Sg) : Nat → Nat → Sg
  | 0, _ => []
  | n + 1, k => labels.getD k 0 :: (if 0 ≤ ups.getD k (-1) then wdF ups labels n (ups.getD k (-1)).toNat else [])
def wd (t : Tre) (k : Nat) : Sg := wdF t.1 t.2 (k + 1) k
theorem getD_of {α : Type} {xs : List α} {i : Nat} {a d : α} (h : xs[i]? = some a) : xs.getD i d = a := by
  rw [List.getD_eq_getElem?_getD, h]; rfl
theorem wdF_eq {ups : List Int} (labels : Sg) (ok : UpsOk ups) : ∀ (n m k : Nat), k < n → k < m → k < ups.length → wdF ups labels n k = wdF ups labels m k
  | 0, _, _, h, _, _ => by omega
  | _, 0, _, _, h, _ => by omega
  | n + 1, m + 1, k, h1, h2, h3 => by
    unfold wdF
    congr 1
    have e := List.getElem?_eq_getElem h3
    rw [getD_of e]
    by_cases h0 : 0 ≤ ups[k]
    · rw [if_pos h0, if_pos h0]
      by_cases hk : k = 0
      · subst hk
        rw [ok.root] at e
        have e2 : -1 = ups[0] := Option.some.inj e
        omega
      · obtain ⟨a, b⟩ := ok.up k _ (by omega) e
        exact wdF_eq labels ok n m _ (by omega) (by omega) (by omega)
    · rw [if_neg h0, if_neg h0]
theorem wd_root {t : Tre} (ok : UpsOk t.1) : wd t 0 = [t.2.getD 0 0] := by
  unfold wd wdF
  rw [getD_of ok.root]
  rfl
theorem wd_up {t : Tre} (ok : UpsOk t.1) {k : Nat} {u : Int} (h0 : 0 < k) (h : t.1[k]? = some u) : wd t k = t.2.getD k 0 :: wd t u.toNat := by
  have hk := (List.getElem?_eq_some_iff.mp h).1
  obtain ⟨a, b⟩ := ok.up k u h0 h
  show wdF t.1 t.2 (k + 1) k = _ :: wdF t.1 t.2 (u.toNat + 1) u.toNat
  rw [wdF.eq_def]
  simp only [getD_of h, if_pos a]
  rw [wdF_eq t.2 ok k (u.toNat + 1) u.toNat (by omega) (by omega) (by omega)]
theorem wd_len {t : Tre} (ok : UpsOk t.1) : ∀ k, k < t.1.length → 1 ≤ (wd t k).length ∧ (wd t k).length ≤ k + 1 := by
  intro k
  induction k using Nat.strongRecOn with
  | _ k ih =>
    intro hk
    by_cases h0 : k = 0
    · subst h0; rw [wd_root ok]; simp
    · have e := List.getElem?_eq_getElem hk
      obtain ⟨a, b⟩ := ok.up k _ (by omega) e
      rw [wd_up ok (by omega) e]
      have := ih _ (show (t.1[k]).toNat < k by omega) (by omega)
      simp; omega
/-- going up from a place: the word of an int, none below 0 -/
def wdI (t : Tre) (i : Int) : Sg := if 0 ≤ i then wd t i.toNat else []
theorem wdI_eq {t : Tre} (ok : UpsOk t.1) {i u : Int} (h0 : 0 ≤ i) (h : t.1[i.toNat]? = some u) : wdI t i = t.2.getD i.toNat 0 :: wdI t u := by
  unfold wdI
  rw [if_pos h0]
  by_cases hk : i.toNat = 0
  · rw [hk] at h ⊢
    rw [wd_root ok]
    rw [ok.root] at h
    have : u = -1 := (Option.some.inj h).symm
    subst this; rfl
  · obtain ⟨a, b⟩ := ok.up _ u (by omega) h
    rw [if_pos a, wd_up ok (by omega) h]
end U
set_option Elab.async false
set_option linter.all false
set_option maxRecDepth 100000
set_option maxHeartbeats 4000000
namespace U
open PySem PySem.Spec L2
/-! ### plain: numbers of things in order -/
section
variable {α β : Type} [DecidableEq α] [DecidableEq β] {lt : α → α → Bool} {lt' : β → β → Bool} {xs ys : List α} {a b : α}
/-- how many unlike ones are less -/
def rk (lt : α → α → Bool) (xs : List α) (a : α) : Nat := ((uq xs).filter fun x => lt x a).length
theorem sset_mem : a ∈ ssetL lt xs ↔ a ∈ xs := by unfold ssetL; rw [srt_mem, mem_uq]
theorem sset_nd : (ssetL lt xs).Nodup := (srt_perm.nodup_iff).mpr (uq_nodup xs)
theorem sset_len : (ssetL lt xs).length ≤ xs.length := by unfold ssetL; rw [srt_len]; exact uq_len xs
theorem sset_lt (O : Lo lt) : (ssetL lt xs).Pairwise fun a b => lt a b = true := by
  have h1 : (ssetL lt xs).Pairwise fun a b => lt b a = false := srt_sorted O
  have h2 : (ssetL lt xs).Pairwise fun a b => a ≠ b := sset_nd
  refine (h1.and h2).imp fun {x y} ⟨h, n⟩ => ?_
  cases e : lt x y with
  | true => rfl
  | false => exact absurd (O.tot x y e h) n
theorem cnt_at (O : Lo lt) : ∀ {l : List α} {i : Nat}, l.Pairwise (fun a b => lt a b = true) → l[i]? = some a → (l.filter fun x => lt x a).length = i
  | [], _, _, h => by simp at h
  | y :: ys, 0, hp, h => by
    have e : y = a := by simpa using h
    subst e
    have hp := (List.pairwise_cons.mp hp).1
    rw [List.filter_cons, if_neg (by rw [O.irr]; decide)]
    rw [List.length_eq_zero_iff, List.filter_eq_nil_iff]
    intro z hz
    rw [O.asym (hp z hz)]; decide
  | y :: ys, i + 1, hp, h => by
    have h' : ys[i]? = some a := by simpa using h
    obtain ⟨h1, h2⟩ := List.pairwise_cons.mp hp
    rw [List.filter_cons, if_pos (h1 a (List.mem_of_getElem? h')), List.length_cons, cnt_at O h2 h']
theorem rk_at (O : Lo lt) {i : Nat} (h : (ssetL lt xs)[i]? = some a) : rk lt xs a = i := by
  unfold rk
  rw [← cnt_at O (sset_lt O) h]
  exact ((srt_perm (lt := lt) (xs := uq xs)).filter _).length_eq.symm
theorem rk_get (O : Lo lt) (h : a ∈ xs) : (ssetL lt xs)[rk lt xs a]? = some a := by
  obtain ⟨i, hi⟩ := List.getElem?_of_mem (sset_mem (lt := lt).mpr h)
  rw [rk_at O hi]; exact hi
theorem rk_lt (O : Lo lt) (ha : a ∈ xs) (hb : b ∈ xs) : rk lt xs a < rk lt xs b ↔ lt a b = true := by
  have h1 := rk_get O ha
  have h2 := rk_get O hb
  have hp := List.pairwise_iff_getElem.mp (sset_lt O (xs := xs))
  obtain ⟨l1, e1⟩ := List.getElem?_eq_some_iff.mp h1
  obtain ⟨l2, e2⟩ := List.getElem?_eq_some_iff.mp h2
  constructor
  · intro h
    have := hp _ _ l1 l2 h
    rw [e1, e2] at this; exact this
  · intro h
    rcases Nat.lt_trichotomy (rk lt xs a) (rk lt xs b) with z | z | z
    · exact z
    · rw [z] at h1
      rw [h1] at h2
      have := Option.some.inj h2
      subst this
      rw [O.irr] at h; cases h
    · have := hp _ _ l2 l1 z
      rw [e1, e2] at this
      rw [O.asym this] at h; cases h
theorem rk_eq (O : Lo lt) (ha : a ∈ xs) (hb : b ∈ xs) : rk lt xs a = rk lt xs b ↔ a = b := by
  refine ⟨fun h => ?_, fun h => by rw [h]⟩
  have h1 := rk_get O ha
  have h2 := rk_get O hb
  rw [h] at h1
  rw [h1] at h2
  exact Option.some.inj h2
theorem rk_len (O : Lo lt) (ha : a ∈ xs) : rk lt xs a < xs.length := Nat.lt_of_lt_of_le (List.getElem?_eq_some_iff.mp (rk_get O ha)).1 sset_len
/-- the same of things in step -/
theorem rk_iso {γ : Type} (u : γ → α) (v : γ → β) (O : Lo lt) (O' : Lo lt') (ks : List γ) (h : ∀ j ∈ ks, ∀ k ∈ ks, lt (u j) (u k) = lt' (v j) (v k)) {k : γ} (hk : k ∈ ks) : rk lt (ks.map u) (u k) = rk lt' (ks.map v) (v k) := by
  have eqi : ∀ j ∈ ks, ∀ k ∈ ks, u j = u k ↔ v j = v k := fun j hj k hk => by
    constructor
    · intro e
      refine O'.tot _ _ ?_ ?_
      · rw [← h j hj k hk, e]; exact O.irr _
      · rw [← h k hk j hj, e]; exact O.irr _
    · intro e
      refine O.tot _ _ ?_ ?_
      · rw [h j hj k hk, e]; exact O'.irr _
      · rw [h k hk j hj, e]; exact O'.irr _
  unfold rk
  have key : ∀ js : List γ, (∀ j ∈ js, j ∈ ks) → ((uq (js.map u)).filter fun x => lt x (u k)).length = ((uq (js.map v)).filter fun x => lt' x (v k)).length := fun js => by
    induction js with
    | nil => intro _; rfl
    | cons j js ih =>
      intro hs
      have hj := hs j List.mem_cons_self
      have ih := ih fun i hi => hs i (List.mem_cons_of_mem _ hi)
      have hm : u j ∈ js.map u ↔ v j ∈ js.map v := by
        constructor
        · intro hm
          obtain ⟨i, hi, e⟩ := List.mem_map.mp hm
          exact List.mem_map.mpr ⟨i, hi, (eqi i (hs i (List.mem_cons_of_mem _ hi)) j hj).mp e⟩
        · intro hm
          obtain ⟨i, hi, e⟩ := List.mem_map.mp hm
          exact List.mem_map.mpr ⟨i, hi, (eqi i (hs i (List.mem_cons_of_mem _ hi)) j hj).mpr e⟩
      show ((uq (u j :: js.map u)).filter _).length = ((uq (v j :: js.map v)).filter _).length
      unfold uq
      by_cases hin : u j ∈ js.map u
      · rw [if_pos hin, if_pos (hm.mp hin)]; exact ih
      · rw [if_neg hin, if_neg (fun z => hin (hm.mpr z)), List.filter_cons, List.filter_cons, h j hj k hk]
        split
        · rw [List.length_cons, List.length_cons, ih]
        · exact ih
  exact key ks fun j hj => hj
/-- the order of things in step -/
theorem srt_iso {γ : Type} (u : γ → α) (v : γ → β) (ks : List γ) (h : ∀ j ∈ ks, ∀ k ∈ ks, lt (u j) (u k) = lt' (v j) (v k)) :
    ∃ js : List γ, js.Perm ks ∧ srtL lt (ks.map u) = js.map u ∧ srtL lt' (ks.map v) = js.map v := by
  refine ⟨ks.mergeSort fun a b => !lt (u b) (u a), List.mergeSort_perm _ _, ?_, ?_⟩
  · unfold srtL
    exact (List.map_mergeSort (s := fun a b => !lt b a) (f := u) (l := ks) (r := fun a b => !lt (u b) (u a)) fun a _ b _ => rfl).symm
  · unfold srtL
    exact (List.map_mergeSort fun a ha b hb => by
      show (!lt (u b) (u a)) = (!lt' (v b) (v a))
      rw [h b hb a ha]).symm
end
/-! ### plain: dicts of pairs -/
section
variable {α β : Type} [DecidableEq α] {ps : List (α × β)} {a : α} {b : β}
theorem dput_new {xs : List (α × β)} (h : a ∉ xs.map Prod.fst) : dput xs a b = xs ++ [(a, b)] := by
  unfold dput
  rw [if_neg]
  rw [List.any_eq_true]
  rintro ⟨x, hx, e⟩
  exact h (List.mem_map.mpr ⟨x, hx, of_decide_eq_true e⟩)
theorem ofPairs_nd (h : (ps.map Prod.fst).Nodup) : ofPairs ps = ps := by
  have key : ∀ (ps acc : List (α × β)), ((acc ++ ps).map Prod.fst).Nodup → ps.foldl (fun acc kv => dput acc kv.1 kv.2) acc = acc ++ ps := fun ps => by
    induction ps with
    | nil => intro acc _; simp
    | cons p ps ih =>
      intro acc hn
      rw [List.foldl_cons, dput_new, ih]
      · simp
      · simpa using hn
      · intro hm
        rw [List.map_append, List.map_cons] at hn
        exact (List.nodup_append.mp hn).2.2 p.1 hm p.1 (by simp) rfl
  have := key ps [] (by simpa using h)
  unfold ofPairs
  simpa using this
theorem lkp_of : ∀ {ps : List (α × β)}, (ps.map Prod.fst).Nodup → (a, b) ∈ ps → lkp ps a = some b
  | [], _, h => by cases h
  | p :: ps, hn, h => by
    rw [List.map_cons, List.nodup_cons] at hn
    unfold lkp
    rw [List.find?_cons]
    rcases List.mem_cons.mp h with e | e
    · subst e; simp
    · have hne : p.1 ≠ a := fun z => hn.1 (List.mem_map.mpr ⟨(a, b), e, z.symm⟩)
      rw [decide_eq_false hne]
      exact lkp_of hn.2 e
end
theorem enumL_get {α : Type} {xs : List α} {i : Nat} {x : Int × α} (h : (enumL xs)[i]? = some x) : x.1 = i ∧ xs[i]? = some x.2 := by
  unfold enumL at h
  rw [List.getElem?_mapIdx] at h
  cases e : xs[i]? with
  | none => rw [e] at h; cases h
  | some b =>
    rw [e] at h
    have ea : ((i : Int), b) = x := Option.some.inj h
    subst ea; exact ⟨rfl, rfl⟩
theorem enumL_at {α : Type} {xs : List α} {i : Nat} {a : α} (h : xs[i]? = some a) : (enumL xs)[i]? = some ((i : Int), a) := by
  unfold enumL
  rw [List.getElem?_mapIdx, h]; rfl
theorem enumL_len {α : Type} (xs : List α) : (enumL xs).length = xs.length := by simp [enumL]
theorem enumL_mem {α : Type} {xs : List α} {x : Int × α} (h : x ∈ enumL xs) : ∃ i : Nat, x.1 = i ∧ xs[i]? = some x.2 := by
  obtain ⟨i, hi⟩ := List.getElem?_of_mem h
  exact ⟨i, enumL_get hi⟩
theorem enumL_snd {α : Type} (xs : List α) : (enumL xs).map Prod.snd = xs := by
  refine List.ext_getElem? fun i => ?_
  rw [List.getElem?_map]
  unfold enumL
  rw [List.getElem?_mapIdx]
  cases xs[i]? <;> rfl
/-- each key's place in a list of unlike ones -/
theorem lkp_enum {α : Type} [DecidableEq α] {l : List α} (hn : l.Nodup) {i : Nat} {a : α} (h : l[i]? = some a) : lkp (ofPairs ((enumL l).map fun p => (p.2, p.1))) a = some (i : Int) := by
  have e : ((enumL l).map fun p => (p.2, p.1)).map Prod.fst = l := by rw [List.map_map]; exact enumL_snd l
  rw [ofPairs_nd (by rw [e]; exact hn)]
  exact lkp_of (by rw [e]; exact hn) (List.mem_map.mpr ⟨((i : Int), a), List.mem_of_getElem? (enumL_at h), rfl⟩)
/-! ### plain: words in a tree -/
theorem wd_low {t : Tre} (T : TreeOk t) : ∀ k, k < t.1.length → ∀ c ∈ wd t k, 97 ≤ c ∧ c ≤ 122 := by
  intro k
  have hl := T.len
  have ng : ∀ k, k < t.1.length → 97 ≤ t.2.getD k 0 ∧ t.2.getD k 0 ≤ 122 := fun k hk => by
    have h := List.getElem?_eq_getElem (show k < t.2.length by omega)
    rw [getD_of h]
    exact T.low _ (List.getElem_mem _)
  induction k using Nat.strongRecOn with
  | _ k ih =>
    intro hk c hc
    by_cases h0 : k = 0
    · subst h0
      rw [wd_root T.ups] at hc
      simp at hc
      subst hc
      exact ng 0 hk
    · have e := List.getElem?_eq_getElem hk
      obtain ⟨a, b⟩ := T.ups.up k _ (by omega) e
      rw [wd_up T.ups (by omega) e] at hc
      rcases List.mem_cons.mp hc with h | h
      · subst h; exact ng k hk
      · exact ih _ (by omega) (by omega) c h
theorem wdI_nat {t : Tre} (k : Nat) : wdI t (k : Int) = wd t k := by unfold wdI; rw [if_pos (by omega)]; simp
theorem up_bd {t : Tre} (T : TreeOk t) {k : Nat} {u : Int} (h : t.1[k]? = some u) : -1 ≤ u ∧ u < k := by
  by_cases h0 : k = 0
  · subst h0
    rw [T.ups.root] at h
    have : -1 = u := Option.some.inj h
    omega
  · have := T.ups.up k u (by omega) h
    omega
theorem wd_cons {t : Tre} (T : TreeOk t) {k : Nat} {u : Int} (h : t.1[k]? = some u) : wd t k = t.2.getD k 0 :: wdI t u := by
  have := wdI_eq T.ups (i := (k : Int)) (by omega) (by rw [Int.toNat_natCast]; exact h)
  rw [wdI_nat, Int.toNat_natCast] at this
  exact this
theorem wd_ne {t : Tre} (T : TreeOk t) {k : Nat} (h : k < t.1.length) : wd t k ≠ [] := fun e => by
  have := wd_len T.ups k h
  rw [e] at this
  simp at this
theorem ltS_cons (c d : Nat) (x y : Sg) : ltS (c :: x) (d :: y) = (decide (c < d) || (decide (c = d) && ltS x y)) := by
  unfold ltS
  rw [Bool.eq_iff_iff]
  simp only [decide_eq_true_eq, Bool.or_eq_true, Bool.and_eq_true]
  exact List.cons_lt_cons_iff
theorem ltS_nil (y : Sg) : ltS [] y = !y.isEmpty := by
  cases y with
  | nil => simp [ltS]
  | cons c r => simp [ltS]
theorem ltS_nil2 (x : Sg) : ltS x [] = false := by simp [ltS]
theorem ltS_one (c d : Nat) : ltS [c] [d] = decide (c < d) := by
  rw [ltS_cons, ltS_nil]
  simp
end U
namespace U
open PySem PySem.Spec L2
section
variable {α β σ ρ : Type} {P : β → Prop}
theorem ret_compO {xs : List α} {s : σ} {f : σ → α → Option (σ × Option β)} (I : σ → Prop) (P : β → Prop) (h0 : I s) (h : ∀ x ∈ xs, ∀ s, I s → Ret (f s x) (fun r => I r.1 ∧ ∃ y, r.2 = some y ∧ P y)) :
    Ret (compO xs s f) (fun r => I r.1 ∧ r.2.length = xs.length ∧ ∀ y ∈ r.2, P y) := by
  induction xs generalizing s with
  | nil => exact ⟨_, rfl, h0, rfl, nofun⟩
  | cons x xs ih =>
    obtain ⟨r, e, h1, y, e2, p⟩ := h x List.mem_cons_self s h0
    obtain ⟨q, e3, h2, l, h3⟩ := ih h1 fun z hz => h z (List.mem_cons_of_mem _ hz)
    refine ⟨(q.1, y :: q.2), ?_, h2, by simp [l], fun z hz => (List.mem_cons.mp hz).elim (fun e => e ▸ p) (h3 z)⟩
    show (f s x).bind _ = _
    rw [e]
    show (compO xs r.1 f).bind _ = _
    rw [e3, e2]; rfl
theorem idx_rk [DecidableEq α] {lt : α → α → Bool} (O : Lo lt) {xs : List α} {a : α} (h : a ∈ xs) : idxM (ssetL lt xs) a = some (rk lt xs a : Int) := by
  unfold idxM
  have h1 := rk_get O h
  obtain ⟨l, e⟩ := List.getElem?_eq_some_iff.mp h1
  have : (ssetL lt xs).findIdx? (fun x => decide (x = a)) = some (rk lt xs a) := by
    rw [List.findIdx?_eq_some_iff_getElem]
    refine ⟨l, decide_eq_true e, fun j hj => ?_⟩
    intro z
    have z := of_decide_eq_true z
    have hp := List.pairwise_iff_getElem.mp (sset_lt O (xs := xs)) j _ (by omega) l hj
    rw [z, e, O.irr] at hp
    cases hp
  rw [this]; rfl
end
/-- how many letters two words have in common at the beginning -/
def cp : Sg → Sg → Nat
  | c :: x, d :: y => if c = d then cp x y + 1 else 0
  | _, _ => 0
theorem cp_le : ∀ x y : Sg, cp x y ≤ x.length ∧ cp x y ≤ y.length
  | [], _ => ⟨Nat.le_refl _, Nat.zero_le _⟩
  | _ :: _, [] => ⟨Nat.zero_le _, Nat.le_refl _⟩
  | c :: x, d :: y => by
    unfold cp
    have := cp_le x y
    split
    · simp; omega
    · simp
/-! ### plain: the order of a tree's places -/
def wlt (t : Tre) (j k : Nat) : Bool := ltP ltS ltI (wd t j, (j : Int)) (wd t k, (k : Int))
theorem lo_w (t : Tre) : Lo (wlt t) := by
  have O : Lo (ltP ltS ltI) := lo_P lo_S lo_I
  refine ⟨fun x => O.irr _, fun x y z h k => O.tr _ _ _ h k, fun x y h k => ?_⟩
  have e := congrArg Prod.snd (O.tot _ _ h k)
  have e2 : (x : Int) = (y : Int) := e
  omega
def ordL (t : Tre) : List Nat := srtL (wlt t) (List.range t.1.length)
theorem ordL_perm (t : Tre) : (ordL t).Perm (List.range t.1.length) := srt_perm
theorem ordL_len (t : Tre) : (ordL t).length = t.1.length := by rw [(ordL_perm t).length_eq, List.length_range]
theorem ordL_nd (t : Tre) : (ordL t).Nodup := (ordL_perm t).nodup_iff.mpr List.nodup_range
theorem ordL_mem {t : Tre} {k : Nat} : k ∈ ordL t ↔ k < t.1.length := by rw [(ordL_perm t).mem_iff, List.mem_range]
theorem ordL_lt (t : Tre) : (ordL t).Pairwise fun a b => wlt t a b = true := by
  have h1 : (ordL t).Pairwise fun a b => wlt t b a = false := srt_sorted (lo_w t)
  have h2 : (ordL t).Pairwise fun a b => a ≠ b := ordL_nd t
  refine (h1.and h2).imp fun {x y} ⟨h, n⟩ => ?_
  cases e : wlt t x y with
  | true => rfl
  | false => exact absurd ((lo_w t).tot x y e h) n
/-- a place's rank -/
def pos (t : Tre) (k : Nat) : Nat := ((List.range t.1.length).filter fun j => wlt t j k).length
theorem pos_at {t : Tre} {i k : Nat} (h : (ordL t)[i]? = some k) : pos t k = i := by
  rw [← cnt_at (lo_w t) (ordL_lt t) h]
  exact ((ordL_perm t).filter _).length_eq.symm
theorem pos_get {t : Tre} {k : Nat} (h : k < t.1.length) : (ordL t)[pos t k]? = some k := by
  obtain ⟨i, hi⟩ := List.getElem?_of_mem (ordL_mem.mpr h)
  rw [pos_at hi]; exact hi
theorem wds_sorted (t : Tre) : srtL ltS ((List.range t.1.length).map (wd t)) = (ordL t).map (wd t) := by
  refine srt_of lo_S ((ordL_perm t).map _).symm ?_
  refine List.pairwise_map.mpr ((ordL_lt t).imp fun {a b} h => ?_)
  unfold wlt ltP at h
  dsimp only at h
  by_cases e : wd t a = wd t b
  · rw [e]; exact lo_S.irr _
  · rw [if_neg e] at h; exact lo_S.asym h
theorem range_of_upto (n : Nat) : upto 0 (n : Int) = (List.range n).map fun k : Nat => (k : Int) := by
  unfold upto
  rw [show ((n : Int) - 0).toNat = n by omega]
  exact List.map_congr_left fun k _ => Int.zero_add _
end U
namespace U
open PySem PySem.Spec L2
section
variable {α β σ : Type}
theorem ret_compOi {xs : List α} {s : σ} {f : σ → α → Option (σ × Option β)} (I : Nat → σ → Prop) (P : β → Prop) (h0 : I 0 s) (h : ∀ i x, xs[i]? = some x → i < xs.length → ∀ s, I i s → Ret (f s x) (fun r => I (i + 1) r.1 ∧ ∃ y, r.2 = some y ∧ P y)) :
    Ret (compO xs s f) (fun r => I xs.length r.1 ∧ r.2.length = xs.length ∧ ∀ y ∈ r.2, P y) := by
  induction xs generalizing s I with
  | nil => exact ⟨_, rfl, h0, rfl, nofun⟩
  | cons x xs ih =>
    obtain ⟨r, e, h1, y, e2, p⟩ := h 0 x rfl (Nat.succ_pos _) s h0
    obtain ⟨q, e3, h2, l, h3⟩ := ih (fun i => I (i + 1)) h1 fun i z hz hi => h (i + 1) z hz (Nat.succ_lt_succ hi)
    refine ⟨(q.1, y :: q.2), ?_, h2, by simp [l], fun z hz => (List.mem_cons.mp hz).elim (fun e => e ▸ p) (h3 z)⟩
    show (f s x).bind _ = _
    rw [e]
    show (compO xs r.1 f).bind _ = _
    rw [e3, e2]; rfl
end
theorem powM_of {i j : Int} (h : 0 ≤ j ∧ j ≤ 1000000) (k : i.natAbs < 18446744073709551616) : powM i j = some (i ^ j.toNat) := need_eq (decide_eq_true ⟨h.1, h.2, k⟩)
theorem ret_in {α : Type} {xs : List α} {i : Int} (h0 : 0 ≤ i) (h : i < xs.length) : Ret (atI xs i) (fun a => a ∈ xs) := (ret_at h0 h).mono fun _ e => List.mem_of_getElem? e
theorem b2_01 (b : Bool) : 0 ≤ b2 b ∧ b2 b ≤ 1 := by cases b <;> decide
end U
namespace U
open PySem PySem.Spec L2
theorem pos_lt {t : Tre} {j k : Nat} (hj : j < t.1.length) (hk : k < t.1.length) : pos t j < pos t k ↔ wlt t j k = true := by
  have h1 := pos_get hj
  have h2 := pos_get hk
  have hp := List.pairwise_iff_getElem.mp (ordL_lt t)
  obtain ⟨l1, e1⟩ := List.getElem?_eq_some_iff.mp h1
  obtain ⟨l2, e2⟩ := List.getElem?_eq_some_iff.mp h2
  constructor
  · intro h
    have := hp _ _ l1 l2 h
    rw [e1, e2] at this; exact this
  · intro h
    rcases Nat.lt_trichotomy (pos t j) (pos t k) with z | z | z
    · exact z
    · rw [z] at h1
      rw [h1] at h2
      have := Option.some.inj h2
      subst this
      rw [(lo_w t).irr] at h; cases h
    · have := hp _ _ l2 l1 z
      rw [e1, e2] at this
      rw [(lo_w t).asym this] at h; cases h
theorem pos_eq {t : Tre} {j k : Nat} (hj : j < t.1.length) (hk : k < t.1.length) : pos t j = pos t k ↔ j = k := by
  refine ⟨fun h => ?_, fun h => by rw [h]⟩
  have h1 := pos_get hj
  have h2 := pos_get hk
  rw [h, h2] at h1
  exact (Option.some.inj h1).symm
theorem pos_bd {t : Tre} {k : Nat} (hk : k < t.1.length) : pos t k < t.1.length := by
  have := (List.getElem?_eq_some_iff.mp (pos_get hk)).1
  rw [ordL_len] at this; exact this
theorem enumL_range {α : Type} (xs : List α) (d : α) : enumL xs = (List.range xs.length).map fun k : Nat => ((k : Int), xs.getD k d) := by
  refine List.ext_getElem? fun k => ?_
  rw [List.getElem?_map]
  by_cases hk : k < xs.length
  · rw [enumL_at (List.getElem?_eq_getElem hk), List.getElem?_range hk, ← getD_of (d := d) (List.getElem?_eq_getElem hk)]; rfl
  · rw [List.getElem?_eq_none (by rw [enumL_len]; omega), List.getElem?_eq_none (by simp; omega)]; rfl
/-- the place above -/
def upN (t : Tre) (k : Nat) : Nat := (t.1.getD k 0).toNat
theorem upN_bd {t : Tre} (T : TreeOk t) {k : Nat} (h0 : 0 < k) (hk : k < t.1.length) : upN t k < k ∧ t.1[k]? = some (upN t k : Int) := by
  have e := List.getElem?_eq_getElem hk
  obtain ⟨a, b⟩ := T.ups.up k _ h0 e
  unfold upN
  rw [getD_of e]
  exact ⟨by omega, by rw [e]; exact congrArg some (by omega)⟩
/-- all places but the root, in the kept order: by the word of the place above, by that place, by their numbers -/
def klt (t : Tre) (j k : Nat) : Bool := ltP ltS (ltP ltI ltI) (wd t (upN t j), (upN t j : Int), (j : Int)) (wd t (upN t k), (upN t k : Int), (k : Int))
def others (t : Tre) : List Nat := (List.range (t.1.length - 1)).map (· + 1)
def keptL (t : Tre) : List Nat := 0 :: srtL (klt t) (others t)
theorem lo_k (t : Tre) : Lo (klt t) := by
  have O : Lo (ltP ltS (ltP ltI ltI)) := lo_P lo_S (lo_P lo_I lo_I)
  refine ⟨fun x => O.irr _, fun x y z h k => O.tr _ _ _ h k, fun x y h k => ?_⟩
  have e := congrArg (fun p : Sg × Int × Int => p.2.2) (O.tot _ _ h k)
  have e2 : (x : Int) = (y : Int) := e
  omega
theorem others_mem {t : Tre} {k : Nat} : k ∈ others t ↔ 0 < k ∧ k < t.1.length := by
  unfold others
  rw [List.mem_map]
  constructor
  · rintro ⟨j, hj, rfl⟩
    have := List.mem_range.mp hj
    omega
  · intro h
    exact ⟨k - 1, List.mem_range.mpr (by omega), by omega⟩
theorem others_nd (t : Tre) : (others t).Nodup := by
  refine List.pairwise_map.mpr (List.Pairwise.imp (fun h e => h (by omega)) List.nodup_range)
theorem keptL_perm {t : Tre} (h : 0 < t.1.length) : (keptL t).Perm (List.range t.1.length) := by
  have e : List.range t.1.length = 0 :: others t := by
    obtain ⟨n, hn⟩ : ∃ n, t.1.length = n + 1 := ⟨t.1.length - 1, by omega⟩
    unfold others
    rw [hn, List.range_succ_eq_map]; rfl
  rw [e]
  exact (srt_perm (lt := klt t) (xs := others t)).cons 0
theorem reprM_ints {xs : List Int} (h : ∀ x ∈ xs, x.natAbs < 2 ^ 60) (hl : xs.length ≤ 100000) : ∃ s, reprM ((dL dI).d xs) = some s := by
  refine ⟨_, reprM_of (e := 1) (B := 100000 * 63 + 2) ?_ (by decide) (by decide)⟩
  show Rk 1 _ (.list (xs.map dI.d))
  have h9 := rks_all (e := 0) (B := 61) (ds := xs.map dI.d) fun d hd => by
    obtain ⟨x, hx, rfl⟩ := List.mem_map.mp hd
    exact rk_int (k := 60) (by decide) (h x hx) (by decide)
  refine (rk_list h9).mono (Nat.le_refl _) ?_
  rw [List.length_map]
  omega
end U
set_option Elab.async false
set_option linter.all false
set_option maxRecDepth 100000
set_option maxHeartbeats 4000000
namespace G
open PySem PySem.Spec L2 U

def topS (i : Nat) : Stmt := PySem.Challenge.pw_upwords_k53_what_is_a_trie.main.body.getD i (.Pass ⟨0, 0, 0, 0⟩)
abbrev s_is_whole : Stmt := topS 3
abbrev s_are_letters : Stmt := topS 4
abbrev s_can_stand : Stmt := topS 5
abbrev s_are_ups : Stmt := topS 6
abbrev s_is_tree : Stmt := topS 7
abbrev s_is_trie : Stmt := topS 9
abbrev s__law_cell_at : Stmt := topS 11
abbrev s__law_pool : Stmt := topS 12
abbrev s__law_take : Stmt := topS 13
abbrev s__law_letters : Stmt := topS 14
abbrev s__law_grown : Stmt := topS 15
abbrev s__law_copies : Stmt := topS 16
abbrev s__law_tree : Stmt := topS 17
abbrev s__law_ways : Stmt := topS 18
abbrev s__law_trie : Stmt := topS 19
abbrev s__law_ups : Stmt := topS 20
abbrev s__law_due : Stmt := topS 21
abbrev s__law_bent : Stmt := topS 22
abbrev s__law_right : Stmt := topS 23
abbrev s_law : Stmt := topS 24
section
variable {P : Program} {w : World} {K : PySem.W.Frag} {mg : Str → Option Value} {base : Heap}
def m_is_whole (x_thing : An) : Option Bool :=
  some (x_thing.isI && (!x_thing.isB))
def sp_is_whole (K : PySem.W.Frag) : Sp := fun vs H Q _ => ∃ (F : Hp) (v_thing : V) (x_thing : An) (r : Bool), vs = [v_thing] ∧ Sub F H ∧ eA.r F v_thing x_thing ∧ m_is_whole x_thing = some r ∧ ∀ (v : V) (F' H' : Hp) , Gr [] F H F' H' → eB.r F' v r → Q v H'
theorem sc_is_whole : FnScope ["thing"] ["thing"] (defScope s_is_whole) := ⟨rfl, rfl, rfl, by decide +kernel, rfl, by decide +kernel, by decide +kernel⟩
theorem ok_is_whole {f : Addr} {fd : FuncData} (F : FnP K "is_whole" s_is_whole f fd) (b_isinstance : mg "isinstance" = none) (b_int : mg "int" = none) (b_bool : mg "bool" = none) : FnG P w K mg base CX0 1 f fd ["thing"] (sp_is_whole K) := by
  refine FnDok F sc_is_whole (fun vs H Q E h => ?_) (fun cdv A outer s H0 vs Q E gd hr h => ?_)
  · obtain ⟨_, _, _, _, rfl, _⟩ := h
    rfl
  · obtain ⟨F0, v_thing, x_thing, r0, rfl, hs0, r_thing, hm, hk⟩ := h
    have g0 : Gr [] F0 H0 F0 H0 := Gr.refl hs0
    refine ⟨_, PSs.nox (pss_one (ps_ret (pe_and (pe_callB (c_isi (K := K) rfl) (by rfl) b_isinstance bo_isinstance (pa_cons (pv 0) (pa_cons (pe_bltn (v := .ty "int") (by rfl) b_int bo_int rfl) pa_nil))) (pe_one (pe_not (pe_callB (c_isi (K := K) rfl) (by rfl) b_isinstance bo_isinstance (pa_cons (pv 0) (pa_cons (pe_bltn (v := .ty "bool") (by rfl) b_bool bo_bool rfl) pa_nil)))))))), ?_⟩
    refine n_ret ?_
    refine n_andV ?_
    refine n_cb ?_
    refine n_cons ?_
    refine n_var rfl ?_
    refine n_cons ?_
    refine n_c ?_
    refine n_nil ?_
    refine v_isiA g0.fh (show eA.r F0 v_thing x_thing from r_thing) (kit_int _) ?_
    refine v_bl ?_
    refine br_andV (b := (!x_thing.isB)) (fun hb1 Q7 k7 => ?_) ?_
    · refine n_notV ?_
      refine n_cb ?_
      refine n_cons ?_
      refine n_var rfl ?_
      refine n_cons ?_
      refine n_c ?_
      refine n_nil ?_
      refine v_isiA g0.fh (show eA.r F0 v_thing x_thing from r_thing) (kit_bool _) ?_
      refine v_bl ?_
      exact k7
    obtain rfl := Option.some.inj hm
    exact hk _ _ _  g0   rfl

def m_are_letters (x_thing : An) : Option Bool :=
  (if x_thing.isS = true then
  (An.strM x_thing).bind fun o4 =>
  (need (szB (signs o4).length) ()).bind fun u8 =>
  (compS (signs o4) fun a10 =>
  some (some (inSg a10 ([97, 98, 99, 100, 101, 102, 103, 104, 105, 106, 107, 108, 109, 110, 111, 112, 113, 114, 115, 116, 117, 118, 119, 120, 121, 122] : Sg)))).bind fun q9 =>
  some (q9.all id)
  else
  some false).bind fun c2 =>
  some c2
def sp_are_letters (K : PySem.W.Frag) : Sp := fun vs H Q _ => ∃ (F : Hp) (v_thing : V) (x_thing : An) (r : Bool), vs = [v_thing] ∧ Sub F H ∧ eA.r F v_thing x_thing ∧ m_are_letters x_thing = some r ∧ ∀ (v : V) (F' H' : Hp) , Gr [] F H F' H' → eB.r F' v r → Q v H'
theorem sc_are_letters : FnScope ["thing", "sign"] ["thing"] (defScope s_are_letters) := ⟨rfl, rfl, rfl, by decide +kernel, rfl, by decide +kernel, by decide +kernel⟩
theorem ok_are_letters {f : Addr} {fd : FuncData} (F : FnP K "are_letters" s_are_letters f fd) (b_isinstance : mg "isinstance" = none) (b_str : mg "str" = none) (b_all : mg "all" = none) (c_LETTERS : ∃ t, mg "LETTERS" = some (.str "abcdefghijklmnopqrstuvwxyz" t)) : FnG P w K mg base CX0 1 f fd ["thing"] (sp_are_letters K) := by
  obtain ⟨t_LETTERS, c_LETTERS⟩ := c_LETTERS
  refine FnDok F sc_are_letters (fun vs H Q E h => ?_) (fun cdv A outer s H0 vs Q E gd hr h => ?_)
  · obtain ⟨_, _, _, _, rfl, _⟩ := h
    rfl
  · obtain ⟨F0, v_thing, x_thing, r0, rfl, hs0, r_thing, hm, hk⟩ := h
    have g0 : Gr [] F0 H0 F0 H0 := Gr.refl hs0
    refine ⟨_, PSs.nox (pss_one (ps_ret (pe_and (pe_callB (c_isi (K := K) rfl) (by rfl) b_isinstance bo_isinstance (pa_cons (pv 0) (pa_cons (pe_bltn (v := .ty "str") (by rfl) b_str bo_str rfl) pa_nil))) (pe_one (pe_callB (c_all (K := K) rfl (by rfl)) (by rfl) b_all bo_all (pa_cons (pe_lc (own := [("sign", 1)]) (g := gName 1) (by rfl) sc_are_letters.nd (pi_str (pv 0)) (blkOk_by (own := [("sign", 1)]) (N := ["thing", "sign"]) (sc := defScope s_are_letters) (by decide +kernel)) (fun _ _ _ _ _ => (pg_name (i := 1) sc_are_letters.nd rfl (Or.inl rfl))) (fun _ _ _ _ _ => pts_nil) (fun _ _ _ _ _ => (pe_cmpR c_inS (pv 1) (pe_glob (v := .str "abcdefghijklmnopqrstuvwxyz") (by rfl) c_LETTERS ⟨_, rfl⟩) (by with_unfolding_all rfl)))) pa_nil)))))), ?_⟩
    refine n_ret ?_
    refine n_andV ?_
    refine n_cb ?_
    refine n_cons ?_
    refine n_var rfl ?_
    refine n_cons ?_
    refine n_c ?_
    refine n_nil ?_
    refine v_isiA g0.fh (show eA.r F0 v_thing x_thing from r_thing) (kit_str _) ?_
    refine v_bl ?_
    obtain ⟨c2, hc2, hm⟩ := bnd hm
    refine br_andVM (c := c2) (fun H7 => ∃ (F3 : Hp), Gr [] F0 H0 F3 H7 ∧ Sub F0 F3) (fun hb1 Q7 k7 => ?_) (fun hb1 => ?_) ?_
    · have hm := ifT hb1 hc2
      refine n_cb ?_
      refine n_cons ?_
      refine n_lc ?_
      refine n_itS ?_
      refine n_var rfl ?_
      obtain ⟨o4, ho4, hm⟩ := bnd hm
      have r5 := cS.ok (show RA F0 v_thing x_thing from r_thing) (show cS.c x_thing = some o4 from ho4)
      obtain ⟨er5, lr5⟩ : v_thing = V.str (S o4) ∧ o4.length ≤ sizeLine := r5
      subst er5
      refine v_itS ?_
      obtain ⟨u8, hu8, hm⟩ := bnd hm
      obtain ⟨q9, hq9, hm⟩ := bnd hm
      intro D6 nD7
      have goD6 := g0.old nD7
      have gg34 := gr_newM (W := []) (o := .lst []) g0.fh nD7
      refine comp_s (sr_S o4) hq9 (need_ok hu8).1 (fun (acc7 : List Bool) H7 => ∃ (F7 : Hp) (vs7 : List V), Gr [] F0 H0 F7 H7 ∧ Sub F0 F7 ∧ F7 D6 = none ∧ H7 D6 = some (.lst vs7) ∧ Al eB F7 vs7 acc7) ⟨_, [], g0.trans0 gg34, Sub.refl _, g0.fh.nn nD7, upd_same, .nil⟩ ?_ ?_ ?_
      · intros; exact trivial
      · rintro a10 r12 acc13 x14 H15 H16 ⟨F21, vs22, g23, sb24, fD25, hD26, al27⟩ hY17 hm hl20 N18 hN19
        have m28 : Mu [] H0 F21 H15 D6 (.lst vs22) := ⟨fD25, hD26, .inl goD6⟩
        refine wipe_to (σ' := [some (.str (S o4)), none]) rfl ?_
        refine v_nmS hY17 fun l29 => ?_
        refine n_name (setS set0) ?_
        refine ⟨rfl, ?_⟩
        refine n_yes ?_ rfl
        refine n_op ?_
        refine n_var rfl ?_
        refine n_str (s := [97, 98, 99, 100, 101, 102, 103, 104, 105, 106, 107, 108, 109, 110, 111, 112, 113, 114, 115, 116, 117, 118, 119, 120, 121, 122]) (by decide +kernel) ?_
        refine v_inS ?_
        obtain rfl := Option.some.inj hm
        refine ⟨_, m28.hp, by rw [al_len al27]; exact hl20, hN19 _ ?_⟩
        exact ⟨_, _, m28.gr g23, sb24, m28.fr, upd_same, pd_snoc al27 (show eB.r F21 (.bl (inSg a10 ([97, 98, 99, 100, 101, 102, 103, 104, 105, 106, 107, 108, 109, 110, 111, 112, 113, 114, 115, 116, 117, 118, 119, 120, 121, 122] : Sg))) (inSg a10 ([97, 98, 99, 100, 101, 102, 103, 104, 105, 106, 107, 108, 109, 110, 111, 112, 113, 114, 115, 116, 117, 118, 119, 120, 121, 122] : Sg)) from rfl)⟩
      rintro H35 ⟨F36, vs37, g38, sb39, fD40, hD41, al42⟩
      have m43 : Mu [] H0 F36 H35 D6 (.lst vs37) := ⟨fD40, hD41, .inl goD6⟩
      obtain ⟨F44, q46, sb48, g47, d45⟩ := freeze g38 m43 (m43.own.resolve_right (by simp))
      have al49 := (Al.mono al42 sb48)
      refine n_nil ?_
      refine v_all (SqL.of (g47.fh _ _ q46)) al49 ?_
      obtain rfl := Option.some.inj hm
      exact k7 _ ⟨_, g47, (Sub.trans sb39 sb48)⟩
    · have hm := ifF hb1 hc2
      exact ⟨(Option.some.inj hm).symm, ⟨_, g0, Sub.refl _⟩⟩
    rintro H50 ⟨F53, g51, sb52⟩
    obtain rfl := Option.some.inj hm
    exact hk _ _ _  g51   rfl

def m_can_stand (x_ups : List Int) (x_k : Int) : Option Bool :=
  (atI x_ups x_k).bind fun a1 =>
  if (!((decide ((0 : Int) ≤ a1)) && (decide (a1 < x_k)))) = true then
  some false
  else
  (whileO 1000000 (x_k - (1 : Int)) (fun s11 =>
  (atI x_ups x_k).bind fun a19 =>
  some (decide (a19 < s11))) (fun s22 =>
  (atI x_ups s22).bind fun a30 =>
  some a30)).bind fun s10 =>
  (atI x_ups x_k).bind fun a37 =>
  some (decide (s10 = a37))
def sp_can_stand (K : PySem.W.Frag) : Sp := fun vs H Q _ => ∃ (F : Hp) (v_ups : V) (x_ups : List Int) (v_k : V) (x_k : Int) (r : Bool), vs = [v_ups, v_k] ∧ Sub F H ∧ (eR eI).r F v_ups x_ups ∧ eI.r F v_k x_k ∧ m_can_stand x_ups x_k = some r ∧ ∀ (v : V) (F' H' : Hp) , Gr [] F H F' H' → eB.r F' v r → Q v H'
theorem sc_can_stand : FnScope ["ups", "k", "place"] ["ups", "k"] (defScope s_can_stand) := ⟨rfl, rfl, rfl, by decide +kernel, rfl, by decide +kernel, by decide +kernel⟩
theorem ok_can_stand {f : Addr} {fd : FuncData} (F : FnP K "can_stand" s_can_stand f fd)  : FnG P w K mg base CX0 1 f fd ["ups", "k"] (sp_can_stand K) := by
  refine FnDok F sc_can_stand (fun vs H Q E h => ?_) (fun cdv A outer s H0 vs Q E gd hr h => ?_)
  · obtain ⟨_, _, _, _, _, _, rfl, _⟩ := h
    rfl
  · obtain ⟨F0, v_ups, x_ups, v_k, x_k, r0, rfl, hs0, r_ups, r_k, hm, hk⟩ := h
    have g0 : Gr [] F0 H0 F0 H0 := Gr.refl hs0
    have er_k : v_k = V.int x_k := r_k
    subst er_k
    refine ⟨_, PSs.nox (pss_cons (ps_if (pt_not (pt_chain op_le op_lt pe_int (pe_ix (c_ixT (K := K) rfl) (pv 0) (pv 1) (fun _ _ => rfl)) (pv 1))) (pss_one (ps_ret pe_bl)) pss_nil)
(pss_cons (ps_set (i := 2) sc_can_stand.nd rfl (by first | exact Or.inl rfl | exact Or.inr rfl) (pe_op op_sub (pv 1) pe_int))
(pss_cons (ps_while PassesOwn.never (pt_cmpR op_gt (pv 2) (pe_ix (c_ixT (K := K) rfl) (pv 0) (pv 1) (fun _ _ => rfl)) (nomark _)) (pss_one (ps_set (i := 2) sc_can_stand.nd rfl (by first | exact Or.inl rfl | exact Or.inr rfl) (pe_ix (c_ixT (K := K) rfl) (pv 0) (pv 2) (fun _ _ => rfl)))))
(pss_one (ps_ret (pe_cmpR op_eq (pv 2) (pe_ix (c_ixT (K := K) rfl) (pv 0) (pv 1) (fun _ _ => rfl)) (nomark _))))))), ?_⟩
    refine n_seq ?_
    refine n_ifs ?_
    refine n_not ?_
    refine n_test ?_
    refine n_chain ?_
    refine n_c ?_
    refine n_op ?_
    refine n_var rfl ?_
    refine n_var rfl ?_
    obtain ⟨a1, ha1, hm⟩ := bnd hm
    obtain ⟨p2, vs3, ep2, q4, al5⟩ := r_ups
    subst ep2
    refine v_ixT (sqR g0.fh q4) al5 ha1 fun v6 r7 => ?_
    have er7 : v6 = V.int a1 := r7
    subst er7
    refine v_i2 ?_
    refine v_bl ?_
    refine br_chain (b := (decide (a1 < x_k))) (fun _ Q7 k7 => ?_) ?_
    · refine n_var rfl ?_
      refine v_i2 ?_
      exact k7
    refine v_bl ?_
    refine br (fun hb9 => ?_) (fun hb9 => ?_)
    · replace hm := ifT hb9 hm
      refine n_ret ?_
      refine n_c ?_
      obtain rfl := Option.some.inj hm
      exact hk _ _ _  g0   rfl
    replace hm := ifF hb9 hm
    refine n_nextS ?_
    refine n_seq ?_
    refine n_asg ?_
    refine n_op ?_
    refine n_var rfl ?_
    refine n_c ?_
    refine v_i2 ?_
    refine n_name (setS (setS set0)) ?_
    refine n_seq ?_
    obtain ⟨s10, hs10, hm⟩ := bnd hm
    refine while_o hs10 (fun (s7 : Int) σ7 H7 => ∃ (F7 : Hp), σ7 = [some (.ref p2), some (.int x_k), some (.int s7)] ∧ Gr [] F0 H0 F7 H7 ∧ Sub F0 F7) ⟨_, rfl, g0, Sub.refl _⟩ ?_ ?_ ?_
    · rintro s11 b12 _ H13 ⟨F16, rfl, g17, sb18⟩ hm P14 hP15
      refine n_test ?_
      refine n_op ?_
      refine n_var rfl ?_
      refine n_op ?_
      refine n_var rfl ?_
      refine n_var rfl ?_
      obtain ⟨a19, ha19, hm⟩ := bnd hm
      refine v_ixT (sqR g17.fh (Sub.rd sb18 q4)) (Al.mono al5 sb18) ha19 fun v20 r21 => ?_
      have er21 : v20 = V.int a19 := r21
      subst er21
      refine v_i2 ?_
      refine v_bl ?_
      obtain rfl := Option.some.inj hm
      exact hP15 _ ⟨_, rfl, g17, sb18⟩
    · rintro s22 s23 _ H24 ⟨F27, rfl, g28, sb29⟩ _ hm N25 hN26
      refine n_asg ?_
      refine n_op ?_
      refine n_var rfl ?_
      refine n_var rfl ?_
      obtain ⟨a30, ha30, hm⟩ := bnd hm
      refine v_ixT (sqR g28.fh (Sub.rd sb29 q4)) (Al.mono al5 sb29) ha30 fun v31 r32 => ?_
      have er32 : v31 = V.int a30 := r32
      subst er32
      refine n_name (setS (setS set0)) ?_
      obtain rfl := Option.some.inj hm
      exact hN26 _ _ ⟨_, rfl, g28, sb29⟩
    rintro _ H33 ⟨F34, rfl, g35, sb36⟩ _
    refine n_ret ?_
    refine n_op ?_
    refine n_var rfl ?_
    refine n_op ?_
    refine n_var rfl ?_
    refine n_var rfl ?_
    obtain ⟨a37, ha37, hm⟩ := bnd hm
    refine v_ixT (sqR g35.fh (Sub.rd sb36 q4)) (Al.mono al5 sb36) ha37 fun v38 r39 => ?_
    have er39 : v38 = V.int a37 := r39
    subst er39
    refine v_eqI ?_
    obtain rfl := Option.some.inj hm
    exact hk _ _ _  g35   rfl

def m_are_ups (x_ups : List Int) : Option Bool :=
  (atI x_ups (0 : Int)).bind fun a1 =>
  if (!decide (a1 = ((0 : Int) - (1 : Int)))) = true then
  some false
  else
  (uptoM (1 : Int) (x_ups.length : Int)).bind fun l9 =>
  (foldR l9 () fun s13 a12 =>
  (m_can_stand x_ups a12).bind fun r26 =>
  if (!r26) = true then
  some (.rt false)
  else
  some (.nx ())).bind fun z10 =>
  thenF z10 (fun s35 =>
  some true) (fun r7 => some r7)
def sp_are_ups (K : PySem.W.Frag) : Sp := fun vs H Q _ => ∃ (F : Hp) (v_ups : V) (x_ups : List Int) (r : Bool), vs = [v_ups] ∧ Sub F H ∧ (eR eI).r F v_ups x_ups ∧ m_are_ups x_ups = some r ∧ ∀ (v : V) (F' H' : Hp) , Gr [] F H F' H' → eB.r F' v r → Q v H'
theorem sc_are_ups : FnScope ["ups", "k"] ["ups"] (defScope s_are_ups) := ⟨rfl, rfl, rfl, by decide +kernel, rfl, by decide +kernel, by decide +kernel⟩
theorem ok_are_ups {f : Addr} {fd : FuncData} (F : FnP K "are_ups" s_are_ups f fd) (H_can_stand : HasG P w K mg base "can_stand" ["ups", "k"] 1 (sp_can_stand K)) (b_range : mg "range" = none) (b_len : mg "len" = none) : FnG P w K mg base CX0 2 f fd ["ups"] (sp_are_ups K) := by
  obtain ⟨f_can_stand, fd_can_stand, G0_can_stand, g_can_stand, k_can_stand, b_can_stand⟩ := H_can_stand
  have G_can_stand := G0_can_stand.mono (show 1 ≤ 1 by decide)
  refine FnDok F sc_are_ups (fun vs H Q E h => ?_) (fun cdv A outer s H0 vs Q E gd hr h => ?_)
  · obtain ⟨_, _, _, _, rfl, _⟩ := h
    rfl
  · obtain ⟨F0, v_ups, x_ups, r0, rfl, hs0, r_ups, hm, hk⟩ := h
    have g0 : Gr [] F0 H0 F0 H0 := Gr.refl hs0
    refine ⟨_, PSs.nox (pss_cons (ps_if (pt_cmpR op_ne (pe_ix (c_ixT (K := K) rfl) (pv 0) pe_int (fun _ _ => rfl)) (pe_op op_sub pe_int pe_int) (nomark _)) (pss_one (ps_ret pe_bl)) pss_nil)
(pss_cons (ps_for PassesOwn.never rfl (pi_range2 (by rfl) b_range (pa_cons pe_int (pa_cons (pe_callB (c_len (K := K) rfl) (by rfl) b_len bo_len (pa_cons (pv 0) pa_nil)) pa_nil))) (pg_name (i := 1) sc_are_ups.nd rfl (by first | exact Or.inl rfl | exact Or.inr rfl)) (pss_one (ps_if (pt_not (pt_val (pe_callG G_can_stand gd hr (by rfl) g_can_stand k_can_stand b_can_stand pass0 (pa_cons (pv 0) (pa_cons (pv 1) pa_nil))))) (pss_one (ps_ret pe_bl)) pss_nil)))
(pss_one (ps_ret pe_bl)))), ?_⟩
    refine n_seq ?_
    refine n_ifs ?_
    refine n_test ?_
    refine n_op ?_
    refine n_op ?_
    refine n_var rfl ?_
    refine n_c ?_
    obtain ⟨a1, ha1, hm⟩ := bnd hm
    obtain ⟨p2, vs3, ep2, q4, al5⟩ := r_ups
    subst ep2
    refine v_ixT (sqR g0.fh q4) al5 ha1 fun v6 r7 => ?_
    have er7 : v6 = V.int a1 := r7
    subst er7
    refine n_op ?_
    refine n_c ?_
    refine n_c ?_
    refine v_i2 ?_
    refine v_neI ?_
    refine v_bl ?_
    refine br (fun hb8 => ?_) (fun hb8 => ?_)
    · replace hm := ifT hb8 hm
      refine n_ret ?_
      refine n_c ?_
      obtain rfl := Option.some.inj hm
      exact hk _ _ _  g0   rfl
    replace hm := ifF hb8 hm
    refine n_nextS ?_
    refine n_seq ?_
    refine n_for ?_
    refine n_rng2 ?_
    refine n_cons ?_
    refine n_c ?_
    refine n_cons ?_
    refine n_cb ?_
    refine n_cons ?_
    refine n_var rfl ?_
    refine n_nil ?_
    refine v_len (.inr (sqR g0.fh q4)) al5 ?_
    refine n_nil ?_
    obtain ⟨l9, hl9, hm⟩ := bnd hm
    refine v_rng2 hl9 ?_
    obtain ⟨z10, hz10, hm⟩ := bnd hm
    have hmo11 := hm
    refine for_r (sr_R2 hl9) hz10 (fun (s7 : Unit) σ7 H7 => ∃ (F7 : Hp) (o_k : Option V), σ7 = [some (.ref p2), o_k] ∧ Gr [] F0 H0 F7 H7 ∧ Sub F0 F7) ⟨_, _, rfl, g0, Sub.refl _⟩ ?_ ?_ ?_
    · intros; exact trivial
    · rintro a12 s13 s14 x15 _ H16 H17 ⟨F21, o24, rfl, g22, sb23⟩ hY18 hm hrt25 N19 hN20
      refine v_nmR hY18 ?_
      refine n_name (setS set0) ?_
      refine n_ifs ?_
      refine n_not ?_
      refine n_tB ?_
      refine n_call ?_
      refine n_cons ?_
      refine n_var rfl ?_
      refine n_cons ?_
      refine n_var rfl ?_
      refine n_nil ?_
      obtain ⟨r26, hr26, hm⟩ := bnd hm
      refine ⟨F21, (.ref p2), x_ups, .int a12, a12, r26, rfl, g22.fh, (Rp.mono (eR eI) sb23 (⟨p2, vs3, rfl, q4, al5⟩ : (eR eI).r F0 (.ref p2) x_ups)), rfl, hr26, fun v30 F27 H28 d29 r31 => ?_⟩
      have g32 := g22.trans0 d29
      have er31 : v30 = V.bl r26 := r31
      subst er31
      refine v_bl ?_
      refine br (fun hb33 => ?_) (fun hb33 => ?_)
      · replace hm := ifT hb33 hm
        refine n_ret ?_
        refine n_c ?_
        obtain rfl := Option.some.inj hm
        have hm := thenF_rt (hrt25 _ rfl) hmo11
        obtain rfl := Option.some.inj hm
        exact hk _ _ _  g32   rfl
      replace hm := ifF hb33 hm
      refine n_nextS ?_
      obtain rfl := Option.some.inj hm
      exact hN20 _ _ _ rfl ⟨_, _, rfl, g32, (Sub.trans sb23 d29.ff)⟩
    rintro s35 _ H34 e36 ⟨F37, o40, rfl, g38, sb39⟩
    subst e36
    replace hm := thenF_nx hm
    refine n_ret ?_
    refine n_c ?_
    obtain rfl := Option.some.inj hm
    exact hk _ _ _  g38   rfl

def m_is_tree (x_thing : An) : Option Bool :=
  (if (!x_thing.isT) = true then
  some true
  else
  (An.lenM x_thing).bind fun a5 =>
  some (!decide (a5 = (2 : Int)))).bind fun c3 =>
  if c3 = true then
  some false
  else
  (An.un2 x_thing).bind fun o11 =>
  (m_are_letters o11.2).bind fun r16 =>
  (if (!r16) = true then
  some true
  else
  (An.lenM o11.2).bind fun a28 =>
  some (!((decide ((1 : Int) ≤ a28)) && (decide (a28 ≤ (60 : Int)))))).bind fun c26 =>
  if c26 = true then
  some false
  else
  (if (!o11.1.isT) = true then
  some true
  else
  (An.lenM o11.1).bind fun a38 =>
  (An.lenM o11.2).bind fun a39 =>
  (if (!decide (a38 = a39)) = true then
  some true
  else
  (An.tupM o11.1).bind fun o43 =>
  (need (szB o43.length) ()).bind fun u51 =>
  (compS o43 fun a53 =>
  (m_is_whole a53).bind fun r73 =>
  some (some r73)).bind fun q52 =>
  some (!(q52.all id))).bind fun c41 =>
  some c41).bind fun c36 =>
  if c36 = true then
  some false
  else
  ((cR cI).c o11.1).bind fun o110 =>
  (m_are_ups o110).bind fun r112 =>
  some r112
def sp_is_tree (K : PySem.W.Frag) : Sp := fun vs H Q _ => ∃ (F : Hp) (v_thing : V) (x_thing : An) (r : Bool), vs = [v_thing] ∧ Sub F H ∧ eA.r F v_thing x_thing ∧ m_is_tree x_thing = some r ∧ ∀ (v : V) (F' H' : Hp) , Gr [] F H F' H' → eB.r F' v r → Q v H'
theorem sc_is_tree : FnScope ["thing", "ups", "labels", "up"] ["thing"] (defScope s_is_tree) := ⟨rfl, rfl, rfl, by decide +kernel, rfl, by decide +kernel, by decide +kernel⟩
theorem ok_is_tree {f : Addr} {fd : FuncData} (F : FnP K "is_tree" s_is_tree f fd) (H_are_ups : HasG P w K mg base "are_ups" ["ups"] 2 (sp_are_ups K)) (H_are_letters : HasG P w K mg base "are_letters" ["thing"] 1 (sp_are_letters K)) (H_is_whole : HasG P w K mg base "is_whole" ["thing"] 1 (sp_is_whole K)) (b_isinstance : mg "isinstance" = none) (b_tuple : mg "tuple" = none) (b_len : mg "len" = none) (b_all : mg "all" = none) (c_MOST_PLACES : ∃ t, mg "MOST_PLACES" = some (.int 60 t)) : FnG P w K mg base CX0 3 f fd ["thing"] (sp_is_tree K) := by
  obtain ⟨f_are_ups, fd_are_ups, G0_are_ups, g_are_ups, k_are_ups, b_are_ups⟩ := H_are_ups
  have G_are_ups := G0_are_ups.mono (show 2 ≤ 2 by decide)
  obtain ⟨f_are_letters, fd_are_letters, G0_are_letters, g_are_letters, k_are_letters, b_are_letters⟩ := H_are_letters
  have G_are_letters := G0_are_letters.mono (show 1 ≤ 2 by decide)
  obtain ⟨f_is_whole, fd_is_whole, G0_is_whole, g_is_whole, k_is_whole, b_is_whole⟩ := H_is_whole
  have G_is_whole := G0_is_whole.mono (show 1 ≤ 2 by decide)
  obtain ⟨t_MOST_PLACES, c_MOST_PLACES⟩ := c_MOST_PLACES
  refine FnDok F sc_is_tree (fun vs H Q E h => ?_) (fun cdv A outer s H0 vs Q E gd hr h => ?_)
  · obtain ⟨_, _, _, _, rfl, _⟩ := h
    rfl
  · obtain ⟨F0, v_thing, x_thing, r0, rfl, hs0, r_thing, hm, hk⟩ := h
    have g0 : Gr [] F0 H0 F0 H0 := Gr.refl hs0
    refine ⟨_, PSs.nox (pss_cons (ps_if (PW.pt (pw_or (pt_not (pt_val (pe_callB (c_isi (K := K) rfl) (by rfl) b_isinstance bo_isinstance (pa_cons (pv 0) (pa_cons (pe_bltn (v := .ty "tuple") (by rfl) b_tuple bo_tuple rfl) pa_nil))))) (pw_or1 (pt_cmpR op_ne (pe_callB (c_lenA (K := K) rfl) (by rfl) b_len bo_len (pa_cons (pv 0) pa_nil)) pe_int (nomark _))))) (pss_one (ps_ret pe_bl)) pss_nil)
(pss_cons (ps_asg (pv 0) (c_pgtup (K := K) rfl (by rfl) (pgs_cons (pg_name (i := 1) sc_is_tree.nd rfl (by first | exact Or.inl rfl | exact Or.inr rfl)) (pgs_cons (pg_name (i := 2) sc_is_tree.nd rfl (by first | exact Or.inl rfl | exact Or.inr rfl)) pgs_nil))))
(pss_cons (ps_if (PW.pt (pw_or (pt_not (pt_val (pe_callG G_are_letters gd hr (by rfl) g_are_letters k_are_letters b_are_letters pass0 (pa_cons (pv 2) pa_nil)))) (pw_or1 (pt_not (pt_chain op_le op_le pe_int (pe_callB (c_lenA (K := K) rfl) (by rfl) b_len bo_len (pa_cons (pv 2) pa_nil)) (pe_glob (v := .int 60) (by rfl) c_MOST_PLACES ⟨_, rfl⟩)))))) (pss_one (ps_ret pe_bl)) pss_nil)
(pss_cons (ps_if (PW.pt (pw_or (pt_not (pt_val (pe_callB (c_isi (K := K) rfl) (by rfl) b_isinstance bo_isinstance (pa_cons (pv 1) (pa_cons (pe_bltn (v := .ty "tuple") (by rfl) b_tuple bo_tuple rfl) pa_nil))))) (pw_or (pt_cmpR op_ne (pe_callB (c_lenA (K := K) rfl) (by rfl) b_len bo_len (pa_cons (pv 1) pa_nil)) (pe_callB (c_lenA (K := K) rfl) (by rfl) b_len bo_len (pa_cons (pv 2) pa_nil)) (nomark _)) (pw_or1 (pt_not (pt_val (pe_callB (c_all (K := K) rfl (by rfl)) (by rfl) b_all bo_all (pa_cons (pe_lc (own := [("up", 3)]) (g := gName 3) (by rfl) sc_is_tree.nd (c_pitup (K := K) rfl (pv 1)) (blkOk_by (own := [("up", 3)]) (N := ["thing", "ups", "labels", "up"]) (sc := defScope s_is_tree) (by decide +kernel)) (fun _ _ _ _ _ => (pg_name (i := 3) sc_is_tree.nd rfl (Or.inl rfl))) (fun _ _ _ _ _ => pts_nil) (fun _ _ _ _ _ => (pe_callG G_is_whole gd hr (by rfl) g_is_whole k_is_whole b_is_whole pass0 (pa_cons (pv 3) pa_nil)))) pa_nil)))))))) (pss_one (ps_ret pe_bl)) pss_nil)
(pss_one (ps_ret (pe_callG G_are_ups gd hr (by rfl) g_are_ups k_are_ups b_are_ups pass0 (pa_cons (pv 1) pa_nil)))))))), ?_⟩
    refine n_seq ?_
    refine n_ifs ?_
    refine n_or ?_
    refine n_not ?_
    refine n_tB ?_
    refine n_cb ?_
    refine n_cons ?_
    refine n_var rfl ?_
    refine n_cons ?_
    refine n_c ?_
    refine n_nil ?_
    refine v_isiA g0.fh (show eA.r F0 v_thing x_thing from r_thing) (kit_tuple _) ?_
    refine v_bl ?_
    obtain ⟨c3, hc3, hm⟩ := bnd hm
    refine br_orTM (c := c3) (fun H7 => ∃ (F4 : Hp), Gr [] F0 H0 F4 H7 ∧ Sub F0 F4) (fun hb1 Q7 k7 => ?_) (fun hb1 => ?_) ?_
    · have hm := ifF hb1 hc3
      refine n_test ?_
      refine n_op ?_
      refine n_cb ?_
      refine n_cons ?_
      refine n_var rfl ?_
      refine n_nil ?_
      obtain ⟨a5, ha5, hm⟩ := bnd hm
      refine v_lenA g0.fh (show eA.r F0 v_thing x_thing from r_thing) ha5 ?_
      refine n_c ?_
      refine v_neI ?_
      refine v_bl ?_
      obtain rfl := Option.some.inj hm
      exact k7 _ ⟨_, g0, Sub.refl _⟩
    · have hm := ifT hb1 hc3
      exact ⟨(Option.some.inj hm).symm, ⟨_, g0, Sub.refl _⟩⟩
    rintro H6 ⟨F9, g7, sb8⟩
    refine br (fun hb10 => ?_) (fun hb10 => ?_)
    · replace hm := ifT hb10 hm
      refine n_ret ?_
      refine n_c ?_
      obtain rfl := Option.some.inj hm
      exact hk _ _ _  g7   rfl
    replace hm := ifF hb10 hm
    refine n_nextS ?_
    refine n_seq ?_
    refine n_asg ?_
    refine n_var rfl ?_
    obtain ⟨o11, ho11, hm⟩ := bnd hm
    refine v_unpA2 g7.fh (show eA.r F9 v_thing x_thing from (Rp.mono eA sb8 r_thing)) ho11 fun v12 v14 r13 r15 => ?_
    refine n_gcons ?_
    refine n_name (setS set0) ?_
    refine n_gcons ?_
    refine n_name (setS (setS set0)) ?_
    refine n_gnil ?_
    refine n_seq ?_
    refine n_ifs ?_
    refine n_or ?_
    refine n_not ?_
    refine n_tB ?_
    refine n_call ?_
    refine n_cons ?_
    refine n_var rfl ?_
    refine n_nil ?_
    obtain ⟨r16, hr16, hm⟩ := bnd hm
    refine ⟨F9, v14, o11.2, r16, rfl, g7.fh, r15, hr16, fun v20 F17 H18 d19 r21 => ?_⟩
    have g22 := g7.trans0 d19
    have er21 : v20 = V.bl r16 := r21
    subst er21
    refine v_bl ?_
    obtain ⟨c26, hc26, hm⟩ := bnd hm
    refine br_orTM (c := c26) (fun H7 => ∃ (F27 : Hp), Gr [] F0 H0 F27 H7 ∧ Sub F17 F27) (fun hb23 Q7 k7 => ?_) (fun hb23 => ?_) ?_
    · have hm := ifF hb23 hc26
      refine n_not ?_
      refine n_test ?_
      refine n_chain ?_
      refine n_c ?_
      refine n_cb ?_
      refine n_cons ?_
      refine n_var rfl ?_
      refine n_nil ?_
      obtain ⟨a28, ha28, hm⟩ := bnd hm
      refine v_lenA g22.fh (show eA.r F17 v14 o11.2 from (Rp.mono eA d19.ff r15)) ha28 ?_
      refine v_i2 ?_
      refine v_bl ?_
      refine br_chain (b := (decide (a28 ≤ (60 : Int)))) (fun _ Q7 k7 => ?_) ?_
      · refine n_c ?_
        refine v_i2 ?_
        exact k7
      refine v_bl ?_
      obtain rfl := Option.some.inj hm
      exact k7 _ ⟨_, g22, Sub.refl _⟩
    · have hm := ifT hb23 hc26
      exact ⟨(Option.some.inj hm).symm, ⟨_, g22, Sub.refl _⟩⟩
    rintro H30 ⟨F33, g31, sb32⟩
    refine br (fun hb34 => ?_) (fun hb34 => ?_)
    · replace hm := ifT hb34 hm
      refine n_ret ?_
      refine n_c ?_
      obtain rfl := Option.some.inj hm
      exact hk _ _ _  g31   rfl
    replace hm := ifF hb34 hm
    refine n_nextS ?_
    refine n_seq ?_
    refine n_ifs ?_
    refine n_or ?_
    refine n_not ?_
    refine n_tB ?_
    refine n_cb ?_
    refine n_cons ?_
    refine n_var rfl ?_
    refine n_cons ?_
    refine n_c ?_
    refine n_nil ?_
    refine v_isiA g31.fh (show eA.r F33 v12 o11.1 from (Rp.mono eA (Sub.trans d19.ff sb32) r13)) (kit_tuple _) ?_
    refine v_bl ?_
    obtain ⟨c36, hc36, hm⟩ := bnd hm
    refine br_orTM (c := c36) (fun H7 => ∃ (F37 : Hp), Gr [] F0 H0 F37 H7 ∧ Sub F33 F37) (fun hb35 Q7 k7 => ?_) (fun hb35 => ?_) ?_
    · have hm := ifF hb35 hc36
      refine n_or ?_
      refine n_test ?_
      refine n_op ?_
      refine n_cb ?_
      refine n_cons ?_
      refine n_var rfl ?_
      refine n_nil ?_
      obtain ⟨a38, ha38, hm⟩ := bnd hm
      refine v_lenA g31.fh (show eA.r F33 v12 o11.1 from (Rp.mono eA (Sub.trans d19.ff sb32) r13)) ha38 ?_
      refine n_cb ?_
      refine n_cons ?_
      refine n_var rfl ?_
      refine n_nil ?_
      obtain ⟨a39, ha39, hm⟩ := bnd hm
      refine v_lenA g31.fh (show eA.r F33 v14 o11.2 from (Rp.mono eA (Sub.trans d19.ff sb32) r15)) ha39 ?_
      refine v_neI ?_
      refine v_bl ?_
      obtain ⟨c41, hc41, hm⟩ := bnd hm
      refine br_orTM (c := c41) (fun H7 => ∃ (F42 : Hp), Gr [] F0 H0 F42 H7 ∧ Sub F33 F42) (fun hb40 Q7 k7 => ?_) (fun hb40 => ?_) ?_
      · have hm := ifF hb40 hc41
        refine n_not ?_
        refine n_tB ?_
        refine n_cb ?_
        refine n_cons ?_
        refine n_lc ?_
        refine n_itT ?_
        refine n_var rfl ?_
        obtain ⟨o43, ho43, hm⟩ := bnd hm
        have r44 := cRA.ok (show RA F33 v12 o11.1 from (Rp.mono eA (Sub.trans d19.ff sb32) r13)) (show cRA.c o11.1 = some o43 from ho43)
        obtain ⟨p45, vs46, ep45, q47, al48⟩ := r44
        subst ep45
        refine v_itT (sqR g31.fh q47) ?_
        obtain ⟨u51, hu51, hm⟩ := bnd hm
        obtain ⟨q52, hq52, hm⟩ := bnd hm
        intro D49 nD50
        have goD49 := g31.old nD50
        have gg85 := gr_newM (W := []) (o := .lst []) g31.fh nD50
        refine comp_s (sr_T al48) hq52 (need_ok hu51).1 (fun (acc7 : List Bool) H7 => ∃ (F7 : Hp) (vs7 : List V), Gr [] F0 H0 F7 H7 ∧ Sub F33 F7 ∧ F7 D49 = none ∧ H7 D49 = some (.lst vs7) ∧ Al eB F7 vs7 acc7) ⟨_, [], g31.trans0 gg85, Sub.refl _, g31.fh.nn nD50, upd_same, .nil⟩ ?_ ?_ ?_
        · rintro _ _ ⟨F64, vs65, g66, sb67, _, _, _⟩
          exact (sqR g66.fh (Sub.rd sb67 q47))
        · rintro a53 r55 acc56 x57 H58 H59 ⟨F64, vs65, g66, sb67, fD68, hD69, al70⟩ hY60 hm hl63 N61 hN62
          have m71 : Mu [] H0 F64 H58 D49 (.lst vs65) := ⟨fD68, hD69, .inl goD49⟩
          refine wipe_to (σ' := [some v_thing, some (.ref p45), some v14, none]) rfl ?_
          refine v_nmY hY60 fun r72 => ?_
          refine n_name (setS (setS (setS set0))) ?_
          refine ⟨rfl, ?_⟩
          refine n_yes ?_ rfl
          refine n_call ?_
          refine n_cons ?_
          refine n_var rfl ?_
          refine n_nil ?_
          obtain ⟨r73, hr73, hm⟩ := bnd hm
          refine ⟨F64, x57, a53, r73, rfl, g66.fh, (Rp.mono eA sb67 r72), hr73, fun v77 F74 H75 d76 r78 => ?_⟩
          have g79 := g66.trans0 d76
          have m80 := m71.call0 d76
          have er78 : v77 = V.bl r73 := r78
          subst er78
          obtain rfl := Option.some.inj hm
          refine ⟨_, m80.hp, by rw [al_len (Al.mono al70 d76.ff)]; exact hl63, hN62 _ ?_⟩
          exact ⟨_, _, m80.gr g79, (Sub.trans sb67 d76.ff), m80.fr, upd_same, pd_snoc (Al.mono al70 d76.ff) (show eB.r F74 (.bl r73) r73 from rfl)⟩
        rintro H86 ⟨F87, vs88, g89, sb90, fD91, hD92, al93⟩
        have m94 : Mu [] H0 F87 H86 D49 (.lst vs88) := ⟨fD91, hD92, .inl goD49⟩
        obtain ⟨F95, q97, sb99, g98, d96⟩ := freeze g89 m94 (m94.own.resolve_right (by simp))
        have al100 := (Al.mono al93 sb99)
        refine n_nil ?_
        refine v_all (SqL.of (g98.fh _ _ q97)) al100 ?_
        refine v_bl ?_
        obtain rfl := Option.some.inj hm
        exact k7 _ ⟨_, g98, (Sub.trans sb90 sb99)⟩
      · have hm := ifT hb40 hc41
        exact ⟨(Option.some.inj hm).symm, ⟨_, g31, Sub.refl _⟩⟩
      rintro H101 ⟨F104, g102, sb103⟩
      obtain rfl := Option.some.inj hm
      exact k7 _ ⟨_, g102, sb103⟩
    · have hm := ifT hb35 hc36
      exact ⟨(Option.some.inj hm).symm, ⟨_, g31, Sub.refl _⟩⟩
    rintro H105 ⟨F108, g106, sb107⟩
    refine br (fun hb109 => ?_) (fun hb109 => ?_)
    · replace hm := ifT hb109 hm
      refine n_ret ?_
      refine n_c ?_
      obtain rfl := Option.some.inj hm
      exact hk _ _ _  g106   rfl
    replace hm := ifF hb109 hm
    refine n_nextS ?_
    refine n_ret ?_
    refine n_call ?_
    refine n_cons ?_
    refine n_var rfl ?_
    refine n_nil ?_
    obtain ⟨o110, ho110, hm⟩ := bnd hm
    have r111 := (cR cI).ok (show RA F108 v12 o11.1 from (Rp.mono eA (Sub.trans d19.ff (Sub.trans sb32 sb107)) r13)) (show (cR cI).c o11.1 = some o110 from ho110)
    obtain ⟨r112, hr112, hm⟩ := bnd hm
    refine ⟨F108, v12, o110, r112, rfl, g106.fh, r111, hr112, fun v116 F113 H114 d115 r117 => ?_⟩
    have g118 := g106.trans0 d115
    have er117 : v116 = V.bl r112 := r117
    subst er117
    obtain rfl := Option.some.inj hm
    exact hk _ _ _  g118   rfl

def m_is_trie (x_thing : An) : Option Bool :=
  (m_is_tree x_thing).bind fun r1 =>
  if (!r1) = true then
  some false
  else
  (An.un2 x_thing).bind fun o9 =>
  (An.lenM o9.1).bind fun a21 =>
  (repM [([] : Sg)] a21).bind fun l22 =>
  (An.seqM o9.1).bind fun o34 =>
  (foldR (enumL o34) l22 fun s51 a50 =>
  (An.intM a50.2).bind fun o73 =>
  if (decide ((0 : Int) ≤ o73)) = true then
  (atI s51 o73).bind fun a76 =>
  (An.ixM o9.2 a50.1).bind fun a79 =>
  (An.strM a79).bind fun o82 =>
  if (!decide (a76 < o82)) = true then
  some (.rt false)
  else
  (An.ixM o9.2 a50.1).bind fun a85 =>
  (An.strM a85).bind fun o88 =>
  (setM s51 o73 o88).bind fun l90 =>
  some (.nx l90)
  else
  some (.nx s51)).bind fun z40 =>
  thenF z40 (fun s99 =>
  some true) (fun r7 => some r7)
def sp_is_trie (K : PySem.W.Frag) : Sp := fun vs H Q _ => ∃ (F : Hp) (v_thing : V) (x_thing : An) (r : Bool), vs = [v_thing] ∧ Sub F H ∧ eA.r F v_thing x_thing ∧ m_is_trie x_thing = some r ∧ ∀ (v : V) (F' H' : Hp) , Gr [] F H F' H' → eB.r F' v r → Q v H'
theorem sc_is_trie : FnScope ["thing", "lasts", "ups", "labels", "place", "up"] ["thing"] (defScope s_is_trie) := ⟨rfl, rfl, rfl, by decide +kernel, rfl, by decide +kernel, by decide +kernel⟩
theorem ok_is_trie {f : Addr} {fd : FuncData} (F : FnP K "is_trie" s_is_trie f fd) (H_is_tree : HasG P w K mg base "is_tree" ["thing"] 3 (sp_is_tree K)) (b_enumerate : mg "enumerate" = none) (b_len : mg "len" = none) : FnG P w K mg base CX0 4 f fd ["thing"] (sp_is_trie K) := by
  obtain ⟨f_is_tree, fd_is_tree, G0_is_tree, g_is_tree, k_is_tree, b_is_tree⟩ := H_is_tree
  have G_is_tree := G0_is_tree.mono (show 3 ≤ 3 by decide)
  refine FnDok F sc_is_trie (fun vs H Q E h => ?_) (fun cdv A outer s H0 vs Q E gd hr h => ?_)
  · obtain ⟨_, _, _, _, rfl, _⟩ := h
    rfl
  · obtain ⟨F0, v_thing, x_thing, r0, rfl, hs0, r_thing, hm, hk⟩ := h
    have g0 : Gr [] F0 H0 F0 H0 := Gr.refl hs0
    refine ⟨_, PSs.nox (pss_cons (ps_if (pt_not (pt_val (pe_callG G_is_tree gd hr (by rfl) g_is_tree k_is_tree b_is_tree pass0 (pa_cons (pv 0) pa_nil)))) (pss_one (ps_ret pe_bl)) pss_nil)
(pss_cons (ps_asg (pv 0) (c_pgtup (K := K) rfl (by rfl) (pgs_cons (pg_name (i := 2) sc_is_trie.nd rfl (by first | exact Or.inl rfl | exact Or.inr rfl)) (pgs_cons (pg_name (i := 3) sc_is_trie.nd rfl (by first | exact Or.inl rfl | exact Or.inr rfl)) pgs_nil))))
(pss_cons (ps_set (i := 1) sc_is_trie.nd rfl (by first | exact Or.inl rfl | exact Or.inr rfl) (pe_op op_rep (pe_lst (pa_cons pe_str pa_nil)) (pe_callB (c_lenA (K := K) rfl) (by rfl) b_len bo_len (pa_cons (pv 2) pa_nil))))
(pss_cons (ps_for PassesOwn.never rfl (pi_en (K := K) rfl (by rfl) b_enumerate (pa_cons (pv 2) pa_nil)) (c_pgtup (K := K) rfl (by rfl) (pgs_cons (pg_name (i := 4) sc_is_trie.nd rfl (by first | exact Or.inl rfl | exact Or.inr rfl)) (pgs_cons (pg_name (i := 5) sc_is_trie.nd rfl (by first | exact Or.inl rfl | exact Or.inr rfl)) pgs_nil))) (pss_one (ps_if (pt_cmpR op_ge (pv 5) pe_int (nomark _)) (pss_cons (ps_if (pt_cmpR c_geS (pe_ix (c_ixL (K := K) rfl) (pv 1) (pv 5) (fun _ _ => rfl)) (pe_ix (c_ixA (K := K) rfl) (pv 3) (pv 4) (fun _ _ => rfl)) (nomark _)) (pss_one (ps_ret pe_bl)) pss_nil)
(pss_one (ps_asg (pe_ix (c_ixA (K := K) rfl) (pv 3) (pv 4) (fun _ _ => rfl)) (pg_sub (pv 1) (pv 5) set_list)))) pss_nil)))
(pss_one (ps_ret pe_bl)))))), ?_⟩
    refine n_seq ?_
    refine n_ifs ?_
    refine n_not ?_
    refine n_tB ?_
    refine n_call ?_
    refine n_cons ?_
    refine n_var rfl ?_
    refine n_nil ?_
    obtain ⟨r1, hr1, hm⟩ := bnd hm
    refine ⟨F0, v_thing, x_thing, r1, rfl, g0.fh, r_thing, hr1, fun v5 F2 H3 d4 r6 => ?_⟩
    have g7 := g0.trans0 d4
    have er6 : v5 = V.bl r1 := r6
    subst er6
    refine v_bl ?_
    refine br (fun hb8 => ?_) (fun hb8 => ?_)
    · replace hm := ifT hb8 hm
      refine n_ret ?_
      refine n_c ?_
      obtain rfl := Option.some.inj hm
      exact hk _ _ _  g7   rfl
    replace hm := ifF hb8 hm
    refine n_nextS ?_
    refine n_seq ?_
    refine n_asg ?_
    refine n_var rfl ?_
    obtain ⟨o9, ho9, hm⟩ := bnd hm
    refine v_unpA2 g7.fh (show eA.r F2 v_thing x_thing from (Rp.mono eA d4.ff r_thing)) ho9 fun v10 v12 r11 r13 => ?_
    refine n_gcons ?_
    refine n_name (setS (setS set0)) ?_
    refine n_gcons ?_
    refine n_name (setS (setS (setS set0))) ?_
    refine n_gnil ?_
    refine n_seq ?_
    refine n_asg ?_
    refine n_op ?_
    refine n_lst ?_
    refine n_cons ?_
    refine n_str (s := []) (by decide +kernel) ?_
    refine n_nil ?_
    refine v_mkLF (t := eS) (xs := [([] : Sg)]) g7.fh (.cons ⟨rfl, (sz_ok (n := 0) rfl)⟩ .nil) rfl fun p14 F15 H16 d17 q18 al19 => ?_
    have g20 := g7.trans0 d17
    refine n_cb ?_
    refine n_cons ?_
    refine n_var rfl ?_
    refine n_nil ?_
    obtain ⟨a21, ha21, hm⟩ := bnd hm
    refine v_lenA g20.fh (show eA.r F15 v10 o9.1 from (Rp.mono eA d17.ff r11)) ha21 ?_
    obtain ⟨l22, hl22, hm⟩ := bnd hm
    refine v_repM g20.fh (g20.fh _ _ q18) al19 hl22 fun p23 vs24 H26 np27 d28 fp29 hp30 al25 => ?_
    have go31 := g20.old np27
    have g32 := g20.trans0 d28
    have m33 : Mu [] H0 F15 H26 p23 (.lst vs24) := ⟨fp29, hp30, .inl go31⟩
    refine n_name (setS set0) ?_
    refine n_seq ?_
    refine n_for ?_
    refine n_en ?_
    refine n_cons ?_
    refine n_var rfl ?_
    refine n_nil ?_
    obtain ⟨o34, ho34, hm⟩ := bnd hm
    obtain ⟨k35, vs36, e37, on38, al39⟩ := seqA (show RA F15 v10 o9.1 from (Rp.mono eA d17.ff r11)) ho34
    subst e37
    refine v_en (k := k35) (vs := vs36) (on38 _ g32.fh) ?_
    obtain ⟨z40, hz40, hm⟩ := bnd hm
    have hmo41 := hm
    refine for_r (sr_En (k := k35) al39) hz40 (fun (s7 : List Sg) σ7 H7 => ∃ (F7 : Hp) (o_place : Option V) (o_up : Option V) (us_lasts : List V), σ7 = [some v_thing, some (.ref p23), some k35.va, some v12, o_place, o_up] ∧ Gr [] F0 H0 F7 H7 ∧ Sub F15 F7 ∧ Mu [] H0 F7 H7 p23 (.lst us_lasts) ∧ Al eS F7 us_lasts s7) ⟨_, _, _, vs24, rfl, g32, Sub.refl _, m33, al25⟩ ?_ ?_ ?_
    · rintro s7 _ H7 ⟨F42, o45, o46, vs47, rfl, g43, sb44, m48, al49⟩
      exact (on38 _ (Sub.trans sb44 g43.fh))
    · rintro a50 s51 s52 x53 _ H54 H55 ⟨F59, o62, o63, vs64, rfl, g60, sb61, m65, al66⟩ hY56 hm hrt67 N57 hN58
      refine v_unpE g60.fh hY56 fun v69 d68 r70 => ?_
      have g71 := g60.trans0 d68
      have m72 := m65.call0 d68
      refine n_gcons ?_
      refine n_name (setS (setS (setS (setS set0)))) ?_
      refine n_gcons ?_
      refine n_name (setS (setS (setS (setS (setS set0))))) ?_
      refine n_gnil ?_
      refine n_ifs ?_
      refine n_test ?_
      refine n_op ?_
      refine n_var rfl ?_
      refine n_c ?_
      obtain ⟨o73, ho73, hm⟩ := bnd hm
      have r74 := cI.ok (show RA F59 v69 a50.2 from (Rp.mono eA sb61 r70)) (show cI.c a50.2 = some o73 from ho73)
      have er74 : v69 = V.int o73 := r74
      subst er74
      refine v_i2 ?_
      refine v_bl ?_
      refine br (fun hb75 => ?_) (fun hb75 => ?_)
      · replace hm := ifT hb75 hm
        refine n_seq ?_
        refine n_ifs ?_
        refine n_test ?_
        refine n_op ?_
        refine n_op ?_
        refine n_var rfl ?_
        refine n_var rfl ?_
        obtain ⟨a76, ha76, hm⟩ := bnd hm
        refine v_ixL m72.l al66 ha76 fun v77 r78 => ?_
        obtain ⟨er78, lr78⟩ : v77 = V.str (S a76) ∧ a76.length ≤ sizeLine := r78
        subst er78
        refine n_op ?_
        refine n_var rfl ?_
        refine n_var rfl ?_
        obtain ⟨a79, ha79, hm⟩ := bnd hm
        refine v_ixA g71.fh (show eA.r F59 v12 o9.2 from (Rp.mono eA (Sub.trans d17.ff sb61) r13)) ha79 fun v80 r81 => ?_
        obtain ⟨o82, ho82, hm⟩ := bnd hm
        have r83 := cS.ok (show RA F59 v80 a79 from r81) (show cS.c a79 = some o82 from ho82)
        obtain ⟨er83, lr83⟩ : v80 = V.str (S o82) ∧ o82.length ≤ sizeLine := r83
        subst er83
        refine v_geS ?_
        refine v_bl ?_
        refine br (fun hb84 => ?_) (fun hb84 => ?_)
        · replace hm := ifT hb84 hm
          refine n_ret ?_
          refine n_c ?_
          obtain rfl := Option.some.inj hm
          have hm := thenF_rt (hrt67 _ rfl) hmo41
          obtain rfl := Option.some.inj hm
          exact hk _ _ _  g71   rfl
        replace hm := ifF hb84 hm
        refine n_nextS ?_
        refine n_asg ?_
        refine n_op ?_
        refine n_var rfl ?_
        refine n_var rfl ?_
        obtain ⟨a85, ha85, hm⟩ := bnd hm
        refine v_ixA g71.fh (show eA.r F59 v12 o9.2 from (Rp.mono eA (Sub.trans d17.ff sb61) r13)) ha85 fun v86 r87 => ?_
        refine n_sub ?_
        refine n_var rfl ?_
        refine n_var rfl ?_
        obtain ⟨o88, ho88, hm⟩ := bnd hm
        have r89 := cS.ok (show RA F59 v86 a85 from r87) (show cS.c a85 = some o88 from ho88)
        obtain ⟨er89, lr89⟩ : v86 = V.str (S o88) ∧ o88.length ≤ sizeLine := r89
        subst er89
        obtain ⟨l90, hl90, hm⟩ := bnd hm
        obtain ⟨n91, en92, al93⟩ := setM_ok al66 hl90 (show eS.r F59 (.str (S o88)) o88 from ⟨rfl, lr89⟩)
        refine v_setL m72.hp en92 ?_
        obtain ⟨vs94, H95, g96, evs94, eH95⟩ := st_ok g71 m72 ((vs64 : List V).set n91 (.str (S o88)))
        rw [← evs94, ← eH95]
        rw [← evs94] at al93
        have m97 := mu_self m72 eH95
        obtain rfl := Option.some.inj hm
        exact hN58 _ _ _ rfl ⟨_, _, _, vs94, rfl, g96, sb61, m97, al93⟩
      replace hm := ifF hb75 hm
      refine n_nextS ?_
      obtain rfl := Option.some.inj hm
      exact hN58 _ _ _ rfl ⟨_, _, _, vs64, rfl, g71, sb61, m72, al66⟩
    rintro s99 _ H98 e100 ⟨F101, o104, o105, vs106, rfl, g102, sb103, m107, al108⟩
    subst e100
    replace hm := thenF_nx hm
    refine n_ret ?_
    refine n_c ?_
    obtain rfl := Option.some.inj hm
    exact hk _ _ _  g102   rfl

def m__law_cell_at (x_script : List Int) (x_k : Int) : Option Int :=
  if (decide (x_k < (x_script.length : Int))) = true then
  (atI x_script x_k).bind fun a2 =>
  some a2
  else
  some (0 : Int)
def sp__law_cell_at (K : PySem.W.Frag) : Sp := fun vs H Q _ => ∃ (F : Hp) (v_script : V) (x_script : List Int) (v_k : V) (x_k : Int) (r : Int), vs = [v_script, v_k] ∧ Sub F H ∧ (eQ K).r F v_script x_script ∧ eI.r F v_k x_k ∧ m__law_cell_at x_script x_k = some r ∧ ∀ (v : V) (F' H' : Hp) , Gr [] F H F' H' → eI.r F' v r → Q v H'
theorem sc__law_cell_at : FnScope ["script", "k"] ["script", "k"] (defScope s__law_cell_at) := ⟨rfl, rfl, rfl, by decide +kernel, rfl, by decide +kernel, by decide +kernel⟩
theorem ok__law_cell_at {f : Addr} {fd : FuncData} (F : FnP K "_law_cell_at" s__law_cell_at f fd) (b_len : mg "len" = none) : FnG P w K mg base CX0 1 f fd ["script", "k"] (sp__law_cell_at K) := by
  refine FnDok F sc__law_cell_at (fun vs H Q E h => ?_) (fun cdv A outer s H0 vs Q E gd hr h => ?_)
  · obtain ⟨_, _, _, _, _, _, rfl, _⟩ := h
    rfl
  · obtain ⟨F0, v_script, x_script, v_k, x_k, r0, rfl, hs0, r_script, r_k, hm, hk⟩ := h
    have g0 : Gr [] F0 H0 F0 H0 := Gr.refl hs0
    have er_k : v_k = V.int x_k := r_k
    subst er_k
    refine ⟨_, PSs.nox (pss_cons (ps_if (pt_cmpR op_lt (pv 1) (pe_callB (c_len (K := K) rfl) (by rfl) b_len bo_len (pa_cons (pv 0) pa_nil)) (nomark _)) (pss_one (ps_ret (pe_ix (c_ixL (K := K) rfl) (pv 0) (pv 1) (fun _ _ => rfl)))) pss_nil)
(pss_one (ps_ret pe_int))), ?_⟩
    refine n_seq ?_
    refine n_ifs ?_
    refine n_test ?_
    refine n_op ?_
    refine n_var rfl ?_
    refine n_cb ?_
    refine n_cons ?_
    refine n_var rfl ?_
    refine n_nil ?_
    refine v_lenQ g0.fh r_script ?_
    refine v_i2 ?_
    refine v_bl ?_
    refine br (fun hb1 => ?_) (fun hb1 => ?_)
    · replace hm := ifT hb1 hm
      refine n_ret ?_
      refine n_op ?_
      refine n_var rfl ?_
      refine n_var rfl ?_
      obtain ⟨a2, ha2, hm⟩ := bnd hm
      refine v_ixQ g0.fh r_script ha2 ?_
      obtain rfl := Option.some.inj hm
      exact hk _ _ _  g0   rfl
    replace hm := ifF hb1 hm
    refine n_nextS ?_
    refine n_ret ?_
    refine n_c ?_
    obtain rfl := Option.some.inj hm
    exact hk _ _ _  g0   rfl

def m__law_pool (x_script : List Int) (x_at : Int) : Option (List Int) :=
  (m__law_cell_at x_script x_at).bind fun r1 =>
  (uptoM 0 (99 : Int)).bind fun l8 =>
  (foldO l8 (0 : Int) fun s11 a10 =>
  (mulM ((89 : Int) * a10) a10).bind fun a24 =>
  (mulM ((((((r1 % (998244353 : Int)) + a24) + ((7 : Int) * x_at)) + (1 : Int)) * (48271 : Int)) % (2147483647 : Int)) ((((((r1 % (998244353 : Int)) + a24) + ((7 : Int) * x_at)) + (1 : Int)) * (48271 : Int)) % (2147483647 : Int))).bind fun a25 =>
  some ((s11 * (1000003 : Int)) + ((((((a25 % (1000000007 : Int)) + ((7919 : Int) * a10)) * (69621 : Int)) % (2147483587 : Int)) / (8 : Int)) % (1000003 : Int)))).bind fun s9 =>
  (mulM r1 (b2 (decide ((1000000000000000000 : Int) ≤ r1)))).bind fun a32 =>
  some [a32, s9]
def sp__law_pool (K : PySem.W.Frag) : Sp := fun vs H Q _ => ∃ (F : Hp) (v_script : V) (x_script : List Int) (v_at : V) (x_at : Int) (r : List Int), vs = [v_script, v_at] ∧ Sub F H ∧ (eQ K).r F v_script x_script ∧ eI.r F v_at x_at ∧ m__law_pool x_script x_at = some r ∧ ∀ (v : V) (F' H' : Hp) , Gr [] F H F' H' → New eI H F' H' v r → Q v H'
theorem sc__law_pool : FnScope ["script", "at", "cell", "big", "turn", "one"] ["script", "at"] (defScope s__law_pool) := ⟨rfl, rfl, rfl, by decide +kernel, rfl, by decide +kernel, by decide +kernel⟩
theorem ok__law_pool {f : Addr} {fd : FuncData} (F : FnP K "_law_pool" s__law_pool f fd) (H__law_cell_at : HasG P w K mg base "_law_cell_at" ["script", "k"] 1 (sp__law_cell_at K)) (b_range : mg "range" = none) (b_int : mg "int" = none) : FnG P w K mg base CX0 2 f fd ["script", "at"] (sp__law_pool K) := by
  obtain ⟨f__law_cell_at, fd__law_cell_at, G0__law_cell_at, g__law_cell_at, k__law_cell_at, b__law_cell_at⟩ := H__law_cell_at
  have G__law_cell_at := G0__law_cell_at.mono (show 1 ≤ 1 by decide)
  refine FnDok F sc__law_pool (fun vs H Q E h => ?_) (fun cdv A outer s H0 vs Q E gd hr h => ?_)
  · obtain ⟨_, _, _, _, _, _, rfl, _⟩ := h
    rfl
  · obtain ⟨F0, v_script, x_script, v_at, x_at, r0, rfl, hs0, r_script, r_at, hm, hk⟩ := h
    have g0 : Gr [] F0 H0 F0 H0 := Gr.refl hs0
    have er_at : v_at = V.int x_at := r_at
    subst er_at
    refine ⟨_, PSs.nox (pss_cons (ps_set (i := 2) sc__law_pool.nd rfl (by first | exact Or.inl rfl | exact Or.inr rfl) (pe_callG G__law_cell_at gd hr (by rfl) g__law_cell_at k__law_cell_at b__law_cell_at pass0 (pa_cons (pv 0) (pa_cons (pv 1) pa_nil))))
(pss_cons (ps_set (i := 3) sc__law_pool.nd rfl (by first | exact Or.inl rfl | exact Or.inr rfl) pe_int)
(pss_cons (ps_for PassesOwn.never rfl (pi_range1 (by rfl) b_range (pa_cons pe_int pa_nil)) (pg_name (i := 4) sc__law_pool.nd rfl (by first | exact Or.inl rfl | exact Or.inr rfl)) (pss_cons (ps_set (i := 5) sc__law_pool.nd rfl (by first | exact Or.inl rfl | exact Or.inr rfl) (pe_op op_mod (pe_op op_mul (pe_op op_add (pe_op op_add (pe_op op_add (pe_op op_mod (pv 2) pe_int) (pe_op op_mul (pe_op op_mul pe_int (pv 4)) (pv 4))) (pe_op op_mul pe_int (pv 1))) pe_int) pe_int) pe_int))
(pss_cons (ps_set (i := 5) sc__law_pool.nd rfl (by first | exact Or.inl rfl | exact Or.inr rfl) (pe_op op_mod (pe_op op_mul (pv 5) (pv 5)) pe_int))
(pss_cons (ps_set (i := 5) sc__law_pool.nd rfl (by first | exact Or.inl rfl | exact Or.inr rfl) (pe_op op_mod (pe_op op_mul (pe_op op_add (pv 5) (pe_op op_mul pe_int (pv 4))) pe_int) pe_int))
(pss_one (ps_set (i := 3) sc__law_pool.nd rfl (by first | exact Or.inl rfl | exact Or.inr rfl) (pe_op op_add (pe_op op_mul (pv 3) pe_int) (pe_op op_mod (pe_op op_fdiv (pv 5) pe_int) pe_int))))))))
(pss_one (ps_ret (pe_lst (pa_cons (pe_op op_mul (pv 2) (pe_callTy c_int1 (by rfl) b_int bo_int (pa_cons (pe_cmpR op_ge (pv 2) (pe_op op_pow pe_int pe_int) (nomark _)) pa_nil))) (pa_cons (pv 3) pa_nil)))))))), ?_⟩
    refine n_seq ?_
    refine n_asg ?_
    refine n_call ?_
    refine n_cons ?_
    refine n_var rfl ?_
    refine n_cons ?_
    refine n_var rfl ?_
    refine n_nil ?_
    obtain ⟨r1, hr1, hm⟩ := bnd hm
    refine ⟨F0, v_script, x_script, .int x_at, x_at, r1, rfl, g0.fh, r_script, rfl, hr1, fun v5 F2 H3 d4 r6 => ?_⟩
    have g7 := g0.trans0 d4
    have er6 : v5 = V.int r1 := r6
    subst er6
    refine n_name (setS (setS set0)) ?_
    refine n_seq ?_
    refine n_asg ?_
    refine n_c ?_
    refine n_name (setS (setS (setS set0))) ?_
    refine n_seq ?_
    refine n_for ?_
    refine n_rng1 ?_
    refine n_cons ?_
    refine n_c ?_
    refine n_nil ?_
    obtain ⟨l8, hl8, hm⟩ := bnd hm
    refine v_rng1 hl8 ?_
    obtain ⟨s9, hs9, hm⟩ := bnd hm
    refine for_o (sr_R1 hl8) hs9 (fun (s7 : Int) σ7 H7 => ∃ (F7 : Hp) (o_turn : Option V) (o_one : Option V), σ7 = [some v_script, some (.int x_at), some (.int r1), some (.int s7), o_turn, o_one] ∧ Gr [] F0 H0 F7 H7 ∧ Sub F2 F7) ⟨_, _, _, rfl, g7, Sub.refl _⟩ ?_ ?_ ?_
    · intros; exact trivial
    · rintro a10 s11 s12 x13 _ H14 H15 ⟨F19, o22, o23, rfl, g20, sb21⟩ hY16 hm N17 hN18
      refine v_nmR hY16 ?_
      refine n_name (setS (setS (setS (setS set0)))) ?_
      refine n_seq ?_
      refine n_asg ?_
      refine n_op ?_
      refine n_op ?_
      refine n_op ?_
      refine n_op ?_
      refine n_op ?_
      refine n_op ?_
      refine n_var rfl ?_
      refine n_c ?_
      refine v_modK (by decide) ?_
      refine n_op ?_
      refine n_op ?_
      refine n_c ?_
      refine n_var rfl ?_
      refine v_mulL (by decide) ?_
      refine n_var rfl ?_
      obtain ⟨a24, ha24, hm⟩ := bnd hm
      refine v_mul ha24 ?_
      refine v_i2 ?_
      refine n_op ?_
      refine n_c ?_
      refine n_var rfl ?_
      refine v_mulL (by decide) ?_
      refine v_i2 ?_
      refine n_c ?_
      refine v_i2 ?_
      refine n_c ?_
      refine v_mulR (by decide) ?_
      refine n_c ?_
      refine v_modK (by decide) ?_
      refine n_name (setS (setS (setS (setS (setS set0))))) ?_
      refine n_seq ?_
      refine n_asg ?_
      refine n_op ?_
      refine n_op ?_
      refine n_var rfl ?_
      refine n_var rfl ?_
      obtain ⟨a25, ha25, hm⟩ := bnd hm
      refine v_mul ha25 ?_
      refine n_c ?_
      refine v_modK (by decide) ?_
      refine n_name (setS (setS (setS (setS (setS set0))))) ?_
      refine n_seq ?_
      refine n_asg ?_
      refine n_op ?_
      refine n_op ?_
      refine n_op ?_
      refine n_var rfl ?_
      refine n_op ?_
      refine n_c ?_
      refine n_var rfl ?_
      refine v_mulL (by decide) ?_
      refine v_i2 ?_
      refine n_c ?_
      refine v_mulR (by decide) ?_
      refine n_c ?_
      refine v_modK (by decide) ?_
      refine n_name (setS (setS (setS (setS (setS set0))))) ?_
      refine n_asg ?_
      refine n_op ?_
      refine n_op ?_
      refine n_var rfl ?_
      refine n_c ?_
      refine v_mulR (by decide) ?_
      refine n_op ?_
      refine n_op ?_
      refine n_var rfl ?_
      refine n_c ?_
      refine v_divK (by decide) ?_
      refine n_c ?_
      refine v_modK (by decide) ?_
      refine v_i2 ?_
      refine n_name (setS (setS (setS set0))) ?_
      obtain rfl := Option.some.inj hm
      exact hN18 _ _ ⟨_, _, _, rfl, g20, sb21⟩
    rintro _ H26 ⟨F27, o30, o31, rfl, g28, sb29⟩
    refine n_ret ?_
    refine n_lst ?_
    refine n_cons ?_
    refine n_op ?_
    refine n_var rfl ?_
    refine n_cb ?_
    refine n_cons ?_
    refine n_op ?_
    refine n_var rfl ?_
    refine n_op ?_
    refine n_c ?_
    refine n_c ?_
    refine v_powK (a := 1000000000000000000) ⟨by decide, by decide, by decide⟩ (by decide +kernel) ?_
    refine v_i2 ?_
    refine n_nil ?_
    refine v_intB ?_
    obtain ⟨a32, ha32, hm⟩ := bnd hm
    refine v_mul ha32 ?_
    refine n_cons ?_
    refine n_var rfl ?_
    refine n_nil ?_
    have al40 : Al eI F27 [.int a32, .int s9] [a32, s9] := (.cons rfl (.cons rfl .nil))
    refine v_mkLM g28.fh rfl fun p33 H34 np35 d36 fp37 hp38 => ?_
    have go41 := g28.old np35
    have g42 := g28.trans0 d36
    have m43 : Mu [] H0 F27 H34 p33 (.lst [.int a32, .int s9]) := ⟨fp37, hp38, .inl go41⟩
    obtain rfl := Option.some.inj hm
    exact hk _ _ _  g42   ⟨p33, [.int a32, .int s9], rfl, (m43.own.resolve_right (by simp)), m43.fr, m43.hp, al40⟩

def m__law_take (x_pool : List Int) (x_many : Int) : Option (Int × List Int) :=
  (atI x_pool (0 : Int)).bind fun a2 =>
  (atI x_pool (b2 (decide (a2 = (0 : Int))))).bind fun a5 =>
  (modM a5 x_many).bind fun a8 =>
  (atI x_pool (b2 (decide (a2 = (0 : Int))))).bind fun a9 =>
  (divM a9 x_many).bind fun a12 =>
  (setM x_pool (b2 (decide (a2 = (0 : Int)))) a12).bind fun l13 =>
  some (a8, l13)
def sp__law_take (K : PySem.W.Frag) : Sp := fun vs H Q _ => ∃ (F : Hp) (p_pool : Addr) (vs_pool : List V) (x_pool : List Int) (v_many : V) (x_many : Int) (r : (Int × List Int)), vs = [.ref p_pool, v_many] ∧ Sub F H ∧ F p_pool = none ∧ H p_pool = some (.lst vs_pool) ∧ Al eI F vs_pool x_pool ∧ eI.r F v_many x_many ∧ m__law_take x_pool x_many = some r ∧ ∀ (v : V) (F' H' : Hp) (us_pool : List V), Gr [p_pool] F H F' H' → H' p_pool = some (.lst us_pool) → Al eI F' us_pool r.2 → eI.r F' v r.1 → Q v H'
theorem sc__law_take : FnScope ["pool", "many", "at", "number"] ["pool", "many"] (defScope s__law_take) := ⟨rfl, rfl, rfl, by decide +kernel, rfl, by decide +kernel, by decide +kernel⟩
theorem ok__law_take {f : Addr} {fd : FuncData} (F : FnP K "_law_take" s__law_take f fd) (b_int : mg "int" = none) : FnG P w K mg base CX0 1 f fd ["pool", "many"] (sp__law_take K) := by
  refine FnDok F sc__law_take (fun vs H Q E h => ?_) (fun cdv A outer s H0 vs Q E gd hr h => ?_)
  · obtain ⟨_, _, _, _, _, _, _, rfl, _⟩ := h
    rfl
  · obtain ⟨F0, p_pool, vs_pool, x_pool, v_many, x_many, r0, rfl, hs0, fr_pool, hp_pool, al_pool, r_many, hm, hk⟩ := h
    have g0 : Gr [p_pool] F0 H0 F0 H0 := Gr.refl hs0
    have m1 : Mu [p_pool] H0 F0 H0 p_pool (.lst vs_pool) := ⟨fr_pool, hp_pool, .inr (by simp)⟩
    have er_many : v_many = V.int x_many := r_many
    subst er_many
    refine ⟨_, PSs.nox (pss_cons (ps_set (i := 2) sc__law_take.nd rfl (by first | exact Or.inl rfl | exact Or.inr rfl) (pe_callTy c_int1 (by rfl) b_int bo_int (pa_cons (pe_cmpR op_eq (pe_ix (c_ixL (K := K) rfl) (pv 0) pe_int (fun _ _ => rfl)) pe_int (nomark _)) pa_nil)))
(pss_cons (ps_set (i := 3) sc__law_take.nd rfl (by first | exact Or.inl rfl | exact Or.inr rfl) (pe_op op_mod (pe_ix (c_ixL (K := K) rfl) (pv 0) (pv 2) (fun _ _ => rfl)) (pv 1)))
(pss_cons (ps_asg (pe_op op_fdiv (pe_ix (c_ixL (K := K) rfl) (pv 0) (pv 2) (fun _ _ => rfl)) (pv 1)) (pg_sub (pv 0) (pv 2) set_list))
(pss_one (ps_ret (pv 3)))))), ?_⟩
    refine n_seq ?_
    refine n_asg ?_
    refine n_cb ?_
    refine n_cons ?_
    refine n_op ?_
    refine n_op ?_
    refine n_var rfl ?_
    refine n_c ?_
    obtain ⟨a2, ha2, hm⟩ := bnd hm
    refine v_ixL m1.l al_pool ha2 fun v3 r4 => ?_
    have er4 : v3 = V.int a2 := r4
    subst er4
    refine n_c ?_
    refine v_eqI ?_
    refine n_nil ?_
    refine v_intB ?_
    refine n_name (setS (setS set0)) ?_
    refine n_seq ?_
    refine n_asg ?_
    refine n_op ?_
    refine n_op ?_
    refine n_var rfl ?_
    refine n_var rfl ?_
    obtain ⟨a5, ha5, hm⟩ := bnd hm
    refine v_ixL m1.l al_pool ha5 fun v6 r7 => ?_
    have er7 : v6 = V.int a5 := r7
    subst er7
    refine n_var rfl ?_
    obtain ⟨a8, ha8, hm⟩ := bnd hm
    refine v_mod ha8 ?_
    refine n_name (setS (setS (setS set0))) ?_
    refine n_seq ?_
    refine n_asg ?_
    refine n_op ?_
    refine n_op ?_
    refine n_var rfl ?_
    refine n_var rfl ?_
    obtain ⟨a9, ha9, hm⟩ := bnd hm
    refine v_ixL m1.l al_pool ha9 fun v10 r11 => ?_
    have er11 : v10 = V.int a9 := r11
    subst er11
    refine n_var rfl ?_
    obtain ⟨a12, ha12, hm⟩ := bnd hm
    refine v_div ha12 ?_
    refine n_sub ?_
    refine n_var rfl ?_
    refine n_var rfl ?_
    obtain ⟨l13, hl13, hm⟩ := bnd hm
    obtain ⟨n14, en15, al16⟩ := setM_ok al_pool hl13 (show eI.r F0 (.int a12) a12 from rfl)
    refine v_setL m1.hp en15 ?_
    obtain ⟨vs17, H18, g19, evs17, eH18⟩ := st_ok g0 m1 ((vs_pool : List V).set n14 (.int a12))
    rw [← evs17, ← eH18]
    rw [← evs17] at al16
    have m20 := mu_self m1 eH18
    refine n_ret ?_
    refine n_var rfl ?_
    obtain rfl := Option.some.inj hm
    exact hk _ _ _ _ g19 m20.hp al16 rfl

def m__law_letters (x_pool : List Int) : Option (List Sg × List Int) :=
  (m__law_take x_pool (6 : Int)).bind fun r18 =>
  (atI [(1 : Int), (2 : Int), (2 : Int), (3 : Int), (5 : Int), (26 : Int)] r18.1).bind fun a29 =>
  (m__law_take r18.2 (26 : Int)).bind fun r32 =>
  (m__law_take r32.2 (3 : Int)).bind fun r59 =>
  (atI [(1 : Int), (3 : Int), (25 : Int)] r59.1).bind fun a70 =>
  (uptoM 0 a29).bind fun l73 =>
  (need (szB l73.length) ()).bind fun u76 =>
  (compS l73 fun a78 =>
  (mulM a70 a78).bind fun a99 =>
  (atI ([97, 98, 99, 100, 101, 102, 103, 104, 105, 106, 107, 108, 109, 110, 111, 112, 113, 114, 115, 116, 117, 118, 119, 120, 121, 122] : Sg) ((r32.1 + a99) % (26 : Int))).bind fun c100 =>
  some (some [c100])).bind fun q77 =>
  some (q77, r59.2)
def sp__law_letters (K : PySem.W.Frag) : Sp := fun vs H Q _ => ∃ (F : Hp) (p_pool : Addr) (vs_pool : List V) (x_pool : List Int) (r : (List Sg × List Int)), vs = [.ref p_pool] ∧ Sub F H ∧ F p_pool = none ∧ H p_pool = some (.lst vs_pool) ∧ Al eI F vs_pool x_pool ∧ m__law_letters x_pool = some r ∧ ∀ (v : V) (F' H' : Hp) (us_pool : List V), Gr [p_pool] F H F' H' → H' p_pool = some (.lst us_pool) → Al eI F' us_pool r.2 → New eS H F' H' v r.1 → Q v H'
theorem sc__law_letters : FnScope ["pool", "many", "first", "by", "k"] ["pool"] (defScope s__law_letters) := ⟨rfl, rfl, rfl, by decide +kernel, rfl, by decide +kernel, by decide +kernel⟩
theorem ok__law_letters {f : Addr} {fd : FuncData} (F : FnP K "_law_letters" s__law_letters f fd) (H__law_take : HasG P w K mg base "_law_take" ["pool", "many"] 1 (sp__law_take K)) (b_range : mg "range" = none) : FnG P w K mg base CX0 2 f fd ["pool"] (sp__law_letters K) := by
  obtain ⟨f__law_take, fd__law_take, G0__law_take, g__law_take, k__law_take, b__law_take⟩ := H__law_take
  have G__law_take := G0__law_take.mono (show 1 ≤ 1 by decide)
  refine FnDok F sc__law_letters (fun vs H Q E h => ?_) (fun cdv A outer s H0 vs Q E gd hr h => ?_)
  · obtain ⟨_, _, _, _, _, rfl, _⟩ := h
    rfl
  · obtain ⟨F0, p_pool, vs_pool, x_pool, r0, rfl, hs0, fr_pool, hp_pool, al_pool, hm, hk⟩ := h
    have g0 : Gr [p_pool] F0 H0 F0 H0 := Gr.refl hs0
    have m1 : Mu [p_pool] H0 F0 H0 p_pool (.lst vs_pool) := ⟨fr_pool, hp_pool, .inr (by simp)⟩
    refine ⟨_, PSs.nox (pss_cons (ps_set (i := 1) sc__law_letters.nd rfl (by first | exact Or.inl rfl | exact Or.inr rfl) (pe_ix (c_ixL (K := K) rfl) (pe_lst (pa_cons pe_int (pa_cons pe_int (pa_cons pe_int (pa_cons pe_int (pa_cons pe_int (pa_cons pe_int pa_nil))))))) (pe_callG G__law_take gd hr (by rfl) g__law_take k__law_take b__law_take pass0 (pa_cons (pv 0) (pa_cons pe_int pa_nil))) (fun _ _ => rfl)))
(pss_cons (ps_set (i := 2) sc__law_letters.nd rfl (by first | exact Or.inl rfl | exact Or.inr rfl) (pe_callG G__law_take gd hr (by rfl) g__law_take k__law_take b__law_take pass0 (pa_cons (pv 0) (pa_cons pe_int pa_nil))))
(pss_cons (ps_set (i := 3) sc__law_letters.nd rfl (by first | exact Or.inl rfl | exact Or.inr rfl) (pe_ix (c_ixL (K := K) rfl) (pe_lst (pa_cons pe_int (pa_cons pe_int (pa_cons pe_int pa_nil)))) (pe_callG G__law_take gd hr (by rfl) g__law_take k__law_take b__law_take pass0 (pa_cons (pv 0) (pa_cons pe_int pa_nil))) (fun _ _ => rfl)))
(pss_one (ps_ret (pe_lc (own := [("k", 4)]) (g := gName 4) (by rfl) sc__law_letters.nd (pi_range1 (by rfl) b_range (pa_cons (pv 1) pa_nil)) (blkOk_by (own := [("k", 4)]) (N := ["pool", "many", "first", "by", "k"]) (sc := defScope s__law_letters) (by decide +kernel)) (fun _ _ _ _ _ => (pg_name (i := 4) sc__law_letters.nd rfl (Or.inl rfl))) (fun _ _ _ _ _ => pts_nil) (fun _ _ _ _ _ => (pe_ix ix_str pe_str (pe_op op_mod (pe_op op_add (pv 2) (pe_op op_mul (pv 3) (pv 4))) pe_int) (fun _ _ => rfl))))))))), ?_⟩
    refine n_seq ?_
    refine n_asg ?_
    refine n_op ?_
    refine n_lst ?_
    refine n_cons ?_
    refine n_c ?_
    refine n_cons ?_
    refine n_c ?_
    refine n_cons ?_
    refine n_c ?_
    refine n_cons ?_
    refine n_c ?_
    refine n_cons ?_
    refine n_c ?_
    refine n_cons ?_
    refine n_c ?_
    refine n_nil ?_
    refine v_mkLF (t := eI) (xs := [(1 : Int), (2 : Int), (2 : Int), (3 : Int), (5 : Int), (26 : Int)]) g0.fh (.cons rfl (.cons rfl (.cons rfl (.cons rfl (.cons rfl (.cons rfl .nil)))))) rfl fun p10 F11 H12 d13 q14 al15 => ?_
    have g16 := g0.trans0 d13
    have m17 := m1.call0 d13
    refine n_call ?_
    refine n_cons ?_
    refine n_var rfl ?_
    refine n_cons ?_
    refine n_c ?_
    refine n_nil ?_
    obtain ⟨r18, hr18, hm⟩ := bnd hm
    refine ⟨F11, p_pool, vs_pool, x_pool, .int (6 : Int), (6 : Int), r18, rfl, g16.fh, m17.fr, m17.hp, (Al.mono al_pool d13.ff), rfl, hr18, fun v25 F19 H20 vs22 d21 hp23 al24 r26 => ?_⟩
    have g27 := g16.trans d21 (fun a ha => (List.mem_cons.mp ha).elim (fun e => e ▸ m17.own) (fun ha => absurd ha (by simp)))
    have m28 := m17.back d21 hp23
    have er26 : v25 = V.int r18.1 := r26
    subst er26
    obtain ⟨a29, ha29, hm⟩ := bnd hm
    refine v_ixL (SqL.of (g27.fh _ _ (d21.ff _ _ q14))) (Al.mono al15 d21.ff) ha29 fun v30 r31 => ?_
    have er31 : v30 = V.int a29 := r31
    subst er31
    refine n_name (setS set0) ?_
    refine n_seq ?_
    refine n_asg ?_
    refine n_call ?_
    refine n_cons ?_
    refine n_var rfl ?_
    refine n_cons ?_
    refine n_c ?_
    refine n_nil ?_
    obtain ⟨r32, hr32, hm⟩ := bnd hm
    refine ⟨F19, p_pool, vs22, r18.2, .int (26 : Int), (26 : Int), r32, rfl, g27.fh, m28.fr, m28.hp, al24, rfl, hr32, fun v39 F33 H34 vs36 d35 hp37 al38 r40 => ?_⟩
    have g41 := g27.trans d35 (fun a ha => (List.mem_cons.mp ha).elim (fun e => e ▸ m28.own) (fun ha => absurd ha (by simp)))
    have m42 := m28.back d35 hp37
    have er40 : v39 = V.int r32.1 := r40
    subst er40
    refine n_name (setS (setS set0)) ?_
    refine n_seq ?_
    refine n_asg ?_
    refine n_op ?_
    refine n_lst ?_
    refine n_cons ?_
    refine n_c ?_
    refine n_cons ?_
    refine n_c ?_
    refine n_cons ?_
    refine n_c ?_
    refine n_nil ?_
    refine v_mkLF (t := eI) (xs := [(1 : Int), (3 : Int), (25 : Int)]) g41.fh (.cons rfl (.cons rfl (.cons rfl .nil))) rfl fun p51 F52 H53 d54 q55 al56 => ?_
    have g57 := g41.trans0 d54
    have m58 := m42.call0 d54
    refine n_call ?_
    refine n_cons ?_
    refine n_var rfl ?_
    refine n_cons ?_
    refine n_c ?_
    refine n_nil ?_
    obtain ⟨r59, hr59, hm⟩ := bnd hm
    refine ⟨F52, p_pool, vs36, r32.2, .int (3 : Int), (3 : Int), r59, rfl, g57.fh, m58.fr, m58.hp, (Al.mono al38 d54.ff), rfl, hr59, fun v66 F60 H61 vs63 d62 hp64 al65 r67 => ?_⟩
    have g68 := g57.trans d62 (fun a ha => (List.mem_cons.mp ha).elim (fun e => e ▸ m58.own) (fun ha => absurd ha (by simp)))
    have m69 := m58.back d62 hp64
    have er67 : v66 = V.int r59.1 := r67
    subst er67
    obtain ⟨a70, ha70, hm⟩ := bnd hm
    refine v_ixL (SqL.of (g68.fh _ _ (d62.ff _ _ q55))) (Al.mono al56 d62.ff) ha70 fun v71 r72 => ?_
    have er72 : v71 = V.int a70 := r72
    subst er72
    refine n_name (setS (setS (setS set0))) ?_
    refine n_ret ?_
    refine n_lc ?_
    refine n_rng1 ?_
    refine n_cons ?_
    refine n_var rfl ?_
    refine n_nil ?_
    obtain ⟨l73, hl73, hm⟩ := bnd hm
    refine v_rng1 hl73 ?_
    obtain ⟨u76, hu76, hm⟩ := bnd hm
    obtain ⟨q77, hq77, hm⟩ := bnd hm
    intro D74 nD75
    have goD74 := g68.old nD75
    have neD74_p_pool := m69.ne nD75
    have gg105 := gr_newM (W := []) (o := .lst []) g68.fh nD75
    refine comp_s (sr_R1 hl73) hq77 (need_ok hu76).1 (fun (acc7 : List Sg) H7 => ∃ (F7 : Hp) (vs7 : List V), Gr [p_pool] F0 H0 F7 H7 ∧ Sub F60 F7 ∧ F7 D74 = none ∧ H7 D74 = some (.lst vs7) ∧ Al eS F7 vs7 acc7 ∧ Mu [p_pool] H0 F7 H7 p_pool (.lst vs63)) ⟨_, [], g68.trans0 gg105, Sub.refl _, g68.fh.nn nD75, upd_same, .nil, m69.call0 gg105⟩ ?_ ?_ ?_
    · intros; exact trivial
    · rintro a78 r80 acc81 x82 H83 H84 ⟨F89, vs90, g91, sb92, fD93, hD94, al95, m96⟩ hY85 hm hl88 N86 hN87
      have m98 : Mu [p_pool] H0 F89 H83 D74 (.lst vs90) := ⟨fD93, hD94, .inl goD74⟩
      refine wipe_to (σ' := [some (.ref p_pool), some (.int a29), some (.int r32.1), some (.int a70), none]) rfl ?_
      refine v_nmR hY85 ?_
      refine n_name (setS (setS (setS (setS set0)))) ?_
      refine ⟨rfl, ?_⟩
      refine n_yes ?_ rfl
      refine n_op ?_
      refine n_str (s := [97, 98, 99, 100, 101, 102, 103, 104, 105, 106, 107, 108, 109, 110, 111, 112, 113, 114, 115, 116, 117, 118, 119, 120, 121, 122]) (by decide +kernel) ?_
      refine n_op ?_
      refine n_op ?_
      refine n_var rfl ?_
      refine n_op ?_
      refine n_var rfl ?_
      refine n_var rfl ?_
      obtain ⟨a99, ha99, hm⟩ := bnd hm
      refine v_mul ha99 ?_
      refine v_i2 ?_
      refine n_c ?_
      refine v_modK (by decide) ?_
      obtain ⟨c100, hc100, hm⟩ := bnd hm
      refine v_ixS (sz_ok (n := 26) rfl) hc100 ?_
      obtain rfl := Option.some.inj hm
      refine ⟨_, m98.hp, by rw [al_len al95]; exact hl88, hN87 _ ?_⟩
      exact ⟨_, _, m98.gr g91, sb92, m98.fr, upd_same, pd_snoc al95 (show eS.r F89 (.str (S [c100])) [c100] from ⟨rfl, one_le⟩), m96.mut neD74_p_pool⟩
    rintro H106 ⟨F107, vs108, g109, sb110, fD111, hD112, al113, m114⟩
    have m116 : Mu [p_pool] H0 F107 H106 D74 (.lst vs108) := ⟨fD111, hD112, .inl goD74⟩
    obtain rfl := Option.some.inj hm
    exact hk _ _ _ _ g109 m114.hp (Al.mono al65 sb110) ⟨D74, vs108, rfl, (m116.own.resolve_right (nin1 (Ne.symm neD74_p_pool))), m116.fr, m116.hp, al113⟩

def m__law_grown (x_pool : List Int) (x_many : Int) (x_kind : Int) (x_letters : List Sg) : Option ((List Int × Sg) × List Int) :=
  (uptoM (1 : Int) x_many).bind fun l24 =>
  (foldO l24 ([(0 : Int)], x_pool, [(-1 : Int)]) fun s27 a26 =>
  (m__law_take s27.2.1 (4 : Int)).bind fun r77 =>
  (atI [(s27.1.length : Int), ((1 : Int) + r77.1)] (b2 (decide ((4 : Int) < (s27.1.length : Int))))).bind fun a98 =>
  (m__law_take r77.2 (3 : Int)).bind fun r101 =>
  (m__law_take r101.2 (s27.1.length : Int)).bind fun r134 =>
  (atI [(s27.1.length : Int), (1 : Int), ((1 : Int) + r134.1), (mx (1 : Int) ((s27.1.length : Int) - r101.1)), (mx (1 : Int) (((s27.1.length : Int) - (1 : Int)) + (a26 % (2 : Int)))), a98] x_kind).bind fun a155 =>
  (atI s27.1 (a155 - (1 : Int))).bind fun a158 =>
  (snocM s27.2.2 a158).bind fun l161 =>
  (catLM (cutL s27.1 none (some a155)) [a26]).bind fun l188 =>
  some (l188, r134.2, l161)).bind fun s25 =>
  (m__law_take s25.2.1 (6 : Int)).bind fun r217 =>
  (m__law_take r217.2 x_many).bind fun r250 =>
  (m__law_take r250.2 (2 : Int)).bind fun r271 =>
  (atI [r250.1, (0 : Int)] r271.1).bind fun a283 =>
  (uptoM 0 x_many).bind fun l286 =>
  (foldO l286 (([] : Sg), r271.2) fun s289 a288 =>
  (m__law_take s289.2 (x_letters.length : Int)).bind fun r311 =>
  (if ((decide ((0 : Int) < r217.1)) && (decide (r217.1 < (4 : Int)))) = true then
  (modM a288 r217.1).bind fun a328 =>
  (modM a328 (x_letters.length : Int)).bind fun a329 =>
  some a329
  else
  some r311.1).bind fun s325 =>
  (if (decide ((4 : Int) < r217.1)) = true then
  (modM (b2 (decide (a288 = a283))) (x_letters.length : Int)).bind fun a340 =>
  some a340
  else
  some s325).bind fun s337 =>
  (atI x_letters s337).bind fun a347 =>
  (catM s289.1 a347).bind fun t350 =>
  some (t350, r311.2)).bind fun s287 =>
  some ((s25.2.2, s287.1), s287.2)
def sp__law_grown (K : PySem.W.Frag) : Sp := fun vs H Q _ => ∃ (F : Hp) (p_pool : Addr) (vs_pool : List V) (x_pool : List Int) (v_many : V) (x_many : Int) (v_kind : V) (x_kind : Int) (v_letters : V) (x_letters : List Sg) (r : ((List Int × Sg) × List Int)), vs = [.ref p_pool, v_many, v_kind, v_letters] ∧ Sub F H ∧ F p_pool = none ∧ H p_pool = some (.lst vs_pool) ∧ Al eI F vs_pool x_pool ∧ eI.r F v_many x_many ∧ eI.r F v_kind x_kind ∧ (eL eS).r F v_letters x_letters ∧ m__law_grown x_pool x_many x_kind x_letters = some r ∧ ∀ (v : V) (F' H' : Hp) (us_pool : List V), Gr [p_pool] F H F' H' → H' p_pool = some (.lst us_pool) → Al eI F' us_pool r.2 → (eP2 (eT eI) eS).r F' v r.1 → Q v H'
theorem sc__law_grown : FnScope ["pool", "many", "kind", "letters", "ups", "line", "k", "way", "other", "labels", "deep", "low", "near", "comb", "cut", "at"] ["pool", "many", "kind", "letters"] (defScope s__law_grown) := ⟨rfl, rfl, rfl, by decide +kernel, rfl, by decide +kernel, by decide +kernel⟩
theorem ok__law_grown {f : Addr} {fd : FuncData} (F : FnP K "_law_grown" s__law_grown f fd) (H__law_take : HasG P w K mg base "_law_take" ["pool", "many"] 1 (sp__law_take K)) (b_range : mg "range" = none) (b_len : mg "len" = none) (b_max : mg "max" = none) (b_tuple : mg "tuple" = none) (b_int : mg "int" = none) : FnG P w K mg base CX0 2 f fd ["pool", "many", "kind", "letters"] (sp__law_grown K) := by
  obtain ⟨f__law_take, fd__law_take, G0__law_take, g__law_take, k__law_take, b__law_take⟩ := H__law_take
  have G__law_take := G0__law_take.mono (show 1 ≤ 1 by decide)
  refine FnDok F sc__law_grown (fun vs H Q E h => ?_) (fun cdv A outer s H0 vs Q E gd hr h => ?_)
  · obtain ⟨_, _, _, _, _, _, _, _, _, _, _, rfl, _⟩ := h
    rfl
  · obtain ⟨F0, p_pool, vs_pool, x_pool, v_many, x_many, v_kind, x_kind, v_letters, x_letters, r0, rfl, hs0, fr_pool, hp_pool, al_pool, r_many, r_kind, r_letters, hm, hk⟩ := h
    have g0 : Gr [p_pool] F0 H0 F0 H0 := Gr.refl hs0
    have m1 : Mu [p_pool] H0 F0 H0 p_pool (.lst vs_pool) := ⟨fr_pool, hp_pool, .inr (by simp)⟩
    have er_many : v_many = V.int x_many := r_many
    subst er_many
    have er_kind : v_kind = V.int x_kind := r_kind
    subst er_kind
    refine ⟨_, PSs.nox (pss_cons (ps_set (i := 4) sc__law_grown.nd rfl (by first | exact Or.inl rfl | exact Or.inr rfl) (pe_lst (pa_cons (pe_un un_neg pe_int) pa_nil)))
(pss_cons (ps_set (i := 5) sc__law_grown.nd rfl (by first | exact Or.inl rfl | exact Or.inr rfl) (pe_lst (pa_cons pe_int pa_nil)))
(pss_cons (ps_for PassesOwn.never rfl (pi_range2 (by rfl) b_range (pa_cons pe_int (pa_cons (pv 1) pa_nil))) (pg_name (i := 6) sc__law_grown.nd rfl (by first | exact Or.inl rfl | exact Or.inr rfl)) (pss_cons (ps_set (i := 10) sc__law_grown.nd rfl (by first | exact Or.inl rfl | exact Or.inr rfl) (pe_callB (c_len (K := K) rfl) (by rfl) b_len bo_len (pa_cons (pv 5) pa_nil)))
(pss_cons (ps_set (i := 11) sc__law_grown.nd rfl (by first | exact Or.inl rfl | exact Or.inr rfl) (pe_ix (c_ixL (K := K) rfl) (pe_lst (pa_cons (pv 10) (pa_cons (pe_op op_add pe_int (pe_callG G__law_take gd hr (by rfl) g__law_take k__law_take b__law_take pass0 (pa_cons (pv 0) (pa_cons pe_int pa_nil)))) pa_nil))) (pe_callTy c_int1 (by rfl) b_int bo_int (pa_cons (pe_cmpR op_gt (pv 10) pe_int (nomark _)) pa_nil)) (fun _ _ => rfl)))
(pss_cons (ps_set (i := 12) sc__law_grown.nd rfl (by first | exact Or.inl rfl | exact Or.inr rfl) (pe_callB (c_max2 rfl) (by rfl) b_max bo_max (pa_cons pe_int (pa_cons (pe_op op_sub (pv 10) (pe_callG G__law_take gd hr (by rfl) g__law_take k__law_take b__law_take pass0 (pa_cons (pv 0) (pa_cons pe_int pa_nil)))) pa_nil))))
(pss_cons (ps_set (i := 13) sc__law_grown.nd rfl (by first | exact Or.inl rfl | exact Or.inr rfl) (pe_callB (c_max2 rfl) (by rfl) b_max bo_max (pa_cons pe_int (pa_cons (pe_op op_add (pe_op op_sub (pv 10) pe_int) (pe_op op_mod (pv 6) pe_int)) pa_nil))))
(pss_cons (ps_set (i := 14) sc__law_grown.nd rfl (by first | exact Or.inl rfl | exact Or.inr rfl) (pe_ix (c_ixL (K := K) rfl) (pe_lst (pa_cons (pv 10) (pa_cons pe_int (pa_cons (pe_op op_add pe_int (pe_callG G__law_take gd hr (by rfl) g__law_take k__law_take b__law_take pass0 (pa_cons (pv 0) (pa_cons (pv 10) pa_nil)))) (pa_cons (pv 12) (pa_cons (pv 13) (pa_cons (pv 11) pa_nil))))))) (pv 2) (fun _ _ => rfl)))
(pss_cons (ps_expr (c_bm (K := K) rfl PySem.F.plainAttrs_list PySem.F.slot_list_append PySem.F.type_list_append mt_append (pv 4) (pa_cons (pe_ix (c_ixL (K := K) rfl) (pv 5) (pe_op op_sub (pv 14) pe_int) (fun _ _ => rfl)) pa_nil)))
(pss_one (ps_set (i := 5) sc__law_grown.nd rfl (by first | exact Or.inl rfl | exact Or.inr rfl) (pe_op op_cat (pe_slice (c_slL (K := K) rfl) (pv 5) po_none (po_some (pv 14))) (pe_lst (pa_cons (pv 6) pa_nil))))))))))))
(pss_cons (ps_set (i := 7) sc__law_grown.nd rfl (by first | exact Or.inl rfl | exact Or.inr rfl) (pe_callG G__law_take gd hr (by rfl) g__law_take k__law_take b__law_take pass0 (pa_cons (pv 0) (pa_cons pe_int pa_nil))))
(pss_cons (ps_set (i := 8) sc__law_grown.nd rfl (by first | exact Or.inl rfl | exact Or.inr rfl) (pe_ix (c_ixL (K := K) rfl) (pe_lst (pa_cons (pe_callG G__law_take gd hr (by rfl) g__law_take k__law_take b__law_take pass0 (pa_cons (pv 0) (pa_cons (pv 1) pa_nil))) (pa_cons pe_int pa_nil))) (pe_callG G__law_take gd hr (by rfl) g__law_take k__law_take b__law_take pass0 (pa_cons (pv 0) (pa_cons pe_int pa_nil))) (fun _ _ => rfl)))
(pss_cons (ps_set (i := 9) sc__law_grown.nd rfl (by first | exact Or.inl rfl | exact Or.inr rfl) pe_str)
(pss_cons (ps_for PassesOwn.never rfl (pi_range1 (by rfl) b_range (pa_cons (pv 1) pa_nil)) (pg_name (i := 6) sc__law_grown.nd rfl (by first | exact Or.inl rfl | exact Or.inr rfl)) (pss_cons (ps_set (i := 15) sc__law_grown.nd rfl (by first | exact Or.inl rfl | exact Or.inr rfl) (pe_callG G__law_take gd hr (by rfl) g__law_take k__law_take b__law_take pass0 (pa_cons (pv 0) (pa_cons (pe_callB (c_len (K := K) rfl) (by rfl) b_len bo_len (pa_cons (pv 3) pa_nil)) pa_nil))))
(pss_cons (ps_if (pt_chain op_lt op_lt pe_int (pv 7) pe_int) (pss_one (ps_set (i := 15) sc__law_grown.nd rfl (by first | exact Or.inl rfl | exact Or.inr rfl) (pe_op op_mod (pe_op op_mod (pv 6) (pv 7)) (pe_callB (c_len (K := K) rfl) (by rfl) b_len bo_len (pa_cons (pv 3) pa_nil))))) pss_nil)
(pss_cons (ps_if (pt_cmpR op_gt (pv 7) pe_int (nomark _)) (pss_one (ps_set (i := 15) sc__law_grown.nd rfl (by first | exact Or.inl rfl | exact Or.inr rfl) (pe_op op_mod (pe_callTy c_int1 (by rfl) b_int bo_int (pa_cons (pe_cmpR op_eq (pv 6) (pv 8) (nomark _)) pa_nil)) (pe_callB (c_len (K := K) rfl) (by rfl) b_len bo_len (pa_cons (pv 3) pa_nil))))) pss_nil)
(pss_one (ps_set (i := 9) sc__law_grown.nd rfl (by first | exact Or.inl rfl | exact Or.inr rfl) (pe_op c_catS (pv 9) (pe_ix (c_ixL (K := K) rfl) (pv 3) (pv 15) (fun _ _ => rfl)))))))))
(pss_one (ps_ret (pe_tup (pa_cons (pe_callTy (c_tuple (K := K) rfl) (by rfl) b_tuple bo_tuple (pa_cons (pv 4) pa_nil)) (pa_cons (pv 9) pa_nil)))))))))))), ?_⟩
    refine n_seq ?_
    refine n_asg ?_
    refine n_lst ?_
    refine n_cons ?_
    refine n_un ?_
    refine n_c ?_
    refine v_neg ?_
    refine n_nil ?_
    have al9 : Al eI F0 [.int (-(1 : Int))] [(-1 : Int)] := (.cons rfl .nil)
    refine v_mkLM g0.fh rfl fun p2 H3 np4 d5 fp6 hp7 => ?_
    have go10 := g0.old np4
    have ne11 := m1.ne np4
    have g12 := g0.trans0 d5
    have m13 := m1.call0 d5
    have m14 : Mu [p_pool] H0 F0 H3 p2 (.lst [.int (-(1 : Int))]) := ⟨fp6, hp7, .inl go10⟩
    refine n_name (setS (setS (setS (setS set0)))) ?_
    refine n_seq ?_
    refine n_asg ?_
    refine n_lst ?_
    refine n_cons ?_
    refine n_c ?_
    refine n_nil ?_
    refine v_mkLF (t := eI) (xs := [(0 : Int)]) g12.fh (.cons rfl .nil) rfl fun p15 F16 H17 d18 q19 al20 => ?_
    have g21 := g12.trans0 d18
    have m22 := m13.call0 d18
    have m23 := m14.call0 d18
    refine n_name (setS (setS (setS (setS (setS set0))))) ?_
    refine n_seq ?_
    refine n_for ?_
    refine n_rng2 ?_
    refine n_cons ?_
    refine n_c ?_
    refine n_cons ?_
    refine n_var rfl ?_
    refine n_nil ?_
    obtain ⟨l24, hl24, hm⟩ := bnd hm
    refine v_rng2 hl24 ?_
    obtain ⟨s25, hs25, hm⟩ := bnd hm
    refine for_o (sr_R2 hl24) hs25 (fun (s7 : List Int × List Int × List Int) σ7 H7 => ∃ (F7 : Hp) (v_line : V) (o_k : Option V) (o_deep : Option V) (o_low : Option V) (o_near : Option V) (o_comb : Option V) (o_cut : Option V) (us_pool : List V) (us_ups : List V), σ7 = [some (.ref p_pool), some (.int x_many), some (.int x_kind), some v_letters, some (.ref p2), some v_line, o_k, none, none, none, o_deep, o_low, o_near, o_comb, o_cut, none] ∧ Gr [p_pool] F0 H0 F7 H7 ∧ Sub F16 F7 ∧ (eL eI).r F7 v_line s7.1 ∧ Mu [p_pool] H0 F7 H7 p_pool (.lst us_pool) ∧ Al eI F7 us_pool s7.2.1 ∧ Mu [p_pool] H0 F7 H7 p2 (.lst us_ups) ∧ Al eI F7 us_ups s7.2.2) ⟨_, (.ref p15), _, _, _, _, _, _, vs_pool, [.int (-(1 : Int))], rfl, g21, Sub.refl _, (⟨p15, [.int (0 : Int)], rfl, q19, al20⟩ : (eL eI).r F16 (.ref p15) [(0 : Int)]), m22, (Al.mono al_pool d18.ff), m23, (Al.mono al9 d18.ff)⟩ ?_ ?_ ?_
    · intros; exact trivial
    · rintro a26 s27 s28 x29 _ H30 H31 ⟨F35, v38, o39, o40, o41, o42, o43, o44, vs45, vs46, rfl, g36, sb37, r47, m48, al49, m50, al51⟩ hY32 hm N33 hN34
      refine v_nmR hY32 ?_
      refine n_name (setS (setS (setS (setS (setS (setS set0)))))) ?_
      refine n_seq ?_
      refine n_asg ?_
      refine n_cb ?_
      refine n_cons ?_
      refine n_var rfl ?_
      refine n_nil ?_
      obtain ⟨p52, vs53, ep52, q54, al55⟩ := r47
      subst ep52
      refine v_len (.inl (SqL.of (g36.fh _ _ q54))) al55 ?_
      refine n_name (setS (setS (setS (setS (setS (setS (setS (setS (setS (setS set0)))))))))) ?_
      refine n_seq ?_
      refine n_asg ?_
      refine n_op ?_
      refine n_lst ?_
      refine n_cons ?_
      refine n_var rfl ?_
      refine n_cons ?_
      refine n_op ?_
      refine n_c ?_
      refine n_call ?_
      refine n_cons ?_
      refine n_var rfl ?_
      refine n_cons ?_
      refine n_c ?_
      refine n_nil ?_
      obtain ⟨r77, hr77, hm⟩ := bnd hm
      refine ⟨F35, p_pool, vs45, s27.2.1, .int (4 : Int), (4 : Int), r77, rfl, g36.fh, m48.fr, m48.hp, al49, rfl, hr77, fun v84 F78 H79 vs81 d80 hp82 al83 r85 => ?_⟩
      have g86 := g36.trans d80 (fun a ha => (List.mem_cons.mp ha).elim (fun e => e ▸ m48.own) (fun ha => absurd ha (by simp)))
      have m87 := m48.back d80 hp82
      have m88 := m50.call d80 (nin1 (Ne.symm ne11))
      have er85 : v84 = V.int r77.1 := r85
      subst er85
      refine v_i2 ?_
      refine n_nil ?_
      refine v_mkLF (t := eI) (xs := [(s27.1.length : Int), ((1 : Int) + r77.1)]) g86.fh (.cons rfl (.cons rfl .nil)) rfl fun p89 F90 H91 d92 q93 al94 => ?_
      have g95 := g86.trans0 d92
      have m96 := m87.call0 d92
      have m97 := m88.call0 d92
      refine n_cb ?_
      refine n_cons ?_
      refine n_op ?_
      refine n_var rfl ?_
      refine n_c ?_
      refine v_i2 ?_
      refine n_nil ?_
      refine v_intB ?_
      obtain ⟨a98, ha98, hm⟩ := bnd hm
      refine v_ixL (SqL.of (g95.fh _ _ q93)) al94 ha98 fun v99 r100 => ?_
      have er100 : v99 = V.int a98 := r100
      subst er100
      refine n_name (setS (setS (setS (setS (setS (setS (setS (setS (setS (setS (setS set0))))))))))) ?_
      refine n_seq ?_
      refine n_asg ?_
      refine n_cb ?_
      refine n_cons ?_
      refine n_c ?_
      refine n_cons ?_
      refine n_op ?_
      refine n_var rfl ?_
      refine n_call ?_
      refine n_cons ?_
      refine n_var rfl ?_
      refine n_cons ?_
      refine n_c ?_
      refine n_nil ?_
      obtain ⟨r101, hr101, hm⟩ := bnd hm
      refine ⟨F90, p_pool, vs81, r77.2, .int (3 : Int), (3 : Int), r101, rfl, g95.fh, m96.fr, m96.hp, (Al.mono al83 d92.ff), rfl, hr101, fun v108 F102 H103 vs105 d104 hp106 al107 r109 => ?_⟩
      have g110 := g95.trans d104 (fun a ha => (List.mem_cons.mp ha).elim (fun e => e ▸ m96.own) (fun ha => absurd ha (by simp)))
      have m111 := m96.back d104 hp106
      have m112 := m97.call d104 (nin1 (Ne.symm ne11))
      have er109 : v108 = V.int r101.1 := r109
      subst er109
      refine v_i2 ?_
      refine n_nil ?_
      refine v_max2 ?_
      refine n_name (setS (setS (setS (setS (setS (setS (setS (setS (setS (setS (setS (setS set0)))))))))))) ?_
      refine n_seq ?_
      refine n_asg ?_
      refine n_cb ?_
      refine n_cons ?_
      refine n_c ?_
      refine n_cons ?_
      refine n_op ?_
      refine n_op ?_
      refine n_var rfl ?_
      refine n_c ?_
      refine v_i2 ?_
      refine n_op ?_
      refine n_var rfl ?_
      refine n_c ?_
      refine v_modK (by decide) ?_
      refine v_i2 ?_
      refine n_nil ?_
      refine v_max2 ?_
      refine n_name (setS (setS (setS (setS (setS (setS (setS (setS (setS (setS (setS (setS (setS set0))))))))))))) ?_
      refine n_seq ?_
      refine n_asg ?_
      refine n_op ?_
      refine n_lst ?_
      refine n_cons ?_
      refine n_var rfl ?_
      refine n_cons ?_
      refine n_c ?_
      refine n_cons ?_
      refine n_op ?_
      refine n_c ?_
      refine n_call ?_
      refine n_cons ?_
      refine n_var rfl ?_
      refine n_cons ?_
      refine n_var rfl ?_
      refine n_nil ?_
      obtain ⟨r134, hr134, hm⟩ := bnd hm
      refine ⟨F102, p_pool, vs105, r101.2, .int (s27.1.length : Int), (s27.1.length : Int), r134, rfl, g110.fh, m111.fr, m111.hp, al107, rfl, hr134, fun v141 F135 H136 vs138 d137 hp139 al140 r142 => ?_⟩
      have g143 := g110.trans d137 (fun a ha => (List.mem_cons.mp ha).elim (fun e => e ▸ m111.own) (fun ha => absurd ha (by simp)))
      have m144 := m111.back d137 hp139
      have m145 := m112.call d137 (nin1 (Ne.symm ne11))
      have er142 : v141 = V.int r134.1 := r142
      subst er142
      refine v_i2 ?_
      refine n_cons ?_
      refine n_var rfl ?_
      refine n_cons ?_
      refine n_var rfl ?_
      refine n_cons ?_
      refine n_var rfl ?_
      refine n_nil ?_
      refine v_mkLF (t := eI) (xs := [(s27.1.length : Int), (1 : Int), ((1 : Int) + r134.1), (mx (1 : Int) ((s27.1.length : Int) - r101.1)), (mx (1 : Int) (((s27.1.length : Int) - (1 : Int)) + (a26 % (2 : Int)))), a98]) g143.fh (.cons rfl (.cons rfl (.cons rfl (.cons rfl (.cons rfl (.cons rfl .nil)))))) rfl fun p146 F147 H148 d149 q150 al151 => ?_
      have g152 := g143.trans0 d149
      have m153 := m144.call0 d149
      have m154 := m145.call0 d149
      refine n_var rfl ?_
      obtain ⟨a155, ha155, hm⟩ := bnd hm
      refine v_ixL (SqL.of (g152.fh _ _ q150)) al151 ha155 fun v156 r157 => ?_
      have er157 : v156 = V.int a155 := r157
      subst er157
      refine n_name (setS (setS (setS (setS (setS (setS (setS (setS (setS (setS (setS (setS (setS (setS set0)))))))))))))) ?_
      refine n_seq ?_
      refine n_drop ?_
      refine n_bm ?_
      refine n_var rfl ?_
      refine ⟨tyL m154.l, ?_⟩
      refine n_cons ?_
      refine n_op ?_
      refine n_var rfl ?_
      refine n_op ?_
      refine n_var rfl ?_
      refine n_c ?_
      refine v_i2 ?_
      obtain ⟨a158, ha158, hm⟩ := bnd hm
      refine v_ixL (SqL.of (g152.fh _ _ ((Sub.trans d80.ff (Sub.trans d92.ff (Sub.trans d104.ff (Sub.trans d137.ff d149.ff)))) _ _ q54))) (Al.mono al55 (Sub.trans d80.ff (Sub.trans d92.ff (Sub.trans d104.ff (Sub.trans d137.ff d149.ff))))) ha158 fun v159 r160 => ?_
      have er160 : v159 = V.int a158 := r160
      subst er160
      refine n_nil ?_
      obtain ⟨l161, hl161, hm⟩ := bnd hm
      obtain ⟨vs165, H162, g166, al164, evs165, eH162⟩ := app_ok g152 m154 (Al.mono al51 (Sub.trans d80.ff (Sub.trans d92.ff (Sub.trans d104.ff (Sub.trans d137.ff d149.ff))))) hl161 (show eI.r F147 (.int a158) a158 from rfl)
      refine v_append m154.hp (snoc_lt (Al.mono al51 (Sub.trans d80.ff (Sub.trans d92.ff (Sub.trans d104.ff (Sub.trans d137.ff d149.ff))))) hl161) ?_
      rw [← evs165, ← eH162]
      have m167 := mu_oth m153 ne11 eH162
      have m168 := mu_self m154 eH162
      refine n_asg ?_
      refine n_op ?_
      refine n_sl ?_
      refine n_var rfl ?_
      refine n_nopart ?_
      refine n_part ?_
      refine n_var rfl ?_
      refine v_part ?_
      refine v_slLF g166.fh (SqL.of (g166.fh _ _ ((Sub.trans d80.ff (Sub.trans d92.ff (Sub.trans d104.ff (Sub.trans d137.ff d149.ff)))) _ _ q54))) (Al.mono al55 (Sub.trans d80.ff (Sub.trans d92.ff (Sub.trans d104.ff (Sub.trans d137.ff d149.ff))))) fun p169 vs170 F172 H173 d174 q175 al171 => ?_
      have g176 := g166.trans0 d174
      have m177 := m167.call0 d174
      have m178 := m168.call0 d174
      refine n_lst ?_
      refine n_cons ?_
      refine n_var rfl ?_
      refine n_nil ?_
      refine v_mkLF (t := eI) (xs := [a26]) g176.fh (.cons rfl .nil) rfl fun p179 F180 H181 d182 q183 al184 => ?_
      have g185 := g176.trans0 d182
      have m186 := m177.call0 d182
      have m187 := m178.call0 d182
      obtain ⟨l188, hl188, hm⟩ := bnd hm
      refine v_catF g185.fh (g185.fh _ _ (d182.ff _ _ q175)) (g185.fh _ _ q183) (Al.mono al171 d182.ff) al184 hl188 fun p189 vs190 F192 H193 d194 q195 al191 => ?_
      have g196 := g185.trans0 d194
      have m197 := m186.call0 d194
      have m198 := m187.call0 d194
      refine n_name (setS (setS (setS (setS (setS set0))))) ?_
      obtain rfl := Option.some.inj hm
      exact hN34 _ _ ⟨_, (.ref p189), _, _, _, _, _, _, vs138, vs165, rfl, g196, (Sub.trans sb37 (Sub.trans d80.ff (Sub.trans d92.ff (Sub.trans d104.ff (Sub.trans d137.ff (Sub.trans d149.ff (Sub.trans d174.ff (Sub.trans d182.ff d194.ff)))))))), (⟨p189, vs190, rfl, q195, al191⟩ : (eL eI).r F192 (.ref p189) l188), m197, (Al.mono al140 (Sub.trans d149.ff (Sub.trans d174.ff (Sub.trans d182.ff d194.ff)))), m198, (Al.mono al164 (Sub.trans d174.ff (Sub.trans d182.ff d194.ff)))⟩
    rintro _ H199 ⟨F200, v203, o204, o205, o206, o207, o208, o209, vs210, vs211, rfl, g201, sb202, r212, m213, al214, m215, al216⟩
    refine n_seq ?_
    refine n_asg ?_
    refine n_call ?_
    refine n_cons ?_
    refine n_var rfl ?_
    refine n_cons ?_
    refine n_c ?_
    refine n_nil ?_
    obtain ⟨r217, hr217, hm⟩ := bnd hm
    refine ⟨F200, p_pool, vs210, s25.2.1, .int (6 : Int), (6 : Int), r217, rfl, g201.fh, m213.fr, m213.hp, al214, rfl, hr217, fun v224 F218 H219 vs221 d220 hp222 al223 r225 => ?_⟩
    have g226 := g201.trans d220 (fun a ha => (List.mem_cons.mp ha).elim (fun e => e ▸ m213.own) (fun ha => absurd ha (by simp)))
    have m227 := m213.back d220 hp222
    have m228 := m215.call d220 (nin1 (Ne.symm ne11))
    have er225 : v224 = V.int r217.1 := r225
    subst er225
    refine n_name (setS (setS (setS (setS (setS (setS (setS set0))))))) ?_
    refine n_seq ?_
    refine n_asg ?_
    refine n_op ?_
    refine n_lst ?_
    refine n_cons ?_
    refine n_call ?_
    refine n_cons ?_
    refine n_var rfl ?_
    refine n_cons ?_
    refine n_var rfl ?_
    refine n_nil ?_
    obtain ⟨r250, hr250, hm⟩ := bnd hm
    refine ⟨F218, p_pool, vs221, r217.2, .int x_many, x_many, r250, rfl, g226.fh, m227.fr, m227.hp, al223, rfl, hr250, fun v257 F251 H252 vs254 d253 hp255 al256 r258 => ?_⟩
    have g259 := g226.trans d253 (fun a ha => (List.mem_cons.mp ha).elim (fun e => e ▸ m227.own) (fun ha => absurd ha (by simp)))
    have m260 := m227.back d253 hp255
    have m261 := m228.call d253 (nin1 (Ne.symm ne11))
    have er258 : v257 = V.int r250.1 := r258
    subst er258
    refine n_cons ?_
    refine n_c ?_
    refine n_nil ?_
    refine v_mkLF (t := eI) (xs := [r250.1, (0 : Int)]) g259.fh (.cons rfl (.cons rfl .nil)) rfl fun p262 F263 H264 d265 q266 al267 => ?_
    have g268 := g259.trans0 d265
    have m269 := m260.call0 d265
    have m270 := m261.call0 d265
    refine n_call ?_
    refine n_cons ?_
    refine n_var rfl ?_
    refine n_cons ?_
    refine n_c ?_
    refine n_nil ?_
    obtain ⟨r271, hr271, hm⟩ := bnd hm
    refine ⟨F263, p_pool, vs254, r250.2, .int (2 : Int), (2 : Int), r271, rfl, g268.fh, m269.fr, m269.hp, (Al.mono al256 d265.ff), rfl, hr271, fun v278 F272 H273 vs275 d274 hp276 al277 r279 => ?_⟩
    have g280 := g268.trans d274 (fun a ha => (List.mem_cons.mp ha).elim (fun e => e ▸ m269.own) (fun ha => absurd ha (by simp)))
    have m281 := m269.back d274 hp276
    have m282 := m270.call d274 (nin1 (Ne.symm ne11))
    have er279 : v278 = V.int r271.1 := r279
    subst er279
    obtain ⟨a283, ha283, hm⟩ := bnd hm
    refine v_ixL (SqL.of (g280.fh _ _ (d274.ff _ _ q266))) (Al.mono al267 d274.ff) ha283 fun v284 r285 => ?_
    have er285 : v284 = V.int a283 := r285
    subst er285
    refine n_name (setS (setS (setS (setS (setS (setS (setS (setS set0)))))))) ?_
    refine n_seq ?_
    refine n_asg ?_
    refine n_str (s := []) (by decide +kernel) ?_
    refine n_name (setS (setS (setS (setS (setS (setS (setS (setS (setS set0))))))))) ?_
    refine n_seq ?_
    refine n_for ?_
    refine n_rng1 ?_
    refine n_cons ?_
    refine n_var rfl ?_
    refine n_nil ?_
    obtain ⟨l286, hl286, hm⟩ := bnd hm
    refine v_rng1 hl286 ?_
    obtain ⟨s287, hs287, hm⟩ := bnd hm
    refine for_o (sr_R1 hl286) hs287 (fun (s7 : Sg × List Int) σ7 H7 => ∃ (F7 : Hp) (o_k : Option V) (o_at : Option V) (us_pool : List V), σ7 = [some (.ref p_pool), some (.int x_many), some (.int x_kind), some v_letters, some (.ref p2), some v203, o_k, some (.int r217.1), some (.int a283), some (.str (S s7.1)), o205, o206, o207, o208, o209, o_at] ∧ Gr [p_pool] F0 H0 F7 H7 ∧ Sub F272 F7 ∧ s7.1.length ≤ sizeLine ∧ Mu [p_pool] H0 F7 H7 p_pool (.lst us_pool) ∧ Al eI F7 us_pool s7.2 ∧ Mu [p_pool] H0 F7 H7 p2 (.lst vs211)) ⟨_, _, _, vs275, rfl, g280, Sub.refl _, (sz_ok (n := 0) rfl), m281, al277, m282⟩ ?_ ?_ ?_
    · intros; exact trivial
    · rintro a288 s289 s290 x291 _ H292 H293 ⟨F297, o300, o301, vs302, rfl, g298, sb299, l303, m304, al305, m306⟩ hY294 hm N295 hN296
      refine v_nmR hY294 ?_
      refine n_name (setS (setS (setS (setS (setS (setS set0)))))) ?_
      refine n_seq ?_
      refine n_asg ?_
      refine n_call ?_
      refine n_cons ?_
      refine n_var rfl ?_
      refine n_cons ?_
      refine n_cb ?_
      refine n_cons ?_
      refine n_var rfl ?_
      refine n_nil ?_
      obtain ⟨p307, vs308, ep307, q309, al310⟩ := (Rp.mono (eL eS) (Sub.trans d18.ff (Sub.trans sb202 (Sub.trans d220.ff (Sub.trans d253.ff (Sub.trans d265.ff (Sub.trans d274.ff sb299)))))) r_letters)
      subst ep307
      refine v_len (.inl (SqL.of (g298.fh _ _ q309))) al310 ?_
      refine n_nil ?_
      obtain ⟨r311, hr311, hm⟩ := bnd hm
      refine ⟨F297, p_pool, vs302, s289.2, .int (x_letters.length : Int), (x_letters.length : Int), r311, rfl, g298.fh, m304.fr, m304.hp, al305, rfl, hr311, fun v318 F312 H313 vs315 d314 hp316 al317 r319 => ?_⟩
      have g320 := g298.trans d314 (fun a ha => (List.mem_cons.mp ha).elim (fun e => e ▸ m304.own) (fun ha => absurd ha (by simp)))
      have m321 := m304.back d314 hp316
      have m322 := m306.call d314 (nin1 (Ne.symm ne11))
      have er319 : v318 = V.int r311.1 := r319
      subst er319
      refine n_name (setS (setS (setS (setS (setS (setS (setS (setS (setS (setS (setS (setS (setS (setS (setS set0))))))))))))))) ?_
      refine n_seq ?_
      refine n_ifs ?_
      refine n_test ?_
      refine n_chain ?_
      refine n_c ?_
      refine n_var rfl ?_
      refine v_i2 ?_
      refine v_bl ?_
      refine br_chain (b := (decide (r217.1 < (4 : Int)))) (fun _ Q7 k7 => ?_) ?_
      · refine n_c ?_
        refine v_i2 ?_
        exact k7
      refine v_bl ?_
      obtain ⟨s325, hs325, hm⟩ := bnd hm
      refine br_join (fun σ7 H7 => ∃ (F7 : Hp), σ7 = [some (.ref p_pool), some (.int x_many), some (.int x_kind), some (.ref p307), some (.ref p2), some v203, some (.int a288), some (.int r217.1), some (.int a283), some (.str (S s289.1)), o205, o206, o207, o208, o209, some (.int s325)] ∧ Gr [p_pool] F0 H0 F7 H7 ∧ Sub F312 F7 ∧ Mu [p_pool] H0 F7 H7 p_pool (.lst vs315) ∧ Mu [p_pool] H0 F7 H7 p2 (.lst vs211)) ?_ (fun hb324 nx326 hnx327 => ?_) (fun hb324 nx326 hnx327 => ?_)
      rotate_left
      · have hm := ifT hb324 hs325
        refine n_asg ?_
        refine n_op ?_
        refine n_op ?_
        refine n_var rfl ?_
        refine n_var rfl ?_
        obtain ⟨a328, ha328, hm⟩ := bnd hm
        refine v_mod ha328 ?_
        refine n_cb ?_
        refine n_cons ?_
        refine n_var rfl ?_
        refine n_nil ?_
        refine v_len (.inl (SqL.of (g320.fh _ _ (d314.ff _ _ q309)))) (Al.mono al310 d314.ff) ?_
        obtain ⟨a329, ha329, hm⟩ := bnd hm
        refine v_mod ha329 ?_
        refine n_name (setS (setS (setS (setS (setS (setS (setS (setS (setS (setS (setS (setS (setS (setS (setS set0))))))))))))))) ?_
        obtain rfl := Option.some.inj hm
        exact hnx327 _ _ ⟨_, rfl, g320, Sub.refl _, m321, m322⟩
      · have hm := ifF hb324 hs325
        refine n_nextS ?_
        obtain rfl := Option.some.inj hm
        exact hnx327 _ _ ⟨_, rfl, g320, Sub.refl _, m321, m322⟩
      rintro _ H335 ⟨F330, rfl, g331, sb332, m333, m334⟩
      refine n_seq ?_
      refine n_ifs ?_
      refine n_test ?_
      refine n_op ?_
      refine n_var rfl ?_
      refine n_c ?_
      refine v_i2 ?_
      refine v_bl ?_
      obtain ⟨s337, hs337, hm⟩ := bnd hm
      refine br_join (fun σ7 H7 => ∃ (F7 : Hp), σ7 = [some (.ref p_pool), some (.int x_many), some (.int x_kind), some (.ref p307), some (.ref p2), some v203, some (.int a288), some (.int r217.1), some (.int a283), some (.str (S s289.1)), o205, o206, o207, o208, o209, some (.int s337)] ∧ Gr [p_pool] F0 H0 F7 H7 ∧ Sub F330 F7 ∧ Mu [p_pool] H0 F7 H7 p_pool (.lst vs315) ∧ Mu [p_pool] H0 F7 H7 p2 (.lst vs211)) ?_ (fun hb336 nx338 hnx339 => ?_) (fun hb336 nx338 hnx339 => ?_)
      rotate_left
      · have hm := ifT hb336 hs337
        refine n_asg ?_
        refine n_op ?_
        refine n_cb ?_
        refine n_cons ?_
        refine n_op ?_
        refine n_var rfl ?_
        refine n_var rfl ?_
        refine v_eqI ?_
        refine n_nil ?_
        refine v_intB ?_
        refine n_cb ?_
        refine n_cons ?_
        refine n_var rfl ?_
        refine n_nil ?_
        refine v_len (.inl (SqL.of (g331.fh _ _ ((Sub.trans d314.ff sb332) _ _ q309)))) (Al.mono al310 (Sub.trans d314.ff sb332)) ?_
        obtain ⟨a340, ha340, hm⟩ := bnd hm
        refine v_mod ha340 ?_
        refine n_name (setS (setS (setS (setS (setS (setS (setS (setS (setS (setS (setS (setS (setS (setS (setS set0))))))))))))))) ?_
        obtain rfl := Option.some.inj hm
        exact hnx339 _ _ ⟨_, rfl, g331, Sub.refl _, m333, m334⟩
      · have hm := ifF hb336 hs337
        refine n_nextS ?_
        obtain rfl := Option.some.inj hm
        exact hnx339 _ _ ⟨_, rfl, g331, Sub.refl _, m333, m334⟩
      rintro _ H346 ⟨F341, rfl, g342, sb343, m344, m345⟩
      refine n_asg ?_
      refine n_op ?_
      refine n_var rfl ?_
      refine n_op ?_
      refine n_var rfl ?_
      refine n_var rfl ?_
      obtain ⟨a347, ha347, hm⟩ := bnd hm
      refine v_ixL (SqL.of (g342.fh _ _ ((Sub.trans d314.ff (Sub.trans sb332 sb343)) _ _ q309))) (Al.mono al310 (Sub.trans d314.ff (Sub.trans sb332 sb343))) ha347 fun v348 r349 => ?_
      obtain ⟨er349, lr349⟩ : v348 = V.str (S a347) ∧ a347.length ≤ sizeLine := r349
      subst er349
      obtain ⟨t350, ht350, hm⟩ := bnd hm
      refine v_catS ht350 ?_
      refine n_name (setS (setS (setS (setS (setS (setS (setS (setS (setS set0))))))))) ?_
      obtain rfl := Option.some.inj hm
      exact hN296 _ _ ⟨_, _, _, vs315, rfl, g342, (Sub.trans sb299 (Sub.trans d314.ff (Sub.trans sb332 sb343))), (catM_le ht350), m344, (Al.mono al317 (Sub.trans sb332 sb343)), m345⟩
    rintro _ H351 ⟨F352, o355, o356, vs357, rfl, g353, sb354, l358, m359, al360, m361⟩
    refine n_ret ?_
    refine n_tup ?_
    refine n_cons ?_
    refine n_cb ?_
    refine n_cons ?_
    refine n_var rfl ?_
    refine n_nil ?_
    refine v_tuple g353.fh m361.l (Al.mono al216 (Sub.trans d220.ff (Sub.trans d253.ff (Sub.trans d265.ff (Sub.trans d274.ff sb354))))) fun p363 F364 H365 d366 q367 al368 => ?_
    have g369 := g353.trans0 d366
    have m370 := m359.call0 d366
    have m371 := m361.call0 d366
    refine n_cons ?_
    refine n_var rfl ?_
    refine n_nil ?_
    refine v_mk2 g369.fh (show (eT eI).r F364 (.ref p363) s25.2.2 from (⟨p363, vs211, rfl, q367, al368⟩ : (eT eI).r F364 (.ref p363) s25.2.2)) (show eS.r F364 (.str (S s287.1)) s287.1 from ⟨rfl, l358⟩) fun v372 F373 H374 d375 r376 => ?_
    have g377 := g369.trans0 d375
    have m378 := m370.call0 d375
    have m379 := m371.call0 d375
    obtain rfl := Option.some.inj hm
    exact hk _ _ _ _ g377 m378.hp (Al.mono al360 (Sub.trans d366.ff d375.ff)) r376

def m__law_copies (x_pool : List Int) (x_most : Int) (x_letters : List Sg) : Option ((List Int × Sg) × List Int) :=
  (m__law_take x_pool (6 : Int)).bind fun r2 =>
  (m__law_grown r2.2 ((1 : Int) + r2.1) (2 : Int) x_letters).bind fun r13 =>
  (m__law_take r13.2 (2 : Int)).bind fun r24 =>
  (m__law_take r24.2 (x_letters.length : Int)).bind fun r52 =>
  (atI x_letters r52.1).bind fun a64 =>
  (m__law_take r52.2 (12 : Int)).bind fun r67 =>
  (uptoM 0 ((1 : Int) + r67.1)).bind fun l79 =>
  (foldO l79 (a64, [(-1 : Int)]) fun s82 a81 =>
  if (decide (((s82.2.length : Int) + (r13.1.1.length : Int)) ≤ x_most)) = true then
  (atI [(0 : Int), ((s82.2.length : Int) - (1 : Int))] r24.1).bind fun a125 =>
  (need (szB (cutL r13.1.1 (some (1 : Int)) none).length) ()).bind fun u171 =>
  (compS (cutL r13.1.1 (some (1 : Int)) none) fun a173 =>
  some (some (a173 + (s82.2.length : Int)))).bind fun q172 =>
  (catLM [a125] q172).bind fun l223 =>
  (catLM s82.2 l223).bind fun l234 =>
  (catM s82.1 r13.1.2).bind fun t243 =>
  some (t243, l234)
  else
  some (s82.1, s82.2)).bind fun s80 =>
  some ((s80.2, s80.1), r67.2)
def sp__law_copies (K : PySem.W.Frag) : Sp := fun vs H Q _ => ∃ (F : Hp) (p_pool : Addr) (vs_pool : List V) (x_pool : List Int) (v_most : V) (x_most : Int) (v_letters : V) (x_letters : List Sg) (r : ((List Int × Sg) × List Int)), vs = [.ref p_pool, v_most, v_letters] ∧ Sub F H ∧ F p_pool = none ∧ H p_pool = some (.lst vs_pool) ∧ Al eI F vs_pool x_pool ∧ eI.r F v_most x_most ∧ (eL eS).r F v_letters x_letters ∧ m__law_copies x_pool x_most x_letters = some r ∧ ∀ (v : V) (F' H' : Hp) (us_pool : List V), Gr [p_pool] F H F' H' → H' p_pool = some (.lst us_pool) → Al eI F' us_pool r.2 → (eP2 (eT eI) eS).r F' v r.1 → Q v H'
theorem sc__law_copies : FnScope ["pool", "most", "letters", "one", "chain", "ups", "labels", "turn", "here", "up"] ["pool", "most", "letters"] (defScope s__law_copies) := ⟨rfl, rfl, rfl, by decide +kernel, rfl, by decide +kernel, by decide +kernel⟩
theorem ok__law_copies {f : Addr} {fd : FuncData} (F : FnP K "_law_copies" s__law_copies f fd) (H__law_grown : HasG P w K mg base "_law_grown" ["pool", "many", "kind", "letters"] 2 (sp__law_grown K)) (H__law_take : HasG P w K mg base "_law_take" ["pool", "many"] 1 (sp__law_take K)) (b_range : mg "range" = none) (b_tuple : mg "tuple" = none) (b_len : mg "len" = none) : FnG P w K mg base CX0 3 f fd ["pool", "most", "letters"] (sp__law_copies K) := by
  obtain ⟨f__law_grown, fd__law_grown, G0__law_grown, g__law_grown, k__law_grown, b__law_grown⟩ := H__law_grown
  have G__law_grown := G0__law_grown.mono (show 2 ≤ 2 by decide)
  obtain ⟨f__law_take, fd__law_take, G0__law_take, g__law_take, k__law_take, b__law_take⟩ := H__law_take
  have G__law_take := G0__law_take.mono (show 1 ≤ 2 by decide)
  refine FnDok F sc__law_copies (fun vs H Q E h => ?_) (fun cdv A outer s H0 vs Q E gd hr h => ?_)
  · obtain ⟨_, _, _, _, _, _, _, _, _, rfl, _⟩ := h
    rfl
  · obtain ⟨F0, p_pool, vs_pool, x_pool, v_most, x_most, v_letters, x_letters, r0, rfl, hs0, fr_pool, hp_pool, al_pool, r_most, r_letters, hm, hk⟩ := h
    have g0 : Gr [p_pool] F0 H0 F0 H0 := Gr.refl hs0
    have m1 : Mu [p_pool] H0 F0 H0 p_pool (.lst vs_pool) := ⟨fr_pool, hp_pool, .inr (by simp)⟩
    have er_most : v_most = V.int x_most := r_most
    subst er_most
    refine ⟨_, PSs.nox (pss_cons (ps_set (i := 3) sc__law_copies.nd rfl (by first | exact Or.inl rfl | exact Or.inr rfl) (pe_callG G__law_grown gd hr (by rfl) g__law_grown k__law_grown b__law_grown pass0 (pa_cons (pv 0) (pa_cons (pe_op op_add pe_int (pe_callG G__law_take gd hr (by rfl) g__law_take k__law_take b__law_take pass0 (pa_cons (pv 0) (pa_cons pe_int pa_nil)))) (pa_cons pe_int (pa_cons (pv 2) pa_nil))))))
(pss_cons (ps_set (i := 4) sc__law_copies.nd rfl (by first | exact Or.inl rfl | exact Or.inr rfl) (pe_callG G__law_take gd hr (by rfl) g__law_take k__law_take b__law_take pass0 (pa_cons (pv 0) (pa_cons pe_int pa_nil))))
(pss_cons (ps_set (i := 5) sc__law_copies.nd rfl (by first | exact Or.inl rfl | exact Or.inr rfl) (pe_lst (pa_cons (pe_un un_neg pe_int) pa_nil)))
(pss_cons (ps_set (i := 6) sc__law_copies.nd rfl (by first | exact Or.inl rfl | exact Or.inr rfl) (pe_ix (c_ixL (K := K) rfl) (pv 2) (pe_callG G__law_take gd hr (by rfl) g__law_take k__law_take b__law_take pass0 (pa_cons (pv 0) (pa_cons (pe_callB (c_len (K := K) rfl) (by rfl) b_len bo_len (pa_cons (pv 2) pa_nil)) pa_nil))) (fun _ _ => rfl)))
(pss_cons (ps_for PassesOwn.never rfl (pi_range1 (by rfl) b_range (pa_cons (pe_op op_add pe_int (pe_callG G__law_take gd hr (by rfl) g__law_take k__law_take b__law_take pass0 (pa_cons (pv 0) (pa_cons pe_int pa_nil)))) pa_nil)) (pg_name (i := 7) sc__law_copies.nd rfl (by first | exact Or.inl rfl | exact Or.inr rfl)) (pss_one (ps_if (pt_cmpR op_le (pe_op op_add (pe_callB (c_len (K := K) rfl) (by rfl) b_len bo_len (pa_cons (pv 5) pa_nil)) (pe_callB (c_len (K := K) rfl) (by rfl) b_len bo_len (pa_cons (pe_ix (c_ixT (K := K) rfl) (pv 3) pe_int (fun _ _ => rfl)) pa_nil))) (pv 1) (nomark _)) (pss_cons (ps_set (i := 8) sc__law_copies.nd rfl (by first | exact Or.inl rfl | exact Or.inr rfl) (pe_callB (c_len (K := K) rfl) (by rfl) b_len bo_len (pa_cons (pv 5) pa_nil)))
(pss_cons (ps_expr (c_bm (K := K) rfl PySem.F.plainAttrs_list PySem.F.slot_list_extend PySem.F.type_list_extend mt_extend (pv 5) (pa_cons (pe_op op_cat (pe_lst (pa_cons (pe_ix (c_ixL (K := K) rfl) (pe_lst (pa_cons pe_int (pa_cons (pe_op op_sub (pv 8) pe_int) pa_nil))) (pv 4) (fun _ _ => rfl)) pa_nil)) (pe_lc (own := [("up", 9)]) (g := gName 9) (by rfl) sc__law_copies.nd (c_pitup (K := K) rfl (pe_slice (c_slT (K := K) rfl) (pe_ix (c_ixT (K := K) rfl) (pv 3) pe_int (fun _ _ => rfl)) (po_some pe_int) po_none)) (blkOk_by (own := [("up", 9)]) (N := ["pool", "most", "letters", "one", "chain", "ups", "labels", "turn", "here", "up"]) (sc := defScope s__law_copies) (by decide +kernel)) (fun _ _ _ _ _ => (pg_name (i := 9) sc__law_copies.nd rfl (Or.inl rfl))) (fun _ _ _ _ _ => pts_nil) (fun _ _ _ _ _ => (pe_op op_add (pv 9) (pv 8))))) pa_nil)))
(pss_one (ps_set (i := 6) sc__law_copies.nd rfl (by first | exact Or.inl rfl | exact Or.inr rfl) (pe_op c_catS (pv 6) (pe_ix (c_ixT (K := K) rfl) (pv 3) pe_int (fun _ _ => rfl))))))) pss_nil)))
(pss_one (ps_ret (pe_tup (pa_cons (pe_callTy (c_tuple (K := K) rfl) (by rfl) b_tuple bo_tuple (pa_cons (pv 5) pa_nil)) (pa_cons (pv 6) pa_nil)))))))))), ?_⟩
    refine n_seq ?_
    refine n_asg ?_
    refine n_call ?_
    refine n_cons ?_
    refine n_var rfl ?_
    refine n_cons ?_
    refine n_op ?_
    refine n_c ?_
    refine n_call ?_
    refine n_cons ?_
    refine n_var rfl ?_
    refine n_cons ?_
    refine n_c ?_
    refine n_nil ?_
    obtain ⟨r2, hr2, hm⟩ := bnd hm
    refine ⟨F0, p_pool, vs_pool, x_pool, .int (6 : Int), (6 : Int), r2, rfl, g0.fh, m1.fr, m1.hp, al_pool, rfl, hr2, fun v9 F3 H4 vs6 d5 hp7 al8 r10 => ?_⟩
    have g11 := g0.trans d5 (fun a ha => (List.mem_cons.mp ha).elim (fun e => e ▸ m1.own) (fun ha => absurd ha (by simp)))
    have m12 := m1.back d5 hp7
    have er10 : v9 = V.int r2.1 := r10
    subst er10
    refine v_i2 ?_
    refine n_cons ?_
    refine n_c ?_
    refine n_cons ?_
    refine n_var rfl ?_
    refine n_nil ?_
    obtain ⟨r13, hr13, hm⟩ := bnd hm
    refine ⟨F3, p_pool, vs6, r2.2, .int ((1 : Int) + r2.1), ((1 : Int) + r2.1), .int (2 : Int), (2 : Int), v_letters, x_letters, r13, rfl, g11.fh, m12.fr, m12.hp, al8, rfl, rfl, (Rp.mono (eL eS) d5.ff r_letters), hr13, fun v20 F14 H15 vs17 d16 hp18 al19 r21 => ?_⟩
    have g22 := g11.trans d16 (fun a ha => (List.mem_cons.mp ha).elim (fun e => e ▸ m12.own) (fun ha => absurd ha (by simp)))
    have m23 := m12.back d16 hp18
    refine n_name (setS (setS (setS set0))) ?_
    refine n_seq ?_
    refine n_asg ?_
    refine n_call ?_
    refine n_cons ?_
    refine n_var rfl ?_
    refine n_cons ?_
    refine n_c ?_
    refine n_nil ?_
    obtain ⟨r24, hr24, hm⟩ := bnd hm
    refine ⟨F14, p_pool, vs17, r13.2, .int (2 : Int), (2 : Int), r24, rfl, g22.fh, m23.fr, m23.hp, al19, rfl, hr24, fun v31 F25 H26 vs28 d27 hp29 al30 r32 => ?_⟩
    have g33 := g22.trans d27 (fun a ha => (List.mem_cons.mp ha).elim (fun e => e ▸ m23.own) (fun ha => absurd ha (by simp)))
    have m34 := m23.back d27 hp29
    have er32 : v31 = V.int r24.1 := r32
    subst er32
    refine n_name (setS (setS (setS (setS set0)))) ?_
    refine n_seq ?_
    refine n_asg ?_
    refine n_lst ?_
    refine n_cons ?_
    refine n_un ?_
    refine n_c ?_
    refine v_neg ?_
    refine n_nil ?_
    have al42 : Al eI F25 [.int (-(1 : Int))] [(-1 : Int)] := (.cons rfl .nil)
    refine v_mkLM g33.fh rfl fun p35 H36 np37 d38 fp39 hp40 => ?_
    have go43 := g33.old np37
    have ne44 := m34.ne np37
    have g45 := g33.trans0 d38
    have m46 := m34.call0 d38
    have m47 : Mu [p_pool] H0 F25 H36 p35 (.lst [.int (-(1 : Int))]) := ⟨fp39, hp40, .inl go43⟩
    refine n_name (setS (setS (setS (setS (setS set0))))) ?_
    refine n_seq ?_
    refine n_asg ?_
    refine n_op ?_
    refine n_var rfl ?_
    refine n_call ?_
    refine n_cons ?_
    refine n_var rfl ?_
    refine n_cons ?_
    refine n_cb ?_
    refine n_cons ?_
    refine n_var rfl ?_
    refine n_nil ?_
    obtain ⟨p48, vs49, ep48, q50, al51⟩ := (Rp.mono (eL eS) (Sub.trans d5.ff (Sub.trans d16.ff d27.ff)) r_letters)
    subst ep48
    refine v_len (.inl (SqL.of (g45.fh _ _ q50))) al51 ?_
    refine n_nil ?_
    obtain ⟨r52, hr52, hm⟩ := bnd hm
    refine ⟨F25, p_pool, vs28, r24.2, .int (x_letters.length : Int), (x_letters.length : Int), r52, rfl, g45.fh, m46.fr, m46.hp, al30, rfl, hr52, fun v59 F53 H54 vs56 d55 hp57 al58 r60 => ?_⟩
    have g61 := g45.trans d55 (fun a ha => (List.mem_cons.mp ha).elim (fun e => e ▸ m46.own) (fun ha => absurd ha (by simp)))
    have m62 := m46.back d55 hp57
    have m63 := m47.call d55 (nin1 (Ne.symm ne44))
    have er60 : v59 = V.int r52.1 := r60
    subst er60
    obtain ⟨a64, ha64, hm⟩ := bnd hm
    refine v_ixL (SqL.of (g61.fh _ _ (d55.ff _ _ q50))) (Al.mono al51 d55.ff) ha64 fun v65 r66 => ?_
    obtain ⟨er66, lr66⟩ : v65 = V.str (S a64) ∧ a64.length ≤ sizeLine := r66
    subst er66
    refine n_name (setS (setS (setS (setS (setS (setS set0)))))) ?_
    refine n_seq ?_
    refine n_for ?_
    refine n_rng1 ?_
    refine n_cons ?_
    refine n_op ?_
    refine n_c ?_
    refine n_call ?_
    refine n_cons ?_
    refine n_var rfl ?_
    refine n_cons ?_
    refine n_c ?_
    refine n_nil ?_
    obtain ⟨r67, hr67, hm⟩ := bnd hm
    refine ⟨F53, p_pool, vs56, r52.2, .int (12 : Int), (12 : Int), r67, rfl, g61.fh, m62.fr, m62.hp, al58, rfl, hr67, fun v74 F68 H69 vs71 d70 hp72 al73 r75 => ?_⟩
    have g76 := g61.trans d70 (fun a ha => (List.mem_cons.mp ha).elim (fun e => e ▸ m62.own) (fun ha => absurd ha (by simp)))
    have m77 := m62.back d70 hp72
    have m78 := m63.call d70 (nin1 (Ne.symm ne44))
    have er75 : v74 = V.int r67.1 := r75
    subst er75
    refine v_i2 ?_
    refine n_nil ?_
    obtain ⟨l79, hl79, hm⟩ := bnd hm
    refine v_rng1 hl79 ?_
    obtain ⟨s80, hs80, hm⟩ := bnd hm
    refine for_o (sr_R1 hl79) hs80 (fun (s7 : Sg × List Int) σ7 H7 => ∃ (F7 : Hp) (o_turn : Option V) (o_here : Option V) (us_ups : List V), σ7 = [some (.ref p_pool), some (.int x_most), some (.ref p48), some v20, some (.int r24.1), some (.ref p35), some (.str (S s7.1)), o_turn, o_here, none] ∧ Gr [p_pool] F0 H0 F7 H7 ∧ Sub F68 F7 ∧ s7.1.length ≤ sizeLine ∧ Mu [p_pool] H0 F7 H7 p35 (.lst us_ups) ∧ Al eI F7 us_ups s7.2 ∧ Mu [p_pool] H0 F7 H7 p_pool (.lst vs71)) ⟨_, _, _, [.int (-(1 : Int))], rfl, g76, Sub.refl _, lr66, m78, (Al.mono al42 (Sub.trans d55.ff d70.ff)), m77⟩ ?_ ?_ ?_
    · intros; exact trivial
    · rintro a81 s82 s83 x84 _ H85 H86 ⟨F90, o93, o94, vs95, rfl, g91, sb92, l96, m97, al98, m99⟩ hY87 hm N88 hN89
      refine v_nmR hY87 ?_
      refine n_name (setS (setS (setS (setS (setS (setS (setS set0))))))) ?_
      refine n_ifs ?_
      refine n_test ?_
      refine n_op ?_
      refine n_op ?_
      refine n_cb ?_
      refine n_cons ?_
      refine n_var rfl ?_
      refine n_nil ?_
      refine v_len (.inl m97.l) al98 ?_
      refine n_cb ?_
      refine n_cons ?_
      refine n_op ?_
      refine n_var rfl ?_
      refine n_c ?_
      refine v_ix20 g91.fh (Rp.mono (eP2 (eT eI) eS) (Sub.trans d27.ff (Sub.trans d55.ff (Sub.trans d70.ff sb92))) r21) fun v100 r101 => ?_
      refine n_nil ?_
      obtain ⟨p102, vs103, ep102, q104, al105⟩ := r101
      subst ep102
      refine v_len (.inr (SqT.of (g91.fh _ _ q104))) al105 ?_
      refine v_i2 ?_
      refine n_var rfl ?_
      refine v_i2 ?_
      refine v_bl ?_
      refine br (fun hb106 => ?_) (fun hb106 => ?_)
      · replace hm := ifT hb106 hm
        refine n_seq ?_
        refine n_asg ?_
        refine n_cb ?_
        refine n_cons ?_
        refine n_var rfl ?_
        refine n_nil ?_
        refine v_len (.inl m97.l) al98 ?_
        refine n_name (setS (setS (setS (setS (setS (setS (setS (setS set0)))))))) ?_
        refine n_seq ?_
        refine n_drop ?_
        refine n_bm ?_
        refine n_var rfl ?_
        refine ⟨tyL m97.l, ?_⟩
        refine n_cons ?_
        refine n_op ?_
        refine n_lst ?_
        refine n_cons ?_
        refine n_op ?_
        refine n_lst ?_
        refine n_cons ?_
        refine n_c ?_
        refine n_cons ?_
        refine n_op ?_
        refine n_var rfl ?_
        refine n_c ?_
        refine v_i2 ?_
        refine n_nil ?_
        refine v_mkLF (t := eI) (xs := [(0 : Int), ((s82.2.length : Int) - (1 : Int))]) g91.fh (.cons rfl (.cons rfl .nil)) rfl fun p116 F117 H118 d119 q120 al121 => ?_
        have g122 := g91.trans0 d119
        have m123 := m99.call0 d119
        have m124 := m97.call0 d119
        refine n_var rfl ?_
        obtain ⟨a125, ha125, hm⟩ := bnd hm
        refine v_ixL (SqL.of (g122.fh _ _ q120)) al121 ha125 fun v126 r127 => ?_
        have er127 : v126 = V.int a125 := r127
        subst er127
        refine n_nil ?_
        refine v_mkLF (t := eI) (xs := [a125]) g122.fh (.cons rfl .nil) rfl fun p128 F129 H130 d131 q132 al133 => ?_
        have g134 := g122.trans0 d131
        have m135 := m123.call0 d131
        have m136 := m124.call0 d131
        refine n_lc ?_
        refine n_itT ?_
        refine n_sl ?_
        refine n_op ?_
        refine n_var rfl ?_
        refine n_c ?_
        refine v_ix20 g134.fh (Rp.mono (eP2 (eT eI) eS) (Sub.trans d27.ff (Sub.trans d55.ff (Sub.trans d70.ff (Sub.trans sb92 (Sub.trans d119.ff d131.ff))))) r21) fun v153 r154 => ?_
        refine n_part ?_
        refine n_c ?_
        refine v_part ?_
        refine n_nopart ?_
        obtain ⟨p155, vs156, ep155, q157, al158⟩ := r154
        subst ep155
        refine v_slT g134.fh q157 al158 fun p159 vs160 F161 H162 d163 q164 al165 => ?_
        have g166 := g134.trans0 d163
        have m167 := m135.call0 d163
        have m168 := m136.call0 d163
        refine v_itT (SqT.of (g166.fh _ _ q164)) ?_
        obtain ⟨u171, hu171, hm⟩ := bnd hm
        obtain ⟨q172, hq172, hm⟩ := bnd hm
        intro D169 nD170
        have goD169 := g166.old nD170
        have neD169_p_pool := m167.ne nD170
        have neD169_p35 := m168.ne nD170
        have gg201 := gr_newM (W := []) (o := .lst []) g166.fh nD170
        refine comp_s (sr_T al165) hq172 (need_ok hu171).1 (fun (acc7 : List Int) H7 => ∃ (F7 : Hp) (vs7 : List V), Gr [p_pool] F0 H0 F7 H7 ∧ Sub F161 F7 ∧ F7 D169 = none ∧ H7 D169 = some (.lst vs7) ∧ Al eI F7 vs7 acc7 ∧ Mu [p_pool] H0 F7 H7 p_pool (.lst vs71) ∧ Mu [p_pool] H0 F7 H7 p35 (.lst vs95)) ⟨_, [], g166.trans0 gg201, Sub.refl _, g166.fh.nn nD170, upd_same, .nil, m167.call0 gg201, m168.call0 gg201⟩ ?_ ?_ ?_
        · rintro _ _ ⟨F184, vs185, g186, sb187, _, _, _, _, _⟩
          exact (SqT.of (g186.fh _ _ (sb187 _ _ q164)))
        · rintro a173 r175 acc176 x177 H178 H179 ⟨F184, vs185, g186, sb187, fD188, hD189, al190, m191, m193⟩ hY180 hm hl183 N181 hN182
          have m195 : Mu [p_pool] H0 F184 H178 D169 (.lst vs185) := ⟨fD188, hD189, .inl goD169⟩
          refine wipe_to (σ' := [some (.ref p_pool), some (.int x_most), some (.ref p48), some v20, some (.int r24.1), some (.ref p35), some (.str (S s82.1)), some (.int a81), some (.int (s82.2.length : Int)), none]) rfl ?_
          refine v_nmY hY180 fun r196 => ?_
          have er196 : x177 = V.int a173 := r196
          subst er196
          refine n_name (setS (setS (setS (setS (setS (setS (setS (setS (setS set0))))))))) ?_
          refine ⟨rfl, ?_⟩
          refine n_yes ?_ rfl
          refine n_op ?_
          refine n_var rfl ?_
          refine n_var rfl ?_
          refine v_i2 ?_
          obtain rfl := Option.some.inj hm
          refine ⟨_, m195.hp, by rw [al_len al190]; exact hl183, hN182 _ ?_⟩
          exact ⟨_, _, m195.gr g186, sb187, m195.fr, upd_same, pd_snoc al190 (show eI.r F184 (.int (a173 + (s82.2.length : Int))) (a173 + (s82.2.length : Int)) from rfl), m191.mut neD169_p_pool, m193.mut neD169_p35⟩
        rintro H202 ⟨F203, vs204, g205, sb206, fD207, hD208, al209, m210, m212⟩
        have m214 : Mu [p_pool] H0 F203 H202 D169 (.lst vs204) := ⟨fD207, hD208, .inl goD169⟩
        obtain ⟨F215, q217, sb219, g218, d216⟩ := freeze g205 m214 (m214.own.resolve_right (nin1 (Ne.symm neD169_p_pool)))
        have m220 := d216 _ _ neD169_p_pool m210
        have m221 := d216 _ _ neD169_p35 m212
        have al222 := (Al.mono al209 sb219)
        obtain ⟨l223, hl223, hm⟩ := bnd hm
        refine v_catF g218.fh (g218.fh _ _ ((Sub.trans d163.ff (Sub.trans sb206 sb219)) _ _ q132)) (g218.fh _ _ q217) (Al.mono al133 (Sub.trans d163.ff (Sub.trans sb206 sb219))) al222 hl223 fun p224 vs225 F227 H228 d229 q230 al226 => ?_
        have g231 := g218.trans0 d229
        have m232 := m220.call0 d229
        have m233 := m221.call0 d229
        refine n_nil ?_
        obtain ⟨l234, hl234, hm⟩ := bnd hm
        obtain ⟨vs237, H235, g238, al236, evs237, eH235⟩ := ext_ok g231 m233 (Al.mono al98 (Sub.trans d119.ff (Sub.trans d131.ff (Sub.trans d163.ff (Sub.trans sb206 (Sub.trans sb219 d229.ff)))))) al226 hl234
        refine v_extend m233.hp (g231.fh _ _ q230) (cat_le (Al.mono al98 (Sub.trans d119.ff (Sub.trans d131.ff (Sub.trans d163.ff (Sub.trans sb206 (Sub.trans sb219 d229.ff)))))) al226 hl234) ?_
        rw [← evs237, ← eH235]
        have m239 := mu_oth m232 ne44 eH235
        have m240 := mu_self m233 eH235
        refine n_asg ?_
        refine n_op ?_
        refine n_var rfl ?_
        refine n_op ?_
        refine n_var rfl ?_
        refine n_c ?_
        refine v_ix21 g238.fh (Rp.mono (eP2 (eT eI) eS) (Sub.trans d27.ff (Sub.trans d55.ff (Sub.trans d70.ff (Sub.trans sb92 (Sub.trans d119.ff (Sub.trans d131.ff (Sub.trans d163.ff (Sub.trans sb206 (Sub.trans sb219 d229.ff))))))))) r21) fun v241 r242 => ?_
        obtain ⟨er242, lr242⟩ : v241 = V.str (S r13.1.2) ∧ r13.1.2.length ≤ sizeLine := r242
        subst er242
        obtain ⟨t243, ht243, hm⟩ := bnd hm
        refine v_catS ht243 ?_
        refine n_name (setS (setS (setS (setS (setS (setS set0)))))) ?_
        obtain rfl := Option.some.inj hm
        exact hN89 _ _ ⟨_, _, _, vs237, rfl, g238, (Sub.trans sb92 (Sub.trans d119.ff (Sub.trans d131.ff (Sub.trans d163.ff (Sub.trans sb206 (Sub.trans sb219 d229.ff)))))), (catM_le ht243), m240, al236, m239⟩
      replace hm := ifF hb106 hm
      refine n_nextS ?_
      obtain rfl := Option.some.inj hm
      exact hN89 _ _ ⟨_, _, _, vs95, rfl, g91, sb92, l96, m97, al98, m99⟩
    rintro _ H244 ⟨F245, o248, o249, vs250, rfl, g246, sb247, l251, m252, al253, m254⟩
    refine n_ret ?_
    refine n_tup ?_
    refine n_cons ?_
    refine n_cb ?_
    refine n_cons ?_
    refine n_var rfl ?_
    refine n_nil ?_
    refine v_tuple g246.fh m252.l al253 fun p256 F257 H258 d259 q260 al261 => ?_
    have g262 := g246.trans0 d259
    have m263 := m254.call0 d259
    have m264 := m252.call0 d259
    refine n_cons ?_
    refine n_var rfl ?_
    refine n_nil ?_
    refine v_mk2 g262.fh (show (eT eI).r F257 (.ref p256) s80.2 from (⟨p256, vs250, rfl, q260, al261⟩ : (eT eI).r F257 (.ref p256) s80.2)) (show eS.r F257 (.str (S s80.1)) s80.1 from ⟨rfl, l251⟩) fun v265 F266 H267 d268 r269 => ?_
    have g270 := g262.trans0 d268
    have m271 := m263.call0 d268
    have m272 := m264.call0 d268
    obtain rfl := Option.some.inj hm
    exact hk _ _ _ _ g270 m271.hp (Al.mono al73 (Sub.trans sb247 (Sub.trans d259.ff d268.ff))) r269

def m__law_tree (x_pool : List Int) (x_most : Int) (x_letters : List Sg) : Option ((List Int × Sg) × List Int) :=
  (m__law_take x_pool (8 : Int)).bind fun r2 =>
  (m__law_take r2.2 (9 : Int)).bind fun r43 =>
  (m__law_take r43.2 x_most).bind fun r54 =>
  (m__law_take r54.2 (3 : Int)).bind fun r73 =>
  (atI [((1 : Int) + r43.1), ((1 : Int) + r54.1), x_most] r73.1).bind fun a84 =>
  if (decide ((5 : Int) < r2.1)) = true then
  (m__law_copies r73.2 x_most x_letters).bind fun r88 =>
  some (r88.1, r88.2)
  else
  (m__law_grown r73.2 a84 r2.1 x_letters).bind fun r99 =>
  some (r99.1, r99.2)
def sp__law_tree (K : PySem.W.Frag) : Sp := fun vs H Q _ => ∃ (F : Hp) (p_pool : Addr) (vs_pool : List V) (x_pool : List Int) (v_most : V) (x_most : Int) (v_letters : V) (x_letters : List Sg) (r : ((List Int × Sg) × List Int)), vs = [.ref p_pool, v_most, v_letters] ∧ Sub F H ∧ F p_pool = none ∧ H p_pool = some (.lst vs_pool) ∧ Al eI F vs_pool x_pool ∧ eI.r F v_most x_most ∧ (eL eS).r F v_letters x_letters ∧ m__law_tree x_pool x_most x_letters = some r ∧ ∀ (v : V) (F' H' : Hp) (us_pool : List V), Gr [p_pool] F H F' H' → H' p_pool = some (.lst us_pool) → Al eI F' us_pool r.2 → (eP2 (eT eI) eS).r F' v r.1 → Q v H'
theorem sc__law_tree : FnScope ["pool", "most", "letters", "kind", "many"] ["pool", "most", "letters"] (defScope s__law_tree) := ⟨rfl, rfl, rfl, by decide +kernel, rfl, by decide +kernel, by decide +kernel⟩
theorem ok__law_tree {f : Addr} {fd : FuncData} (F : FnP K "_law_tree" s__law_tree f fd) (H__law_take : HasG P w K mg base "_law_take" ["pool", "many"] 1 (sp__law_take K)) (H__law_grown : HasG P w K mg base "_law_grown" ["pool", "many", "kind", "letters"] 2 (sp__law_grown K)) (H__law_copies : HasG P w K mg base "_law_copies" ["pool", "most", "letters"] 3 (sp__law_copies K)) : FnG P w K mg base CX0 4 f fd ["pool", "most", "letters"] (sp__law_tree K) := by
  obtain ⟨f__law_take, fd__law_take, G0__law_take, g__law_take, k__law_take, b__law_take⟩ := H__law_take
  have G__law_take := G0__law_take.mono (show 1 ≤ 3 by decide)
  obtain ⟨f__law_grown, fd__law_grown, G0__law_grown, g__law_grown, k__law_grown, b__law_grown⟩ := H__law_grown
  have G__law_grown := G0__law_grown.mono (show 2 ≤ 3 by decide)
  obtain ⟨f__law_copies, fd__law_copies, G0__law_copies, g__law_copies, k__law_copies, b__law_copies⟩ := H__law_copies
  have G__law_copies := G0__law_copies.mono (show 3 ≤ 3 by decide)
  refine FnDok F sc__law_tree (fun vs H Q E h => ?_) (fun cdv A outer s H0 vs Q E gd hr h => ?_)
  · obtain ⟨_, _, _, _, _, _, _, _, _, rfl, _⟩ := h
    rfl
  · obtain ⟨F0, p_pool, vs_pool, x_pool, v_most, x_most, v_letters, x_letters, r0, rfl, hs0, fr_pool, hp_pool, al_pool, r_most, r_letters, hm, hk⟩ := h
    have g0 : Gr [p_pool] F0 H0 F0 H0 := Gr.refl hs0
    have m1 : Mu [p_pool] H0 F0 H0 p_pool (.lst vs_pool) := ⟨fr_pool, hp_pool, .inr (by simp)⟩
    have er_most : v_most = V.int x_most := r_most
    subst er_most
    refine ⟨_, PSs.nox (pss_cons (ps_set (i := 3) sc__law_tree.nd rfl (by first | exact Or.inl rfl | exact Or.inr rfl) (pe_callG G__law_take gd hr (by rfl) g__law_take k__law_take b__law_take pass0 (pa_cons (pv 0) (pa_cons pe_int pa_nil))))
(pss_cons (ps_set (i := 4) sc__law_tree.nd rfl (by first | exact Or.inl rfl | exact Or.inr rfl) (pe_ix (c_ixL (K := K) rfl) (pe_lst (pa_cons (pe_op op_add pe_int (pe_callG G__law_take gd hr (by rfl) g__law_take k__law_take b__law_take pass0 (pa_cons (pv 0) (pa_cons pe_int pa_nil)))) (pa_cons (pe_op op_add pe_int (pe_callG G__law_take gd hr (by rfl) g__law_take k__law_take b__law_take pass0 (pa_cons (pv 0) (pa_cons (pv 1) pa_nil)))) (pa_cons (pv 1) pa_nil)))) (pe_callG G__law_take gd hr (by rfl) g__law_take k__law_take b__law_take pass0 (pa_cons (pv 0) (pa_cons pe_int pa_nil))) (fun _ _ => rfl)))
(pss_cons (ps_if (pt_cmpR op_gt (pv 3) pe_int (nomark _)) (pss_one (ps_ret (pe_callG G__law_copies gd hr (by rfl) g__law_copies k__law_copies b__law_copies pass0 (pa_cons (pv 0) (pa_cons (pv 1) (pa_cons (pv 2) pa_nil)))))) pss_nil)
(pss_one (ps_ret (pe_callG G__law_grown gd hr (by rfl) g__law_grown k__law_grown b__law_grown pass0 (pa_cons (pv 0) (pa_cons (pv 4) (pa_cons (pv 3) (pa_cons (pv 2) pa_nil)))))))))), ?_⟩
    refine n_seq ?_
    refine n_asg ?_
    refine n_call ?_
    refine n_cons ?_
    refine n_var rfl ?_
    refine n_cons ?_
    refine n_c ?_
    refine n_nil ?_
    obtain ⟨r2, hr2, hm⟩ := bnd hm
    refine ⟨F0, p_pool, vs_pool, x_pool, .int (8 : Int), (8 : Int), r2, rfl, g0.fh, m1.fr, m1.hp, al_pool, rfl, hr2, fun v9 F3 H4 vs6 d5 hp7 al8 r10 => ?_⟩
    have g11 := g0.trans d5 (fun a ha => (List.mem_cons.mp ha).elim (fun e => e ▸ m1.own) (fun ha => absurd ha (by simp)))
    have m12 := m1.back d5 hp7
    have er10 : v9 = V.int r2.1 := r10
    subst er10
    refine n_name (setS (setS (setS set0))) ?_
    refine n_seq ?_
    refine n_asg ?_
    refine n_op ?_
    refine n_lst ?_
    refine n_cons ?_
    refine n_op ?_
    refine n_c ?_
    refine n_call ?_
    refine n_cons ?_
    refine n_var rfl ?_
    refine n_cons ?_
    refine n_c ?_
    refine n_nil ?_
    obtain ⟨r43, hr43, hm⟩ := bnd hm
    refine ⟨F3, p_pool, vs6, r2.2, .int (9 : Int), (9 : Int), r43, rfl, g11.fh, m12.fr, m12.hp, al8, rfl, hr43, fun v50 F44 H45 vs47 d46 hp48 al49 r51 => ?_⟩
    have g52 := g11.trans d46 (fun a ha => (List.mem_cons.mp ha).elim (fun e => e ▸ m12.own) (fun ha => absurd ha (by simp)))
    have m53 := m12.back d46 hp48
    have er51 : v50 = V.int r43.1 := r51
    subst er51
    refine v_i2 ?_
    refine n_cons ?_
    refine n_op ?_
    refine n_c ?_
    refine n_call ?_
    refine n_cons ?_
    refine n_var rfl ?_
    refine n_cons ?_
    refine n_var rfl ?_
    refine n_nil ?_
    obtain ⟨r54, hr54, hm⟩ := bnd hm
    refine ⟨F44, p_pool, vs47, r43.2, .int x_most, x_most, r54, rfl, g52.fh, m53.fr, m53.hp, al49, rfl, hr54, fun v61 F55 H56 vs58 d57 hp59 al60 r62 => ?_⟩
    have g63 := g52.trans d57 (fun a ha => (List.mem_cons.mp ha).elim (fun e => e ▸ m53.own) (fun ha => absurd ha (by simp)))
    have m64 := m53.back d57 hp59
    have er62 : v61 = V.int r54.1 := r62
    subst er62
    refine v_i2 ?_
    refine n_cons ?_
    refine n_var rfl ?_
    refine n_nil ?_
    refine v_mkLF (t := eI) (xs := [((1 : Int) + r43.1), ((1 : Int) + r54.1), x_most]) g63.fh (.cons rfl (.cons rfl (.cons rfl .nil))) rfl fun p65 F66 H67 d68 q69 al70 => ?_
    have g71 := g63.trans0 d68
    have m72 := m64.call0 d68
    refine n_call ?_
    refine n_cons ?_
    refine n_var rfl ?_
    refine n_cons ?_
    refine n_c ?_
    refine n_nil ?_
    obtain ⟨r73, hr73, hm⟩ := bnd hm
    refine ⟨F66, p_pool, vs58, r54.2, .int (3 : Int), (3 : Int), r73, rfl, g71.fh, m72.fr, m72.hp, (Al.mono al60 d68.ff), rfl, hr73, fun v80 F74 H75 vs77 d76 hp78 al79 r81 => ?_⟩
    have g82 := g71.trans d76 (fun a ha => (List.mem_cons.mp ha).elim (fun e => e ▸ m72.own) (fun ha => absurd ha (by simp)))
    have m83 := m72.back d76 hp78
    have er81 : v80 = V.int r73.1 := r81
    subst er81
    obtain ⟨a84, ha84, hm⟩ := bnd hm
    refine v_ixL (SqL.of (g82.fh _ _ (d76.ff _ _ q69))) (Al.mono al70 d76.ff) ha84 fun v85 r86 => ?_
    have er86 : v85 = V.int a84 := r86
    subst er86
    refine n_name (setS (setS (setS (setS set0)))) ?_
    refine n_seq ?_
    refine n_ifs ?_
    refine n_test ?_
    refine n_op ?_
    refine n_var rfl ?_
    refine n_c ?_
    refine v_i2 ?_
    refine v_bl ?_
    refine br (fun hb87 => ?_) (fun hb87 => ?_)
    · replace hm := ifT hb87 hm
      refine n_ret ?_
      refine n_call ?_
      refine n_cons ?_
      refine n_var rfl ?_
      refine n_cons ?_
      refine n_var rfl ?_
      refine n_cons ?_
      refine n_var rfl ?_
      refine n_nil ?_
      obtain ⟨r88, hr88, hm⟩ := bnd hm
      refine ⟨F74, p_pool, vs77, r73.2, .int x_most, x_most, v_letters, x_letters, r88, rfl, g82.fh, m83.fr, m83.hp, al79, rfl, (Rp.mono (eL eS) (Sub.trans d5.ff (Sub.trans d46.ff (Sub.trans d57.ff (Sub.trans d68.ff d76.ff)))) r_letters), hr88, fun v95 F89 H90 vs92 d91 hp93 al94 r96 => ?_⟩
      have g97 := g82.trans d91 (fun a ha => (List.mem_cons.mp ha).elim (fun e => e ▸ m83.own) (fun ha => absurd ha (by simp)))
      have m98 := m83.back d91 hp93
      obtain rfl := Option.some.inj hm
      exact hk _ _ _ _ g97 m98.hp al94 r96
    replace hm := ifF hb87 hm
    refine n_nextS ?_
    refine n_ret ?_
    refine n_call ?_
    refine n_cons ?_
    refine n_var rfl ?_
    refine n_cons ?_
    refine n_var rfl ?_
    refine n_cons ?_
    refine n_var rfl ?_
    refine n_cons ?_
    refine n_var rfl ?_
    refine n_nil ?_
    obtain ⟨r99, hr99, hm⟩ := bnd hm
    refine ⟨F74, p_pool, vs77, r73.2, .int a84, a84, .int r2.1, r2.1, v_letters, x_letters, r99, rfl, g82.fh, m83.fr, m83.hp, al79, rfl, rfl, (Rp.mono (eL eS) (Sub.trans d5.ff (Sub.trans d46.ff (Sub.trans d57.ff (Sub.trans d68.ff d76.ff)))) r_letters), hr99, fun v106 F100 H101 vs103 d102 hp104 al105 r107 => ?_⟩
    have g108 := g82.trans d102 (fun a ha => (List.mem_cons.mp ha).elim (fun e => e ▸ m83.own) (fun ha => absurd ha (by simp)))
    have m109 := m83.back d102 hp104
    obtain rfl := Option.some.inj hm
    exact hk _ _ _ _ g108 m109.hp al105 r107

def m__law_ways (x_tree : (List Int × Sg)) : Option (List Sg) :=
  (foldO (enumL x_tree.1) ([] : List Sg) fun s29 a28 =>
  (if (decide ((0 : Int) ≤ a28.2)) = true then
  (atI s29 a28.2).bind fun a55 =>
  some a55
  else
  some ([] : Sg)).bind fun s52 =>
  (atI x_tree.2 a28.1).bind fun c68 =>
  (catM s52 [c68]).bind fun t69 =>
  (snocM s29 t69).bind fun l70 =>
  some l70).bind fun s18 =>
  some s18
def sp__law_ways (K : PySem.W.Frag) : Sp := fun vs H Q _ => ∃ (F : Hp) (v_tree : V) (x_tree : (List Int × Sg)) (r : List Sg), vs = [v_tree] ∧ Sub F H ∧ (eP2 (eT eI) eS).r F v_tree x_tree ∧ m__law_ways x_tree = some r ∧ ∀ (v : V) (F' H' : Hp) , Gr [] F H F' H' → New eS H F' H' v r → Q v H'
theorem sc__law_ways : FnScope ["tree", "found", "place", "up", "ahead"] ["tree"] (defScope s__law_ways) := ⟨rfl, rfl, rfl, by decide +kernel, rfl, by decide +kernel, by decide +kernel⟩
theorem ok__law_ways {f : Addr} {fd : FuncData} (F : FnP K "_law_ways" s__law_ways f fd) (b_enumerate : mg "enumerate" = none) : FnG P w K mg base CX0 1 f fd ["tree"] (sp__law_ways K) := by
  refine FnDok F sc__law_ways (fun vs H Q E h => ?_) (fun cdv A outer s H0 vs Q E gd hr h => ?_)
  · obtain ⟨_, _, _, _, rfl, _⟩ := h
    rfl
  · obtain ⟨F0, v_tree, x_tree, r0, rfl, hs0, r_tree, hm, hk⟩ := h
    have g0 : Gr [] F0 H0 F0 H0 := Gr.refl hs0
    refine ⟨_, PSs.nox (pss_cons (ps_set (i := 1) sc__law_ways.nd rfl (by first | exact Or.inl rfl | exact Or.inr rfl) (pe_lst pa_nil))
(pss_cons (ps_for PassesOwn.never rfl (pi_en (K := K) rfl (by rfl) b_enumerate (pa_cons (pe_ix (c_ixT (K := K) rfl) (pv 0) pe_int (fun _ _ => rfl)) pa_nil)) (c_pgtup (K := K) rfl (by rfl) (pgs_cons (pg_name (i := 2) sc__law_ways.nd rfl (by first | exact Or.inl rfl | exact Or.inr rfl)) (pgs_cons (pg_name (i := 3) sc__law_ways.nd rfl (by first | exact Or.inl rfl | exact Or.inr rfl)) pgs_nil))) (pss_cons (ps_set (i := 4) sc__law_ways.nd rfl (by first | exact Or.inl rfl | exact Or.inr rfl) pe_str)
(pss_cons (ps_if (pt_cmpR op_ge (pv 3) pe_int (nomark _)) (pss_one (ps_set (i := 4) sc__law_ways.nd rfl (by first | exact Or.inl rfl | exact Or.inr rfl) (pe_ix (c_ixL (K := K) rfl) (pv 1) (pv 3) (fun _ _ => rfl)))) pss_nil)
(pss_one (ps_expr (c_bm (K := K) rfl PySem.F.plainAttrs_list PySem.F.slot_list_append PySem.F.type_list_append mt_append (pv 1) (pa_cons (pe_op c_catS (pv 4) (pe_ix ix_str (pe_ix (c_ixT (K := K) rfl) (pv 0) pe_int (fun _ _ => rfl)) (pv 2) (fun _ _ => rfl))) pa_nil)))))))
(pss_one (ps_ret (pv 1))))), ?_⟩
    refine n_seq ?_
    refine n_asg ?_
    refine n_lst ?_
    refine n_nil ?_
    have al8 : Al eS F0 [] ([] : List Sg) := .nil
    refine v_mkLM g0.fh rfl fun p1 H2 np3 d4 fp5 hp6 => ?_
    have go9 := g0.old np3
    have g10 := g0.trans0 d4
    have m11 : Mu [] H0 F0 H2 p1 (.lst []) := ⟨fp5, hp6, .inl go9⟩
    refine n_name (setS set0) ?_
    refine n_seq ?_
    refine n_for ?_
    refine n_en ?_
    refine n_cons ?_
    refine n_op ?_
    refine n_var rfl ?_
    refine n_c ?_
    refine v_ix20 g10.fh r_tree fun v12 r13 => ?_
    refine n_nil ?_
    obtain ⟨p14, vs15, ep14, q16, al17⟩ := r13
    subst ep14
    refine v_en (k := (.t p14)) (vs := vs15) (SqT.of (g10.fh _ _ q16)) ?_
    obtain ⟨s18, hs18, hm⟩ := bnd hm
    refine for_o (sr_En (k := (.t p14)) al17) hs18 (fun (s7 : List Sg) σ7 H7 => ∃ (F7 : Hp) (o_place : Option V) (o_up : Option V) (o_ahead : Option V) (us_found : List V), σ7 = [some v_tree, some (.ref p1), o_place, o_up, o_ahead] ∧ Gr [] F0 H0 F7 H7 ∧ Sub F0 F7 ∧ Mu [] H0 F7 H7 p1 (.lst us_found) ∧ Al eS F7 us_found s7) ⟨_, _, _, _, [], rfl, g10, Sub.refl _, m11, al8⟩ ?_ ?_ ?_
    · rintro s7 _ H7 ⟨F19, o22, o23, o24, vs25, rfl, g20, sb21, m26, al27⟩
      exact (SqT.of (g20.fh _ _ (sb21 _ _ q16)))
    · rintro a28 s29 s30 x31 _ H32 H33 ⟨F37, o40, o41, o42, vs43, rfl, g38, sb39, m44, al45⟩ hY34 hm N35 hN36
      refine v_unpE g38.fh hY34 fun v47 d46 r48 => ?_
      have g49 := g38.trans0 d46
      have m50 := m44.call0 d46
      have er48 : v47 = V.int a28.2 := r48
      subst er48
      refine n_gcons ?_
      refine n_name (setS (setS set0)) ?_
      refine n_gcons ?_
      refine n_name (setS (setS (setS set0))) ?_
      refine n_gnil ?_
      refine n_seq ?_
      refine n_asg ?_
      refine n_str (s := []) (by decide +kernel) ?_
      refine n_name (setS (setS (setS (setS set0)))) ?_
      refine n_seq ?_
      refine n_ifs ?_
      refine n_test ?_
      refine n_op ?_
      refine n_var rfl ?_
      refine n_c ?_
      refine v_i2 ?_
      refine v_bl ?_
      obtain ⟨s52, hs52, hm⟩ := bnd hm
      refine br_join (fun σ7 H7 => ∃ (F7 : Hp), σ7 = [some v_tree, some (.ref p1), some (.int a28.1), some (.int a28.2), some (.str (S s52))] ∧ Gr [] F0 H0 F7 H7 ∧ Sub F37 F7 ∧ s52.length ≤ sizeLine ∧ Mu [] H0 F7 H7 p1 (.lst vs43)) ?_ (fun hb51 nx53 hnx54 => ?_) (fun hb51 nx53 hnx54 => ?_)
      rotate_left
      · have hm := ifT hb51 hs52
        refine n_asg ?_
        refine n_op ?_
        refine n_var rfl ?_
        refine n_var rfl ?_
        obtain ⟨a55, ha55, hm⟩ := bnd hm
        refine v_ixL m50.l al45 ha55 fun v56 r57 => ?_
        obtain ⟨er57, lr57⟩ : v56 = V.str (S a55) ∧ a55.length ≤ sizeLine := r57
        subst er57
        refine n_name (setS (setS (setS (setS set0)))) ?_
        obtain rfl := Option.some.inj hm
        exact hnx54 _ _ ⟨_, rfl, g49, Sub.refl _, lr57, m50⟩
      · have hm := ifF hb51 hs52
        refine n_nextS ?_
        obtain rfl := Option.some.inj hm
        exact hnx54 _ _ ⟨_, rfl, g49, Sub.refl _, (sz_ok (n := 0) rfl), m50⟩
      rintro _ H63 ⟨F58, rfl, g59, sb60, l61, m62⟩
      refine n_drop ?_
      refine n_bm ?_
      refine n_var rfl ?_
      refine ⟨tyL m62.l, ?_⟩
      refine n_cons ?_
      refine n_op ?_
      refine n_var rfl ?_
      refine n_op ?_
      refine n_op ?_
      refine n_var rfl ?_
      refine n_c ?_
      refine v_ix21 g59.fh (Rp.mono (eP2 (eT eI) eS) (Sub.trans sb39 sb60) r_tree) fun v66 r67 => ?_
      obtain ⟨er67, lr67⟩ : v66 = V.str (S x_tree.2) ∧ x_tree.2.length ≤ sizeLine := r67
      subst er67
      refine n_var rfl ?_
      obtain ⟨c68, hc68, hm⟩ := bnd hm
      refine v_ixS lr67 hc68 ?_
      obtain ⟨t69, ht69, hm⟩ := bnd hm
      refine v_catS ht69 ?_
      refine n_nil ?_
      obtain ⟨l70, hl70, hm⟩ := bnd hm
      obtain ⟨vs74, H71, g75, al73, evs74, eH71⟩ := app_ok g59 m62 (Al.mono al45 sb60) hl70 (show eS.r F58 (.str (S t69)) t69 from ⟨rfl, (catM_le ht69)⟩)
      refine v_append m62.hp (snoc_lt (Al.mono al45 sb60) hl70) ?_
      rw [← evs74, ← eH71]
      have m76 := mu_self m62 eH71
      obtain rfl := Option.some.inj hm
      exact hN36 _ _ ⟨_, _, _, _, vs74, rfl, g75, (Sub.trans sb39 sb60), m76, al73⟩
    rintro _ H77 ⟨F78, o81, o82, o83, vs84, rfl, g79, sb80, m85, al86⟩
    refine n_ret ?_
    refine n_var rfl ?_
    obtain rfl := Option.some.inj hm
    exact hk _ _ _  g79   ⟨p1, vs84, rfl, (m85.own.resolve_right (by simp)), m85.fr, m85.hp, al86⟩

def m__law_trie (x_ways : List Sg) : Option (List Int × Sg) :=
  (need (ssetB 3999 x_ways) ()).bind fun u1 =>
  (foldO (ssetL ltS x_ways) ([] : List Int) fun s35 a34 =>
  (if (decide ((1 : Int) < (a34.length : Int))) = true then
  (need (eqB (dS.d (cutL a34 none (some (-1 : Int)))) (.list ((ssetL ltS x_ways).map dS.d))) ()).bind fun u56 =>
  (idxM (ssetL ltS x_ways) (cutL a34 none (some (-1 : Int)))).bind fun a57 =>
  some a57
  else
  some (-1 : Int)).bind fun s53 =>
  (snocM s35 s53).bind fun l63 =>
  some l63).bind fun s25 =>
  (need (szB (ssetL ltS x_ways).length) ()).bind fun u90 =>
  (compS (ssetL ltS x_ways) fun a92 =>
  (atI a92 (-1 : Int)).bind fun c114 =>
  some (some [c114])).bind fun q91 =>
  (joinM ([] : Sg) q91).bind fun t138 =>
  some (s25, t138)
def sp__law_trie (K : PySem.W.Frag) : Sp := fun vs H Q _ => ∃ (F : Hp) (v_ways : V) (x_ways : List Sg) (r : (List Int × Sg)), vs = [v_ways] ∧ Sub F H ∧ (eL eS).r F v_ways x_ways ∧ m__law_trie x_ways = some r ∧ ∀ (v : V) (F' H' : Hp) , Gr [] F H F' H' → (eP2 (eT eI) eS).r F' v r → Q v H'
theorem sc__law_trie : FnScope ["ways", "rows", "ups", "way", "up"] ["ways"] (defScope s__law_trie) := ⟨rfl, rfl, rfl, by decide +kernel, rfl, by decide +kernel, by decide +kernel⟩
theorem ok__law_trie {f : Addr} {fd : FuncData} (F : FnP K "_law_trie" s__law_trie f fd) (b_sorted : mg "sorted" = none) (b_set : mg "set" = none) (b_tuple : mg "tuple" = none) (b_len : mg "len" = none) : FnG P w K mg base CX0 1 f fd ["ways"] (sp__law_trie K) := by
  refine FnDok F sc__law_trie (fun vs H Q E h => ?_) (fun cdv A outer s H0 vs Q E gd hr h => ?_)
  · obtain ⟨_, _, _, _, rfl, _⟩ := h
    rfl
  · obtain ⟨F0, v_ways, x_ways, r0, rfl, hs0, r_ways, hm, hk⟩ := h
    have g0 : Gr [] F0 H0 F0 H0 := Gr.refl hs0
    refine ⟨_, PSs.nox (pss_cons (ps_set (i := 1) sc__law_trie.nd rfl (by first | exact Or.inl rfl | exact Or.inr rfl) (pe_ssetK (K := K) rfl hr (by rfl) b_sorted (by rfl) b_set (pa_cons (pv 0) pa_nil)))
(pss_cons (ps_set (i := 2) sc__law_trie.nd rfl (by first | exact Or.inl rfl | exact Or.inr rfl) (pe_lst pa_nil))
(pss_cons (ps_for PassesOwn.never rfl (c_pilist (K := K) rfl (pv 1)) (pg_name (i := 3) sc__law_trie.nd rfl (by first | exact Or.inl rfl | exact Or.inr rfl)) (pss_cons (ps_set (i := 4) sc__law_trie.nd rfl (by first | exact Or.inl rfl | exact Or.inr rfl) (pe_un un_neg pe_int))
(pss_cons (ps_if (pt_cmpR op_gt (pe_callB c_lenS (by rfl) b_len bo_len (pa_cons (pv 3) pa_nil)) pe_int (nomark _)) (pss_one (ps_set (i := 4) sc__law_trie.nd rfl (by first | exact Or.inl rfl | exact Or.inr rfl) (c_bm (K := K) rfl PySem.F.plainAttrs_list PySem.F.slot_list_index PySem.F.type_list_index (c_indexD (K := K) rfl hr) (pv 1) (pa_cons (pe_slice sl_str (pv 3) po_none (po_some (pe_un un_neg pe_int))) pa_nil)))) pss_nil)
(pss_one (ps_expr (c_bm (K := K) rfl PySem.F.plainAttrs_list PySem.F.slot_list_append PySem.F.type_list_append mt_append (pv 2) (pa_cons (pv 4) pa_nil)))))))
(pss_one (ps_ret (pe_tup (pa_cons (pe_callTy (c_tuple (K := K) rfl) (by rfl) b_tuple bo_tuple (pa_cons (pv 2) pa_nil)) (pa_cons (c_bm (K := K) rfl PySem.F.plainAttrs_str PySem.F.slot_str_join PySem.F.type_str_join (c_join (K := K) rfl) pe_str (pa_cons (pe_lc (own := [("way", 3)]) (g := gName 3) (by rfl) sc__law_trie.nd (c_pilist (K := K) rfl (pv 1)) (blkOk_by (own := [("way", 3)]) (N := ["ways", "rows", "ups", "way", "up"]) (sc := defScope s__law_trie) (by decide +kernel)) (fun _ _ _ _ _ => (pg_name (i := 3) sc__law_trie.nd rfl (Or.inl rfl))) (fun _ _ _ _ _ => pts_nil) (fun _ _ _ _ _ => (pe_ix ix_str (pv 3) (pe_un un_neg pe_int) (fun _ _ => rfl)))) pa_nil)) pa_nil)))))))), ?_⟩
    refine n_seq ?_
    refine n_asg ?_
    refine n_cb ?_
    refine n_cons ?_
    refine n_var rfl ?_
    refine n_nil ?_
    obtain ⟨u1, hu1, hm⟩ := bnd hm
    obtain ⟨p2, vs3, ep2, q4, al5⟩ := r_ways
    subst ep2
    refine v_ssetKF soS keS lo_S g0.fh (SqL.of (g0.fh _ _ q4)) al5 (need_ok hu1).1 fun p6 vs7 F9 H10 d11 q12 al8 => ?_
    have g13 := g0.trans0 d11
    refine n_name (setS set0) ?_
    refine n_seq ?_
    refine n_asg ?_
    refine n_lst ?_
    refine n_nil ?_
    have al21 : Al eI F9 [] ([] : List Int) := .nil
    refine v_mkLM g13.fh rfl fun p14 H15 np16 d17 fp18 hp19 => ?_
    have go22 := g13.old np16
    have g23 := g13.trans0 d17
    have m24 : Mu [] H0 F9 H15 p14 (.lst []) := ⟨fp18, hp19, .inl go22⟩
    refine n_name (setS (setS set0)) ?_
    refine n_seq ?_
    refine n_for ?_
    refine n_itL ?_
    refine n_var rfl ?_
    refine v_itL (SqL.of (g23.fh _ _ q12)) ?_
    obtain ⟨s25, hs25, hm⟩ := bnd hm
    refine for_o (sr_L al8) hs25 (fun (s7 : List Int) σ7 H7 => ∃ (F7 : Hp) (o_way : Option V) (o_up : Option V) (us_ups : List V), σ7 = [some (.ref p2), some (.ref p6), some (.ref p14), o_way, o_up] ∧ Gr [] F0 H0 F7 H7 ∧ Sub F9 F7 ∧ Mu [] H0 F7 H7 p14 (.lst us_ups) ∧ Al eI F7 us_ups s7) ⟨_, _, _, [], rfl, g23, Sub.refl _, m24, al21⟩ ?_ ?_ ?_
    · rintro s7 _ H7 ⟨F26, o29, o30, vs31, rfl, g27, sb28, m32, al33⟩
      exact (SqL.of (g27.fh _ _ (sb28 _ _ q12)))
    · rintro a34 s35 s36 x37 _ H38 H39 ⟨F43, o46, o47, vs48, rfl, g44, sb45, m49, al50⟩ hY40 hm N41 hN42
      refine v_nmY hY40 fun r51 => ?_
      obtain ⟨er51, lr51⟩ : x37 = V.str (S a34) ∧ a34.length ≤ sizeLine := r51
      subst er51
      refine n_name (setS (setS (setS set0))) ?_
      refine n_seq ?_
      refine n_asg ?_
      refine n_un ?_
      refine n_c ?_
      refine v_neg ?_
      refine n_name (setS (setS (setS (setS set0)))) ?_
      refine n_seq ?_
      refine n_ifs ?_
      refine n_test ?_
      refine n_op ?_
      refine n_cb ?_
      refine n_cons ?_
      refine n_var rfl ?_
      refine n_nil ?_
      refine v_lenS lr51 ?_
      refine n_c ?_
      refine v_i2 ?_
      refine v_bl ?_
      obtain ⟨s53, hs53, hm⟩ := bnd hm
      refine br_join (fun σ7 H7 => ∃ (F7 : Hp), σ7 = [some (.ref p2), some (.ref p6), some (.ref p14), some (.str (S a34)), some (.int s53)] ∧ Gr [] F0 H0 F7 H7 ∧ Sub F43 F7 ∧ Mu [] H0 F7 H7 p14 (.lst vs48)) ?_ (fun hb52 nx54 hnx55 => ?_) (fun hb52 nx54 hnx55 => ?_)
      rotate_left
      · have hm := ifT hb52 hs53
        refine n_asg ?_
        refine n_bm ?_
        refine n_var rfl ?_
        refine ⟨tyL (SqL.of (g44.fh _ _ (sb45 _ _ q12))), ?_⟩
        refine n_cons ?_
        refine n_sl ?_
        refine n_var rfl ?_
        refine n_nopart ?_
        refine n_part ?_
        refine n_un ?_
        refine n_c ?_
        refine v_neg ?_
        refine v_part ?_
        refine v_slS lr51 ?_
        refine n_nil ?_
        obtain ⟨u56, hu56, hm⟩ := bnd hm
        obtain ⟨a57, ha57, hm⟩ := bnd hm
        refine v_indexD dS (dS.ok g44.fh (show eS.r F43 (.str (S (cutL a34 none (some (-1 : Int))))) (cutL a34 none (some (-1 : Int))) from ⟨rfl, (cut_le lr51)⟩)) ((dL dS).ok g44.fh (show (eL eS).r F43 (.ref p6) (ssetL ltS x_ways) from (Rp.mono (eL eS) sb45 (⟨p6, vs7, rfl, q12, al8⟩ : (eL eS).r F9 (.ref p6) (ssetL ltS x_ways))))) (need_ok hu56).1 ha57 ?_
        refine n_name (setS (setS (setS (setS set0)))) ?_
        obtain rfl := Option.some.inj hm
        exact hnx55 _ _ ⟨_, rfl, g44, Sub.refl _, m49⟩
      · have hm := ifF hb52 hs53
        refine n_nextS ?_
        obtain rfl := Option.some.inj hm
        exact hnx55 _ _ ⟨_, rfl, g44, Sub.refl _, m49⟩
      rintro _ H62 ⟨F58, rfl, g59, sb60, m61⟩
      refine n_drop ?_
      refine n_bm ?_
      refine n_var rfl ?_
      refine ⟨tyL m61.l, ?_⟩
      refine n_cons ?_
      refine n_var rfl ?_
      refine n_nil ?_
      obtain ⟨l63, hl63, hm⟩ := bnd hm
      obtain ⟨vs67, H64, g68, al66, evs67, eH64⟩ := app_ok g59 m61 (Al.mono al50 sb60) hl63 (show eI.r F58 (.int s53) s53 from rfl)
      refine v_append m61.hp (snoc_lt (Al.mono al50 sb60) hl63) ?_
      rw [← evs67, ← eH64]
      have m69 := mu_self m61 eH64
      obtain rfl := Option.some.inj hm
      exact hN42 _ _ ⟨_, _, _, vs67, rfl, g68, (Sub.trans sb45 sb60), m69, al66⟩
    rintro _ H70 ⟨F71, o74, o75, vs76, rfl, g72, sb73, m77, al78⟩
    refine n_ret ?_
    refine n_tup ?_
    refine n_cons ?_
    refine n_cb ?_
    refine n_cons ?_
    refine n_var rfl ?_
    refine n_nil ?_
    refine v_tuple g72.fh m77.l al78 fun p80 F81 H82 d83 q84 al85 => ?_
    have g86 := g72.trans0 d83
    have m87 := m77.call0 d83
    refine n_cons ?_
    refine n_bm ?_
    refine n_str (s := []) (by decide +kernel) ?_
    refine ⟨tyS, ?_⟩
    refine n_cons ?_
    refine n_lc ?_
    refine n_itL ?_
    refine n_var rfl ?_
    refine v_itL (SqL.of (g86.fh _ _ ((Sub.trans sb73 d83.ff) _ _ q12))) ?_
    obtain ⟨u90, hu90, hm⟩ := bnd hm
    obtain ⟨q91, hq91, hm⟩ := bnd hm
    intro D88 nD89
    have goD88 := g86.old nD89
    have neD88_p14 := m87.ne nD89
    have gg119 := gr_newM (W := []) (o := .lst []) g86.fh nD89
    refine comp_s (sr_L (Al.mono al8 (Sub.trans sb73 d83.ff))) hq91 (need_ok hu90).1 (fun (acc7 : List Sg) H7 => ∃ (F7 : Hp) (vs7 : List V), Gr [] F0 H0 F7 H7 ∧ Sub F81 F7 ∧ F7 D88 = none ∧ H7 D88 = some (.lst vs7) ∧ Al eS F7 vs7 acc7 ∧ Mu [] H0 F7 H7 p14 (.lst vs76)) ⟨_, [], g86.trans0 gg119, Sub.refl _, g86.fh.nn nD89, upd_same, .nil, m87.call0 gg119⟩ ?_ ?_ ?_
    · rintro _ _ ⟨F103, vs104, g105, sb106, _, _, _, _⟩
      exact (SqL.of (g105.fh _ _ ((Sub.trans sb73 (Sub.trans d83.ff sb106)) _ _ q12)))
    · rintro a92 r94 acc95 x96 H97 H98 ⟨F103, vs104, g105, sb106, fD107, hD108, al109, m110⟩ hY99 hm hl102 N100 hN101
      have m112 : Mu [] H0 F103 H97 D88 (.lst vs104) := ⟨fD107, hD108, .inl goD88⟩
      refine wipe_to (σ' := [some (.ref p2), some (.ref p6), some (.ref p14), none, o75]) rfl ?_
      refine v_nmY hY99 fun r113 => ?_
      obtain ⟨er113, lr113⟩ : x96 = V.str (S a92) ∧ a92.length ≤ sizeLine := r113
      subst er113
      refine n_name (setS (setS (setS set0))) ?_
      refine ⟨rfl, ?_⟩
      refine n_yes ?_ rfl
      refine n_op ?_
      refine n_var rfl ?_
      refine n_un ?_
      refine n_c ?_
      refine v_neg ?_
      obtain ⟨c114, hc114, hm⟩ := bnd hm
      refine v_ixS lr113 hc114 ?_
      obtain rfl := Option.some.inj hm
      refine ⟨_, m112.hp, by rw [al_len al109]; exact hl102, hN101 _ ?_⟩
      exact ⟨_, _, m112.gr g105, sb106, m112.fr, upd_same, pd_snoc al109 (show eS.r F103 (.str (S [c114])) [c114] from ⟨rfl, one_le⟩), m110.mut neD88_p14⟩
    rintro H120 ⟨F121, vs122, g123, sb124, fD125, hD126, al127, m128⟩
    have m130 : Mu [] H0 F121 H120 D88 (.lst vs122) := ⟨fD125, hD126, .inl goD88⟩
    obtain ⟨F131, q133, sb135, g134, d132⟩ := freeze g123 m130 (m130.own.resolve_right (by simp))
    have m136 := d132 _ _ neD88_p14 m128
    have al137 := (Al.mono al127 sb135)
    refine n_nil ?_
    obtain ⟨t138, ht138, hm⟩ := bnd hm
    refine v_join (.inl (SqL.of (g134.fh _ _ q133))) al137 ht138 ?_
    refine n_nil ?_
    refine v_mk2 g134.fh (show (eT eI).r F131 (.ref p80) s25 from (Rp.mono (eT eI) (Sub.trans sb124 sb135) (⟨p80, vs76, rfl, q84, al85⟩ : (eT eI).r F81 (.ref p80) s25))) (show eS.r F131 (.str (S t138)) t138 from ⟨rfl, (joinM_le ht138)⟩) fun v139 F140 H141 d142 r143 => ?_
    have g144 := g134.trans0 d142
    have m145 := m136.call0 d142
    obtain rfl := Option.some.inj hm
    exact hk _ _ _  g144   r143

def m__law_ups (x_ups : List An) : Option Bool :=
  (need (szB x_ups.length) ()).bind fun u7 =>
  (compS x_ups fun a9 =>
  if ((!a9.isI) || a9.isB) = true then
  some (some a9)
  else
  some none).bind fun q8 =>
  (if x_ups.isEmpty = true then
  some true
  else
  (if (!q8.isEmpty) = true then
  some true
  else
  (atI x_ups (0 : Int)).bind fun a77 =>
  (An.intM a77).bind fun o80 =>
  some (!decide (o80 = (-1 : Int)))).bind fun c75 =>
  some c75).bind fun c60 =>
  if c60 = true then
  some false
  else
  (uptoM (1 : Int) (x_ups.length : Int)).bind fun l98 =>
  (foldR l98 [(0 : Int)] fun s102 a101 =>
  (atI x_ups a101).bind fun a117 =>
  (An.intM a117).bind fun o120 =>
  if (!decide (o120 ∈ s102)) = true then
  some (.rt false)
  else
  (atI x_ups a101).bind fun a127 =>
  (An.intM a127).bind fun o130 =>
  (idxM s102 o130).bind fun a132 =>
  (catLM (cutL s102 none (some (a132 + (1 : Int)))) [a101]).bind fun l148 =>
  some (.nx l148)).bind fun z99 =>
  thenF z99 (fun s158 =>
  some true) (fun r7 => some r7)
def sp__law_ups (K : PySem.W.Frag) : Sp := fun vs H Q _ => ∃ (F : Hp) (v_ups : V) (x_ups : List An) (r : Bool), vs = [v_ups] ∧ Sub F H ∧ (eR eA).r F v_ups x_ups ∧ m__law_ups x_ups = some r ∧ ∀ (v : V) (F' H' : Hp) , Gr [] F H F' H' → eB.r F' v r → Q v H'
theorem sc__law_ups : FnScope ["ups", "odd", "line", "k", "up"] ["ups"] (defScope s__law_ups) := ⟨rfl, rfl, rfl, by decide +kernel, rfl, by decide +kernel, by decide +kernel⟩
theorem ok__law_ups {f : Addr} {fd : FuncData} (F : FnP K "_law_ups" s__law_ups f fd) (b_range : mg "range" = none) (b_len : mg "len" = none) (b_isinstance : mg "isinstance" = none) (b_bool : mg "bool" = none) (b_int : mg "int" = none) : FnG P w K mg base CX0 1 f fd ["ups"] (sp__law_ups K) := by
  refine FnDok F sc__law_ups (fun vs H Q E h => ?_) (fun cdv A outer s H0 vs Q E gd hr h => ?_)
  · obtain ⟨_, _, _, _, rfl, _⟩ := h
    rfl
  · obtain ⟨F0, v_ups, x_ups, r0, rfl, hs0, r_ups, hm, hk⟩ := h
    have g0 : Gr [] F0 H0 F0 H0 := Gr.refl hs0
    refine ⟨_, PSs.nox (pss_cons (ps_setLc (i := 1) (own := [("up", 4)]) (g := gName 4) (by rfl) sc__law_ups.nd rfl rfl (sw_true rfl rfl rfl (by decide +kernel)) (c_pitup (K := K) rfl (pv 0)) (blkOk_by (own := [("up", 4)]) (N := ["ups", "odd", "line", "k", "up"]) (sc := defScope s__law_ups) (by decide +kernel)) (fun _ _ _ _ _ => (pg_name (i := 4) sc__law_ups.nd rfl (Or.inl rfl))) (fun _ _ _ _ _ => pts_one (PW.pt (pw_or (pt_not (pt_val (pe_callB (c_isi (K := K) rfl) (by rfl) b_isinstance bo_isinstance (pa_cons (pv 4) (pa_cons (pe_bltn (v := .ty "int") (by rfl) b_int bo_int rfl) pa_nil))))) (pw_or1 (pt_val (pe_callB (c_isi (K := K) rfl) (by rfl) b_isinstance bo_isinstance (pa_cons (pv 4) (pa_cons (pe_bltn (v := .ty "bool") (by rfl) b_bool bo_bool rfl) pa_nil)))))))) (fun _ _ _ _ _ => (pv 4)))
(pss_cons (ps_if (PW.pt (pw_or (pt_cmpR (c_eqL0 (K := K) rfl hr) (pv 0) (pe_tup pa_nil) (nomark _)) (pw_or (pt_cmpR (c_neL0 (K := K) rfl hr) (pv 1) (pe_lst pa_nil) (nomark _)) (pw_or1 (pt_cmpR op_ne (pe_ix (c_ixT (K := K) rfl) (pv 0) pe_int (fun _ _ => rfl)) (pe_un un_neg pe_int) (nomark _)))))) (pss_one (ps_ret pe_bl)) pss_nil)
(pss_cons (ps_set (i := 2) sc__law_ups.nd rfl (by first | exact Or.inl rfl | exact Or.inr rfl) (pe_lst (pa_cons pe_int pa_nil)))
(pss_cons (ps_for PassesOwn.never rfl (pi_range2 (by rfl) b_range (pa_cons pe_int (pa_cons (pe_callB (c_len (K := K) rfl) (by rfl) b_len bo_len (pa_cons (pv 0) pa_nil)) pa_nil))) (pg_name (i := 3) sc__law_ups.nd rfl (by first | exact Or.inl rfl | exact Or.inr rfl)) (pss_cons (ps_if (pt_cmpR (c_notInD (K := K) rfl hr) (pe_ix (c_ixT (K := K) rfl) (pv 0) (pv 3) (fun _ _ => rfl)) (pv 2) (by with_unfolding_all rfl)) (pss_one (ps_ret pe_bl)) pss_nil)
(pss_one (ps_set (i := 2) sc__law_ups.nd rfl (by first | exact Or.inl rfl | exact Or.inr rfl) (pe_op op_cat (pe_slice (c_slL (K := K) rfl) (pv 2) po_none (po_some (pe_op op_add (c_bm (K := K) rfl PySem.F.plainAttrs_list PySem.F.slot_list_index PySem.F.type_list_index (c_indexD (K := K) rfl hr) (pv 2) (pa_cons (pe_ix (c_ixT (K := K) rfl) (pv 0) (pv 3) (fun _ _ => rfl)) pa_nil)) pe_int))) (pe_lst (pa_cons (pv 3) pa_nil)))))))
(pss_one (ps_ret pe_bl)))))), ?_⟩
    refine n_seq ?_
    refine n_asg ?_
    refine n_lc ?_
    refine n_itT ?_
    refine n_var rfl ?_
    obtain ⟨p1, vs2, ep1, q3, al4⟩ := r_ups
    subst ep1
    refine v_itT (sqR g0.fh q3) ?_
    obtain ⟨u7, hu7, hm⟩ := bnd hm
    obtain ⟨q8, hq8, hm⟩ := bnd hm
    intro D5 nD6
    have goD5 := g0.old nD6
    have gg35 := gr_newM (W := []) (o := .lst []) g0.fh nD6
    refine comp_s (sr_T al4) hq8 (need_ok hu7).1 (fun (acc7 : List An) H7 => ∃ (F7 : Hp) (vs7 : List V), Gr [] F0 H0 F7 H7 ∧ Sub F0 F7 ∧ F7 D5 = none ∧ H7 D5 = some (.lst vs7) ∧ Al eA F7 vs7 acc7) ⟨_, [], g0.trans0 gg35, Sub.refl _, g0.fh.nn nD6, upd_same, .nil⟩ ?_ ?_ ?_
    · rintro _ _ ⟨F20, vs21, g22, sb23, _, _, _⟩
      exact (sqR g22.fh (Sub.rd sb23 q3))
    · rintro a9 r11 acc12 x13 H14 H15 ⟨F20, vs21, g22, sb23, fD24, hD25, al26⟩ hY16 hm hl19 N17 hN18
      have m27 : Mu [] H0 F20 H14 D5 (.lst vs21) := ⟨fD24, hD25, .inl goD5⟩
      refine wipe_to (σ' := [some (.ref p1), none, none, none, none]) rfl ?_
      refine v_nmY hY16 fun r28 => ?_
      refine n_name (setS (setS (setS (setS set0)))) ?_
      refine ⟨rfl, ?_⟩
      refine n_or ?_
      refine n_not ?_
      refine n_tB ?_
      refine n_cb ?_
      refine n_cons ?_
      refine n_var rfl ?_
      refine n_cons ?_
      refine n_c ?_
      refine n_nil ?_
      refine v_isiA g22.fh (show eA.r F20 x13 a9 from (Rp.mono eA sb23 r28)) (kit_int _) ?_
      refine v_bl ?_
      refine br_orT (b := a9.isB) (fun hb29 Q7 k7 => ?_) ?_
      · refine n_tB ?_
        refine n_cb ?_
        refine n_cons ?_
        refine n_var rfl ?_
        refine n_cons ?_
        refine n_c ?_
        refine n_nil ?_
        refine v_isiA g22.fh (show eA.r F20 x13 a9 from (Rp.mono eA sb23 r28)) (kit_bool _) ?_
        refine v_bl ?_
        exact k7
      refine br (fun hb30 => ?_) (fun hb30 => ?_)
      · replace hm := ifT hb30 hm
        refine n_var rfl ?_
        obtain rfl := Option.some.inj hm
        refine ⟨_, m27.hp, by rw [al_len al26]; exact hl19, hN18 _ ?_⟩
        exact ⟨_, _, m27.gr g22, sb23, m27.fr, upd_same, pd_snoc al26 (show eA.r F20 x13 a9 from (Rp.mono eA sb23 r28))⟩
      · replace hm := ifF hb30 hm
        obtain rfl := Option.some.inj hm
        refine hN18 _ ?_
        simp only [Option.toList, List.append_nil]
        exact ⟨_, _, g22, sb23, m27.fr, m27.hp, al26⟩
    rintro H36 ⟨F37, vs38, g39, sb40, fD41, hD42, al43⟩
    have m44 : Mu [] H0 F37 H36 D5 (.lst vs38) := ⟨fD41, hD42, .inl goD5⟩
    obtain ⟨F45, q47, sb49, g48, d46⟩ := freeze g39 m44 (m44.own.resolve_right (by simp))
    have al50 := (Al.mono al43 sb49)
    refine n_name (setS set0) ?_
    refine n_seq ?_
    refine n_ifs ?_
    refine n_or ?_
    refine n_test ?_
    refine n_op ?_
    refine n_var rfl ?_
    refine n_tup ?_
    refine n_nil ?_
    refine v_mkT (t := eA) (xs := []) g48.fh .nil rfl fun p52 F53 H54 d55 q56 al57 => ?_
    have g58 := g48.trans0 d55
    refine v_eqL0 (.inr ⟨(sqR g58.fh (Sub.rd (Sub.trans sb40 (Sub.trans sb49 d55.ff)) q3)), (SqT.of (g58.fh _ _ q56))⟩) (Al.mono al4 (Sub.trans sb40 (Sub.trans sb49 d55.ff))) ?_
    refine v_bl ?_
    obtain ⟨c60, hc60, hm⟩ := bnd hm
    refine br_orTM (c := c60) (fun H7 => ∃ (F61 : Hp), Gr [] F0 H0 F61 H7 ∧ Sub F53 F61) (fun hb59 Q7 k7 => ?_) (fun hb59 => ?_) ?_
    · have hm := ifF hb59 hc60
      refine n_or ?_
      refine n_test ?_
      refine n_op ?_
      refine n_var rfl ?_
      refine n_lst ?_
      refine n_nil ?_
      refine v_mkLF (t := eA) (xs := ([] : List An)) g58.fh .nil rfl fun p62 F63 H64 d65 q66 al67 => ?_
      have g68 := g58.trans0 d65
      refine v_neL0 (.inl ⟨(SqL.of (g68.fh _ _ ((Sub.trans d55.ff d65.ff) _ _ q47))), (SqL.of (g68.fh _ _ q66))⟩) (Al.mono al50 (Sub.trans d55.ff d65.ff)) ?_
      refine v_bl ?_
      obtain ⟨c75, hc75, hm⟩ := bnd hm
      refine br_orTM (c := c75) (fun H7 => ∃ (F76 : Hp), Gr [] F0 H0 F76 H7 ∧ Sub F63 F76) (fun hb69 Q7 k7 => ?_) (fun hb69 => ?_) ?_
      · have hm := ifF hb69 hc75
        refine n_test ?_
        refine n_op ?_
        refine n_op ?_
        refine n_var rfl ?_
        refine n_c ?_
        obtain ⟨a77, ha77, hm⟩ := bnd hm
        refine v_ixT (sqR g68.fh (Sub.rd (Sub.trans sb40 (Sub.trans sb49 (Sub.trans d55.ff d65.ff))) q3)) (Al.mono al4 (Sub.trans sb40 (Sub.trans sb49 (Sub.trans d55.ff d65.ff)))) ha77 fun v78 r79 => ?_
        refine n_un ?_
        refine n_c ?_
        refine v_neg ?_
        obtain ⟨o80, ho80, hm⟩ := bnd hm
        have r81 := cI.ok (show RA F63 v78 a77 from r79) (show cI.c a77 = some o80 from ho80)
        have er81 : v78 = V.int o80 := r81
        subst er81
        refine v_neI ?_
        refine v_bl ?_
        obtain rfl := Option.some.inj hm
        exact k7 _ ⟨_, g68, Sub.refl _⟩
      · have hm := ifT hb69 hc75
        exact ⟨(Option.some.inj hm).symm, ⟨_, g68, Sub.refl _⟩⟩
      rintro H82 ⟨F85, g83, sb84⟩
      obtain rfl := Option.some.inj hm
      exact k7 _ ⟨_, g83, (Sub.trans d65.ff sb84)⟩
    · have hm := ifT hb59 hc60
      exact ⟨(Option.some.inj hm).symm, ⟨_, g58, Sub.refl _⟩⟩
    rintro H86 ⟨F89, g87, sb88⟩
    refine br (fun hb90 => ?_) (fun hb90 => ?_)
    · replace hm := ifT hb90 hm
      refine n_ret ?_
      refine n_c ?_
      obtain rfl := Option.some.inj hm
      exact hk _ _ _  g87   rfl
    replace hm := ifF hb90 hm
    refine n_nextS ?_
    refine n_seq ?_
    refine n_asg ?_
    refine n_lst ?_
    refine n_cons ?_
    refine n_c ?_
    refine n_nil ?_
    refine v_mkLF (t := eI) (xs := [(0 : Int)]) g87.fh (.cons rfl .nil) rfl fun p91 F92 H93 d94 q95 al96 => ?_
    have g97 := g87.trans0 d94
    refine n_name (setS (setS set0)) ?_
    refine n_seq ?_
    refine n_for ?_
    refine n_rng2 ?_
    refine n_cons ?_
    refine n_c ?_
    refine n_cons ?_
    refine n_cb ?_
    refine n_cons ?_
    refine n_var rfl ?_
    refine n_nil ?_
    refine v_len (.inr (sqR g97.fh (Sub.rd (Sub.trans sb40 (Sub.trans sb49 (Sub.trans d55.ff (Sub.trans sb88 d94.ff)))) q3))) (Al.mono al4 (Sub.trans sb40 (Sub.trans sb49 (Sub.trans d55.ff (Sub.trans sb88 d94.ff))))) ?_
    refine n_nil ?_
    obtain ⟨l98, hl98, hm⟩ := bnd hm
    refine v_rng2 hl98 ?_
    obtain ⟨z99, hz99, hm⟩ := bnd hm
    have hmo100 := hm
    refine for_r (sr_R2 hl98) hz99 (fun (s7 : List Int) σ7 H7 => ∃ (F7 : Hp) (v_line : V) (o_k : Option V), σ7 = [some (.ref p1), some (.ref D5), some v_line, o_k, none] ∧ Gr [] F0 H0 F7 H7 ∧ Sub F92 F7 ∧ (eL eI).r F7 v_line s7) ⟨_, (.ref p91), _, rfl, g97, Sub.refl _, (⟨p91, [.int (0 : Int)], rfl, q95, al96⟩ : (eL eI).r F92 (.ref p91) [(0 : Int)])⟩ ?_ ?_ ?_
    · intros; exact trivial
    · rintro a101 s102 s103 x104 _ H105 H106 ⟨F110, v113, o114, rfl, g111, sb112, r115⟩ hY107 hm hrt116 N108 hN109
      refine v_nmR hY107 ?_
      refine n_name (setS (setS (setS set0))) ?_
      refine n_seq ?_
      refine n_ifs ?_
      refine n_test ?_
      refine n_op ?_
      refine n_op ?_
      refine n_var rfl ?_
      refine n_var rfl ?_
      obtain ⟨a117, ha117, hm⟩ := bnd hm
      refine v_ixT (sqR g111.fh (Sub.rd (Sub.trans sb40 (Sub.trans sb49 (Sub.trans d55.ff (Sub.trans sb88 (Sub.trans d94.ff sb112))))) q3)) (Al.mono al4 (Sub.trans sb40 (Sub.trans sb49 (Sub.trans d55.ff (Sub.trans sb88 (Sub.trans d94.ff sb112)))))) ha117 fun v118 r119 => ?_
      refine n_var rfl ?_
      obtain ⟨o120, ho120, hm⟩ := bnd hm
      have r121 := cI.ok (show RA F110 v118 a117 from r119) (show cI.c a117 = some o120 from ho120)
      have er121 : v118 = V.int o120 := r121
      subst er121
      refine v_notInDi dI (dI.ok g111.fh (show eI.r F110 (.int o120) o120 from rfl)) ((dL dI).ok g111.fh (show (eL eI).r F110 v113 s102 from r115)) (eqB_sh sh_I (sh_L sh_I) (by decide) (by decide) o120 s102) ?_
      refine v_bl ?_
      refine br (fun hb122 => ?_) (fun hb122 => ?_)
      · replace hm := ifT hb122 hm
        refine n_ret ?_
        refine n_c ?_
        obtain rfl := Option.some.inj hm
        have hm := thenF_rt (hrt116 _ rfl) hmo100
        obtain rfl := Option.some.inj hm
        exact hk _ _ _  g111   rfl
      replace hm := ifF hb122 hm
      refine n_nextS ?_
      refine n_asg ?_
      refine n_op ?_
      refine n_sl ?_
      refine n_var rfl ?_
      refine n_nopart ?_
      refine n_part ?_
      refine n_op ?_
      refine n_bm ?_
      refine n_var rfl ?_
      obtain ⟨p123, vs124, ep123, q125, al126⟩ := r115
      subst ep123
      refine ⟨tyL (SqL.of (g111.fh _ _ q125)), ?_⟩
      refine n_cons ?_
      refine n_op ?_
      refine n_var rfl ?_
      refine n_var rfl ?_
      obtain ⟨a127, ha127, hm⟩ := bnd hm
      refine v_ixT (sqR g111.fh (Sub.rd (Sub.trans sb40 (Sub.trans sb49 (Sub.trans d55.ff (Sub.trans sb88 (Sub.trans d94.ff sb112))))) q3)) (Al.mono al4 (Sub.trans sb40 (Sub.trans sb49 (Sub.trans d55.ff (Sub.trans sb88 (Sub.trans d94.ff sb112)))))) ha127 fun v128 r129 => ?_
      refine n_nil ?_
      obtain ⟨o130, ho130, hm⟩ := bnd hm
      have r131 := cI.ok (show RA F110 v128 a127 from r129) (show cI.c a127 = some o130 from ho130)
      have er131 : v128 = V.int o130 := r131
      subst er131
      obtain ⟨a132, ha132, hm⟩ := bnd hm
      refine v_indexD dI (dI.ok g111.fh (show eI.r F110 (.int o130) o130 from rfl)) ((dL dI).ok g111.fh (show (eL eI).r F110 (.ref p123) s102 from (⟨p123, vs124, rfl, q125, al126⟩ : (eL eI).r F110 (.ref p123) s102))) (eqB_sh sh_I (sh_L sh_I) (by decide) (by decide) o130 s102) ha132 ?_
      refine n_c ?_
      refine v_i2 ?_
      refine v_part ?_
      refine v_slLF g111.fh (SqL.of (g111.fh _ _ q125)) al126 fun p133 vs134 F136 H137 d138 q139 al135 => ?_
      have g140 := g111.trans0 d138
      refine n_lst ?_
      refine n_cons ?_
      refine n_var rfl ?_
      refine n_nil ?_
      refine v_mkLF (t := eI) (xs := [a101]) g140.fh (.cons rfl .nil) rfl fun p141 F142 H143 d144 q145 al146 => ?_
      have g147 := g140.trans0 d144
      obtain ⟨l148, hl148, hm⟩ := bnd hm
      refine v_catF g147.fh (g147.fh _ _ (d144.ff _ _ q139)) (g147.fh _ _ q145) (Al.mono al135 d144.ff) al146 hl148 fun p149 vs150 F152 H153 d154 q155 al151 => ?_
      have g156 := g147.trans0 d154
      refine n_name (setS (setS set0)) ?_
      obtain rfl := Option.some.inj hm
      exact hN109 _ _ _ rfl ⟨_, (.ref p149), _, rfl, g156, (Sub.trans sb112 (Sub.trans d138.ff (Sub.trans d144.ff d154.ff))), (⟨p149, vs150, rfl, q155, al151⟩ : (eL eI).r F152 (.ref p149) l148)⟩
    rintro s158 _ H157 e159 ⟨F160, v163, o164, rfl, g161, sb162, r165⟩
    subst e159
    replace hm := thenF_nx hm
    refine n_ret ?_
    refine n_c ?_
    obtain rfl := Option.some.inj hm
    exact hk _ _ _  g161   rfl

def m__law_due (x_thing : An) : Option Bool :=
  (if (!x_thing.isT) = true then
  some true
  else
  (An.lenM x_thing).bind fun a18 =>
  (if (!decide (a18 = (2 : Int))) = true then
  some true
  else
  (An.ixM x_thing (0 : Int)).bind fun a25 =>
  some (!a25.isT)).bind fun c23 =>
  some c23).bind fun c16 =>
  if c16 = true then
  some false
  else
  (An.un2 x_thing).bind fun o37 =>
  (if (!o37.2.isS) = true then
  some true
  else
  (An.lenM o37.2).bind fun a56 =>
  (An.lenM o37.1).bind fun a57 =>
  (if (!decide (a56 = a57)) = true then
  some true
  else
  (An.lenM o37.2).bind fun a62 =>
  some (decide ((60 : Int) < a62))).bind fun c60 =>
  some c60).bind fun c54 =>
  if c54 = true then
  some false
  else
  (An.tupM o37.1).bind fun o72 =>
  (m__law_ups o72).bind fun r74 =>
  if (!r74) = true then
  some false
  else
  (An.strM o37.2).bind fun o82 =>
  (need (szB (signs o82).length) ()).bind fun u86 =>
  (compS (signs o82) fun a88 =>
  if (!inSg a88 ([97, 98, 99, 100, 101, 102, 103, 104, 105, 106, 107, 108, 109, 110, 111, 112, 113, 114, 115, 116, 117, 118, 119, 120, 121, 122] : Sg)) = true then
  some (some a88)
  else
  some none).bind fun q87 =>
  (need (eqB ((dL dS).d q87) ((dL dS).d ([] : List Sg))) ()).bind fun u136 =>
  if (!(decide (q87 = ([] : List Sg)))) = true then
  some false
  else
  (uptoM 0 (o72.length : Int)).bind fun l142 =>
  (foldR l142 () fun s146 a145 =>
  (need (szB (enumL o72).length) ()).bind fun u162 =>
  (compS (enumL o72) fun a164 =>
  (An.intM a164.2).bind fun o188 =>
  if (decide (o188 = a145)) = true then
  (atI o82 a164.1).bind fun c191 =>
  some (some [c191])
  else
  some none).bind fun q163 =>
  (need (ssetB 3999 q163) ()).bind fun u212 =>
  (need (eqB ((dL dS).d q163) ((dL dS).d (ssetL ltS q163))) ()).bind fun u221 =>
  if (!(decide (q163 = (ssetL ltS q163)))) = true then
  some (.rt false)
  else
  some (.nx ())).bind fun z143 =>
  thenF z143 (fun s224 =>
  some true) (fun r7 => some r7)
def sp__law_due (K : PySem.W.Frag) : Sp := fun vs H Q _ => ∃ (F : Hp) (v_thing : V) (x_thing : An) (r : Bool), vs = [v_thing] ∧ Sub F H ∧ eA.r F v_thing x_thing ∧ m__law_due x_thing = some r ∧ ∀ (v : V) (F' H' : Hp) , Gr [] F H F' H' → eB.r F' v r → Q v H'
theorem sc__law_due : FnScope ["thing", "place", "ups", "labels", "some", "sign", "k", "up"] ["thing"] (defScope s__law_due) := ⟨rfl, rfl, rfl, by decide +kernel, rfl, by decide +kernel, by decide +kernel⟩
theorem ok__law_due {f : Addr} {fd : FuncData} (F : FnP K "_law_due" s__law_due f fd) (H__law_ups : HasG P w K mg base "_law_ups" ["ups"] 1 (sp__law_ups K)) (b_range : mg "range" = none) (b_len : mg "len" = none) (b_isinstance : mg "isinstance" = none) (b_tuple : mg "tuple" = none) (b_str : mg "str" = none) (b_sorted : mg "sorted" = none) (b_enumerate : mg "enumerate" = none) (b_set : mg "set" = none) : FnG P w K mg base CX0 2 f fd ["thing"] (sp__law_due K) := by
  obtain ⟨f__law_ups, fd__law_ups, G0__law_ups, g__law_ups, k__law_ups, b__law_ups⟩ := H__law_ups
  have G__law_ups := G0__law_ups.mono (show 1 ≤ 1 by decide)
  refine FnDok F sc__law_due (fun vs H Q E h => ?_) (fun cdv A outer s H0 vs Q E gd hr h => ?_)
  · obtain ⟨_, _, _, _, rfl, _⟩ := h
    rfl
  · obtain ⟨F0, v_thing, x_thing, r0, rfl, hs0, r_thing, hm, hk⟩ := h
    have g0 : Gr [] F0 H0 F0 H0 := Gr.refl hs0
    refine ⟨_, PSs.nox (pss_cons (ps_if (PW.pt (pw_or (pt_not (pt_val (pe_callB (c_isi (K := K) rfl) (by rfl) b_isinstance bo_isinstance (pa_cons (pv 0) (pa_cons (pe_bltn (v := .ty "tuple") (by rfl) b_tuple bo_tuple rfl) pa_nil))))) (pw_or (pt_cmpR op_ne (pe_callB (c_lenA (K := K) rfl) (by rfl) b_len bo_len (pa_cons (pv 0) pa_nil)) pe_int (nomark _)) (pw_or1 (pt_not (pt_val (pe_callB (c_isi (K := K) rfl) (by rfl) b_isinstance bo_isinstance (pa_cons (pe_ix (c_ixA (K := K) rfl) (pv 0) pe_int (fun _ _ => rfl)) (pa_cons (pe_bltn (v := .ty "tuple") (by rfl) b_tuple bo_tuple rfl) pa_nil))))))))) (pss_one (ps_ret pe_bl)) pss_nil)
(pss_cons (ps_asg (pv 0) (c_pgtup (K := K) rfl (by rfl) (pgs_cons (pg_name (i := 2) sc__law_due.nd rfl (by first | exact Or.inl rfl | exact Or.inr rfl)) (pgs_cons (pg_name (i := 3) sc__law_due.nd rfl (by first | exact Or.inl rfl | exact Or.inr rfl)) pgs_nil))))
(pss_cons (ps_if (PW.pt (pw_or (pt_not (pt_val (pe_callB (c_isi (K := K) rfl) (by rfl) b_isinstance bo_isinstance (pa_cons (pv 3) (pa_cons (pe_bltn (v := .ty "str") (by rfl) b_str bo_str rfl) pa_nil))))) (pw_or (pt_cmpR op_ne (pe_callB (c_lenA (K := K) rfl) (by rfl) b_len bo_len (pa_cons (pv 3) pa_nil)) (pe_callB (c_lenA (K := K) rfl) (by rfl) b_len bo_len (pa_cons (pv 2) pa_nil)) (nomark _)) (pw_or1 (pt_cmpR op_gt (pe_callB (c_lenA (K := K) rfl) (by rfl) b_len bo_len (pa_cons (pv 3) pa_nil)) pe_int (nomark _)))))) (pss_one (ps_ret pe_bl)) pss_nil)
(pss_cons (ps_if (pt_not (pt_val (pe_callG G__law_ups gd hr (by rfl) g__law_ups k__law_ups b__law_ups pass0 (pa_cons (pv 2) pa_nil)))) (pss_one (ps_ret pe_bl)) pss_nil)
(pss_cons (ps_if (pt_cmpR (c_neD (K := K) rfl hr) (pe_lc (own := [("sign", 5)]) (g := gName 5) (by rfl) sc__law_due.nd (pi_str (pv 3)) (blkOk_by (own := [("sign", 5)]) (N := ["thing", "place", "ups", "labels", "some", "sign", "k", "up"]) (sc := defScope s__law_due) (by decide +kernel)) (fun _ _ _ _ _ => (pg_name (i := 5) sc__law_due.nd rfl (Or.inl rfl))) (fun _ _ _ _ _ => pts_one (pt_cmpR c_notInS (pv 5) pe_str (by with_unfolding_all rfl))) (fun _ _ _ _ _ => (pv 5))) (pe_lst pa_nil) (nomark _)) (pss_one (ps_ret pe_bl)) pss_nil)
(pss_cons (ps_for PassesOwn.never rfl (pi_range1 (by rfl) b_range (pa_cons (pe_callB (c_len (K := K) rfl) (by rfl) b_len bo_len (pa_cons (pv 2) pa_nil)) pa_nil)) (pg_name (i := 1) sc__law_due.nd rfl (by first | exact Or.inl rfl | exact Or.inr rfl)) (pss_cons (ps_setLc (i := 4) (own := [("k", 6), ("up", 7)]) (g := gTup K 2 (gCons (gName 6) (gCons (gName 7) gNil))) (by rfl) sc__law_due.nd rfl rfl (sw_true rfl rfl rfl (by decide +kernel)) (pi_en (K := K) rfl (by rfl) b_enumerate (pa_cons (pv 2) pa_nil)) (blkOk_by (own := [("k", 6), ("up", 7)]) (N := ["thing", "place", "ups", "labels", "some", "sign", "k", "up"]) (sc := defScope s__law_due) (by decide +kernel)) (fun _ _ _ _ _ => (c_pgtup (K := K) rfl (by rfl) (pgs_cons (pg_name (i := 6) sc__law_due.nd rfl (Or.inl rfl)) (pgs_cons (pg_name (i := 7) sc__law_due.nd rfl (Or.inl rfl)) pgs_nil)))) (fun _ _ _ _ _ => pts_one (pt_cmpR op_eq (pv 7) (pv 1) (nomark _))) (fun _ _ _ _ _ => (pe_ix ix_str (pv 3) (pv 6) (fun _ _ => rfl))))
(pss_one (ps_if (pt_cmpR (c_neD (K := K) rfl hr) (pv 4) (pe_ssetK (K := K) rfl hr (by rfl) b_sorted (by rfl) b_set (pa_cons (pv 4) pa_nil)) (nomark _)) (pss_one (ps_ret pe_bl)) pss_nil))))
(pss_one (ps_ret pe_bl)))))))), ?_⟩
    refine n_seq ?_
    refine n_ifs ?_
    refine n_or ?_
    refine n_not ?_
    refine n_tB ?_
    refine n_cb ?_
    refine n_cons ?_
    refine n_var rfl ?_
    refine n_cons ?_
    refine n_c ?_
    refine n_nil ?_
    refine v_isiA g0.fh (show eA.r F0 v_thing x_thing from r_thing) (kit_tuple _) ?_
    refine v_bl ?_
    obtain ⟨c16, hc16, hm⟩ := bnd hm
    refine br_orTM (c := c16) (fun H7 => ∃ (F17 : Hp), Gr [] F0 H0 F17 H7 ∧ Sub F0 F17) (fun hb1 Q7 k7 => ?_) (fun hb1 => ?_) ?_
    · have hm := ifF hb1 hc16
      refine n_or ?_
      refine n_test ?_
      refine n_op ?_
      refine n_cb ?_
      refine n_cons ?_
      refine n_var rfl ?_
      refine n_nil ?_
      obtain ⟨a18, ha18, hm⟩ := bnd hm
      refine v_lenA g0.fh (show eA.r F0 v_thing x_thing from r_thing) ha18 ?_
      refine n_c ?_
      refine v_neI ?_
      refine v_bl ?_
      obtain ⟨c23, hc23, hm⟩ := bnd hm
      refine br_orTM (c := c23) (fun H7 => ∃ (F24 : Hp), Gr [] F0 H0 F24 H7 ∧ Sub F0 F24) (fun hb19 Q7 k7 => ?_) (fun hb19 => ?_) ?_
      · have hm := ifF hb19 hc23
        refine n_not ?_
        refine n_tB ?_
        refine n_cb ?_
        refine n_cons ?_
        refine n_op ?_
        refine n_var rfl ?_
        refine n_c ?_
        obtain ⟨a25, ha25, hm⟩ := bnd hm
        refine v_ixA g0.fh (show eA.r F0 v_thing x_thing from r_thing) ha25 fun v26 r27 => ?_
        refine n_cons ?_
        refine n_c ?_
        refine n_nil ?_
        refine v_isiA g0.fh (show eA.r F0 v26 a25 from r27) (kit_tuple _) ?_
        refine v_bl ?_
        obtain rfl := Option.some.inj hm
        exact k7 _ ⟨_, g0, Sub.refl _⟩
      · have hm := ifT hb19 hc23
        exact ⟨(Option.some.inj hm).symm, ⟨_, g0, Sub.refl _⟩⟩
      rintro H28 ⟨F31, g29, sb30⟩
      obtain rfl := Option.some.inj hm
      exact k7 _ ⟨_, g29, sb30⟩
    · have hm := ifT hb1 hc16
      exact ⟨(Option.some.inj hm).symm, ⟨_, g0, Sub.refl _⟩⟩
    rintro H32 ⟨F35, g33, sb34⟩
    refine br (fun hb36 => ?_) (fun hb36 => ?_)
    · replace hm := ifT hb36 hm
      refine n_ret ?_
      refine n_c ?_
      obtain rfl := Option.some.inj hm
      exact hk _ _ _  g33   rfl
    replace hm := ifF hb36 hm
    refine n_nextS ?_
    refine n_seq ?_
    refine n_asg ?_
    refine n_var rfl ?_
    obtain ⟨o37, ho37, hm⟩ := bnd hm
    refine v_unpA2 g33.fh (show eA.r F35 v_thing x_thing from (Rp.mono eA sb34 r_thing)) ho37 fun v38 v40 r39 r41 => ?_
    refine n_gcons ?_
    refine n_name (setS (setS set0)) ?_
    refine n_gcons ?_
    refine n_name (setS (setS (setS set0))) ?_
    refine n_gnil ?_
    refine n_seq ?_
    refine n_ifs ?_
    refine n_or ?_
    refine n_not ?_
    refine n_tB ?_
    refine n_cb ?_
    refine n_cons ?_
    refine n_var rfl ?_
    refine n_cons ?_
    refine n_c ?_
    refine n_nil ?_
    refine v_isiA g33.fh (show eA.r F35 v40 o37.2 from r41) (kit_str _) ?_
    refine v_bl ?_
    obtain ⟨c54, hc54, hm⟩ := bnd hm
    refine br_orTM (c := c54) (fun H7 => ∃ (F55 : Hp), Gr [] F0 H0 F55 H7 ∧ Sub F35 F55) (fun hb42 Q7 k7 => ?_) (fun hb42 => ?_) ?_
    · have hm := ifF hb42 hc54
      refine n_or ?_
      refine n_test ?_
      refine n_op ?_
      refine n_cb ?_
      refine n_cons ?_
      refine n_var rfl ?_
      refine n_nil ?_
      obtain ⟨a56, ha56, hm⟩ := bnd hm
      refine v_lenA g33.fh (show eA.r F35 v40 o37.2 from r41) ha56 ?_
      refine n_cb ?_
      refine n_cons ?_
      refine n_var rfl ?_
      refine n_nil ?_
      obtain ⟨a57, ha57, hm⟩ := bnd hm
      refine v_lenA g33.fh (show eA.r F35 v38 o37.1 from r39) ha57 ?_
      refine v_neI ?_
      refine v_bl ?_
      obtain ⟨c60, hc60, hm⟩ := bnd hm
      refine br_orTM (c := c60) (fun H7 => ∃ (F61 : Hp), Gr [] F0 H0 F61 H7 ∧ Sub F35 F61) (fun hb58 Q7 k7 => ?_) (fun hb58 => ?_) ?_
      · have hm := ifF hb58 hc60
        refine n_test ?_
        refine n_op ?_
        refine n_cb ?_
        refine n_cons ?_
        refine n_var rfl ?_
        refine n_nil ?_
        obtain ⟨a62, ha62, hm⟩ := bnd hm
        refine v_lenA g33.fh (show eA.r F35 v40 o37.2 from r41) ha62 ?_
        refine n_c ?_
        refine v_i2 ?_
        refine v_bl ?_
        obtain rfl := Option.some.inj hm
        exact k7 _ ⟨_, g33, Sub.refl _⟩
      · have hm := ifT hb58 hc60
        exact ⟨(Option.some.inj hm).symm, ⟨_, g33, Sub.refl _⟩⟩
      rintro H63 ⟨F66, g64, sb65⟩
      obtain rfl := Option.some.inj hm
      exact k7 _ ⟨_, g64, sb65⟩
    · have hm := ifT hb42 hc54
      exact ⟨(Option.some.inj hm).symm, ⟨_, g33, Sub.refl _⟩⟩
    rintro H67 ⟨F70, g68, sb69⟩
    refine br (fun hb71 => ?_) (fun hb71 => ?_)
    · replace hm := ifT hb71 hm
      refine n_ret ?_
      refine n_c ?_
      obtain rfl := Option.some.inj hm
      exact hk _ _ _  g68   rfl
    replace hm := ifF hb71 hm
    refine n_nextS ?_
    refine n_seq ?_
    refine n_ifs ?_
    refine n_not ?_
    refine n_tB ?_
    refine n_call ?_
    refine n_cons ?_
    refine n_var rfl ?_
    refine n_nil ?_
    obtain ⟨o72, ho72, hm⟩ := bnd hm
    have r73 := cRA.ok (show RA F70 v38 o37.1 from (Rp.mono eA sb69 r39)) (show cRA.c o37.1 = some o72 from ho72)
    obtain ⟨r74, hr74, hm⟩ := bnd hm
    refine ⟨F70, v38, o72, r74, rfl, g68.fh, r73, hr74, fun v78 F75 H76 d77 r79 => ?_⟩
    have g80 := g68.trans0 d77
    have er79 : v78 = V.bl r74 := r79
    subst er79
    refine v_bl ?_
    refine br (fun hb81 => ?_) (fun hb81 => ?_)
    · replace hm := ifT hb81 hm
      refine n_ret ?_
      refine n_c ?_
      obtain rfl := Option.some.inj hm
      exact hk _ _ _  g80   rfl
    replace hm := ifF hb81 hm
    refine n_nextS ?_
    refine n_seq ?_
    refine n_ifs ?_
    refine n_test ?_
    refine n_op ?_
    refine n_lc ?_
    refine n_itS ?_
    refine n_var rfl ?_
    obtain ⟨o82, ho82, hm⟩ := bnd hm
    have r83 := cS.ok (show RA F75 v40 o37.2 from (Rp.mono eA (Sub.trans sb69 d77.ff) r41)) (show cS.c o37.2 = some o82 from ho82)
    obtain ⟨er83, lr83⟩ : v40 = V.str (S o82) ∧ o82.length ≤ sizeLine := r83
    subst er83
    refine v_itS ?_
    obtain ⟨u86, hu86, hm⟩ := bnd hm
    obtain ⟨q87, hq87, hm⟩ := bnd hm
    intro D84 nD85
    have goD84 := g80.old nD85
    have gg113 := gr_newM (W := []) (o := .lst []) g80.fh nD85
    refine comp_s (sr_S o82) hq87 (need_ok hu86).1 (fun (acc7 : List Sg) H7 => ∃ (F7 : Hp) (vs7 : List V), Gr [] F0 H0 F7 H7 ∧ Sub F75 F7 ∧ F7 D84 = none ∧ H7 D84 = some (.lst vs7) ∧ Al eS F7 vs7 acc7) ⟨_, [], g80.trans0 gg113, Sub.refl _, g80.fh.nn nD85, upd_same, .nil⟩ ?_ ?_ ?_
    · intros; exact trivial
    · rintro a88 r90 acc91 x92 H93 H94 ⟨F99, vs100, g101, sb102, fD103, hD104, al105⟩ hY95 hm hl98 N96 hN97
      have m106 : Mu [] H0 F99 H93 D84 (.lst vs100) := ⟨fD103, hD104, .inl goD84⟩
      refine wipe_to (σ' := [some v_thing, none, some v38, some (.str (S o82)), none, none, none, none]) rfl ?_
      refine v_nmS hY95 fun l107 => ?_
      refine n_name (setS (setS (setS (setS (setS set0))))) ?_
      refine ⟨rfl, ?_⟩
      refine n_test ?_
      refine n_op ?_
      refine n_var rfl ?_
      refine n_str (s := [97, 98, 99, 100, 101, 102, 103, 104, 105, 106, 107, 108, 109, 110, 111, 112, 113, 114, 115, 116, 117, 118, 119, 120, 121, 122]) (by decide +kernel) ?_
      refine v_notInS ?_
      refine v_bl ?_
      refine br (fun hb108 => ?_) (fun hb108 => ?_)
      · replace hm := ifT hb108 hm
        refine n_var rfl ?_
        obtain rfl := Option.some.inj hm
        refine ⟨_, m106.hp, by rw [al_len al105]; exact hl98, hN97 _ ?_⟩
        exact ⟨_, _, m106.gr g101, sb102, m106.fr, upd_same, pd_snoc al105 (show eS.r F99 (.str (S a88)) a88 from ⟨rfl, (len1_le l107)⟩)⟩
      · replace hm := ifF hb108 hm
        obtain rfl := Option.some.inj hm
        refine hN97 _ ?_
        simp only [Option.toList, List.append_nil]
        exact ⟨_, _, g101, sb102, m106.fr, m106.hp, al105⟩
    rintro H114 ⟨F115, vs116, g117, sb118, fD119, hD120, al121⟩
    have m122 : Mu [] H0 F115 H114 D84 (.lst vs116) := ⟨fD119, hD120, .inl goD84⟩
    obtain ⟨F123, q125, sb127, g126, d124⟩ := freeze g117 m122 (m122.own.resolve_right (by simp))
    have al128 := (Al.mono al121 sb127)
    refine n_lst ?_
    refine n_nil ?_
    refine v_mkLF (t := eS) (xs := ([] : List Sg)) g126.fh .nil rfl fun p129 F130 H131 d132 q133 al134 => ?_
    have g135 := g126.trans0 d132
    obtain ⟨u136, hu136, hm⟩ := bnd hm
    refine v_neDp ((dL dS).ok g135.fh (show (eL eS).r F130 (.ref D84) q87 from (Rp.mono (eL eS) d132.ff (⟨D84, vs116, rfl, q125, al128⟩ : (eL eS).r F123 (.ref D84) q87)))) ((dL dS).ok g135.fh (show (eL eS).r F130 (.ref p129) ([] : List Sg) from (⟨p129, [], rfl, q133, al134⟩ : (eL eS).r F130 (.ref p129) ([] : List Sg)))) (need_ok hu136).1 (eqv_dec (dL dS) q87 ([] : List Sg)) ?_
    refine v_bl ?_
    refine br (fun hb137 => ?_) (fun hb137 => ?_)
    · replace hm := ifT hb137 hm
      refine n_ret ?_
      refine n_c ?_
      obtain rfl := Option.some.inj hm
      exact hk _ _ _  g135   rfl
    replace hm := ifF hb137 hm
    refine n_nextS ?_
    refine n_seq ?_
    refine n_for ?_
    refine n_rng1 ?_
    refine n_cons ?_
    refine n_cb ?_
    refine n_cons ?_
    refine n_var rfl ?_
    refine n_nil ?_
    obtain ⟨p138, vs139, ep138, q140, al141⟩ := (Rp.mono (eR eA) (Sub.trans d77.ff (Sub.trans sb118 (Sub.trans sb127 d132.ff))) r73)
    subst ep138
    refine v_len (.inr (sqR g135.fh q140)) al141 ?_
    refine n_nil ?_
    obtain ⟨l142, hl142, hm⟩ := bnd hm
    refine v_rng1 hl142 ?_
    obtain ⟨z143, hz143, hm⟩ := bnd hm
    have hmo144 := hm
    refine for_r (sr_R1 hl142) hz143 (fun (s7 : Unit) σ7 H7 => ∃ (F7 : Hp) (o_place : Option V) (o_some : Option V), σ7 = [some v_thing, o_place, some (.ref p138), some (.str (S o82)), o_some, none, none, none] ∧ Gr [] F0 H0 F7 H7 ∧ Sub F130 F7) ⟨_, _, _, rfl, g135, Sub.refl _⟩ ?_ ?_ ?_
    · intros; exact trivial
    · rintro a145 s146 s147 x148 _ H149 H150 ⟨F154, o157, o158, rfl, g155, sb156⟩ hY151 hm hrt159 N152 hN153
      refine v_nmR hY151 ?_
      refine n_name (setS set0) ?_
      refine n_seq ?_
      refine n_asg ?_
      refine n_lc ?_
      refine n_en ?_
      refine n_cons ?_
      refine n_var rfl ?_
      refine n_nil ?_
      refine v_en (k := (.t p138)) (vs := vs139) (sqR g155.fh (Sub.rd sb156 q140)) ?_
      obtain ⟨u162, hu162, hm⟩ := bnd hm
      obtain ⟨q163, hq163, hm⟩ := bnd hm
      intro D160 nD161
      have goD160 := g155.old nD161
      have gg196 := gr_newM (W := []) (o := .lst []) g155.fh nD161
      refine comp_s (sr_En (k := (.t p138)) (Al.mono al141 sb156)) hq163 (need_ok hu162).1 (fun (acc7 : List Sg) H7 => ∃ (F7 : Hp) (vs7 : List V), Gr [] F0 H0 F7 H7 ∧ Sub F154 F7 ∧ F7 D160 = none ∧ H7 D160 = some (.lst vs7) ∧ Al eS F7 vs7 acc7) ⟨_, [], g155.trans0 gg196, Sub.refl _, g155.fh.nn nD161, upd_same, .nil⟩ ?_ ?_ ?_
      · rintro _ _ ⟨F175, vs176, g177, sb178, _, _, _⟩
        exact (sqR g177.fh (Sub.rd (Sub.trans sb156 sb178) q140))
      · rintro a164 r166 acc167 x168 H169 H170 ⟨F175, vs176, g177, sb178, fD179, hD180, al181⟩ hY171 hm hl174 N172 hN173
        have m182 : Mu [] H0 F175 H169 D160 (.lst vs176) := ⟨fD179, hD180, .inl goD160⟩
        refine wipe_to (σ' := [some v_thing, some (.int a145), some (.ref p138), some (.str (S o82)), o158, none, none, none]) rfl ?_
        refine v_unpE g177.fh hY171 fun v184 d183 r185 => ?_
        have g186 := g177.trans0 d183
        have m187 := m182.call0 d183
        refine n_gcons ?_
        refine n_name (setS (setS (setS (setS (setS (setS set0)))))) ?_
        refine n_gcons ?_
        refine n_name (setS (setS (setS (setS (setS (setS (setS set0))))))) ?_
        refine n_gnil ?_
        refine ⟨rfl, ?_⟩
        refine n_test ?_
        refine n_op ?_
        refine n_var rfl ?_
        refine n_var rfl ?_
        obtain ⟨o188, ho188, hm⟩ := bnd hm
        have r189 := cI.ok (show RA F175 v184 a164.2 from (Rp.mono eA sb178 r185)) (show cI.c a164.2 = some o188 from ho188)
        have er189 : v184 = V.int o188 := r189
        subst er189
        refine v_eqI ?_
        refine v_bl ?_
        refine br (fun hb190 => ?_) (fun hb190 => ?_)
        · replace hm := ifT hb190 hm
          refine n_op ?_
          refine n_var rfl ?_
          refine n_var rfl ?_
          obtain ⟨c191, hc191, hm⟩ := bnd hm
          refine v_ixS lr83 hc191 ?_
          obtain rfl := Option.some.inj hm
          refine ⟨_, m187.hp, by rw [al_len al181]; exact hl174, hN173 _ ?_⟩
          exact ⟨_, _, m187.gr g186, sb178, m187.fr, upd_same, pd_snoc al181 (show eS.r F175 (.str (S [c191])) [c191] from ⟨rfl, one_le⟩)⟩
        · replace hm := ifF hb190 hm
          obtain rfl := Option.some.inj hm
          refine hN173 _ ?_
          simp only [Option.toList, List.append_nil]
          exact ⟨_, _, g186, sb178, m187.fr, m187.hp, al181⟩
      rintro H197 ⟨F198, vs199, g200, sb201, fD202, hD203, al204⟩
      have m205 : Mu [] H0 F198 H197 D160 (.lst vs199) := ⟨fD202, hD203, .inl goD160⟩
      obtain ⟨F206, q208, sb210, g209, d207⟩ := freeze g200 m205 (m205.own.resolve_right (by simp))
      have al211 := (Al.mono al204 sb210)
      refine n_name (setS (setS (setS (setS set0)))) ?_
      refine n_ifs ?_
      refine n_test ?_
      refine n_op ?_
      refine n_var rfl ?_
      refine n_cb ?_
      refine n_cons ?_
      refine n_var rfl ?_
      refine n_nil ?_
      obtain ⟨u212, hu212, hm⟩ := bnd hm
      refine v_ssetKF soS keS lo_S g209.fh (SqL.of (g209.fh _ _ q208)) al211 (need_ok hu212).1 fun p213 vs214 F216 H217 d218 q219 al215 => ?_
      have g220 := g209.trans0 d218
      obtain ⟨u221, hu221, hm⟩ := bnd hm
      refine v_neDp ((dL dS).ok g220.fh (show (eL eS).r F216 (.ref D160) q163 from (Rp.mono (eL eS) d218.ff (⟨D160, vs199, rfl, q208, al211⟩ : (eL eS).r F206 (.ref D160) q163)))) ((dL dS).ok g220.fh (show (eL eS).r F216 (.ref p213) (ssetL ltS q163) from (⟨p213, vs214, rfl, q219, al215⟩ : (eL eS).r F216 (.ref p213) (ssetL ltS q163)))) (need_ok hu221).1 (eqv_dec (dL dS) q163 (ssetL ltS q163)) ?_
      refine v_bl ?_
      refine br (fun hb222 => ?_) (fun hb222 => ?_)
      · replace hm := ifT hb222 hm
        refine n_ret ?_
        refine n_c ?_
        obtain rfl := Option.some.inj hm
        have hm := thenF_rt (hrt159 _ rfl) hmo144
        obtain rfl := Option.some.inj hm
        exact hk _ _ _  g220   rfl
      replace hm := ifF hb222 hm
      refine n_nextS ?_
      obtain rfl := Option.some.inj hm
      exact hN153 _ _ _ rfl ⟨_, _, _, rfl, g220, (Sub.trans sb156 (Sub.trans sb201 (Sub.trans sb210 d218.ff)))⟩
    rintro s224 _ H223 e225 ⟨F226, o229, o230, rfl, g227, sb228⟩
    subst e225
    replace hm := thenF_nx hm
    refine n_ret ?_
    refine n_c ?_
    obtain rfl := Option.some.inj hm
    exact hk _ _ _  g227   rfl

def m__law_bent (x_pool : List Int) (x_tree : (List Int × Sg)) : Option (An × List Int) :=
  (m__law_take x_pool (20 : Int)).bind fun r2 =>
  (m__law_take r2.2 (12 : Int)).bind fun r13 =>
  (m__law_take r13.2 (x_tree.2.length : Int)).bind fun r28 =>
  (m__law_take r28.2 (26 : Int)).bind fun r39 =>
  (atI ([97, 98, 99, 100, 101, 102, 103, 104, 105, 106, 107, 108, 109, 110, 111, 112, 113, 114, 115, 116, 117, 118, 119, 120, 121, 122] : Sg) r39.1).bind fun c50 =>
  (m__law_take r39.2 (12 : Int)).bind fun r51 =>
  (atI ([65, 66, 90, 32, 48, 57, 123, 96, 95, 45, 126, 63] : Sg) r51.1).bind fun c62 =>
  (atI [An.non, (An.bl true), (An.bl false), (An.int (-1 : Int)), (An.int (-2 : Int)), (An.str ([48] : Sg)), (An.tup false ([] : List An)), (An.lst ([] : List An)), (An.dic [] []), (An.int (1000000000000000000000000000000 : Int)), (An.int r28.1), (An.int (r28.1 + (1 : Int)))] r13.1).bind fun a155 =>
  (catLM ((cutL x_tree.1 none (some r28.1)).map An.int) ([a155] : List An)).bind fun l180 =>
  (catLM l180 ((cutL x_tree.1 (some (r28.1 + (1 : Int))) none).map An.int)).bind fun l197 =>
  (catM (cutL x_tree.2 none (some r28.1)) [c50]).bind fun t209 =>
  (catM t209 (cutL x_tree.2 (some (r28.1 + (1 : Int))) none)).bind fun t210 =>
  (catM (cutL x_tree.2 none (some r28.1)) [c62]).bind fun t211 =>
  (catM t211 (cutL x_tree.2 (some (r28.1 + (1 : Int))) none)).bind fun t212 =>
  (snocM [((tdP2 (tdT tdI) tdS).d (x_tree.1, t210)), ((tdP2 (tdT tdI) tdS).d (x_tree.1, t210)), ((tdP2 (tdT tdA) tdS).d (l197, x_tree.2)), ((tdP2 (tdT tdA) tdS).d (l197, x_tree.2))] ((tdP2 (tdT tdI) tdS).d (x_tree.1, t212))).bind fun l267 =>
  (catLM x_tree.1 ([r28.1] : List Int)).bind fun l286 =>
  (catM x_tree.2 [c50]).bind fun t295 =>
  (snocM l267 ((tdP2 (tdT tdI) tdS).d (l286, t295))).bind fun l304 =>
  (catLM x_tree.1 ([(0 : Int)] : List Int)).bind fun l323 =>
  (catM x_tree.2 [c50]).bind fun t332 =>
  (snocM l304 ((tdP2 (tdT tdI) tdS).d (l323, t332))).bind fun l341 =>
  (catLM x_tree.1 ([((x_tree.1.length : Int) - (1 : Int))] : List Int)).bind fun l360 =>
  (catM x_tree.2 [c50]).bind fun t369 =>
  (snocM l341 ((tdP2 (tdT tdI) tdS).d (l360, t369))).bind fun l378 =>
  (catLM l378 ([((cutL x_tree.1 none (some (-1 : Int))), (cutL x_tree.2 none (some (-1 : Int)))), ((cutL x_tree.1 none (some (-1 : Int))), x_tree.2), (x_tree.1, (cutL x_tree.2 none (some (-1 : Int))))].map (tdP2 (tdT tdI) tdS).d)).bind fun l442 =>
  (catLM l442 [((tdP2 (tdL tdI) tdS).d (x_tree.1, x_tree.2)), ((tdP2 (tdT tdI) (tdL tdS)).d (x_tree.1, (signs x_tree.2))), (An.lst [((tdT tdI).d x_tree.1), (An.str x_tree.2)])]).bind fun l505 =>
  (catLM l505 [((tdP3 (tdT tdI) tdS (tdT tdA)).d (x_tree.1, x_tree.2, ([] : List An))), ((tdT (tdT tdI)).d ([x_tree.1] : List (List Int))), ((tdP2 tdS (tdT tdI)).d (x_tree.2, x_tree.1)), ((tdP2 (tdT tdI) tdN).d (x_tree.1, ()))]).bind fun l568 =>
  (catM x_tree.2 [c62]).bind fun t576 =>
  (catLM l568 [((tdP2 (tdT tdI) tdS).d (x_tree.1, t576)), ((tdP2 (tdT tdA) tdS).d (([] : List An), ([] : Sg)))]).bind fun l613 =>
  (atI l613 r2.1).bind fun a620 =>
  some (a620, r51.2)
def sp__law_bent (K : PySem.W.Frag) : Sp := fun vs H Q _ => ∃ (F : Hp) (p_pool : Addr) (vs_pool : List V) (x_pool : List Int) (v_tree : V) (x_tree : (List Int × Sg)) (r : (An × List Int)), vs = [.ref p_pool, v_tree] ∧ Sub F H ∧ F p_pool = none ∧ H p_pool = some (.lst vs_pool) ∧ Al eI F vs_pool x_pool ∧ (eP2 (eT eI) eS).r F v_tree x_tree ∧ m__law_bent x_pool x_tree = some r ∧ ∀ (v : V) (F' H' : Hp) (us_pool : List V), Gr [p_pool] F H F' H' → H' p_pool = some (.lst us_pool) → Al eI F' us_pool r.2 → eA.r F' v r.1 → Q v H'
theorem sc__law_bent : FnScope ["pool", "tree", "way", "pick", "at", "letter", "sign", "odd", "bent", "turned", "signed", "some", "ups", "labels"] ["pool", "tree"] (defScope s__law_bent) := ⟨rfl, rfl, rfl, by decide +kernel, rfl, by decide +kernel, by decide +kernel⟩
theorem ok__law_bent {f : Addr} {fd : FuncData} (F : FnP K "_law_bent" s__law_bent f fd) (H__law_take : HasG P w K mg base "_law_take" ["pool", "many"] 1 (sp__law_take K)) (b_len : mg "len" = none) (b_list : mg "list" = none) : FnG P w K mg base CX0 2 f fd ["pool", "tree"] (sp__law_bent K) := by
  obtain ⟨f__law_take, fd__law_take, G0__law_take, g__law_take, k__law_take, b__law_take⟩ := H__law_take
  have G__law_take := G0__law_take.mono (show 1 ≤ 1 by decide)
  refine FnDok F sc__law_bent (fun vs H Q E h => ?_) (fun cdv A outer s H0 vs Q E gd hr h => ?_)
  · obtain ⟨_, _, _, _, _, _, _, rfl, _⟩ := h
    rfl
  · obtain ⟨F0, p_pool, vs_pool, x_pool, v_tree, x_tree, r0, rfl, hs0, fr_pool, hp_pool, al_pool, r_tree, hm, hk⟩ := h
    have g0 : Gr [p_pool] F0 H0 F0 H0 := Gr.refl hs0
    have m1 : Mu [p_pool] H0 F0 H0 p_pool (.lst vs_pool) := ⟨fr_pool, hp_pool, .inr (by simp)⟩
    refine ⟨_, PSs.nox (pss_cons (ps_set (i := 2) sc__law_bent.nd rfl (by first | exact Or.inl rfl | exact Or.inr rfl) (pe_callG G__law_take gd hr (by rfl) g__law_take k__law_take b__law_take pass0 (pa_cons (pv 0) (pa_cons pe_int pa_nil))))
(pss_cons (ps_set (i := 3) sc__law_bent.nd rfl (by first | exact Or.inl rfl | exact Or.inr rfl) (pe_callG G__law_take gd hr (by rfl) g__law_take k__law_take b__law_take pass0 (pa_cons (pv 0) (pa_cons pe_int pa_nil))))
(pss_cons (ps_asg (pv 1) (c_pgtup (K := K) rfl (by rfl) (pgs_cons (pg_name (i := 12) sc__law_bent.nd rfl (by first | exact Or.inl rfl | exact Or.inr rfl)) (pgs_cons (pg_name (i := 13) sc__law_bent.nd rfl (by first | exact Or.inl rfl | exact Or.inr rfl)) pgs_nil))))
(pss_cons (ps_set (i := 4) sc__law_bent.nd rfl (by first | exact Or.inl rfl | exact Or.inr rfl) (pe_callG G__law_take gd hr (by rfl) g__law_take k__law_take b__law_take pass0 (pa_cons (pv 0) (pa_cons (pe_callB c_lenS (by rfl) b_len bo_len (pa_cons (pv 13) pa_nil)) pa_nil))))
(pss_cons (ps_set (i := 5) sc__law_bent.nd rfl (by first | exact Or.inl rfl | exact Or.inr rfl) (pe_ix ix_str pe_str (pe_callG G__law_take gd hr (by rfl) g__law_take k__law_take b__law_take pass0 (pa_cons (pv 0) (pa_cons pe_int pa_nil))) (fun _ _ => rfl)))
(pss_cons (ps_set (i := 6) sc__law_bent.nd rfl (by first | exact Or.inl rfl | exact Or.inr rfl) (pe_ix ix_str pe_str (pe_callG G__law_take gd hr (by rfl) g__law_take k__law_take b__law_take pass0 (pa_cons (pv 0) (pa_cons pe_int pa_nil))) (fun _ _ => rfl)))
(pss_cons (ps_set (i := 7) sc__law_bent.nd rfl (by first | exact Or.inl rfl | exact Or.inr rfl) (pe_ix (c_ixL (K := K) rfl) (pe_lst (pa_cons pe_non (pa_cons pe_bl (pa_cons pe_bl (pa_cons (pe_un un_neg pe_int) (pa_cons (pe_un un_neg pe_int) (pa_cons pe_str (pa_cons (pe_tup pa_nil) (pa_cons (pe_lst pa_nil) (pa_cons (pe_freeze pe_dnewK) (pa_cons (pe_op op_pow pe_int pe_int) (pa_cons (pv 4) (pa_cons (pe_op op_add (pv 4) pe_int) pa_nil))))))))))))) (pv 3) (fun _ _ => rfl)))
(pss_cons (ps_set (i := 8) sc__law_bent.nd rfl (by first | exact Or.inl rfl | exact Or.inr rfl) (pe_op (c_catA (K := K) rfl) (pe_op (c_catA (K := K) rfl) (pe_slice (c_slT (K := K) rfl) (pv 12) po_none (po_some (pv 4))) (pe_tup (pa_cons (pv 7) pa_nil))) (pe_slice (c_slT (K := K) rfl) (pv 12) (po_some (pe_op op_add (pv 4) pe_int)) po_none)))
(pss_cons (ps_set (i := 9) sc__law_bent.nd rfl (by first | exact Or.inl rfl | exact Or.inr rfl) (pe_op c_catS (pe_op c_catS (pe_slice sl_str (pv 13) po_none (po_some (pv 4))) (pv 5)) (pe_slice sl_str (pv 13) (po_some (pe_op op_add (pv 4) pe_int)) po_none)))
(pss_cons (ps_set (i := 10) sc__law_bent.nd rfl (by first | exact Or.inl rfl | exact Or.inr rfl) (pe_op c_catS (pe_op c_catS (pe_slice sl_str (pv 13) po_none (po_some (pv 4))) (pv 6)) (pe_slice sl_str (pv 13) (po_some (pe_op op_add (pv 4) pe_int)) po_none)))
(pss_cons (ps_set (i := 11) sc__law_bent.nd rfl (by first | exact Or.inl rfl | exact Or.inr rfl) (pe_lst (pa_cons (pe_tup (pa_cons (pv 12) (pa_cons (pv 9) pa_nil))) (pa_cons (pe_tup (pa_cons (pv 12) (pa_cons (pv 9) pa_nil))) (pa_cons (pe_tup (pa_cons (pv 8) (pa_cons (pv 13) pa_nil))) (pa_cons (pe_tup (pa_cons (pv 8) (pa_cons (pv 13) pa_nil))) pa_nil))))))
(pss_cons (ps_expr (c_bm (K := K) rfl PySem.F.plainAttrs_list PySem.F.slot_list_append PySem.F.type_list_append mt_append (pv 11) (pa_cons (pe_tup (pa_cons (pv 12) (pa_cons (pv 10) pa_nil))) pa_nil)))
(pss_cons (ps_expr (c_bm (K := K) rfl PySem.F.plainAttrs_list PySem.F.slot_list_append PySem.F.type_list_append mt_append (pv 11) (pa_cons (pe_tup (pa_cons (pe_op (c_catA (K := K) rfl) (pv 12) (pe_tup (pa_cons (pv 4) pa_nil))) (pa_cons (pe_op c_catS (pv 13) (pv 5)) pa_nil))) pa_nil)))
(pss_cons (ps_expr (c_bm (K := K) rfl PySem.F.plainAttrs_list PySem.F.slot_list_append PySem.F.type_list_append mt_append (pv 11) (pa_cons (pe_tup (pa_cons (pe_op (c_catA (K := K) rfl) (pv 12) (pe_tup (pa_cons pe_int pa_nil))) (pa_cons (pe_op c_catS (pv 13) (pv 5)) pa_nil))) pa_nil)))
(pss_cons (ps_expr (c_bm (K := K) rfl PySem.F.plainAttrs_list PySem.F.slot_list_append PySem.F.type_list_append mt_append (pv 11) (pa_cons (pe_tup (pa_cons (pe_op (c_catA (K := K) rfl) (pv 12) (pe_tup (pa_cons (pe_op op_sub (pe_callB (c_len (K := K) rfl) (by rfl) b_len bo_len (pa_cons (pv 12) pa_nil)) pe_int) pa_nil))) (pa_cons (pe_op c_catS (pv 13) (pv 5)) pa_nil))) pa_nil)))
(pss_cons (ps_expr (c_bm (K := K) rfl PySem.F.plainAttrs_list PySem.F.slot_list_extend PySem.F.type_list_extend mt_extend (pv 11) (pa_cons (pe_lst (pa_cons (pe_tup (pa_cons (pe_slice (c_slT (K := K) rfl) (pv 12) po_none (po_some (pe_un un_neg pe_int))) (pa_cons (pe_slice sl_str (pv 13) po_none (po_some (pe_un un_neg pe_int))) pa_nil))) (pa_cons (pe_tup (pa_cons (pe_slice (c_slT (K := K) rfl) (pv 12) po_none (po_some (pe_un un_neg pe_int))) (pa_cons (pv 13) pa_nil))) (pa_cons (pe_tup (pa_cons (pv 12) (pa_cons (pe_slice sl_str (pv 13) po_none (po_some (pe_un un_neg pe_int))) pa_nil))) pa_nil)))) pa_nil)))
(pss_cons (ps_expr (c_bm (K := K) rfl PySem.F.plainAttrs_list PySem.F.slot_list_extend PySem.F.type_list_extend mt_extend (pv 11) (pa_cons (pe_lst (pa_cons (pe_tup (pa_cons (pe_callTy (c_list (K := K) rfl) (by rfl) b_list bo_list (pa_cons (pv 12) pa_nil)) (pa_cons (pv 13) pa_nil))) (pa_cons (pe_tup (pa_cons (pv 12) (pa_cons (pe_callTy (c_listS (by rfl)) (by rfl) b_list bo_list (pa_cons (pv 13) pa_nil)) pa_nil))) (pa_cons (pe_lst (pa_cons (pv 12) (pa_cons (pv 13) pa_nil))) pa_nil)))) pa_nil)))
(pss_cons (ps_expr (c_bm (K := K) rfl PySem.F.plainAttrs_list PySem.F.slot_list_extend PySem.F.type_list_extend mt_extend (pv 11) (pa_cons (pe_lst (pa_cons (pe_tup (pa_cons (pv 12) (pa_cons (pv 13) (pa_cons (pe_tup pa_nil) pa_nil)))) (pa_cons (pe_tup (pa_cons (pv 12) pa_nil)) (pa_cons (pe_tup (pa_cons (pv 13) (pa_cons (pv 12) pa_nil))) (pa_cons (pe_tup (pa_cons (pv 12) (pa_cons pe_non pa_nil))) pa_nil))))) pa_nil)))
(pss_cons (ps_expr (c_bm (K := K) rfl PySem.F.plainAttrs_list PySem.F.slot_list_extend PySem.F.type_list_extend mt_extend (pv 11) (pa_cons (pe_lst (pa_cons (pe_tup (pa_cons (pv 12) (pa_cons (pe_op c_catS (pv 13) (pv 6)) pa_nil))) (pa_cons (pe_tup (pa_cons (pe_tup pa_nil) (pa_cons pe_str pa_nil))) pa_nil))) pa_nil)))
(pss_one (ps_ret (pe_ix (c_ixL (K := K) rfl) (pv 11) (pv 2) (fun _ _ => rfl))))))))))))))))))))))), ?_⟩
    refine n_seq ?_
    refine n_asg ?_
    refine n_call ?_
    refine n_cons ?_
    refine n_var rfl ?_
    refine n_cons ?_
    refine n_c ?_
    refine n_nil ?_
    obtain ⟨r2, hr2, hm⟩ := bnd hm
    refine ⟨F0, p_pool, vs_pool, x_pool, .int (20 : Int), (20 : Int), r2, rfl, g0.fh, m1.fr, m1.hp, al_pool, rfl, hr2, fun v9 F3 H4 vs6 d5 hp7 al8 r10 => ?_⟩
    have g11 := g0.trans d5 (fun a ha => (List.mem_cons.mp ha).elim (fun e => e ▸ m1.own) (fun ha => absurd ha (by simp)))
    have m12 := m1.back d5 hp7
    have er10 : v9 = V.int r2.1 := r10
    subst er10
    refine n_name (setS (setS set0)) ?_
    refine n_seq ?_
    refine n_asg ?_
    refine n_call ?_
    refine n_cons ?_
    refine n_var rfl ?_
    refine n_cons ?_
    refine n_c ?_
    refine n_nil ?_
    obtain ⟨r13, hr13, hm⟩ := bnd hm
    refine ⟨F3, p_pool, vs6, r2.2, .int (12 : Int), (12 : Int), r13, rfl, g11.fh, m12.fr, m12.hp, al8, rfl, hr13, fun v20 F14 H15 vs17 d16 hp18 al19 r21 => ?_⟩
    have g22 := g11.trans d16 (fun a ha => (List.mem_cons.mp ha).elim (fun e => e ▸ m12.own) (fun ha => absurd ha (by simp)))
    have m23 := m12.back d16 hp18
    have er21 : v20 = V.int r13.1 := r21
    subst er21
    refine n_name (setS (setS (setS set0))) ?_
    refine n_seq ?_
    refine n_asg ?_
    refine n_var rfl ?_
    refine v_unp2 g22.fh (Rp.mono (eP2 (eT eI) eS) (Sub.trans d5.ff d16.ff) r_tree) fun v24 v26 r25 r27 => ?_
    obtain ⟨er27, lr27⟩ : v26 = V.str (S x_tree.2) ∧ x_tree.2.length ≤ sizeLine := r27
    subst er27
    refine n_gcons ?_
    refine n_name (setS (setS (setS (setS (setS (setS (setS (setS (setS (setS (setS (setS set0)))))))))))) ?_
    refine n_gcons ?_
    refine n_name (setS (setS (setS (setS (setS (setS (setS (setS (setS (setS (setS (setS (setS set0))))))))))))) ?_
    refine n_gnil ?_
    refine n_seq ?_
    refine n_asg ?_
    refine n_call ?_
    refine n_cons ?_
    refine n_var rfl ?_
    refine n_cons ?_
    refine n_cb ?_
    refine n_cons ?_
    refine n_var rfl ?_
    refine n_nil ?_
    refine v_lenS lr27 ?_
    refine n_nil ?_
    obtain ⟨r28, hr28, hm⟩ := bnd hm
    refine ⟨F14, p_pool, vs17, r13.2, .int (x_tree.2.length : Int), (x_tree.2.length : Int), r28, rfl, g22.fh, m23.fr, m23.hp, al19, rfl, hr28, fun v35 F29 H30 vs32 d31 hp33 al34 r36 => ?_⟩
    have g37 := g22.trans d31 (fun a ha => (List.mem_cons.mp ha).elim (fun e => e ▸ m23.own) (fun ha => absurd ha (by simp)))
    have m38 := m23.back d31 hp33
    have er36 : v35 = V.int r28.1 := r36
    subst er36
    refine n_name (setS (setS (setS (setS set0)))) ?_
    refine n_seq ?_
    refine n_asg ?_
    refine n_op ?_
    refine n_str (s := [97, 98, 99, 100, 101, 102, 103, 104, 105, 106, 107, 108, 109, 110, 111, 112, 113, 114, 115, 116, 117, 118, 119, 120, 121, 122]) (by decide +kernel) ?_
    refine n_call ?_
    refine n_cons ?_
    refine n_var rfl ?_
    refine n_cons ?_
    refine n_c ?_
    refine n_nil ?_
    obtain ⟨r39, hr39, hm⟩ := bnd hm
    refine ⟨F29, p_pool, vs32, r28.2, .int (26 : Int), (26 : Int), r39, rfl, g37.fh, m38.fr, m38.hp, al34, rfl, hr39, fun v46 F40 H41 vs43 d42 hp44 al45 r47 => ?_⟩
    have g48 := g37.trans d42 (fun a ha => (List.mem_cons.mp ha).elim (fun e => e ▸ m38.own) (fun ha => absurd ha (by simp)))
    have m49 := m38.back d42 hp44
    have er47 : v46 = V.int r39.1 := r47
    subst er47
    obtain ⟨c50, hc50, hm⟩ := bnd hm
    refine v_ixS (sz_ok (n := 26) rfl) hc50 ?_
    refine n_name (setS (setS (setS (setS (setS set0))))) ?_
    refine n_seq ?_
    refine n_asg ?_
    refine n_op ?_
    refine n_str (s := [65, 66, 90, 32, 48, 57, 123, 96, 95, 45, 126, 63]) (by decide +kernel) ?_
    refine n_call ?_
    refine n_cons ?_
    refine n_var rfl ?_
    refine n_cons ?_
    refine n_c ?_
    refine n_nil ?_
    obtain ⟨r51, hr51, hm⟩ := bnd hm
    refine ⟨F40, p_pool, vs43, r39.2, .int (12 : Int), (12 : Int), r51, rfl, g48.fh, m49.fr, m49.hp, al45, rfl, hr51, fun v58 F52 H53 vs55 d54 hp56 al57 r59 => ?_⟩
    have g60 := g48.trans d54 (fun a ha => (List.mem_cons.mp ha).elim (fun e => e ▸ m49.own) (fun ha => absurd ha (by simp)))
    have m61 := m49.back d54 hp56
    have er59 : v58 = V.int r51.1 := r59
    subst er59
    obtain ⟨c62, hc62, hm⟩ := bnd hm
    refine v_ixS (sz_ok (n := 12) rfl) hc62 ?_
    refine n_name (setS (setS (setS (setS (setS (setS set0)))))) ?_
    refine n_seq ?_
    refine n_asg ?_
    refine n_op ?_
    refine n_lst ?_
    refine n_cons ?_
    refine n_c ?_
    refine n_cons ?_
    refine n_c ?_
    refine n_cons ?_
    refine n_c ?_
    refine n_cons ?_
    refine n_un ?_
    refine n_c ?_
    refine v_neg ?_
    refine n_cons ?_
    refine n_un ?_
    refine n_c ?_
    refine v_neg ?_
    refine n_cons ?_
    refine n_str (s := [48]) (by decide +kernel) ?_
    refine n_cons ?_
    refine n_tup ?_
    refine n_nil ?_
    refine v_mkT (t := eA) (xs := []) g60.fh .nil rfl fun p110 F111 H112 d113 q114 al115 => ?_
    have g116 := g60.trans0 d113
    have m117 := m61.call0 d113
    refine n_cons ?_
    refine n_lst ?_
    refine n_nil ?_
    refine v_mkLF (t := eA) (xs := []) g116.fh .nil rfl fun p118 F119 H120 d121 q122 al123 => ?_
    have g124 := g116.trans0 d121
    have m125 := m117.call0 d121
    refine n_cons ?_
    refine n_freeze ?_
    refine n_dnewK ?_
    refine v_dnew (Y := (dyK keS)) g124.fh fun p126 H127 np128 d129 fp130 hp131 => ?_
    have al132 : Pr (dyK keS) eA F119 [] [] := .nil
    have go133 := g124.old np128
    have ne134 := m125.ne np128
    have g135 := g124.trans0 d129
    have m136 := m125.call0 d129
    have m137 : Mu [p_pool] H0 F119 H127 p126 ((dyK keS).ho []) := ⟨fp130, hp131, .inl go133⟩
    refine v_freeze g135 m137 (m137.own.resolve_right (nin1 (Ne.symm ne134))) trivial fun o138 F139 H140 q141 sb142 g143 d144 => ?_
    have m145 := d144 _ _ ne134 m136
    have al146 := Pr.mono al132 sb142
    refine n_cons ?_
    refine n_op ?_
    refine n_c ?_
    refine n_c ?_
    refine v_powK (a := 1000000000000000000000000000000) ⟨by decide, by decide, by decide⟩ (by decide +kernel) ?_
    refine n_cons ?_
    refine n_var rfl ?_
    refine n_cons ?_
    refine n_op ?_
    refine n_var rfl ?_
    refine n_c ?_
    refine v_i2 ?_
    refine n_nil ?_
    refine v_mkLF (t := eA) (xs := [An.non, (An.bl true), (An.bl false), (An.int (-1 : Int)), (An.int (-2 : Int)), (An.str ([48] : Sg)), (An.tup false ([] : List An)), (An.lst ([] : List An)), (An.dic [] []), (An.int (1000000000000000000000000000000 : Int)), (An.int r28.1), (An.int (r28.1 + (1 : Int)))]) g143.fh (.cons (RA.non : RA F139 .non An.non) (.cons (RA.bl true : RA F139 (.bl true) (An.bl true)) (.cons (RA.bl false : RA F139 (.bl false) (An.bl false)) (.cons (RA.int (-1 : Int) : RA F139 (.int (-(1 : Int))) (An.int (-1 : Int))) (.cons (RA.int (-2 : Int) : RA F139 (.int (-(2 : Int))) (An.int (-2 : Int))) (.cons (RA.str (sz_ok (n := 1) rfl) : RA F139 (.str (S ([48] : Sg))) (An.str ([48] : Sg))) (.cons (eTA_A (Rp.mono (eT eA) (Sub.trans d121.ff sb142) (⟨p110, [], rfl, q114, al115⟩ : (eT eA).r F111 (.ref p110) ([] : List An))) : RA F139 (.ref p110) (An.tup false ([] : List An))) (.cons (eLA_A (Rp.mono (eL eA) sb142 (⟨p118, [], rfl, q122, al123⟩ : (eL eA).r F119 (.ref p118) ([] : List An))) : RA F139 (.ref p118) (An.lst ([] : List An))) (.cons (ra_dic0 q141 : RA F139 (.ref p126) (An.dic [] [])) (.cons (RA.int (1000000000000000000000000000000 : Int) : RA F139 (.int (1000000000000000000000000000000 : Int)) (An.int (1000000000000000000000000000000 : Int))) (.cons (RA.int r28.1 : RA F139 (.int r28.1) (An.int r28.1)) (.cons (RA.int (r28.1 + (1 : Int)) : RA F139 (.int (r28.1 + (1 : Int))) (An.int (r28.1 + (1 : Int)))) .nil)))))))))))) rfl fun p147 F148 H149 d150 q151 al152 => ?_
    have g153 := g143.trans0 d150
    have m154 := m145.call0 d150
    refine n_var rfl ?_
    obtain ⟨a155, ha155, hm⟩ := bnd hm
    refine v_ixL (SqL.of (g153.fh _ _ q151)) al152 ha155 fun v156 r157 => ?_
    refine n_name (setS (setS (setS (setS (setS (setS (setS set0))))))) ?_
    refine n_seq ?_
    refine n_asg ?_
    refine n_op ?_
    refine n_op ?_
    refine n_sl ?_
    refine n_var rfl ?_
    refine n_nopart ?_
    refine n_part ?_
    refine n_var rfl ?_
    refine v_part ?_
    obtain ⟨p158, vs159, ep158, q160, al161⟩ := (Rp.mono (eT eI) (Sub.trans d31.ff (Sub.trans d42.ff (Sub.trans d54.ff (Sub.trans d113.ff (Sub.trans d121.ff (Sub.trans sb142 d150.ff)))))) r25)
    subst ep158
    refine v_slT g153.fh q160 al161 fun p162 vs163 F164 H165 d166 q167 al168 => ?_
    have g169 := g153.trans0 d166
    have m170 := m154.call0 d166
    refine n_tup ?_
    refine n_cons ?_
    refine n_var rfl ?_
    refine n_nil ?_
    refine v_mkT (t := eA) (xs := [a155]) g169.fh (.cons (show eA.r F164 v156 a155 from (Rp.mono eA d166.ff r157)) .nil) rfl fun p172 F173 H174 d175 q176 al177 => ?_
    have g178 := g169.trans0 d175
    have m179 := m170.call0 d175
    obtain ⟨l180, hl180, hm⟩ := bnd hm
    refine v_catA g178.fh (d175.ff _ _ q167) (Al.mono (ras_al (td_all tdI al168)) d175.ff) q176 al177 hl180 fun v181 F182 H183 d184 r185 => ?_
    have g186 := g178.trans0 d184
    have m187 := m179.call0 d184
    refine n_sl ?_
    refine n_var rfl ?_
    refine n_part ?_
    refine n_op ?_
    refine n_var rfl ?_
    refine n_c ?_
    refine v_i2 ?_
    refine v_part ?_
    refine n_nopart ?_
    refine v_slT g186.fh ((Sub.trans d166.ff (Sub.trans d175.ff d184.ff)) _ _ q160) (Al.mono al161 (Sub.trans d166.ff (Sub.trans d175.ff d184.ff))) fun p188 vs189 F190 H191 d192 q193 al194 => ?_
    have g195 := g186.trans0 d192
    have m196 := m187.call0 d192
    obtain ⟨l197, hl197, hm⟩ := bnd hm
    obtain ⟨p198, vs199, ep198, q200, al201⟩ := (Rp.mono (eT eA) d192.ff r185)
    subst ep198
    refine v_catA g195.fh q200 al201 q193 (ras_al (td_all tdI al194)) hl197 fun v202 F203 H204 d205 r206 => ?_
    have g207 := g195.trans0 d205
    have m208 := m196.call0 d205
    refine n_name (setS (setS (setS (setS (setS (setS (setS (setS set0)))))))) ?_
    refine n_seq ?_
    refine n_asg ?_
    refine n_op ?_
    refine n_op ?_
    refine n_sl ?_
    refine n_var rfl ?_
    refine n_nopart ?_
    refine n_part ?_
    refine n_var rfl ?_
    refine v_part ?_
    refine v_slS lr27 ?_
    refine n_var rfl ?_
    obtain ⟨t209, ht209, hm⟩ := bnd hm
    refine v_catS ht209 ?_
    refine n_sl ?_
    refine n_var rfl ?_
    refine n_part ?_
    refine n_op ?_
    refine n_var rfl ?_
    refine n_c ?_
    refine v_i2 ?_
    refine v_part ?_
    refine n_nopart ?_
    refine v_slS lr27 ?_
    obtain ⟨t210, ht210, hm⟩ := bnd hm
    refine v_catS ht210 ?_
    refine n_name (setS (setS (setS (setS (setS (setS (setS (setS (setS set0))))))))) ?_
    refine n_seq ?_
    refine n_asg ?_
    refine n_op ?_
    refine n_op ?_
    refine n_sl ?_
    refine n_var rfl ?_
    refine n_nopart ?_
    refine n_part ?_
    refine n_var rfl ?_
    refine v_part ?_
    refine v_slS lr27 ?_
    refine n_var rfl ?_
    obtain ⟨t211, ht211, hm⟩ := bnd hm
    refine v_catS ht211 ?_
    refine n_sl ?_
    refine n_var rfl ?_
    refine n_part ?_
    refine n_op ?_
    refine n_var rfl ?_
    refine n_c ?_
    refine v_i2 ?_
    refine v_part ?_
    refine n_nopart ?_
    refine v_slS lr27 ?_
    obtain ⟨t212, ht212, hm⟩ := bnd hm
    refine v_catS ht212 ?_
    refine n_name (setS (setS (setS (setS (setS (setS (setS (setS (setS (setS set0)))))))))) ?_
    refine n_seq ?_
    refine n_asg ?_
    refine n_lst ?_
    refine n_cons ?_
    refine n_tup ?_
    refine n_cons ?_
    refine n_var rfl ?_
    refine n_cons ?_
    refine n_var rfl ?_
    refine n_nil ?_
    refine v_mk2 g207.fh (show (eT eI).r F203 (.ref p158) x_tree.1 from (Rp.mono (eT eI) (Sub.trans d166.ff (Sub.trans d175.ff (Sub.trans d184.ff (Sub.trans d192.ff d205.ff)))) (⟨p158, vs159, rfl, q160, al161⟩ : (eT eI).r F148 (.ref p158) x_tree.1))) (show eS.r F203 (.str (S t210)) t210 from ⟨rfl, (catM_le ht210)⟩) fun v214 F215 H216 d217 r218 => ?_
    have g219 := g207.trans0 d217
    have m220 := m208.call0 d217
    refine n_cons ?_
    refine n_tup ?_
    refine n_cons ?_
    refine n_var rfl ?_
    refine n_cons ?_
    refine n_var rfl ?_
    refine n_nil ?_
    refine v_mk2 g219.fh (show (eT eI).r F215 (.ref p158) x_tree.1 from (Rp.mono (eT eI) (Sub.trans d166.ff (Sub.trans d175.ff (Sub.trans d184.ff (Sub.trans d192.ff (Sub.trans d205.ff d217.ff))))) (⟨p158, vs159, rfl, q160, al161⟩ : (eT eI).r F148 (.ref p158) x_tree.1))) (show eS.r F215 (.str (S t210)) t210 from ⟨rfl, (catM_le ht210)⟩) fun v222 F223 H224 d225 r226 => ?_
    have g227 := g219.trans0 d225
    have m228 := m220.call0 d225
    refine n_cons ?_
    refine n_tup ?_
    refine n_cons ?_
    refine n_var rfl ?_
    refine n_cons ?_
    refine n_var rfl ?_
    refine n_nil ?_
    refine v_mk2 g227.fh (show (eT eA).r F223 v202 l197 from (Rp.mono (eT eA) (Sub.trans d217.ff d225.ff) r206)) (show eS.r F223 (.str (S x_tree.2)) x_tree.2 from ⟨rfl, lr27⟩) fun v230 F231 H232 d233 r234 => ?_
    have g235 := g227.trans0 d233
    have m236 := m228.call0 d233
    refine n_cons ?_
    refine n_tup ?_
    refine n_cons ?_
    refine n_var rfl ?_
    refine n_cons ?_
    refine n_var rfl ?_
    refine n_nil ?_
    refine v_mk2 g235.fh (show (eT eA).r F231 v202 l197 from (Rp.mono (eT eA) (Sub.trans d217.ff (Sub.trans d225.ff d233.ff)) r206)) (show eS.r F231 (.str (S x_tree.2)) x_tree.2 from ⟨rfl, lr27⟩) fun v238 F239 H240 d241 r242 => ?_
    have g243 := g235.trans0 d241
    have m244 := m236.call0 d241
    refine n_nil ?_
    have al252 : Al eA F239 [v214, v222, v230, v238] [((tdP2 (tdT tdI) tdS).d (x_tree.1, t210)), ((tdP2 (tdT tdI) tdS).d (x_tree.1, t210)), ((tdP2 (tdT tdA) tdS).d (l197, x_tree.2)), ((tdP2 (tdT tdA) tdS).d (l197, x_tree.2))] := (.cons ((tdP2 (tdT tdI) tdS).ok (show (eP2 (eT eI) eS).r F239 v214 (x_tree.1, t210) from (Rp.mono (eP2 (eT eI) eS) (Sub.trans d225.ff (Sub.trans d233.ff d241.ff)) r218)) : RA F239 v214 ((tdP2 (tdT tdI) tdS).d (x_tree.1, t210))) (.cons ((tdP2 (tdT tdI) tdS).ok (show (eP2 (eT eI) eS).r F239 v222 (x_tree.1, t210) from (Rp.mono (eP2 (eT eI) eS) (Sub.trans d233.ff d241.ff) r226)) : RA F239 v222 ((tdP2 (tdT tdI) tdS).d (x_tree.1, t210))) (.cons ((tdP2 (tdT tdA) tdS).ok (show (eP2 (eT eA) eS).r F239 v230 (l197, x_tree.2) from (Rp.mono (eP2 (eT eA) eS) d241.ff r234)) : RA F239 v230 ((tdP2 (tdT tdA) tdS).d (l197, x_tree.2))) (.cons ((tdP2 (tdT tdA) tdS).ok (show (eP2 (eT eA) eS).r F239 v238 (l197, x_tree.2) from r242) : RA F239 v238 ((tdP2 (tdT tdA) tdS).d (l197, x_tree.2))) .nil))))
    refine v_mkLM g243.fh rfl fun p245 H246 np247 d248 fp249 hp250 => ?_
    have go253 := g243.old np247
    have ne254 := m244.ne np247
    have g255 := g243.trans0 d248
    have m256 := m244.call0 d248
    have m257 : Mu [p_pool] H0 F239 H246 p245 (.lst [v214, v222, v230, v238]) := ⟨fp249, hp250, .inl go253⟩
    refine n_name (setS (setS (setS (setS (setS (setS (setS (setS (setS (setS (setS set0))))))))))) ?_
    refine n_seq ?_
    refine n_drop ?_
    refine n_bm ?_
    refine n_var rfl ?_
    refine ⟨tyL m257.l, ?_⟩
    refine n_cons ?_
    refine n_tup ?_
    refine n_cons ?_
    refine n_var rfl ?_
    refine n_cons ?_
    refine n_var rfl ?_
    refine n_nil ?_
    refine v_mk2 g255.fh (show (eT eI).r F239 (.ref p158) x_tree.1 from (Rp.mono (eT eI) (Sub.trans d166.ff (Sub.trans d175.ff (Sub.trans d184.ff (Sub.trans d192.ff (Sub.trans d205.ff (Sub.trans d217.ff (Sub.trans d225.ff (Sub.trans d233.ff d241.ff)))))))) (⟨p158, vs159, rfl, q160, al161⟩ : (eT eI).r F148 (.ref p158) x_tree.1))) (show eS.r F239 (.str (S t212)) t212 from ⟨rfl, (catM_le ht212)⟩) fun v259 F260 H261 d262 r263 => ?_
    have g264 := g255.trans0 d262
    have m265 := m256.call0 d262
    have m266 := m257.call0 d262
    refine n_nil ?_
    obtain ⟨l267, hl267, hm⟩ := bnd hm
    obtain ⟨vs271, H268, g272, al270, evs271, eH268⟩ := app_ok g264 m266 (Al.mono al252 d262.ff) hl267 (show eA.r F260 v259 ((tdP2 (tdT tdI) tdS).d (x_tree.1, t212)) from ((tdP2 (tdT tdI) tdS).ok (show (eP2 (eT eI) eS).r F260 v259 (x_tree.1, t212) from r263) : RA F260 v259 ((tdP2 (tdT tdI) tdS).d (x_tree.1, t212))))
    refine v_append m266.hp (snoc_lt (Al.mono al252 d262.ff) hl267) ?_
    rw [← evs271, ← eH268]
    have m273 := mu_oth m265 ne254 eH268
    have m274 := mu_self m266 eH268
    refine n_seq ?_
    refine n_drop ?_
    refine n_bm ?_
    refine n_var rfl ?_
    refine ⟨tyL m274.l, ?_⟩
    refine n_cons ?_
    refine n_tup ?_
    refine n_cons ?_
    refine n_op ?_
    refine n_var rfl ?_
    refine n_tup ?_
    refine n_cons ?_
    refine n_var rfl ?_
    refine n_nil ?_
    refine v_mkT (t := eI) (xs := [r28.1]) g272.fh (.cons (show eI.r F260 (.int r28.1) r28.1 from rfl) .nil) rfl fun p277 F278 H279 d280 q281 al282 => ?_
    have g283 := g272.trans0 d280
    have m284 := m273.call0 d280
    have m285 := m274.call0 d280
    obtain ⟨l286, hl286, hm⟩ := bnd hm
    refine v_catA g283.fh ((Sub.trans d166.ff (Sub.trans d175.ff (Sub.trans d184.ff (Sub.trans d192.ff (Sub.trans d205.ff (Sub.trans d217.ff (Sub.trans d225.ff (Sub.trans d233.ff (Sub.trans d241.ff (Sub.trans d262.ff d280.ff)))))))))) _ _ q160) (Al.mono al161 (Sub.trans d166.ff (Sub.trans d175.ff (Sub.trans d184.ff (Sub.trans d192.ff (Sub.trans d205.ff (Sub.trans d217.ff (Sub.trans d225.ff (Sub.trans d233.ff (Sub.trans d241.ff (Sub.trans d262.ff d280.ff))))))))))) q281 al282 hl286 fun v287 F288 H289 d290 r291 => ?_
    have g292 := g283.trans0 d290
    have m293 := m284.call0 d290
    have m294 := m285.call0 d290
    refine n_cons ?_
    refine n_op ?_
    refine n_var rfl ?_
    refine n_var rfl ?_
    obtain ⟨t295, ht295, hm⟩ := bnd hm
    refine v_catS ht295 ?_
    refine n_nil ?_
    refine v_mk2 g292.fh (show (eT eI).r F288 v287 l286 from r291) (show eS.r F288 (.str (S t295)) t295 from ⟨rfl, (catM_le ht295)⟩) fun v296 F297 H298 d299 r300 => ?_
    have g301 := g292.trans0 d299
    have m302 := m293.call0 d299
    have m303 := m294.call0 d299
    refine n_nil ?_
    obtain ⟨l304, hl304, hm⟩ := bnd hm
    obtain ⟨vs308, H305, g309, al307, evs308, eH305⟩ := app_ok g301 m303 (Al.mono al270 (Sub.trans d280.ff (Sub.trans d290.ff d299.ff))) hl304 (show eA.r F297 v296 ((tdP2 (tdT tdI) tdS).d (l286, t295)) from ((tdP2 (tdT tdI) tdS).ok (show (eP2 (eT eI) eS).r F297 v296 (l286, t295) from r300) : RA F297 v296 ((tdP2 (tdT tdI) tdS).d (l286, t295))))
    refine v_append m303.hp (snoc_lt (Al.mono al270 (Sub.trans d280.ff (Sub.trans d290.ff d299.ff))) hl304) ?_
    rw [← evs308, ← eH305]
    have m310 := mu_oth m302 ne254 eH305
    have m311 := mu_self m303 eH305
    refine n_seq ?_
    refine n_drop ?_
    refine n_bm ?_
    refine n_var rfl ?_
    refine ⟨tyL m311.l, ?_⟩
    refine n_cons ?_
    refine n_tup ?_
    refine n_cons ?_
    refine n_op ?_
    refine n_var rfl ?_
    refine n_tup ?_
    refine n_cons ?_
    refine n_c ?_
    refine n_nil ?_
    refine v_mkT (t := eI) (xs := [(0 : Int)]) g309.fh (.cons (show eI.r F297 (.int (0 : Int)) (0 : Int) from rfl) .nil) rfl fun p314 F315 H316 d317 q318 al319 => ?_
    have g320 := g309.trans0 d317
    have m321 := m310.call0 d317
    have m322 := m311.call0 d317
    obtain ⟨l323, hl323, hm⟩ := bnd hm
    refine v_catA g320.fh ((Sub.trans d166.ff (Sub.trans d175.ff (Sub.trans d184.ff (Sub.trans d192.ff (Sub.trans d205.ff (Sub.trans d217.ff (Sub.trans d225.ff (Sub.trans d233.ff (Sub.trans d241.ff (Sub.trans d262.ff (Sub.trans d280.ff (Sub.trans d290.ff (Sub.trans d299.ff d317.ff))))))))))))) _ _ q160) (Al.mono al161 (Sub.trans d166.ff (Sub.trans d175.ff (Sub.trans d184.ff (Sub.trans d192.ff (Sub.trans d205.ff (Sub.trans d217.ff (Sub.trans d225.ff (Sub.trans d233.ff (Sub.trans d241.ff (Sub.trans d262.ff (Sub.trans d280.ff (Sub.trans d290.ff (Sub.trans d299.ff d317.ff)))))))))))))) q318 al319 hl323 fun v324 F325 H326 d327 r328 => ?_
    have g329 := g320.trans0 d327
    have m330 := m321.call0 d327
    have m331 := m322.call0 d327
    refine n_cons ?_
    refine n_op ?_
    refine n_var rfl ?_
    refine n_var rfl ?_
    obtain ⟨t332, ht332, hm⟩ := bnd hm
    refine v_catS ht332 ?_
    refine n_nil ?_
    refine v_mk2 g329.fh (show (eT eI).r F325 v324 l323 from r328) (show eS.r F325 (.str (S t332)) t332 from ⟨rfl, (catM_le ht332)⟩) fun v333 F334 H335 d336 r337 => ?_
    have g338 := g329.trans0 d336
    have m339 := m330.call0 d336
    have m340 := m331.call0 d336
    refine n_nil ?_
    obtain ⟨l341, hl341, hm⟩ := bnd hm
    obtain ⟨vs345, H342, g346, al344, evs345, eH342⟩ := app_ok g338 m340 (Al.mono al307 (Sub.trans d317.ff (Sub.trans d327.ff d336.ff))) hl341 (show eA.r F334 v333 ((tdP2 (tdT tdI) tdS).d (l323, t332)) from ((tdP2 (tdT tdI) tdS).ok (show (eP2 (eT eI) eS).r F334 v333 (l323, t332) from r337) : RA F334 v333 ((tdP2 (tdT tdI) tdS).d (l323, t332))))
    refine v_append m340.hp (snoc_lt (Al.mono al307 (Sub.trans d317.ff (Sub.trans d327.ff d336.ff))) hl341) ?_
    rw [← evs345, ← eH342]
    have m347 := mu_oth m339 ne254 eH342
    have m348 := mu_self m340 eH342
    refine n_seq ?_
    refine n_drop ?_
    refine n_bm ?_
    refine n_var rfl ?_
    refine ⟨tyL m348.l, ?_⟩
    refine n_cons ?_
    refine n_tup ?_
    refine n_cons ?_
    refine n_op ?_
    refine n_var rfl ?_
    refine n_tup ?_
    refine n_cons ?_
    refine n_op ?_
    refine n_cb ?_
    refine n_cons ?_
    refine n_var rfl ?_
    refine n_nil ?_
    refine v_len (.inr (SqT.of (g346.fh _ _ ((Sub.trans d166.ff (Sub.trans d175.ff (Sub.trans d184.ff (Sub.trans d192.ff (Sub.trans d205.ff (Sub.trans d217.ff (Sub.trans d225.ff (Sub.trans d233.ff (Sub.trans d241.ff (Sub.trans d262.ff (Sub.trans d280.ff (Sub.trans d290.ff (Sub.trans d299.ff (Sub.trans d317.ff (Sub.trans d327.ff d336.ff))))))))))))))) _ _ q160)))) (Al.mono al161 (Sub.trans d166.ff (Sub.trans d175.ff (Sub.trans d184.ff (Sub.trans d192.ff (Sub.trans d205.ff (Sub.trans d217.ff (Sub.trans d225.ff (Sub.trans d233.ff (Sub.trans d241.ff (Sub.trans d262.ff (Sub.trans d280.ff (Sub.trans d290.ff (Sub.trans d299.ff (Sub.trans d317.ff (Sub.trans d327.ff d336.ff)))))))))))))))) ?_
    refine n_c ?_
    refine v_i2 ?_
    refine n_nil ?_
    refine v_mkT (t := eI) (xs := [((x_tree.1.length : Int) - (1 : Int))]) g346.fh (.cons (show eI.r F334 (.int ((x_tree.1.length : Int) - (1 : Int))) ((x_tree.1.length : Int) - (1 : Int)) from rfl) .nil) rfl fun p351 F352 H353 d354 q355 al356 => ?_
    have g357 := g346.trans0 d354
    have m358 := m347.call0 d354
    have m359 := m348.call0 d354
    obtain ⟨l360, hl360, hm⟩ := bnd hm
    refine v_catA g357.fh ((Sub.trans d166.ff (Sub.trans d175.ff (Sub.trans d184.ff (Sub.trans d192.ff (Sub.trans d205.ff (Sub.trans d217.ff (Sub.trans d225.ff (Sub.trans d233.ff (Sub.trans d241.ff (Sub.trans d262.ff (Sub.trans d280.ff (Sub.trans d290.ff (Sub.trans d299.ff (Sub.trans d317.ff (Sub.trans d327.ff (Sub.trans d336.ff d354.ff)))))))))))))))) _ _ q160) (Al.mono al161 (Sub.trans d166.ff (Sub.trans d175.ff (Sub.trans d184.ff (Sub.trans d192.ff (Sub.trans d205.ff (Sub.trans d217.ff (Sub.trans d225.ff (Sub.trans d233.ff (Sub.trans d241.ff (Sub.trans d262.ff (Sub.trans d280.ff (Sub.trans d290.ff (Sub.trans d299.ff (Sub.trans d317.ff (Sub.trans d327.ff (Sub.trans d336.ff d354.ff))))))))))))))))) q355 al356 hl360 fun v361 F362 H363 d364 r365 => ?_
    have g366 := g357.trans0 d364
    have m367 := m358.call0 d364
    have m368 := m359.call0 d364
    refine n_cons ?_
    refine n_op ?_
    refine n_var rfl ?_
    refine n_var rfl ?_
    obtain ⟨t369, ht369, hm⟩ := bnd hm
    refine v_catS ht369 ?_
    refine n_nil ?_
    refine v_mk2 g366.fh (show (eT eI).r F362 v361 l360 from r365) (show eS.r F362 (.str (S t369)) t369 from ⟨rfl, (catM_le ht369)⟩) fun v370 F371 H372 d373 r374 => ?_
    have g375 := g366.trans0 d373
    have m376 := m367.call0 d373
    have m377 := m368.call0 d373
    refine n_nil ?_
    obtain ⟨l378, hl378, hm⟩ := bnd hm
    obtain ⟨vs382, H379, g383, al381, evs382, eH379⟩ := app_ok g375 m377 (Al.mono al344 (Sub.trans d354.ff (Sub.trans d364.ff d373.ff))) hl378 (show eA.r F371 v370 ((tdP2 (tdT tdI) tdS).d (l360, t369)) from ((tdP2 (tdT tdI) tdS).ok (show (eP2 (eT eI) eS).r F371 v370 (l360, t369) from r374) : RA F371 v370 ((tdP2 (tdT tdI) tdS).d (l360, t369))))
    refine v_append m377.hp (snoc_lt (Al.mono al344 (Sub.trans d354.ff (Sub.trans d364.ff d373.ff))) hl378) ?_
    rw [← evs382, ← eH379]
    have m384 := mu_oth m376 ne254 eH379
    have m385 := mu_self m377 eH379
    refine n_seq ?_
    refine n_drop ?_
    refine n_bm ?_
    refine n_var rfl ?_
    refine ⟨tyL m385.l, ?_⟩
    refine n_cons ?_
    refine n_lst ?_
    refine n_cons ?_
    refine n_tup ?_
    refine n_cons ?_
    refine n_sl ?_
    refine n_var rfl ?_
    refine n_nopart ?_
    refine n_part ?_
    refine n_un ?_
    refine n_c ?_
    refine v_neg ?_
    refine v_part ?_
    refine v_slT g383.fh ((Sub.trans d166.ff (Sub.trans d175.ff (Sub.trans d184.ff (Sub.trans d192.ff (Sub.trans d205.ff (Sub.trans d217.ff (Sub.trans d225.ff (Sub.trans d233.ff (Sub.trans d241.ff (Sub.trans d262.ff (Sub.trans d280.ff (Sub.trans d290.ff (Sub.trans d299.ff (Sub.trans d317.ff (Sub.trans d327.ff (Sub.trans d336.ff (Sub.trans d354.ff (Sub.trans d364.ff d373.ff)))))))))))))))))) _ _ q160) (Al.mono al161 (Sub.trans d166.ff (Sub.trans d175.ff (Sub.trans d184.ff (Sub.trans d192.ff (Sub.trans d205.ff (Sub.trans d217.ff (Sub.trans d225.ff (Sub.trans d233.ff (Sub.trans d241.ff (Sub.trans d262.ff (Sub.trans d280.ff (Sub.trans d290.ff (Sub.trans d299.ff (Sub.trans d317.ff (Sub.trans d327.ff (Sub.trans d336.ff (Sub.trans d354.ff (Sub.trans d364.ff d373.ff))))))))))))))))))) fun p387 vs388 F389 H390 d391 q392 al393 => ?_
    have g394 := g383.trans0 d391
    have m395 := m384.call0 d391
    have m396 := m385.call0 d391
    refine n_cons ?_
    refine n_sl ?_
    refine n_var rfl ?_
    refine n_nopart ?_
    refine n_part ?_
    refine n_un ?_
    refine n_c ?_
    refine v_neg ?_
    refine v_part ?_
    refine v_slS lr27 ?_
    refine n_nil ?_
    refine v_mk2 g394.fh (show (eT eI).r F389 (.ref p387) (cutL x_tree.1 none (some (-1 : Int))) from (⟨p387, vs388, rfl, q392, al393⟩ : (eT eI).r F389 (.ref p387) (cutL x_tree.1 none (some (-1 : Int))))) (show eS.r F389 (.str (S (cutL x_tree.2 none (some (-1 : Int))))) (cutL x_tree.2 none (some (-1 : Int))) from ⟨rfl, (cut_le lr27)⟩) fun v397 F398 H399 d400 r401 => ?_
    have g402 := g394.trans0 d400
    have m403 := m395.call0 d400
    have m404 := m396.call0 d400
    refine n_cons ?_
    refine n_tup ?_
    refine n_cons ?_
    refine n_sl ?_
    refine n_var rfl ?_
    refine n_nopart ?_
    refine n_part ?_
    refine n_un ?_
    refine n_c ?_
    refine v_neg ?_
    refine v_part ?_
    refine v_slT g402.fh ((Sub.trans d166.ff (Sub.trans d175.ff (Sub.trans d184.ff (Sub.trans d192.ff (Sub.trans d205.ff (Sub.trans d217.ff (Sub.trans d225.ff (Sub.trans d233.ff (Sub.trans d241.ff (Sub.trans d262.ff (Sub.trans d280.ff (Sub.trans d290.ff (Sub.trans d299.ff (Sub.trans d317.ff (Sub.trans d327.ff (Sub.trans d336.ff (Sub.trans d354.ff (Sub.trans d364.ff (Sub.trans d373.ff (Sub.trans d391.ff d400.ff)))))))))))))))))))) _ _ q160) (Al.mono al161 (Sub.trans d166.ff (Sub.trans d175.ff (Sub.trans d184.ff (Sub.trans d192.ff (Sub.trans d205.ff (Sub.trans d217.ff (Sub.trans d225.ff (Sub.trans d233.ff (Sub.trans d241.ff (Sub.trans d262.ff (Sub.trans d280.ff (Sub.trans d290.ff (Sub.trans d299.ff (Sub.trans d317.ff (Sub.trans d327.ff (Sub.trans d336.ff (Sub.trans d354.ff (Sub.trans d364.ff (Sub.trans d373.ff (Sub.trans d391.ff d400.ff))))))))))))))))))))) fun p406 vs407 F408 H409 d410 q411 al412 => ?_
    have g413 := g402.trans0 d410
    have m414 := m403.call0 d410
    have m415 := m404.call0 d410
    refine n_cons ?_
    refine n_var rfl ?_
    refine n_nil ?_
    refine v_mk2 g413.fh (show (eT eI).r F408 (.ref p406) (cutL x_tree.1 none (some (-1 : Int))) from (⟨p406, vs407, rfl, q411, al412⟩ : (eT eI).r F408 (.ref p406) (cutL x_tree.1 none (some (-1 : Int))))) (show eS.r F408 (.str (S x_tree.2)) x_tree.2 from ⟨rfl, lr27⟩) fun v416 F417 H418 d419 r420 => ?_
    have g421 := g413.trans0 d419
    have m422 := m414.call0 d419
    have m423 := m415.call0 d419
    refine n_cons ?_
    refine n_tup ?_
    refine n_cons ?_
    refine n_var rfl ?_
    refine n_cons ?_
    refine n_sl ?_
    refine n_var rfl ?_
    refine n_nopart ?_
    refine n_part ?_
    refine n_un ?_
    refine n_c ?_
    refine v_neg ?_
    refine v_part ?_
    refine v_slS lr27 ?_
    refine n_nil ?_
    refine v_mk2 g421.fh (show (eT eI).r F417 (.ref p158) x_tree.1 from (Rp.mono (eT eI) (Sub.trans d166.ff (Sub.trans d175.ff (Sub.trans d184.ff (Sub.trans d192.ff (Sub.trans d205.ff (Sub.trans d217.ff (Sub.trans d225.ff (Sub.trans d233.ff (Sub.trans d241.ff (Sub.trans d262.ff (Sub.trans d280.ff (Sub.trans d290.ff (Sub.trans d299.ff (Sub.trans d317.ff (Sub.trans d327.ff (Sub.trans d336.ff (Sub.trans d354.ff (Sub.trans d364.ff (Sub.trans d373.ff (Sub.trans d391.ff (Sub.trans d400.ff (Sub.trans d410.ff d419.ff)))))))))))))))))))))) (⟨p158, vs159, rfl, q160, al161⟩ : (eT eI).r F148 (.ref p158) x_tree.1))) (show eS.r F417 (.str (S (cutL x_tree.2 none (some (-1 : Int))))) (cutL x_tree.2 none (some (-1 : Int))) from ⟨rfl, (cut_le lr27)⟩) fun v425 F426 H427 d428 r429 => ?_
    have g430 := g421.trans0 d428
    have m431 := m422.call0 d428
    have m432 := m423.call0 d428
    refine n_nil ?_
    refine v_mkLF (t := (eP2 (eT eI) eS)) (xs := [((cutL x_tree.1 none (some (-1 : Int))), (cutL x_tree.2 none (some (-1 : Int)))), ((cutL x_tree.1 none (some (-1 : Int))), x_tree.2), (x_tree.1, (cutL x_tree.2 none (some (-1 : Int))))]) g430.fh (.cons (Rp.mono (eP2 (eT eI) eS) (Sub.trans d410.ff (Sub.trans d419.ff d428.ff)) r401) (.cons (Rp.mono (eP2 (eT eI) eS) d428.ff r420) (.cons r429 .nil))) rfl fun p433 F434 H435 d436 q437 al438 => ?_
    have g439 := g430.trans0 d436
    have m440 := m431.call0 d436
    have m441 := m432.call0 d436
    refine n_nil ?_
    obtain ⟨l442, hl442, hm⟩ := bnd hm
    obtain ⟨vs445, H443, g446, al444, evs445, eH443⟩ := ext_ok g439 m441 (Al.mono al381 (Sub.trans d391.ff (Sub.trans d400.ff (Sub.trans d410.ff (Sub.trans d419.ff (Sub.trans d428.ff d436.ff)))))) (ras_al (td_all (tdP2 (tdT tdI) tdS) al438)) hl442
    refine v_extend m441.hp (g439.fh _ _ q437) (cat_le (Al.mono al381 (Sub.trans d391.ff (Sub.trans d400.ff (Sub.trans d410.ff (Sub.trans d419.ff (Sub.trans d428.ff d436.ff)))))) (ras_al (td_all (tdP2 (tdT tdI) tdS) al438)) hl442) ?_
    rw [← evs445, ← eH443]
    have m447 := mu_oth m440 ne254 eH443
    have m448 := mu_self m441 eH443
    refine n_seq ?_
    refine n_drop ?_
    refine n_bm ?_
    refine n_var rfl ?_
    refine ⟨tyL m448.l, ?_⟩
    refine n_cons ?_
    refine n_lst ?_
    refine n_cons ?_
    refine n_tup ?_
    refine n_cons ?_
    refine n_cb ?_
    refine n_cons ?_
    refine n_var rfl ?_
    refine n_nil ?_
    refine v_listF g446.fh (.inr (SqT.of (g446.fh _ _ ((Sub.trans d166.ff (Sub.trans d175.ff (Sub.trans d184.ff (Sub.trans d192.ff (Sub.trans d205.ff (Sub.trans d217.ff (Sub.trans d225.ff (Sub.trans d233.ff (Sub.trans d241.ff (Sub.trans d262.ff (Sub.trans d280.ff (Sub.trans d290.ff (Sub.trans d299.ff (Sub.trans d317.ff (Sub.trans d327.ff (Sub.trans d336.ff (Sub.trans d354.ff (Sub.trans d364.ff (Sub.trans d373.ff (Sub.trans d391.ff (Sub.trans d400.ff (Sub.trans d410.ff (Sub.trans d419.ff (Sub.trans d428.ff d436.ff)))))))))))))))))))))))) _ _ q160)))) (Al.mono al161 (Sub.trans d166.ff (Sub.trans d175.ff (Sub.trans d184.ff (Sub.trans d192.ff (Sub.trans d205.ff (Sub.trans d217.ff (Sub.trans d225.ff (Sub.trans d233.ff (Sub.trans d241.ff (Sub.trans d262.ff (Sub.trans d280.ff (Sub.trans d290.ff (Sub.trans d299.ff (Sub.trans d317.ff (Sub.trans d327.ff (Sub.trans d336.ff (Sub.trans d354.ff (Sub.trans d364.ff (Sub.trans d373.ff (Sub.trans d391.ff (Sub.trans d400.ff (Sub.trans d410.ff (Sub.trans d419.ff (Sub.trans d428.ff d436.ff))))))))))))))))))))))))) fun p450 vs451 F453 H454 d455 q456 al452 => ?_
    have g457 := g446.trans0 d455
    have m458 := m447.call0 d455
    have m459 := m448.call0 d455
    refine n_cons ?_
    refine n_var rfl ?_
    refine n_nil ?_
    refine v_mk2 g457.fh (show (eL eI).r F453 (.ref p450) x_tree.1 from (⟨p450, vs451, rfl, q456, al452⟩ : (eL eI).r F453 (.ref p450) x_tree.1)) (show eS.r F453 (.str (S x_tree.2)) x_tree.2 from ⟨rfl, lr27⟩) fun v460 F461 H462 d463 r464 => ?_
    have g465 := g457.trans0 d463
    have m466 := m458.call0 d463
    have m467 := m459.call0 d463
    refine n_cons ?_
    refine n_tup ?_
    refine n_cons ?_
    refine n_var rfl ?_
    refine n_cons ?_
    refine n_cb ?_
    refine n_cons ?_
    refine n_var rfl ?_
    refine n_nil ?_
    refine v_listSF g465.fh lr27 fun p469 vs470 F471 H472 d473 q474 al475 => ?_
    have g476 := g465.trans0 d473
    have m477 := m466.call0 d473
    have m478 := m467.call0 d473
    refine n_nil ?_
    refine v_mk2 g476.fh (show (eT eI).r F471 (.ref p158) x_tree.1 from (Rp.mono (eT eI) (Sub.trans d166.ff (Sub.trans d175.ff (Sub.trans d184.ff (Sub.trans d192.ff (Sub.trans d205.ff (Sub.trans d217.ff (Sub.trans d225.ff (Sub.trans d233.ff (Sub.trans d241.ff (Sub.trans d262.ff (Sub.trans d280.ff (Sub.trans d290.ff (Sub.trans d299.ff (Sub.trans d317.ff (Sub.trans d327.ff (Sub.trans d336.ff (Sub.trans d354.ff (Sub.trans d364.ff (Sub.trans d373.ff (Sub.trans d391.ff (Sub.trans d400.ff (Sub.trans d410.ff (Sub.trans d419.ff (Sub.trans d428.ff (Sub.trans d436.ff (Sub.trans d455.ff (Sub.trans d463.ff d473.ff))))))))))))))))))))))))))) (⟨p158, vs159, rfl, q160, al161⟩ : (eT eI).r F148 (.ref p158) x_tree.1))) (show (eL eS).r F471 (.ref p469) (signs x_tree.2) from (⟨p469, vs470, rfl, q474, al475⟩ : (eL eS).r F471 (.ref p469) (signs x_tree.2))) fun v479 F480 H481 d482 r483 => ?_
    have g484 := g476.trans0 d482
    have m485 := m477.call0 d482
    have m486 := m478.call0 d482
    refine n_cons ?_
    refine n_lst ?_
    refine n_cons ?_
    refine n_var rfl ?_
    refine n_cons ?_
    refine n_var rfl ?_
    refine n_nil ?_
    refine v_mkLF (t := eA) (xs := [((tdT tdI).d x_tree.1), (An.str x_tree.2)]) g484.fh (.cons ((tdT tdI).ok (show (eT eI).r F480 (.ref p158) x_tree.1 from (Rp.mono (eT eI) (Sub.trans d166.ff (Sub.trans d175.ff (Sub.trans d184.ff (Sub.trans d192.ff (Sub.trans d205.ff (Sub.trans d217.ff (Sub.trans d225.ff (Sub.trans d233.ff (Sub.trans d241.ff (Sub.trans d262.ff (Sub.trans d280.ff (Sub.trans d290.ff (Sub.trans d299.ff (Sub.trans d317.ff (Sub.trans d327.ff (Sub.trans d336.ff (Sub.trans d354.ff (Sub.trans d364.ff (Sub.trans d373.ff (Sub.trans d391.ff (Sub.trans d400.ff (Sub.trans d410.ff (Sub.trans d419.ff (Sub.trans d428.ff (Sub.trans d436.ff (Sub.trans d455.ff (Sub.trans d463.ff (Sub.trans d473.ff d482.ff)))))))))))))))))))))))))))) (⟨p158, vs159, rfl, q160, al161⟩ : (eT eI).r F148 (.ref p158) x_tree.1))) : RA F480 (.ref p158) ((tdT tdI).d x_tree.1)) (.cons (RA.str lr27 : RA F480 (.str (S x_tree.2)) (An.str x_tree.2)) .nil)) rfl fun p487 F488 H489 d490 q491 al492 => ?_
    have g493 := g484.trans0 d490
    have m494 := m485.call0 d490
    have m495 := m486.call0 d490
    refine n_nil ?_
    refine v_mkLF (t := eA) (xs := [((tdP2 (tdL tdI) tdS).d (x_tree.1, x_tree.2)), ((tdP2 (tdT tdI) (tdL tdS)).d (x_tree.1, (signs x_tree.2))), (An.lst [((tdT tdI).d x_tree.1), (An.str x_tree.2)])]) g493.fh (.cons ((tdP2 (tdL tdI) tdS).ok (show (eP2 (eL eI) eS).r F488 v460 (x_tree.1, x_tree.2) from (Rp.mono (eP2 (eL eI) eS) (Sub.trans d473.ff (Sub.trans d482.ff d490.ff)) r464)) : RA F488 v460 ((tdP2 (tdL tdI) tdS).d (x_tree.1, x_tree.2))) (.cons ((tdP2 (tdT tdI) (tdL tdS)).ok (show (eP2 (eT eI) (eL eS)).r F488 v479 (x_tree.1, (signs x_tree.2)) from (Rp.mono (eP2 (eT eI) (eL eS)) d490.ff r483)) : RA F488 v479 ((tdP2 (tdT tdI) (tdL tdS)).d (x_tree.1, (signs x_tree.2)))) (.cons (eLA_A (⟨p487, [(.ref p158), .str (S x_tree.2)], rfl, q491, al492⟩ : (eL eA).r F488 (.ref p487) [((tdT tdI).d x_tree.1), (An.str x_tree.2)]) : RA F488 (.ref p487) (An.lst [((tdT tdI).d x_tree.1), (An.str x_tree.2)])) .nil))) rfl fun p496 F497 H498 d499 q500 al501 => ?_
    have g502 := g493.trans0 d499
    have m503 := m494.call0 d499
    have m504 := m495.call0 d499
    refine n_nil ?_
    obtain ⟨l505, hl505, hm⟩ := bnd hm
    obtain ⟨vs508, H506, g509, al507, evs508, eH506⟩ := ext_ok g502 m504 (Al.mono al444 (Sub.trans d455.ff (Sub.trans d463.ff (Sub.trans d473.ff (Sub.trans d482.ff (Sub.trans d490.ff d499.ff)))))) al501 hl505
    refine v_extend m504.hp (g502.fh _ _ q500) (cat_le (Al.mono al444 (Sub.trans d455.ff (Sub.trans d463.ff (Sub.trans d473.ff (Sub.trans d482.ff (Sub.trans d490.ff d499.ff)))))) al501 hl505) ?_
    rw [← evs508, ← eH506]
    have m510 := mu_oth m503 ne254 eH506
    have m511 := mu_self m504 eH506
    refine n_seq ?_
    refine n_drop ?_
    refine n_bm ?_
    refine n_var rfl ?_
    refine ⟨tyL m511.l, ?_⟩
    refine n_cons ?_
    refine n_lst ?_
    refine n_cons ?_
    refine n_tup ?_
    refine n_cons ?_
    refine n_var rfl ?_
    refine n_cons ?_
    refine n_var rfl ?_
    refine n_cons ?_
    refine n_tup ?_
    refine n_nil ?_
    refine v_mkT (t := eA) (xs := []) g509.fh .nil rfl fun p514 F515 H516 d517 q518 al519 => ?_
    have g520 := g509.trans0 d517
    have m521 := m510.call0 d517
    have m522 := m511.call0 d517
    refine n_nil ?_
    refine v_mk3 g520.fh (show (eT eI).r F515 (.ref p158) x_tree.1 from (Rp.mono (eT eI) (Sub.trans d166.ff (Sub.trans d175.ff (Sub.trans d184.ff (Sub.trans d192.ff (Sub.trans d205.ff (Sub.trans d217.ff (Sub.trans d225.ff (Sub.trans d233.ff (Sub.trans d241.ff (Sub.trans d262.ff (Sub.trans d280.ff (Sub.trans d290.ff (Sub.trans d299.ff (Sub.trans d317.ff (Sub.trans d327.ff (Sub.trans d336.ff (Sub.trans d354.ff (Sub.trans d364.ff (Sub.trans d373.ff (Sub.trans d391.ff (Sub.trans d400.ff (Sub.trans d410.ff (Sub.trans d419.ff (Sub.trans d428.ff (Sub.trans d436.ff (Sub.trans d455.ff (Sub.trans d463.ff (Sub.trans d473.ff (Sub.trans d482.ff (Sub.trans d490.ff (Sub.trans d499.ff d517.ff))))))))))))))))))))))))))))))) (⟨p158, vs159, rfl, q160, al161⟩ : (eT eI).r F148 (.ref p158) x_tree.1))) (show eS.r F515 (.str (S x_tree.2)) x_tree.2 from ⟨rfl, lr27⟩) (show (eT eA).r F515 (.ref p514) ([] : List An) from (⟨p514, [], rfl, q518, al519⟩ : (eT eA).r F515 (.ref p514) ([] : List An))) fun v523 F524 H525 d526 r527 => ?_
    have g528 := g520.trans0 d526
    have m529 := m521.call0 d526
    have m530 := m522.call0 d526
    refine n_cons ?_
    refine n_tup ?_
    refine n_cons ?_
    refine n_var rfl ?_
    refine n_nil ?_
    refine v_mkT (t := (eT eI)) (xs := [x_tree.1]) g528.fh (.cons (show (eT eI).r F524 (.ref p158) x_tree.1 from (Rp.mono (eT eI) (Sub.trans d166.ff (Sub.trans d175.ff (Sub.trans d184.ff (Sub.trans d192.ff (Sub.trans d205.ff (Sub.trans d217.ff (Sub.trans d225.ff (Sub.trans d233.ff (Sub.trans d241.ff (Sub.trans d262.ff (Sub.trans d280.ff (Sub.trans d290.ff (Sub.trans d299.ff (Sub.trans d317.ff (Sub.trans d327.ff (Sub.trans d336.ff (Sub.trans d354.ff (Sub.trans d364.ff (Sub.trans d373.ff (Sub.trans d391.ff (Sub.trans d400.ff (Sub.trans d410.ff (Sub.trans d419.ff (Sub.trans d428.ff (Sub.trans d436.ff (Sub.trans d455.ff (Sub.trans d463.ff (Sub.trans d473.ff (Sub.trans d482.ff (Sub.trans d490.ff (Sub.trans d499.ff (Sub.trans d517.ff d526.ff)))))))))))))))))))))))))))))))) (⟨p158, vs159, rfl, q160, al161⟩ : (eT eI).r F148 (.ref p158) x_tree.1))) .nil) rfl fun p532 F533 H534 d535 q536 al537 => ?_
    have g538 := g528.trans0 d535
    have m539 := m529.call0 d535
    have m540 := m530.call0 d535
    refine n_cons ?_
    refine n_tup ?_
    refine n_cons ?_
    refine n_var rfl ?_
    refine n_cons ?_
    refine n_var rfl ?_
    refine n_nil ?_
    refine v_mk2 g538.fh (show eS.r F533 (.str (S x_tree.2)) x_tree.2 from ⟨rfl, lr27⟩) (show (eT eI).r F533 (.ref p158) x_tree.1 from (Rp.mono (eT eI) (Sub.trans d166.ff (Sub.trans d175.ff (Sub.trans d184.ff (Sub.trans d192.ff (Sub.trans d205.ff (Sub.trans d217.ff (Sub.trans d225.ff (Sub.trans d233.ff (Sub.trans d241.ff (Sub.trans d262.ff (Sub.trans d280.ff (Sub.trans d290.ff (Sub.trans d299.ff (Sub.trans d317.ff (Sub.trans d327.ff (Sub.trans d336.ff (Sub.trans d354.ff (Sub.trans d364.ff (Sub.trans d373.ff (Sub.trans d391.ff (Sub.trans d400.ff (Sub.trans d410.ff (Sub.trans d419.ff (Sub.trans d428.ff (Sub.trans d436.ff (Sub.trans d455.ff (Sub.trans d463.ff (Sub.trans d473.ff (Sub.trans d482.ff (Sub.trans d490.ff (Sub.trans d499.ff (Sub.trans d517.ff (Sub.trans d526.ff d535.ff))))))))))))))))))))))))))))))))) (⟨p158, vs159, rfl, q160, al161⟩ : (eT eI).r F148 (.ref p158) x_tree.1))) fun v542 F543 H544 d545 r546 => ?_
    have g547 := g538.trans0 d545
    have m548 := m539.call0 d545
    have m549 := m540.call0 d545
    refine n_cons ?_
    refine n_tup ?_
    refine n_cons ?_
    refine n_var rfl ?_
    refine n_cons ?_
    refine n_c ?_
    refine n_nil ?_
    refine v_mk2 g547.fh (show (eT eI).r F543 (.ref p158) x_tree.1 from (Rp.mono (eT eI) (Sub.trans d166.ff (Sub.trans d175.ff (Sub.trans d184.ff (Sub.trans d192.ff (Sub.trans d205.ff (Sub.trans d217.ff (Sub.trans d225.ff (Sub.trans d233.ff (Sub.trans d241.ff (Sub.trans d262.ff (Sub.trans d280.ff (Sub.trans d290.ff (Sub.trans d299.ff (Sub.trans d317.ff (Sub.trans d327.ff (Sub.trans d336.ff (Sub.trans d354.ff (Sub.trans d364.ff (Sub.trans d373.ff (Sub.trans d391.ff (Sub.trans d400.ff (Sub.trans d410.ff (Sub.trans d419.ff (Sub.trans d428.ff (Sub.trans d436.ff (Sub.trans d455.ff (Sub.trans d463.ff (Sub.trans d473.ff (Sub.trans d482.ff (Sub.trans d490.ff (Sub.trans d499.ff (Sub.trans d517.ff (Sub.trans d526.ff (Sub.trans d535.ff d545.ff)))))))))))))))))))))))))))))))))) (⟨p158, vs159, rfl, q160, al161⟩ : (eT eI).r F148 (.ref p158) x_tree.1))) (show eN.r F543 .non () from rfl) fun v551 F552 H553 d554 r555 => ?_
    have g556 := g547.trans0 d554
    have m557 := m548.call0 d554
    have m558 := m549.call0 d554
    refine n_nil ?_
    refine v_mkLF (t := eA) (xs := [((tdP3 (tdT tdI) tdS (tdT tdA)).d (x_tree.1, x_tree.2, ([] : List An))), ((tdT (tdT tdI)).d ([x_tree.1] : List (List Int))), ((tdP2 tdS (tdT tdI)).d (x_tree.2, x_tree.1)), ((tdP2 (tdT tdI) tdN).d (x_tree.1, ()))]) g556.fh (.cons ((tdP3 (tdT tdI) tdS (tdT tdA)).ok (show (eP3 (eT eI) eS (eT eA)).r F552 v523 (x_tree.1, x_tree.2, ([] : List An)) from (Rp.mono (eP3 (eT eI) eS (eT eA)) (Sub.trans d535.ff (Sub.trans d545.ff d554.ff)) r527)) : RA F552 v523 ((tdP3 (tdT tdI) tdS (tdT tdA)).d (x_tree.1, x_tree.2, ([] : List An)))) (.cons ((tdT (tdT tdI)).ok (show (eT (eT eI)).r F552 (.ref p532) ([x_tree.1] : List (List Int)) from (Rp.mono (eT (eT eI)) (Sub.trans d545.ff d554.ff) (⟨p532, [(.ref p158)], rfl, q536, al537⟩ : (eT (eT eI)).r F533 (.ref p532) ([x_tree.1] : List (List Int))))) : RA F552 (.ref p532) ((tdT (tdT tdI)).d ([x_tree.1] : List (List Int)))) (.cons ((tdP2 tdS (tdT tdI)).ok (show (eP2 eS (eT eI)).r F552 v542 (x_tree.2, x_tree.1) from (Rp.mono (eP2 eS (eT eI)) d554.ff r546)) : RA F552 v542 ((tdP2 tdS (tdT tdI)).d (x_tree.2, x_tree.1))) (.cons ((tdP2 (tdT tdI) tdN).ok (show (eP2 (eT eI) eN).r F552 v551 (x_tree.1, ()) from r555) : RA F552 v551 ((tdP2 (tdT tdI) tdN).d (x_tree.1, ()))) .nil)))) rfl fun p559 F560 H561 d562 q563 al564 => ?_
    have g565 := g556.trans0 d562
    have m566 := m557.call0 d562
    have m567 := m558.call0 d562
    refine n_nil ?_
    obtain ⟨l568, hl568, hm⟩ := bnd hm
    obtain ⟨vs571, H569, g572, al570, evs571, eH569⟩ := ext_ok g565 m567 (Al.mono al507 (Sub.trans d517.ff (Sub.trans d526.ff (Sub.trans d535.ff (Sub.trans d545.ff (Sub.trans d554.ff d562.ff)))))) al564 hl568
    refine v_extend m567.hp (g565.fh _ _ q563) (cat_le (Al.mono al507 (Sub.trans d517.ff (Sub.trans d526.ff (Sub.trans d535.ff (Sub.trans d545.ff (Sub.trans d554.ff d562.ff)))))) al564 hl568) ?_
    rw [← evs571, ← eH569]
    have m573 := mu_oth m566 ne254 eH569
    have m574 := mu_self m567 eH569
    refine n_seq ?_
    refine n_drop ?_
    refine n_bm ?_
    refine n_var rfl ?_
    refine ⟨tyL m574.l, ?_⟩
    refine n_cons ?_
    refine n_lst ?_
    refine n_cons ?_
    refine n_tup ?_
    refine n_cons ?_
    refine n_var rfl ?_
    refine n_cons ?_
    refine n_op ?_
    refine n_var rfl ?_
    refine n_var rfl ?_
    obtain ⟨t576, ht576, hm⟩ := bnd hm
    refine v_catS ht576 ?_
    refine n_nil ?_
    refine v_mk2 g572.fh (show (eT eI).r F560 (.ref p158) x_tree.1 from (Rp.mono (eT eI) (Sub.trans d166.ff (Sub.trans d175.ff (Sub.trans d184.ff (Sub.trans d192.ff (Sub.trans d205.ff (Sub.trans d217.ff (Sub.trans d225.ff (Sub.trans d233.ff (Sub.trans d241.ff (Sub.trans d262.ff (Sub.trans d280.ff (Sub.trans d290.ff (Sub.trans d299.ff (Sub.trans d317.ff (Sub.trans d327.ff (Sub.trans d336.ff (Sub.trans d354.ff (Sub.trans d364.ff (Sub.trans d373.ff (Sub.trans d391.ff (Sub.trans d400.ff (Sub.trans d410.ff (Sub.trans d419.ff (Sub.trans d428.ff (Sub.trans d436.ff (Sub.trans d455.ff (Sub.trans d463.ff (Sub.trans d473.ff (Sub.trans d482.ff (Sub.trans d490.ff (Sub.trans d499.ff (Sub.trans d517.ff (Sub.trans d526.ff (Sub.trans d535.ff (Sub.trans d545.ff (Sub.trans d554.ff d562.ff)))))))))))))))))))))))))))))))))))) (⟨p158, vs159, rfl, q160, al161⟩ : (eT eI).r F148 (.ref p158) x_tree.1))) (show eS.r F560 (.str (S t576)) t576 from ⟨rfl, (catM_le ht576)⟩) fun v577 F578 H579 d580 r581 => ?_
    have g582 := g572.trans0 d580
    have m583 := m573.call0 d580
    have m584 := m574.call0 d580
    refine n_cons ?_
    refine n_tup ?_
    refine n_cons ?_
    refine n_tup ?_
    refine n_nil ?_
    refine v_mkT (t := eA) (xs := []) g582.fh .nil rfl fun p587 F588 H589 d590 q591 al592 => ?_
    have g593 := g582.trans0 d590
    have m594 := m583.call0 d590
    have m595 := m584.call0 d590
    refine n_cons ?_
    refine n_str (s := []) (by decide +kernel) ?_
    refine n_nil ?_
    refine v_mk2 g593.fh (show (eT eA).r F588 (.ref p587) ([] : List An) from (⟨p587, [], rfl, q591, al592⟩ : (eT eA).r F588 (.ref p587) ([] : List An))) (show eS.r F588 (.str (S ([] : Sg))) ([] : Sg) from ⟨rfl, (sz_ok (n := 0) rfl)⟩) fun v596 F597 H598 d599 r600 => ?_
    have g601 := g593.trans0 d599
    have m602 := m594.call0 d599
    have m603 := m595.call0 d599
    refine n_nil ?_
    refine v_mkLF (t := eA) (xs := [((tdP2 (tdT tdI) tdS).d (x_tree.1, t576)), ((tdP2 (tdT tdA) tdS).d (([] : List An), ([] : Sg)))]) g601.fh (.cons ((tdP2 (tdT tdI) tdS).ok (show (eP2 (eT eI) eS).r F597 v577 (x_tree.1, t576) from (Rp.mono (eP2 (eT eI) eS) (Sub.trans d590.ff d599.ff) r581)) : RA F597 v577 ((tdP2 (tdT tdI) tdS).d (x_tree.1, t576))) (.cons ((tdP2 (tdT tdA) tdS).ok (show (eP2 (eT eA) eS).r F597 v596 (([] : List An), ([] : Sg)) from r600) : RA F597 v596 ((tdP2 (tdT tdA) tdS).d (([] : List An), ([] : Sg)))) .nil)) rfl fun p604 F605 H606 d607 q608 al609 => ?_
    have g610 := g601.trans0 d607
    have m611 := m602.call0 d607
    have m612 := m603.call0 d607
    refine n_nil ?_
    obtain ⟨l613, hl613, hm⟩ := bnd hm
    obtain ⟨vs616, H614, g617, al615, evs616, eH614⟩ := ext_ok g610 m612 (Al.mono al570 (Sub.trans d580.ff (Sub.trans d590.ff (Sub.trans d599.ff d607.ff)))) al609 hl613
    refine v_extend m612.hp (g610.fh _ _ q608) (cat_le (Al.mono al570 (Sub.trans d580.ff (Sub.trans d590.ff (Sub.trans d599.ff d607.ff)))) al609 hl613) ?_
    rw [← evs616, ← eH614]
    have m618 := mu_oth m611 ne254 eH614
    have m619 := mu_self m612 eH614
    refine n_ret ?_
    refine n_op ?_
    refine n_var rfl ?_
    refine n_var rfl ?_
    obtain ⟨a620, ha620, hm⟩ := bnd hm
    refine v_ixL m619.l al615 ha620 fun v621 r622 => ?_
    obtain rfl := Option.some.inj hm
    exact hk _ _ _ _ g617 m618.hp (Al.mono al57 (Sub.trans d113.ff (Sub.trans d121.ff (Sub.trans sb142 (Sub.trans d150.ff (Sub.trans d166.ff (Sub.trans d175.ff (Sub.trans d184.ff (Sub.trans d192.ff (Sub.trans d205.ff (Sub.trans d217.ff (Sub.trans d225.ff (Sub.trans d233.ff (Sub.trans d241.ff (Sub.trans d262.ff (Sub.trans d280.ff (Sub.trans d290.ff (Sub.trans d299.ff (Sub.trans d317.ff (Sub.trans d327.ff (Sub.trans d336.ff (Sub.trans d354.ff (Sub.trans d364.ff (Sub.trans d373.ff (Sub.trans d391.ff (Sub.trans d400.ff (Sub.trans d410.ff (Sub.trans d419.ff (Sub.trans d428.ff (Sub.trans d436.ff (Sub.trans d455.ff (Sub.trans d463.ff (Sub.trans d473.ff (Sub.trans d482.ff (Sub.trans d490.ff (Sub.trans d499.ff (Sub.trans d517.ff (Sub.trans d526.ff (Sub.trans d535.ff (Sub.trans d545.ff (Sub.trans d554.ff (Sub.trans d562.ff (Sub.trans d580.ff (Sub.trans d590.ff (Sub.trans d599.ff d607.ff))))))))))))))))))))))))))))))))))))))))))))) r622

def m__law_right (x_thing : An) : Option Bool :=
  (reprM x_thing.pd).bind fun t1 =>
  (m_is_trie x_thing).bind fun r2 =>
  (if true = true then
  (m__law_due x_thing).bind fun r12 =>
  (if (decide (r2 = r12)) = true then
  (reprM x_thing.pd).bind fun t22 =>
  some (decide (t22 = t1))
  else
  some false).bind fun c20 =>
  some c20
  else
  some false).bind fun c10 =>
  some c10
def sp__law_right (K : PySem.W.Frag) : Sp := fun vs H Q _ => ∃ (F : Hp) (v_thing : V) (x_thing : An) (r : Bool), vs = [v_thing] ∧ Sub F H ∧ eA.r F v_thing x_thing ∧ m__law_right x_thing = some r ∧ ∀ (v : V) (F' H' : Hp) , Gr [] F H F' H' → eB.r F' v r → Q v H'
theorem sc__law_right : FnScope ["thing", "kept", "found"] ["thing"] (defScope s__law_right) := ⟨rfl, rfl, rfl, by decide +kernel, rfl, by decide +kernel, by decide +kernel⟩
theorem ok__law_right {f : Addr} {fd : FuncData} (F : FnP K "_law_right" s__law_right f fd) (H_is_trie : HasG P w K mg base "is_trie" ["thing"] 4 (sp_is_trie K)) (H__law_due : HasG P w K mg base "_law_due" ["thing"] 2 (sp__law_due K)) (b_repr : mg "repr" = none) (b_isinstance : mg "isinstance" = none) (b_bool : mg "bool" = none) (hS : SysK K) : FnG P w K mg base CX0 5 f fd ["thing"] (sp__law_right K) := by
  obtain ⟨f_is_trie, fd_is_trie, G0_is_trie, g_is_trie, k_is_trie, b_is_trie⟩ := H_is_trie
  have G_is_trie := G0_is_trie.mono (show 4 ≤ 4 by decide)
  obtain ⟨f__law_due, fd__law_due, G0__law_due, g__law_due, k__law_due, b__law_due⟩ := H__law_due
  have G__law_due := G0__law_due.mono (show 2 ≤ 4 by decide)
  refine FnDok F sc__law_right (fun vs H Q E h => ?_) (fun cdv A outer s H0 vs Q E gd hr h => ?_)
  · obtain ⟨_, _, _, _, rfl, _⟩ := h
    rfl
  · obtain ⟨F0, v_thing, x_thing, r0, rfl, hs0, r_thing, hm, hk⟩ := h
    have g0 : Gr [] F0 H0 F0 H0 := Gr.refl hs0
    refine ⟨_, PSs.nox (pss_cons (ps_set (i := 1) sc__law_right.nd rfl (by first | exact Or.inl rfl | exact Or.inr rfl) (pe_callB (c_reprA hS gd hr) (by rfl) b_repr bo_repr (pa_cons (pv 0) pa_nil)))
(pss_cons (ps_set (i := 2) sc__law_right.nd rfl (by first | exact Or.inl rfl | exact Or.inr rfl) (pe_callG G_is_trie gd hr (by rfl) g_is_trie k_is_trie b_is_trie pass0 (pa_cons (pv 0) pa_nil)))
(pss_one (ps_ret (pe_and (pe_callB (c_isi (K := K) rfl) (by rfl) b_isinstance bo_isinstance (pa_cons (pv 2) (pa_cons (pe_bltn (v := .ty "bool") (by rfl) b_bool bo_bool rfl) pa_nil))) (pe_and (pe_cmpR op_eq (pv 2) (pe_callG G__law_due gd hr (by rfl) g__law_due k__law_due b__law_due pass0 (pa_cons (pv 0) pa_nil)) (nomark _)) (pe_one (pe_cmpR op_eq (pe_callB (c_reprA hS gd hr) (by rfl) b_repr bo_repr (pa_cons (pv 0) pa_nil)) (pv 1) (nomark _))))))))), ?_⟩
    refine n_seq ?_
    refine n_asg ?_
    refine n_cb ?_
    refine n_cons ?_
    refine n_var rfl ?_
    refine n_nil ?_
    obtain ⟨t1, ht1, hm⟩ := bnd hm
    refine v_reprA g0.fh (show eA.r F0 v_thing x_thing from r_thing) ht1 ?_
    refine n_name (setS set0) ?_
    refine n_seq ?_
    refine n_asg ?_
    refine n_call ?_
    refine n_cons ?_
    refine n_var rfl ?_
    refine n_nil ?_
    obtain ⟨r2, hr2, hm⟩ := bnd hm
    refine ⟨F0, v_thing, x_thing, r2, rfl, g0.fh, r_thing, hr2, fun v6 F3 H4 d5 r7 => ?_⟩
    have g8 := g0.trans0 d5
    have er7 : v6 = V.bl r2 := r7
    subst er7
    refine n_name (setS (setS set0)) ?_
    refine n_ret ?_
    refine n_andV ?_
    refine n_cb ?_
    refine n_cons ?_
    refine n_var rfl ?_
    refine n_cons ?_
    refine n_c ?_
    refine n_nil ?_
    refine v_isi (b := true) (.base (.bl _)) (by decide +kernel) ?_
    refine v_bl ?_
    obtain ⟨c10, hc10, hm⟩ := bnd hm
    refine br_andVM (c := c10) (fun H7 => ∃ (F11 : Hp), Gr [] F0 H0 F11 H7 ∧ Sub F3 F11) (fun hb9 Q7 k7 => ?_) (fun hb9 => ?_) ?_
    · have hm := ifT hb9 hc10
      refine n_andV ?_
      refine n_op ?_
      refine n_var rfl ?_
      refine n_call ?_
      refine n_cons ?_
      refine n_var rfl ?_
      refine n_nil ?_
      obtain ⟨r12, hr12, hm⟩ := bnd hm
      refine ⟨F3, v_thing, x_thing, r12, rfl, g8.fh, (Rp.mono eA d5.ff r_thing), hr12, fun v16 F13 H14 d15 r17 => ?_⟩
      have g18 := g8.trans0 d15
      have er17 : v16 = V.bl r12 := r17
      subst er17
      refine v_eqB ?_
      refine v_bl ?_
      obtain ⟨c20, hc20, hm⟩ := bnd hm
      refine br_andVM (c := c20) (fun H7 => ∃ (F21 : Hp), Gr [] F0 H0 F21 H7 ∧ Sub F13 F21) (fun hb19 Q7 k7 => ?_) (fun hb19 => ?_) ?_
      · have hm := ifT hb19 hc20
        refine n_op ?_
        refine n_cb ?_
        refine n_cons ?_
        refine n_var rfl ?_
        refine n_nil ?_
        obtain ⟨t22, ht22, hm⟩ := bnd hm
        refine v_reprA g18.fh (show eA.r F13 v_thing x_thing from (Rp.mono eA (Sub.trans d5.ff d15.ff) r_thing)) ht22 ?_
        refine n_var rfl ?_
        refine v_eqS ?_
        obtain rfl := Option.some.inj hm
        exact k7 _ ⟨_, g18, Sub.refl _⟩
      · have hm := ifF hb19 hc20
        exact ⟨(Option.some.inj hm).symm, ⟨_, g18, Sub.refl _⟩⟩
      rintro H23 ⟨F26, g24, sb25⟩
      obtain rfl := Option.some.inj hm
      exact k7 _ ⟨_, g24, (Sub.trans d15.ff sb25)⟩
    · have hm := ifF hb9 hc10
      exact ⟨(Option.some.inj hm).symm, ⟨_, g8, Sub.refl _⟩⟩
    rintro H27 ⟨F30, g28, sb29⟩
    obtain rfl := Option.some.inj hm
    exact hk _ _ _  g28   rfl

def m_law (x_script : List Int) : Option Bool :=
  (uptoM 0 (mx (1 : Int) (mn (8 : Int) (x_script.length : Int)))).bind fun l1 =>
  (foldR l1 () fun s5 a4 =>
  (m__law_pool x_script a4).bind fun r23 =>
  (m__law_letters r23).bind fun r38 =>
  (m__law_tree r38.2 (60 : Int) r38.1).bind fun r65 =>
  (m__law_ways r65.1).bind fun r76 =>
  (m__law_trie r76).bind fun r100 =>
  (m__law_bent r65.2 r65.1).bind fun r108 =>
  (uptoM 0 (9 : Int)).bind fun l132 =>
  (need (szB l132.length) ()).bind fun u135 =>
  (compO l132 r108.2 fun s138 a137 =>
  (m__law_bent s138 r100).bind fun r161 =>
  some (r161.2, (some r161.1))).bind fun q136 =>
  (catLM [((tdP2 (tdT tdI) tdS).d r65.1), ((tdP2 (tdT tdI) tdS).d r100), r108.1] q136.2).bind fun l201 =>
  (m_is_trie ((tdP2 (tdT tdI) tdS).d r100)).bind fun r208 =>
  if (!decide (r208 = true)) = true then
  some (.rt false)
  else
  (need (szB l201.length) ()).bind fun u220 =>
  (compS l201 fun a222 =>
  (m__law_right a222).bind fun r246 =>
  if (!r246) = true then
  some (some a222)
  else
  some none).bind fun q221 =>
  if (!q221.isEmpty) = true then
  some (.rt false)
  else
  some (.nx ())).bind fun z2 =>
  thenF z2 (fun s294 =>
  (catLM [An.non, (An.int (0 : Int)), (An.bl true), (An.str ([] : Sg)), (An.str ([97] : Sg)), (An.tup false ([] : List An)), (An.lst ([] : List An)), (An.dic [] []), ((tdP2 (tdT tdA) tdS).d (([] : List An), ([] : Sg))), ((tdP2 (tdT tdI) tdS).d (([(-1 : Int)] : List Int), ([97] : Sg))), ((tdP2 (tdT tdI) tdS).d (([(-1 : Int)] : List Int), ([97, 98] : Sg))), ((tdP2 (tdP2 tdI tdI) tdS).d (((-1 : Int), (0 : Int)), ([97, 97] : Sg))), ((tdP2 (tdT tdI) tdS).d (([(0 : Int)] : List Int), ([97] : Sg)))] [((tdP2 (tdT tdI) tdS).d (([(-1 : Int)] : List Int), ([] : Sg))), ((tdP2 (tdT tdB) tdS).d (([true] : List Bool), ([97] : Sg))), ((tdP2 (tdT (tdT tdI)) tdS).d (([([(-1 : Int)] : List Int)] : List (List Int)), ([97] : Sg)))]).bind fun l479 =>
  (need (szB l479.length) ()).bind fun u490 =>
  (compS l479 fun a492 =>
  (m__law_right a492).bind fun r512 =>
  if (!r512) = true then
  some (some a492)
  else
  some none).bind fun q491 =>
  some q491.isEmpty) (fun r7 => some r7)
def sp_law (K : PySem.W.Frag) : Sp := fun vs H Q _ => ∃ (F : Hp) (v_script : V) (x_script : List Int) (r : Bool), vs = [v_script] ∧ Sub F H ∧ (eQ K).r F v_script x_script ∧ m_law x_script = some r ∧ ∀ (v : V) (F' H' : Hp) , Gr [] F H F' H' → eB.r F' v r → Q v H'
theorem sc_law : FnScope ["script", "at", "odd", "pool", "letters", "tree", "trie", "things", "thing", "turn"] ["script"] (defScope s_law) := ⟨rfl, rfl, rfl, by decide +kernel, rfl, by decide +kernel, by decide +kernel⟩
theorem ok_law {f : Addr} {fd : FuncData} (F : FnP K "law" s_law f fd) (H__law_pool : HasG P w K mg base "_law_pool" ["script", "at"] 2 (sp__law_pool K)) (H__law_letters : HasG P w K mg base "_law_letters" ["pool"] 2 (sp__law_letters K)) (H__law_tree : HasG P w K mg base "_law_tree" ["pool", "most", "letters"] 4 (sp__law_tree K)) (H__law_trie : HasG P w K mg base "_law_trie" ["ways"] 1 (sp__law_trie K)) (H__law_ways : HasG P w K mg base "_law_ways" ["tree"] 1 (sp__law_ways K)) (H__law_bent : HasG P w K mg base "_law_bent" ["pool", "tree"] 2 (sp__law_bent K)) (H_is_trie : HasG P w K mg base "is_trie" ["thing"] 4 (sp_is_trie K)) (H__law_right : HasG P w K mg base "_law_right" ["thing"] 5 (sp__law_right K)) (b_range : mg "range" = none) (b_max : mg "max" = none) (b_min : mg "min" = none) (b_len : mg "len" = none) : FnG P w K mg base CX0 6 f fd ["script"] (sp_law K) := by
  obtain ⟨f__law_pool, fd__law_pool, G0__law_pool, g__law_pool, k__law_pool, b__law_pool⟩ := H__law_pool
  have G__law_pool := G0__law_pool.mono (show 2 ≤ 5 by decide)
  obtain ⟨f__law_letters, fd__law_letters, G0__law_letters, g__law_letters, k__law_letters, b__law_letters⟩ := H__law_letters
  have G__law_letters := G0__law_letters.mono (show 2 ≤ 5 by decide)
  obtain ⟨f__law_tree, fd__law_tree, G0__law_tree, g__law_tree, k__law_tree, b__law_tree⟩ := H__law_tree
  have G__law_tree := G0__law_tree.mono (show 4 ≤ 5 by decide)
  obtain ⟨f__law_trie, fd__law_trie, G0__law_trie, g__law_trie, k__law_trie, b__law_trie⟩ := H__law_trie
  have G__law_trie := G0__law_trie.mono (show 1 ≤ 5 by decide)
  obtain ⟨f__law_ways, fd__law_ways, G0__law_ways, g__law_ways, k__law_ways, b__law_ways⟩ := H__law_ways
  have G__law_ways := G0__law_ways.mono (show 1 ≤ 5 by decide)
  obtain ⟨f__law_bent, fd__law_bent, G0__law_bent, g__law_bent, k__law_bent, b__law_bent⟩ := H__law_bent
  have G__law_bent := G0__law_bent.mono (show 2 ≤ 5 by decide)
  obtain ⟨f_is_trie, fd_is_trie, G0_is_trie, g_is_trie, k_is_trie, b_is_trie⟩ := H_is_trie
  have G_is_trie := G0_is_trie.mono (show 4 ≤ 5 by decide)
  obtain ⟨f__law_right, fd__law_right, G0__law_right, g__law_right, k__law_right, b__law_right⟩ := H__law_right
  have G__law_right := G0__law_right.mono (show 5 ≤ 5 by decide)
  refine FnDok F sc_law (fun vs H Q E h => ?_) (fun cdv A outer s H0 vs Q E gd hr h => ?_)
  · obtain ⟨_, _, _, _, rfl, _⟩ := h
    rfl
  · obtain ⟨F0, v_script, x_script, r0, rfl, hs0, r_script, hm, hk⟩ := h
    have g0 : Gr [] F0 H0 F0 H0 := Gr.refl hs0
    refine ⟨_, PSs.nox (pss_cons (ps_for PassesOwn.never rfl (pi_range1 (by rfl) b_range (pa_cons (pe_callB (c_max2 rfl) (by rfl) b_max bo_max (pa_cons pe_int (pa_cons (pe_callB (c_min2 rfl) (by rfl) b_min bo_min (pa_cons pe_int (pa_cons (pe_callB (c_len (K := K) rfl) (by rfl) b_len bo_len (pa_cons (pv 0) pa_nil)) pa_nil))) pa_nil))) pa_nil)) (pg_name (i := 1) sc_law.nd rfl (by first | exact Or.inl rfl | exact Or.inr rfl)) (pss_cons (ps_set (i := 3) sc_law.nd rfl (by first | exact Or.inl rfl | exact Or.inr rfl) (pe_callG G__law_pool gd hr (by rfl) g__law_pool k__law_pool b__law_pool pass0 (pa_cons (pv 0) (pa_cons (pv 1) pa_nil))))
(pss_cons (ps_set (i := 4) sc_law.nd rfl (by first | exact Or.inl rfl | exact Or.inr rfl) (pe_callG G__law_letters gd hr (by rfl) g__law_letters k__law_letters b__law_letters pass0 (pa_cons (pv 3) pa_nil)))
(pss_cons (ps_set (i := 5) sc_law.nd rfl (by first | exact Or.inl rfl | exact Or.inr rfl) (pe_callG G__law_tree gd hr (by rfl) g__law_tree k__law_tree b__law_tree pass0 (pa_cons (pv 3) (pa_cons pe_int (pa_cons (pv 4) pa_nil)))))
(pss_cons (ps_set (i := 6) sc_law.nd rfl (by first | exact Or.inl rfl | exact Or.inr rfl) (pe_callG G__law_trie gd hr (by rfl) g__law_trie k__law_trie b__law_trie pass0 (pa_cons (pe_callG G__law_ways gd hr (by rfl) g__law_ways k__law_ways b__law_ways pass0 (pa_cons (pv 5) pa_nil)) pa_nil)))
(pss_cons (ps_set (i := 7) sc_law.nd rfl (by first | exact Or.inl rfl | exact Or.inr rfl) (pe_lst (pa_cons (pv 5) (pa_cons (pv 6) (pa_cons (pe_callG G__law_bent gd hr (by rfl) g__law_bent k__law_bent b__law_bent pass0 (pa_cons (pv 3) (pa_cons (pv 5) pa_nil))) pa_nil)))))
(pss_cons (ps_expr (c_bm (K := K) rfl PySem.F.plainAttrs_list PySem.F.slot_list_extend PySem.F.type_list_extend mt_extend (pv 7) (pa_cons (pe_lc (own := [("turn", 9)]) (g := gName 9) (by rfl) sc_law.nd (pi_range1 (by rfl) b_range (pa_cons pe_int pa_nil)) (blkOk_by (own := [("turn", 9)]) (N := ["script", "at", "odd", "pool", "letters", "tree", "trie", "things", "thing", "turn"]) (sc := defScope s_law) (by decide +kernel)) (fun _ _ _ _ _ => (pg_name (i := 9) sc_law.nd rfl (Or.inl rfl))) (fun _ _ _ _ _ => pts_nil) (fun _ _ _ _ _ => (pe_callG G__law_bent gd hr (by rfl) g__law_bent k__law_bent b__law_bent pass0 (pa_cons (pv 3) (pa_cons (pv 6) pa_nil))))) pa_nil)))
(pss_cons (ps_if (pt_cmpR op_notBl (pe_callG G_is_trie gd hr (by rfl) g_is_trie k_is_trie b_is_trie pass0 (pa_cons (pv 6) pa_nil)) pe_bl (nomark _)) (pss_one (ps_ret pe_bl)) pss_nil)
(pss_one (ps_if (pt_cmpR (c_neL0 (K := K) rfl hr) (pe_lc (own := [("thing", 8)]) (g := gName 8) (by rfl) sc_law.nd (c_pilist (K := K) rfl (pv 7)) (blkOk_by (own := [("thing", 8)]) (N := ["script", "at", "odd", "pool", "letters", "tree", "trie", "things", "thing", "turn"]) (sc := defScope s_law) (by decide +kernel)) (fun _ _ _ _ _ => (pg_name (i := 8) sc_law.nd rfl (Or.inl rfl))) (fun _ _ _ _ _ => pts_one (pt_not (pt_val (pe_callG G__law_right gd hr (by rfl) g__law_right k__law_right b__law_right pass0 (pa_cons (pv 8) pa_nil))))) (fun _ _ _ _ _ => (pv 8))) (pe_lst pa_nil) (nomark _)) (pss_one (ps_ret pe_bl)) pss_nil))))))))))
(pss_cons (ps_set (i := 2) sc_law.nd rfl (by first | exact Or.inl rfl | exact Or.inr rfl) (pe_lst (pa_cons pe_non (pa_cons pe_int (pa_cons pe_bl (pa_cons pe_str (pa_cons pe_str (pa_cons (pe_tup pa_nil) (pa_cons (pe_lst pa_nil) (pa_cons (pe_freeze pe_dnewK) (pa_cons (pe_tup (pa_cons (pe_tup pa_nil) (pa_cons pe_str pa_nil))) (pa_cons (pe_tup (pa_cons (pe_tup (pa_cons (pe_un un_neg pe_int) pa_nil)) (pa_cons pe_str pa_nil))) (pa_cons (pe_tup (pa_cons (pe_tup (pa_cons (pe_un un_neg pe_int) pa_nil)) (pa_cons pe_str pa_nil))) (pa_cons (pe_tup (pa_cons (pe_tup (pa_cons (pe_un un_neg pe_int) (pa_cons pe_int pa_nil))) (pa_cons pe_str pa_nil))) (pa_cons (pe_tup (pa_cons (pe_tup (pa_cons pe_int pa_nil)) (pa_cons pe_str pa_nil))) pa_nil)))))))))))))))
(pss_cons (ps_set (i := 2) sc_law.nd rfl (by first | exact Or.inl rfl | exact Or.inr rfl) (pe_op op_cat (pv 2) (pe_lst (pa_cons (pe_tup (pa_cons (pe_tup (pa_cons (pe_un un_neg pe_int) pa_nil)) (pa_cons pe_str pa_nil))) (pa_cons (pe_tup (pa_cons (pe_tup (pa_cons pe_bl pa_nil)) (pa_cons pe_str pa_nil))) (pa_cons (pe_tup (pa_cons (pe_tup (pa_cons (pe_tup (pa_cons (pe_un un_neg pe_int) pa_nil)) pa_nil)) (pa_cons pe_str pa_nil))) pa_nil))))))
(pss_one (ps_ret (pe_cmpR (c_eqL0 (K := K) rfl hr) (pe_lc (own := [("thing", 8)]) (g := gName 8) (by rfl) sc_law.nd (c_pilist (K := K) rfl (pv 2)) (blkOk_by (own := [("thing", 8)]) (N := ["script", "at", "odd", "pool", "letters", "tree", "trie", "things", "thing", "turn"]) (sc := defScope s_law) (by decide +kernel)) (fun _ _ _ _ _ => (pg_name (i := 8) sc_law.nd rfl (Or.inl rfl))) (fun _ _ _ _ _ => pts_one (pt_not (pt_val (pe_callG G__law_right gd hr (by rfl) g__law_right k__law_right b__law_right pass0 (pa_cons (pv 8) pa_nil))))) (fun _ _ _ _ _ => (pv 8))) (pe_lst pa_nil) (nomark _))))))), ?_⟩
    refine n_seq ?_
    refine n_for ?_
    refine n_rng1 ?_
    refine n_cons ?_
    refine n_cb ?_
    refine n_cons ?_
    refine n_c ?_
    refine n_cons ?_
    refine n_cb ?_
    refine n_cons ?_
    refine n_c ?_
    refine n_cons ?_
    refine n_cb ?_
    refine n_cons ?_
    refine n_var rfl ?_
    refine n_nil ?_
    refine v_lenQ g0.fh r_script ?_
    refine n_nil ?_
    refine v_min2 ?_
    refine n_nil ?_
    refine v_max2 ?_
    refine n_nil ?_
    obtain ⟨l1, hl1, hm⟩ := bnd hm
    refine v_rng1 hl1 ?_
    obtain ⟨z2, hz2, hm⟩ := bnd hm
    have hmo3 := hm
    refine for_r (sr_R1 hl1) hz2 (fun (s7 : Unit) σ7 H7 => ∃ (F7 : Hp) (o_at : Option V) (o_pool : Option V) (o_letters : Option V) (o_tree : Option V) (o_trie : Option V) (o_things : Option V), σ7 = [some v_script, o_at, none, o_pool, o_letters, o_tree, o_trie, o_things, none, none] ∧ Gr [] F0 H0 F7 H7 ∧ Sub F0 F7) ⟨_, _, _, _, _, _, _, rfl, g0, Sub.refl _⟩ ?_ ?_ ?_
    · intros; exact trivial
    · rintro a4 s5 s6 x7 _ H8 H9 ⟨F13, o16, o17, o18, o19, o20, o21, rfl, g14, sb15⟩ hY10 hm hrt22 N11 hN12
      refine v_nmR hY10 ?_
      refine n_name (setS set0) ?_
      refine n_seq ?_
      refine n_asg ?_
      refine n_call ?_
      refine n_cons ?_
      refine n_var rfl ?_
      refine n_cons ?_
      refine n_var rfl ?_
      refine n_nil ?_
      obtain ⟨r23, hr23, hm⟩ := bnd hm
      refine ⟨F13, v_script, x_script, .int a4, a4, r23, rfl, g14.fh, (Rp.mono (eQ K) sb15 r_script), rfl, hr23, fun v33 F24 H25 d26 r34 => ?_⟩
      obtain ⟨p27, vs28, ev33, np29, fp30, hp31, al32⟩ := r34
      subst ev33
      have go35 := g14.old np29
      have g36 := g14.trans0 d26
      have m37 : Mu [] H0 F24 H25 p27 (.lst vs28) := ⟨fp30, hp31, .inl go35⟩
      refine n_name (setS (setS (setS set0))) ?_
      refine n_seq ?_
      refine n_asg ?_
      refine n_call ?_
      refine n_cons ?_
      refine n_var rfl ?_
      refine n_nil ?_
      obtain ⟨r38, hr38, hm⟩ := bnd hm
      refine ⟨F24, p27, vs28, r23, r38, rfl, g36.fh, m37.fr, m37.hp, al32, hr38, fun v51 F39 H40 vs42 d41 hp43 al44 r52 => ?_⟩
      obtain ⟨p45, vs46, ev51, np47, fp48, hp49, al50⟩ := r52
      subst ev51
      have go53 := g36.old np47
      have ne54 := m37.ne np47
      have g55 := g36.trans d41 (fun a ha => (List.mem_cons.mp ha).elim (fun e => e ▸ m37.own) (fun ha => absurd ha (by simp)))
      have m56 := m37.back d41 hp43
      have m57 : Mu [] H0 F39 H40 p45 (.lst vs46) := ⟨fp48, hp49, .inl go53⟩
      obtain ⟨F58, q60, sb62, g61, d59⟩ := freeze g55 m57 (m57.own.resolve_right (by simp))
      have m63 := d59 _ _ ne54 m56
      have al64 := (Al.mono al50 sb62)
      refine n_name (setS (setS (setS (setS set0)))) ?_
      refine n_seq ?_
      refine n_asg ?_
      refine n_call ?_
      refine n_cons ?_
      refine n_var rfl ?_
      refine n_cons ?_
      refine n_c ?_
      refine n_cons ?_
      refine n_var rfl ?_
      refine n_nil ?_
      obtain ⟨r65, hr65, hm⟩ := bnd hm
      refine ⟨F58, p27, vs42, r38.2, .int (60 : Int), (60 : Int), (.ref p45), r38.1, r65, rfl, g61.fh, m63.fr, m63.hp, (Al.mono al44 sb62), rfl, (⟨p45, vs46, rfl, q60, al64⟩ : (eL eS).r F58 (.ref p45) r38.1), hr65, fun v72 F66 H67 vs69 d68 hp70 al71 r73 => ?_⟩
      have g74 := g61.trans d68 (fun a ha => (List.mem_cons.mp ha).elim (fun e => e ▸ m63.own) (fun ha => absurd ha (by simp)))
      have m75 := m63.back d68 hp70
      refine n_name (setS (setS (setS (setS (setS set0))))) ?_
      refine n_seq ?_
      refine n_asg ?_
      refine n_call ?_
      refine n_cons ?_
      refine n_call ?_
      refine n_cons ?_
      refine n_var rfl ?_
      refine n_nil ?_
      obtain ⟨r76, hr76, hm⟩ := bnd hm
      refine ⟨F66, v72, r65.1, r76, rfl, g74.fh, r73, hr76, fun v86 F77 H78 d79 r87 => ?_⟩
      obtain ⟨p80, vs81, ev86, np82, fp83, hp84, al85⟩ := r87
      subst ev86
      have go88 := g74.old np82
      have ne89 := m75.ne np82
      have g90 := g74.trans0 d79
      have m91 := m75.call0 d79
      have m92 : Mu [] H0 F77 H78 p80 (.lst vs81) := ⟨fp83, hp84, .inl go88⟩
      obtain ⟨F93, q95, sb97, g96, d94⟩ := freeze g90 m92 (m92.own.resolve_right (by simp))
      have m98 := d94 _ _ ne89 m91
      have al99 := (Al.mono al85 sb97)
      refine n_nil ?_
      obtain ⟨r100, hr100, hm⟩ := bnd hm
      refine ⟨F93, (.ref p80), r76, r100, rfl, g96.fh, (⟨p80, vs81, rfl, q95, al99⟩ : (eL eS).r F93 (.ref p80) r76), hr100, fun v104 F101 H102 d103 r105 => ?_⟩
      have g106 := g96.trans0 d103
      have m107 := m98.call0 d103
      refine n_name (setS (setS (setS (setS (setS (setS set0)))))) ?_
      refine n_seq ?_
      refine n_asg ?_
      refine n_lst ?_
      refine n_cons ?_
      refine n_var rfl ?_
      refine n_cons ?_
      refine n_var rfl ?_
      refine n_cons ?_
      refine n_call ?_
      refine n_cons ?_
      refine n_var rfl ?_
      refine n_cons ?_
      refine n_var rfl ?_
      refine n_nil ?_
      obtain ⟨r108, hr108, hm⟩ := bnd hm
      refine ⟨F101, p27, vs69, r65.2, v72, r65.1, r108, rfl, g106.fh, m107.fr, m107.hp, (Al.mono al71 (Sub.trans d79.ff (Sub.trans sb97 d103.ff))), (Rp.mono (eP2 (eT eI) eS) (Sub.trans d79.ff (Sub.trans sb97 d103.ff)) r73), hr108, fun v115 F109 H110 vs112 d111 hp113 al114 r116 => ?_⟩
      have g117 := g106.trans d111 (fun a ha => (List.mem_cons.mp ha).elim (fun e => e ▸ m107.own) (fun ha => absurd ha (by simp)))
      have m118 := m107.back d111 hp113
      refine n_nil ?_
      have al126 : Al eA F109 [v72, v104, v115] [((tdP2 (tdT tdI) tdS).d r65.1), ((tdP2 (tdT tdI) tdS).d r100), r108.1] := (.cons ((tdP2 (tdT tdI) tdS).ok (show (eP2 (eT eI) eS).r F109 v72 r65.1 from (Rp.mono (eP2 (eT eI) eS) (Sub.trans d79.ff (Sub.trans sb97 (Sub.trans d103.ff d111.ff))) r73)) : RA F109 v72 ((tdP2 (tdT tdI) tdS).d r65.1)) (.cons ((tdP2 (tdT tdI) tdS).ok (show (eP2 (eT eI) eS).r F109 v104 r100 from (Rp.mono (eP2 (eT eI) eS) d111.ff r105)) : RA F109 v104 ((tdP2 (tdT tdI) tdS).d r100)) (.cons r116 .nil)))
      refine v_mkLM g117.fh rfl fun p119 H120 np121 d122 fp123 hp124 => ?_
      have go127 := g117.old np121
      have ne128 := m118.ne np121
      have g129 := g117.trans0 d122
      have m130 := m118.call0 d122
      have m131 : Mu [] H0 F109 H120 p119 (.lst [v72, v104, v115]) := ⟨fp123, hp124, .inl go127⟩
      refine n_name (setS (setS (setS (setS (setS (setS (setS set0))))))) ?_
      refine n_seq ?_
      refine n_drop ?_
      refine n_bm ?_
      refine n_var rfl ?_
      refine ⟨tyL m131.l, ?_⟩
      refine n_cons ?_
      refine n_lc ?_
      refine n_rng1 ?_
      refine n_cons ?_
      refine n_c ?_
      refine n_nil ?_
      obtain ⟨l132, hl132, hm⟩ := bnd hm
      refine v_rng1 hl132 ?_
      obtain ⟨u135, hu135, hm⟩ := bnd hm
      obtain ⟨q136, hq136, hm⟩ := bnd hm
      intro D133 nD134
      have goD133 := g129.old nD134
      have neD133_p27 := m130.ne nD134
      have neD133_p119 := m131.ne nD134
      have gg178 := gr_newM (W := []) (o := .lst []) g129.fh nD134
      refine comp_o (sr_R1 hl132) hq136 (need_ok hu135).1 (fun (s7 : List Int) (acc7 : List An) H7 => ∃ (F7 : Hp) (vs7 : List V) (us0 : List V), Gr [] F0 H0 F7 H7 ∧ Sub F109 F7 ∧ F7 D133 = none ∧ H7 D133 = some (.lst vs7) ∧ Al eA F7 vs7 acc7 ∧ Mu [] H0 F7 H7 p27 (.lst us0) ∧ Al eI F7 us0 s7 ∧ Mu [] H0 F7 H7 p119 (.lst [v72, v104, v115])) ⟨_, [], vs112, g129.trans0 gg178, Sub.refl _, g129.fh.nn nD134, upd_same, .nil, m130.call0 gg178, al114, m131.call0 gg178⟩ ?_ ?_ ?_
      · intros; exact trivial
      · rintro a137 s138 r139 acc140 x141 H142 H143 ⟨F148, vs149, vs155, g150, sb151, fD152, hD153, al154, m156, al157, m158⟩ hY144 hm hl147 N145 hN146
        have m160 : Mu [] H0 F148 H142 D133 (.lst vs149) := ⟨fD152, hD153, .inl goD133⟩
        refine wipe_to (σ' := [some v_script, some (.int a4), none, some (.ref p27), some (.ref p45), some v72, some v104, some (.ref p119), none, none]) rfl ?_
        refine v_nmR hY144 ?_
        refine n_name (setS (setS (setS (setS (setS (setS (setS (setS (setS set0))))))))) ?_
        refine ⟨rfl, ?_⟩
        refine n_yes ?_ rfl
        refine n_call ?_
        refine n_cons ?_
        refine n_var rfl ?_
        refine n_cons ?_
        refine n_var rfl ?_
        refine n_nil ?_
        obtain ⟨r161, hr161, hm⟩ := bnd hm
        refine ⟨F148, p27, vs155, s138, v104, r100, r161, rfl, g150.fh, m156.fr, m156.hp, al157, (Rp.mono (eP2 (eT eI) eS) (Sub.trans d111.ff sb151) r105), hr161, fun v168 F162 H163 vs165 d164 hp166 al167 r169 => ?_⟩
        have g170 := g150.trans d164 (fun a ha => (List.mem_cons.mp ha).elim (fun e => e ▸ m156.own) (fun ha => absurd ha (by simp)))
        have m171 := m156.back d164 hp166
        have m172 := m158.call d164 (nin1 (Ne.symm ne128))
        have m173 := m160.call d164 (nin1 (Ne.symm neD133_p27))
        obtain rfl := Option.some.inj hm
        refine ⟨_, m173.hp, by rw [al_len (Al.mono al154 d164.ff)]; exact hl147, hN146 _ ?_⟩
        exact ⟨_, _, vs165, m173.gr g170, (Sub.trans sb151 d164.ff), m173.fr, upd_same, pd_snoc (Al.mono al154 d164.ff) (show eA.r F162 v168 r161.1 from r169), m171.mut neD133_p27, al167, m172.mut neD133_p119⟩
      rintro H179 ⟨F180, vs181, vs187, g182, sb183, fD184, hD185, al186, m188, al189, m190⟩
      have m192 : Mu [] H0 F180 H179 D133 (.lst vs181) := ⟨fD184, hD185, .inl goD133⟩
      obtain ⟨F193, q195, sb197, g196, d194⟩ := freeze g182 m192 (m192.own.resolve_right (by simp))
      have m198 := d194 _ _ neD133_p27 m188
      have m199 := d194 _ _ neD133_p119 m190
      have al200 := (Al.mono al186 sb197)
      refine n_nil ?_
      obtain ⟨l201, hl201, hm⟩ := bnd hm
      obtain ⟨vs204, H202, g205, al203, evs204, eH202⟩ := ext_ok g196 m199 (Al.mono al126 (Sub.trans sb183 sb197)) al200 hl201
      refine v_extend m199.hp (g196.fh _ _ q195) (cat_le (Al.mono al126 (Sub.trans sb183 sb197)) al200 hl201) ?_
      rw [← evs204, ← eH202]
      have m206 := mu_oth m198 ne128 eH202
      have m207 := mu_self m199 eH202
      refine n_seq ?_
      refine n_ifs ?_
      refine n_test ?_
      refine n_op ?_
      refine n_call ?_
      refine n_cons ?_
      refine n_var rfl ?_
      refine n_nil ?_
      obtain ⟨r208, hr208, hm⟩ := bnd hm
      refine ⟨F193, v104, ((tdP2 (tdT tdI) tdS).d r100), r208, rfl, g205.fh, ((tdP2 (tdT tdI) tdS).ok (show (eP2 (eT eI) eS).r F193 v104 r100 from (Rp.mono (eP2 (eT eI) eS) (Sub.trans d111.ff (Sub.trans sb183 sb197)) r105)) : RA F193 v104 ((tdP2 (tdT tdI) tdS).d r100)), hr208, fun v212 F209 H210 d211 r213 => ?_⟩
      have g214 := g205.trans0 d211
      have m215 := m206.call0 d211
      have m216 := m207.call0 d211
      have er213 : v212 = V.bl r208 := r213
      subst er213
      refine n_c ?_
      refine v_notBl ?_
      refine v_bl ?_
      refine br (fun hb217 => ?_) (fun hb217 => ?_)
      · replace hm := ifT hb217 hm
        refine n_ret ?_
        refine n_c ?_
        obtain rfl := Option.some.inj hm
        have hm := thenF_rt (hrt22 _ rfl) hmo3
        obtain rfl := Option.some.inj hm
        exact hk _ _ _  g214   rfl
      replace hm := ifF hb217 hm
      refine n_nextS ?_
      refine n_ifs ?_
      refine n_test ?_
      refine n_op ?_
      refine n_lc ?_
      refine n_itL ?_
      refine n_var rfl ?_
      refine v_itL m216.l ?_
      obtain ⟨u220, hu220, hm⟩ := bnd hm
      obtain ⟨q221, hq221, hm⟩ := bnd hm
      intro D218 nD219
      have goD218 := g214.old nD219
      have neD218_p27 := m215.ne nD219
      have neD218_p119 := m216.ne nD219
      have gg261 := gr_newM (W := []) (o := .lst []) g214.fh nD219
      refine comp_s (sr_L (Al.mono al203 d211.ff)) hq221 (need_ok hu220).1 (fun (acc7 : List An) H7 => ∃ (F7 : Hp) (vs7 : List V), Gr [] F0 H0 F7 H7 ∧ Sub F209 F7 ∧ F7 D218 = none ∧ H7 D218 = some (.lst vs7) ∧ Al eA F7 vs7 acc7 ∧ Mu [] H0 F7 H7 p27 (.lst vs187) ∧ Mu [] H0 F7 H7 p119 (.lst vs204)) ⟨_, [], g214.trans0 gg261, Sub.refl _, g214.fh.nn nD219, upd_same, .nil, m215.call0 gg261, m216.call0 gg261⟩ ?_ ?_ ?_
      · rintro _ _ ⟨F233, vs234, g235, sb236, _, _, _, _, m242⟩
        exact m242.l
      · rintro a222 r224 acc225 x226 H227 H228 ⟨F233, vs234, g235, sb236, fD237, hD238, al239, m240, m242⟩ hY229 hm hl232 N230 hN231
        have m244 : Mu [] H0 F233 H227 D218 (.lst vs234) := ⟨fD237, hD238, .inl goD218⟩
        refine wipe_to (σ' := [some v_script, some (.int a4), none, some (.ref p27), some (.ref p45), some v72, some v104, some (.ref p119), none, none]) rfl ?_
        refine v_nmY hY229 fun r245 => ?_
        refine n_name (setS (setS (setS (setS (setS (setS (setS (setS set0)))))))) ?_
        refine ⟨rfl, ?_⟩
        refine n_not ?_
        refine n_tB ?_
        refine n_call ?_
        refine n_cons ?_
        refine n_var rfl ?_
        refine n_nil ?_
        obtain ⟨r246, hr246, hm⟩ := bnd hm
        refine ⟨F233, x226, a222, r246, rfl, g235.fh, (Rp.mono eA sb236 r245), hr246, fun v250 F247 H248 d249 r251 => ?_⟩
        have g252 := g235.trans0 d249
        have m253 := m240.call0 d249
        have m254 := m242.call0 d249
        have m255 := m244.call0 d249
        have er251 : v250 = V.bl r246 := r251
        subst er251
        refine v_bl ?_
        refine br (fun hb256 => ?_) (fun hb256 => ?_)
        · replace hm := ifT hb256 hm
          refine n_var rfl ?_
          obtain rfl := Option.some.inj hm
          refine ⟨_, m255.hp, by rw [al_len (Al.mono al239 d249.ff)]; exact hl232, hN231 _ ?_⟩
          exact ⟨_, _, m255.gr g252, (Sub.trans sb236 d249.ff), m255.fr, upd_same, pd_snoc (Al.mono al239 d249.ff) (show eA.r F247 x226 a222 from (Rp.mono eA (Sub.trans sb236 d249.ff) r245)), m253.mut neD218_p27, m254.mut neD218_p119⟩
        · replace hm := ifF hb256 hm
          obtain rfl := Option.some.inj hm
          refine hN231 _ ?_
          simp only [Option.toList, List.append_nil]
          exact ⟨_, _, g252, (Sub.trans sb236 d249.ff), m255.fr, m255.hp, (Al.mono al239 d249.ff), m253, m254⟩
      rintro H262 ⟨F263, vs264, g265, sb266, fD267, hD268, al269, m270, m272⟩
      have m274 : Mu [] H0 F263 H262 D218 (.lst vs264) := ⟨fD267, hD268, .inl goD218⟩
      obtain ⟨F275, q277, sb279, g278, d276⟩ := freeze g265 m274 (m274.own.resolve_right (by simp))
      have m280 := d276 _ _ neD218_p27 m270
      have m281 := d276 _ _ neD218_p119 m272
      have al282 := (Al.mono al269 sb279)
      refine n_lst ?_
      refine n_nil ?_
      refine v_mkLF (t := eA) (xs := ([] : List An)) g278.fh .nil rfl fun p283 F284 H285 d286 q287 al288 => ?_
      have g289 := g278.trans0 d286
      have m290 := m280.call0 d286
      have m291 := m281.call0 d286
      refine v_neL0 (.inl ⟨(SqL.of (g289.fh _ _ (d286.ff _ _ q277))), (SqL.of (g289.fh _ _ q287))⟩) (Al.mono al282 d286.ff) ?_
      refine v_bl ?_
      refine br (fun hb292 => ?_) (fun hb292 => ?_)
      · replace hm := ifT hb292 hm
        refine n_ret ?_
        refine n_c ?_
        obtain rfl := Option.some.inj hm
        have hm := thenF_rt (hrt22 _ rfl) hmo3
        obtain rfl := Option.some.inj hm
        exact hk _ _ _  g289   rfl
      replace hm := ifF hb292 hm
      refine n_nextS ?_
      obtain rfl := Option.some.inj hm
      exact hN12 _ _ _ rfl ⟨_, _, _, _, _, _, _, rfl, g289, (Sub.trans sb15 (Sub.trans d26.ff (Sub.trans d41.ff (Sub.trans sb62 (Sub.trans d68.ff (Sub.trans d79.ff (Sub.trans sb97 (Sub.trans d103.ff (Sub.trans d111.ff (Sub.trans sb183 (Sub.trans sb197 (Sub.trans d211.ff (Sub.trans sb266 (Sub.trans sb279 d286.ff))))))))))))))⟩
    rintro s294 _ H293 e295 ⟨F296, o299, o300, o301, o302, o303, o304, rfl, g297, sb298⟩
    subst e295
    replace hm := thenF_nx hm
    refine n_seq ?_
    refine n_asg ?_
    refine n_lst ?_
    refine n_cons ?_
    refine n_c ?_
    refine n_cons ?_
    refine n_c ?_
    refine n_cons ?_
    refine n_c ?_
    refine n_cons ?_
    refine n_str (s := []) (by decide +kernel) ?_
    refine n_cons ?_
    refine n_str (s := [97]) (by decide +kernel) ?_
    refine n_cons ?_
    refine n_tup ?_
    refine n_nil ?_
    refine v_mkT (t := eA) (xs := []) g297.fh .nil rfl fun p306 F307 H308 d309 q310 al311 => ?_
    have g312 := g297.trans0 d309
    refine n_cons ?_
    refine n_lst ?_
    refine n_nil ?_
    refine v_mkLF (t := eA) (xs := []) g312.fh .nil rfl fun p313 F314 H315 d316 q317 al318 => ?_
    have g319 := g312.trans0 d316
    refine n_cons ?_
    refine n_freeze ?_
    refine n_dnewK ?_
    refine v_dnew (Y := (dyK keS)) g319.fh fun p320 H321 np322 d323 fp324 hp325 => ?_
    have al326 : Pr (dyK keS) eA F314 [] [] := .nil
    have go327 := g319.old np322
    have g328 := g319.trans0 d323
    have m329 : Mu [] H0 F314 H321 p320 ((dyK keS).ho []) := ⟨fp324, hp325, .inl go327⟩
    refine v_freeze g328 m329 (m329.own.resolve_right (by simp)) trivial fun o330 F331 H332 q333 sb334 g335 d336 => ?_
    have al337 := Pr.mono al326 sb334
    refine n_cons ?_
    refine n_tup ?_
    refine n_cons ?_
    refine n_tup ?_
    refine n_nil ?_
    refine v_mkT (t := eA) (xs := []) g335.fh .nil rfl fun p340 F341 H342 d343 q344 al345 => ?_
    have g346 := g335.trans0 d343
    refine n_cons ?_
    refine n_str (s := []) (by decide +kernel) ?_
    refine n_nil ?_
    refine v_mk2 g346.fh (show (eT eA).r F341 (.ref p340) ([] : List An) from (⟨p340, [], rfl, q344, al345⟩ : (eT eA).r F341 (.ref p340) ([] : List An))) (show eS.r F341 (.str (S ([] : Sg))) ([] : Sg) from ⟨rfl, (sz_ok (n := 0) rfl)⟩) fun v347 F348 H349 d350 r351 => ?_
    have g352 := g346.trans0 d350
    refine n_cons ?_
    refine n_tup ?_
    refine n_cons ?_
    refine n_tup ?_
    refine n_cons ?_
    refine n_un ?_
    refine n_c ?_
    refine v_neg ?_
    refine n_nil ?_
    refine v_mkT (t := eI) (xs := [(-1 : Int)]) g352.fh (.cons (show eI.r F348 (.int (-(1 : Int))) (-1 : Int) from rfl) .nil) rfl fun p355 F356 H357 d358 q359 al360 => ?_
    have g361 := g352.trans0 d358
    refine n_cons ?_
    refine n_str (s := [97]) (by decide +kernel) ?_
    refine n_nil ?_
    refine v_mk2 g361.fh (show (eT eI).r F356 (.ref p355) ([(-1 : Int)] : List Int) from (⟨p355, [.int (-(1 : Int))], rfl, q359, al360⟩ : (eT eI).r F356 (.ref p355) ([(-1 : Int)] : List Int))) (show eS.r F356 (.str (S ([97] : Sg))) ([97] : Sg) from ⟨rfl, (sz_ok (n := 1) rfl)⟩) fun v362 F363 H364 d365 r366 => ?_
    have g367 := g361.trans0 d365
    refine n_cons ?_
    refine n_tup ?_
    refine n_cons ?_
    refine n_tup ?_
    refine n_cons ?_
    refine n_un ?_
    refine n_c ?_
    refine v_neg ?_
    refine n_nil ?_
    refine v_mkT (t := eI) (xs := [(-1 : Int)]) g367.fh (.cons (show eI.r F363 (.int (-(1 : Int))) (-1 : Int) from rfl) .nil) rfl fun p370 F371 H372 d373 q374 al375 => ?_
    have g376 := g367.trans0 d373
    refine n_cons ?_
    refine n_str (s := [97, 98]) (by decide +kernel) ?_
    refine n_nil ?_
    refine v_mk2 g376.fh (show (eT eI).r F371 (.ref p370) ([(-1 : Int)] : List Int) from (⟨p370, [.int (-(1 : Int))], rfl, q374, al375⟩ : (eT eI).r F371 (.ref p370) ([(-1 : Int)] : List Int))) (show eS.r F371 (.str (S ([97, 98] : Sg))) ([97, 98] : Sg) from ⟨rfl, (sz_ok (n := 2) rfl)⟩) fun v377 F378 H379 d380 r381 => ?_
    have g382 := g376.trans0 d380
    refine n_cons ?_
    refine n_tup ?_
    refine n_cons ?_
    refine n_tup ?_
    refine n_cons ?_
    refine n_un ?_
    refine n_c ?_
    refine v_neg ?_
    refine n_cons ?_
    refine n_c ?_
    refine n_nil ?_
    refine v_mk2 g382.fh (show eI.r F378 (.int (-(1 : Int))) (-1 : Int) from rfl) (show eI.r F378 (.int (0 : Int)) (0 : Int) from rfl) fun v385 F386 H387 d388 r389 => ?_
    have g390 := g382.trans0 d388
    refine n_cons ?_
    refine n_str (s := [97, 97]) (by decide +kernel) ?_
    refine n_nil ?_
    refine v_mk2 g390.fh (show (eP2 eI eI).r F386 v385 ((-1 : Int), (0 : Int)) from r389) (show eS.r F386 (.str (S ([97, 97] : Sg))) ([97, 97] : Sg) from ⟨rfl, (sz_ok (n := 2) rfl)⟩) fun v391 F392 H393 d394 r395 => ?_
    have g396 := g390.trans0 d394
    refine n_cons ?_
    refine n_tup ?_
    refine n_cons ?_
    refine n_tup ?_
    refine n_cons ?_
    refine n_c ?_
    refine n_nil ?_
    refine v_mkT (t := eI) (xs := [(0 : Int)]) g396.fh (.cons (show eI.r F392 (.int (0 : Int)) (0 : Int) from rfl) .nil) rfl fun p399 F400 H401 d402 q403 al404 => ?_
    have g405 := g396.trans0 d402
    refine n_cons ?_
    refine n_str (s := [97]) (by decide +kernel) ?_
    refine n_nil ?_
    refine v_mk2 g405.fh (show (eT eI).r F400 (.ref p399) ([(0 : Int)] : List Int) from (⟨p399, [.int (0 : Int)], rfl, q403, al404⟩ : (eT eI).r F400 (.ref p399) ([(0 : Int)] : List Int))) (show eS.r F400 (.str (S ([97] : Sg))) ([97] : Sg) from ⟨rfl, (sz_ok (n := 1) rfl)⟩) fun v406 F407 H408 d409 r410 => ?_
    have g411 := g405.trans0 d409
    refine n_nil ?_
    refine v_mkLF (t := eA) (xs := [An.non, (An.int (0 : Int)), (An.bl true), (An.str ([] : Sg)), (An.str ([97] : Sg)), (An.tup false ([] : List An)), (An.lst ([] : List An)), (An.dic [] []), ((tdP2 (tdT tdA) tdS).d (([] : List An), ([] : Sg))), ((tdP2 (tdT tdI) tdS).d (([(-1 : Int)] : List Int), ([97] : Sg))), ((tdP2 (tdT tdI) tdS).d (([(-1 : Int)] : List Int), ([97, 98] : Sg))), ((tdP2 (tdP2 tdI tdI) tdS).d (((-1 : Int), (0 : Int)), ([97, 97] : Sg))), ((tdP2 (tdT tdI) tdS).d (([(0 : Int)] : List Int), ([97] : Sg)))]) g411.fh (.cons (RA.non : RA F407 .non An.non) (.cons (RA.int (0 : Int) : RA F407 (.int (0 : Int)) (An.int (0 : Int))) (.cons (RA.bl true : RA F407 (.bl true) (An.bl true)) (.cons (RA.str (sz_ok (n := 0) rfl) : RA F407 (.str (S ([] : Sg))) (An.str ([] : Sg))) (.cons (RA.str (sz_ok (n := 1) rfl) : RA F407 (.str (S ([97] : Sg))) (An.str ([97] : Sg))) (.cons (eTA_A (Rp.mono (eT eA) (Sub.trans d316.ff (Sub.trans sb334 (Sub.trans d343.ff (Sub.trans d350.ff (Sub.trans d358.ff (Sub.trans d365.ff (Sub.trans d373.ff (Sub.trans d380.ff (Sub.trans d388.ff (Sub.trans d394.ff (Sub.trans d402.ff d409.ff))))))))))) (⟨p306, [], rfl, q310, al311⟩ : (eT eA).r F307 (.ref p306) ([] : List An))) : RA F407 (.ref p306) (An.tup false ([] : List An))) (.cons (eLA_A (Rp.mono (eL eA) (Sub.trans sb334 (Sub.trans d343.ff (Sub.trans d350.ff (Sub.trans d358.ff (Sub.trans d365.ff (Sub.trans d373.ff (Sub.trans d380.ff (Sub.trans d388.ff (Sub.trans d394.ff (Sub.trans d402.ff d409.ff)))))))))) (⟨p313, [], rfl, q317, al318⟩ : (eL eA).r F314 (.ref p313) ([] : List An))) : RA F407 (.ref p313) (An.lst ([] : List An))) (.cons (Rp.mono eA (Sub.trans d343.ff (Sub.trans d350.ff (Sub.trans d358.ff (Sub.trans d365.ff (Sub.trans d373.ff (Sub.trans d380.ff (Sub.trans d388.ff (Sub.trans d394.ff (Sub.trans d402.ff d409.ff))))))))) (ra_dic0 q333 : RA F331 (.ref p320) (An.dic [] []))) (.cons ((tdP2 (tdT tdA) tdS).ok (show (eP2 (eT eA) eS).r F407 v347 (([] : List An), ([] : Sg)) from (Rp.mono (eP2 (eT eA) eS) (Sub.trans d358.ff (Sub.trans d365.ff (Sub.trans d373.ff (Sub.trans d380.ff (Sub.trans d388.ff (Sub.trans d394.ff (Sub.trans d402.ff d409.ff))))))) r351)) : RA F407 v347 ((tdP2 (tdT tdA) tdS).d (([] : List An), ([] : Sg)))) (.cons ((tdP2 (tdT tdI) tdS).ok (show (eP2 (eT eI) eS).r F407 v362 (([(-1 : Int)] : List Int), ([97] : Sg)) from (Rp.mono (eP2 (eT eI) eS) (Sub.trans d373.ff (Sub.trans d380.ff (Sub.trans d388.ff (Sub.trans d394.ff (Sub.trans d402.ff d409.ff))))) r366)) : RA F407 v362 ((tdP2 (tdT tdI) tdS).d (([(-1 : Int)] : List Int), ([97] : Sg)))) (.cons ((tdP2 (tdT tdI) tdS).ok (show (eP2 (eT eI) eS).r F407 v377 (([(-1 : Int)] : List Int), ([97, 98] : Sg)) from (Rp.mono (eP2 (eT eI) eS) (Sub.trans d388.ff (Sub.trans d394.ff (Sub.trans d402.ff d409.ff))) r381)) : RA F407 v377 ((tdP2 (tdT tdI) tdS).d (([(-1 : Int)] : List Int), ([97, 98] : Sg)))) (.cons ((tdP2 (tdP2 tdI tdI) tdS).ok (show (eP2 (eP2 eI eI) eS).r F407 v391 (((-1 : Int), (0 : Int)), ([97, 97] : Sg)) from (Rp.mono (eP2 (eP2 eI eI) eS) (Sub.trans d402.ff d409.ff) r395)) : RA F407 v391 ((tdP2 (tdP2 tdI tdI) tdS).d (((-1 : Int), (0 : Int)), ([97, 97] : Sg)))) (.cons ((tdP2 (tdT tdI) tdS).ok (show (eP2 (eT eI) eS).r F407 v406 (([(0 : Int)] : List Int), ([97] : Sg)) from r410) : RA F407 v406 ((tdP2 (tdT tdI) tdS).d (([(0 : Int)] : List Int), ([97] : Sg)))) .nil))))))))))))) rfl fun p412 F413 H414 d415 q416 al417 => ?_
    have g418 := g411.trans0 d415
    refine n_name (setS (setS set0)) ?_
    refine n_seq ?_
    refine n_asg ?_
    refine n_op ?_
    refine n_var rfl ?_
    refine n_lst ?_
    refine n_cons ?_
    refine n_tup ?_
    refine n_cons ?_
    refine n_tup ?_
    refine n_cons ?_
    refine n_un ?_
    refine n_c ?_
    refine v_neg ?_
    refine n_nil ?_
    refine v_mkT (t := eI) (xs := [(-1 : Int)]) g418.fh (.cons (show eI.r F413 (.int (-(1 : Int))) (-1 : Int) from rfl) .nil) rfl fun p421 F422 H423 d424 q425 al426 => ?_
    have g427 := g418.trans0 d424
    refine n_cons ?_
    refine n_str (s := []) (by decide +kernel) ?_
    refine n_nil ?_
    refine v_mk2 g427.fh (show (eT eI).r F422 (.ref p421) ([(-1 : Int)] : List Int) from (⟨p421, [.int (-(1 : Int))], rfl, q425, al426⟩ : (eT eI).r F422 (.ref p421) ([(-1 : Int)] : List Int))) (show eS.r F422 (.str (S ([] : Sg))) ([] : Sg) from ⟨rfl, (sz_ok (n := 0) rfl)⟩) fun v428 F429 H430 d431 r432 => ?_
    have g433 := g427.trans0 d431
    refine n_cons ?_
    refine n_tup ?_
    refine n_cons ?_
    refine n_tup ?_
    refine n_cons ?_
    refine n_c ?_
    refine n_nil ?_
    refine v_mkT (t := eB) (xs := [true]) g433.fh (.cons (show eB.r F429 (.bl true) true from rfl) .nil) rfl fun p436 F437 H438 d439 q440 al441 => ?_
    have g442 := g433.trans0 d439
    refine n_cons ?_
    refine n_str (s := [97]) (by decide +kernel) ?_
    refine n_nil ?_
    refine v_mk2 g442.fh (show (eT eB).r F437 (.ref p436) ([true] : List Bool) from (⟨p436, [.bl true], rfl, q440, al441⟩ : (eT eB).r F437 (.ref p436) ([true] : List Bool))) (show eS.r F437 (.str (S ([97] : Sg))) ([97] : Sg) from ⟨rfl, (sz_ok (n := 1) rfl)⟩) fun v443 F444 H445 d446 r447 => ?_
    have g448 := g442.trans0 d446
    refine n_cons ?_
    refine n_tup ?_
    refine n_cons ?_
    refine n_tup ?_
    refine n_cons ?_
    refine n_tup ?_
    refine n_cons ?_
    refine n_un ?_
    refine n_c ?_
    refine v_neg ?_
    refine n_nil ?_
    refine v_mkT (t := eI) (xs := [(-1 : Int)]) g448.fh (.cons (show eI.r F444 (.int (-(1 : Int))) (-1 : Int) from rfl) .nil) rfl fun p452 F453 H454 d455 q456 al457 => ?_
    have g458 := g448.trans0 d455
    refine n_nil ?_
    refine v_mkT (t := (eT eI)) (xs := [([(-1 : Int)] : List Int)]) g458.fh (.cons (show (eT eI).r F453 (.ref p452) ([(-1 : Int)] : List Int) from (⟨p452, [.int (-(1 : Int))], rfl, q456, al457⟩ : (eT eI).r F453 (.ref p452) ([(-1 : Int)] : List Int))) .nil) rfl fun p459 F460 H461 d462 q463 al464 => ?_
    have g465 := g458.trans0 d462
    refine n_cons ?_
    refine n_str (s := [97]) (by decide +kernel) ?_
    refine n_nil ?_
    refine v_mk2 g465.fh (show (eT (eT eI)).r F460 (.ref p459) ([([(-1 : Int)] : List Int)] : List (List Int)) from (⟨p459, [(.ref p452)], rfl, q463, al464⟩ : (eT (eT eI)).r F460 (.ref p459) ([([(-1 : Int)] : List Int)] : List (List Int)))) (show eS.r F460 (.str (S ([97] : Sg))) ([97] : Sg) from ⟨rfl, (sz_ok (n := 1) rfl)⟩) fun v466 F467 H468 d469 r470 => ?_
    have g471 := g465.trans0 d469
    refine n_nil ?_
    refine v_mkLF (t := eA) (xs := [((tdP2 (tdT tdI) tdS).d (([(-1 : Int)] : List Int), ([] : Sg))), ((tdP2 (tdT tdB) tdS).d (([true] : List Bool), ([97] : Sg))), ((tdP2 (tdT (tdT tdI)) tdS).d (([([(-1 : Int)] : List Int)] : List (List Int)), ([97] : Sg)))]) g471.fh (.cons ((tdP2 (tdT tdI) tdS).ok (show (eP2 (eT eI) eS).r F467 v428 (([(-1 : Int)] : List Int), ([] : Sg)) from (Rp.mono (eP2 (eT eI) eS) (Sub.trans d439.ff (Sub.trans d446.ff (Sub.trans d455.ff (Sub.trans d462.ff d469.ff)))) r432)) : RA F467 v428 ((tdP2 (tdT tdI) tdS).d (([(-1 : Int)] : List Int), ([] : Sg)))) (.cons ((tdP2 (tdT tdB) tdS).ok (show (eP2 (eT eB) eS).r F467 v443 (([true] : List Bool), ([97] : Sg)) from (Rp.mono (eP2 (eT eB) eS) (Sub.trans d455.ff (Sub.trans d462.ff d469.ff)) r447)) : RA F467 v443 ((tdP2 (tdT tdB) tdS).d (([true] : List Bool), ([97] : Sg)))) (.cons ((tdP2 (tdT (tdT tdI)) tdS).ok (show (eP2 (eT (eT eI)) eS).r F467 v466 (([([(-1 : Int)] : List Int)] : List (List Int)), ([97] : Sg)) from r470) : RA F467 v466 ((tdP2 (tdT (tdT tdI)) tdS).d (([([(-1 : Int)] : List Int)] : List (List Int)), ([97] : Sg)))) .nil))) rfl fun p472 F473 H474 d475 q476 al477 => ?_
    have g478 := g471.trans0 d475
    obtain ⟨l479, hl479, hm⟩ := bnd hm
    refine v_catF g478.fh (g478.fh _ _ ((Sub.trans d424.ff (Sub.trans d431.ff (Sub.trans d439.ff (Sub.trans d446.ff (Sub.trans d455.ff (Sub.trans d462.ff (Sub.trans d469.ff d475.ff))))))) _ _ q416)) (g478.fh _ _ q476) (Al.mono al417 (Sub.trans d424.ff (Sub.trans d431.ff (Sub.trans d439.ff (Sub.trans d446.ff (Sub.trans d455.ff (Sub.trans d462.ff (Sub.trans d469.ff d475.ff)))))))) al477 hl479 fun p480 vs481 F483 H484 d485 q486 al482 => ?_
    have g487 := g478.trans0 d485
    refine n_name (setS (setS set0)) ?_
    refine n_ret ?_
    refine n_op ?_
    refine n_lc ?_
    refine n_itL ?_
    refine n_var rfl ?_
    refine v_itL (SqL.of (g487.fh _ _ q486)) ?_
    obtain ⟨u490, hu490, hm⟩ := bnd hm
    obtain ⟨q491, hq491, hm⟩ := bnd hm
    intro D488 nD489
    have goD488 := g487.old nD489
    have gg525 := gr_newM (W := []) (o := .lst []) g487.fh nD489
    refine comp_s (sr_L al482) hq491 (need_ok hu490).1 (fun (acc7 : List An) H7 => ∃ (F7 : Hp) (vs7 : List V), Gr [] F0 H0 F7 H7 ∧ Sub F483 F7 ∧ F7 D488 = none ∧ H7 D488 = some (.lst vs7) ∧ Al eA F7 vs7 acc7) ⟨_, [], g487.trans0 gg525, Sub.refl _, g487.fh.nn nD489, upd_same, .nil⟩ ?_ ?_ ?_
    · rintro _ _ ⟨F503, vs504, g505, sb506, _, _, _⟩
      exact (SqL.of (g505.fh _ _ (sb506 _ _ q486)))
    · rintro a492 r494 acc495 x496 H497 H498 ⟨F503, vs504, g505, sb506, fD507, hD508, al509⟩ hY499 hm hl502 N500 hN501
      have m510 : Mu [] H0 F503 H497 D488 (.lst vs504) := ⟨fD507, hD508, .inl goD488⟩
      refine wipe_to (σ' := [some v_script, o299, some (.ref p480), o300, o301, o302, o303, o304, none, none]) rfl ?_
      refine v_nmY hY499 fun r511 => ?_
      refine n_name (setS (setS (setS (setS (setS (setS (setS (setS set0)))))))) ?_
      refine ⟨rfl, ?_⟩
      refine n_not ?_
      refine n_tB ?_
      refine n_call ?_
      refine n_cons ?_
      refine n_var rfl ?_
      refine n_nil ?_
      obtain ⟨r512, hr512, hm⟩ := bnd hm
      refine ⟨F503, x496, a492, r512, rfl, g505.fh, (Rp.mono eA sb506 r511), hr512, fun v516 F513 H514 d515 r517 => ?_⟩
      have g518 := g505.trans0 d515
      have m519 := m510.call0 d515
      have er517 : v516 = V.bl r512 := r517
      subst er517
      refine v_bl ?_
      refine br (fun hb520 => ?_) (fun hb520 => ?_)
      · replace hm := ifT hb520 hm
        refine n_var rfl ?_
        obtain rfl := Option.some.inj hm
        refine ⟨_, m519.hp, by rw [al_len (Al.mono al509 d515.ff)]; exact hl502, hN501 _ ?_⟩
        exact ⟨_, _, m519.gr g518, (Sub.trans sb506 d515.ff), m519.fr, upd_same, pd_snoc (Al.mono al509 d515.ff) (show eA.r F513 x496 a492 from (Rp.mono eA (Sub.trans sb506 d515.ff) r511))⟩
      · replace hm := ifF hb520 hm
        obtain rfl := Option.some.inj hm
        refine hN501 _ ?_
        simp only [Option.toList, List.append_nil]
        exact ⟨_, _, g518, (Sub.trans sb506 d515.ff), m519.fr, m519.hp, (Al.mono al509 d515.ff)⟩
    rintro H526 ⟨F527, vs528, g529, sb530, fD531, hD532, al533⟩
    have m534 : Mu [] H0 F527 H526 D488 (.lst vs528) := ⟨fD531, hD532, .inl goD488⟩
    obtain ⟨F535, q537, sb539, g538, d536⟩ := freeze g529 m534 (m534.own.resolve_right (by simp))
    have al540 := (Al.mono al533 sb539)
    refine n_lst ?_
    refine n_nil ?_
    refine v_mkLF (t := eA) (xs := ([] : List An)) g538.fh .nil rfl fun p541 F542 H543 d544 q545 al546 => ?_
    have g547 := g538.trans0 d544
    refine v_eqL0 (.inl ⟨(SqL.of (g547.fh _ _ (d544.ff _ _ q537))), (SqL.of (g547.fh _ _ q545))⟩) (Al.mono al540 d544.ff) ?_
    obtain rfl := Option.some.inj hm
    exact hk _ _ _  g547   rfl

end
def d_is_whole : He.DefD := ⟨("is_whole", none), "is_whole", "is_whole", defArgs s_is_whole, defBody s_is_whole, defScope s_is_whole, [], []⟩
def d_are_letters : He.DefD := ⟨("are_letters", none), "are_letters", "are_letters", defArgs s_are_letters, defBody s_are_letters, defScope s_are_letters, [], []⟩
def d_can_stand : He.DefD := ⟨("can_stand", none), "can_stand", "can_stand", defArgs s_can_stand, defBody s_can_stand, defScope s_can_stand, [], []⟩
def d_are_ups : He.DefD := ⟨("are_ups", none), "are_ups", "are_ups", defArgs s_are_ups, defBody s_are_ups, defScope s_are_ups, [], []⟩
def d_is_tree : He.DefD := ⟨("is_tree", none), "is_tree", "is_tree", defArgs s_is_tree, defBody s_is_tree, defScope s_is_tree, [], []⟩
def d_is_trie : He.DefD := ⟨("is_trie", none), "is_trie", "is_trie", defArgs s_is_trie, defBody s_is_trie, defScope s_is_trie, [], []⟩
def d__law_cell_at : He.DefD := ⟨("_law_cell_at", none), "_law_cell_at", "_law_cell_at", defArgs s__law_cell_at, defBody s__law_cell_at, defScope s__law_cell_at, [], []⟩
def d__law_pool : He.DefD := ⟨("_law_pool", none), "_law_pool", "_law_pool", defArgs s__law_pool, defBody s__law_pool, defScope s__law_pool, [], []⟩
def d__law_take : He.DefD := ⟨("_law_take", none), "_law_take", "_law_take", defArgs s__law_take, defBody s__law_take, defScope s__law_take, [], []⟩
def d__law_letters : He.DefD := ⟨("_law_letters", none), "_law_letters", "_law_letters", defArgs s__law_letters, defBody s__law_letters, defScope s__law_letters, [], []⟩
def d__law_grown : He.DefD := ⟨("_law_grown", none), "_law_grown", "_law_grown", defArgs s__law_grown, defBody s__law_grown, defScope s__law_grown, [], []⟩
def d__law_copies : He.DefD := ⟨("_law_copies", none), "_law_copies", "_law_copies", defArgs s__law_copies, defBody s__law_copies, defScope s__law_copies, [], []⟩
def d__law_tree : He.DefD := ⟨("_law_tree", none), "_law_tree", "_law_tree", defArgs s__law_tree, defBody s__law_tree, defScope s__law_tree, [], []⟩
def d__law_ways : He.DefD := ⟨("_law_ways", none), "_law_ways", "_law_ways", defArgs s__law_ways, defBody s__law_ways, defScope s__law_ways, [], []⟩
def d__law_trie : He.DefD := ⟨("_law_trie", none), "_law_trie", "_law_trie", defArgs s__law_trie, defBody s__law_trie, defScope s__law_trie, [], []⟩
def d__law_ups : He.DefD := ⟨("_law_ups", none), "_law_ups", "_law_ups", defArgs s__law_ups, defBody s__law_ups, defScope s__law_ups, [], []⟩
def d__law_due : He.DefD := ⟨("_law_due", none), "_law_due", "_law_due", defArgs s__law_due, defBody s__law_due, defScope s__law_due, [], []⟩
def d__law_bent : He.DefD := ⟨("_law_bent", none), "_law_bent", "_law_bent", defArgs s__law_bent, defBody s__law_bent, defScope s__law_bent, [], []⟩
def d__law_right : He.DefD := ⟨("_law_right", none), "_law_right", "_law_right", defArgs s__law_right, defBody s__law_right, defScope s__law_right, [], []⟩
def d_law : He.DefD := ⟨("law", none), "law", "law", defArgs s_law, defBody s_law, defScope s_law, [], []⟩
def fn0 : List He.DefD := [d_is_whole, d_are_letters, d_can_stand, d_are_ups, d_is_tree, d_is_trie, d__law_cell_at, d__law_pool, d__law_take, d__law_letters, d__law_grown, d__law_copies, d__law_tree, d__law_ways, d__law_trie, d__law_ups, d__law_due, d__law_bent, d__law_right, d_law]
def fn : List He.DefD := fn0
def fa0 : List He.Fa := [.glo "is_whole", .glo "are_letters", .glo "can_stand", .glo "are_ups", .glo "is_tree", .glo "is_trie", .glo "_law_cell_at", .glo "_law_pool", .glo "_law_take", .glo "_law_letters", .glo "_law_grown", .glo "_law_copies", .glo "_law_tree", .glo "_law_ways", .glo "_law_trie", .glo "_law_ups", .glo "_law_due", .glo "_law_bent", .glo "_law_right", .glo "law", .free "isinstance", .free "int", .free "bool", .free "str", .free "all", .free "range", .free "len", .free "tuple", .free "enumerate", .free "max"]
def fa1 : List He.Fa := [.free "sorted", .free "set", .free "list", .free "repr", .free "min", .str "LETTERS" "abcdefghijklmnopqrstuvwxyz", .int "MOST_PLACES" 60]
def fa : List He.Fa := fa0 ++ fa1
def loose0 : List PySem.Str := ["is_whole", "are_letters", "can_stand", "are_ups", "is_tree", "is_trie", "_law_cell_at", "_law_pool", "_law_take", "_law_letters", "_law_grown", "_law_copies", "_law_tree", "_law_ways", "_law_trie", "_law_ups", "_law_due", "_law_bent", "_law_right", "LETTERS", "MOST_PLACES"]
def loose : List PySem.Str := loose0
abbrev R : PySem.W.OpenRow := PySem.W.OpenLaw.row PySem.Challenge.rw_upwords_k53_what_is_a_trie
abbrev hk : PySem.W.Hook := U.hookS 4 fa fn U.sysB
def ob (s : PySem.W.SharedT) : U.AlS := U.obsSG 4 fa fn U.sysB (HandSHeadRun.getT s)
theorem ob_eq (s : PySem.W.SharedT) : ob s = hk.obs s.abs := U.obsSG_eq (HandSHeadRun.getT_eq s)
theorem run (w : World) : HandSHeadRun.RunEq R (PySem.W.view R.prog [24]) hk ob 4000 loose w := by
  intro os
  kernel_rfl
theorem facts {P : Program} {w : World} {K : PySem.W.Frag} {h : Heap} {mg : Str → Option Value} {f : Addr} (X : K.In h) (G : h.Ns mainGlobals mg) (hfa : mg ("law" : Str) = some (.ref f)) (c : He.SaysD fa fn K) (cx : U.sysB K = true) :
    ∃ fd : FuncData, (∀ (s : Shared) (v : Value), BindsTo s fd ⟨[v], []⟩ [("script", v)]) ∧ ∀ base : Heap, K.In base → base.Ns mainGlobals mg → FnG P w K mg base CX0 6 f fd ["script"] (sp_law K) := by
  obtain ⟨fd_is_whole, F_is_whole⟩ := c.def_ 0 (d := d_is_whole) rfl
  have g_is_whole := He.glo_ok X G (c.fact 0 (f := .glo "is_whole") rfl)
  obtain ⟨fd_are_letters, F_are_letters⟩ := c.def_ 1 (d := d_are_letters) rfl
  have g_are_letters := He.glo_ok X G (c.fact 1 (f := .glo "are_letters") rfl)
  obtain ⟨fd_can_stand, F_can_stand⟩ := c.def_ 2 (d := d_can_stand) rfl
  have g_can_stand := He.glo_ok X G (c.fact 2 (f := .glo "can_stand") rfl)
  obtain ⟨fd_are_ups, F_are_ups⟩ := c.def_ 3 (d := d_are_ups) rfl
  have g_are_ups := He.glo_ok X G (c.fact 3 (f := .glo "are_ups") rfl)
  obtain ⟨fd_is_tree, F_is_tree⟩ := c.def_ 4 (d := d_is_tree) rfl
  have g_is_tree := He.glo_ok X G (c.fact 4 (f := .glo "is_tree") rfl)
  obtain ⟨fd_is_trie, F_is_trie⟩ := c.def_ 5 (d := d_is_trie) rfl
  have g_is_trie := He.glo_ok X G (c.fact 5 (f := .glo "is_trie") rfl)
  obtain ⟨fd__law_cell_at, F__law_cell_at⟩ := c.def_ 6 (d := d__law_cell_at) rfl
  have g__law_cell_at := He.glo_ok X G (c.fact 6 (f := .glo "_law_cell_at") rfl)
  obtain ⟨fd__law_pool, F__law_pool⟩ := c.def_ 7 (d := d__law_pool) rfl
  have g__law_pool := He.glo_ok X G (c.fact 7 (f := .glo "_law_pool") rfl)
  obtain ⟨fd__law_take, F__law_take⟩ := c.def_ 8 (d := d__law_take) rfl
  have g__law_take := He.glo_ok X G (c.fact 8 (f := .glo "_law_take") rfl)
  obtain ⟨fd__law_letters, F__law_letters⟩ := c.def_ 9 (d := d__law_letters) rfl
  have g__law_letters := He.glo_ok X G (c.fact 9 (f := .glo "_law_letters") rfl)
  obtain ⟨fd__law_grown, F__law_grown⟩ := c.def_ 10 (d := d__law_grown) rfl
  have g__law_grown := He.glo_ok X G (c.fact 10 (f := .glo "_law_grown") rfl)
  obtain ⟨fd__law_copies, F__law_copies⟩ := c.def_ 11 (d := d__law_copies) rfl
  have g__law_copies := He.glo_ok X G (c.fact 11 (f := .glo "_law_copies") rfl)
  obtain ⟨fd__law_tree, F__law_tree⟩ := c.def_ 12 (d := d__law_tree) rfl
  have g__law_tree := He.glo_ok X G (c.fact 12 (f := .glo "_law_tree") rfl)
  obtain ⟨fd__law_ways, F__law_ways⟩ := c.def_ 13 (d := d__law_ways) rfl
  have g__law_ways := He.glo_ok X G (c.fact 13 (f := .glo "_law_ways") rfl)
  obtain ⟨fd__law_trie, F__law_trie⟩ := c.def_ 14 (d := d__law_trie) rfl
  have g__law_trie := He.glo_ok X G (c.fact 14 (f := .glo "_law_trie") rfl)
  obtain ⟨fd__law_ups, F__law_ups⟩ := c.def_ 15 (d := d__law_ups) rfl
  have g__law_ups := He.glo_ok X G (c.fact 15 (f := .glo "_law_ups") rfl)
  obtain ⟨fd__law_due, F__law_due⟩ := c.def_ 16 (d := d__law_due) rfl
  have g__law_due := He.glo_ok X G (c.fact 16 (f := .glo "_law_due") rfl)
  obtain ⟨fd__law_bent, F__law_bent⟩ := c.def_ 17 (d := d__law_bent) rfl
  have g__law_bent := He.glo_ok X G (c.fact 17 (f := .glo "_law_bent") rfl)
  obtain ⟨fd__law_right, F__law_right⟩ := c.def_ 18 (d := d__law_right) rfl
  have g__law_right := He.glo_ok X G (c.fact 18 (f := .glo "_law_right") rfl)
  obtain ⟨fd_law, F_law⟩ := c.def_ 19 (d := d_law) rfl
  have g_law := He.glo_ok X G (c.fact 19 (f := .glo "law") rfl)
  have b_isinstance := He.free_ok X G (c.fact 20 (f := .free "isinstance") rfl)
  have b_int := He.free_ok X G (c.fact 21 (f := .free "int") rfl)
  have b_bool := He.free_ok X G (c.fact 22 (f := .free "bool") rfl)
  have b_str := He.free_ok X G (c.fact 23 (f := .free "str") rfl)
  have b_all := He.free_ok X G (c.fact 24 (f := .free "all") rfl)
  have b_range := He.free_ok X G (c.fact 25 (f := .free "range") rfl)
  have b_len := He.free_ok X G (c.fact 26 (f := .free "len") rfl)
  have b_tuple := He.free_ok X G (c.fact 27 (f := .free "tuple") rfl)
  have b_enumerate := He.free_ok X G (c.fact 28 (f := .free "enumerate") rfl)
  have b_max := He.free_ok X G (c.fact 29 (f := .free "max") rfl)
  have b_sorted := He.free_ok X G (c.fact 30 (f := .free "sorted") rfl)
  have b_set := He.free_ok X G (c.fact 31 (f := .free "set") rfl)
  have b_list := He.free_ok X G (c.fact 32 (f := .free "list") rfl)
  have b_repr := He.free_ok X G (c.fact 33 (f := .free "repr") rfl)
  have b_min := He.free_ok X G (c.fact 34 (f := .free "min") rfl)
  have c_LETTERS := He.str_ok X G (c.fact 35 (f := .str "LETTERS" "abcdefghijklmnopqrstuvwxyz") rfl)
  have c_MOST_PLACES := He.int_ok X G (c.fact 36 (f := .int "MOST_PLACES" 60) rfl)
  have hS := U.sysB_ok cx
  refine ⟨fd_law, fun s v => FunD.bindsA (ps := ["script"]) F_law (fun _ _ _ _ _ _ us hl => match us, hl with | [_], _ => rfl) s [v] rfl, fun base _ _ => ?_⟩
  have e := hfa.symm.trans g_law
  cases e
  have O_is_whole := ok_is_whole (P := P) (w := w) (mg := mg) (base := base) F_is_whole b_isinstance b_int b_bool
  have H_is_whole : HasG P w K mg base "is_whole" ["thing"] 1 (sp_is_whole K) := ⟨_, _, O_is_whole, g_is_whole, F_is_whole.kp, F_is_whole.bindsN fun _ _ _ _ _ _ us hl => match us, hl with | [_], _ => rfl⟩
  have O_are_letters := ok_are_letters (P := P) (w := w) (mg := mg) (base := base) F_are_letters b_isinstance b_str b_all c_LETTERS
  have H_are_letters : HasG P w K mg base "are_letters" ["thing"] 1 (sp_are_letters K) := ⟨_, _, O_are_letters, g_are_letters, F_are_letters.kp, F_are_letters.bindsN fun _ _ _ _ _ _ us hl => match us, hl with | [_], _ => rfl⟩
  have O_can_stand := ok_can_stand (P := P) (w := w) (mg := mg) (base := base) F_can_stand 
  have H_can_stand : HasG P w K mg base "can_stand" ["ups", "k"] 1 (sp_can_stand K) := ⟨_, _, O_can_stand, g_can_stand, F_can_stand.kp, F_can_stand.bindsN fun _ _ _ _ _ _ us hl => match us, hl with | [_, _], _ => rfl⟩
  have O_are_ups := ok_are_ups (P := P) (w := w) (mg := mg) (base := base) F_are_ups H_can_stand b_range b_len
  have H_are_ups : HasG P w K mg base "are_ups" ["ups"] 2 (sp_are_ups K) := ⟨_, _, O_are_ups, g_are_ups, F_are_ups.kp, F_are_ups.bindsN fun _ _ _ _ _ _ us hl => match us, hl with | [_], _ => rfl⟩
  have O_is_tree := ok_is_tree (P := P) (w := w) (mg := mg) (base := base) F_is_tree H_are_ups H_are_letters H_is_whole b_isinstance b_tuple b_len b_all c_MOST_PLACES
  have H_is_tree : HasG P w K mg base "is_tree" ["thing"] 3 (sp_is_tree K) := ⟨_, _, O_is_tree, g_is_tree, F_is_tree.kp, F_is_tree.bindsN fun _ _ _ _ _ _ us hl => match us, hl with | [_], _ => rfl⟩
  have O_is_trie := ok_is_trie (P := P) (w := w) (mg := mg) (base := base) F_is_trie H_is_tree b_enumerate b_len
  have H_is_trie : HasG P w K mg base "is_trie" ["thing"] 4 (sp_is_trie K) := ⟨_, _, O_is_trie, g_is_trie, F_is_trie.kp, F_is_trie.bindsN fun _ _ _ _ _ _ us hl => match us, hl with | [_], _ => rfl⟩
  have O__law_cell_at := ok__law_cell_at (P := P) (w := w) (mg := mg) (base := base) F__law_cell_at b_len
  have H__law_cell_at : HasG P w K mg base "_law_cell_at" ["script", "k"] 1 (sp__law_cell_at K) := ⟨_, _, O__law_cell_at, g__law_cell_at, F__law_cell_at.kp, F__law_cell_at.bindsN fun _ _ _ _ _ _ us hl => match us, hl with | [_, _], _ => rfl⟩
  have O__law_pool := ok__law_pool (P := P) (w := w) (mg := mg) (base := base) F__law_pool H__law_cell_at b_range b_int
  have H__law_pool : HasG P w K mg base "_law_pool" ["script", "at"] 2 (sp__law_pool K) := ⟨_, _, O__law_pool, g__law_pool, F__law_pool.kp, F__law_pool.bindsN fun _ _ _ _ _ _ us hl => match us, hl with | [_, _], _ => rfl⟩
  have O__law_take := ok__law_take (P := P) (w := w) (mg := mg) (base := base) F__law_take b_int
  have H__law_take : HasG P w K mg base "_law_take" ["pool", "many"] 1 (sp__law_take K) := ⟨_, _, O__law_take, g__law_take, F__law_take.kp, F__law_take.bindsN fun _ _ _ _ _ _ us hl => match us, hl with | [_, _], _ => rfl⟩
  have O__law_letters := ok__law_letters (P := P) (w := w) (mg := mg) (base := base) F__law_letters H__law_take b_range
  have H__law_letters : HasG P w K mg base "_law_letters" ["pool"] 2 (sp__law_letters K) := ⟨_, _, O__law_letters, g__law_letters, F__law_letters.kp, F__law_letters.bindsN fun _ _ _ _ _ _ us hl => match us, hl with | [_], _ => rfl⟩
  have O__law_grown := ok__law_grown (P := P) (w := w) (mg := mg) (base := base) F__law_grown H__law_take b_range b_len b_max b_tuple b_int
  have H__law_grown : HasG P w K mg base "_law_grown" ["pool", "many", "kind", "letters"] 2 (sp__law_grown K) := ⟨_, _, O__law_grown, g__law_grown, F__law_grown.kp, F__law_grown.bindsN fun _ _ _ _ _ _ us hl => match us, hl with | [_, _, _, _], _ => rfl⟩
  have O__law_copies := ok__law_copies (P := P) (w := w) (mg := mg) (base := base) F__law_copies H__law_grown H__law_take b_range b_tuple b_len
  have H__law_copies : HasG P w K mg base "_law_copies" ["pool", "most", "letters"] 3 (sp__law_copies K) := ⟨_, _, O__law_copies, g__law_copies, F__law_copies.kp, F__law_copies.bindsN fun _ _ _ _ _ _ us hl => match us, hl with | [_, _, _], _ => rfl⟩
  have O__law_tree := ok__law_tree (P := P) (w := w) (mg := mg) (base := base) F__law_tree H__law_take H__law_grown H__law_copies
  have H__law_tree : HasG P w K mg base "_law_tree" ["pool", "most", "letters"] 4 (sp__law_tree K) := ⟨_, _, O__law_tree, g__law_tree, F__law_tree.kp, F__law_tree.bindsN fun _ _ _ _ _ _ us hl => match us, hl with | [_, _, _], _ => rfl⟩
  have O__law_ways := ok__law_ways (P := P) (w := w) (mg := mg) (base := base) F__law_ways b_enumerate
  have H__law_ways : HasG P w K mg base "_law_ways" ["tree"] 1 (sp__law_ways K) := ⟨_, _, O__law_ways, g__law_ways, F__law_ways.kp, F__law_ways.bindsN fun _ _ _ _ _ _ us hl => match us, hl with | [_], _ => rfl⟩
  have O__law_trie := ok__law_trie (P := P) (w := w) (mg := mg) (base := base) F__law_trie b_sorted b_set b_tuple b_len
  have H__law_trie : HasG P w K mg base "_law_trie" ["ways"] 1 (sp__law_trie K) := ⟨_, _, O__law_trie, g__law_trie, F__law_trie.kp, F__law_trie.bindsN fun _ _ _ _ _ _ us hl => match us, hl with | [_], _ => rfl⟩
  have O__law_ups := ok__law_ups (P := P) (w := w) (mg := mg) (base := base) F__law_ups b_range b_len b_isinstance b_bool b_int
  have H__law_ups : HasG P w K mg base "_law_ups" ["ups"] 1 (sp__law_ups K) := ⟨_, _, O__law_ups, g__law_ups, F__law_ups.kp, F__law_ups.bindsN fun _ _ _ _ _ _ us hl => match us, hl with | [_], _ => rfl⟩
  have O__law_due := ok__law_due (P := P) (w := w) (mg := mg) (base := base) F__law_due H__law_ups b_range b_len b_isinstance b_tuple b_str b_sorted b_enumerate b_set
  have H__law_due : HasG P w K mg base "_law_due" ["thing"] 2 (sp__law_due K) := ⟨_, _, O__law_due, g__law_due, F__law_due.kp, F__law_due.bindsN fun _ _ _ _ _ _ us hl => match us, hl with | [_], _ => rfl⟩
  have O__law_bent := ok__law_bent (P := P) (w := w) (mg := mg) (base := base) F__law_bent H__law_take b_len b_list
  have H__law_bent : HasG P w K mg base "_law_bent" ["pool", "tree"] 2 (sp__law_bent K) := ⟨_, _, O__law_bent, g__law_bent, F__law_bent.kp, F__law_bent.bindsN fun _ _ _ _ _ _ us hl => match us, hl with | [_, _], _ => rfl⟩
  have O__law_right := ok__law_right (P := P) (w := w) (mg := mg) (base := base) F__law_right H_is_trie H__law_due b_repr b_isinstance b_bool hS
  have H__law_right : HasG P w K mg base "_law_right" ["thing"] 5 (sp__law_right K) := ⟨_, _, O__law_right, g__law_right, F__law_right.kp, F__law_right.bindsN fun _ _ _ _ _ _ us hl => match us, hl with | [_], _ => rfl⟩
  have O_law := ok_law (P := P) (w := w) (mg := mg) (base := base) F_law H__law_pool H__law_letters H__law_tree H__law_trie H__law_ways H__law_bent H_is_trie H__law_right b_range b_max b_min b_len
  exact O_law
/-! ### plain: things of any kind -/
theorem mapM_int : ∀ ys : List Int, (ys.map An.int).mapM cI.c = some ys
  | [] => rfl
  | y :: ys => by
    rw [List.map_cons, List.mapM_cons, mapM_int ys]; rfl
theorem foldR_all {α : Type} {p : α → Bool} {f : Unit → α → Option (Fl Unit Bool)} : ∀ {xs : List α}, (∀ x ∈ xs, f () x = some (if p x = true then .nx () else .rt false)) → foldR xs () f = some (if xs.all p = true then .nx () else .rt false)
  | [], _ => rfl
  | x :: xs, h => by
    show (f () x).bind _ = _
    rw [h x List.mem_cons_self, List.all_cons]
    cases hp : p x with
    | false => rfl
    | true =>
      show foldR xs () f = _
      rw [foldR_all fun y hy => h y (List.mem_cons_of_mem _ hy), Bool.true_and]
theorem ra_tup {e B : Nat} {z : Bool} {xs : List An} (h : ∀ x ∈ xs, Rk e B x.pd) : Rk (e + 1) (xs.length * (B + 2) + 3) (An.tup z xs).pd := by
  rw [An.pd, pds_map]
  have := rks_all (ds := xs.map An.pd) (e := e) (B := B) fun d hd => by obtain ⟨x, hx, rfl⟩ := List.mem_map.mp hd; exact h x hx
  rw [List.length_map] at this
  exact rk_tup this
theorem ra_lst {e B : Nat} {xs : List An} (h : ∀ x ∈ xs, Rk e B x.pd) : Rk (e + 1) (xs.length * (B + 2) + 2) (An.lst xs).pd := by
  rw [An.pd, pds_map]
  have := rks_all (ds := xs.map An.pd) (e := e) (B := B) fun d hd => by obtain ⟨x, hx, rfl⟩ := List.mem_map.mp hd; exact h x hx
  rw [List.length_map] at this
  exact rk_list this
theorem ra_int {i : Int} {k : Nat} (hk : 0 < k) (h : i.natAbs < 2 ^ k) (hk2 : k ≤ 1920) : Rk 0 (k + 1) (An.int i).pd := by rw [An.pd]; exact rk_int hk h hk2
theorem ra_str {s : Sg} {n : Nat} (hs : ∀ c ∈ s, c < 1114112) (hn : s.length ≤ n) : Rk 0 (10 * n + 2) (An.str s).pd := by rw [An.pd]; exact rk_str hs hn
theorem ra_bl (b : Bool) : Rk 0 5 (An.bl b).pd := by rw [An.pd]; exact rk_bool b
theorem ra_non : Rk 0 4 An.non.pd := by rw [An.pd]; exact rk_non
theorem ra_d0 : Rk 1 2 (An.dic [] []).pd := by
  rw [An.pd, pds_map]
  exact ⟨by simp [PyData.showable, PyData.showableKv], by simp [PyData.depth, PyData.depthKv], by decide +kernel⟩
theorem ra_d1 {e B n : Nat} {s : Sg} {x : An} (hs : ∀ c ∈ s, c < 1114112) (hn : s.length ≤ n) (h : Rk e B x.pd) : Rk (e + 1) (10 * n + B + 6) (An.dic [s] [x]).pd := by
  have hk : Rk 0 (10 * n + 2) (PyData.str (S s)) := rk_str hs hn
  rw [An.pd, pds_map]
  show Rk _ _ (PyData.dict [(PyData.str (S s), x.pd)])
  refine ⟨by simp [PyData.showable, PyData.showableKv, h.sh], ?_, ?_⟩
  · have := h.dp
    simp only [PyData.depth, PyData.depthKv]
    omega
  · have h1 := hk.ln
    have h2 := h.ln
    simp only [PyData.shown, PyData.shownKv] at h1 ⊢
    unfold dictText
    rw [strLen_append, strLen_append]
    have e1 : (("{" : String) : Str).length = 1 := rfl
    have e3 : (("}" : String) : Str).length = 1 := rfl
    have e2 : ∀ t : Str, (Str.join ", " [t]).length = t.length := fun t => by
      have : Str.join ", " [t] = t := rfl
      rw [this]
    have e4 : ((": " : String) : Str).length = 2 := rfl
    rw [e1, e3, e2, strLen_append, strLen_append, e4]
    omega
theorem at0 {α : Type} (a : α) (r : List α) : atI (a :: r) 0 = some a := atI_of (by decide) rfl
theorem at1 {α : Type} (a b : α) (r : List α) : atI (a :: b :: r) 1 = some b := atI_of (by decide) rfl
theorem at2 {α : Type} (a b c : α) (r : List α) : atI (a :: b :: c :: r) 2 = some c := atI_of (by decide) rfl
theorem need_bind {α β : Type} {c : Bool} {a : α} {f : α → Option β} (h : c = true) : (need c a).bind f = f a := by subst h; rfl
theorem rkT {E C e B n : Nat} {z : Bool} {xs : List An} (h : ∀ x ∈ xs, Rk e B x.pd) (hn : xs.length ≤ n) (hC : n * (B + 2) + 3 ≤ C) (hE : e + 1 ≤ E) : Rk E C (An.tup z xs).pd := (ra_tup h).mono hE (Nat.le_trans (Nat.add_le_add_right (Nat.mul_le_mul_right _ hn) 3) hC)
theorem rkLs {E C e B n : Nat} {xs : List An} (h : ∀ x ∈ xs, Rk e B x.pd) (hn : xs.length ≤ n) (hC : n * (B + 2) + 3 ≤ C) (hE : e + 1 ≤ E) : Rk E C (An.lst xs).pd := (ra_lst h).mono hE (Nat.le_trans (Nat.le_trans (Nat.add_le_add_right (Nat.mul_le_mul_right _ hn) 2) (by omega)) hC)
theorem fa_nil {α : Type} {P : α → Prop} : ∀ x ∈ ([] : List α), P x := fun _ h => nomatch h
theorem fa_cons {α : Type} {P : α → Prop} {a : α} {l : List α} (h : P a) (t : ∀ x ∈ l, P x) : ∀ x ∈ a :: l, P x := fun x hx => (List.mem_cons.mp hx).elim (fun e => e ▸ h) (t x)
theorem fa_app {α : Type} {P : α → Prop} {l m : List α} (h : ∀ x ∈ l, P x) (t : ∀ x ∈ m, P x) : ∀ x ∈ l ++ m, P x := fun x hx => (List.mem_append.mp hx).elim (h x) (t x)
theorem fa_map {α β : Type} {P : β → Prop} {f : α → β} {l : List α} (h : ∀ x ∈ l, P (f x)) : ∀ x ∈ l.map f, P x := fun x hx => by obtain ⟨y, hy, rfl⟩ := List.mem_map.mp hx; exact h y hy
theorem fa_mono {α : Type} {P Q : α → Prop} {l : List α} (h : ∀ x ∈ l, P x) (k : ∀ x, P x → Q x) : ∀ x ∈ l, Q x := fun x hx => k x (h x hx)
theorem cut_mem {α : Type} {xs : List α} {lo hi : Option Int} {x : α} (h : x ∈ cutL xs lo hi) : x ∈ xs := List.mem_of_mem_drop (List.mem_of_mem_take h)
theorem fa_cut {α : Type} {P : α → Prop} {l : List α} {lo hi : Option Int} (h : ∀ x ∈ l, P x) : ∀ x ∈ cutL l lo hi, P x := fun x hx => h x (cut_mem hx)
theorem cut_length_le {α : Type} (xs : List α) (lo hi : Option Int) : (cutL xs lo hi).length ≤ xs.length := by
  unfold cutL
  rw [List.length_take, List.length_drop]; omega
theorem repTM_of {α : Type} {xs : List α} {i : Int} (h : -(2 ^ 63) ≤ i ∧ i ≤ 1000) (h2 : xs.length ≤ 1000) : repTM xs i = some (repL xs i.toNat) := need_eq (decide_eq_true ⟨h.1, h.2, h2⟩)
theorem repL_mem {α : Type} {xs : List α} {n : Nat} {x : α} (h : x ∈ repL xs n) : x ∈ xs := by
  unfold repL at h
  obtain ⟨l, hl, hx⟩ := List.mem_flatten.mp h
  rw [List.eq_of_mem_replicate hl] at hx
  exact hx
theorem repL_len {α : Type} (xs : List α) (n : Nat) : (repL xs n).length = n * xs.length := by
  unfold repL
  rw [List.length_flatten, List.map_replicate, List.sum_replicate_nat]
theorem fa_rep {α : Type} {P : α → Prop} {l : List α} {n : Nat} (h : ∀ x ∈ l, P x) : ∀ x ∈ repL l n, P x := fun x hx => h x (repL_mem hx)
theorem dput0 {α β : Type} [DecidableEq α] (a : α) (b : β) : dputM ([] : List (α × β)) a b = some [(a, b)] := rfl
theorem ret_thenF {σ ρ β : Type} {s : σ} {k : σ → Option β} {e : ρ → Option β} {P : β → Prop} (h : Ret (k s) P) : Ret (thenF (.nx s) k e) P := h
/-! ### plain: the signs of a repr -/
def Lw (d : PyData) : Prop := ∀ c ∈ d.shown.cps.toList, c < 1000
theorem lw_int (i : Int) : Lw (.int i) := fun c hc => by
  simp only [PyData.shown] at hc
  by_cases h : c < 1000
  · exact h
  · exact absurd hc (PyProof.Rows.int_text_free' c ⟨by omega, by omega⟩ i)
theorem lw_none : Lw .none := fun c hc => by
  simp only [PyData.shown] at hc
  have : ∀ c ∈ (("None" : String) : Str).cps.toList, c < 1000 := by decide +kernel
  exact this c hc
theorem join_mem {c : Nat} : ∀ {sep : Sg} {xs : List Sg}, c ∈ TL.joinL sep xs → c ∈ sep ∨ ∃ x ∈ xs, c ∈ x
  | _, [], h => by simp [TL.joinL] at h
  | _, [x], h => .inr ⟨x, by simp, by simpa [TL.joinL] using h⟩
  | sep, x :: y :: r, h => by
    have e : TL.joinL sep (x :: y :: r) = x ++ (sep ++ TL.joinL sep (y :: r)) := rfl
    rw [e, List.mem_append, List.mem_append] at h
    rcases h with h | h | h
    · exact .inr ⟨x, by simp, h⟩
    · exact .inl h
    · rcases join_mem h with h | ⟨z, hz, h⟩
      · exact .inl h
      · exact .inr ⟨z, List.mem_cons_of_mem _ hz, h⟩
theorem shownAll_map (ds : List PyData) : PyData.shownAll ds = ds.map PyData.shown := by
  induction ds with
  | nil => simp [PyData.shownAll]
  | cons d ds ih => simp [PyData.shownAll, ih]
theorem join_low {ts : List Str} (h : ∀ t ∈ ts, ∀ c ∈ t.cps.toList, c < 1000) : ∀ c ∈ (Str.join ", " ts).cps.toList, c < 1000 := fun c hc => by
  have hs : ∀ c ∈ ((", " : String) : Str).cps.toList, c < 1000 := by decide +kernel
  have e : (Str.join ", " ts).cps.toList = TL.joinL ((", " : String) : Str).cps.toList (ts.map fun t => t.cps.toList) := by
    have := TL.tl_join ((", " : String) : Str) ts
    first | exact this | simpa using this
  rw [e] at hc
  rcases join_mem hc with h1 | ⟨x, hx, h1⟩
  · exact hs c h1
  · obtain ⟨t, ht, rfl⟩ := List.mem_map.mp hx
    exact h t ht c h1
theorem lw_tup {ds : List PyData} (h : ∀ d ∈ ds, Lw d) : Lw (.tuple ds) := fun c hc => by
  simp only [PyData.shown] at hc
  rw [shownAll_map] at hc
  unfold tupleText at hc
  have h1 : ∀ c ∈ (("(" : String) : Str).cps.toList, c < 1000 := by decide +kernel
  have h2 : ∀ b : Bool, ∀ c ∈ (((if b then ",)" else ")" : String)) : Str).cps.toList, c < 1000 := by decide +kernel
  rw [Str.cps_append, Array.toList_append, Str.cps_append, Array.toList_append, List.mem_append, List.mem_append] at hc
  rcases hc with (hc | hc) | hc
  · exact h1 c hc
  · exact join_low (fun t ht => by obtain ⟨d, hd, rfl⟩ := List.mem_map.mp ht; exact h d hd) c hc
  · exact h2 _ c hc
/-- a text that a repr is: its own repr -/
theorem ra_shown {e B : Nat} {d : PyData} (h : Rk e B d) (l : Lw d) : Rk 0 (10 * B + 2) (An.str d.shown.cps.toList).pd := ra_str (fun c hc => Nat.lt_trans (l c hc) (by decide)) (by
  have := h.ln
  have e : d.shown.cps.toList.length = d.shown.length := by simp [Str.length]
  omega)

/-! ### plain: what the law draws -/
def PoolOk (p : List Int) : Prop := ∃ a b : Int, p = [a, b] ∧ 0 ≤ a ∧ 0 ≤ b
theorem take_ret {p : List Int} {many : Int} (hp : PoolOk p) (h : 0 < many) (h2 : many < 1073741824) : Ret (m__law_take p many) (fun r => (0 ≤ r.1 ∧ r.1 < many) ∧ PoolOk r.2) := by
  obtain ⟨a, b, rfl, ha, hb⟩ := hp
  unfold m__law_take
  refine Ret.eq (atI_of (Int.le_refl 0) rfl) ?_
  cases hd : decide (a = 0) with
  | true =>
    refine Ret.eq (a := b) (atI_of (i := 1) (by decide) rfl) ?_
    refine Ret.eq (modM_of h) ?_
    refine Ret.eq (a := b) (atI_of (i := 1) (by decide) rfl) ?_
    refine Ret.eq (divM_of h h2) ?_
    refine Ret.eq (setM_of (i := 1) (by decide) (by show (1 : Int) < 2; decide)) ?_
    exact Ret.pure ⟨⟨Int.emod_nonneg _ (by omega), Int.emod_lt_of_pos _ h⟩, a, b / many, rfl, ha, Int.ediv_nonneg hb (by omega)⟩
  | false =>
    refine Ret.eq (a := a) (atI_of (i := 0) (by decide) rfl) ?_
    refine Ret.eq (modM_of h) ?_
    refine Ret.eq (a := a) (atI_of (i := 0) (by decide) rfl) ?_
    refine Ret.eq (divM_of h h2) ?_
    refine Ret.eq (setM_of (i := 0) (by decide) (by show (0 : Int) < 2; decide)) ?_
    exact Ret.pure ⟨⟨Int.emod_nonneg _ (by omega), Int.emod_lt_of_pos _ h⟩, a / many, b, rfl, Int.ediv_nonneg ha (by omega), hb⟩
theorem cell_ret (s : List Int) {k : Int} (h0 : 0 ≤ k) : Ret (m__law_cell_at s k) (fun _ => True) := by
  unfold m__law_cell_at
  refine Ret.ite (fun h => ?_) fun _ => Ret.pure trivial
  exact Ret.eq (atI_lt h0 (of_decide_eq_true h)) (Ret.pure trivial)
theorem pool_ret (s : List Int) {k : Int} (h0 : 0 ≤ k) : Ret (m__law_pool s k) PoolOk := by
  unfold m__law_pool
  refine Ret.bind (cell_ret s h0) fun cell _ => ?_
  refine Ret.eq (uptoM_of (by decide) (by decide) (by decide) (by decide)) ?_
  refine Ret.bind (ret_foldO (fun _ s => (0 : Int) ≤ s) (Int.le_refl 0) fun i big turn hx hb => ?_) fun big hb => ?_
  · have ht := upto_get hx
    refine Ret.eq (mulM_of (.inr (by omega))) ?_
    refine Ret.eq (mulM_of (.inl (by omega))) ?_
    exact Ret.pure (by omega)
  · have hb2 : b2 (decide ((1000000000000000000 : Int) ≤ cell)) = 0 ∨ (b2 (decide ((1000000000000000000 : Int) ≤ cell)) = 1 ∧ 0 ≤ cell) := by
      by_cases h : (1000000000000000000 : Int) ≤ cell
      · rw [decide_eq_true h]; exact .inr ⟨rfl, by omega⟩
      · rw [decide_eq_false h]; exact .inl rfl
    refine Ret.eq (mulM_of (.inr (by rcases hb2 with h | ⟨h, _⟩ <;> rw [h] <;> decide))) ?_
    refine Ret.pure ⟨_, _, rfl, ?_, hb⟩
    rcases hb2 with h | ⟨h, h1⟩ <;> rw [h] <;> omega
def LettersOk (ls : List Sg) : Prop := 1 ≤ ls.length ∧ ls.length ≤ 26 ∧ ∀ x ∈ ls, ∃ c, x = [c] ∧ 97 ≤ c ∧ c ≤ 122
theorem letters_ret {p : List Int} (hp : PoolOk p) : Ret (m__law_letters p) (fun r => LettersOk r.1 ∧ PoolOk r.2) := by
  unfold m__law_letters
  refine Ret.bind (take_ret hp (by decide) (by decide)) fun r1 ⟨h1, hp⟩ => ?_
  refine Ret.bind (ret_in h1.1 h1.2) fun many hm => ?_
  have hm2 : 1 ≤ many ∧ many ≤ 26 := by simp at hm; omega
  refine Ret.bind (take_ret hp (by decide) (by decide)) fun r2 ⟨h2, hp⟩ => ?_
  refine Ret.bind (take_ret hp (by decide) (by decide)) fun r3 ⟨h3, hp⟩ => ?_
  refine Ret.bind (ret_in h3.1 h3.2) fun by_ hb => ?_
  have hb2 : 1 ≤ by_ ∧ by_ ≤ 25 := by simp at hb; omega
  refine Ret.eq (uptoM_of (by decide) (by decide) (by omega) (by omega)) ?_
  have hl : (upto 0 many).length = many.toNat := by rw [upto_len]; simp
  refine ret_need (szB_of (by omega)) ?_
  refine Ret.bind (ret_compS (fun x => ∃ c, x = [c] ∧ 97 ≤ c ∧ c ≤ 122) fun k hk => ?_) fun ls hls => ?_
  · have hk2 := upto_mem hk
    refine Ret.eq (mulM_of (.inl (by omega))) ?_
    refine Ret.bind (ret_in (by omega) (by show _ < (26 : Int); omega)) fun c hc => ?_
    refine Ret.pure ⟨_, rfl, c, rfl, ?_⟩
    simp at hc; omega
  · exact Ret.pure ⟨⟨by simp only; omega, by simp only; omega, hls.2⟩, hp⟩
/-- the line of places above the last one -/
structure LineOk (line ups : List Int) : Prop where
  pos : 1 ≤ line.length
  most : line.length ≤ ups.length
  low : ∀ (i j : Nat) (a b : Int), i ≤ j → line[i]? = some a → line[j]? = some b → (0 ≤ a ∧ 0 ≤ b ∧ b < ups.length) ∧ Anc ups b.toNat a.toNat
  last : line[line.length - 1]? = some ((ups.length : Int) - 1)
theorem line_one : LineOk [0] [-1] := by
  refine ⟨by simp, by simp, fun i j a b h e1 e2 => ?_, rfl⟩
  cases i with
  | succ i => simp at e1
  | zero => cases j with
    | succ j => simp at e2
    | zero =>
      simp at e1 e2; subst e1; subst e2
      exact ⟨⟨by decide, by decide, by simp⟩, .refl 0⟩
theorem line_step {line ups : List Int} {cut p : Int} (L : LineOk line ups) (U : UpsOk ups) (h1 : 1 ≤ cut) (h2 : cut ≤ line.length) (hp : line[(cut - 1).toNat]? = some p) :
    UpsOk (ups ++ [p]) ∧ LineOk (line.take cut.toNat ++ [(ups.length : Int)]) (ups ++ [p]) := by
  have hl := L.low _ _ p _ (show (cut - 1).toNat ≤ line.length - 1 by have := L.pos; omega) hp L.last
  have ha : Anc ups (ups.length - 1) p.toNat := by
    have := hl.2
    rw [show (((ups.length : Int) - 1).toNat) = ups.length - 1 by omega] at this
    exact this
  have hpb : p < ups.length := by
    have := L.low _ _ p p (Nat.le_refl _) hp hp
    omega
  refine ⟨U.snoc hl.1.1 hpb ha, ?_⟩
  have ht : (line.take cut.toNat).length = cut.toNat := by rw [List.length_take]; omega
  refine ⟨by simp, by have := L.most; simp; omega, fun i j a b hij e1 e2 => ?_, ?_⟩
  · have tk : ∀ (i : Nat) (a : Int), i < cut.toNat → (line.take cut.toNat ++ [(ups.length : Int)])[i]? = some a → line[i]? = some a := fun i a hi e => by
      rw [List.getElem?_append_left (by omega), List.getElem?_take_of_lt hi] at e; exact e
    have tl : ∀ (j : Nat) (b : Int), ¬ j < cut.toNat → (line.take cut.toNat ++ [(ups.length : Int)])[j]? = some b → j = cut.toNat ∧ b = ups.length := fun j b hj e => by
      rw [List.getElem?_append_right (by omega), ht] at e
      by_cases h9 : j - cut.toNat = 0
      · rw [h9] at e; simp at e; exact ⟨by omega, e.symm⟩
      · rw [List.getElem?_eq_none (by simp; omega)] at e; cases e
    by_cases hj : j < cut.toNat
    · have q := L.low i j a b hij (tk i a (by omega) e1) (tk j b hj e2)
      exact ⟨⟨q.1.1, q.1.2.1, by simp; omega⟩, q.2.app⟩
    · obtain ⟨ej, eb⟩ := tl j b hj e2
      subst eb
      by_cases hi : i < cut.toNat
      · have e3 := tk i a hi e1
        have q := L.low i (cut - 1).toNat a p (by omega) e3 hp
        refine ⟨⟨q.1.1, by omega, by simp; omega⟩, ?_⟩
        rw [Int.toNat_natCast]
        refine .up (u := p) (by simp) q.1.2.1 q.2.app
      · obtain ⟨ei, ea⟩ := tl i a hi e1
        subst ea
        exact ⟨⟨by omega, by omega, by simp; omega⟩, .refl _⟩
  · rw [List.length_append, ht, show cut.toNat + [(ups.length : Int)].length - 1 = cut.toNat from by simp, List.getElem?_append_right (by omega), ht, Nat.sub_self, List.length_append]
    show some (ups.length : Int) = some (((ups.length + 1 : Nat) : Int) - 1)
    congr 1
    omega
theorem grown_ret {p : List Int} {many kind : Int} {letters : List Sg} (hp : PoolOk p) (h1 : 1 ≤ many) (h2 : many ≤ 60) (hk : 0 ≤ kind) (hk2 : kind ≤ 5) (hl : LettersOk letters) :
    Ret (m__law_grown p many kind letters) (fun r => TreeOk r.1 ∧ (r.1.1.length : Int) = many ∧ PoolOk r.2) := by
  unfold m__law_grown
  refine Ret.eq (uptoM_of (by decide) (by decide) (by omega) (by omega)) ?_
  refine Ret.bind (ret_foldO (fun i s => PoolOk s.2.1 ∧ s.2.2.length = i + 1 ∧ UpsOk s.2.2 ∧ LineOk s.1 s.2.2) ⟨hp, rfl, UpsOk.one, line_one⟩ fun i s k hx ⟨hp, hu, U, L⟩ => ?_) fun s ⟨hp, hu, U, L⟩ => ?_
  · obtain ⟨line, pool, ups⟩ := s
    have hx := upto_get hx
    have L1 : 1 ≤ line.length := L.pos
    have L2 : line.length ≤ ups.length := L.most
    simp only at hu U L hp ⊢
    refine Ret.bind (take_ret hp (by decide) (by decide)) fun r1 ⟨g1, hp⟩ => ?_
    refine Ret.bind (P := fun low : Int => 1 ≤ low ∧ low ≤ (line.length : Int)) ?_ fun low hlow => ?_
    · cases hd : decide ((4 : Int) < (line.length : Int)) with
      | true =>
        have hd := of_decide_eq_true hd
        exact Ret.of (a := 1 + r1.1) (atI_of (i := 1) (by decide) rfl) (by omega)
      | false => exact Ret.of (a := (line.length : Int)) (atI_of (i := 0) (by decide) rfl) (by omega)
    refine Ret.bind (take_ret hp (by decide) (by decide)) fun r2 ⟨g2, hp⟩ => ?_
    refine Ret.bind (take_ret hp (by omega) (by omega)) fun r3 ⟨g3, hp⟩ => ?_
    refine Ret.bind (P := fun cut : Int => 1 ≤ cut ∧ cut ≤ (line.length : Int)) ((ret_in hk (by show kind < (6 : Int); omega)).mono fun a ha => ?_) fun cut hc => ?_
    · simp only [mx_eq, List.mem_cons, List.not_mem_nil, or_false] at ha
      omega
    refine Ret.bind (ret_at (by omega) (by omega)) fun q hq => ?_
    refine Ret.eq (snocM_of (by omega)) ?_
    rw [cutL_to (by omega)]
    have ht : (line.take cut.toNat).length = cut.toNat := by rw [List.length_take]; omega
    refine Ret.eq (catLM_of (by rw [ht]; simp; omega)) ?_
    have st := line_step L U hc.1 hc.2 hq
    have ek : k = (ups.length : Int) := by omega
    subst ek
    exact Ret.pure ⟨hp, by simp [hu], st.1, st.2⟩
  · obtain ⟨line, pool, ups⟩ := s
    rw [upto_len] at hu
    simp only at hu U L hp ⊢
    obtain ⟨l1, l2, l3⟩ := hl
    refine Ret.bind (take_ret hp (by decide) (by decide)) fun way ⟨g1, hp⟩ => ?_
    refine Ret.bind (take_ret hp (by omega) (by omega)) fun r2 ⟨g2, hp⟩ => ?_
    refine Ret.bind (take_ret hp (by decide) (by decide)) fun r3 ⟨g3, hp⟩ => ?_
    refine Ret.bind (ret_in g3.1 g3.2) fun other _ => ?_
    refine Ret.eq (uptoM_of (by decide) (by decide) (by omega) (by omega)) ?_
    refine Ret.bind (ret_foldO (fun i s => s.1.length = i ∧ (∀ c ∈ s.1, 97 ≤ c ∧ c ≤ 122) ∧ PoolOk s.2) ⟨rfl, by simp, hp⟩ fun i s k hx ⟨hs, hc, hp⟩ => ?_) fun s ⟨hs, hc, hp⟩ => ?_
    · obtain ⟨labels, pool⟩ := s
      have hx := upto_get hx
      simp only at hs hc hp ⊢
      refine Ret.bind (take_ret hp (by omega) (by omega)) fun r4 ⟨g4, hp⟩ => ?_
      refine Ret.bind (P := fun x : Int => 0 ≤ x ∧ x < (letters.length : Int)) (Ret.ite (fun hw => ?_) fun _ => Ret.pure g4) fun at_ ha => ?_
      · rw [Bool.and_eq_true, decide_eq_true_iff, decide_eq_true_iff] at hw
        refine Ret.eq (modM_of (by omega)) (Ret.eq (modM_of (by omega)) (Ret.pure ⟨Int.emod_nonneg _ (by omega), Int.emod_lt_of_pos _ (by omega)⟩))
      refine Ret.bind (P := fun x : Int => 0 ≤ x ∧ x < (letters.length : Int)) (Ret.ite (fun hw => ?_) fun _ => Ret.pure ha) fun at2 ha2 => ?_
      · exact Ret.eq (modM_of (by omega)) (Ret.pure ⟨Int.emod_nonneg _ (by omega), Int.emod_lt_of_pos _ (by omega)⟩)
      refine Ret.bind (ret_in ha2.1 ha2.2) fun x hx3 => ?_
      obtain ⟨c, rfl, h97, h122⟩ := l3 x hx3
      refine Ret.eq (catM_of (by simp; omega)) ?_
      refine Ret.pure ⟨by simp [hs], fun d hd => ?_, hp⟩
      rcases List.mem_append.mp hd with h | h
      · exact hc d h
      · simp at h; subst h; exact ⟨h97, h122⟩
    · rw [upto_len] at hs
      refine Ret.pure ⟨⟨by simp only; omega, by simp only; omega, U, hc⟩, by simp only; omega, hp⟩
/-- a bough put beneath the root or behind the last place -/
theorem ups_more {ups one : List Int} {a : Int} (U : UpsOk ups) (O : UpsOk one) (ha : a = 0 ∨ a = (ups.length : Int) - 1) : UpsOk (ups ++ (a :: (one.drop 1).map fun u => u + (ups.length : Int))) := by
  have hu := U.pos
  have ho := O.pos
  have shift : ∀ k : Nat, 0 < k → k < one.length → (ups ++ (a :: (one.drop 1).map fun u => u + (ups.length : Int)))[ups.length + k]? = (one[k]?).map fun u => u + (ups.length : Int) := fun k h0 hk => by
    rw [List.getElem?_append_right (by omega), show ups.length + k - ups.length = (k - 1) + 1 by omega, List.getElem?_cons_succ, List.getElem?_map, List.getElem?_drop, show 1 + (k - 1) = k by omega]
  have anc : ∀ k b : Nat, k < one.length → Anc one k b → Anc (ups ++ (a :: (one.drop 1).map fun u => u + (ups.length : Int))) (ups.length + k) (ups.length + b) := fun k b hk h => by
    induction h with
    | refl k => exact .refl _
    | @up k b u h hu2 r ih =>
      by_cases h0 : k = 0
      · subst h0; rw [O.root] at h
        have e : -1 = u := Option.some.inj h
        omega
      · have q := O.up k u (by omega) h
        refine .up (u := u + (ups.length : Int)) (by rw [shift k (by omega) hk, h]; rfl) (by omega) ?_
        rw [show (u + (ups.length : Int)).toNat = ups.length + u.toNat by omega]
        exact ih (by omega)
  have cases_ : ∀ (k : Nat) (u : Int), (ups ++ (a :: (one.drop 1).map fun u => u + (ups.length : Int)))[k]? = some u → (k < ups.length ∧ ups[k]? = some u) ∨ (k = ups.length ∧ u = a) ∨ ∃ j v, 0 < j ∧ j < one.length ∧ k = ups.length + j ∧ one[j]? = some v ∧ u = v + (ups.length : Int) := fun k u h => by
    by_cases hk : k < ups.length
    · rw [List.getElem?_append_left hk] at h; exact .inl ⟨hk, h⟩
    · by_cases hk2 : k = ups.length
      · subst hk2
        rw [List.getElem?_append_right (by omega)] at h
        simp at h; exact .inr (.inl ⟨rfl, h.symm⟩)
      · have hl := (List.getElem?_eq_some_iff.mp h).1
        simp at hl
        have hj : k - ups.length < one.length := by omega
        have e2 : k = ups.length + (k - ups.length) := by omega
        rw [e2, shift (k - ups.length) (by omega) hj, List.getElem?_eq_getElem hj] at h
        exact .inr (.inr ⟨k - ups.length, _, by omega, hj, e2, List.getElem?_eq_getElem hj, (Option.some.inj h).symm⟩)
  have toRoot : ∀ k, k < ups.length → Anc (ups ++ (a :: (one.drop 1).map fun u => u + (ups.length : Int))) k 0 := fun k hk => (U.toRoot k hk).app
  refine ⟨get_app U.root, fun k u h0 h => ?_, fun k u h0 h => ?_⟩
  · rcases cases_ k u h with ⟨hk, e⟩ | ⟨hk, e⟩ | ⟨j, v, h1, h2, e, e2, e3⟩
    · exact U.up k u h0 e
    · rcases ha with ha | ha <;> omega
    · have := O.up j v h1 e2
      omega
  · rcases cases_ k u h with ⟨hk, e⟩ | ⟨hk, e⟩ | ⟨j, v, h1, h2, e, e2, e3⟩
    · exact (U.ch k u h0 e).app
    · subst e; subst hk
      rcases ha with ha | ha
      · subst ha; exact toRoot _ (by omega)
      · subst ha
        rw [show (((ups.length : Int) - 1).toNat) = ups.length - 1 by omega]
        exact .refl _
    · subst e; subst e3
      rw [show (v + (ups.length : Int)).toNat = ups.length + v.toNat by have := O.up j v h1 e2; omega, show ups.length + j - 1 = ups.length + (j - 1) by omega]
      exact anc (j - 1) v.toNat (by omega) (O.ch j v h1 e2)
theorem copies_ret {p : List Int} {most : Int} {letters : List Sg} (hp : PoolOk p) (h1 : 1 ≤ most) (h2 : most ≤ 60) (hl : LettersOk letters) :
    Ret (m__law_copies p most letters) (fun r => TreeOk r.1 ∧ (r.1.1.length : Int) ≤ most ∧ PoolOk r.2) := by
  unfold m__law_copies
  obtain ⟨l1, l2, l3⟩ := id hl
  refine Ret.bind (take_ret hp (by decide) (by decide)) fun r1 ⟨g1, hp⟩ => ?_
  refine Ret.bind (grown_ret hp (by omega) (by omega) (by decide) (by decide) hl) fun r2 ⟨T, hT, hp⟩ => ?_
  refine Ret.bind (take_ret hp (by decide) (by decide)) fun r3 ⟨g3, hp⟩ => ?_
  refine Ret.bind (take_ret hp (by omega) (by omega)) fun r4 ⟨g4, hp⟩ => ?_
  refine Ret.bind (ret_in g4.1 g4.2) fun x hx => ?_
  obtain ⟨c, rfl, h97, h122⟩ := l3 x hx
  refine Ret.bind (take_ret hp (by decide) (by decide)) fun r5 ⟨g5, hp⟩ => ?_
  refine Ret.eq (uptoM_of (by decide) (by decide) (by omega) (by omega)) ?_
  have hlen := T.len
  refine Ret.bind (ret_foldO (fun _ s => UpsOk s.2 ∧ s.1.length = s.2.length ∧ (s.2.length : Int) ≤ most ∧ ∀ c ∈ s.1, 97 ≤ c ∧ c ≤ 122) ⟨UpsOk.one, rfl, h1, by simp; omega⟩ fun i s k hk ⟨U, e, hm, hc⟩ => ?_) fun s ⟨U, e, hm, hc⟩ => ?_
  · obtain ⟨labels, ups⟩ := s
    simp only at U e hm hc ⊢
    have hu := U.pos
    refine Ret.ite (fun hd => ?_) fun _ => Ret.pure ⟨U, e, hm, hc⟩
    have hd := of_decide_eq_true hd
    refine Ret.bind (P := fun a => a = 0 ∨ a = (ups.length : Int) - 1) ((ret_in g3.1 (by show r3.1 < (2 : Int); omega)).mono fun a ha => by simpa using ha) fun a ha => ?_
    rw [cutL_from (by decide)]
    refine ret_need (szB_of (by rw [List.length_drop]; omega)) ?_
    refine Ret.eq (compS_map (fun u => u + (ups.length : Int)) fun _ _ => rfl) ?_
    have hl9 : (([a] : List Int) ++ (r2.1.1.drop (1 : Int).toNat).map fun u => u + (ups.length : Int)).length = r2.1.1.length := by
      have := T.ups.pos
      simp; omega
    refine Ret.eq (catLM_of (by rw [List.length_map, List.length_drop]; simp; omega)) ?_
    refine Ret.eq (catLM_of (by rw [hl9]; omega)) ?_
    refine Ret.eq (catM_of (by omega)) ?_
    refine Ret.pure ⟨ups_more U T.ups ha, ?_, ?_, fun d hd => ?_⟩
    · simp only [List.length_append, hl9]; omega
    · simp only [List.length_append, hl9]; omega
    · rcases List.mem_append.mp hd with h | h
      · exact hc d h
      · exact T.low d h
  · exact Ret.pure ⟨⟨by simp only; omega, by simp only; omega, U, hc⟩, hm, hp⟩

theorem tree_ret {p : List Int} {most : Int} {letters : List Sg} (hp : PoolOk p) (h1 : 9 ≤ most) (h2 : most ≤ 60) (hl : LettersOk letters) : Ret (m__law_tree p most letters) (fun r => TreeOk r.1 ∧ (r.1.1.length : Int) ≤ most ∧ PoolOk r.2) := by
  unfold m__law_tree
  refine Ret.bind (take_ret hp (by decide) (by decide)) fun kind ⟨g1, hp⟩ => ?_
  refine Ret.bind (take_ret hp (by decide) (by decide)) fun r2 ⟨g2, hp⟩ => ?_
  refine Ret.bind (take_ret hp (by omega) (by omega)) fun r3 ⟨g3, hp⟩ => ?_
  refine Ret.bind (take_ret hp (by decide) (by decide)) fun r4 ⟨g4, hp⟩ => ?_
  refine Ret.bind (P := fun many => 1 ≤ many ∧ many ≤ most) ((ret_in g4.1 (by show r4.1 < (3 : Int); omega)).mono fun a ha => by simp at ha; omega) fun many hm => ?_
  refine Ret.ite (fun _ => ?_) fun hd => ?_
  · exact Ret.bind (copies_ret hp (by omega) h2 hl) fun r hr => Ret.pure hr
  · have hd := of_decide_eq_false hd
    exact Ret.bind (grown_ret hp (by omega) (by omega) g1.1 (by omega) hl) fun r hr => Ret.pure ⟨hr.1, by have := hr.2.1; simp only; omega, hr.2.2⟩

theorem take_lt : ∀ (n : Nat) (x y : Sg), ltS (y.take n) (x.take n) = true → ltS y x = true
  | 0, x, y, h => by simp [ltS] at h
  | n + 1, [], y, h => by rw [List.take_nil, ltS_nil2] at h; cases h
  | n + 1, c :: x, [], h => by rw [ltS_nil]; rfl
  | n + 1, c :: x, d :: y, h => by
    rw [List.take_succ_cons, List.take_succ_cons, ltS_cons] at h
    rw [ltS_cons]
    rw [Bool.or_eq_true, Bool.and_eq_true] at *
    exact h.imp id fun ⟨a, b⟩ => ⟨a, take_lt n x y b⟩
/-- less, begins with, greater -/
theorem tri : ∀ (w x : Sg), (!ltS w (x.take w.length)) = (ltS x w || swB x w) ∧ (ltS x w && swB x w) = false
  | [], x => by
    have : swB x [] = true := by simp [swB]
    rw [this, ltS_nil2]
    simp [ltS]
  | c :: w, [] => by
    have : swB [] (c :: w) = false := by simp [swB]
    rw [this, List.take_nil, ltS_nil2, ltS_nil]
    simp
  | c :: w, d :: x => by
    have e : swB (d :: x) (c :: w) = (decide (d = c) && swB x w) := by
      unfold swB
      rw [List.length_cons, List.take_succ_cons, Bool.eq_iff_iff]
      simp
    obtain ⟨h1, h2⟩ := tri w x
    rw [e, List.length_cons, List.take_succ_cons, ltS_cons, ltS_cons]
    rcases Nat.lt_trichotomy d c with h | h | h
    · have a1 : decide (c < d) = false := decide_eq_false (by omega)
      have a2 : decide (c = d) = false := decide_eq_false (by omega)
      have a3 : decide (d < c) = true := decide_eq_true h
      have a4 : decide (d = c) = false := decide_eq_false (by omega)
      rw [a1, a2, a3, a4]; simp
    · subst h
      have a1 : decide (d < d) = false := decide_eq_false (by omega)
      have a2 : decide (d = d) = true := decide_eq_true rfl
      rw [a1, a2]
      simp only [Bool.false_or, Bool.true_and]
      exact ⟨h1, h2⟩
    · have a1 : decide (c < d) = true := decide_eq_true h
      have a2 : decide (c = d) = false := decide_eq_false (by omega)
      have a3 : decide (d < c) = false := decide_eq_false (by omega)
      have a4 : decide (d = c) = false := decide_eq_false (by omega)
      rw [a1, a2, a3, a4]; simp

/-! ### plain: ways -/
def wy (t : Tre) (k : Nat) : Sg := (wd t k).reverse
def ways (t : Tre) : List Sg := (List.range t.1.length).map (wy t)

theorem law_ways_eq {t : Tre} (T : TreeOk t) : m__law_ways t = some (ways t) := by
  have hl := T.len
  have hm := T.most
  unfold m__law_ways
  obtain ⟨s, e, hs⟩ := ret_foldO (xs := enumL t.1) (s := ([] : List Sg)) (f := fun s30 a29 => (if (decide ((0 : Int) ≤ a29.2)) = true then (atI s30 a29.2).bind fun a54 => some a54 else some ([] : Sg)).bind fun c52 => (atI t.2 a29.1).bind fun c58 => (catM c52 [c58]).bind fun t59 => (snocM s30 t59).bind fun l60 => some l60)
    (fun i s => s = (List.range i).map (wy t)) rfl fun i s x hx hs => by
      obtain ⟨h1, h2⟩ := enumL_get hx
      have hi := (List.getElem?_eq_some_iff.mp h2).1
      have hc := List.getElem?_eq_getElem (show i < t.2.length by omega)
      have wl := wd_len T.ups i hi
      refine Ret.bind (P := fun c => c ++ [t.2[i]] = wy t i) ?_ fun c hcw => ?_
      · refine Ret.ite (fun hd => ?_) fun hd => ?_
        · have hd := of_decide_eq_true hd
          have h0 : 0 < i := by
            rcases Nat.eq_zero_or_pos i with z | z
            · subst z; rw [T.ups.root] at h2; have := Option.some.inj h2; omega
            · exact z
          obtain ⟨a, b⟩ := T.ups.up i _ h0 h2
          have hb : x.2.toNat < i := by omega
          refine Ret.eq (a := wy t x.2.toNat) (atI_of hd (by subst hs; rw [List.getElem?_map, List.getElem?_range hb]; rfl)) (Ret.pure ?_)
          unfold wy
          rw [wd_up T.ups h0 h2, getD_of hc, List.reverse_cons]
        · have hd := of_decide_eq_false hd
          have h0 : i = 0 := by
            rcases Nat.eq_zero_or_pos i with z | z
            · exact z
            · obtain ⟨a, b⟩ := T.ups.up i _ z h2
              omega
          subst h0
          refine Ret.pure ?_
          unfold wy
          rw [wd_root T.ups, getD_of hc]; rfl
      rw [h1]
      refine Ret.eq (atI_nat hc) ?_
      have hlen : (c ++ [t.2[i]]).length ≤ i + 1 := by rw [hcw]; unfold wy; rw [List.length_reverse]; exact wl.2
      refine Ret.eq (catM_of (by rw [List.length_append] at hlen; omega)) ?_
      rw [hcw]
      refine Ret.eq (snocM_of (by subst hs; simp; omega)) (Ret.pure ?_)
      rw [hs, List.range_succ, List.map_append]; rfl
  rw [e]
  show some s = _
  rw [hs, enumL_len]; rfl

/-! ### plain: the trie drawn -/
structure WaysOk (ws : List Sg) (c0 : Nat) : Prop where
  len : ws.length ≤ 60
  root : [c0] ∈ ws
  fst : ∀ w ∈ ws, ∃ r, w = c0 :: r
  low : ∀ w ∈ ws, ∀ c ∈ w, 97 ≤ c ∧ c ≤ 122
  most : ∀ w ∈ ws, w.length ≤ 60
  clo : ∀ w ∈ ws, 1 < w.length → w.dropLast ∈ ws
def upR (ws : List Sg) (w : Sg) : Int := if 1 < w.length then (rk ltS ws w.dropLast : Int) else -1
def trieL (ws : List Sg) : Tre := ((ssetL ltS ws).map (upR ws), (ssetL ltS ws).map fun w => w.getD (w.length - 1) 0)
theorem WaysOk.ne {ws : List Sg} {c0 : Nat} (W : WaysOk ws c0) {w : Sg} (h : w ∈ ws) : w ≠ [] := by
  obtain ⟨r, e⟩ := W.fst w h
  rw [e]; exact List.cons_ne_nil _ _
theorem lkp_in {ws : List Sg} {a : Sg} (h : a ∈ ws) : lkp (ofPairs ((enumL (ssetL ltS ws)).map fun p => (p.2, p.1))) a = some (rk ltS ws a : Int) := lkp_enum sset_nd (rk_get lo_S h)
theorem lkp_out {ws : List Sg} {a : Sg} (h : a ∉ ws) : lkp (ofPairs ((enumL (ssetL ltS ws)).map fun p => (p.2, p.1))) a = none := by
  have e : ((enumL (ssetL ltS ws)).map fun p => (p.2, p.1)).map Prod.fst = ssetL ltS ws := by rw [List.map_map]; exact enumL_snd _
  rw [ofPairs_nd (by rw [e]; exact sset_nd)]
  unfold lkp
  rw [List.find?_eq_none.mpr fun p hp => ?_]
  · rfl
  · intro z
    have : p.1 ∈ ssetL ltS ws := by rw [← e]; exact List.mem_map.mpr ⟨p, hp, rfl⟩
    rw [of_decide_eq_true z] at this
    exact h (sset_mem.mp this)
theorem cut_last (w : Sg) : cutL w none (some (-1 : Int)) = w.dropLast := by
  unfold cutL
  have e : HT.sIx w.length w.length (some (-1 : Int)) = w.length - 1 := by
    unfold HT.sIx
    simp
    omega
  rw [HT.sIx_none, e, List.drop_zero, Nat.sub_zero, List.dropLast_eq_take]
theorem atI_last {w : Sg} (h : w ≠ []) : atI w (-1) = some (w.getD (w.length - 1) 0) := by
  have hl : 0 < w.length := List.length_pos_iff.mpr h
  have e := List.getElem?_eq_getElem (show w.length - 1 < w.length by omega)
  rw [atI_neg (by decide) (by omega), show ((-1 : Int) + (w.length : Int)).toNat = w.length - 1 by omega, e, getD_of e]
theorem join_one (xs : List Nat) (h : xs.length ≤ 1000) : joinM [] (xs.map fun c => [c]) = some xs := by
  have e : (xs.map fun c => [c]).flatten = xs := by
    induction xs with
    | nil => rfl
    | cons x xs ih => rw [List.map_cons, List.flatten_cons, ih (by simp at h; omega)]; rfl
  have s : ((xs.map fun c => [c]).map List.length).sum = xs.length := by
    clear e h
    induction xs with
    | nil => rfl
    | cons x xs ih => rw [List.map_cons, List.map_cons, List.sum_cons, ih]; simp; omega
  rw [joinM_of (by rw [s]; simp; omega), joinL_nil, e]
theorem labels_ret {ws : List Sg} {c0 : Nat} (W : WaysOk ws c0) : Ret ((need (szB (ssetL ltS ws).length) ()).bind fun _ => (compS (ssetL ltS ws) fun a82 => (atI a82 (-1 : Int)).bind fun c102 => some (some [c102])).bind fun q81 => joinM ([] : Sg) q81) (fun r => r = (trieL ws).2) := by
  have hl := sset_len (lt := ltS) (xs := ws)
  have hw := W.len
  refine ret_need (szB_of (by omega)) (Ret.eq (compS_map (fun w : Sg => [w.getD (w.length - 1) 0]) fun w hw => ?_) (Ret.of ?_ rfl))
  · rw [atI_last (W.ne (sset_mem.mp hw))]; rfl
  · have := join_one (trieL ws).2 (by unfold trieL; rw [List.length_map]; omega)
    rw [show (trieL ws).2.map (fun c => [c]) = (ssetL ltS ws).map fun w => [w.getD (w.length - 1) 0] by unfold trieL; rw [List.map_map]; rfl] at this
    exact this
theorem sk_txt {s : Sg} (h : ∀ c ∈ s, 97 ≤ c ∧ c ≤ 122) : Sk1 0 (dS.d s) := sk_str fun c hc => by have := h c hc; omega
theorem eqB_in {ws : List Sg} {c0 : Nat} (W : WaysOk ws c0) {a : Sg} (h : a ∈ ws) : eqB (dS.d a) (.list ((ssetL ltS ws).map dS.d)) = true :=
  eqB_of (sk_txt (W.low a h)) (sk_list (sks_all fun d hd => by
    obtain ⟨x, hx, rfl⟩ := List.mem_map.mp hd
    exact sk_txt (W.low x (sset_mem.mp hx)))) (by decide) (by decide)
theorem law_trie_eq {ws : List Sg} {c0 : Nat} (W : WaysOk ws c0) : m__law_trie ws = some (trieL ws) := by
  have hl := sset_len (lt := ltS) (xs := ws)
  have hw := W.len
  unfold m__law_trie
  refine Ret.val (P := fun r => r = trieL ws) (ret_need (show ssetB 3999 ws = true from decide_eq_true (by omega)) (Ret.bind (P := fun s => s = (trieL ws).1) ((ret_foldO (fun i s => s = ((ssetL ltS ws).take i).map (upR ws)) rfl fun i s w hw hs => ?_).mono fun s hs => by rw [hs, List.take_length]; rfl) fun s hs => ?_)) fun _ e => e
  · have hm := sset_mem.mp (List.mem_of_getElem? hw)
    have hi := (List.getElem?_eq_some_iff.mp hw).1
    rw [cut_last]
    refine Ret.bind (P := fun r => r = upR ws w) (Ret.ite (fun h => ?_) fun h => Ret.pure ?_) fun r hr => ?_
    · have h1 : 1 < w.length := by have := of_decide_eq_true h; omega
      refine ret_need (eqB_in W (W.clo w hm h1)) (Ret.eq (idx_rk lo_S (W.clo w hm h1)) (Ret.pure ?_))
      unfold upR
      rw [if_pos h1]
    · have := of_decide_eq_false h
      unfold upR
      rw [if_neg (by omega)]
    · subst hr
      refine Ret.eq (snocM_of (by rw [hs, List.length_map, List.length_take]; omega)) (Ret.pure ?_)
      rw [hs, List.take_succ_eq_append_getElem hi, List.map_append, (List.getElem?_eq_some_iff.mp hw).2]
      rfl
  · subst hs
    obtain ⟨r, hr, rfl⟩ := labels_ret W
    obtain ⟨u, hu, hr⟩ := Option.bind_eq_some_iff.mp hr
    obtain ⟨q, hq, hr⟩ := Option.bind_eq_some_iff.mp hr
    exact Ret.eq hu (Ret.eq hq (Ret.eq hr (Ret.pure rfl)))
theorem lt_dropLast : ∀ w : Sg, w ≠ [] → ltS w.dropLast w = true
  | [], h => absurd rfl h
  | [c], _ => by rw [show ([c] : Sg).dropLast = [] from rfl, ltS_nil]; rfl
  | c :: d :: r, _ => by
    rw [List.dropLast_cons₂, ltS_cons, lt_dropLast (d :: r) (List.cons_ne_nil _ _), decide_eq_true rfl]
    simp
theorem lt_past : ∀ (p x : Sg) (c : Nat), ltS p (x.take p.length) = true → ltS (p ++ [c]) x = true
  | [], x, c, h => by simp [ltS] at h
  | a :: p, [], c, h => by rw [List.take_nil, ltS_nil2] at h; cases h
  | a :: p, b :: x, c, h => by
    rw [List.length_cons, List.take_succ_cons, ltS_cons, Bool.or_eq_true, Bool.and_eq_true] at h
    rw [List.cons_append, ltS_cons, Bool.or_eq_true, Bool.and_eq_true]
    exact h.imp id fun ⟨e, h⟩ => ⟨e, lt_past p x c h⟩
theorem anc_pref {ws : List Sg} {c0 : Nat} (W : WaysOk ws c0) {p : Sg} (hp : p ≠ []) : ∀ (n : Nat) (x : Sg), x ∈ ws → x.length = p.length + n → x.take p.length = p → Anc (trieL ws).1 (rk ltS ws x) (rk ltS ws p)
  | 0, x, hx, hl, ht => by
    rw [List.take_of_length_le (by omega)] at ht
    rw [ht]; exact .refl _
  | n + 1, x, hx, hl, ht => by
    have hp2 : 0 < p.length := List.length_pos_iff.mpr hp
    have hd := W.clo x hx (by omega)
    have ih := anc_pref W hp n x.dropLast hd (by rw [List.length_dropLast]; omega) (by
      rw [List.dropLast_eq_take, List.take_take, Nat.min_eq_left (by omega)]; exact ht)
    have e : (trieL ws).1[rk ltS ws x]? = some ((rk ltS ws x.dropLast : Nat) : Int) := by
      unfold trieL
      rw [List.getElem?_map, rk_get lo_S hx]
      show some (upR ws x) = _
      unfold upR
      rw [if_pos (by omega)]
    refine .up e (by omega) ?_
    rw [Int.toNat_natCast]
    exact ih
theorem trie_ok {ws : List Sg} {c0 : Nat} (W : WaysOk ws c0) : TreeOk (trieL ws) := by
  have hl := sset_len (lt := ltS) (xs := ws)
  have hw := W.len
  have l1 : (trieL ws).1.length = (ssetL ltS ws).length := by unfold trieL; rw [List.length_map]
  have l2 : (trieL ws).2.length = (ssetL ltS ws).length := by unfold trieL; rw [List.length_map]
  have r0 : rk ltS ws [c0] = 0 := by
    unfold rk
    rw [List.length_eq_zero_iff, List.filter_eq_nil_iff]
    intro x hx
    obtain ⟨r, e⟩ := W.fst x (mem_uq.mp hx)
    rw [e, ltS_cons, ltS_nil2, decide_eq_false (by omega)]
    simp
  have g0 : (ssetL ltS ws)[0]? = some [c0] := by
    have := rk_get lo_S W.root
    rw [r0] at this; exact this
  -- a place: its way
  have pl : ∀ k u, 0 < k → (trieL ws).1[k]? = some u → ∃ w, (ssetL ltS ws)[k]? = some w ∧ w ∈ ws ∧ 1 < w.length ∧ u = (rk ltS ws w.dropLast : Int) ∧ rk ltS ws w = k := fun k u h0 hu => by
    have hk := (List.getElem?_eq_some_iff.mp hu).1
    rw [l1] at hk
    have e := List.getElem?_eq_getElem hk
    have hm := sset_mem.mp (List.mem_of_getElem? e)
    have rk1 := rk_at lo_S e
    have h1 : 1 < (ssetL ltS ws)[k].length := by
      obtain ⟨r, er⟩ := W.fst _ hm
      rcases Nat.lt_or_ge 1 (ssetL ltS ws)[k].length with h | h
      · exact h
      · exfalso
        rw [er, List.length_cons] at h
        have : r = [] := List.length_eq_zero_iff.mp (by omega)
        rw [er, this] at rk1
        omega
    refine ⟨_, e, hm, h1, ?_, rk1⟩
    unfold trieL at hu
    rw [List.getElem?_map, e] at hu
    have hu : upR ws (ssetL ltS ws)[k] = u := Option.some.inj hu
    unfold upR at hu
    rw [if_pos h1] at hu
    exact hu.symm
  refine ⟨by rw [l1, l2], by omega, ⟨?_, fun k u h0 hu => ?_, fun k u h0 hu => ?_⟩, fun c hc => ?_⟩
  · unfold trieL
    rw [List.getElem?_map, g0]
    rfl
  · obtain ⟨w, e, hm, h1, rfl, rw1⟩ := pl k u h0 hu
    have := (rk_lt lo_S (W.clo w hm h1) hm).mpr (lt_dropLast w (W.ne hm))
    omega
  · obtain ⟨w, e, hm, h1, rfl, rw1⟩ := pl k u h0 hu
    rw [Int.toNat_natCast]
    have hlt := (rk_lt lo_S (W.clo w hm h1) hm).mpr (lt_dropLast w (W.ne hm))
    have hk := (List.getElem?_eq_some_iff.mp e).1
    have ex := List.getElem?_eq_getElem (show k - 1 < (ssetL ltS ws).length by omega)
    have hx := sset_mem.mp (List.mem_of_getElem? ex)
    have rx := rk_at lo_S ex
    generalize (ssetL ltS ws)[k - 1] = x at ex hx rx
    have dne : w.dropLast ≠ [] := W.ne (W.clo w hm h1)
    have ew : w = w.dropLast ++ [w.getLast (W.ne hm)] := (List.dropLast_concat_getLast (W.ne hm)).symm
    -- the way ahead begins with what stands above
    have pre : swB x w.dropLast = true := by
      have t := (tri w.dropLast x).1
      cases es : swB x w.dropLast with
      | true => rfl
      | false =>
        exfalso
        rw [es, Bool.or_false] at t
        have a1 : ltS x w.dropLast = false := by
          cases z : ltS x w.dropLast with
          | false => rfl
          | true =>
            have := (rk_lt lo_S hx (W.clo w hm h1)).mpr z
            omega
        rw [a1] at t
        have a2 : ltS w.dropLast (x.take w.dropLast.length) = true := by simpa using t
        have a3 := lt_past _ _ (w.getLast (W.ne hm)) a2
        rw [← ew] at a3
        have := (rk_lt lo_S hm hx).mpr a3
        omega
    unfold swB at pre
    have pre := of_decide_eq_true pre
    have ll := congrArg List.length pre
    rw [List.length_take] at ll
    have := anc_pref W dne (x.length - w.dropLast.length) x hx (by omega) pre
    rw [rx] at this
    exact this
  · unfold trieL at hc
    obtain ⟨w, hm, rfl⟩ := List.mem_map.mp hc
    have hm := sset_mem.mp hm
    have hl : 0 < w.length := List.length_pos_iff.mpr (W.ne hm)
    have e := List.getElem?_eq_getElem (show w.length - 1 < w.length by omega)
    rw [getD_of e]
    exact W.low w hm _ (List.mem_of_getElem? e)
theorem wy_up {t : Tre} (T : TreeOk t) {k : Nat} {u : Int} (h0 : 0 < k) (h : t.1[k]? = some u) : wy t k = wy t u.toNat ++ [t.2.getD k 0] := by
  unfold wy
  rw [wd_up T.ups h0 h, List.reverse_cons]
theorem ways_ok {t : Tre} (T : TreeOk t) : WaysOk (ways t) (t.2.getD 0 0) := by
  have hn := T.ups.pos
  have hm := T.most
  have w0 : wy t 0 = [t.2.getD 0 0] := by unfold wy; rw [wd_root T.ups]; rfl
  have mem : ∀ k, k < t.1.length → wy t k ∈ ways t := fun k hk => List.mem_map.mpr ⟨k, List.mem_range.mpr hk, rfl⟩
  refine ⟨by unfold ways; rw [List.length_map, List.length_range]; exact hm, by rw [← w0]; exact mem 0 hn, fun w hw => ?_, fun w hw c hc => ?_, fun w hw => ?_, fun w hw h1 => ?_⟩ <;> obtain ⟨k, hk, rfl⟩ := List.mem_map.mp hw <;> have hk := List.mem_range.mp hk
  · clear hw
    induction k using Nat.strongRecOn with
    | _ k ih =>
      rcases Nat.eq_zero_or_pos k with z | z
      · subst z; exact ⟨[], w0⟩
      · have e := List.getElem?_eq_getElem hk
        have hb := T.ups.up _ _ z e
        obtain ⟨r, hr⟩ := ih _ (show t.1[k].toNat < k by omega) (List.mem_range.mpr (by omega)) (by omega)
        exact ⟨r ++ [t.2.getD k 0], by rw [wy_up T z e, hr]; rfl⟩
  · exact wd_low T k hk c (by unfold wy at hc; exact List.mem_reverse.mp hc)
  · have := (wd_len T.ups k hk).2
    unfold wy
    rw [List.length_reverse]; omega
  · rcases Nat.eq_zero_or_pos k with z | z
    · subst z; rw [w0] at h1; simp at h1
    · have e := List.getElem?_eq_getElem hk
      have hb := T.ups.up _ _ z e
      rw [wy_up T z e, List.dropLast_concat]
      exact mem _ (by omega)
theorem pl_trie {ws : List Sg} {c0 : Nat} (W : WaysOk ws c0) {k : Nat} (hk : k < (ssetL ltS ws).length) (h0 : 0 < k) : ∃ w, (ssetL ltS ws)[k]? = some w ∧ w ∈ ws ∧ 1 < w.length ∧ (trieL ws).1[k]? = some ((rk ltS ws w.dropLast : Nat) : Int) := by
  have e := List.getElem?_eq_getElem hk
  have hm := sset_mem.mp (List.mem_of_getElem? e)
  have rk1 := rk_at lo_S e
  have r0 : rk ltS ws [c0] = 0 := by
    unfold rk
    rw [List.length_eq_zero_iff, List.filter_eq_nil_iff]
    intro x hx
    obtain ⟨r, e⟩ := W.fst x (mem_uq.mp hx)
    rw [e, ltS_cons, ltS_nil2, decide_eq_false (by omega)]
    simp
  have h1 : 1 < (ssetL ltS ws)[k].length := by
    obtain ⟨r, er⟩ := W.fst _ hm
    rcases Nat.lt_or_ge 1 (ssetL ltS ws)[k].length with h | h
    · exact h
    · exfalso
      rw [er, List.length_cons] at h
      have : r = [] := List.length_eq_zero_iff.mp (by omega)
      rw [er, this] at rk1
      omega
  refine ⟨_, e, hm, h1, ?_⟩
  unfold trieL
  rw [List.getElem?_map, e]
  show some (upR ws _) = _
  unfold upR
  rw [if_pos h1]
theorem lab_trie {ws : List Sg} {k : Nat} {w : Sg} (h : (ssetL ltS ws)[k]? = some w) : (trieL ws).2.getD k 0 = w.getD (w.length - 1) 0 := getD_of (by unfold trieL; rw [List.getElem?_map, h]; rfl)
theorem last_eq {w : Sg} (h : w ≠ []) : w.dropLast ++ [w.getD (w.length - 1) 0] = w := by
  have hl : 0 < w.length := List.length_pos_iff.mpr h
  have e := List.getElem?_eq_getElem (show w.length - 1 < w.length by omega)
  rw [getD_of e, List.dropLast_eq_take]
  have := List.take_succ_eq_append_getElem (show w.length - 1 < w.length by omega)
  rw [show w.length - 1 + 1 = w.length by omega, List.take_length] at this
  exact this.symm
theorem wy_trie {ws : List Sg} {c0 : Nat} (W : WaysOk ws c0) : ∀ k w, (ssetL ltS ws)[k]? = some w → wy (trieL ws) k = w := by
  have T := trie_ok W
  intro k
  induction k using Nat.strongRecOn with
  | _ k ih =>
    intro w hw
    have hk := (List.getElem?_eq_some_iff.mp hw).1
    have hm := sset_mem.mp (List.mem_of_getElem? hw)
    rcases Nat.eq_zero_or_pos k with z | z
    · subst z
      have e : wy (trieL ws) 0 = [(trieL ws).2.getD 0 0] := by unfold wy; rw [wd_root T.ups]; rfl
      rw [e, lab_trie hw]
      -- the least is the root's letter
      obtain ⟨r, er⟩ := W.fst w hm
      have : r = [] := by
        cases r with
        | nil => rfl
        | cons d r =>
          exfalso
          have rw1 := rk_at lo_S hw
          have := (rk_lt lo_S W.root hm).mpr (by rw [er, ltS_cons, ltS_nil, decide_eq_true rfl]; simp)
          omega
      rw [er, this]; rfl
    · obtain ⟨w', e, _, h1, hu⟩ := pl_trie W hk z
      rw [hw] at e
      cases e
      have hd := W.clo w hm h1
      have hlt := (rk_lt lo_S hd hm).mpr (lt_dropLast w (W.ne hm))
      rw [rk_at lo_S hw] at hlt
      rw [wy_up T z hu, Int.toNat_natCast, ih _ hlt _ (rk_get lo_S hd), lab_trie hw, last_eq (W.ne hm)]
theorem sset_of_sorted {l : List Sg} (h : l.Pairwise fun a b => ltS a b = true) : ssetL ltS l = l := by
  unfold ssetL
  have nd : l.Nodup := h.imp fun {a b} hab e => by rw [e, lo_S.irr] at hab; cases hab
  exact srt_of lo_S ((List.perm_ext_iff_of_nodup (uq_nodup l) nd).mpr fun a => mem_uq) (h.imp fun hab => lo_S.asym hab)

/-! ### plain: loops -/
theorem foldR_inv {α σ ρ : Type} {f : σ → α → Option (Fl σ ρ)} {r0 : ρ} {p : α → Bool} : ∀ {xs : List α} {s : σ} (I : Nat → σ → Prop), I 0 s →
    (∀ i s x, xs[i]? = some x → I i s → (p x = true → ∃ s', f s x = some (.nx s') ∧ I (i + 1) s') ∧ (p x = false → f s x = some (.rt r0))) →
    (xs.all p = true → ∃ s', foldR xs s f = some (.nx s') ∧ I xs.length s') ∧ (xs.all p = false → foldR xs s f = some (.rt r0))
  | [], s, I, h0, _ => ⟨fun _ => ⟨s, rfl, h0⟩, fun h => nomatch h⟩
  | x :: xs, s, I, h0, step => by
    obtain ⟨a, b⟩ := step 0 s x rfl h0
    rw [List.all_cons]
    cases hp : p x with
    | false =>
      refine ⟨fun h => (nomatch h), fun _ => ?_⟩
      show (f s x).bind _ = _
      rw [b hp]; rfl
    | true =>
      obtain ⟨s', e, h1⟩ := a hp
      have ih := foldR_inv (r0 := r0) (p := p) (xs := xs) (s := s') (f := f) (fun i s => I (i + 1) s) h1 fun i s y hy hs => step (i + 1) s y (by simpa using hy) hs
      have e2 : foldR (x :: xs) s f = foldR xs s' f := by
        show (f s x).bind _ = _
        rw [e]; rfl
      rw [e2, Bool.true_and]
      exact ih
theorem whole_all {xs : List An} : (xs.all fun a => a.isI && (!a.isB)) = true ↔ ∃ ys, xs.mapM An.intM = some ys := by
  induction xs with
  | nil => exact ⟨fun _ => ⟨[], rfl⟩, fun _ => rfl⟩
  | cons a xs ih =>
    rw [List.all_cons, Bool.and_eq_true, List.mapM_cons]
    constructor
    · intro ⟨h1, h2⟩
      obtain ⟨ys, e⟩ := ih.mp h2
      cases a with
      | int i => exact ⟨i :: ys, by rw [e]; rfl⟩
      | _ => cases h1
    · intro ⟨ys, e⟩
      cases a with
      | int i =>
        refine ⟨rfl, ih.mpr ?_⟩
        obtain ⟨b, _, e⟩ := bnd e
        obtain ⟨zs, e, _⟩ := bnd e
        exact ⟨zs, e⟩
      | _ => cases e
theorem mapM_len {α β : Type} {f : α → Option β} : ∀ {xs : List α} {ys : List β}, xs.mapM f = some ys → ys.length = xs.length
  | [], ys, h => by obtain rfl := Option.some.inj h; rfl
  | x :: xs, ys, h => by
    rw [List.mapM_cons] at h
    obtain ⟨a, _, h⟩ := bnd h
    obtain ⟨zs, h2, h⟩ := bnd h
    obtain rfl := Option.some.inj h
    rw [List.length_cons, List.length_cons, mapM_len h2]
abbrev PQ (e B : Nat) (x : An) : Prop := Rk e B x.pd
theorem num_pq {b : Int} (h : b.natAbs < 2 ^ 200) : PQ 0 201 (.int b) := ra_int (by decide) h (by decide)
theorem em_pq {z : Bool} : PQ 1 3 (.tup z []) := rkT (n := 0) (e := 0) (B := 0) fa_nil (Nat.le_refl _) (by decide) (by decide)
theorem st_pq {s : Sg} (h1 : ∀ c ∈ s, c < 1000) (h2 : s.length ≤ 2) : PQ 0 22 (.str s) := (ra_str (n := 2) (fun c hc => Nat.lt_trans (h1 c hc) (by decide)) h2)
theorem mapM_is : ∀ {xs : List An} {cs : List Int}, xs.mapM An.intM = some cs → xs = cs.map An.int
  | [], cs, h => by obtain rfl := Option.some.inj h; rfl
  | x :: xs, cs, h => by
    rw [List.mapM_cons] at h
    obtain ⟨a, h1, h⟩ := bnd h
    obtain ⟨zs, h2, h⟩ := bnd h
    obtain rfl := Option.some.inj h
    cases x with
    | int i =>
      obtain rfl := Option.some.inj h1
      rw [List.map_cons, ← mapM_is h2]
    | _ => cases h1
theorem mapM_ints (cs : List Int) : (cs.map An.int).mapM An.intM = some cs := mapM_int cs
theorem eqB_txts {xs ys : List Sg} (h : ∀ x ∈ xs, ∀ c ∈ x, c < 1114112) (h' : ∀ x ∈ ys, ∀ c ∈ x, c < 1114112) : eqB ((dL dS).d xs) ((dL dS).d ys) = true :=
  eqB_of (e := 1) (e' := 1) (sk_list (sks_all fun d hd => by
    obtain ⟨x, hx, rfl⟩ := List.mem_map.mp hd
    exact sk_str (h x hx))) (sk_list (sks_all fun d hd => by
    obtain ⟨x, hx, rfl⟩ := List.mem_map.mp hd
    exact sk_str (h' x hx))) (by decide) (by decide)

/-! ### plain: places above (trees told apart) -/
def ancL (ups : List Int) : Nat → Nat → List Int
  | 0, _ => []
  | f + 1, k => (k : Int) :: (if k = 0 then [] else ancL ups f (ups.getD k 0).toNat)
def chL (ups : List Int) (k : Nat) : List Int := ancL ups (k + 1) k
def GoodU (ups : List Int) (k : Nat) : Prop := ∀ j, 0 < j → j < k → 0 ≤ ups.getD j 0 ∧ ups.getD j 0 < j
theorem GoodU.mono {ups : List Int} {k m : Nat} (h : GoodU ups k) (e : m ≤ k) : GoodU ups m := fun j a b => h j a (by omega)
theorem anc_fuel {ups : List Int} : ∀ (f g k : Nat), GoodU ups (k + 1) → k < f → k < g → ancL ups f k = ancL ups g k
  | 0, _, _, _, h, _ => by omega
  | _, 0, _, _, _, h => by omega
  | f + 1, g + 1, k, hg, h1, h2 => by
    unfold ancL
    by_cases h0 : k = 0
    · rw [if_pos h0, if_pos h0]
    · have := hg k (by omega) (by omega)
      rw [if_neg h0, if_neg h0, anc_fuel f g _ (hg.mono (by omega)) (by omega) (by omega)]
theorem chL_zero (ups : List Int) : chL ups 0 = [0] := rfl
theorem chL_step {ups : List Int} {k : Nat} (hg : GoodU ups (k + 1)) (h0 : 0 < k) : chL ups k = (k : Int) :: chL ups (ups.getD k 0).toNat := by
  have := hg k h0 (by omega)
  have e : chL ups k = (k : Int) :: (if k = 0 then [] else ancL ups k (ups.getD k 0).toNat) := rfl
  rw [e, if_neg (by omega)]
  unfold chL
  rw [anc_fuel k _ _ (hg.mono (by omega)) (by omega) (Nat.lt_succ_self _)]
theorem chL_le {ups : List Int} (k : Nat) : GoodU ups (k + 1) → ∀ x ∈ chL ups k, 0 ≤ x ∧ x ≤ k := by
  induction k using Nat.strongRecOn with
  | _ k ih =>
    intro hg x hx
    by_cases h0 : k = 0
    · subst h0
      rw [chL_zero] at hx
      rw [List.mem_singleton.mp hx]; omega
    · have hu := hg k (by omega) (by omega)
      rw [chL_step hg (by omega)] at hx
      rcases List.mem_cons.mp hx with e | e
      · rw [e]; omega
      · have := ih _ (by omega) (hg.mono (by omega)) x e
        omega
theorem chL_len {ups : List Int} (k : Nat) : GoodU ups (k + 1) → (chL ups k).length ≤ k + 1 := by
  induction k using Nat.strongRecOn with
  | _ k ih =>
    intro hg
    by_cases h0 : k = 0
    · subst h0
      rw [chL_zero]; simp
    · have hu := hg k (by omega) (by omega)
      rw [chL_step hg (by omega), List.length_cons]
      have := ih (ups.getD k 0).toNat (by omega) (hg.mono (by omega))
      omega
theorem chL_head {ups : List Int} {k : Nat} : (k : Int) ∈ chL ups k := by
  unfold chL ancL; exact List.mem_cons_self
theorem chL_drop {ups : List Int} (k : Nat) : GoodU ups (k + 1) → ∀ a, a ∈ chL ups k → ∃ i : Nat, idxM (chL ups k) a = some (i : Int) ∧ (chL ups k).drop i = chL ups a.toNat := by
  induction k using Nat.strongRecOn with
  | _ k ih =>
    intro hg a ha
    by_cases h0 : k = 0
    · subst h0
      rw [chL_zero] at ha ⊢
      rw [List.mem_singleton.mp ha]
      exact ⟨0, by decide, rfl⟩
    · have hu := hg k (by omega) (by omega)
      have es := chL_step hg (by omega)
      rw [es] at ha ⊢
      by_cases e : a = (k : Int)
      · refine ⟨0, ?_, ?_⟩
        · unfold idxM
          rw [List.findIdx?_cons, e, if_pos (decide_eq_true rfl)]; rfl
        · rw [List.drop_zero, e, Int.toNat_natCast, es]
      · rcases List.mem_cons.mp ha with e2 | e2
        · exact absurd e2 e
        · obtain ⟨i, h1, h2⟩ := ih _ (by omega) (hg.mono (by omega)) a e2
          refine ⟨i + 1, ?_, by rw [List.drop_succ_cons]; exact h2⟩
          unfold idxM at h1 ⊢
          obtain ⟨j, h3, h4⟩ := Option.map_eq_some_iff.mp h1
          rw [List.findIdx?_cons, if_neg (by rw [decide_eq_false fun z => e z.symm]; decide), h3]
          show some ((j + 1 : Nat) : Int) = _
          congr 1
          push_cast
          omega
def canB (ups : List Int) (k : Nat) : Bool := decide (ups.getD k 0 ∈ chL ups (k - 1))
def upsB (ups : List Int) : Bool := decide (ups.getD 0 0 = -1) && ((upto 1 (ups.length : Int)).all fun k => canB ups k.toNat)

theorem can_eq {ups : List Int} {k : Nat} (h0 : 0 < k) (hk : k < ups.length) (hl : ups.length ≤ 1000) (hg : GoodU ups k) : m_can_stand ups (k : Int) = some (canB ups k) := by
  have e := List.getElem?_eq_getElem hk
  have ek : atI ups (k : Int) = some (ups.getD k 0) := by rw [atI_of (i := (k : Int)) (by omega) (by rw [Int.toNat_natCast]; exact e), getD_of e]
  generalize ha : ups.getD k 0 = a at ek
  have hcan : canB ups k = decide (a ∈ chL ups (k - 1)) := by unfold canB; rw [ha]
  rw [hcan]
  unfold m_can_stand
  refine Ret.val (P := fun r => r = decide (a ∈ chL ups (k - 1))) (Ret.eq ek (Ret.ite (fun h => Ret.pure ?_) fun h => ?_)) fun _ e => e
  · refine (decide_eq_false fun hm => ?_).symm
    have := chL_le (k - 1) (hg.mono (by omega)) a hm
    rw [decide_eq_true (by omega), decide_eq_true (by omega)] at h
    cases h
  · have hb : 0 ≤ a ∧ a < k := by
      cases h1 : decide (0 ≤ a) with
      | false => rw [h1] at h; cases h
      | true =>
        cases h2 : decide (a < (k : Int)) with
        | false => rw [h1, h2] at h; cases h
        | true => exact ⟨of_decide_eq_true h1, of_decide_eq_true h2⟩
    refine Ret.bind (ret_whileO (fun s : Int => ∃ j : Nat, s = (j : Int) ∧ j ≤ k - 1 ∧ (a ∈ chL ups (k - 1) ↔ a ∈ chL ups j)) (fun s => s.toNat) ⟨k - 1, by omega, Nat.le_refl _, Iff.rfl⟩ (by omega) fun s ⟨j, ej, j1, j2⟩ => ?_) fun s ⟨⟨j, ej, j1, j2⟩, hs⟩ => ?_
    · subst ej
      refine Ret.eq ek (Ret.pure fun hd => ?_)
      have hd := of_decide_eq_true hd
      have e2 := List.getElem?_eq_getElem (show j < ups.length by omega)
      have hu := hg j (by omega) (by omega)
      rw [getD_of e2] at hu
      refine Ret.eq (atI_of (i := (j : Int)) (by omega) (by rw [Int.toNat_natCast]; exact e2)) (Ret.pure ⟨⟨ups[j].toNat, by omega, by omega, ?_⟩, by omega⟩)
      rw [j2, chL_step (hg.mono (by omega)) (by omega), List.mem_cons, getD_of e2]
      exact ⟨fun h => h.resolve_left (by omega), .inr⟩
    · subst ej
      refine Ret.eq ek (Ret.pure ?_)
      rw [ek] at hs
      have hs := of_decide_eq_false (Option.some.inj (show some (decide (a < (j : Int))) = some false from hs))
      rw [Bool.eq_iff_iff, decide_eq_true_eq, decide_eq_true_eq, j2]
      constructor
      · intro e; rw [← e]; exact chL_head
      · intro hm
        have := chL_le j (hg.mono (by omega)) a hm
        omega
theorem good_next {ups : List Int} {k : Nat} (h0 : 0 < k) (hg : GoodU ups k) (h : canB ups k = true) : GoodU ups (k + 1) := fun j a b => by
  by_cases e : j = k
  · subst e
    have := chL_le (j - 1) (hg.mono (by omega)) _ (of_decide_eq_true h)
    omega
  · exact hg j a (by omega)
theorem ups_eq {ups : List Int} (h0 : 0 < ups.length) (hl : ups.length ≤ 60) : m_are_ups ups = some (upsB ups) := by
  have e := List.getElem?_eq_getElem h0
  have eg : ups.getD 0 0 = ups[0] := getD_of e
  unfold m_are_ups
  refine Ret.val (P := fun r => r = upsB ups) (Ret.eq (atI_of (i := 0) (by decide) e) (Ret.ite (fun h => Ret.pure ?_) fun h => Ret.eq (uptoM_of (by decide) (by decide) (by omega) (by omega)) ?_)) fun _ e => e
  · unfold upsB
    rw [eg]
    cases hd : decide (ups[0] = -1) with
    | false => rfl
    | true =>
      have h : (!decide (ups[0] = -1)) = true := h
      rw [hd] at h; cases h
  · have hd : decide (ups[0] = -1) = true := by
      cases hd : decide (ups[0] = -1) with
      | true => rfl
      | false =>
        have h : (!decide (ups[0] = -1)) = false := h
        rw [hd] at h; cases h
    have eu : upsB ups = ((upto 1 (ups.length : Int)).all fun k => canB ups k.toNat) := by
      unfold upsB
      rw [eg, hd, Bool.true_and]
    rw [eu]
    obtain ⟨f1, f2⟩ := foldR_inv (xs := upto 1 (ups.length : Int)) (s := ()) (r0 := false) (p := fun k => canB ups k.toNat) (f := fun s13 a12 =>
        (m_can_stand ups a12).bind fun r26 => if (!r26) = true then some (.rt false) else some (.nx ())) (fun i _ => GoodU ups (i + 1)) (fun j a b => by omega) fun i s k hk hg => by
      have hk := upto_get hk
      obtain rfl : k = ((i + 1 : Nat) : Int) := by push_cast; omega
      have hce := can_eq (ups := ups) (k := i + 1) (by omega) (by omega) (by omega) hg
      have en : (((i + 1 : Nat) : Int)).toNat = i + 1 := Int.toNat_natCast _
      constructor
      · intro h
        have h : canB ups (((i + 1 : Nat) : Int)).toNat = true := h
        rw [en] at h
        refine ⟨(), ?_, good_next (by omega) hg h⟩
        show (m_can_stand ups ((i + 1 : Nat) : Int)).bind _ = _
        rw [hce, h]; rfl
      · intro h
        have h : canB ups (((i + 1 : Nat) : Int)).toNat = false := h
        rw [en] at h
        show (m_can_stand ups ((i + 1 : Nat) : Int)).bind _ = _
        rw [hce, h]; rfl
    cases ha : (upto 1 (ups.length : Int)).all fun k => canB ups k.toNat with
    | true =>
      obtain ⟨s', e, _⟩ := f1 ha
      exact Ret.eq e (Ret.pure rfl)
    | false => exact Ret.eq (f2 ha) (Ret.pure rfl)
abbrev ABC : Sg := [97, 98, 99, 100, 101, 102, 103, 104, 105, 106, 107, 108, 109, 110, 111, 112, 113, 114, 115, 116, 117, 118, 119, 120, 121, 122]
def azB (ls : Sg) : Bool := ls.all fun c => inSg [c] ABC
def treeB (x : An) : Bool := match x with
  | .tup _ [.tup _ us, .str ls] => azB ls && ((decide (1 ≤ ls.length) && decide (ls.length ≤ 60)) && (decide (us.length = ls.length) && (match us.mapM An.intM with
    | some ups => upsB ups
    | none => false)))
  | _ => false
def Sz (x : An) : Prop := ∀ z a b, x = .tup z [a, b] → (∀ w us, a = .tup w us → w = false ∧ us.length ≤ 1000) ∧ ∀ s, b = .str s → s.length ≤ 1000 ∧ ∀ c ∈ s, c < 1000
theorem signs_len (s : Sg) : (signs s).length = s.length := by unfold signs; rw [List.length_map]
theorem letters_eq (s : Sg) (h : s.length ≤ 1000) : m_are_letters (.str s) = some (azB s) := by
  show ((need (szB (signs s).length) ()).bind fun _ => (compS (signs s) _).bind _).bind _ = _
  rw [need_bind (szB_of (by rw [signs_len]; omega)), compS_map (fun a : Sg => inSg a ABC) fun _ _ => rfl]
  show some (((signs s).map fun a => inSg a ABC).all id) = _
  unfold azB signs
  rw [List.all_map, List.all_map]; rfl
theorem whole_none {us : List An} (h : (us.all fun a => a.isI && (!a.isB)) = false) : us.mapM An.intM = none := by
  cases e : us.mapM An.intM with
  | none => rfl
  | some ys => rw [whole_all.mpr ⟨ys, e⟩] at h; cases h
theorem is_tree_eq (x : An) (hz : Sz x) : m_is_tree x = some (treeB x) := by
  cases x with
  | tup z xs =>
    match xs, hz with
    | [], _ => rfl
    | [a], _ => cases a <;> rfl
    | a :: b :: c :: r, _ =>
      have h : decide (((a :: b :: c :: r).length : Int) = 2) = false := decide_eq_false (by simp only [List.length_cons]; omega)
      unfold m_is_tree
      simp only [An.isT, An.lenM, Option.bind_some, h]
      cases a <;> cases b <;> rfl
    | [a, b], hz =>
      obtain ⟨ha, hb⟩ := hz z a b rfl
      cases b with
      | str ls =>
        obtain ⟨hls, hlc⟩ := hb ls rfl
        unfold m_is_tree
        show ((m_are_letters (.str ls)).bind _) = _
        rw [letters_eq ls hls]
        cases hA : azB ls with
        | false =>
          cases a with
          | tup w us =>
            show some false = some (azB ls && _)
            rw [hA]; rfl
          | _ => rfl
        | true =>
          show ((if (!(decide ((1 : Int) ≤ (ls.length : Int)) && decide ((ls.length : Int) ≤ 60))) = true then some false else _) : Option Bool) = _
          have e1 : decide ((1 : Int) ≤ (ls.length : Int)) = decide (1 ≤ ls.length) := by rw [Bool.eq_iff_iff, decide_eq_true_eq, decide_eq_true_eq]; omega
          have e2 : decide ((ls.length : Int) ≤ 60) = decide (ls.length ≤ 60) := by rw [Bool.eq_iff_iff, decide_eq_true_eq, decide_eq_true_eq]; omega
          rw [e1, e2]
          cases hB : decide (1 ≤ ls.length) && decide (ls.length ≤ 60) with
          | false =>
            cases a with
            | tup w us =>
              show some false = some (azB ls && ((decide (1 ≤ ls.length) && decide (ls.length ≤ 60)) && _))
              rw [hA, hB]; rfl
            | _ => rfl
          | true =>
            have hB' := (Bool.and_eq_true _ _ ▸ hB : _ ∧ _)
            have b1 := of_decide_eq_true hB'.1
            have b2 := of_decide_eq_true hB'.2
            cases a with
            | tup w us =>
              obtain ⟨rfl, hus⟩ := ha w us rfl
              have et : treeB (.tup z [.tup false us, .str ls]) = (decide (us.length = ls.length) && (match us.mapM An.intM with
                | some ups => upsB ups
                | none => false)) := by
                show (azB ls && ((decide (1 ≤ ls.length) && decide (ls.length ≤ 60)) && _)) = _
                rw [hA, hB]; rfl
              rw [et]
              show (((if (!decide ((us.length : Int) = (ls.length : Int))) = true then some true else _ : Option Bool).bind fun c41 => some c41).bind _) = _
              by_cases hl : us.length = ls.length
              · rw [decide_eq_true (show (us.length : Int) = (ls.length : Int) by omega), decide_eq_true hl]
                show ((((need (szB us.length) ()).bind fun _ => (compS us _).bind _).bind fun c41 => some c41).bind _) = _
                rw [need_bind (szB_of (by omega)), compS_map (f := fun a53 => (m_is_whole a53).bind fun r73 => some (some r73)) (fun a => a.isI && (!a.isB)) fun _ _ => rfl]
                show (if (!((us.map fun a => a.isI && (!a.isB)).all id)) = true then _ else _) = _
                rw [List.all_map]
                show (if (!(us.all fun a => a.isI && (!a.isB))) = true then _ else _) = _
                cases hw : us.all fun a => a.isI && (!a.isB) with
                | false => rw [whole_none hw]; rfl
                | true =>
                  obtain ⟨ys, e⟩ := whole_all.mp hw
                  have hy := mapM_len e
                  show (((cR cI).c (.tup false us)).bind _) = _
                  have ec : (cR cI).c (.tup false us) = some ys := e
                  rw [ec, e]
                  show ((m_are_ups ys).bind _) = _
                  rw [ups_eq (by omega) (by omega)]; rfl
              · rw [decide_eq_false (show ¬ (us.length : Int) = (ls.length : Int) by omega), decide_eq_false hl]; rfl
            | _ => rfl
      | _ => cases a <;> rfl
  | _ => rfl
theorem bad_letters (ls : Sg) : ((signs ls).filterMap fun a => if (!inSg a ABC) = true then some a else none) = [] ↔ azB ls = true := by
  unfold azB signs
  rw [List.filterMap_eq_nil_iff, List.all_eq_true]
  constructor
  · intro h c hc
    have := h [c] (List.mem_map.mpr ⟨c, hc, rfl⟩)
    cases e : inSg [c] ABC with
    | true => rfl
    | false => rw [e] at this; cases this
  · intro h a ha
    obtain ⟨c, hc, rfl⟩ := List.mem_map.mp ha
    rw [h c hc]; rfl
theorem bad_ups (us : List An) : ((us.filterMap fun a => if ((!a.isI) || a.isB) = true then some a else none).isEmpty) = (us.all fun a => a.isI && (!a.isB)) := by
  induction us with
  | nil => rfl
  | cons a us ih =>
    rw [List.filterMap_cons, List.all_cons]
    cases h1 : a.isI with
    | false => rfl
    | true =>
      cases h2 : a.isB with
      | true => rfl
      | false => exact ih

/-! ### plain: things bent (k53) -/
def Shp (x : An) : Prop := ∃ (z : Bool) (ys : List Int) (ls : Sg), x = .tup z [.tup false (ys.map An.int), .str ls] ∧ 1 ≤ ls.length ∧ ys.length = ls.length ∧ ls.length ≤ 60 ∧ (∀ y ∈ ys, y.natAbs < 1000) ∧ ∀ c ∈ ls, c < 1000
def UpT (a : An) : Prop := ∀ w us, a = .tup w us → w = false ∧ us.length ≤ 1000
def LbT (b : An) : Prop := ∀ s, b = .str s → s.length ≤ 1000 ∧ ∀ c ∈ s, c < 1000
theorem sz_pair {z : Bool} {a b : An} (ha : UpT a) (hb : LbT b) : Sz (.tup z [a, b]) := fun w c d e => by cases e; exact ⟨ha, hb⟩
theorem sz_len {z : Bool} {xs : List An} (h : xs.length ≠ 2) : Sz (.tup z xs) := fun w c d e => by cases e; exact absurd rfl h
theorem sz_no {x : An} (h : ∀ z ys, x ≠ .tup z ys) : Sz x := fun z a b e => absurd e (h _ _)
theorem upT {us : List An} (h : us.length ≤ 1000) : UpT (.tup false us) := fun w vs e => by cases e; exact ⟨rfl, h⟩
theorem upT_no {a : An} (h : ∀ z ys, a ≠ .tup z ys) : UpT a := fun w vs e => absurd e (h _ _)
theorem lbT {s : Sg} (h : s.length ≤ 1000) (hc : ∀ c ∈ s, c < 1000) : LbT (.str s) := fun t e => by cases e; exact ⟨h, hc⟩
theorem lbT_no {b : An} (h : ∀ s, b ≠ .str s) : LbT b := fun t e => absurd e (h _)
theorem st_n {s : Sg} (h1 : ∀ c ∈ s, c < 1000) (h2 : s.length ≤ 130) : PQ 0 1302 (.str s) := (ra_str (n := 130) (fun c hc => Nat.lt_trans (h1 c hc) (by decide)) h2)
theorem sm_pq {y : Int} (h : y.natAbs < 1002) : PQ 0 201 (.int y) := num_pq (Nat.lt_trans h (by decide))
theorem upsB_good {ups : List Int} (hl : ups.length ≤ 60) (h : upsB ups = true) (i : Nat) (h0 : i ≠ 0) (hi : i < ups.length) : 0 ≤ ups.getD i 0 ∧ ups.getD i 0 < i := by
  obtain ⟨h1, h2⟩ := (Bool.and_eq_true _ _ ▸ h : _ ∧ _)
  have good : ∀ k, k ≤ ups.length → GoodU ups k := fun k => by
    induction k with
    | zero => exact fun _ j a b => by omega
    | succ k ih =>
      intro hk
      by_cases h0 : k = 0
      · subst h0; exact fun j a b => by omega
      · refine good_next (by omega) (ih (by omega)) ?_
        have hm : ((k : Int)) ∈ upto 1 (ups.length : Int) := by
          have hk2 : k - 1 < (upto 1 (ups.length : Int)).length := by rw [upto_len]; omega
          have e := List.getElem?_eq_getElem hk2
          have e2 := upto_get e
          have : (upto 1 (ups.length : Int))[k - 1] = (k : Int) := by omega
          rw [← this]; exact List.getElem_mem _
        have := List.all_eq_true.mp h2 _ hm
        rw [Int.toNat_natCast] at this
        exact this
  exact good ups.length (Nat.le_refl _) i (by omega) hi

/-! ### plain: what is a trie -/
def kd (ys : List Int) (ls : Sg) (i : Nat) (q : Int) : List Nat := ((List.range i).filter fun k => decide (ys.getD k 0 = q)).map fun k => ls.getD k 0
def lastT (l : List Nat) : Sg := match l.getLast? with
  | some c => [c]
  | none => []
def stepB (ys : List Int) (ls : Sg) (k : Nat) : Bool := decide (ys.getD k 0 < 0) || ltS (lastT (kd ys ls k (ys.getD k 0))) [ls.getD k 0]
def riseB (ys : List Int) (ls : Sg) : Bool := (List.range ys.length).all fun (p : Nat) => decide ((kd ys ls ys.length (p : Int)).Pairwise (· < ·))
theorem kd_succ (ys : List Int) (ls : Sg) (i : Nat) (q : Int) : kd ys ls (i + 1) q = kd ys ls i q ++ (if ys.getD i 0 = q then [ls.getD i 0] else []) := by
  unfold kd
  rw [List.range_succ, List.filter_append, List.map_append]
  congr 1
  by_cases e : ys.getD i 0 = q
  · rw [if_pos e, List.filter_cons, if_pos (decide_eq_true e)]; rfl
  · rw [if_neg e, List.filter_cons, if_neg (by rw [decide_eq_false e]; decide)]; rfl
theorem last_lt {l : List Nat} (h : l.Pairwise (· < ·)) (c : Nat) : ltS (lastT l) [c] = true ↔ ∀ x ∈ l, x < c := by
  unfold lastT
  cases e : l.getLast? with
  | none =>
    have := List.getLast?_eq_none_iff.mp e
    subst this
    exact ⟨fun _ => fun x hx => (nomatch hx), fun _ => rfl⟩
  | some d =>
    obtain ⟨ys, rfl⟩ := List.getLast?_eq_some_iff.mp e
    show ltS [d] [c] = true ↔ _
    rw [ltS_one, decide_eq_true_eq]
    constructor
    · intro hd x hx
      rcases List.mem_append.mp hx with z | z
      · have := (List.pairwise_append.mp h).2.2 x z d (by simp)
        omega
      · rw [List.mem_singleton.mp z]; exact hd
    · intro hx
      exact hx d (by simp)
theorem rise_iff (ys : List Int) (ls : Sg) : ∀ i, (∀ k, k < i → stepB ys ls k = true) ↔ ∀ q : Nat, (kd ys ls i (q : Int)).Pairwise (· < ·)
  | 0 => ⟨fun _ q => List.Pairwise.nil, fun _ k h => absurd h (Nat.not_lt_zero _)⟩
  | i + 1 => by
    have ih := rise_iff ys ls i
    constructor
    · intro h q
      have hi := ih.mp fun k hk => h k (by omega)
      rw [kd_succ]
      by_cases e : ys.getD i 0 = (q : Int)
      · rw [if_pos e]
        have hs := h i (by omega)
        unfold stepB at hs
        rw [e, decide_eq_false (by omega), Bool.false_or] at hs
        have := (last_lt (hi q) _).mp hs
        refine List.pairwise_append.mpr ⟨hi q, List.pairwise_singleton _ _, fun x hx y hy => ?_⟩
        rw [List.mem_singleton.mp hy]; exact this x hx
      · rw [if_neg e, List.append_nil]; exact hi q
    · intro h
      have h0 : ∀ q : Nat, (kd ys ls i (q : Int)).Pairwise (· < ·) := fun q => by
        have := h q
        rw [kd_succ] at this
        exact (List.pairwise_append.mp this).1
      intro k hk
      by_cases e : k = i
      · subst e
        unfold stepB
        by_cases hn : ys.getD k 0 < 0
        · rw [decide_eq_true hn]; rfl
        · have hq : ys.getD k 0 = ((ys.getD k 0).toNat : Int) := by omega
          have := h (ys.getD k 0).toNat
          rw [kd_succ, ← hq, if_pos rfl] at this
          have h2 := (List.pairwise_append.mp this).2.2
          have h3 := h0 (ys.getD k 0).toNat
          rw [← hq] at h3
          rw [(last_lt h3 _).mpr fun x hx => h2 x hx _ (by simp), Bool.or_true]
      · exact ih.mpr h0 k (by omega)
theorem rise_all {ys : List Int} {ls : Sg} (hb : ∀ k, k < ys.length → ys.getD k 0 < ys.length) : (∀ k, k < ys.length → stepB ys ls k = true) ↔ riseB ys ls = true := by
  rw [rise_iff]
  unfold riseB
  rw [List.all_eq_true]
  constructor
  · exact fun h p _ => decide_eq_true (h p)
  · intro h q
    by_cases hq : q < ys.length
    · exact of_decide_eq_true (h q (List.mem_range.mpr hq))
    · have : kd ys ls ys.length (q : Int) = [] := by
        unfold kd
        rw [List.filter_eq_nil_iff.mpr fun k hk => ?_]
        · rfl
        · have := hb k (List.mem_range.mp hk)
          rw [decide_eq_false (by omega)]; decide
      rw [this]; exact List.Pairwise.nil
theorem upsB_lt {ups : List Int} (hl : ups.length ≤ 60) (h : upsB ups = true) : ∀ k, k < ups.length → ups.getD k 0 < ups.length := fun k hk => by
  obtain ⟨h1, h2⟩ := (Bool.and_eq_true _ _ ▸ h : _ ∧ _)
  have h1 := of_decide_eq_true h1
  by_cases h0 : k = 0
  · subst h0; rw [h1]; omega
  · have := upsB_good hl h k h0 hk
    omega
def trieB (x : An) : Bool := match x with
  | .tup _ [.tup _ us, .str ls] => treeB x && (match us.mapM An.intM with
    | some ys => riseB ys ls
    | none => false)
  | _ => false
theorem tree_in {x : An} (hz : Sz x) (h : treeB x = true) : ∃ (z : Bool) (ys : List Int) (ls : Sg), x = .tup z [.tup false (ys.map An.int), .str ls] ∧ 1 ≤ ls.length ∧ ys.length = ls.length ∧ ls.length ≤ 60 ∧ upsB ys = true ∧ azB ls = true ∧ ∀ c ∈ ls, c < 1000 := by
  cases x with
  | tup z xs =>
    match xs, hz, h with
    | [.tup w us, .str ls], hz, h =>
      obtain ⟨ha, hb⟩ := hz z _ _ rfl
      obtain ⟨rfl, _⟩ := ha w us rfl
      obtain ⟨_, hlc⟩ := hb ls rfl
      obtain ⟨haz, h⟩ := (Bool.and_eq_true _ _ ▸ h : _ ∧ _)
      obtain ⟨hB, h⟩ := (Bool.and_eq_true _ _ ▸ h : _ ∧ _)
      obtain ⟨b1, b2⟩ := (Bool.and_eq_true _ _ ▸ hB : _ ∧ _)
      obtain ⟨hl, h⟩ := (Bool.and_eq_true _ _ ▸ h : _ ∧ _)
      have b1 := of_decide_eq_true b1
      have b2 := of_decide_eq_true b2
      have hl := of_decide_eq_true hl
      cases e : us.mapM An.intM with
      | none => rw [e] at h; cases h
      | some ys =>
        rw [e] at h
        have hy := mapM_len e
        exact ⟨z, ys, ls, by rw [mapM_is e], b1, by omega, b2, h, haz, hlc⟩
  | _ => cases h
theorem trieB_of {z : Bool} {ys : List Int} {ls : Sg} (h : treeB (.tup z [.tup false (ys.map An.int), .str ls]) = true) : trieB (.tup z [.tup false (ys.map An.int), .str ls]) = riseB ys ls := by
  show (treeB (.tup z [.tup false (ys.map An.int), .str ls]) && (match (ys.map An.int).mapM An.intM with
    | some ys => riseB ys ls
    | none => false)) = _
  rw [h, mapM_ints]; rfl
theorem trieB_no {x : An} (h : treeB x = false) : trieB x = false := by
  cases x with
  | tup z xs =>
    match xs, h with
    | [], _ => rfl
    | [a], _ => cases a <;> rfl
    | a :: b :: c :: r, _ => cases a <;> cases b <;> rfl
    | [a, b], h =>
      cases a with
      | tup w us =>
        cases b with
        | str ls =>
          show (treeB (.tup z [.tup w us, .str ls]) && _) = false
          rw [h]; rfl
        | _ => rfl
      | _ => cases b <;> rfl
  | _ => rfl
theorem is_trie_eq (x : An) (hz : Sz x) : m_is_trie x = some (trieB x) := by
  unfold m_is_trie
  refine Ret.val (P := fun r => r = trieB x) (Ret.eq (is_tree_eq x hz) (Ret.ite (fun h => Ret.pure ?_) fun h => ?_)) fun _ e => e
  · rw [trieB_no (by cases e : treeB x with
      | false => rfl
      | true => rw [e] at h; cases h)]
  have ht : treeB x = true := by cases e : treeB x with
    | true => rfl
    | false => rw [e] at h; cases h
  obtain ⟨z, ys, ls, rfl, l1, l2, l3, hu, haz, hlc⟩ := tree_in hz ht
  rw [trieB_of ht]
  have hul : (ys.map An.int).length = ys.length := List.length_map _
  have hlt := upsB_lt (by omega) hu
  refine Ret.eq (a := (.tup false (ys.map An.int), .str ls)) rfl (Ret.eq (a := (ys.length : Int)) (by show some (((ys.map An.int).length : Nat) : Int) = _; rw [hul]) ?_)
  have e0 : repM [([] : Sg)] (ys.length : Int) = some (List.replicate ys.length []) := by
    unfold repM
    rw [need_eq (by rw [Bool.and_eq_true]; exact ⟨decide_eq_true (by omega), szB_of (by simp; omega)⟩)]
    simp [repL]
  refine Ret.eq e0 (Ret.eq (a := ys.map An.int) rfl ?_)
  obtain ⟨f1, f2⟩ := foldR_inv (xs := enumL (ys.map An.int)) (s := List.replicate ys.length ([] : Sg)) (r0 := false) (p := fun a => stepB ys ls a.1.toNat) (f := fun s51 a50 =>
      (An.intM a50.2).bind fun o73 => if (decide ((0 : Int) ≤ o73)) = true then
        (atI s51 o73).bind fun a76 => (An.ixM (.str ls) a50.1).bind fun a79 => (An.strM a79).bind fun o82 => if (!decide (a76 < o82)) = true then some (.rt false) else
        (An.ixM (.str ls) a50.1).bind fun a85 => (An.strM a85).bind fun o88 => (setM s51 o73 o88).bind fun l90 => some (.nx l90)
        else some (.nx s51)) (fun i s => s.length = ys.length ∧ ∀ q : Nat, q < ys.length → s[q]? = some (lastT (kd ys ls i (q : Int)))) ⟨by simp, fun q hq => by rw [List.getElem?_replicate, if_pos hq]; rfl⟩ fun i s a ha ⟨hs1, hs2⟩ => by
    obtain ⟨x1, x2⟩ := enumL_get ha
    have hi := (List.getElem?_eq_some_iff.mp x2).1
    rw [hul] at hi
    rw [List.getElem?_map] at x2
    obtain ⟨u, hu1, hu2⟩ := Option.map_eq_some_iff.mp x2
    have hg : ys.getD i 0 = u := getD_of hu1
    have en : a.1.toNat = i := by omega
    have ec := List.getElem?_eq_getElem (show i < ls.length by omega)
    have hc : ls.getD i 0 = ls[i] := getD_of ec
    have ix : An.ixM (.str ls) a.1 = some (.str [ls[i]]) := by
      show (atI ls a.1).map _ = _
      rw [x1, atI_of (i := (i : Int)) (by omega) (by rw [Int.toNat_natCast]; exact ec)]; rfl
    have hstep : stepB ys ls i = (decide (u < 0) || ltS (lastT (kd ys ls i u)) [ls[i]]) := by unfold stepB; rw [hg, hc]
    rw [en, hstep, ← hu2]
    show (_ → ∃ s', (if decide ((0 : Int) ≤ u) = true then _ else _ : Option (Fl (List Sg) Bool)) = some (.nx s') ∧ _) ∧ (_ → (if decide ((0 : Int) ≤ u) = true then _ else _ : Option (Fl (List Sg) Bool)) = _)
    by_cases h0 : 0 ≤ u
    · rw [decide_eq_true h0, decide_eq_false (show ¬ u < 0 by omega), Bool.false_or]
      have hun : u.toNat < ys.length := by have := hlt i hi; rw [hg] at this; omega
      have hq := hs2 u.toNat hun
      rw [show ((u.toNat : Nat) : Int) = u by omega] at hq
      rw [atI_of h0 hq, ix]
      show (_ → ∃ s', (if (!(ltS (lastT (kd ys ls i u)) [ls[i]])) = true then _ else _ : Option (Fl (List Sg) Bool)) = some (.nx s') ∧ _) ∧ (_ → (if (!(ltS (lastT (kd ys ls i u)) [ls[i]])) = true then _ else _ : Option (Fl (List Sg) Bool)) = _)
      cases hlt2 : ltS (lastT (kd ys ls i u)) [ls[i]] with
      | false => exact ⟨fun h => (nomatch h), fun _ => rfl⟩
      | true =>
        refine ⟨fun _ => ⟨s.set u.toNat [ls[i]], ?_, by rw [List.length_set]; exact hs1, fun q hq2 => ?_⟩, fun h => nomatch h⟩
        · show (setM s u [ls[i]]).bind _ = _
          rw [setM_of h0 (by omega)]; rfl
        · rw [kd_succ, hg]
          by_cases e : u.toNat = q
          · subst e
            rw [List.getElem?_set_self (by omega), if_pos (by omega), hc]
            unfold lastT
            rw [List.getLast?_append]; rfl
          · rw [List.getElem?_set_ne e, if_neg (by omega), List.append_nil]
            exact hs2 q hq2
    · rw [decide_eq_false h0, decide_eq_true (show u < 0 by omega), Bool.true_or]
      refine ⟨fun _ => ⟨s, rfl, hs1, fun q hq2 => ?_⟩, fun h => nomatch h⟩
      rw [kd_succ, hg, if_neg (by omega), List.append_nil]
      exact hs2 q hq2
  have hall : ((enumL (ys.map An.int)).all fun a => stepB ys ls a.1.toNat) = riseB ys ls := by
    rw [Bool.eq_iff_iff, ← rise_all hlt, List.all_eq_true]
    constructor
    · intro h k hk
      have e := List.getElem?_eq_getElem (show k < (ys.map An.int).length by omega)
      have := h _ (List.mem_of_getElem? (enumL_at e))
      simpa using this
    · intro h a ha
      obtain ⟨i, e1, e2⟩ := enumL_mem ha
      have hi := (List.getElem?_eq_some_iff.mp e2).1
      rw [e1, Int.toNat_natCast]
      exact h i (by omega)
  rw [hall] at f1 f2
  cases hr : riseB ys ls with
  | true =>
    obtain ⟨s', es, _⟩ := f1 hr
    exact Ret.eq es (Ret.pure rfl)
  | false => exact Ret.eq (f2 hr) (Ret.pure rfl)

theorem rc_take {ups : List Int} (k : Nat) : GoodU ups (k + 1) → ∀ a, a ∈ chL ups k → ∃ j : Nat, idxM (chL ups k).reverse a = some (j : Int) ∧ j < (chL ups k).length ∧ (chL ups k).reverse.take (j + 1) = (chL ups a.toNat).reverse := by
  induction k using Nat.strongRecOn with
  | _ k ih =>
    intro hg a ha
    by_cases h0 : k = 0
    · subst h0
      rw [chL_zero] at ha ⊢
      rw [List.mem_singleton.mp ha]
      exact ⟨0, by decide, by decide, rfl⟩
    · have hu := hg k (by omega) (by omega)
      have es := chL_step hg (by omega)
      have hle := chL_le (ups.getD k 0).toNat (hg.mono (by omega))
      by_cases e : a = (k : Int)
      · refine ⟨(chL ups (ups.getD k 0).toNat).length, ?_, by rw [es, List.length_cons]; omega, ?_⟩
        · rw [es, List.reverse_cons]
          unfold idxM
          rw [List.findIdx?_append, List.findIdx?_eq_none_iff.mpr fun x hx => ?_]
          · rw [List.findIdx?_cons, if_pos (decide_eq_true e.symm)]
            simp
          · have := hle x (List.mem_reverse.mp hx)
            exact decide_eq_false (by omega)
        · rw [e, Int.toNat_natCast, es]
          exact List.take_of_length_le (by simp)
      · have e2 : a ∈ chL ups (ups.getD k 0).toNat := by
          rw [es] at ha
          rcases List.mem_cons.mp ha with e2 | e2
          · exact absurd e2 e
          · exact e2
        obtain ⟨j, h1, h2, h3⟩ := ih _ (by omega) (hg.mono (by omega)) a e2
        refine ⟨j, ?_, by rw [es, List.length_cons]; omega, ?_⟩
        · rw [es, List.reverse_cons]
          unfold idxM at h1 ⊢
          obtain ⟨i, h4, h5⟩ := Option.map_eq_some_iff.mp h1
          rw [List.findIdx?_append, h4]
          exact congrArg some h5
        · rw [es, List.reverse_cons, List.take_append_of_le_length (by rw [List.length_reverse]; omega), h3]
theorem ups_loop {ups : List Int} {us : List An} (hu : us = ups.map An.int) (h0 : 0 < ups.length) (hl : ups.length ≤ 60) {f : List Int → Int → Option (Fl (List Int) Bool)}
    (hf : ∀ s k, f s k = (atI us k).bind fun a117 => (An.intM a117).bind fun o120 => if (!decide (o120 ∈ s)) = true then some (.rt false) else
      (atI us k).bind fun a127 => (An.intM a127).bind fun o130 => (idxM s o130).bind fun a132 => (catLM (cutL s none (some (a132 + (1 : Int)))) [k]).bind fun l148 => some (.nx l148)) :
    ((upto 1 (ups.length : Int)).all (fun k => canB ups k.toNat) = true → ∃ s', foldR (upto 1 (ups.length : Int)) [(0 : Int)] f = some (.nx s')) ∧ ((upto 1 (ups.length : Int)).all (fun k => canB ups k.toNat) = false → foldR (upto 1 (ups.length : Int)) [(0 : Int)] f = some (.rt false)) := by
  obtain ⟨f1, f2⟩ := foldR_inv (xs := upto 1 (ups.length : Int)) (s := [(0 : Int)]) (r0 := false) (p := fun k => canB ups k.toNat) (f := f) (fun i s => s = (chL ups i).reverse ∧ GoodU ups (i + 1)) ⟨rfl, fun j a b => by omega⟩ fun i s k hk ⟨hs, hg⟩ => by
    have hk := upto_get hk
    obtain rfl : k = ((i + 1 : Nat) : Int) := by push_cast; omega
    subst hs
    have e := List.getElem?_eq_getElem (show i + 1 < ups.length by omega)
    have eu : atI us ((i + 1 : Nat) : Int) = some (.int (ups.getD (i + 1) 0)) := by
      rw [hu, atI_of (i := ((i + 1 : Nat) : Int)) (by omega) (by rw [Int.toNat_natCast, List.getElem?_map, e]; rfl), getD_of e]
    have en : (((i + 1 : Nat) : Int)).toNat = i + 1 := Int.toNat_natCast _
    have hmr : decide (ups.getD (i + 1) 0 ∈ (chL ups i).reverse) = canB ups (i + 1) := by
      unfold canB
      rw [Bool.eq_iff_iff, decide_eq_true_eq, decide_eq_true_eq, List.mem_reverse]; rfl
    constructor
    · intro h
      have h : canB ups (((i + 1 : Nat) : Int)).toNat = true := h
      rw [en] at h
      have hg2 := good_next (by omega) hg h
      have hm : ups.getD (i + 1) 0 ∈ chL ups i := of_decide_eq_true h
      obtain ⟨j, h1, hj, h2⟩ := rc_take i hg _ hm
      have hlen := chL_len i hg
      refine ⟨(chL ups (i + 1)).reverse, ?_, rfl, hg2⟩
      rw [hf, eu]
      show (if (!decide (ups.getD (i + 1) 0 ∈ (chL ups i).reverse)) = true then _ else (idxM (chL ups i).reverse (ups.getD (i + 1) 0)).bind _) = _
      rw [hmr, h, h1]
      show (catLM (cutL (chL ups i).reverse none (some ((j : Int) + 1))) [((i + 1 : Nat) : Int)]).bind _ = _
      rw [cutL_to (by omega), show ((j : Int) + 1).toNat = j + 1 by omega, h2, catLM_of (by
        have := congrArg List.length h2
        rw [List.length_take, List.length_reverse, List.length_reverse] at this
        rw [List.length_reverse]
        simp only [List.length_cons, List.length_nil]; omega)]
      rw [chL_step hg2 (by omega), List.reverse_cons]; rfl
    · intro h
      have h : canB ups (((i + 1 : Nat) : Int)).toNat = false := h
      rw [en] at h
      rw [hf, eu]
      show (if (!decide (ups.getD (i + 1) 0 ∈ (chL ups i).reverse)) = true then _ else _) = _
      rw [hmr, h]; rfl
  exact ⟨fun h => by obtain ⟨s', e, _⟩ := f1 h; exact ⟨s', e⟩, f2⟩
theorem law_ups_eq {us : List An} (hl : us.length ≤ 60) : m__law_ups us = some (!us.isEmpty && (match us.mapM An.intM with
    | some ys => upsB ys
    | none => false)) := by
  unfold m__law_ups
  refine Ret.val (P := fun r => r = (!us.isEmpty && (match us.mapM An.intM with
    | some ys => upsB ys
    | none => false))) (ret_need (szB_of (by omega)) (Ret.eq (compS_of (fun a : An => if ((!a.isI) || a.isB) = true then some a else none) fun a _ => by split <;> rfl) ?_)) fun _ e => e
  rw [bad_ups]
  cases he : us.isEmpty with
  | true => exact Ret.eq (a := true) rfl (Ret.ite (fun _ => Ret.pure rfl) fun h => nomatch h)
  | false =>
    have hpos : 0 < us.length := by
      cases us with
      | nil => cases he
      | cons a r => simp
    cases hw : us.all fun a => a.isI && (!a.isB) with
    | false =>
      rw [whole_none hw]
      exact Ret.eq (a := true) rfl (Ret.ite (fun _ => Ret.pure rfl) fun h => nomatch h)
    | true =>
      obtain ⟨ys, e⟩ := whole_all.mp hw
      have hy := mapM_len e
      have hm := mapM_is e
      rw [e]
      have e0 := List.getElem?_eq_getElem (show 0 < ys.length by omega)
      have ea : atI us 0 = some (.int (ys.getD 0 0)) := by rw [hm, atI_of (i := 0) (by decide) (by rw [List.getElem?_map]; show Option.map _ ys[0]? = _; rw [e0]; rfl), getD_of e0]
      refine Ret.eq (a := !decide (ys.getD 0 0 = -1)) (by
        show (((atI us 0).bind _ : Option Bool).bind _) = _
        rw [ea]; rfl) ?_
      show Ret _ (fun r => r = upsB ys)
      refine Ret.ite (fun h => Ret.pure ?_) fun h => ?_
      · unfold upsB
        cases hd : decide (ys.getD 0 0 = -1) with
        | false => rfl
        | true => rw [hd] at h; cases h
      · have hd : decide (ys.getD 0 0 = -1) = true := by
          cases hd : decide (ys.getD 0 0 = -1) with
          | true => rfl
          | false => rw [hd] at h; cases h
        have eu : upsB ys = ((upto 1 (ys.length : Int)).all fun k => canB ys k.toNat) := by
          unfold upsB
          rw [hd, Bool.true_and]
        rw [eu, show (us.length : Int) = (ys.length : Int) by omega]
        refine Ret.eq (uptoM_of (by decide) (by decide) (by omega) (by omega)) ?_
        obtain ⟨f1, f2⟩ := ups_loop hm (show 0 < ys.length by omega) (by omega) (f := fun s102 a101 =>
          (atI us a101).bind fun a117 => (An.intM a117).bind fun o120 => if (!decide (o120 ∈ s102)) = true then some (.rt false) else
          (atI us a101).bind fun a127 => (An.intM a127).bind fun o130 => (idxM s102 o130).bind fun a132 => (catLM (cutL s102 none (some (a132 + (1 : Int)))) [a101]).bind fun l148 => some (.nx l148)) fun _ _ => rfl
        cases hall : (upto 1 (ys.length : Int)).all fun k => canB ys k.toNat with
        | true =>
          obtain ⟨s', es⟩ := f1 hall
          exact Ret.eq es (Ret.pure rfl)
        | false => exact Ret.eq (f2 hall) (Ret.pure rfl)
theorem enum_range (us : List An) : enumL us = (List.range us.length).map fun (k : Nat) => ((k : Int), us.getD k .non) := by
  refine List.ext_getElem? fun i => ?_
  rw [List.getElem?_map]
  by_cases hi : i < us.length
  · have e := List.getElem?_eq_getElem hi
    rw [enumL_at e, List.getElem?_range hi]
    show _ = some ((i : Int), us.getD i .non)
    rw [getD_of e]
  · rw [List.getElem?_eq_none (by rw [enumL_len]; omega), List.getElem?_eq_none (by rw [List.length_range]; omega)]; rfl
theorem kids_eq {ys : List Int} {ls : Sg} (q : Int) : ((enumL (ys.map An.int)).filterMap fun a => if ys.getD a.1.toNat 0 = q then some [ls.getD a.1.toNat 0] else none) = (kd ys ls ys.length q).map fun c => [c] := by
  rw [enum_range, List.filterMap_map, List.length_map]
  have e : ((fun a : Int × An => if ys.getD a.1.toNat 0 = q then some [ls.getD a.1.toNat 0] else none) ∘ fun (k : Nat) => ((k : Int), (ys.map An.int).getD k .non)) = fun k => if ys.getD k 0 = q then some [ls.getD k 0] else none := funext fun k => by
    show (if ys.getD ((k : Int)).toNat 0 = q then some [ls.getD ((k : Int)).toNat 0] else none) = _
    rw [Int.toNat_natCast]
  rw [e]
  unfold kd
  generalize List.range ys.length = l
  induction l with
  | nil => rfl
  | cons k l ih =>
    by_cases e : ys.getD k 0 = q
    · simp only [List.filterMap_cons, List.filter_cons, e, if_true, decide_true, List.map_cons, ih]
    · simp only [List.filterMap_cons, List.filter_cons, e, if_false, decide_false, ih, Bool.false_eq_true]
theorem kids_sorted (l : List Nat) : (l.map fun c => [c]) = ssetL ltS (l.map fun c => [c]) ↔ l.Pairwise (· < ·) := by
  constructor
  · intro h
    have := sset_lt lo_S (xs := l.map fun c => [c])
    rw [← h, List.pairwise_map] at this
    exact this.imp fun {a b} h => by rw [ltS_one] at h; exact of_decide_eq_true h
  · intro h
    exact (sset_of_sorted (by
      rw [List.pairwise_map]
      exact h.imp fun {a b} h => by rw [ltS_one]; exact decide_eq_true h)).symm

theorem due_eq (x : An) (hz : Sz x) : m__law_due x = some (trieB x) := by
  cases x with
  | tup z xs =>
    match xs, hz with
    | [], _ => rfl
    | [a], _ => cases a <;> rfl
    | a :: b :: c :: r, _ =>
      have h : decide (((a :: b :: c :: r).length : Int) = 2) = false := decide_eq_false (by simp only [List.length_cons]; omega)
      unfold m__law_due
      simp only [An.isT, An.lenM, Option.bind_some, h]
      cases a <;> cases b <;> rfl
    | [a, b], hz =>
      obtain ⟨ha, hb⟩ := hz z a b rfl
      cases a with
      | tup w us =>
        obtain ⟨rfl, hus⟩ := ha w us rfl
        cases b with
        | str ls =>
          obtain ⟨hls, hlc⟩ := hb ls rfl
          have et : treeB (.tup z [.tup false us, .str ls]) = (azB ls && ((decide (1 ≤ ls.length) && decide (ls.length ≤ 60)) && (decide (us.length = ls.length) && (match us.mapM An.intM with
            | some ups => upsB ups
            | none => false)))) := rfl
          have et2 : trieB (.tup z [.tup false us, .str ls]) = (treeB (.tup z [.tup false us, .str ls]) && (match us.mapM An.intM with
            | some ys => riseB ys ls
            | none => false)) := rfl
          rw [et2, et]
          unfold m__law_due
          show (((if (!decide ((ls.length : Int) = (us.length : Int))) = true then some true else some (decide ((60 : Int) < (ls.length : Int))) : Option Bool).bind fun c60 => some c60).bind _) = _
          by_cases hl : us.length = ls.length
          · rw [decide_eq_true (show (ls.length : Int) = (us.length : Int) by omega), decide_eq_true hl]
            show (if decide ((60 : Int) < (ls.length : Int)) = true then some false else _) = _
            by_cases h60 : ls.length ≤ 60
            · rw [decide_eq_false (show ¬ (60 : Int) < (ls.length : Int) by omega), decide_eq_true h60]
              have e1 : decide (1 ≤ ls.length) = !us.isEmpty := by
                cases us with
                | nil => rw [decide_eq_false (by simp at hl; omega)]; rfl
                | cons a r => rw [decide_eq_true (by simp at hl; omega)]; rfl
              rw [e1, Bool.and_true, Bool.true_and]
              show ((m__law_ups us).bind _) = _
              rw [law_ups_eq (by omega)]
              show (if (!(!us.isEmpty && (match us.mapM An.intM with
                | some ys => upsB ys
                | none => false))) = true then some false else _) = _
              cases hU : (!us.isEmpty && (match us.mapM An.intM with
                | some ys => upsB ys
                | none => false)) with
              | false => rw [Bool.and_false, Bool.false_and]; rfl
              | true =>
                rw [Bool.and_true]
                obtain ⟨hne, hU2⟩ := (Bool.and_eq_true _ _ ▸ hU : _ ∧ _)
                cases e : us.mapM An.intM with
                | none => rw [e] at hU2; cases hU2
                | some ys =>
                  rw [e] at hU2
                  have hU2 : upsB ys = true := hU2
                  have hy := mapM_len e
                  have hm := mapM_is e
                  subst hm
                  have hul : (ys.map An.int).length = ys.length := List.length_map _
                  show _ = some (azB ls && riseB ys ls)
                  refine Ret.val (P := fun r => r = (azB ls && riseB ys ls)) (ret_need (szB_of (by rw [signs_len]; omega)) (Ret.eq (compS_of (fun a : Sg => if (!inSg a ABC) = true then some a else none) fun a _ => by split <;> rfl) ?_)) fun _ e => e
                  have hq := bad_letters ls
                  have hq2 : ∀ a ∈ ((signs ls).filterMap fun a => if (!inSg a ABC) = true then some a else none), ∀ c ∈ a, c < 1114112 := fun a ha c hc => by
                    obtain ⟨b, hb, e⟩ := List.mem_filterMap.mp ha
                    unfold signs at hb
                    obtain ⟨d, hd, rfl⟩ := List.mem_map.mp hb
                    split at e
                    · rw [← Option.some.inj e] at hc
                      rw [List.mem_singleton.mp hc]
                      exact Nat.lt_trans (hlc d hd) (by decide)
                    · cases e
                  generalize ((signs ls).filterMap fun a => if (!inSg a ABC) = true then some a else none) = q at hq hq2
                  refine ret_need (eqB_txts hq2 (fun x hx => nomatch hx)) (Ret.ite (fun h => Ret.pure ?_) fun h => ?_)
                  · have : azB ls = false := by
                      cases e : azB ls with
                      | false => rfl
                      | true => rw [decide_eq_true (hq.mpr e)] at h; cases h
                    rw [this]; rfl
                  · have hA : azB ls = true := hq.mp (by
                      by_cases e : q = []
                      · exact e
                      · rw [decide_eq_false e] at h; cases h)
                    rw [hA, Bool.true_and]
                    rw [hul]
                    refine Ret.eq (uptoM_of (by decide) (by decide) (by omega) (by omega)) ?_
                    have step : ∀ (q : Int), q ∈ upto 0 (ys.length : Int) → ((need (szB (enumL (ys.map An.int)).length) ()).bind fun u162 =>
                        (compS (enumL (ys.map An.int)) fun a164 => (An.intM a164.2).bind fun o188 => if (decide (o188 = q)) = true then (atI ls a164.1).bind fun c191 => some (some [c191]) else some none).bind fun q163 =>
                        (need (ssetB 3999 q163) ()).bind fun u212 => (need (eqB ((dL dS).d q163) ((dL dS).d (ssetL ltS q163))) ()).bind fun u221 =>
                        if (!(decide (q163 = (ssetL ltS q163)))) = true then some (.rt false) else some (.nx ()) : Option (Fl Unit Bool)) = some (if decide ((kd ys ls ys.length q).Pairwise (· < ·)) = true then (Fl.nx () : Fl Unit Bool) else .rt false) := fun q hq => by
                      rw [need_bind (szB_of (by rw [enumL_len]; omega)), compS_of (fun a : Int × An => if ys.getD a.1.toNat 0 = q then some [ls.getD a.1.toNat 0] else none) fun a ha => ?_, kids_eq]
                      · have hkl : (kd ys ls ys.length q).length ≤ 60 := by
                          unfold kd
                          rw [List.length_map]
                          refine Nat.le_trans (List.length_filter_le _ _) ?_
                          rw [List.length_range]; omega
                        have hkc : ∀ c ∈ kd ys ls ys.length q, c < 1114112 := fun c hc => by
                          unfold kd at hc
                          obtain ⟨k, hk, rfl⟩ := List.mem_map.mp hc
                          have hk := List.mem_range.mp (List.mem_filter.mp hk).1
                          have e := List.getElem?_eq_getElem (show k < ls.length by omega)
                          rw [getD_of e]
                          exact Nat.lt_trans (hlc _ (List.getElem_mem _)) (by decide)
                        have hks := kids_sorted (kd ys ls ys.length q)
                        have hmm : ∀ x ∈ (kd ys ls ys.length q).map fun c => [c], ∀ c ∈ x, c < 1114112 := fun x hx c hc => by
                          obtain ⟨d, hd, rfl⟩ := List.mem_map.mp hx
                          rw [List.mem_singleton.mp hc]; exact hkc d hd
                        show (need (ssetB 3999 ((kd ys ls ys.length q).map fun c => [c])) ()).bind _ = _
                        rw [need_bind (show ssetB 3999 _ = true from decide_eq_true (by rw [List.length_map]; omega)), need_bind (eqB_txts hmm fun x hx => hmm x (sset_mem.mp hx))]
                        by_cases hp : (kd ys ls ys.length q).Pairwise (· < ·)
                        · rw [decide_eq_true (hks.mpr hp), decide_eq_true hp]; rfl
                        · rw [decide_eq_false fun z => hp (hks.mp z), decide_eq_false hp]; rfl
                      · obtain ⟨i, e1, e2⟩ := enumL_mem ha
                        have hi := (List.getElem?_eq_some_iff.mp e2).1
                        rw [hul] at hi
                        rw [List.getElem?_map] at e2
                        obtain ⟨u, hu1, hu2⟩ := Option.map_eq_some_iff.mp e2
                        have ec := List.getElem?_eq_getElem (show i < ls.length by omega)
                        rw [← hu2, e1, Int.toNat_natCast, getD_of hu1, getD_of ec]
                        show (if decide (u = q) = true then (atI ls (i : Int)).bind _ else some none) = _
                        by_cases e : u = q
                        · rw [decide_eq_true e, if_pos e, atI_of (i := (i : Int)) (by omega) (by rw [Int.toNat_natCast]; exact ec)]; rfl
                        · rw [decide_eq_false e, if_neg e]; rfl
                    refine Ret.eq (foldR_all (p := fun q => decide ((kd ys ls ys.length q).Pairwise (· < ·))) fun q hq => step q hq) ?_
                    have hr : (upto 0 (ys.length : Int)).all (fun q => decide ((kd ys ls ys.length q).Pairwise (· < ·))) = riseB ys ls := by
                      rw [range_of_upto, List.all_map]; rfl
                    rw [hr]
                    cases riseB ys ls with
                    | true => exact Ret.pure rfl
                    | false => exact Ret.pure rfl
            · rw [decide_eq_true (show (60 : Int) < (ls.length : Int) by omega), decide_eq_false h60, Bool.and_false, Bool.false_and, Bool.and_false, Bool.false_and]
              rfl
          · rw [decide_eq_false (show ¬ (ls.length : Int) = (us.length : Int) by omega), decide_eq_false hl, Bool.false_and, Bool.and_false, Bool.and_false, Bool.false_and]
            rfl
        | _ => rfl
      | _ => cases b <;> rfl
  | _ => rfl

/-! ### plain: k53's law -/
def Gd (x : An) : Prop := PQ 4 1300000 x ∧ Sz x
theorem anc_mem {ups : List Int} (U : UpsOk ups) {x y : Nat} (h : Anc ups x y) : x < ups.length → (y : Int) ∈ chL ups x := by
  have good : GoodU ups ups.length := fun j a b => by
    have e := List.getElem?_eq_getElem b
    rw [getD_of e]
    exact U.up j _ a e
  induction h with
  | refl k => exact fun _ => chL_head
  | @up k a u h hu r ih =>
    intro hk
    have h0 : k ≠ 0 := fun z => by
      subst z
      rw [U.root] at h
      have := Option.some.inj h
      omega
    have := U.up k u (by omega) h
    rw [chL_step (good.mono (by omega)) (by omega), getD_of h]
    exact List.mem_cons_of_mem _ (ih (by omega))
theorem upsB_ok {ups : List Int} (U : UpsOk ups) : upsB ups = true := by
  unfold upsB
  rw [getD_of U.root, decide_eq_true rfl, Bool.true_and, List.all_eq_true]
  intro k hk
  have b := upto_mem hk
  have e := List.getElem?_eq_getElem (show k.toNat < ups.length by omega)
  have hu := U.up k.toNat _ (by omega) e
  have := anc_mem U (U.ch k.toNat _ (by omega) e) (by omega)
  unfold canB
  rw [getD_of e]
  refine decide_eq_true ?_
  rw [show ((ups[k.toNat].toNat : Nat) : Int) = ups[k.toNat] by omega] at this
  exact this
theorem az_ok {ls : Sg} (h : ∀ c ∈ ls, 97 ≤ c ∧ c ≤ 122) : azB ls = true := by
  unfold azB
  rw [List.all_eq_true]
  intro c hc
  have h2 := h c hc
  have : ∀ i : Fin 26, inSg [97 + i.val] ABC = true := by decide +kernel
  have := this ⟨c - 97, by omega⟩
  rw [show 97 + (c - 97) = c by omega] at this
  exact this
theorem tree_ok_B {t : Tre} (T : TreeOk t) : treeB ((tdP2 (tdT tdI) tdS).d t) = true := by
  have hp := T.ups.pos
  have hl := T.len
  have hm := T.most
  show (azB t.2 && ((decide (1 ≤ t.2.length) && decide (t.2.length ≤ 60)) && (decide ((t.1.map An.int).length = t.2.length) && (match (t.1.map An.int).mapM An.intM with
    | some ups => upsB ups
    | none => false)))) = true
  rw [az_ok T.low, decide_eq_true (by omega), decide_eq_true (by omega), decide_eq_true (by rw [List.length_map]; exact hl), mapM_ints]
  show (true && ((true && true) && (true && upsB t.1))) = true
  rw [upsB_ok T.ups]; rfl
theorem trie_true {ws : List Sg} {c0 : Nat} (W : WaysOk ws c0) : trieB ((tdP2 (tdT tdI) tdS).d (trieL ws)) = true := by
  have T := trie_ok W
  have hl := T.len
  have l1 : (trieL ws).1.length = (ssetL ltS ws).length := by unfold trieL; rw [List.length_map]
  have ht := tree_ok_B T
  refine (trieB_of (z := false) (ys := (trieL ws).1) (ls := (trieL ws).2) ht).trans ?_
  unfold riseB
  rw [List.all_eq_true]
  intro p _
  refine decide_eq_true ?_
  unfold kd
  rw [List.pairwise_map]
  refine (List.pairwise_lt_range.filter _).imp_of_mem fun {i j} hi hj hij => ?_
  have hi := List.mem_filter.mp hi
  have hj := List.mem_filter.mp hj
  have i1 := List.mem_range.mp hi.1
  have j1 := List.mem_range.mp hj.1
  have i2 := of_decide_eq_true hi.2
  have j2 := of_decide_eq_true hj.2
  have ei := List.getElem?_eq_getElem i1
  have ej := List.getElem?_eq_getElem j1
  rw [getD_of ei] at i2
  rw [getD_of ej] at j2
  rw [i2] at ei
  rw [j2] at ej
  have i0 : 0 < i := Nat.pos_of_ne_zero fun z => by
    subst z
    rw [T.ups.root] at ei
    have := Option.some.inj ei
    omega
  have wi' := List.getElem?_eq_getElem (show i < (ssetL ltS ws).length by omega)
  have wj' := List.getElem?_eq_getElem (show j < (ssetL ltS ws).length by omega)
  have wi := wy_trie W i _ wi'
  have wj := wy_trie W j _ wj'
  rw [wy_up T i0 ei] at wi
  rw [wy_up T (by omega) ej] at wj
  have so := List.pairwise_iff_getElem.mp (sset_lt lo_S (xs := ws)) i j (by omega) (by omega) hij
  rw [← wi, ← wj] at so
  have pre : ∀ (p x y : Sg), ltS (p ++ x) (p ++ y) = ltS x y := fun p x y => by
    induction p with
    | nil => rfl
    | cons c p ih => rw [List.cons_append, List.cons_append, ltS_cons, ih, decide_eq_false (by omega), decide_eq_true rfl]; simp
  rw [pre, ltS_one] at so
  exact of_decide_eq_true so
theorem gP {a b : An} (ha : PQ 2 400000 a) (hb : PQ 2 400000 b) (h1 : UpT a) (h2 : LbT b) : Gd (.tup false [a, b]) := ⟨rkT (n := 2) (fa_cons ha (fa_cons hb fa_nil)) (Nat.le_refl _) (by decide) (by decide), sz_pair h1 h2⟩
theorem gI {l : List Int} {s : Sg} (h : ∀ y ∈ l, y.natAbs < 1000) (hl : l.length ≤ 130) (hc : ∀ c ∈ s, c < 1000) (hs : s.length ≤ 130) : Gd ((tdP2 (tdT tdI) tdS).d (l, s)) :=
  gP (a := .tup false (l.map An.int)) (b := .str s) (rkT (n := 130) (fa_map fun y hy => sm_pq (Nat.lt_trans (h y hy) (by decide))) (by rw [List.length_map]; exact hl) (by decide) (by decide)) ((st_n hc hs).mono (by decide) (by decide)) (upT (by rw [List.length_map]; omega)) (lbT (by omega) hc)
theorem gA {l : List An} {s : Sg} (h : ∀ y ∈ l, PQ 1 3000 y) (hl : l.length ≤ 130) (hc : ∀ c ∈ s, c < 1000) (hs : s.length ≤ 130) : Gd ((tdP2 (tdT tdA) tdS).d (l, s)) := by
  have e : (tdP2 (tdT tdA) tdS).d (l, s) = .tup false [.tup false l, .str s] := by
    show An.tup false [.tup false (l.map fun x => x), .str s] = _
    simp
  rw [e]
  exact gP (rkT (n := 130) h hl (by decide) (by decide)) ((st_n hc hs).mono (by decide) (by decide)) (upT (by omega)) (lbT (by omega) hc)
theorem right_ok {x : An} (h : Gd x) : m__law_right x = some true := by
  unfold m__law_right
  refine Ret.val (P := fun r => r = true) (Ret.eq (reprM_of h.1 (by decide) (by decide)) (Ret.eq (is_trie_eq x h.2) ?_)) fun _ e => e
  refine Ret.eq (a := true) ?_ (Ret.pure rfl)
  rw [if_pos rfl, due_eq x h.2]
  show ((if decide (trieB x = trieB x) = true then _ else some false : Option Bool).bind _) = _
  rw [decide_eq_true rfl, if_pos rfl, reprM_of h.1 (by decide) (by decide)]
  show some (decide (x.pd.shown.cps.toList = x.pd.shown.cps.toList)) = _
  rw [decide_eq_true rfl]
theorem bent_ret {p : List Int} {t : Tre} (T : TreeOk t) (hp : PoolOk p) : Ret (m__law_bent p t) (fun r => Gd r.1 ∧ PoolOk r.2) := by
  have hm := T.most
  have hpos := T.ups.pos
  have hlen := T.len
  unfold m__law_bent
  refine Ret.bind (take_ret hp (by decide) (by decide)) fun r2 ⟨b2, s2⟩ => ?_
  refine Ret.bind (take_ret s2 (by decide) (by decide)) fun r13 ⟨b13, s13⟩ => ?_
  refine Ret.bind (take_ret s13 (by omega) (by omega)) fun r28 ⟨b28, s28⟩ => ?_
  refine Ret.bind (take_ret s28 (by decide) (by decide)) fun r39 ⟨b39, s39⟩ => ?_
  refine Ret.bind (P := fun c : Nat => c < 1000) ((ret_in b39.1 (by show _ < (26 : Int); exact b39.2)).mono (by decide)) fun c50 hc50 => ?_
  refine Ret.bind (take_ret s39 (by decide) (by decide)) fun r51 ⟨b51, s51⟩ => ?_
  refine Ret.bind (P := fun c : Nat => c < 1000) ((ret_in b51.1 (by show _ < (12 : Int); exact b51.2)).mono (by decide)) fun c62 hc62 => ?_
  refine Ret.bind (P := fun x => PQ 1 3000 x) ((ret_in b13.1 (by show _ < (12 : Int); exact b13.2)).mono ?_) fun odd podd => ?_
  · have n0 : ∀ {b : Int}, b.natAbs < 1002 → PQ 1 3000 (.int b) := fun h => (sm_pq h).mono (by decide) (by decide)
    refine fa_cons (ra_non.mono (by decide) (by decide)) <| fa_cons ((ra_bl _).mono (by decide) (by decide)) <| fa_cons ((ra_bl _).mono (by decide) (by decide)) <| fa_cons (n0 (by decide)) <| fa_cons (n0 (by decide)) <| fa_cons ((st_pq (by decide) (by decide)).mono (by decide) (by decide)) <| fa_cons (em_pq.mono (by decide) (by decide)) <|
      fa_cons (rkLs (n := 0) (e := 0) (B := 0) fa_nil (Nat.le_refl _) (by decide) (by decide)) <| fa_cons (ra_d0.mono (by decide) (by decide)) <| fa_cons ((num_pq (by decide)).mono (by decide) (by decide)) <| fa_cons (n0 (by omega)) <| fa_cons (n0 (by omega)) fa_nil
  have uy : ∀ y ∈ t.1, y.natAbs < 1000 := fun y hy => by
    obtain ⟨k, hk⟩ := List.getElem?_of_mem hy
    have hlt := (List.getElem?_eq_some_iff.mp hk).1
    have := up_bd T hk
    omega
  have lc : ∀ c ∈ t.2, c < 1000 := fun c hc => by have := T.low c hc; omega
  have el : ∀ x ∈ t.1.map An.int, PQ 1 3000 x := fa_map fun y h => (sm_pq (Nat.lt_trans (uy y h) (by decide))).mono (by decide) (by decide)
  have a1 := cut_length_le t.1 none (some r28.1)
  have a2 := cut_length_le t.1 (some (r28.1 + 1)) none
  have a3 := cut_length_le t.1 none (some (-1))
  have d1 := cut_length_le t.2 none (some r28.1)
  have d2 := cut_length_le t.2 (some (r28.1 + 1)) none
  have d3 := cut_length_le t.2 none (some (-1))
  refine Ret.bind (P := fun l => (∀ x ∈ l, PQ 1 3000 x) ∧ l.length ≤ 61) (Ret.of (catLM_of (by simp only [List.length_map, List.length_cons, List.length_nil]; omega)) ⟨fa_app (fa_map fun y hy => el _ (List.mem_map.mpr ⟨y, cut_mem hy, rfl⟩)) (fa_cons podd fa_nil), by simp only [List.length_append, List.length_map, List.length_cons, List.length_nil]; omega⟩) fun l180 ⟨p180, n180⟩ => ?_
  refine Ret.bind (P := fun l => (∀ x ∈ l, PQ 1 3000 x) ∧ l.length ≤ 130) (Ret.of (catLM_of (by simp only [List.length_map]; omega)) ⟨fa_app p180 (fa_map fun y hy => el _ (List.mem_map.mpr ⟨y, cut_mem hy, rfl⟩)), by simp only [List.length_append, List.length_map]; omega⟩) fun l197 ⟨p197, n197⟩ => ?_
  have txt : ∀ {s u : Sg}, (∀ c ∈ s, c < 1000) → (∀ c ∈ u, c < 1000) → s.length + u.length ≤ 130 → Ret (catM s u) (fun r => r = s ++ u ∧ (∀ c ∈ r, c < 1000) ∧ r.length ≤ s.length + u.length) := fun h1 h2 h3 => Ret.of (catM_of (by omega)) ⟨rfl, fa_app h1 h2, by rw [List.length_append]; exact Nat.le_refl _⟩
  have c1 : ∀ c ∈ ([c50] : Sg), c < 1000 := fa_cons hc50 fa_nil
  have c2 : ∀ c ∈ ([c62] : Sg), c < 1000 := fa_cons hc62 fa_nil
  refine Ret.bind (txt (fa_cut lc) c1 (by simp only [List.length_cons, List.length_nil]; omega)) fun t209 ⟨_, h209, n209⟩ => ?_
  simp only [List.length_cons, List.length_nil] at n209
  refine Ret.bind (txt h209 (fa_cut lc) (by omega)) fun t210 ⟨_, h210, n210⟩ => ?_
  refine Ret.bind (txt (fa_cut lc) c2 (by simp only [List.length_cons, List.length_nil]; omega)) fun t211 ⟨_, h211, n211⟩ => ?_
  simp only [List.length_cons, List.length_nil] at n211
  refine Ret.bind (txt h211 (fa_cut lc) (by omega)) fun t212 ⟨_, h212, n212⟩ => ?_
  have g1 : Gd ((tdP2 (tdT tdI) tdS).d (t.1, t210)) := gI uy (by omega) h210 (by omega)
  have g2 : Gd ((tdP2 (tdT tdA) tdS).d (l197, t.2)) := gA p197 n197 lc (by omega)
  have g3 : Gd ((tdP2 (tdT tdI) tdS).d (t.1, t212)) := gI uy (by omega) h212 (by omega)
  have lst : ∀ {l m : List An}, (∀ x ∈ l, Gd x) ∧ l.length ≤ 50 → (∀ x ∈ m, Gd x) ∧ m.length ≤ 5 → Ret (catLM l m) (fun r => (∀ x ∈ r, Gd x) ∧ r.length = l.length + m.length) := fun h1 h2 => Ret.of (catLM_of (by omega)) ⟨fa_app h1.1 h2.1, List.length_append⟩
  have snc : ∀ {l : List An} {a : An}, (∀ x ∈ l, Gd x) ∧ l.length ≤ 50 → Gd a → Ret (snocM l a) (fun r => (∀ x ∈ r, Gd x) ∧ r.length = l.length + 1) := fun h1 h2 => Ret.of (snocM_of (by omega)) ⟨fa_app h1.1 (fa_cons h2 fa_nil), by simp⟩
  refine Ret.bind (snc ⟨fa_cons g1 (fa_cons g1 (fa_cons g2 (fa_cons g2 fa_nil))), by simp⟩ g3) fun l267 ⟨q267, m267⟩ => ?_
  simp only [List.length_cons, List.length_nil] at m267
  have ext : ∀ (v : Int), v.natAbs < 1000 → Ret (catLM t.1 [v]) (fun r => (∀ y ∈ r, y.natAbs < 1000) ∧ r.length ≤ 61) := fun v hv => Ret.of (catLM_of (by simp only [List.length_cons, List.length_nil]; omega)) ⟨fa_app uy (fa_cons hv fa_nil), by simp only [List.length_append, List.length_cons, List.length_nil]; omega⟩
  refine Ret.bind (ext r28.1 (by omega)) fun l286 ⟨q286, n286⟩ => Ret.bind (txt lc c1 (by simp only [List.length_cons, List.length_nil]; omega)) fun t295 ⟨_, h295, n295⟩ => ?_
  simp only [List.length_cons, List.length_nil] at n295
  refine Ret.bind (snc ⟨q267, by omega⟩ (gI q286 (by omega) h295 (by omega))) fun l304 ⟨q304, m304⟩ => ?_
  refine Ret.bind (ext 0 (by decide)) fun l323 ⟨q323, n323⟩ => Ret.bind (txt lc c1 (by simp only [List.length_cons, List.length_nil]; omega)) fun t332 ⟨_, h332, n332⟩ => ?_
  simp only [List.length_cons, List.length_nil] at n332
  refine Ret.bind (snc ⟨q304, by omega⟩ (gI q323 (by omega) h332 (by omega))) fun l341 ⟨q341, m341⟩ => ?_
  refine Ret.bind (ext ((t.1.length : Int) - 1) (by omega)) fun l360 ⟨q360, n360⟩ => Ret.bind (txt lc c1 (by simp only [List.length_cons, List.length_nil]; omega)) fun t369 ⟨_, h369, n369⟩ => ?_
  simp only [List.length_cons, List.length_nil] at n369
  refine Ret.bind (snc ⟨q341, by omega⟩ (gI q360 (by omega) h369 (by omega))) fun l378 ⟨q378, m378⟩ => ?_
  refine Ret.bind (lst ⟨q378, by omega⟩ ⟨fa_cons (gI (fa_cut uy) (by omega) (fa_cut lc) (by omega)) (fa_cons (gI (fa_cut uy) (by omega) lc (by omega)) (fa_cons (gI uy (by omega) (fa_cut lc) (by omega)) fa_nil)), by simp⟩) fun l442 ⟨q442, m442⟩ => ?_
  simp only [List.length_map, List.length_cons, List.length_nil] at m442
  have pu : PQ 2 400000 (.tup false (t.1.map An.int)) := rkT (n := 60) el (by rw [List.length_map]; omega) (by decide) (by decide)
  have pul : PQ 2 400000 (.lst (t.1.map An.int)) := rkLs (n := 60) el (by rw [List.length_map]; omega) (by decide) (by decide)
  have tu : UpT (.tup false (t.1.map An.int)) := upT (by rw [List.length_map]; omega)
  have ps : PQ 2 400000 (.str t.2) := (st_n lc (by omega)).mono (by decide) (by decide)
  have psl : PQ 2 400000 (.lst ((signs t.2).map An.str)) := rkLs (n := 60) (e := 0) (B := 1302) (fa_map fun s hs => by
    unfold signs at hs
    obtain ⟨c, hcm, rfl⟩ := List.mem_map.mp hs
    exact st_n (fa_cons (lc c hcm) fa_nil) (by simp)) (by rw [List.length_map, signs_len]; omega) (by decide) (by decide)
  have tl : LbT (.str t.2) := lbT (by omega) lc
  refine Ret.bind (lst ⟨q442, by omega⟩ ⟨fa_cons (gP pul ps (upT_no fun _ _ => nofun) tl) (fa_cons (gP pu psl tu (lbT_no fun _ => nofun)) (fa_cons ⟨rkLs (n := 2) (e := 2) (B := 400000) (fa_cons pu (fa_cons ps fa_nil)) (Nat.le_refl _) (by decide) (by decide), sz_no fun _ _ => nofun⟩ fa_nil)), by simp⟩) fun l505 ⟨q505, m505⟩ => ?_
  simp only [List.length_cons, List.length_nil] at m505
  have em : PQ 2 400000 (.tup false []) := em_pq.mono (by decide) (by decide)
  refine Ret.bind (lst ⟨q505, by omega⟩ ⟨fa_cons ⟨rkT (n := 3) (e := 2) (B := 400000) (fa_cons pu (fa_cons ps (fa_cons em fa_nil))) (Nat.le_refl _) (by decide) (by decide), sz_len (show (3 : Nat) ≠ 2 by decide)⟩ (fa_cons ⟨rkT (n := 1) (e := 2) (B := 400000) (fa_cons pu fa_nil) (Nat.le_refl _) (by decide) (by decide), sz_len (show (1 : Nat) ≠ 2 by decide)⟩ (fa_cons (gP ps pu (upT_no fun _ _ => nofun) (lbT_no fun _ => nofun)) (fa_cons (gP pu (ra_non.mono (by decide) (by decide)) tu (lbT_no fun _ => nofun)) fa_nil))), by simp⟩) fun l568 ⟨q568, m568⟩ => ?_
  simp only [List.length_cons, List.length_nil] at m568
  refine Ret.bind (txt lc c2 (by simp only [List.length_cons, List.length_nil]; omega)) fun t576 ⟨_, h576, n576⟩ => ?_
  simp only [List.length_cons, List.length_nil] at n576
  refine Ret.bind (lst ⟨q568, by omega⟩ ⟨fa_cons (gI uy (by omega) h576 (by omega)) (fa_cons (gA fa_nil (by decide) fa_nil (by decide)) fa_nil), by simp⟩) fun l613 ⟨q613, m613⟩ => ?_
  simp only [List.length_cons, List.length_nil] at m613
  exact Ret.bind ((ret_in b2.1 (by omega)).mono fun x hx => q613 x hx) fun x gx => Ret.pure ⟨gx, s51⟩
theorem all_right {l : List An} (h : ∀ x ∈ l, Gd x) : compS l (fun a222 => (m__law_right a222).bind fun r246 => if (!r246) = true then some (some a222) else some none) = some [] := by
  rw [compS_of (fun _ : An => (none : Option An)) fun x hx => by rw [right_ok (h x hx)]; rfl]
  congr 1
  induction l with
  | nil => rfl
  | cons a l ih => rw [List.filterMap_cons]; exact ih fun x hx => h x (List.mem_cons_of_mem _ hx)
theorem plain (ns : List Int) (hl : ns.length ≤ 63) : m_law ns = some true := by
  unfold m_law
  have b : 1 ≤ mx (1 : Int) (mn (8 : Int) (ns.length : Int)) ∧ mx (1 : Int) (mn (8 : Int) (ns.length : Int)) ≤ 8 := by rw [mx_eq, mn_eq]; omega
  refine Ret.val (P := fun r => r = true) (Ret.eq (uptoM_of (by decide) (by decide) (by omega) (by omega)) (Ret.bind (ret_foldR (fun _ _ => True) trivial fun i s k hk _ => ?_) fun z ⟨s, e, _⟩ => ?_)) fun _ e => e
  · have hk := upto_get hk
    refine Ret.bind (pool_ret ns (by omega)) fun p hp => ?_
    refine Ret.bind (letters_ret hp) fun lt ⟨hlt, hp1⟩ => ?_
    refine Ret.bind (tree_ret hp1 (by decide) (by decide) hlt) fun r ⟨T, _, hp2⟩ => ?_
    have W := ways_ok T
    have T2 := trie_ok W
    refine Ret.eq (law_ways_eq T) (Ret.eq (law_trie_eq W) ?_)
    refine Ret.bind (bent_ret T hp2) fun b0 ⟨g0, hp3⟩ => ?_
    refine Ret.eq (uptoM_of (by decide) (by decide) (by decide) (by decide)) (ret_need (by decide) ?_)
    refine Ret.bind (ret_compOi (fun _ s => PoolOk s) Gd hp3 fun i x _ hi s hs => ?_) fun q ⟨hq1, hq2, hq3⟩ => ?_
    · exact Ret.bind (bent_ret T2 hs) fun r ⟨g, h⟩ => Ret.pure ⟨h, _, rfl, g⟩
    have gt : ∀ {t : Tre}, TreeOk t → Gd ((tdP2 (tdT tdI) tdS).d t) := fun {t} T => by
      have hm := T.most
      have hlen := T.len
      refine gI (l := t.1) (s := t.2) (fun y hy => ?_) (by omega) (fun c hc => by have := T.low c hc; omega) (by omega)
      obtain ⟨k, hk⟩ := List.getElem?_of_mem hy
      have hlt := (List.getElem?_eq_some_iff.mp hk).1
      have := up_bd T hk
      omega
    have hq2 : q.2.length = 9 := hq2
    have hall : ∀ x ∈ [(tdP2 (tdT tdI) tdS).d r.1, (tdP2 (tdT tdI) tdS).d (trieL (ways r.1)), b0.1] ++ q.2, Gd x := fa_app (fa_cons (gt T) (fa_cons (gt T2) (fa_cons g0 fa_nil))) hq3
    refine Ret.eq (catLM_of (by simp only [List.length_cons, List.length_nil]; omega)) ?_
    refine Ret.eq (is_trie_eq _ (gt T2).2) ?_
    rw [trie_true W]
    refine Ret.ite (fun h => nomatch h) fun _ => ?_
    refine ret_need (szB_of (by rw [List.length_append]; simp only [List.length_cons, List.length_nil]; omega)) ?_
    exact Ret.eq (all_right hall) (Ret.pure ⟨(), rfl, trivial⟩)
  · subst e
    refine ret_thenF ?_
    have nz : ∀ {x : An}, PQ 4 1300000 x → (∀ z ys, x ≠ .tup z ys) → Gd x := fun h h2 => ⟨h, sz_no h2⟩
    have em : PQ 2 400000 (.tup false []) := em_pq.mono (by decide) (by decide)
    have sa : PQ 2 400000 (.str [97]) := (st_pq (by decide) (by decide)).mono (by decide) (by decide)
    have pi : ∀ {b : Int}, b.natAbs < 1002 → PQ 1 3000 (.int b) := fun h => (sm_pq h).mono (by decide) (by decide)
    refine Ret.eq (catLM_of (by simp)) (ret_need (by decide) (Ret.eq (all_right ?_) (Ret.pure rfl)))
    refine fa_app (fa_cons ?_ <| fa_cons ?_ <| fa_cons ?_ <| fa_cons ?_ <| fa_cons ?_ <| fa_cons ?_ <| fa_cons ?_ <| fa_cons ?_ <| fa_cons ?_ <| fa_cons ?_ <| fa_cons ?_ <| fa_cons ?_ <| fa_cons ?_ fa_nil) (fa_cons ?_ <| fa_cons ?_ <| fa_cons ?_ fa_nil)
    · exact nz (ra_non.mono (by decide) (by decide)) fun _ _ => nofun
    · exact nz ((num_pq (by decide)).mono (by decide) (by decide)) fun _ _ => nofun
    · exact nz ((ra_bl _).mono (by decide) (by decide)) fun _ _ => nofun
    · exact nz ((st_pq (by decide) (by decide)).mono (by decide) (by decide)) fun _ _ => nofun
    · exact nz ((st_pq (by decide) (by decide)).mono (by decide) (by decide)) fun _ _ => nofun
    · exact ⟨em_pq.mono (by decide) (by decide), sz_len (show (0 : Nat) ≠ 2 by decide)⟩
    · exact nz (rkLs (n := 0) (e := 0) (B := 0) fa_nil (Nat.le_refl _) (by decide) (by decide)) fun _ _ => nofun
    · exact nz (ra_d0.mono (by decide) (by decide)) fun _ _ => nofun
    · exact gA fa_nil (by decide) fa_nil (by decide)
    · exact gI (by decide) (by decide) (by decide) (by decide)
    · exact gI (by decide) (by decide) (by decide) (by decide)
    · exact gP (a := .tup false [.int (-1), .int 0]) (b := .str [97, 97]) (rkT (n := 2) (fa_cons (pi (by decide)) (fa_cons (pi (by decide)) fa_nil)) (Nat.le_refl _) (by decide) (by decide)) ((st_pq (by decide) (by decide)).mono (by decide) (by decide)) (upT (by decide)) (lbT (by decide) (by decide))
    · exact gI (by decide) (by decide) (by decide) (by decide)
    · exact gI (by decide) (by decide) (by decide) (by decide)
    · exact gP (a := .tup false [.bl true]) (b := .str [97]) (rkT (n := 1) (fa_cons (ra_bl true) fa_nil) (Nat.le_refl _) (by decide) (by decide)) sa (upT (us := [An.bl true]) (by decide)) (lbT (by decide) (by decide))
    · exact gP (a := .tup false [.tup false [.int (-1)]]) (b := .str [97]) (rkT (n := 1) (e := 1) (B := 3005) (fa_cons (rkT (n := 1) (e := 0) (B := 201) (fa_cons (num_pq (by decide)) fa_nil) (Nat.le_refl _) (by decide) (by decide)) fa_nil) (Nat.le_refl _) (by decide) (by decide)) sa (upT (us := [An.tup false [.int (-1)]]) (by decide)) (lbT (by decide) (by decide))

end G
open PySem PySem.W PySem.Calls PyProof.Rows
section
theorem G.holds (plain : ∀ ns : List Int, ns.length ≤ 63 → G.m_law ns = some true) : PySem.Challenge.rw_upwords_k53_what_is_a_trie.Holds := by
  w_on; o_law
  refine HandSHeadRun.head_any (r := OpenLaw.row PySem.Challenge.rw_upwords_k53_what_is_a_trie) (q := view (OpenLaw.row PySem.Challenge.rw_upwords_k53_what_is_a_trie).prog [24]) (H := G.hk) (ob := G.ob) (M := 4000) (loose := G.loose) (d := HandSHeadRun.topDef (OpenLaw.row PySem.Challenge.rw_upwords_k53_what_is_a_trie).prog 24) (kwd := []) G.ob_eq
    (by kernel_rfl) (fun s => by kernel_rfl) G.run (by kernel_rfl) (by kernel_rfl) (by kernel_rfl) (by rfl) (by first | assumption | decide +kernel) (by decide +kernel) ⟨rfl, rfl, rfl, rfl, rfl, by decide +kernel⟩ ?hw ?hc
  case hw => w_witness2
  case hc =>
    refine U.walkG (l := PySem.Challenge.rw_upwords_k53_what_is_a_trie) (n := 63) (k := 6) (x := "script") rfl (by decide) (by kernel_rfl) ⟨rfl, by decide, by decide⟩ ?F
    intro w mg fa h Y Gm hmg0
    obtain ⟨K, KX, c, cx⟩ := Y
    have hmg : mg ("law" : PySem.Str) = some (.ref fa) := by
      have e : (HandSHeadRun.topDef (OpenLaw.row PySem.Challenge.rw_upwords_k53_what_is_a_trie).prog 24).name = ("law" : PySem.Str) := by kernel_rfl
      rw [← e]
      exact hmg0
    obtain ⟨fd, hb, hF⟩ := G.facts (P := (PySem.Challenge.rw_upwords_k53_what_is_a_trie).prog) (w := w) KX Gm hmg c cx
    exact ⟨K, fd, G.sp_law K, KX, hb, fun H a ns hl hS => ⟨H, _, ns, true, rfl, fun _ _ e => e, ⟨a, rfl, hS⟩, plain ns hl, fun v _ _ _ e => e⟩, hF⟩
end

set_option maxRecDepth 100000 in
set_option maxHeartbeats 0 in
theorem PySem.Challenge.cw_upwords_k53_what_is_a_trie_holds : PySem.Challenge.rw_upwords_k53_what_is_a_trie.Holds :=
  G.holds G.plain
#print axioms PySem.Challenge.cw_upwords_k53_what_is_a_trie_holds
