import PyProof.Rows.All
import Wide.All
import OpenK.AllK
import Wide.FinOn
import HandS.ForMost
import HandS.IsInst
import HandS.TupAny
import PySem.Challenge.RW_quillproof_k09_equations_are_solved
import HandS.Dict
import HandS.SetKeys
import HandS.Star
import HandS.More
import HandS.WordsDict
import HandS.AnyAll
import HandS.NoneIn
import HandS.DeepEq
import HandS.DictComp
import HandS.Iter
section
set_option Elab.async false
set_option linter.all false
set_option maxRecDepth 100000
set_option maxHeartbeats 2000000
/-! Qa: data, representation, cells, the state relation. -/
namespace Qp
open PySem PySem.Spec PyProof.Rows L2
abbrev D := PyData
abbrev St := L2.St
def kD : Key → D
  | .inl i => .int i
  | .inr s => .str s
theorem Pd.len {α β : Type} {R : α → β → Prop} : ∀ {xs : List α} {ys : List β}, Paired R xs ys → xs.length = ys.length
  | _, _, .nil => rfl
  | _, _, .cons _ t => by simp [Pd.len t]
theorem Pd.get {α β : Type} {R : α → β → Prop} : ∀ {xs : List α} {ys : List β} {i : Nat} {y : β}, Paired R xs ys → ys[i]? = some y → ∃ x, xs[i]? = some x ∧ R x y
  | _, _, _, _, .nil, e => by simp at e
  | _, _, 0, _, .cons r _, e => by simp at e; subst e; exact ⟨_, rfl, r⟩
  | _, _, i + 1, y, .cons _ t, e => by
    obtain ⟨u, h1, h2⟩ := Pd.get (i := i) (y := y) t (by simpa using e)
    exact ⟨u, by simpa using h1, h2⟩
theorem Pd.getL {α β : Type} {R : α → β → Prop} : ∀ {xs : List α} {ys : List β} {i : Nat} {x : α}, Paired R xs ys → xs[i]? = some x → ∃ y, ys[i]? = some y ∧ R x y
  | _, _, _, _, .nil, e => by simp at e
  | _, _, 0, _, .cons r _, e => by simp at e; subst e; exact ⟨_, rfl, r⟩
  | _, _, i + 1, y, .cons _ t, e => by
    obtain ⟨u, h1, h2⟩ := Pd.getL (i := i) (x := y) t (by simpa using e)
    exact ⟨u, by simpa using h1, h2⟩
theorem Pd.append {α β : Type} {R : α → β → Prop} : ∀ {xs xs' : List α} {ys ys' : List β}, Paired R xs ys → Paired R xs' ys' → Paired R (xs ++ xs') (ys ++ ys')
  | _, _, _, _, .nil, s => s
  | _, _, _, _, .cons r t, s => .cons r (Pd.append t s)
theorem Pd.set {α β : Type} {R : α → β → Prop} {x : α} {y : β} (r : R x y) : ∀ {xs : List α} {ys : List β} (i : Nat), Paired R xs ys → Paired R (xs.set i x) (ys.set i y)
  | _, _, _, .nil => .nil
  | _, _, 0, .cons _ t => .cons r t
  | _, _, i + 1, .cons q t => .cons q (Pd.set r i t)
theorem Pd.take {α β : Type} {R : α → β → Prop} : ∀ {xs : List α} {ys : List β} (n : Nat), Paired R xs ys → Paired R (xs.take n) (ys.take n)
  | _, _, 0, _ => .nil
  | _, _, _ + 1, .nil => .nil
  | _, _, n + 1, .cons r t => .cons r (Pd.take n t)
theorem Pd.drop {α β : Type} {R : α → β → Prop} : ∀ {xs : List α} {ys : List β} (n : Nat), Paired R xs ys → Paired R (xs.drop n) (ys.drop n)
  | _, _, 0, r => r
  | _, _, _ + 1, .nil => .nil
  | _, _, n + 1, .cons _ t => Pd.drop n t
theorem Pd.mono {α β : Type} {R S : α → β → Prop} (h : ∀ x y, R x y → S x y) : ∀ {xs : List α} {ys : List β}, Paired R xs ys → Paired S xs ys
  | _, _, .nil => .nil
  | _, _, .cons r t => .cons (h _ _ r) (Pd.mono h t)
theorem Pd.reverse {α β : Type} {R : α → β → Prop} {xs : List α} {ys : List β} (h : Paired R xs ys) : Paired R xs.reverse ys.reverse := by
  induction h with
  | nil => exact .nil
  | cons r t ih => rw [List.reverse_cons, List.reverse_cons]; exact Pd.append ih (.cons r .nil)
theorem Pd.dropLast {α β : Type} {R : α → β → Prop} {xs : List α} {ys : List β} (h : Paired R xs ys) : Paired R xs.dropLast ys.dropLast := by
  rw [List.dropLast_eq_take, List.dropLast_eq_take, Pd.len h]
  exact Pd.take _ h

/-- a value stands for a datum that is not changed any more -/
inductive Rp (K : PySem.W.Frag) (F : Hp) : V → D → Prop
  | non : Rp K F .non .none
  | bl (b : Bool) : Rp K F (.bl b) (.bool b)
  | int (i : Int) : Rp K F (.int i) (.int i)
  | str (x : Str) : Rp K F (.str x) (.str x)
  | lst {a : Addr} {xs : List V} {ds : List D} : SqL K F a xs → Paired (Rp K F) xs ds → Rp K F (.ref a) (.list ds)
  | tup {a : Addr} {xs : List V} {ds : List D} : SqT K F a xs → Paired (Rp K F) xs ds → Rp K F (.ref a) (.tuple ds)
  | dic {a : Addr} {kvs : List (Key × V)} {es : List (D × D)} : Rd F a (.dK kvs) → es.map (·.1) = kvs.map (fun p => kD p.1) → Paired (Rp K F) (kvs.map (·.2)) (es.map (·.2)) → Rp K F (.ref a) (.dict es)
/-- .. an object that is changed by its one owner -/
inductive OwnAt (K : PySem.W.Frag) (F : Hp) : Option HO → D → Prop
  | lst {xs : List V} {ds : List D} : Paired (Rp K F) xs ds → OwnAt K F (some (.lst xs)) (.list ds)
  | dic {kvs : List (Key × V)} {es : List (D × D)} : es.map (·.1) = kvs.map (fun p => kD p.1) → Paired (Rp K F) (kvs.map (·.2)) (es.map (·.2)) → OwnAt K F (some (.dK kvs)) (.dict es)

def Nf (u : HO) : Prop := ∀ o w, u ≠ .frz o w
def Le (F F' : Hp) : Prop := ∀ a u, Nf u → Rd F a u → Rd F' a u
theorem nf_dK {kvs : List (Key × V)} : Nf (.dK kvs) := fun _ _ z => nomatch z
theorem nf_lst {xs : List V} : Nf (.lst xs) := fun _ _ z => nomatch z
theorem nf_tup {xs : List V} : Nf (.tup xs) := fun _ _ z => nomatch z
theorem Le.refl (F : Hp) : Le F F := fun _ _ _ h => h
theorem Le.trans {F G J : Hp} (a : Le F G) (b : Le G J) : Le F J := fun x u n h => b x u n (a x u n h)
theorem Le.sqL {K : PySem.W.Frag} {F F' : Hp} {a : Addr} {xs : List V} (h : Le F F') (q : SqL K F a xs) : SqL K F' a xs := q.imp (h _ _ nf_lst) id
theorem Le.sqT {K : PySem.W.Frag} {F F' : Hp} {a : Addr} {xs : List V} (h : Le F F') (q : SqT K F a xs) : SqT K F' a xs := q.imp (h _ _ nf_tup) id
theorem Rp.mono {K : PySem.W.Frag} {F F' : Hp} (h : Le F F') {v : V} {d : D} (r : Rp K F v d) : Rp K F' v d :=
  Rp.rec (motive_1 := fun v d _ => Rp K F' v d) (motive_2 := fun xs ds _ => Paired (Rp K F') xs ds) .non .bl .int .str
    (fun a _ ih => .lst (h.sqL a) ih) (fun a _ ih => .tup (h.sqT a) ih) (fun a e _ ih => .dic (h _ _ nf_dK a) e ih) .nil (fun _ _ r t => .cons r t) r
theorem Rp.monoA {K : PySem.W.Frag} {F F' : Hp} (h : Le F F') {xs : List V} {ds : List D} (r : Paired (Rp K F) xs ds) : Paired (Rp K F') xs ds := Pd.mono (fun _ _ q => q.mono h) r
theorem OwnAt.mono {K : PySem.W.Frag} {F F' : Hp} (h : Le F F') {o : Option HO} {d : D} (r : OwnAt K F o d) : OwnAt K F' o d := by
  cases r with
  | lst p => exact .lst (Rp.monoA h p)
  | dic e p => exact .dic e (Rp.monoA h p)
theorem OwnAt.some {K : PySem.W.Frag} {F : Hp} {o : Option HO} {d : D} (r : OwnAt K F o d) : o ≠ none := by
  cases r with
  | lst p => exact fun z => nomatch z
  | dic e p => exact fun z => nomatch z
theorem OwnAt.rp {K : PySem.W.Frag} {F F' : Hp} {a : Addr} {o : Option HO} {d : D} (r : OwnAt K F o d) (e : F' a = o) (h : Le F F') : Rp K F' (.ref a) d := by
  cases r with
  | lst p => exact .lst (.inl (.inl e)) (Rp.monoA h p)
  | dic e' p => exact .dic (.inl e) e' (Rp.monoA h p)

/-! ### the heap without what is owned -/
open Classical in
noncomputable def cut (H : Hp) (M : Addr → Prop) : Hp := fun a => if M a then none else H a
theorem cut_of {H : Hp} {M : Addr → Prop} {a : Addr} (h : ¬ M a) : cut H M a = H a := if_neg h
theorem cut_in {H : Hp} {M : Addr → Prop} {a : Addr} (h : M a) : cut H M a = none := if_pos h
theorem cut_some {H : Hp} {M : Addr → Prop} {a : Addr} {o : HO} (h : cut H M a = some o) : H a = some o ∧ ¬ M a := by
  by_cases m : M a
  · rw [cut_in m] at h; cases h
  · rw [cut_of m] at h; exact ⟨h, m⟩
theorem le_cut {H H' : Hp} {M M' : Addr → Prop} (h : ∀ a o, H a = some o → ¬ M a → H' a = some o ∧ ¬ M' a) : Le (cut H M) (cut H' M') := by
  intro a u nf r
  rcases r with r | ⟨o, r⟩
  · obtain ⟨h1, h2⟩ := cut_some r
    obtain ⟨h3, h4⟩ := h a _ h1 h2
    exact .inl ((cut_of h4).trans h3)
  · obtain ⟨h1, h2⟩ := cut_some r
    obtain ⟨h3, h4⟩ := h a _ h1 h2
    exact .inr ⟨o, (cut_of h4).trans h3⟩
theorem cut_le {H : Hp} {M : Addr → Prop} : Le (cut H M) H := by
  intro a u nf r
  rcases r with r | ⟨o, r⟩
  · exact .inl (cut_some r).1
  · exact .inr ⟨o, (cut_some r).1⟩

def Ex (H H' : Hp) : Prop := ∀ a o, H a = some o → H' a = some o
theorem Ex.refl (H : Hp) : Ex H H := fun _ _ h => h
theorem Ex.trans {H H1 H2 : Hp} (a : Ex H H1) (b : Ex H1 H2) : Ex H H2 := fun x o h => b x o (a x o h)
theorem Ex.new {H : Hp} {p : Addr} {o : HO} (h : H p = none) : Ex H (upd H p o) := fun a u e => by
  rw [upd_ne (ne_of_none e h)]
  exact e
theorem Ex.dom {H H' : Hp} (x : Ex H H') {a : Addr} (h : H a ≠ none) : H' a ≠ none := by
  cases e : H a with
  | none => exact absurd e h
  | some o => rw [x a o e]; exact fun z => nomatch z

/-! ### cells -/
inductive Cell where
  | no | dat (d : D) | own (d : D) | io (d : D)
abbrev En := List Cell
def OwnS (σ : St) (cs : En) (i : Nat) (a : Addr) : Prop := σ[i]? = some (some (.ref a)) ∧ ∃ d, cs[i]? = some (.own d) ∨ cs[i]? = some (.io d)
def Md (σ : St) (cs : En) (X : Addr → Prop) : Addr → Prop := fun a => X a ∨ ∃ i, OwnS σ cs i a

structure Ok (K : PySem.W.Frag) (B : Hp) (IO : List (Nat × Addr)) (X : Addr → Prop) (σ : St) (H : Hp) (cs : En) : Prop where
  len : σ.length = cs.length
  dat : ∀ (i : Nat) (d : D), cs[i]? = some (.dat d) → ∃ v, σ[i]? = some (some v) ∧ Rp K (cut H (Md σ cs X)) v d
  own : ∀ (i : Nat) (d : D), (cs[i]? = some (.own d) ∨ cs[i]? = some (.io d)) → ∃ a, σ[i]? = some (some (.ref a)) ∧ OwnAt K (cut H (Md σ cs X)) (H a) d
  inj : ∀ (i j : Nat) (a : Addr), OwnS σ cs i a → OwnS σ cs j a → i = j
  dis : ∀ (i : Nat) (a : Addr), OwnS σ cs i a → ¬ X a
  xin : ∀ a, X a → H a ≠ none
  new : ∀ (i : Nat) (a : Addr) (d : D), σ[i]? = some (some (.ref a)) → cs[i]? = some (.own d) → B a = none
  io : ∀ (i : Nat) (d : D), cs[i]? = some (.io d) → ∃ a, (i, a) ∈ IO ∧ σ[i]? = some (some (.ref a))
  ios : ∀ (i : Nat) (a : Addr), (i, a) ∈ IO → ∃ d, cs[i]? = some (.io d) ∧ σ[i]? = some (some (.ref a))
  base : ∀ a o, (∀ i, (i, a) ∉ IO) → B a = some o → H a = some o
  dom : ∀ a, B a ≠ none → H a ≠ none

structure Post (K : PySem.W.Frag) (B : Hp) (IO : List (Nat × Addr)) (X : Addr → Prop) (σ : St) (H : Hp) (cs : En) (σ' : St) (H' : Hp) (cs' : En) : Prop where
  ok : Ok K B IO X σ' H' cs'
  le : Le (cut H (Md σ cs X)) (cut H' (Md σ' cs' X))
  keep : ∀ a, X a → H' a = H a
  dom : ∀ a, H a ≠ none → H' a ≠ none

section
variable {K : PySem.W.Frag} {B : Hp} {IO : List (Nat × Addr)} {X : Addr → Prop} {σ σ' σ2 : St} {H H' H2 : Hp} {cs cs' cs2 : En}
theorem Ok.md (ok : Ok K B IO X σ H cs) : ∀ a, Md σ cs X a → H a ≠ none := by
  intro a m
  rcases m with m | ⟨i, h1, d, h2⟩
  · exact ok.xin a m
  · obtain ⟨b, h3, h4⟩ := ok.own i d h2
    rw [h1] at h3
    cases h3
    exact h4.some
theorem Post.refl (ok : Ok K B IO X σ H cs) : Post K B IO X σ H cs σ H cs := ⟨ok, Le.refl _, fun _ _ => rfl, fun _ h => h⟩
theorem Post.trans (a : Post K B IO X σ H cs σ' H' cs') (b : Post K B IO X σ' H' cs' σ2 H2 cs2) : Post K B IO X σ H cs σ2 H2 cs2 :=
  ⟨b.ok, a.le.trans b.le, fun x h => (b.keep x h).trans (a.keep x h), fun x h => b.dom x (a.dom x h)⟩
theorem Ok.ext (ok : Ok K B IO X σ H cs) (x : Ex H H') : Post K B IO X σ H cs σ H' cs := by
  have hle : Le (cut H (Md σ cs X)) (cut H' (Md σ cs X)) := le_cut fun a o e m => ⟨x a o e, m⟩
  have same : ∀ a, H a ≠ none → H' a = H a := fun a h => by
    cases e : H a with
    | none => exact absurd e h
    | some o => exact x a o e
  refine ⟨⟨ok.len, fun i d e => ?_, fun i d e => ?_, ok.inj, ok.dis, fun a h => x.dom (ok.xin a h), ok.new, ok.io, ok.ios, fun a o h e => x a o (ok.base a o h e), fun a h => x.dom (ok.dom a h)⟩, hle, fun a h => same a (ok.xin a h), fun a h => x.dom h⟩
  · obtain ⟨v, h1, h2⟩ := ok.dat i d e
    exact ⟨v, h1, h2.mono hle⟩
  · obtain ⟨a, h1, h2⟩ := ok.own i d e
    refine ⟨a, h1, ?_⟩
    rw [same a h2.some]
    exact h2.mono hle
theorem getset {α : Type} {l : List α} {i j : Nat} {x y : α} (h : (l.set i x)[j]? = some y) : (i = j ∧ x = y) ∨ (i ≠ j ∧ l[j]? = some y) := by
  by_cases e : i = j
  · subst e
    rw [List.getElem?_set] at h
    simp only [if_true] at h
    split at h
    · exact .inl ⟨rfl, Option.some.inj h⟩
    · cases h
  · rw [List.getElem?_set_ne e] at h
    exact .inr ⟨e, h⟩
/-- an owned thing is not changed any more -/
theorem Ok.freeze {i : Nat} {d : D} (ok : Ok K B IO X σ H cs) (e : cs[i]? = some (.own d)) : ∃ v, σ[i]? = some (some v) ∧ Post K B IO X σ H cs σ H (cs.set i (.dat d)) ∧ Rp K (cut H (Md σ (cs.set i (.dat d)) X)) v d := by
  obtain ⟨a, h1, h2⟩ := ok.own i d (.inl e)
  have hi : i < cs.length := (List.getElem?_eq_some_iff.mp e).1
  have ha : OwnS σ cs i a := ⟨h1, d, .inl e⟩
  have os : ∀ j b, OwnS σ (cs.set i (.dat d)) j b → OwnS σ cs j b ∧ i ≠ j := by
    intro j b ⟨q1, d', q2⟩
    rcases q2 with q2 | q2
    · rcases getset q2 with ⟨_, z⟩ | ⟨z, z'⟩
      · cases z
      · exact ⟨⟨q1, d', .inl z'⟩, z⟩
    · rcases getset q2 with ⟨_, z⟩ | ⟨z, z'⟩
      · cases z
      · exact ⟨⟨q1, d', .inr z'⟩, z⟩
  have sub : ∀ b, Md σ (cs.set i (.dat d)) X b → Md σ cs X b := fun b m => m.imp id fun ⟨j, q⟩ => ⟨j, (os j b q).1⟩
  have hle : Le (cut H (Md σ cs X)) (cut H (Md σ (cs.set i (.dat d)) X)) := le_cut fun b o q m => ⟨q, fun z => m (sub b z)⟩
  have hna : ¬ Md σ (cs.set i (.dat d)) X a := by
    intro m
    rcases m with m | ⟨j, q⟩
    · exact ok.dis i a ha m
    · exact (os j a q).2 (ok.inj i j a ha (os j a q).1)
  have rp : Rp K (cut H (Md σ (cs.set i (.dat d)) X)) (.ref a) d := h2.rp (cut_of hna) hle
  refine ⟨.ref a, h1, ⟨⟨by rw [List.length_set]; exact ok.len, fun j d' q => ?_, fun j d' q => ?_, fun j k b q r => ok.inj j k b (os j b q).1 (os k b r).1, fun j b q => ok.dis j b (os j b q).1, ok.xin, fun j b d' q r => ?_, fun j d' q => ?_, fun j b q => ?_, ok.base, ok.dom⟩, hle, fun _ _ => rfl, fun _ h => h⟩, rp⟩
  · rcases getset q with ⟨z, z'⟩ | ⟨z, z'⟩
    · subst z
      cases z'
      exact ⟨_, h1, rp⟩
    · obtain ⟨v, r1, r2⟩ := ok.dat j d' z'
      exact ⟨v, r1, r2.mono hle⟩
  · have q' : cs[j]? = some (.own d') ∨ cs[j]? = some (.io d') := by
      rcases q with q | q
      · rcases getset q with ⟨_, z⟩ | ⟨z, z'⟩
        · cases z
        · exact .inl z'
      · rcases getset q with ⟨_, z⟩ | ⟨z, z'⟩
        · cases z
        · exact .inr z'
    obtain ⟨b, r1, r2⟩ := ok.own j d' q'
    exact ⟨b, r1, r2.mono hle⟩
  · rcases getset r with ⟨_, z⟩ | ⟨z, z'⟩
    · cases z
    · exact ok.new j b d' q z'
  · rcases getset q with ⟨_, z⟩ | ⟨z, z'⟩
    · cases z
    · exact ok.io j d' z'
  · obtain ⟨d', r1, r2⟩ := ok.ios j b q
    refine ⟨d', ?_, r2⟩
    rw [List.getElem?_set_ne]
    · exact r1
    · intro z
      subst z
      rw [e] at r1
      cases r1
end

/-- what an operation on values hands on: a new object of which nobody else knows, or a datum -/
def VOk (K : PySem.W.Frag) (H H' : Hp) (M : Addr → Prop) (fr : Bool) (v : V) (d : D) : Prop :=
  if fr = true then ∃ p, v = .ref p ∧ H p = none ∧ OwnAt K (cut H' (fun a => M a ∨ a = p)) (H' p) d else Rp K (cut H' M) v d
theorem VOk.of {K : PySem.W.Frag} {H H' : Hp} {M : Addr → Prop} {v : V} {d : D} (h : Rp K (cut H' M) v d) : VOk K H H' M false v d := h
/-- a new object -/
theorem VOk.new {K : PySem.W.Frag} {H : Hp} {M : Addr → Prop} {p : Addr} {o : HO} {d : D} (hp : H p = none) (hm : ∀ a, M a → H a ≠ none) (h : OwnAt K (cut H M) (some o) d) : VOk K H (upd H p o) M true (.ref p) d := by
  refine ⟨p, rfl, hp, ?_⟩
  rw [upd_same]
  refine h.mono (le_cut fun a u e m => ⟨Ex.new hp a u e, fun z => ?_⟩)
  rcases z with z | z
  · exact m z
  · rw [z, hp] at e; cases e

/-! ### what an expression hands on -/
def XP (X : Addr → Prop) (p : Addr) : Addr → Prop := fun a => X a ∨ a = p
structure PostN (K : PySem.W.Frag) (B : Hp) (IO : List (Nat × Addr)) (X : Addr → Prop) (σ : St) (H : Hp) (cs : En) (p : Addr) (σ' : St) (H' : Hp) (cs' : En) : Prop where
  ok : Ok K B IO (XP X p) σ' H' cs'
  le : Le (cut H (Md σ cs X)) (cut H' (Md σ' cs' (XP X p)))
  keep : ∀ a, X a → H' a = H a
  dom : ∀ a, H a ≠ none → H' a ≠ none
  np : ¬ X p
def Pe (K : PySem.W.Frag) (B : Hp) (IO : List (Nat × Addr)) (X : Addr → Prop) (σ : St) (H : Hp) (cs : En) (σ' : St) (H' : Hp) (cs' : En) (fr : Bool) (v : V) (d : D) : Prop :=
  if fr = true then ∃ p, v = .ref p ∧ H p = none ∧ PostN K B IO X σ H cs p σ' H' cs' ∧ OwnAt K (cut H' (Md σ' cs' (XP X p))) (H' p) d else Post K B IO X σ H cs σ' H' cs' ∧ Rp K (cut H' (Md σ' cs' X)) v d
section
variable {K : PySem.W.Frag} {B : Hp} {IO : List (Nat × Addr)} {X : Addr → Prop} {σ σ' σ2 : St} {H H' H2 : Hp} {cs cs' cs2 : En} {p : Addr} {fr : Bool} {v : V} {d : D}
theorem md_xp {a : Addr} (h : Md σ cs X a) : Md σ cs (XP X p) a := h.imp .inl id
theorem le_xp : Le (cut H (Md σ cs (XP X p))) (cut H (Md σ cs X)) := le_cut fun _ _ e m => ⟨e, fun z => m (md_xp z)⟩
theorem Ok.weakX (ok : Ok K B IO (XP X p) σ H cs) : Ok K B IO X σ H cs :=
  ⟨ok.len, fun i d e => let ⟨v, h1, h2⟩ := ok.dat i d e; ⟨v, h1, h2.mono le_xp⟩, fun i d e => let ⟨v, h1, h2⟩ := ok.own i d e; ⟨v, h1, h2.mono le_xp⟩, ok.inj, fun i a q z => ok.dis i a q (.inl z), fun a z => ok.xin a (.inl z), ok.new, ok.io, ok.ios, ok.base, ok.dom⟩
theorem PostN.post (h : PostN K B IO X σ H cs p σ' H' cs') : Post K B IO X σ H cs σ' H' cs' := ⟨h.ok.weakX, h.le.trans le_xp, h.keep, h.dom⟩
theorem PostN.nmd (h : PostN K B IO X σ H cs p σ' H' cs') : ¬ Md σ' cs' X p := fun m => m.elim h.np fun ⟨i, q⟩ => h.ok.dis i p q (.inr rfl)
theorem Pe.post (h : Pe K B IO X σ H cs σ' H' cs' fr v d) : Post K B IO X σ H cs σ' H' cs' := by
  unfold Pe at h
  cases fr with
  | false => exact h.1
  | true => obtain ⟨p, _, _, q, _⟩ := h; exact q.post
theorem Pe.rp (h : Pe K B IO X σ H cs σ' H' cs' fr v d) : Rp K (cut H' (Md σ' cs' X)) v d := by
  unfold Pe at h
  cases fr with
  | false => exact h.2
  | true =>
    obtain ⟨p, rfl, _, q, o⟩ := h
    exact o.rp (cut_of q.nmd) le_xp
theorem Pe.dat (h : Post K B IO X σ H cs σ' H' cs') (r : Rp K (cut H' (Md σ' cs' X)) v d) : Pe K B IO X σ H cs σ' H' cs' false v d := ⟨h, r⟩
theorem Pe.pre (a : Post K B IO X σ H cs σ' H' cs') (h : Pe K B IO X σ' H' cs' σ2 H2 cs2 fr v d) : Pe K B IO X σ H cs σ2 H2 cs2 fr v d := by
  unfold Pe at h ⊢
  cases fr with
  | false => exact ⟨a.trans h.1, h.2⟩
  | true =>
    obtain ⟨p, e, hp, q, o⟩ := h
    refine ⟨p, e, ?_, ⟨q.ok, a.le.trans q.le, fun x hx => (q.keep x hx).trans (a.keep x hx), fun x hx => q.dom x (a.dom x hx), q.np⟩, o⟩
    cases z : H p with
    | none => rfl
    | some o => exact absurd hp (a.dom p (by rw [z]; exact fun z => nomatch z))
/-- an operation on values, behind all else -/
theorem Pe.of (a : Post K B IO X σ H cs σ' H' cs') (x : Ex H' H2) (h : VOk K H' H2 (Md σ' cs' X) fr v d) : Pe K B IO X σ H cs σ' H2 cs' fr v d := by
  refine Pe.pre a ?_
  unfold VOk at h
  unfold Pe
  cases fr with
  | false => exact ⟨a.ok.ext x, h⟩
  | true =>
    obtain ⟨p, e, hp, o⟩ := h
    have ne : ∀ b, H' b ≠ none → b ≠ p := fun b hb z => hb (by rw [z]; exact hp)
    have eqm : ∀ b, Md σ' cs' (XP X p) b ↔ (Md σ' cs' X b ∨ b = p) := fun b => by
      unfold Md XP
      constructor
      · rintro ((h | h) | h)
        · exact .inl (.inl h)
        · exact .inr h
        · exact .inl (.inr h)
      · rintro ((h | h) | h)
        · exact .inl (.inl h)
        · exact .inr h
        · exact .inl (.inr h)
    have hle : Le (cut H' (Md σ' cs' X)) (cut H2 (Md σ' cs' (XP X p))) := le_cut fun b o q m => ⟨x b o q, fun z => ((eqm b).mp z).elim m (ne b (by rw [q]; exact fun z => nomatch z))⟩
    have same : ∀ b, H' b ≠ none → H2 b = H' b := fun b h => by
      cases e : H' b with
      | none => exact absurd e h
      | some o => exact x b o e
    refine ⟨p, e, hp, ⟨⟨a.ok.len, fun i d q => ?_, fun i d q => ?_, a.ok.inj, fun i b q z => ?_, fun b z => ?_, a.ok.new, a.ok.io, a.ok.ios, fun b o h q => x b o (a.ok.base b o h q), fun b h => x.dom (a.ok.dom b h)⟩, hle, fun b h => same b (a.ok.xin b h), fun b h => x.dom h, fun z => ?_⟩, o.mono (le_cut fun b o q m => ⟨q, fun z => m ((eqm b).mp z)⟩)⟩
    · obtain ⟨u, h1, h2⟩ := a.ok.dat i d q
      exact ⟨u, h1, h2.mono hle⟩
    · obtain ⟨b, h1, h2⟩ := a.ok.own i d q
      refine ⟨b, h1, ?_⟩
      rw [same b h2.some]
      exact h2.mono hle
    · rcases z with z | z
      · exact a.ok.dis i b q z
      · exact ne b (a.ok.md b (.inr ⟨i, q⟩)) z
    · rcases z with z | z
      · exact x.dom (a.ok.xin b z)
      · rw [z]
        exact o.some
    · exact a.ok.xin p z hp
end
end Qp
end
section
set_option Elab.async false
set_option linter.all false
set_option maxRecDepth 100000
set_option maxHeartbeats 2000000
/-! Qb: expressions that are told by functions of the cells. -/
namespace Qp
open PySem PySem.Spec PyProof.Rows L2
abbrev EX := En → Option (D × Bool × En)
abbrev TX := En → Option (Bool × En)
abbrev AX := En → Option (List D × En)
def LIM : Nat := 10000000
theorem lim_ok {n : Nat} (h : n ≤ LIM) : n ≤ sizeLine := Nat.le_trans h (by decide)
theorem lim_lt {n : Nat} (h : n < LIM) : n < sizeLine := Nat.lt_of_lt_of_le h (by decide)

def SE (K : PySem.W.Frag) (t : TE) (f : EX) : Prop := ∀ {B : Hp} {IO : List (Nat × Addr)} {X : Addr → Prop} {σ : St} {H : Hp} {cs : En}, Ok K B IO X σ H cs → ∀ {d : D} {fr : Bool} {cs' : En}, f cs = some (d, fr, cs') →
  ∀ Q : VK, (∀ v H', Pe K B IO X σ H cs σ H' cs' fr v d → Q v H') → t σ H Q
def STt (K : PySem.W.Frag) (t : TT) (f : TX) : Prop := ∀ {B : Hp} {IO : List (Nat × Addr)} {X : Addr → Prop} {σ : St} {H : Hp} {cs : En}, Ok K B IO X σ H cs → ∀ {b : Bool} {cs' : En}, f cs = some (b, cs') →
  ∀ Q : Bool → Hp → Prop, (∀ H', Post K B IO X σ H cs σ H' cs' → Q b H') → t σ H Q
def SA (K : PySem.W.Frag) (t : TA) (f : AX) : Prop := ∀ {B : Hp} {IO : List (Nat × Addr)} {X : Addr → Prop} {σ : St} {H : Hp} {cs : En}, Ok K B IO X σ H cs → ∀ {ds : List D} {cs' : En}, f cs = some (ds, cs') →
  ∀ Q : List V → Hp → Prop, (∀ vs H', Post K B IO X σ H cs σ H' cs' → Paired (Rp K (cut H' (Md σ cs' X))) vs ds → Q vs H') → t σ H Q
/-- two values, one value, a list of values to a value -/
abbrev G2 := D → D → Option (D × Bool)
abbrev G1 := D → Option (D × Bool)
abbrev GA := List D → Option (D × Bool)
def SR2 (K : PySem.W.Frag) (r : R2) (g : G2) : Prop := ∀ {H : Hp} {M : Addr → Prop}, (∀ a, M a → H a ≠ none) → ∀ {x y : V} {d e : D}, Rp K (cut H M) x d → Rp K (cut H M) y e → ∀ {z : D} {fr : Bool}, g d e = some (z, fr) →
  ∀ Q : VK, (∀ v H', Ex H H' → VOk K H H' M fr v z → Q v H') → r x y H Q
def SR1 (K : PySem.W.Frag) (r : V → Hp → VK → Prop) (g : G1) : Prop := ∀ {H : Hp} {M : Addr → Prop}, (∀ a, M a → H a ≠ none) → ∀ {x : V} {d : D}, Rp K (cut H M) x d → ∀ {z : D} {fr : Bool}, g d = some (z, fr) →
  ∀ Q : VK, (∀ v H', Ex H H' → VOk K H H' M fr v z → Q v H') → r x H Q
def SRC (K : PySem.W.Frag) (r : List V → Hp → VK → Prop) (g : GA) : Prop := ∀ {H : Hp} {M : Addr → Prop}, (∀ a, M a → H a ≠ none) → ∀ {xs : List V} {ds : List D}, Paired (Rp K (cut H M)) xs ds → ∀ {z : D} {fr : Bool}, g ds = some (z, fr) →
  ∀ Q : VK, (∀ v H', Ex H H' → VOk K H H' M fr v z → Q v H') → r xs H Q
structure DE (X : Cx) (e : Expr) (t : TE) (f : EX) : Prop where
  pe : PE X e t
  se : SE X.K t f
structure DT (X : Cx) (e : Expr) (t : TT) (f : TX) : Prop where
  pt : PT X e t
  st : STt X.K t f
structure DW (X : Cx) (e : Expr) (t : TT) (f : TX) : Prop where
  pw : PW X e t
  st : STt X.K t f
structure DA (X : Cx) (e : List Expr) (t : TA) (f : AX) : Prop where
  pa : PA X e t
  sa : SA X.K t f

section
variable {K : PySem.W.Frag} {B : Hp} {IO : List (Nat × Addr)} {Z : Addr → Prop} {σ : St} {H H' : Hp} {cs cs' : En} {M : Addr → Prop}
theorem Rp.ext {v : V} {d : D} (r : Rp K (cut H M) v d) (x : Ex H H') : Rp K (cut H' M) v d := r.mono (le_cut fun a o e m => ⟨x a o e, m⟩)
theorem Rp.list (r : Rp K F v (.list ds)) : ∃ a xs, v = .ref a ∧ SqL K F a xs ∧ Paired (Rp K F) xs ds := by
  cases r with
  | lst h p => exact ⟨_, _, rfl, h, p⟩
theorem Rp.tuple (r : Rp K F v (.tuple ds)) : ∃ a xs, v = .ref a ∧ SqT K F a xs ∧ Paired (Rp K F) xs ds := by
  cases r with
  | tup h p => exact ⟨_, _, rfl, h, p⟩
theorem Rp.int_eq (r : Rp K F v (.int i)) : v = .int i := by cases r; rfl
theorem Rp.str_eq (r : Rp K F v (.str i)) : v = .str i := by cases r; rfl
theorem Rp.bool_eq (r : Rp K F v (.bool i)) : v = .bl i := by cases r; rfl
theorem Rp.none_eq (r : Rp K F v .none) : v = .non := by cases r; rfl
end

/-! ### constants and names -/
def evC (d : D) : EX := fun cs => some (d, false, cs)
def evVar (i : Nat) : EX := fun cs => match cs[i]? with
  | some (.dat d) => some (d, false, cs)
  | some (.own d) => some (d, false, cs.set i (.dat d))
  | _ => none
section
variable {X : Cx} {pos : Pos}
theorem se_c {K : PySem.W.Frag} {v : V} {d : D} (h : ∀ F, Rp K F v d) : SE K (tC v) (evC d) := by
  intro B IO Z σ H cs ok d' fr cs' e Q q
  cases e
  exact q v H (.dat (Post.refl ok) (h _))
theorem de_int {i j} : DE X (.Constant (.int i) j pos) (tC (.int i)) (evC (.int i)) := ⟨pe_int, se_c fun _ => .int i⟩
theorem de_str {i j} : DE X (.Constant (.str i) j pos) (tC (.str i)) (evC (.str i)) := ⟨pe_str, se_c fun _ => .str i⟩
theorem de_bl {i j} : DE X (.Constant (.bool i) j pos) (tC (.bl i)) (evC (.bool i)) := ⟨pe_bl, se_c fun _ => .bl i⟩
theorem de_non {j} : DE X (.Constant .none j pos) (tC .non) (evC .none) := ⟨pe_non, se_c fun _ => .non⟩
theorem se_var {K : PySem.W.Frag} {i : Nat} : SE K (tVar i) (evVar i) := by
  intro B IO Z σ H cs ok d fr cs' e Q q
  unfold evVar at e
  split at e
  · rename_i d' h
    cases e
    obtain ⟨v, h1, h2⟩ := ok.dat i _ h
    exact ⟨v, h1, q v H (.dat (Post.refl ok) h2)⟩
  · rename_i d' h
    cases e
    obtain ⟨v, h1, h2, h3⟩ := ok.freeze h
    exact ⟨v, h1, q v H (.dat h2 h3)⟩
  · cases e
theorem dv (i : Nat) {x : Str} (hN : X.N[i]? = some x := by rfl) (hv : Vis X.env.scope x := by first | exact Or.inl rfl | exact Or.inr (Or.inl rfl) | exact Or.inr (Or.inr rfl)) (hd : (x == ("__debug__" : Str)) = false := by decide)
    (hcd : (x == ("__classdict__" : Str)) = false := by decide) : DE X (.Name x pos) (tVar i) (evVar i) := ⟨pe_var hN hv hd hcd, se_var⟩
/-- a constant of the module -/
theorem de_glob {x : Str} {v : V} {u : Value} {d : D} (hg : Gl X x) (hm : X.mg x = some u) (r : RelV v u) (h : ∀ F, Rp X.K F v d) (hd : (x == ("__debug__" : Str)) = false := by decide) : DE X (.Name x pos) (tC v) (evC d) :=
  ⟨pe_glob hg hm r hd, se_c h⟩
end

/-! ### operators -/
def ev2 (g : G2) (fa fb : EX) : EX := fun cs => (fa cs).bind fun r => (fb r.2.2).bind fun s => (g r.1 s.1).bind fun z => some (z.1, z.2, s.2.2)
def ev1 (g : G1) (fa : EX) : EX := fun cs => (fa cs).bind fun r => (g r.1).bind fun z => some (z.1, z.2, r.2.2)
section
variable {X : Cx} {a b : Expr} {ta tb : TE} {fa fb : EX} {pos : Pos} {K : PySem.W.Frag}
theorem se_2 {r : R2} {g : G2} (ha : SE K ta fa) (hb : SE K tb fb) (hr : SR2 K r g) : SE K (tOp r ta tb) (ev2 g fa fb) := by
  intro B IO Z σ H cs ok d fr cs' e Q q
  unfold ev2 at e
  obtain ⟨⟨d1, f1, c1⟩, e1, e⟩ := Option.bind_eq_some_iff.mp e
  obtain ⟨⟨d2, f2, c2⟩, e2, e⟩ := Option.bind_eq_some_iff.mp e
  obtain ⟨⟨z, fz⟩, e3, e⟩ := Option.bind_eq_some_iff.mp e
  cases e
  refine ha ok e1 _ fun x H1 w1 => hb w1.post.ok e2 _ fun y H2 w2 => ?_
  refine hr w2.post.ok.md (w1.rp.mono w2.post.le) w2.rp e3 Q fun v H3 x3 v3 => ?_
  exact q v H3 (.of (w1.post.trans w2.post) x3 v3)
theorem se_1 {r : V → Hp → VK → Prop} {g : G1} (ha : SE K ta fa) (hr : SR1 K r g) : SE K (tUn r ta) (ev1 g fa) := by
  intro B IO Z σ H cs ok d fr cs' e Q q
  unfold ev1 at e
  obtain ⟨⟨d1, f1, c1⟩, e1, e⟩ := Option.bind_eq_some_iff.mp e
  obtain ⟨⟨z, fz⟩, e3, e⟩ := Option.bind_eq_some_iff.mp e
  cases e
  refine ha ok e1 _ fun x H1 w1 => ?_
  refine hr w1.post.ok.md w1.rp e3 Q fun v H3 x3 v3 => ?_
  exact q v H3 (.of w1.post x3 v3)
theorem de_op {op : Operator} {r : R2} {g : G2} (ho : OpR X (binaryOp op) r) (hr : SR2 X.K r g) (ha : DE X a ta fa) (hb : DE X b tb fb) : DE X (.BinOp a op b pos) (tOp r ta tb) (ev2 g fa fb) := ⟨pe_op ho ha.pe hb.pe, se_2 ha.se hb.se hr⟩
theorem de_un {op : UnaryOp} {r : V → Hp → VK → Prop} {g : G1} (ho : UnR X (unaryOp op) r) (hr : SR1 X.K r g) (ha : DE X a ta fa) : DE X (.UnaryOp op a pos) (tUn r ta) (ev1 g fa) := ⟨pe_un ho ha.pe, se_1 ha.se hr⟩
theorem de_cmp {op : CmpOp} {r : R2} {g : G2} (ho : OpR X (compareOp op) r) (hr : SR2 X.K r g) (ha : DE X a ta fa) (hb : DE X b tb fb) (hm : behindInMarks op b = false := by first | exact nomark _ | rfl) : DE X (.Compare a [op] [b] pos) (tOp r ta tb) (ev2 g fa fb) :=
  ⟨pe_cmpR ho ha.pe hb.pe hm, se_2 ha.se hb.se hr⟩
/-- an expression whose value is a truth, as a test -/
def evT (fa : EX) : TX := fun cs => (fa cs).bind fun r => match r.1 with
  | .bool b => some (b, r.2.2)
  | _ => none
theorem st_test {t : TE} {f : EX} (h : SE K t f) : STt K (tTest t) (evT f) := by
  intro B IO Z σ H cs ok b cs' e Q q
  unfold evT at e
  obtain ⟨⟨d1, f1, c1⟩, e1, e⟩ := Option.bind_eq_some_iff.mp e
  simp only at e
  split at e
  · cases e
    refine h ok e1 _ fun x H1 w1 => ?_
    exact ⟨_, w1.rp.bool_eq, q H1 w1.post⟩
  · cases e
theorem dt_cmp {op : CmpOp} {r : R2} {g : G2} (ho : OpR X (compareOp op) r) (hr : SR2 X.K r g) (ha : DE X a ta fa) (hb : DE X b tb fb) (hm : behindInMarks op b = false := by first | exact nomark _ | rfl) : DT X (.Compare a [op] [b] pos) (tTest (tOp r ta tb)) (evT (ev2 g fa fb)) :=
  ⟨pt_cmpR ho ha.pe hb.pe hm, st_test (se_2 ha.se hb.se hr)⟩
theorem dt_val {e : Expr} {t : TE} {f : EX} (h : DE X e t f) (he : ∀ whole, isTrue e X.env whole = (do let v ← whole; standAt e.pos; holding [v] (truthy v)) := by intro _; rfl) : DT X e (tB t) (evT f) := ⟨pt_val h.pe he, st_test h.se⟩

/-! ### and, or, not -/
def evAndT (f g : TX) : TX := fun cs => (f cs).bind fun r => if r.1 = true then g r.2 else some (false, r.2)
def evOrT (f g : TX) : TX := fun cs => (f cs).bind fun r => if r.1 = true then some (true, r.2) else g r.2
def evNotT (f : TX) : TX := fun cs => (f cs).bind fun r => some (!r.1, r.2)
variable {tA tB' : TT} {fA fB : TX} {rest : List Expr}
theorem dw_and1 (ha : DT X a tA fA) : DW X (.BoolOp .And [a] pos) tA fA := ⟨pw_and1 ha.pt, ha.st⟩
theorem dw_or1 (ha : DT X a tA fA) : DW X (.BoolOp .Or [a] pos) tA fA := ⟨pw_or1 ha.pt, ha.st⟩
theorem dw_and (ha : DT X a tA fA) (hb : DW X (.BoolOp .And (b :: rest) pos) tB' fB) : DW X (.BoolOp .And (a :: b :: rest) pos) (tAnd tA tB') (evAndT fA fB) := by
  refine ⟨pw_and ha.pt hb.pw, ?_⟩
  intro B IO Z σ H cs ok k cs' e Q q
  unfold evAndT at e
  obtain ⟨⟨b1, c1⟩, e1, e⟩ := Option.bind_eq_some_iff.mp e
  refine ha.st ok e1 _ fun H1 p1 => ?_
  cases b1 with
  | true => exact iteT (hb.st p1.ok e _ fun H2 p2 => q H2 (p1.trans p2))
  | false =>
    cases e
    exact iteF (q H1 p1)
theorem dw_or (ha : DT X a tA fA) (hb : DW X (.BoolOp .Or (b :: rest) pos) tB' fB) : DW X (.BoolOp .Or (a :: b :: rest) pos) (tOr tA tB') (evOrT fA fB) := by
  refine ⟨pw_or ha.pt hb.pw, ?_⟩
  intro B IO Z σ H cs ok k cs' e Q q
  unfold evOrT at e
  obtain ⟨⟨b1, c1⟩, e1, e⟩ := Option.bind_eq_some_iff.mp e
  refine ha.st ok e1 _ fun H1 p1 => ?_
  cases b1 with
  | false => exact iteF (hb.st p1.ok e _ fun H2 p2 => q H2 (p1.trans p2))
  | true =>
    cases e
    exact iteT (q H1 p1)
theorem DW.dt {e : Expr} (h : DW X e tA fA) : DT X e tA fA := ⟨h.pw.pt, h.st⟩
theorem dt_not (ha : DT X a tA fA) : DT X (.UnaryOp .Not a pos) (tNot tA) (evNotT fA) := by
  refine ⟨pt_not ha.pt, ?_⟩
  intro B IO Z σ H cs ok k cs' e Q q
  unfold evNotT at e
  obtain ⟨⟨b1, c1⟩, e1, e⟩ := Option.bind_eq_some_iff.mp e
  cases e
  exact ha.st ok e1 _ fun H1 p1 => q H1 p1
/-- as values: the left ones are truths -/
def evAndV (f g : EX) : EX := fun cs => (f cs).bind fun r => match r.1 with
  | .bool true => g r.2.2
  | .bool false => some (.bool false, false, r.2.2)
  | _ => none
def evOrV (f g : EX) : EX := fun cs => (f cs).bind fun r => match r.1 with
  | .bool true => some (.bool true, false, r.2.2)
  | .bool false => g r.2.2
  | _ => none
def evNotV (f : EX) : EX := fun cs => (f cs).bind fun r => match r.1 with
  | .bool b => some (.bool (!b), false, r.2.2)
  | _ => none
theorem de_one {op} (h : DE X a ta fa) : DE X (.BoolOp op [a] pos) ta fa := ⟨pe_one h.pe, h.se⟩
theorem de_and (ha : DE X a ta fa) (hb : DE X (.BoolOp .And (b :: rest) pos) tb fb) : DE X (.BoolOp .And (a :: b :: rest) pos) (tAndV ta tb) (evAndV fa fb) := by
  refine ⟨pe_and ha.pe hb.pe, ?_⟩
  intro B IO Z σ H cs ok d fr cs' e Q q
  unfold evAndV at e
  obtain ⟨⟨d1, f1, c1⟩, e1, e⟩ := Option.bind_eq_some_iff.mp e
  refine ha.se ok e1 _ fun x H1 w1 => ?_
  simp only at e
  split at e
  · exact ⟨true, w1.rp.bool_eq, iteT (hb.se w1.post.ok e _ fun v H2 w2 => q v H2 (w2.pre w1.post))⟩
  · cases e
    exact ⟨false, w1.rp.bool_eq, iteF (q _ H1 (.dat w1.post (.bl false)))⟩
  · cases e
theorem de_or (ha : DE X a ta fa) (hb : DE X (.BoolOp .Or (b :: rest) pos) tb fb) : DE X (.BoolOp .Or (a :: b :: rest) pos) (tOrV ta tb) (evOrV fa fb) := by
  refine ⟨pe_or ha.pe hb.pe, ?_⟩
  intro B IO Z σ H cs ok d fr cs' e Q q
  unfold evOrV at e
  obtain ⟨⟨d1, f1, c1⟩, e1, e⟩ := Option.bind_eq_some_iff.mp e
  refine ha.se ok e1 _ fun x H1 w1 => ?_
  simp only at e
  split at e
  · cases e
    exact ⟨true, w1.rp.bool_eq, iteT (q _ H1 (.dat w1.post (.bl true)))⟩
  · exact ⟨false, w1.rp.bool_eq, iteF (hb.se w1.post.ok e _ fun v H2 w2 => q v H2 (w2.pre w1.post))⟩
  · cases e
theorem de_not (ha : DE X a ta fa) : DE X (.UnaryOp .Not a pos) (tNotV ta) (evNotV fa) := by
  refine ⟨pe_not ha.pe, ?_⟩
  intro B IO Z σ H cs ok d fr cs' e Q q
  unfold evNotV at e
  obtain ⟨⟨d1, f1, c1⟩, e1, e⟩ := Option.bind_eq_some_iff.mp e
  refine ha.se ok e1 _ fun x H1 w1 => ?_
  simp only at e
  split at e
  · cases e
    exact ⟨_, w1.rp.bool_eq, q _ H1 (.dat w1.post (.bl _))⟩
  · cases e
/-- a if t else b -/
def evIf (t : TX) (f g : EX) : EX := fun cs => (t cs).bind fun r => if r.1 = true then f r.2 else g r.2
theorem de_if {c : Expr} (hc : DT X c tA fA) (ha : DE X a ta fa) (hb : DE X b tb fb) : DE X (.IfExp c a b pos) (tIf tA ta tb) (evIf fA fa fb) := by
  refine ⟨pe_ifExp hc.pt ha.pe hb.pe, ?_⟩
  intro B IO Z σ H cs ok d fr cs' e Q q
  unfold evIf at e
  obtain ⟨⟨b1, c1⟩, e1, e⟩ := Option.bind_eq_some_iff.mp e
  refine hc.st ok e1 _ fun H1 p1 => ?_
  cases b1 with
  | true => exact iteT (ha.se p1.ok e _ fun v H2 w2 => q v H2 (w2.pre p1))
  | false => exact iteF (hb.se p1.ok e _ fun v H2 w2 => q v H2 (w2.pre p1))

/-! ### lists of arguments, displays, calls of built-ins -/
def evNil : AX := fun cs => some ([], cs)
def evCons (f : EX) (g : AX) : AX := fun cs => (f cs).bind fun r => (g r.2.2).bind fun s => some (r.1 :: s.1, s.2)
variable {e : Expr} {te : TE} {fe : EX} {es : List Expr} {ts : TA} {fs : AX}
theorem da_nil : DA X [] tNil evNil := by
  refine ⟨pa_nil, ?_⟩
  intro B IO Z σ H cs ok ds cs' e Q q
  cases e
  exact q [] H (Post.refl ok) .nil
theorem da_cons (h : DE X e te fe) (hr : DA X es ts fs) (hs : starEach (e :: es) X.env = (false, eval e X.env) :: starEach es X.env := by rfl) : DA X (e :: es) (tCons te ts) (evCons fe fs) := by
  refine ⟨pa_cons h.pe hr.pa hs, ?_⟩
  intro B IO Z σ H cs ok ds cs' e Q q
  unfold evCons at e
  obtain ⟨⟨d1, f1, c1⟩, e1, e⟩ := Option.bind_eq_some_iff.mp e
  obtain ⟨⟨d2, c2⟩, e2, e⟩ := Option.bind_eq_some_iff.mp e
  cases e
  refine h.se ok e1 _ fun x H1 w1 => hr.sa w1.post.ok e2 _ fun xs H2 p2 v2 => q _ H2 (w1.post.trans p2) (.cons (w1.rp.mono p2.le) v2)
def evA (g : GA) (fs : AX) : EX := fun cs => (fs cs).bind fun r => (g r.1).bind fun z => some (z.1, z.2, r.2)
theorem se_A {r : List V → Hp → VK → Prop} {g : GA} (ha : SA K ts fs) (hr : SRC K r g) : SE K (fun σ H Q => ts σ H fun vs H1 => r vs H1 Q) (evA g fs) := by
  intro B IO Z σ H cs ok d fr cs' e Q q
  unfold evA at e
  obtain ⟨⟨d1, c1⟩, e1, e⟩ := Option.bind_eq_some_iff.mp e
  obtain ⟨⟨z, fz⟩, e3, e⟩ := Option.bind_eq_some_iff.mp e
  cases e
  refine ha ok e1 _ fun x H1 p1 v1 => ?_
  refine hr p1.ok.md v1 e3 Q fun v H3 x3 v3 => ?_
  exact q v H3 (.of p1 x3 v3)
def gTupD : GA := fun ds => if ds.length ≤ LIM then some (.tuple ds, false) else none
def gLstD : GA := fun ds => if ds.length ≤ LIM then some (.list ds, true) else none
theorem sqt_new {K : PySem.W.Frag} {H : Hp} {M : Addr → Prop} {p : Addr} {xs : List V} {ds : List D} (hp : H p = none) (hm : ∀ a, M a → H a ≠ none) (h : Paired (Rp K (cut H M)) xs ds) : Rp K (cut (upd H p (.tup xs)) M) (.ref p) (.tuple ds) := by
  have np : ¬ M p := fun z => hm p z hp
  refine .tup (.inl (.inl ?_)) (Rp.monoA (le_cut fun a o e m => ⟨Ex.new hp a o e, m⟩) h)
  rw [cut_of np]
  exact upd_same
theorem sc_tup : SRC K (fun xs H1 Q => xs.length ≤ sizeLine ∧ ∀ p, H1 p = none → Q (.ref p) (upd H1 p (.tup xs))) gTupD := by
  intro H M hm xs ds r z fr e Q q
  unfold gTupD at e
  split at e
  · rename_i hl
    cases e
    refine ⟨by rw [Pd.len r]; exact lim_ok hl, fun p hp => ?_⟩
    exact q _ _ (Ex.new hp) (VOk.of (sqt_new hp hm r))
  · cases e
theorem sc_lst : SRC K (fun xs H1 Q => xs.length ≤ sizeLine ∧ ∀ p, H1 p = none → Q (.ref p) (upd H1 p (.lst xs))) gLstD := by
  intro H M hm xs ds r z fr e Q q
  unfold gLstD at e
  split at e
  · rename_i hl
    cases e
    refine ⟨by rw [Pd.len r]; exact lim_ok hl, fun p hp => ?_⟩
    exact q _ _ (Ex.new hp) (VOk.new hp hm (.lst r))
  · cases e
theorem de_tup {x1} (h : DA X es ts fs) : DE X (.Tuple es x1 pos) (tTup ts) (evA gTupD fs) := ⟨pe_tup h.pa, se_A h.sa sc_tup⟩
theorem de_lst (h : DA X es ts fs) : DE X (.List es pos) (tLst ts) (evA gLstD fs) := ⟨pe_lst h.pa, se_A h.sa sc_lst⟩
end
end Qp
end
section
set_option Elab.async false
set_option linter.all false
set_option maxRecDepth 100000
set_option maxHeartbeats 2000000
/-! Qc: operators and built-ins on data. -/
namespace Qp
open PySem PySem.Spec PyProof.Rows L2
section
variable {K : PySem.W.Frag} {H H' : Hp} {M : Addr → Prop} {F : Hp}

/-- a thing that may be read just now: its parts are data -/
inductive Vw (K : PySem.W.Frag) (H : Hp) (M : Addr → Prop) : V → D → Prop
  | sc {v : V} {d : D} : Rp K (cut H M) v d → (∀ ds, d ≠ .list ds) → (∀ ds, d ≠ .dict ds) → Vw K H M v d
  | lst {a : Addr} {xs : List V} {ds : List D} : SqL K H a xs → Paired (Rp K (cut H M)) xs ds → Vw K H M (.ref a) (.list ds)
  | dic {a : Addr} {kvs : List (Key × V)} {es : List (D × D)} : Rd H a (.dK kvs) → es.map (·.1) = kvs.map (fun p => kD p.1) → Paired (Rp K (cut H M)) (kvs.map (·.2)) (es.map (·.2)) → Vw K H M (.ref a) (.dict es)
theorem Vw.of_rp {v : V} {d : D} (r : Rp K (cut H M) v d) : Vw K H M v d := by
  cases r with
  | lst h p => exact .lst (cut_le.sqL h) p
  | tup h p => exact .sc (.tup h p) (fun _ z => nomatch z) (fun _ z => nomatch z)
  | dic h e p => exact .dic (cut_le _ _ nf_dK h) e p
  | non => exact .sc .non (fun _ z => nomatch z) (fun _ z => nomatch z)
  | bl b => exact .sc (.bl b) (fun _ z => nomatch z) (fun _ z => nomatch z)
  | int i => exact .sc (.int i) (fun _ z => nomatch z) (fun _ z => nomatch z)
  | str x => exact .sc (.str x) (fun _ z => nomatch z) (fun _ z => nomatch z)
theorem Vw.of_own {a : Addr} {d : D} (r : OwnAt K (cut H M) (H a) d) : Vw K H M (.ref a) d := by
  generalize e : H a = o at r
  cases r with
  | lst p => exact .lst (.inl (.inl e)) p
  | dic e' p => exact .dic (.inl e) e' p
theorem Vw.rpH {v : V} {d : D} (h : Vw K H M v d) : Rp K H v d := by
  cases h with
  | sc r _ _ => exact r.mono cut_le
  | lst h p => exact .lst h (Rp.monoA cut_le p)
  | dic h e p => exact .dic h e (Rp.monoA cut_le p)
theorem Vw.list {v : V} {ds : List D} (h : Vw K H M v (.list ds)) : ∃ a xs, v = .ref a ∧ SqL K H a xs ∧ Paired (Rp K (cut H M)) xs ds := by
  cases h with
  | sc r h _ => exact absurd rfl (h _)
  | lst h p => exact ⟨_, _, rfl, h, p⟩
theorem Vw.rp {v : V} {d : D} (h : Vw K H M v d) (h1 : ∀ ds, d ≠ .list ds) (h2 : ∀ ds, d ≠ .dict ds) : Rp K (cut H M) v d := by
  cases h with
  | sc r _ _ => exact r
  | lst h p => exact absurd rfl (h1 _)
  | dic h e p => exact absurd rfl (h2 _)
theorem Vw.tuple {v : V} {ds : List D} (h : Vw K H M v (.tuple ds)) : ∃ a xs, v = .ref a ∧ SqT K (cut H M) a xs ∧ Paired (Rp K (cut H M)) xs ds := (h.rp (fun _ z => nomatch z) (fun _ z => nomatch z)).tuple
theorem Vw.int_eq {v : V} {i : Int} (h : Vw K H M v (.int i)) : v = .int i := (h.rp (fun _ z => nomatch z) (fun _ z => nomatch z)).int_eq
theorem Vw.str_eq {v : V} {i : Str} (h : Vw K H M v (.str i)) : v = .str i := (h.rp (fun _ z => nomatch z) (fun _ z => nomatch z)).str_eq
end
/-- .. by a container that is looked into -/
def SRw (K : PySem.W.Frag) (r : R2) (g : G2) : Prop := ∀ {H : Hp} {M : Addr → Prop}, (∀ a, M a → H a ≠ none) → ∀ {x y : V} {d e : D}, Vw K H M x d → Rp K (cut H M) y e → ∀ {z : D} {fr : Bool}, g d e = some (z, fr) →
  ∀ Q : VK, (∀ v H', Ex H H' → VOk K H H' M fr v z → Q v H') → r x y H Q
theorem SRw.two {K : PySem.W.Frag} {r : R2} {g : G2} (h : SRw K r g) : SR2 K r g := fun hm _ _ _ _ rx ry _ _ e Q q => h hm (Vw.of_rp rx) ry e Q q
def SRCw (K : PySem.W.Frag) (r : List V → Hp → VK → Prop) (g : G1) : Prop := ∀ {H : Hp} {M : Addr → Prop}, (∀ a, M a → H a ≠ none) → ∀ {x : V} {d : D}, Vw K H M x d → ∀ {z : D} {fr : Bool}, g d = some (z, fr) →
  ∀ Q : VK, (∀ v H', Ex H H' → VOk K H H' M fr v z → Q v H') → r [x] H Q
def gOne (g : G1) : GA
  | [d] => g d
  | _ => none
theorem SRCw.all {K : PySem.W.Frag} {r : List V → Hp → VK → Prop} {g : G1} (h : SRCw K r g) : SRC K r (gOne g) := by
  intro H M hm xs ds p z fr e Q q
  cases p with
  | nil => cases e
  | cons r1 p =>
    cases p with
    | nil => exact h hm (Vw.of_rp r1) e Q q
    | cons _ _ => cases e

/-! ### + - * // % ** -/
section
variable {X : Cx} {K : PySem.W.Frag}
def gII (f : Int → Int → D) : G2
  | .int i, .int j => some (f i j, false)
  | _, _ => none
def gIIc (C : Int → Int → Bool) (f : Int → Int → D) : G2
  | .int i, .int j => if C i j = true then some (f i j, false) else none
  | _, _ => none
def relS1 : D → V → Prop
  | .int i, v => v = .int i
  | .bool b, v => v = .bl b
  | .str b, v => v = .str b
  | _, _ => False
theorem relS1.rp {F : Hp} {d : D} {v : V} (h : relS1 d v) : Rp K F v d := by
  cases d with
  | int i => cases h; exact .int i
  | bool i => cases h; exact .bl i
  | str i => cases h; exact .str i
  | _ => exact h.elim
theorem sr_II {f : Int → Int → D} {g : Int → Int → V} (h : ∀ i j, relS1 (f i j) (g i j)) : SR2 K (rI0 g) (gII f) := by
  intro H M hm x y d e rx ry z fr q Q k
  unfold gII at q
  split at q
  · cases q
    exact ⟨_, _, rx.int_eq, ry.int_eq, k _ H (Ex.refl H) (VOk.of (h _ _).rp)⟩
  · cases q
theorem sr_IIc {C : Int → Int → Bool} {P : Int → Int → Prop} {f : Int → Int → D} {g : Int → Int → V} (hc : ∀ i j, C i j = true → P i j) (h : ∀ i j, relS1 (f i j) (g i j)) : SR2 K (rI P g) (gIIc C f) := by
  intro H M hm x y d e rx ry z fr q Q k
  unfold gIIc at q
  split at q
  · split at q
    · rename_i c
      cases q
      exact ⟨_, _, rx.int_eq, ry.int_eq, hc _ _ c, k _ H (Ex.refl H) (VOk.of (h _ _).rp)⟩
    · cases q
  · cases q
/-- list + list, both readable -/
def rCatR (K : PySem.W.Frag) : R2 := fun x y H Q => ∃ l b xs zs, x = .ref l ∧ y = .ref b ∧ SqL K H l xs ∧ SqL K H b zs ∧ xs.length + zs.length ≤ sizeLine ∧ ∀ p, H p = none → Q (.ref p) (upd H p (.lst (xs ++ zs)))
theorem op_catR : OpR X (binaryOp .Add) (rCatR X.K) := by
  intro pins s σ H x y v u Q I rx ry h
  obtain ⟨l, b, xs, zs, rfl, rfl, hH, hB, hz, q⟩ := h
  cases rx
  cases ry
  obtain ⟨its, r, pl, z⟩ := I.list hH
  obtain ⟨its2, r2, pl2, z2⟩ := I.list hB
  have hl := r.length
  have hl2 := r2.length
  obtain ⟨⟨cls, dd, data, sl⟩, ho, hc, n, hd⟩ := id pl.isList
  obtain ⟨⟨cls2, dd2, data2, sl2⟩, ho2, hc2, n2, hd2⟩ := id pl2.isList
  simp only at hc hd hc2 hd2
  subst hc hd hc2 hd2
  have ea : its.toArray ++ its2.toArray = (its ++ its2).toArray := by simp
  refine concat_meets ⟨_, ho, rfl⟩ ⟨_, ho2, rfl⟩ noFill_list_add seq_list_add PySem.F.slot_list_add PySem.F.entry_list_add (PySem.F.args_list_add_2 _ _) (list_addW l b its.toArray its2.toArray n n2 dd dd2 sl sl2 (by rw [List.size_toArray, List.size_toArray]; omega)) ⟨ho, ho2, ?_⟩
  rw [ea]
  exact ⟨.ref _, _, I.lnew (t' := s.toks) (r.append r2) (by rw [List.length_append]; omega), rfl, q _ I.fresh⟩
def rAddD (K : PySem.W.Frag) : R2 := fun x y H Q => (rI0 (fun i j => .int (i + j)) x y H Q) ∨ ((∃ i j, x = .str i ∧ y = .str j ∧ i.length + j.length ≤ sizeLine ∧ Q (.str (i ++ j)) H) ∨ (rCatR K x y H Q ∨ rCatA K x y H Q))
theorem op_addD : OpR X (binaryOp .Add) (rAddD X.K) := op_add.or (op_add_str.or (op_catR.or op_catA))
def gAdd : G2
  | .int i, .int j => some (.int (i + j), false)
  | .str x, .str y => if x.length + y.length ≤ LIM then some (.str (x ++ y), false) else none
  | .list xs, .list ys => if xs.length + ys.length ≤ LIM then some (.list (xs ++ ys), true) else none
  | .tuple xs, .tuple ys => if xs.length + ys.length ≤ LIM then some (.tuple (xs ++ ys), false) else none
  | _, _ => none
theorem sw_add : SRw K (rAddD K) gAdd := by
  intro H M hm x y d e rx ry z fr q Q k
  unfold gAdd at q
  split at q
  · cases q
    exact .inl ⟨_, _, rx.int_eq, ry.int_eq, k _ H (Ex.refl H) (VOk.of (.int _))⟩
  · split at q
    · rename_i c
      cases q
      exact .inr (.inl ⟨_, _, rx.str_eq, ry.str_eq, lim_ok c, k _ H (Ex.refl H) (VOk.of (.str _))⟩)
    · cases q
  · split at q
    · rename_i c
      cases q
      obtain ⟨a, xs, rfl, h1, p1⟩ := rx.list
      obtain ⟨b, ys, rfl, h2, p2⟩ := ry.list
      refine .inr (.inr (.inl ⟨a, b, xs, ys, rfl, rfl, h1, cut_le.sqL h2, by rw [Pd.len p1, Pd.len p2]; exact lim_ok c, fun p hp => ?_⟩))
      exact k _ _ (Ex.new hp) (VOk.new hp hm (.lst (Pd.append p1 p2)))
    · cases q
  · split at q
    · rename_i c
      cases q
      obtain ⟨a, xs, rfl, h1, p1⟩ := rx.tuple
      obtain ⟨b, ys, rfl, h2, p2⟩ := ry.tuple
      refine .inr (.inr (.inr ⟨a, b, xs, ys, rfl, rfl, cut_le.sqT h1, cut_le.sqT h2, by rw [Pd.len p1, Pd.len p2]; exact lim_ok c, fun ex => ?_, fun nx ey => ?_, fun nx ny p hp => ?_⟩))
      · subst ex
        cases p1
        exact k _ H (Ex.refl H) (VOk.of ry)
      · subst ey
        cases p2
        rw [List.append_nil] at k
        exact k _ H (Ex.refl H) (VOk.of (.tup h1 p1))
      · exact k _ _ (Ex.new hp) (VOk.of (sqt_new hp hm (Pd.append p1 p2)))
    · cases q
  · cases q
end
end Qp
end
section
set_option Elab.async false
set_option linter.all false
set_option maxRecDepth 100000
set_option maxHeartbeats 2000000
/-! Qd: comparisons, lengths, subscripts, slices, types. -/
namespace Qp
open PySem PySem.Spec PyProof.Rows L2
section
variable {X : Cx} {K : PySem.W.Frag} {H H' : Hp} {M : Addr → Prop} {F : Hp}
/-! ### == -/
theorem dp_of {v : V} {d : D} (r : Rp K F v d) (hle : Le F H) : PyData.canLay0 d = true → Dp K H v d :=
  Rp.rec (motive_1 := fun v d _ => PyData.canLay0 d = true → Dp K H v d) (motive_2 := fun xs ds _ => PyData.canLayAll0 ds = true → DpAll K H xs ds)
    (fun _ => .non) (fun b _ => .bl b) (fun i _ => .int i) (fun x _ => .str x)
    (fun a _ ih h => .lst (hle.sqL a) (ih (by simpa [PyData.canLay0] using h))) (fun a _ ih h => .tup (hle.sqT a) (ih (by simpa [PyData.canLay0] using h))) (fun a e _ ih h => by simp [PyData.canLay0] at h)
    (fun _ => .nil) (fun r t ih1 ih2 h => by
      have h' := h
      simp only [PyData.canLayAll0, Bool.and_eq_true] at h'
      exact .cons (ih1 h'.1) (ih2 h'.2)) r
def gEq : G2 := fun d e => if (SeqAt.shaped d && SeqAt.shaped e) = true then some (.bool (PyData.eqv d e), false) else none
def gNe : G2 := fun d e => if (SeqAt.shaped d && SeqAt.shaped e) = true then some (.bool (!PyData.eqv d e), false) else none
theorem sw_eq : SRw K (rEqD K) gEq := by
  intro H M hm x y d e rx ry z fr q Q k
  unfold gEq at q
  split at q
  · rename_i c
    cases q
    rw [Bool.and_eq_true] at c
    exact ⟨d, e, dp_of rx.rpH (Le.refl H) (SeqAt.canLay_of_shaped c.1), dp_of ry cut_le (SeqAt.canLay_of_shaped c.2), c.1, c.2, k _ H (Ex.refl H) (VOk.of (.bl _))⟩
  · cases q
theorem sw_ne : SRw K (rNeD K) gNe := by
  intro H M hm x y d e rx ry z fr q Q k
  unfold gNe at q
  split at q
  · rename_i c
    cases q
    rw [Bool.and_eq_true] at c
    exact ⟨d, e, dp_of rx.rpH (Le.refl H) (SeqAt.canLay_of_shaped c.1), dp_of ry cut_le (SeqAt.canLay_of_shaped c.2), c.1, c.2, k _ H (Ex.refl H) (VOk.of (.bl _))⟩
  · cases q
/-! ### is None -/
def isNone : D → Bool
  | .none => true
  | _ => false
def gIsN : G2
  | d, .none => some (.bool (isNone d), false)
  | _, _ => none
def gNotN : G2
  | d, .none => some (.bool (!isNone d), false)
  | _, _ => none
theorem isnon {v : V} {d : D} (r : Rp K F v d) : decide (v = .non) = isNone d := by
  cases r <;> rfl
theorem sr_isN : SR2 K (fun x y H Q => y = .non ∧ Q (.bl (decide (x = .non))) H) gIsN := by
  intro H M hm x y d e rx ry z fr q Q k
  unfold gIsN at q
  split at q
  · cases q
    refine ⟨ry.none_eq, ?_⟩
    rw [isnon rx]
    exact k _ H (Ex.refl H) (VOk.of (.bl _))
  · cases q
theorem sr_notN : SR2 K (fun x y H Q => y = .non ∧ Q (.bl (!decide (x = .non))) H) gNotN := by
  intro H M hm x y d e rx ry z fr q Q k
  unfold gNotN at q
  split at q
  · cases q
    refine ⟨ry.none_eq, ?_⟩
    rw [isnon rx]
    exact k _ H (Ex.refl H) (VOk.of (.bl _))
  · cases q
/-! ### in a list or tuple of flat data -/
def flatD : D → Bool
  | .none => true
  | .bool _ => true
  | .int _ => true
  | .str _ => true
  | _ => false
theorem flat_of {v : V} {d : D} (r : Rp K F v d) (h : flatD d = true) : flatV v = true := by
  cases r <;> first | rfl | cases h
theorem eq_of {v w : V} {d e : D} (r : Rp K F v d) (s : Rp K F w e) (h : flatD d = true) (h' : flatD e = true) : eqV v w = PyData.eqv d e := by
  cases r <;> cases s <;> simp_all [eqV, PyData.eqv, flatD]
theorem inv_of {v : V} {d : D} (r : Rp K F v d) (h : flatD d = true) : ∀ {xs : List V} {ds : List D}, Paired (Rp K F) xs ds → ds.all flatD = true → xs.all flatV = true ∧ inV v xs = ds.any fun e => PyData.eqv e d
  | _, _, .nil, _ => ⟨rfl, rfl⟩
  | _, _, .cons r1 t, hh => by
    rw [List.all_cons, Bool.and_eq_true] at hh
    obtain ⟨h1, h2⟩ := inv_of r h t hh.2
    refine ⟨by rw [List.all_cons, flat_of r1 hh.1, h1]; rfl, ?_⟩
    unfold inV at h2 ⊢
    rw [List.any_cons, List.any_cons, h2, eq_of r1 r hh.1 h]
def gIn (neg : Bool) : G2
  | d, .list ds => if (flatD d && ds.all flatD) = true then some (.bool (if neg then !(ds.any fun e => PyData.eqv e d) else ds.any fun e => PyData.eqv e d), false) else none
  | d, .tuple ds => if (flatD d && ds.all flatD) = true then some (.bool (if neg then !(ds.any fun e => PyData.eqv e d) else ds.any fun e => PyData.eqv e d), false) else none
  | _, _ => none
/-- the container stands on the right: it may be owned -/
def SRw2 (K : PySem.W.Frag) (r : R2) (g : G2) : Prop := ∀ {H : Hp} {M : Addr → Prop}, (∀ a, M a → H a ≠ none) → ∀ {x y : V} {d e : D}, Rp K (cut H M) x d → Vw K H M y e → ∀ {z : D} {fr : Bool}, g d e = some (z, fr) →
  ∀ Q : VK, (∀ v H', Ex H H' → VOk K H H' M fr v z → Q v H') → r x y H Q
theorem SRw2.two {K : PySem.W.Frag} {r : R2} {g : G2} (h : SRw2 K r g) : SR2 K r g := fun hm _ _ _ _ rx ry _ _ e Q q => h hm rx (Vw.of_rp ry) e Q q
theorem sw_in {neg : Bool} : SRw2 K (rIn K neg) (gIn neg) := by
  intro H M hm x y d e rx ry z fr q Q k
  unfold gIn at q
  split at q
  · split at q
    · rename_i c
      cases q
      rw [Bool.and_eq_true] at c
      obtain ⟨a, xs, rfl, h1, p1⟩ := ry.list
      obtain ⟨i1, i2⟩ := inv_of rx c.1 p1 c.2
      refine ⟨a, xs, rfl, .inl h1, flat_of rx c.1, i1, ?_⟩
      rw [i2]
      exact k _ H (Ex.refl H) (VOk.of (.bl _))
    · cases q
  · split at q
    · rename_i c
      cases q
      rw [Bool.and_eq_true] at c
      obtain ⟨a, xs, rfl, h1, p1⟩ := ry.tuple
      obtain ⟨i1, i2⟩ := inv_of rx c.1 p1 c.2
      refine ⟨a, xs, rfl, .inr (cut_le.sqT h1), flat_of rx c.1, i1, ?_⟩
      rw [i2]
      exact k _ H (Ex.refl H) (VOk.of (.bl _))
    · cases q
  · cases q
/-! ### len -/
def gLen : G1
  | .list ds => some (.int ds.length, false)
  | .tuple ds => some (.int ds.length, false)
  | .str s => if s.length ≤ LIM then some (.int s.length, false) else none
  | _ => none
theorem sw_len : SRCw K (fun xs H Q => ∃ x n, xs = [x] ∧ LenV K x H n ∧ Q (.int n) H) gLen := by
  intro H M hm x d rx z fr q Q k
  unfold gLen at q
  split at q
  · cases q
    obtain ⟨a, xs, rfl, h1, p1⟩ := rx.list
    refine ⟨_, _, rfl, .inl ⟨xs, h1, rfl⟩, ?_⟩
    rw [Pd.len p1]
    exact k _ H (Ex.refl H) (VOk.of (.int _))
  · cases q
    obtain ⟨a, xs, rfl, h1, p1⟩ := rx.tuple
    refine ⟨_, _, rfl, .inr ⟨xs, cut_le.sqT h1, rfl⟩, ?_⟩
    rw [Pd.len p1]
    exact k _ H (Ex.refl H) (VOk.of (.int _))
  · split at q
    · rename_i c
      cases q
      exact ⟨_, _, rfl, by rw [rx.str_eq]; exact ⟨lim_ok c, rfl⟩, k _ H (Ex.refl H) (VOk.of (.int _))⟩
    · cases q
  · cases q
/-! ### int, list, tuple of a thing -/
def gInt : GA
  | [.int i] => some (.int i, false)
  | [.bool b] => some (.int (if b then 1 else 0), false)
  | _ => none
theorem sc_int : SRC K (fun xs H Q => (∃ i, xs = [.int i] ∧ Q (.int i) H) ∨ ∃ k, xs = [.bl k] ∧ Q (.int (if k then 1 else 0)) H) gInt := by
  intro H M hm xs ds p z fr q Q k
  unfold gInt at q
  split at q
  · cases q
    cases p with
    | cons r p =>
      cases p
      exact .inl ⟨_, by rw [r.int_eq], k _ H (Ex.refl H) (VOk.of (.int _))⟩
  · cases q
    cases p with
    | cons r p =>
      cases p
      exact .inr ⟨_, by rw [r.bool_eq], k _ H (Ex.refl H) (VOk.of (.int _))⟩
  · cases q
def gList : G1
  | .list ds => some (.list ds, true)
  | .tuple ds => some (.list ds, true)
  | _ => none
theorem sw_list : SRCw K (fun xs H Q => ∃ p ys, xs = [.ref p] ∧ (SqL K H p ys ∨ SqT K H p ys) ∧ ∀ l, H l = none → Q (.ref l) (upd H l (.lst ys))) gList := by
  intro H M hm x d rx z fr q Q k
  unfold gList at q
  split at q
  · cases q
    obtain ⟨a, xs, rfl, h1, p1⟩ := rx.list
    exact ⟨a, xs, rfl, .inl h1, fun l hl => k _ _ (Ex.new hl) (VOk.new hl hm (.lst p1))⟩
  · cases q
    obtain ⟨a, xs, rfl, h1, p1⟩ := rx.tuple
    exact ⟨a, xs, rfl, .inr (cut_le.sqT h1), fun l hl => k _ _ (Ex.new hl) (VOk.new hl hm (.lst p1))⟩
  · cases q
def gTuple : G1
  | .list ds => some (.tuple ds, false)
  | .tuple ds => some (.tuple ds, false)
  | _ => none
theorem sw_tuple : SRCw K (fun xs H Q => ∃ p ys, xs = [.ref p] ∧ ((SqL K H p ys ∧ ∀ l, H l = none → Q (.ref l) (upd H l (.tup ys))) ∨ (SqT K H p ys ∧ Q (.ref p) H))) gTuple := by
  intro H M hm x d rx z fr q Q k
  unfold gTuple at q
  split at q
  · cases q
    obtain ⟨a, xs, rfl, h1, p1⟩ := rx.list
    exact ⟨a, xs, rfl, .inl ⟨h1, fun l hl => k _ _ (Ex.new hl) (VOk.of (sqt_new hl hm p1))⟩⟩
  · cases q
    obtain ⟨a, xs, rfl, h1, p1⟩ := rx.tuple
    exact ⟨a, xs, rfl, .inr ⟨cut_le.sqT h1, k _ H (Ex.refl H) (VOk.of (.tup h1 p1))⟩⟩
  · cases q
/-! ### max, min of two ints -/
def gMax2 : GA
  | [.int i, .int j] => some (.int (if j > i then j else i), false)
  | _ => none
theorem sc_max2 : SRC K (fun xs H Q => ∃ i j, xs = [.int i, .int j] ∧ Q (.int (if j > i then j else i)) H) gMax2 := by
  intro H M hm xs ds p z fr q Q k
  unfold gMax2 at q
  split at q
  · cases q
    cases p with
    | cons r p =>
      cases p with
      | cons r2 p =>
        cases p
        exact ⟨_, _, by rw [r.int_eq, r2.int_eq], k _ H (Ex.refl H) (VOk.of (.int _))⟩
  · cases q
def gMin2 : GA
  | [.int i, .int j] => some (.int (if j < i then j else i), false)
  | _ => none
theorem sc_min2 : SRC K (fun xs H Q => ∃ i j, xs = [.int i, .int j] ∧ Q (.int (if j < i then j else i)) H) gMin2 := by
  intro H M hm xs ds p z fr q Q k
  unfold gMin2 at q
  split at q
  · cases q
    cases p with
    | cons r p =>
      cases p with
      | cons r2 p =>
        cases p
        exact ⟨_, _, by rw [r.int_eq, r2.int_eq], k _ H (Ex.refl H) (VOk.of (.int _))⟩
  · cases q
/-! ### items -/
def atD (ds : List D) (i : Int) : Option D := (ixN ds.length i).bind fun j => ds[j]?
theorem atD_get {xs : List V} {ds : List D} {i : Int} {d : D} (p : Paired (Rp K F) xs ds) (h : atD ds i = some d) : ∃ v, atI xs i = some v ∧ Rp K F v d := by
  unfold atD at h
  obtain ⟨j, e, h⟩ := Option.bind_eq_some_iff.mp h
  obtain ⟨v, h1, h2⟩ := Pd.get p h
  refine ⟨v, ?_, h2⟩
  unfold atI
  rw [Pd.len p, e]
  exact h1
def gIx : G2
  | .list ds, .int i => (atD ds i).bind fun d => some (d, false)
  | .tuple ds, .int i => (atD ds i).bind fun d => some (d, false)
  | .str s, .int i => if s.length ≤ LIM then (atI s.cps.toList i).bind fun c => some (.str ⟨#[c]⟩, false) else none
  | _, _ => none
theorem sw_ix : SRw K (rIx K) gIx := by
  intro H M hm x y d e rx ry z fr q Q k
  unfold gIx at q
  split at q
  · obtain ⟨d', e1, q⟩ := Option.bind_eq_some_iff.mp q
    cases q
    obtain ⟨a, xs, rfl, h1, p1⟩ := rx.list
    obtain ⟨v, g1, g2⟩ := atD_get p1 e1
    exact .inl ⟨a, xs, _, v, rfl, ry.int_eq, h1, g1, k _ H (Ex.refl H) (VOk.of g2)⟩
  · obtain ⟨d', e1, q⟩ := Option.bind_eq_some_iff.mp q
    cases q
    obtain ⟨a, xs, rfl, h1, p1⟩ := rx.tuple
    obtain ⟨v, g1, g2⟩ := atD_get p1 e1
    exact .inr (.inl ⟨a, xs, _, v, rfl, ry.int_eq, cut_le.sqT h1, g1, k _ H (Ex.refl H) (VOk.of g2)⟩)
  · split at q
    · rename_i c
      obtain ⟨c', e1, q⟩ := Option.bind_eq_some_iff.mp q
      cases q
      exact .inr (.inr ⟨_, _, c', rx.str_eq, ry.int_eq, lim_ok c, e1, k _ H (Ex.refl H) (VOk.of (.str _))⟩)
    · cases q
  · cases q
/-! ### types -/
def tyD : D → String
  | .none => "NoneType"
  | .bool _ => "bool"
  | .int _ => "int"
  | .str _ => "str"
  | .list _ => "list"
  | .tuple _ => "tuple"
  | .dict _ => "dict"
theorem tyx_of {v : V} {d : D} (r : Rp K F v d) (hle : Le F H) : TyX K H v (.type (tyD d)) := by
  cases r with
  | non => exact .base .non
  | bl b => exact .base (.bl b)
  | int i => exact .base (.int i)
  | str x => exact .base (.str x)
  | lst h p =>
    rcases hle.sqL h with (h | ⟨o, h⟩) | ⟨o, its, n, h1, h2, _⟩
    · exact .base (.lst h)
    · exact .base (.frz h)
    · exact .kList h1 h2
  | tup h p =>
    rcases hle.sqT h with (h | ⟨o, h⟩) | ⟨o, its, n, h1, h2, _⟩
    · exact .base (.tup h)
    · exact .fTuple h
    · exact .kTuple h1 h2
  | dic h e p =>
    rcases hle _ _ nf_dK h with h | ⟨o, h⟩
    · exact .base (.dK h)
    · exact .fDict h
end
end Qp
end
section
set_option Elab.async false
set_option linter.all false
set_option maxRecDepth 100000
set_option maxHeartbeats 2000000
/-! Qe: calls of built-ins, containers in a name, slices. -/
namespace Qp
open PySem PySem.Spec PyProof.Rows L2
section
variable {X : Cx} {K : PySem.W.Frag} {e a b : Expr} {es : List Expr} {te ta tb : TE} {ts : TA} {fe fa fb : EX} {fs : AX} {pos fpos cpos : Pos}
theorem de_cB {id : String} {x : Str} {r : List V → Hp → VK → Prop} {g : GA} (hc : CallR X (.builtin id) r) (hr : SRC X.K r g) (hg : Gl X x) (hm : X.mg x = none) (hv : bootBuiltins x = some (.builtin id)) (ha : DA X (e :: es) ts fs)
    (hn : x ≠ "__name__" := by decide) (hdb : (x == ("__debug__" : Str)) = false := by decide) (hs : starEach (e :: es) X.env = (false, eval e X.env) :: starEach es X.env := by rfl) (hpl : (backTo cpos (starEach es X.env)).any (·.1) = false := by rfl) :
    DE X (.Call (.Name x fpos) (e :: es) [] cpos) (tCB r ts) (evA g fs) := ⟨pe_callB hc hg hm hv ha.pa hn hdb hs hpl, se_A ha.sa hr⟩
theorem de_cT {T : String} {x : Str} {r : List V → Hp → VK → Prop} {g : GA} (hc : CallR X (.type T) r) (hr : SRC X.K r g) (hg : Gl X x) (hm : X.mg x = none) (hv : bootBuiltins x = some (.type T)) (ha : DA X (e :: es) ts fs)
    (hn : x ≠ "__name__" := by decide) (hdb : (x == ("__debug__" : Str)) = false := by decide) (hs : starEach (e :: es) X.env = (false, eval e X.env) :: starEach es X.env := by rfl) (hpl : (backTo cpos (starEach es X.env)).any (·.1) = false := by rfl) :
    DE X (.Call (.Name x fpos) (e :: es) [] cpos) (tCB r ts) (evA g fs) := ⟨pe_callTy hc hg hm hv ha.pa hn hdb hs hpl, se_A ha.sa hr⟩
/-! ### a container that stands in a name is looked into -/
def cont (cs : En) (i : Nat) : Option D := match cs[i]? with
  | some (.dat d) => some d
  | some (.own d) => some d
  | some (.io d) => some d
  | _ => none
theorem Ok.view {B : Hp} {IO : List (Nat × Addr)} {Z : Addr → Prop} {σ : St} {H : Hp} {cs : En} (ok : Ok K B IO Z σ H cs) {i : Nat} {d : D} (h : cont cs i = some d) : ∃ v, σ[i]? = some (some v) ∧ Vw K H (Md σ cs Z) v d := by
  unfold cont at h
  split at h
  · rename_i d' h'
    cases h
    obtain ⟨v, h1, h2⟩ := ok.dat i _ h'
    exact ⟨v, h1, Vw.of_rp h2⟩
  · rename_i d' h'
    cases h
    obtain ⟨a, h1, h2⟩ := ok.own i _ (.inl h')
    exact ⟨_, h1, Vw.of_own h2⟩
  · rename_i d' h'
    cases h
    obtain ⟨a, h1, h2⟩ := ok.own i _ (.inr h')
    exact ⟨_, h1, Vw.of_own h2⟩
  · cases h
def evIxV (g : G2) (i : Nat) (fb : EX) : EX := fun cs => (cont cs i).bind fun _ => (fb cs).bind fun s => (cont s.2.2 i).bind fun d => (g d s.1).bind fun z => some (z.1, z.2, s.2.2)
theorem se_ixv {r : R2} {g : G2} {i : Nat} (hr : SRw K r g) (hb : SE K tb fb) : SE K (tOp r (tVar i) tb) (evIxV g i fb) := by
  intro B IO Z σ H cs ok d fr cs' e Q q
  unfold evIxV at e
  obtain ⟨d0, e0, e⟩ := Option.bind_eq_some_iff.mp e
  obtain ⟨⟨d1, f1, c1⟩, e1, e⟩ := Option.bind_eq_some_iff.mp e
  obtain ⟨d2, e2, e⟩ := Option.bind_eq_some_iff.mp e
  obtain ⟨⟨z, fz⟩, e3, e⟩ := Option.bind_eq_some_iff.mp e
  cases e
  obtain ⟨v, hv, _⟩ := ok.view e0
  refine ⟨v, hv, hb ok e1 _ fun y H1 w1 => ?_⟩
  obtain ⟨v', hv', w⟩ := w1.post.ok.view e2
  rw [hv] at hv'
  cases hv'
  refine hr w1.post.ok.md w w1.rp e3 Q fun u H3 x3 v3 => ?_
  exact q u H3 (.of w1.post x3 v3)
def evVIn (g : G2) (fa : EX) (i : Nat) : EX := fun cs => (fa cs).bind fun s => (cont s.2.2 i).bind fun d => (g s.1 d).bind fun z => some (z.1, z.2, s.2.2)
theorem se_inv {r : R2} {g : G2} {i : Nat} (hr : SRw2 K r g) (ha : SE K ta fa) : SE K (tOp r ta (tVar i)) (evVIn g fa i) := by
  intro B IO Z σ H cs ok d fr cs' e Q q
  unfold evVIn at e
  obtain ⟨⟨d1, f1, c1⟩, e1, e⟩ := Option.bind_eq_some_iff.mp e
  obtain ⟨d2, e2, e⟩ := Option.bind_eq_some_iff.mp e
  obtain ⟨⟨z, fz⟩, e3, e⟩ := Option.bind_eq_some_iff.mp e
  cases e
  refine ha ok e1 _ fun y H1 w1 => ?_
  obtain ⟨v', hv', w⟩ := w1.post.ok.view e2
  refine ⟨v', hv', ?_⟩
  refine hr w1.post.ok.md w1.rp w e3 Q fun u H3 x3 v3 => ?_
  exact q u H3 (.of w1.post x3 v3)
def evV1 (g : G1) (i : Nat) : EX := fun cs => (cont cs i).bind fun d => (g d).bind fun z => some (z.1, z.2, cs)
theorem se_v1 {r : List V → Hp → VK → Prop} {g : G1} {i : Nat} (hr : SRCw K r g) : SE K (tCB r (tCons (tVar i) tNil)) (evV1 g i) := by
  intro B IO Z σ H cs ok d fr cs' e Q q
  unfold evV1 at e
  obtain ⟨d2, e2, e⟩ := Option.bind_eq_some_iff.mp e
  obtain ⟨⟨z, fz⟩, e3, e⟩ := Option.bind_eq_some_iff.mp e
  cases e
  obtain ⟨v, hv, w⟩ := ok.view e2
  refine ⟨v, hv, ?_⟩
  exact hr ok.md w e3 Q fun u H3 x3 v3 => q u H3 (.of (Post.refl ok) x3 v3)
variable {x : Str} {xpos : Pos} {i : Nat}
theorem de_opV {op : Operator} {r : R2} {g : G2} (ho : OpR X (binaryOp op) r) (hr : SRw X.K r g) (ha : DE X (.Name x xpos) (tVar i) (evVar i)) (hb : DE X b tb fb) : DE X (.BinOp (.Name x xpos) op b pos) (tOp r (tVar i) tb) (evIxV g i fb) := ⟨pe_op ho ha.pe hb.pe, se_ixv hr hb.se⟩
theorem de_cmpV {op : CmpOp} {r : R2} {g : G2} (ho : OpR X (compareOp op) r) (hr : SRw X.K r g) (ha : DE X (.Name x xpos) (tVar i) (evVar i)) (hb : DE X b tb fb) (hm : behindInMarks op b = false := by first | exact nomark _ | rfl) : DE X (.Compare (.Name x xpos) [op] [b] pos) (tOp r (tVar i) tb) (evIxV g i fb) :=
  ⟨pe_cmpR ho ha.pe hb.pe hm, se_ixv hr hb.se⟩
theorem dt_cmpV {op : CmpOp} {r : R2} {g : G2} (ho : OpR X (compareOp op) r) (hr : SRw X.K r g) (ha : DE X (.Name x xpos) (tVar i) (evVar i)) (hb : DE X b tb fb) (hm : behindInMarks op b = false := by first | exact nomark _ | rfl) : DT X (.Compare (.Name x xpos) [op] [b] pos) (tTest (tOp r (tVar i) tb)) (evT (evIxV g i fb)) :=
  ⟨pt_cmpR ho ha.pe hb.pe hm, st_test (se_ixv hr hb.se)⟩
theorem de_inV {op : CmpOp} {r : R2} {g : G2} (ho : OpR X (compareOp op) r) (hr : SRw2 X.K r g) (ha : DE X a ta fa) (hb : DE X (.Name x xpos) (tVar i) (evVar i)) (hm : behindInMarks op (.Name x xpos) = false := by first | exact nomark _ | rfl) : DE X (.Compare a [op] [.Name x xpos] pos) (tOp r ta (tVar i)) (evVIn g fa i) :=
  ⟨pe_cmpR ho ha.pe hb.pe hm, se_inv hr ha.se⟩
theorem dt_inV {op : CmpOp} {r : R2} {g : G2} (ho : OpR X (compareOp op) r) (hr : SRw2 X.K r g) (ha : DE X a ta fa) (hb : DE X (.Name x xpos) (tVar i) (evVar i)) (hm : behindInMarks op (.Name x xpos) = false := by first | exact nomark _ | rfl) : DT X (.Compare a [op] [.Name x xpos] pos) (tTest (tOp r ta (tVar i))) (evT (evVIn g fa i)) :=
  ⟨pt_cmpR ho ha.pe hb.pe hm, st_test (se_inv hr ha.se)⟩
theorem de_ix (ha : DE X a ta fa) (hb : DE X b tb fb) (hs : PlainIx b := by exact fun _ _ => rfl) : DE X (.Subscript a b pos) (tOp (rIx X.K) ta tb) (ev2 gIx fa fb) := ⟨pe_ix ix_seq ha.pe hb.pe hs, se_2 ha.se hb.se sw_ix.two⟩
theorem de_ixV (ha : DE X (.Name x xpos) (tVar i) (evVar i)) (hb : DE X b tb fb) (hs : PlainIx b := by exact fun _ _ => rfl) : DE X (.Subscript (.Name x xpos) b pos) (tOp (rIx X.K) (tVar i) tb) (evIxV gIx i fb) := ⟨pe_ix ix_seq ha.pe hb.pe hs, se_ixv sw_ix hb.se⟩
theorem de_cBV {id : String} {f : Str} {r : List V → Hp → VK → Prop} {g : G1} (hc : CallR X (.builtin id) r) (hr : SRCw X.K r g) (hg : Gl X f) (hm : X.mg f = none) (hv : bootBuiltins f = some (.builtin id)) (ha : DE X (.Name x xpos) (tVar i) (evVar i))
    (hn : f ≠ "__name__" := by decide) (hdb : (f == ("__debug__" : Str)) = false := by decide) :
    DE X (.Call (.Name f fpos) [.Name x xpos] [] cpos) (tCB r (tCons (tVar i) tNil)) (evV1 g i) := ⟨pe_callB hc hg hm hv (pa_cons ha.pe pa_nil) hn hdb, se_v1 hr⟩
theorem de_cTV {T : String} {f : Str} {r : List V → Hp → VK → Prop} {g : G1} (hc : CallR X (.type T) r) (hr : SRCw X.K r g) (hg : Gl X f) (hm : X.mg f = none) (hv : bootBuiltins f = some (.type T)) (ha : DE X (.Name x xpos) (tVar i) (evVar i))
    (hn : f ≠ "__name__" := by decide) (hdb : (f == ("__debug__" : Str)) = false := by decide) :
    DE X (.Call (.Name f fpos) [.Name x xpos] [] cpos) (tCB r (tCons (tVar i) tNil)) (evV1 g i) := ⟨pe_callTy hc hg hm hv (pa_cons ha.pe pa_nil) hn hdb, se_v1 hr⟩

/-! ### slices -/
def cutL {α : Type} (xs : List α) (lo hi : Option Int) : List α := (xs.drop (HT.sIx xs.length 0 lo)).take (HT.sIx xs.length xs.length hi - HT.sIx xs.length 0 lo)
theorem cutL_pd {F : Hp} {xs : List V} {ds : List D} {lo hi : Option Int} (p : Paired (Rp K F) xs ds) : Paired (Rp K F) (cutV xs lo hi) (cutL ds lo hi) := by
  unfold cutV cutL
  rw [Pd.len p]
  exact Pd.take _ (Pd.drop _ p)
def rSlD (K : PySem.W.Frag) : V → Option Int → Option Int → Hp → VK → Prop := fun x lo hi H Q => rSlL K x lo hi H Q ∨ (rSlA K x lo hi H Q ∨ rSlS x lo hi H Q)
theorem sl_D : SlR X (rSlD X.K) := sl_list.or (sl_tupA.or sl_str)
def gSl (d : D) (lo hi : Option Int) : Option (D × Bool) := match d with
  | .list ds => some (.list (cutL ds lo hi), true)
  | .tuple ds => some (.tuple (cutL ds lo hi), false)
  | .str s => if s.length ≤ LIM then some (.str (cutS s lo hi), false) else none
  | _ => none
theorem take_all {α : Type} (l : List α) : l.take l.length = l := List.take_of_length_le (Nat.le_refl _)
theorem sw_sl {H : Hp} {M : Addr → Prop} (hm : ∀ a, M a → H a ≠ none) {x : V} {d : D} {lo hi : Option Int} (rx : Vw K H M x d) {z : D} {fr : Bool} (q : gSl d lo hi = some (z, fr)) (Q : VK) (k : ∀ v H', Ex H H' → VOk K H H' M fr v z → Q v H') : rSlD K x lo hi H Q := by
  unfold gSl at q
  split at q
  · cases q
    obtain ⟨a, xs, rfl, h1, p1⟩ := rx.list
    exact .inl ⟨a, xs, rfl, h1, fun p hp => k _ _ (Ex.new hp) (VOk.new hp hm (.lst (cutL_pd p1)))⟩
  · cases q
    obtain ⟨a, xs, rfl, h1, p1⟩ := rx.tuple
    refine .inr (.inl ⟨a, xs, rfl, cut_le.sqT h1, fun w => ?_, fun _ p hp => k _ _ (Ex.new hp) (VOk.of (sqt_new hp hm (cutL_pd p1)))⟩)
    refine k _ H (Ex.refl H) (VOk.of ?_)
    have p2 := cutL_pd (lo := lo) (hi := hi) p1
    have e2 : cutV xs lo hi = xs := by
      unfold cutV
      rw [w.1, w.2, List.drop_zero, Nat.sub_zero, take_all]
    rw [e2] at p2
    exact .tup h1 p2
  · split at q
    · rename_i c
      cases q
      exact .inr (.inr ⟨_, rx.str_eq, lim_ok c, k _ H (Ex.refl H) (VOk.of (.str _))⟩)
    · cases q
  · cases q
abbrev OX := En → Option (Option Int × En)
def SO (K : PySem.W.Frag) (t : TO) (f : OX) : Prop := ∀ {B : Hp} {IO : List (Nat × Addr)} {X : Addr → Prop} {σ : St} {H : Hp} {cs : En}, Ok K B IO X σ H cs → ∀ {o : Option Int} {cs' : En}, f cs = some (o, cs') →
  ∀ Q : Option Int → Hp → Prop, (∀ H', Post K B IO X σ H cs σ H' cs' → Q o H') → t σ H Q
structure DO (X : Cx) (e : Option Expr) (t : TO) (f : OX) : Prop where
  po : PO X e t
  so : SO X.K t f
def evO0 : OX := fun cs => some (none, cs)
def evO1 (f : EX) : OX := fun cs => (f cs).bind fun r => match r.1 with
  | .int i => some (some i, r.2.2)
  | _ => none
theorem do_none : DO X none tNoPart evO0 := by
  refine ⟨po_none, ?_⟩
  intro B IO Z σ H cs ok o cs' e Q q
  cases e
  exact q H (Post.refl ok)
theorem do_some (h : DE X e te fe) : DO X (some e) (tPart te) (evO1 fe) := by
  refine ⟨po_some h.pe, ?_⟩
  intro B IO Z σ H cs ok o cs' e Q q
  unfold evO1 at e
  obtain ⟨⟨d1, f1, c1⟩, e1, e⟩ := Option.bind_eq_some_iff.mp e
  simp only at e
  split at e
  · cases e
    exact h.se ok e1 _ fun x H1 w1 => ⟨_, w1.rp.int_eq, q H1 w1.post⟩
  · cases e
def evSl (fe : EX) (fl fh : OX) : EX := fun cs => (fe cs).bind fun r => (fl r.2.2).bind fun s => (fh s.2).bind fun u => (gSl r.1 s.1 u.1).bind fun z => some (z.1, z.2, u.2)
def evSlV (i : Nat) (fl fh : OX) : EX := fun cs => (cont cs i).bind fun _ => (fl cs).bind fun s => (fh s.2).bind fun u => (cont u.2 i).bind fun d => (gSl d s.1 u.1).bind fun z => some (z.1, z.2, u.2)
variable {lo hi : Option Expr} {tl th : TO} {fl fh : OX} {p2 : Pos}
theorem de_sl (he : DE X e te fe) (hl : DO X lo tl fl) (hh : DO X hi th fh) : DE X (.Subscript e (.Slice lo hi none p2) pos) (tSl (rSlD X.K) te tl th) (evSl fe fl fh) := by
  refine ⟨pe_slice sl_D he.pe hl.po hh.po, ?_⟩
  intro B IO Z σ H cs ok d fr cs' e Q q
  unfold evSl at e
  obtain ⟨⟨d1, f1, c1⟩, e1, e⟩ := Option.bind_eq_some_iff.mp e
  obtain ⟨⟨o1, c2⟩, e2, e⟩ := Option.bind_eq_some_iff.mp e
  obtain ⟨⟨o2, c3⟩, e3, e⟩ := Option.bind_eq_some_iff.mp e
  obtain ⟨⟨z, fz⟩, e4, e⟩ := Option.bind_eq_some_iff.mp e
  cases e
  refine he.se ok e1 _ fun x H1 w1 => hl.so w1.post.ok e2 _ fun H2 p2 => hh.so p2.ok e3 _ fun H3 p3 => ?_
  refine sw_sl p3.ok.md (Vw.of_rp (w1.rp.mono (p2.le.trans p3.le))) e4 Q fun v H4 x4 v4 => ?_
  exact q v H4 (.of ((w1.post.trans p2).trans p3) x4 v4)
theorem de_slV (he : DE X (.Name x xpos) (tVar i) (evVar i)) (hl : DO X lo tl fl) (hh : DO X hi th fh) : DE X (.Subscript (.Name x xpos) (.Slice lo hi none p2) pos) (tSl (rSlD X.K) (tVar i) tl th) (evSlV i fl fh) := by
  refine ⟨pe_slice sl_D he.pe hl.po hh.po, ?_⟩
  intro B IO Z σ H cs ok d fr cs' e Q q
  unfold evSlV at e
  obtain ⟨d0, e0, e⟩ := Option.bind_eq_some_iff.mp e
  obtain ⟨⟨o1, c2⟩, e2, e⟩ := Option.bind_eq_some_iff.mp e
  obtain ⟨⟨o2, c3⟩, e3, e⟩ := Option.bind_eq_some_iff.mp e
  obtain ⟨d1, e1, e⟩ := Option.bind_eq_some_iff.mp e
  obtain ⟨⟨z, fz⟩, e4, e⟩ := Option.bind_eq_some_iff.mp e
  cases e
  obtain ⟨v, hv, _⟩ := ok.view e0
  refine ⟨v, hv, hl.so ok e2 _ fun H2 p2 => hh.so p2.ok e3 _ fun H3 p3 => ?_⟩
  obtain ⟨v', hv', w⟩ := p3.ok.view e1
  rw [hv] at hv'
  cases hv'
  refine sw_sl p3.ok.md w e4 Q fun u H4 x4 v4 => ?_
  exact q u H4 (.of (p2.trans p3) x4 v4)

/-! ### isinstance(e, T) -/
def evIsi (n : String) (f : EX) : EX := fun cs => (f cs).bind fun r => (kitB (tyD r.1) n).bind fun b => some (.bool b, false, r.2.2)
theorem de_isi {n : String} {T : Str} {tpos : Pos} (hg : Gl X "isinstance") (hm : X.mg "isinstance" = none) (hgT : Gl X T) (hmT : X.mg T = none) (hvT : bootBuiltins T = some (.type n)) (ha : DE X e te fe)
    (hn : T ≠ "__name__" := by decide) (hd : (T == ("__debug__" : Str)) = false := by decide) (hs : starEach (e :: [.Name T tpos]) X.env = (false, eval e X.env) :: starEach [.Name T tpos] X.env := by rfl) :
    DE X (.Call (.Name "isinstance" fpos) [e, .Name T tpos] [] cpos) (tCB (rIsi X.K) (tCons te (tCons (tC (.ty n)) tNil))) (evIsi n fe) := by
  refine ⟨pe_callB call_isi hg hm (by decide +kernel) (pa_cons ha.pe (pa_cons (pe_bltn hgT hmT hvT (v := .ty n) rfl hn hd) pa_nil) hs) (he := hs), ?_⟩
  intro B IO Z σ H cs ok d fr cs' e Q q
  unfold evIsi at e
  obtain ⟨⟨d1, f1, c1⟩, e1, e⟩ := Option.bind_eq_some_iff.mp e
  obtain ⟨b, e2, e⟩ := Option.bind_eq_some_iff.mp e
  cases e
  refine ha.se ok e1 _ fun x H1 w1 => ?_
  exact ⟨x, .ty n, _, _, b, rfl, .ty n, tyx_of w1.rp cut_le, kit_ty e2, q _ H1 (.dat w1.post (.bl b))⟩
def evIsiV (n : String) (i : Nat) : EX := fun cs => (cont cs i).bind fun d => (kitB (tyD d) n).bind fun b => some (.bool b, false, cs)
theorem de_isiV {n : String} {T : Str} {tpos : Pos} (hg : Gl X "isinstance") (hm : X.mg "isinstance" = none) (hgT : Gl X T) (hmT : X.mg T = none) (hvT : bootBuiltins T = some (.type n)) (ha : DE X (.Name x xpos) (tVar i) (evVar i))
    (hn : T ≠ "__name__" := by decide) (hd : (T == ("__debug__" : Str)) = false := by decide) :
    DE X (.Call (.Name "isinstance" fpos) [.Name x xpos, .Name T tpos] [] cpos) (tCB (rIsi X.K) (tCons (tVar i) (tCons (tC (.ty n)) tNil))) (evIsiV n i) := by
  refine ⟨pe_callB call_isi hg hm (by decide +kernel) (pa_cons ha.pe (pa_cons (pe_bltn hgT hmT hvT (v := .ty n) rfl hn hd) pa_nil)), ?_⟩
  intro B IO Z σ H cs ok d fr cs' e Q q
  unfold evIsiV at e
  obtain ⟨d1, e1, e⟩ := Option.bind_eq_some_iff.mp e
  obtain ⟨b, e2, e⟩ := Option.bind_eq_some_iff.mp e
  cases e
  obtain ⟨v, hv, w⟩ := ok.view e1
  exact ⟨v, hv, v, .ty n, _, _, b, rfl, .ty n, tyx_of w.rpH (Le.refl H), kit_ty e2, q _ H (.dat (Post.refl ok) (.bl b))⟩
end
end Qp
end
section
set_option Elab.async false
set_option linter.all false
set_option maxRecDepth 100000
set_option maxHeartbeats 2000000
/-! Qf: statements. -/
namespace Qp
open PySem PySem.Spec PyProof.Rows L2
inductive Res where
  | nx (cs : En) | rt (d : D) (fr : Bool) (cs : En) | bk (cs : En) | ct (cs : En)
abbrev SX := En → Option Res
def DnOk (K : PySem.W.Frag) (B : Hp) (IO : List (Nat × Addr)) (X : Addr → Prop) (σ : St) (H : Hp) (cs : En) (r : Res) (Dn : Ends) : Prop := match r with
  | .nx c => ∀ σ' H', Post K B IO X σ H cs σ' H' c → Dn.nx σ' H'
  | .rt d fr c => ∀ v σ' H', Pe K B IO X σ H cs σ' H' c fr v d → Dn.rt v H'
  | .bk c => ∀ σ' H', Post K B IO X σ H cs σ' H' c → Dn.bk σ' H'
  | .ct c => ∀ σ' H', Post K B IO X σ H cs σ' H' c → Dn.ct σ' H'
def SS (K : PySem.W.Frag) (t : TS) (g : SX) : Prop := ∀ {B : Hp} {IO : List (Nat × Addr)} {X : Addr → Prop} {σ : St} {H : Hp} {cs : En}, Ok K B IO X σ H cs → ∀ {r : Res}, g cs = some r → ∀ Dn : Ends, DnOk K B IO X σ H cs r Dn → t Dn σ H
structure DS (X : Cx) (st : Stmt) (t : TS) (g : SX) : Prop where
  ps : PS X st t
  ss : SS X.K t g
structure DB (X : Cx) (sts : List Stmt) (t : TS) (g : SX) : Prop where
  pss : PSs X sts t
  ss : SS X.K t g
section
variable {K : PySem.W.Frag} {B : Hp} {IO : List (Nat × Addr)} {Z Y : Addr → Prop} {σ σ' : St} {H H' : Hp} {cs cs' c1 : En}
theorem DnOk.pre {r : Res} {Dn : Ends} (p : Post K B IO Z σ H cs σ' H' cs') (h : DnOk K B IO Z σ H cs r Dn) : DnOk K B IO Z σ' H' cs' r Dn := by
  cases r with
  | nx c => exact fun s h' q => h s h' (p.trans q)
  | rt d fr c => exact fun v s h' q => h v s h' (q.pre p)
  | bk c => exact fun s h' q => h s h' (p.trans q)
  | ct c => exact fun s h' q => h s h' (p.trans q)
def isDat : Cell → Bool
  | .dat _ => true
  | .no => true
  | _ => false
/-- a cell is written -/
theorem Ok.setCell {i : Nat} {cell : Cell} {v : V} (ok : Ok K B IO Y σ H c1) (hZY : ∀ a, Z a → Y a) (hi : i < c1.length) (hio : ∀ d', c1[i]? ≠ some (.io d'))
    (hc : (∃ d, cell = .dat d ∧ Rp K (cut H (Md σ c1 Y)) v d) ∨ ∃ d p, cell = .own d ∧ v = .ref p ∧ Y p ∧ ¬ Z p ∧ B p = none ∧ OwnAt K (cut H (Md σ c1 Y)) (H p) d) :
    Ok K B IO Z (σ.set i (some v)) H (c1.set i cell) ∧ Le (cut H (Md σ c1 Y)) (cut H (Md (σ.set i (some v)) (c1.set i cell) Z)) := by
  have hiσ : i < σ.length := by rw [ok.len]; exact hi
  have os : ∀ j b, OwnS (σ.set i (some v)) (c1.set i cell) j b → (i ≠ j ∧ OwnS σ c1 j b) ∨ (i = j ∧ v = .ref b ∧ Y b ∧ ¬ Z b ∧ B b = none ∧ ∃ d, cell = .own d) := by
    intro j b ⟨q1, d', q2⟩
    by_cases e : i = j
    · subst e
      rw [List.getElem?_set_self hiσ] at q1
      have ev : v = .ref b := Option.some.inj (Option.some.inj q1)
      rw [List.getElem?_set_self hi] at q2
      rcases hc with ⟨d, rfl, _⟩ | ⟨d, p, rfl, e2, y, z, bb, _⟩
      · rcases q2 with q2 | q2 <;> cases q2
      · rw [ev] at e2
        cases e2
        exact .inr ⟨rfl, ev, y, z, bb, d, rfl⟩
    · rw [List.getElem?_set_ne e] at q1
      rw [List.getElem?_set_ne e] at q2
      exact .inl ⟨e, q1, d', q2⟩
  have sub : ∀ b, Md (σ.set i (some v)) (c1.set i cell) Z b → Md σ c1 Y b := fun b m => by
    rcases m with m | ⟨j, q⟩
    · exact .inl (hZY b m)
    · rcases os j b q with ⟨_, z⟩ | ⟨_, _, y, _⟩
      · exact .inr ⟨j, z⟩
      · exact .inl y
  have hle : Le (cut H (Md σ c1 Y)) (cut H (Md (σ.set i (some v)) (c1.set i cell) Z)) := le_cut fun b o q m => ⟨q, fun z => m (sub b z)⟩
  refine ⟨⟨by rw [List.length_set, List.length_set]; exact ok.len, fun j d' q => ?_, fun j d' q => ?_, fun j k b q r => ?_, fun j b q z => ?_, fun a z => ok.xin a (hZY a z), fun j b d' q r => ?_, fun j d' q => ?_, fun j b q => ?_, ok.base, ok.dom⟩, hle⟩
  · rcases getset q with ⟨z, z'⟩ | ⟨z, z'⟩
    · subst z
      rcases hc with ⟨d, e, r⟩ | ⟨d, p, e, _⟩
      · rw [e] at z'
        cases z'
        exact ⟨v, List.getElem?_set_self hiσ, r.mono hle⟩
      · rw [e] at z'; cases z'
    · obtain ⟨u, r1, r2⟩ := ok.dat j d' z'
      exact ⟨u, by rw [List.getElem?_set_ne z]; exact r1, r2.mono hle⟩
  · have q' : (i = j ∧ cell = .own d') ∨ (i ≠ j ∧ (c1[j]? = some (.own d') ∨ c1[j]? = some (.io d'))) := by
      rcases q with q | q
      · rcases getset q with ⟨z, z'⟩ | ⟨z, z'⟩
        · exact .inl ⟨z, z'⟩
        · exact .inr ⟨z, .inl z'⟩
      · rcases getset q with ⟨z, z'⟩ | ⟨z, z'⟩
        · rcases hc with ⟨d, e, _⟩ | ⟨d, p, e, _⟩ <;> (rw [e] at z'; cases z')
        · exact .inr ⟨z, .inr z'⟩
    rcases q' with ⟨z, z'⟩ | ⟨z, z'⟩
    · subst z
      rcases hc with ⟨d, e, _⟩ | ⟨d, p, e, e2, _, _, _, o⟩
      · rw [e] at z'; cases z'
      · rw [e] at z'
        cases z'
        exact ⟨p, by rw [e2]; exact List.getElem?_set_self hiσ, o.mono hle⟩
    · obtain ⟨b, r1, r2⟩ := ok.own j d' z'
      exact ⟨b, by rw [List.getElem?_set_ne z]; exact r1, r2.mono hle⟩
  · rcases os j b q with ⟨n1, z1⟩ | ⟨e1, _, y1, _⟩
    · rcases os k b r with ⟨n2, z2⟩ | ⟨e2, _, y2, _⟩
      · exact ok.inj j k b z1 z2
      · exact absurd y2 (ok.dis j b z1)
    · rcases os k b r with ⟨n2, z2⟩ | ⟨e2, _, y2, _⟩
      · exact absurd y1 (ok.dis k b z2)
      · exact e1.symm.trans e2
  · rcases os j b q with ⟨_, z1⟩ | ⟨_, _, _, z1, _⟩
    · exact ok.dis j b z1 (hZY b z)
    · exact z1 z
  · rcases os j b ⟨q, d', .inl r⟩ with ⟨n1, z1⟩ | ⟨_, _, _, _, z1, _⟩
    · rw [List.getElem?_set_ne n1] at q r
      exact ok.new j b d' q r
    · exact z1
  · rcases getset q with ⟨_, z⟩ | ⟨z, z'⟩
    · rcases hc with ⟨d, e, _⟩ | ⟨d, p, e, _⟩ <;> (rw [e] at z; cases z)
    · obtain ⟨b, r1, r2⟩ := ok.io j d' z'
      exact ⟨b, r1, by rw [List.getElem?_set_ne z]; exact r2⟩
  · obtain ⟨d', r1, r2⟩ := ok.ios j b q
    have z : i ≠ j := fun z => by
      subst z
      exact hio d' r1
    exact ⟨d', by rw [List.getElem?_set_ne z]; exact r1, by rw [List.getElem?_set_ne z]; exact r2⟩
def noIo (cs : En) (i : Nat) : Bool := match cs[i]? with
  | some (.io _) => false
  | some _ => true
  | none => false
theorem noIo_lt {i : Nat} (h : noIo cs i = true) : i < cs.length ∧ ∀ d, cs[i]? ≠ some (.io d) := by
  unfold noIo at h
  split at h
  · cases h
  · rename_i c e hne
    exact ⟨(List.getElem?_eq_some_iff.mp hne).1, fun d z => e d (by rw [hne] at z; exact Option.some.inj z)⟩
  · cases h
def cellOf (fr : Bool) (d : D) : Cell := if fr = true then .own d else .dat d
/-- name = value -/
theorem Pe.asg {i : Nat} {v : V} {d : D} {fr : Bool} (ok0 : Ok K B IO Z σ H cs) (w : Pe K B IO Z σ H cs σ H' c1 fr v d) (hn : noIo c1 i = true) : Post K B IO Z σ H cs (σ.set i (some v)) H' (c1.set i (cellOf fr d)) := by
  obtain ⟨hi, hio⟩ := noIo_lt hn
  unfold Pe at w
  unfold cellOf
  cases fr with
  | false =>
    obtain ⟨p, r⟩ := w
    obtain ⟨o, l⟩ := p.ok.setCell (Z := Z) (cell := .dat d) (v := v) (fun _ h => h) hi hio (.inl ⟨d, rfl, r⟩)
    exact ⟨o, p.le.trans l, p.keep, p.dom⟩
  | true =>
    obtain ⟨p, rfl, hp, q, ow⟩ := w
    have hB : B p = none := by
      cases z : B p with
      | none => rfl
      | some o => exact absurd hp (ok0.dom p (by rw [z]; exact fun z => nomatch z))
    obtain ⟨o, l⟩ := q.ok.setCell (Z := Z) (cell := .own d) (v := .ref p) (fun a h => .inl h) hi hio (.inr ⟨d, p, rfl, rfl, .inr rfl, q.np, hB, ow⟩)
    exact ⟨o, q.le.trans l, q.keep, q.dom⟩
/-- an owned thing is changed: kept = its kind of cell -/
theorem Ok.mutate {i : Nat} {a : Addr} {d d' : D} (ok : Ok K B IO Z σ H cs) (hs : σ[i]? = some (some (.ref a))) (hc : cs[i]? = some (.own d) ∨ cs[i]? = some (.io d)) (kept : ∀ b u, b ≠ a → H b = some u → H' b = some u) (hn : H' a ≠ none)
    (ow : OwnAt K (cut H' (Md σ cs Z)) (H' a) d') :
    Post K B IO Z σ H cs σ H' (cs.set i (match cs[i]? with | some (.io _) => .io d' | _ => .own d')) := by
  have hi : i < cs.length := by rcases hc with h | h <;> exact (List.getElem?_eq_some_iff.mp h).1
  have hown : OwnS σ cs i a := ⟨hs, d, hc⟩
  generalize ec : (match cs[i]? with | some (.io _) => Cell.io d' | _ => Cell.own d') = cell
  have hcell : (cs[i]? = some (.own d) ∧ cell = .own d') ∨ (cs[i]? = some (.io d) ∧ cell = .io d') := by
    rcases hc with h | h
    · rw [h] at ec; exact .inl ⟨h, ec.symm⟩
    · rw [h] at ec; exact .inr ⟨h, ec.symm⟩
  have os : ∀ j b, OwnS σ (cs.set i cell) j b ↔ OwnS σ cs j b := by
    intro j b
    by_cases e : i = j
    · subst e
      unfold OwnS
      rw [List.getElem?_set_self hi]
      constructor
      · rintro ⟨q1, _⟩
        exact ⟨q1, d, hc⟩
      · rintro ⟨q1, _⟩
        rcases hcell with ⟨_, h⟩ | ⟨_, h⟩
        · exact ⟨q1, d', .inl (by rw [h])⟩
        · exact ⟨q1, d', .inr (by rw [h])⟩
    · unfold OwnS
      rw [List.getElem?_set_ne e]
  have mde : Md σ (cs.set i cell) Z = Md σ cs Z := by
    funext b
    unfold Md
    exact propext ⟨fun h => h.imp id fun ⟨j, q⟩ => ⟨j, (os j b).mp q⟩, fun h => h.imp id fun ⟨j, q⟩ => ⟨j, (os j b).mpr q⟩⟩
  have ma : Md σ cs Z a := .inr ⟨i, hown⟩
  have hle : Le (cut H (Md σ cs Z)) (cut H' (Md σ cs Z)) := le_cut fun b u e m => ⟨kept b u (fun z => m (by rw [z]; exact ma)) e, m⟩
  have same : ∀ b, b ≠ a → H b ≠ none → H' b = H b := fun b ne h => by
    cases e : H b with
    | none => exact absurd e h
    | some u => exact kept b u ne e
  have dm : ∀ b, H b ≠ none → H' b ≠ none := fun b h => by
    by_cases e : b = a
    · rw [e]; exact hn
    · rw [same b e h]; exact h
  refine ⟨⟨by rw [List.length_set]; exact ok.len, fun j e q => ?_, fun j e q => ?_, fun j k b q r => ok.inj j k b ((os j b).mp q) ((os k b).mp r), fun j b q => ok.dis j b ((os j b).mp q), fun b z => dm b (ok.xin b z), fun j b e q r => ?_, fun j e q => ?_, fun j b q => ?_, fun b u h e => ?_, fun b h => dm b (ok.dom b h)⟩, ?_, fun b z => ?_, dm⟩
  · rw [mde]
    rcases getset q with ⟨z, z'⟩ | ⟨z, z'⟩
    · rcases hcell with ⟨_, h⟩ | ⟨_, h⟩ <;> (rw [h] at z'; cases z')
    · obtain ⟨u, r1, r2⟩ := ok.dat j e z'
      exact ⟨u, r1, r2.mono hle⟩
  · rw [mde]
    by_cases z : i = j
    · subst z
      rw [List.getElem?_set_self hi] at q
      refine ⟨a, hs, ?_⟩
      rcases hcell with ⟨_, h⟩ | ⟨_, h⟩
      · rw [h] at q
        rcases q with q | q
        · cases q; exact ow
        · cases q
      · rw [h] at q
        rcases q with q | q
        · cases q
        · cases q; exact ow
    · rw [List.getElem?_set_ne z] at q
      obtain ⟨b, r1, r2⟩ := ok.own j e q
      have nb : b ≠ a := fun y => by
        subst y
        exact z (ok.inj i j b hown ⟨r1, e, q⟩)
      refine ⟨b, r1, ?_⟩
      rw [same b nb r2.some]
      exact r2.mono hle
  · rcases getset r with ⟨z, z'⟩ | ⟨z, z'⟩
    · subst z
      rcases hcell with ⟨h0, h⟩ | ⟨_, h⟩
      · exact ok.new i b d q h0
      · rw [h] at z'; cases z'
    · exact ok.new j b e q z'
  · rcases getset q with ⟨z, z'⟩ | ⟨z, z'⟩
    · subst z
      rcases hcell with ⟨_, h⟩ | ⟨h0, h⟩
      · rw [h] at z'; cases z'
      · exact ok.io i d h0
    · exact ok.io j e z'
  · obtain ⟨e, r1, r2⟩ := ok.ios j b q
    by_cases z : i = j
    · subst z
      rcases hcell with ⟨h0, _⟩ | ⟨_, h⟩
      · rw [h0] at r1; cases r1
      · exact ⟨d', by rw [List.getElem?_set_self hi, h], r2⟩
    · exact ⟨e, by rw [List.getElem?_set_ne z]; exact r1, r2⟩
  · refine kept b u (fun y => ?_) (ok.base b u h e)
    subst y
    rcases hc with h0 | h0
    · rw [ok.new i b d hs h0] at e; cases e
    · obtain ⟨c, r1, r2⟩ := ok.io i d h0
      rw [hs] at r2
      cases r2
      exact h i r1
  · rw [mde]; exact hle
  · exact same b (fun y => ok.dis i a hown (by rw [← y]; exact z)) (ok.xin b z)
end
end Qp
end
section
set_option Elab.async false
set_option linter.all false
set_option maxRecDepth 100000
set_option maxHeartbeats 2000000
/-! Qg: statements and loops of the text. -/
namespace Qp
open PySem PySem.Spec PyProof.Rows L2
section
variable {X : Cx} {st : Stmt} {rest : List Stmt} {t u : TS} {g h : SX} {e : Expr} {te : TE} {fe : EX} {pos : Pos} {K : PySem.W.Frag}
/-! ### blocks -/
def sNx : SX := fun cs => some (.nx cs)
def sSeq (g h : SX) : SX := fun cs => (g cs).bind fun r => match r with
  | .nx c => h c
  | r => some r
theorem ss_nx : SS K tNext sNx := by
  intro B IO Z σ H cs ok r e Dn q
  cases e
  exact q σ H (Post.refl ok)
theorem db_nil : DB X [] tNext sNx := ⟨pss_nil, ss_nx⟩
theorem ds_pass : DS X (.Pass pos) tNext sNx := ⟨ps_pass, ss_nx⟩
theorem ds_doc {x j pos'} : DS X (.Expr (.Constant (.str x) j pos) pos') tNext sNx := ⟨ps_doc, ss_nx⟩
theorem db_cons (h1 : DS X st t g) (h2 : DB X rest u h) : DB X (st :: rest) (tSeq t u) (sSeq g h) := by
  refine ⟨pss_cons h1.ps h2.pss, ?_⟩
  intro B IO Z σ H cs ok r e Dn q
  unfold sSeq at e
  obtain ⟨r1, e1, e⟩ := Option.bind_eq_some_iff.mp e
  refine h1.ss ok e1 _ ?_
  cases r1 with
  | nx c => exact fun σ' H' p => h2.ss p.ok e Dn (q.pre p)
  | rt d fr c => cases e; exact q
  | bk c => cases e; exact q
  | ct c => cases e; exact q
theorem db_one (h1 : DS X st t g) : DB X [st] t g := ⟨pss_one h1.ps, h1.ss⟩
def sBk : SX := fun cs => some (.bk cs)
def sCt : SX := fun cs => some (.ct cs)
theorem ds_break : DS X (.Break pos) tBreak sBk := by
  refine ⟨ps_break, ?_⟩
  intro B IO Z σ H cs ok r e Dn q
  cases e
  exact q σ H (Post.refl ok)
theorem ds_continue : DS X (.Continue pos) tCont sCt := by
  refine ⟨ps_continue, ?_⟩
  intro B IO Z σ H cs ok r e Dn q
  cases e
  exact q σ H (Post.refl ok)
/-! ### expressions as statements, return, if -/
def sDrop (f : EX) : SX := fun cs => (f cs).bind fun r => some (.nx r.2.2)
theorem ds_expr (he : DE X e te fe) (hs : swapsWith e none pos.line X.env = pure false := by rfl) : DS X (.Expr e pos) (tDrop te) (sDrop fe) := by
  refine ⟨ps_expr he.pe hs, ?_⟩
  intro B IO Z σ H cs ok r e Dn q
  unfold sDrop at e
  obtain ⟨⟨d1, f1, c1⟩, e1, e⟩ := Option.bind_eq_some_iff.mp e
  cases e
  exact he.se ok e1 _ fun v H1 w => q σ H1 w.post
def sRet (f : EX) : SX := fun cs => (f cs).bind fun r => some (.rt r.1 r.2.1 r.2.2)
theorem ds_ret (he : DE X e te fe) : DS X (.Return (some e) pos) (tRet te) (sRet fe) := by
  refine ⟨ps_ret he.pe, ?_⟩
  intro B IO Z σ H cs ok r e Dn q
  unfold sRet at e
  obtain ⟨⟨d1, f1, c1⟩, e1, e⟩ := Option.bind_eq_some_iff.mp e
  cases e
  exact he.se ok e1 _ fun v H1 w => q v σ H1 w
def sRetN : SX := fun cs => some (.rt .none false cs)
theorem ds_retN : DS X (.Return none pos) tRetN sRetN := by
  refine ⟨ps_retN, ?_⟩
  intro B IO Z σ H cs ok r e Dn q
  cases e
  exact q _ σ H (.dat (Post.refl ok) .non)
def sIf (t : TX) (g h : SX) : SX := fun cs => (t cs).bind fun r => if r.1 = true then g r.2 else h r.2
variable {c : Expr} {a b : List Stmt} {tc : TT} {fc : TX}
theorem ds_if (hc : DT X c tc fc) (ha : DB X a t g) (hb : DB X b u h) : DS X (.If c a b pos) (tIfS tc t u) (sIf fc g h) := by
  refine ⟨ps_if hc.pt ha.pss hb.pss, ?_⟩
  intro B IO Z σ H cs ok r e Dn q
  unfold sIf at e
  obtain ⟨⟨b1, c1⟩, e1, e⟩ := Option.bind_eq_some_iff.mp e
  refine hc.st ok e1 _ fun H1 p1 => ?_
  cases b1 with
  | true => exact iteT (ha.ss p1.ok e Dn (q.pre p1))
  | false => exact iteF (hb.ss p1.ok e Dn (q.pre p1))
/-! ### stores -/
def sAsg (i : Nat) (f : EX) : SX := fun cs => (f cs).bind fun r => if noIo r.2.2 i = true then some (.nx (r.2.2.set i (cellOf r.2.1 r.1))) else none
theorem ss_asg {i : Nat} (h : SE K te fe) : SS K (tAsg te (gName i)) (sAsg i fe) := by
  intro B IO Z σ H cs ok r e Dn q
  unfold sAsg at e
  obtain ⟨⟨d1, f1, c1⟩, e1, e⟩ := Option.bind_eq_some_iff.mp e
  simp only at e
  split at e
  · rename_i hn
    cases e
    exact h ok e1 _ fun v H1 w => q _ H1 (w.asg ok hn)
  · cases e
theorem ds_asg {i : Nat} {x : Str} {xpos : Pos} (hN : X.N.Nodup) (hi : X.N[i]? = some x) (hx : Loc X.env.scope x) (he : DE X e te fe) (hf : X.fn x = true ∨ X.env.scope.names.lookup x = some .local := by first | exact .inl rfl | exact .inr rfl | assumption)
    (hs : swapsWithSole [.Name x xpos] e pos.line X.env = pure false := by rfl) (hw : swappedStores [.Name x xpos] e X.env = pure none := by rfl)
    (h1 : (assignEach [.Name x xpos] X.env).map (·.2) = [assign (.Name x xpos) X.env] := by rfl) : DS X (.Assign [.Name x xpos] e pos) (tAsg te (gName i)) (sAsg i fe) :=
  ⟨ps_asg he.pe (pg_name hN hi hx hf) hs hw h1, ss_asg he.se⟩
/-- x op= e -/
def sAug (g : G2) (i : Nat) (f : EX) : SX := fun cs => match cs[i]? with
  | some (.dat d) => (f cs).bind fun r => (g d r.1).bind fun z => if noIo r.2.2 i = true then some (.nx (r.2.2.set i (cellOf z.2 z.1))) else none
  | _ => none
theorem ds_aug {i : Nat} {x : Str} {op : Operator} {ti : TIp} {gg : G2} {pos' : Pos} (hN : X.N.Nodup) (hi : X.N[i]? = some x) (hx : Loc X.env.scope x) (ho : PIp X op ti) (hr : SR2 X.K ti gg) (he : DE X e te fe)
    (hf : X.fn x = true ∨ X.env.scope.names.lookup x = some .local := by first | exact .inl rfl | exact .inr rfl | assumption) : DS X (.AugAssign (.Name x pos') op e pos) (tAug i te ti) (sAug gg i fe) := by
  refine ⟨ps_aug hN hi hx he.pe ho hf, ?_⟩
  intro B IO Z σ H cs ok r e Dn q
  unfold sAug at e
  split at e
  · rename_i d hd
    obtain ⟨⟨d1, f1, c1⟩, e1, e⟩ := Option.bind_eq_some_iff.mp e
    obtain ⟨⟨z, fz⟩, e2, e⟩ := Option.bind_eq_some_iff.mp e
    simp only at e
    split at e
    · rename_i hn
      cases e
      obtain ⟨v, hv, rv⟩ := ok.dat i d hd
      refine ⟨v, hv, he.se ok e1 _ fun y H1 w => ?_⟩
      refine hr w.post.ok.md (rv.mono w.post.le) w.rp e2 _ fun u H2 x2 w2 => ?_
      exact q _ H2 ((Pe.of w.post x2 w2).asg ok hn)
    · cases e
  · cases e
/-! ### an owned list is changed -/
def upL (cs : En) (i : Nat) (f : D → Option D) : Option En := match cs[i]? with
  | some (.own d) => (f d).bind fun d' => some (cs.set i (.own d'))
  | some (.io d) => (f d).bind fun d' => some (cs.set i (.io d'))
  | _ => none
theorem Ok.upL {B : Hp} {IO : List (Nat × Addr)} {Z : Addr → Prop} {σ : St} {H : Hp} {cs cs' : En} {i : Nat} {f : D → Option D} (ok : Ok K B IO Z σ H cs) (e : upL cs i f = some cs') :
    ∃ a d d', σ[i]? = some (some (.ref a)) ∧ f d = some d' ∧ OwnAt K (cut H (Md σ cs Z)) (H a) d ∧ ∀ H', (∀ b u, b ≠ a → H b = some u → H' b = some u) → OwnAt K (cut H' (Md σ cs Z)) (H' a) d' → Post K B IO Z σ H cs σ H' cs' := by
  unfold Qp.upL at e
  split at e
  · rename_i d hd
    obtain ⟨d', e1, e⟩ := Option.bind_eq_some_iff.mp e
    cases e
    obtain ⟨a, h1, h2⟩ := ok.own i d (.inl hd)
    refine ⟨a, d, d', h1, e1, h2, fun H' k ow => ?_⟩
    have p := ok.mutate h1 (.inl hd) k ow.some ow
    rw [hd] at p
    exact p
  · rename_i d hd
    obtain ⟨d', e1, e⟩ := Option.bind_eq_some_iff.mp e
    cases e
    obtain ⟨a, h1, h2⟩ := ok.own i d (.inr hd)
    refine ⟨a, d, d', h1, e1, h2, fun H' k ow => ?_⟩
    have p := ok.mutate h1 (.inr hd) k ow.some ow
    rw [hd] at p
    exact p
  · cases e
theorem upd_kept {H : Hp} {a : Addr} {o : HO} : ∀ b u, b ≠ a → H b = some u → upd H a o b = some u := fun b u ne e => by rw [upd_ne ne]; exact e
theorem cut_upd {H : Hp} {M : Addr → Prop} {a : Addr} {o : HO} (m : M a) : Le (cut H M) (cut (upd H a o) M) := le_cut fun b u e n => ⟨upd_kept b u (fun z => n (by rw [z]; exact m)) e, n⟩
theorem OwnAt.list {F : Hp} {o : Option HO} {ds : List D} (h : OwnAt K F o (.list ds)) : ∃ xs, o = Option.some (.lst xs) ∧ Paired (Rp K F) xs ds := by
  cases h with
  | lst p => exact ⟨_, rfl, p⟩
def fApp (d : D) : D → Option D
  | .list ds => if ds.length < LIM then some (.list (ds ++ [d])) else none
  | _ => none
def isOwnL (cs : En) (i : Nat) : Bool := match cs[i]? with
  | some (.own (.list _)) => true
  | some (.io (.list _)) => true
  | _ => false
theorem Ok.ownL {B : Hp} {IO : List (Nat × Addr)} {Z : Addr → Prop} {σ : St} {H : Hp} {cs : En} {i : Nat} (ok : Ok K B IO Z σ H cs) (h : isOwnL cs i = true) : ∃ a xs, σ[i]? = some (some (.ref a)) ∧ H a = some (.lst xs) ∧ Md σ cs Z a := by
  unfold isOwnL at h
  split at h
  · rename_i ds hd
    obtain ⟨a, h1, h2⟩ := ok.own i _ (.inl hd)
    obtain ⟨xs, h3, _⟩ := h2.list
    exact ⟨a, xs, h1, h3, .inr ⟨i, h1, _, .inl hd⟩⟩
  · rename_i ds hd
    obtain ⟨a, h1, h2⟩ := ok.own i _ (.inr hd)
    obtain ⟨xs, h3, _⟩ := h2.list
    exact ⟨a, xs, h1, h3, .inr ⟨i, h1, _, .inr hd⟩⟩
  · cases h
theorem ok_md {Z : Addr → Prop} {σ : St} {cs cs' : En} {i : Nat} {f : D → Option D} (e : upL cs i f = some cs') {a : Addr} (h : σ[i]? = some (some (.ref a))) : Md σ cs Z a := by
  unfold upL at e
  split at e
  · rename_i d hd
    exact .inr ⟨i, h, d, .inl hd⟩
  · rename_i d hd
    exact .inr ⟨i, h, d, .inr hd⟩
  · cases e
/-- the value of a method's call is dropped, or given on: None -/
def evApp (i : Nat) (f : EX) : EX := fun cs => if isOwnL cs i = true then (f cs).bind fun r => (upL r.2.2 i (fApp r.1)).bind fun c => some (.none, false, c) else none
theorem se_app {i : Nat} (he : SE K te fe) : SE K (tBM K "list" rAppend (tVar i) (tCons te tNil)) (evApp i fe) := by
  intro B IO Z σ H cs ok d fr cs' e Q q
  unfold evApp at e
  split at e
  · rename_i ho
    obtain ⟨⟨d1, f1, c1⟩, e1, e⟩ := Option.bind_eq_some_iff.mp e
    obtain ⟨c2, e2, e⟩ := Option.bind_eq_some_iff.mp e
    cases e
    obtain ⟨a, xs, hs, hx, _⟩ := ok.ownL ho
    refine ⟨_, hs, .inl ⟨rfl, xs, SqL.of hx⟩, he ok e1 _ fun y H1 w => ?_⟩
    obtain ⟨a', d, d', h1, h2, h3, k⟩ := w.post.ok.upL e2
    rw [hs] at h1
    cases h1
    have m := ok_md (Z := Z) e2 hs
    unfold fApp at h2
    split at h2
    · split at h2
      · rename_i hl
        cases h2
        obtain ⟨ys, h4, h5⟩ := h3.list
        refine ⟨a, ys, y, rfl, rfl, h4, by rw [Pd.len h5]; exact lim_lt hl, ?_⟩
        refine q _ _ (.dat (w.post.trans (k _ upd_kept ?_)) .non)
        rw [upd_same]
        exact .lst (Rp.monoA (cut_upd m) (Pd.append h5 (.cons w.rp .nil)))
      · cases h2
    · cases h2
  · cases e
theorem de_app {i : Nat} {x : Str} {xpos apos : Pos} (hv : DE X (.Name x xpos) (tVar i) (evVar i)) (he : DE X e te fe)
    (hbase : attributeBase (.Name x xpos) "append" X.env (eval (.Name x xpos) X.env) = eval (.Name x xpos) X.env := by rfl)
    (hfew : ((backTo pos (starEach [e] X.env)).all (fun x => !x.1) && (backToKw pos (keywordEach [] X.env)).all (fun x => x.1.isSome)
      && decide ([e].length + ([] : List Keyword).length + (if ([] : List Keyword).isEmpty then 0 else 1) < 30)) = true := by rfl)
    (hline : (apos.endLine == pos.line) = true := by rfl) (hs : starEach [e] X.env = (false, eval e X.env) :: starEach [] X.env := by rfl) (hplain : (backTo pos (starEach [] X.env)).any (·.1) = false := by rfl) :
    DE X (.Call (.Attribute (.Name x xpos) "append" apos) [e] [] pos) (tBM X.K "list" rAppend (tVar i) (tCons te tNil)) (evApp i fe) :=
  ⟨pe_bm PySem.F.plainAttrs_list PySem.F.slot_list_append PySem.F.type_list_append mt_append hv.pe (pa_cons he.pe pa_nil hs) hbase hfew hline hs hplain, se_app he.se⟩
/-- x[k] = e -/
def fSet (k d : D) : D → Option D
  | .list ds => match k with
    | .int k => (ixN ds.length k).bind fun j => some (.list (ds.set j d))
    | _ => none
  | _ => none
variable {ei : Expr} {ti : TE} {fi : EX}
def sSet (i : Nat) (fi fe : EX) : SX := fun cs => (fe cs).bind fun r => if isOwnL r.2.2 i = true then (fi r.2.2).bind fun s => (upL s.2.2 i (fSet s.1 r.1)).bind fun c => some (.nx c) else none
theorem ds_set {i : Nat} {x : Str} {xpos spos : Pos} (hv : DE X (.Name x xpos) (tVar i) (evVar i)) (hi : DE X ei ti fi) (he : DE X e te fe)
    (ha : ∀ v, assign (.Subscript (.Name x xpos) ei spos) X.env v = (do
      let ov ← holding [v] (eval (.Name x xpos) X.env)
      let iv ← holding [v, ov] (eval ei X.env)
      standAt spos
      holding [v, ov, iv] (setItem ov iv v)
      release [v, ov, iv] []) := by intro _; rfl)
    (hs : swapsWithSole [.Subscript (.Name x xpos) ei spos] e pos.line X.env = pure false := by rfl) (hw : swappedStores [.Subscript (.Name x xpos) ei spos] e X.env = pure none := by rfl)
    (h1 : (assignEach [.Subscript (.Name x xpos) ei spos] X.env).map (·.2) = [assign (.Subscript (.Name x xpos) ei spos) X.env] := by rfl) :
    DS X (.Assign [.Subscript (.Name x xpos) ei spos] e pos) (tAsg te (gSub (tVar i) ti rSetL)) (sSet i fi fe) := by
  refine ⟨ps_asg he.pe (pg_sub hv.pe hi.pe set_list ha) hs hw h1, ?_⟩
  intro B IO Z σ H cs ok r e Dn q
  unfold sSet at e
  obtain ⟨⟨d1, f1, c1⟩, e1, e⟩ := Option.bind_eq_some_iff.mp e
  simp only at e
  split at e
  · rename_i ho
    obtain ⟨⟨d2, f2, c2⟩, e2, e⟩ := Option.bind_eq_some_iff.mp e
    obtain ⟨c3, e3, e⟩ := Option.bind_eq_some_iff.mp e
    cases e
    refine he.se ok e1 _ fun y H1 w1 => ?_
    obtain ⟨a, xs, hs, hx, _⟩ := w1.post.ok.ownL ho
    refine ⟨_, hs, hi.se w1.post.ok e2 _ fun z H2 w2 => ?_⟩
    obtain ⟨a', d, d', h1, h2, h3, k⟩ := w2.post.ok.upL e3
    rw [hs] at h1
    cases h1
    have m := ok_md (Z := Z) e3 hs
    unfold fSet at h2
    dsimp only at h2
    split at h2
    · split at h2
      · obtain ⟨j, hj, h2⟩ := Option.bind_eq_some_iff.mp h2
        cases h2
        obtain ⟨ys, h4, h5⟩ := h3.list
        refine ⟨a, ys, _, j, rfl, w2.rp.int_eq, h4, by rw [Pd.len h5]; exact hj, ?_⟩
        refine q _ _ ((w1.post.trans w2.post).trans (k _ upd_kept ?_))
        rw [upd_same]
        exact .lst (Rp.monoA (cut_upd m) (Pd.set (w1.rp.mono w2.post.le) j h5))
      · cases h2
    · cases h2
  · cases e
/-- x[k] op= e -/
def rGetL (K : PySem.W.Frag) : V → V → Hp → VK → Prop := fun o i H Q => ∃ p xs k v, o = .ref p ∧ i = .int k ∧ SqL K H p xs ∧ 0 ≤ k ∧ xs[k.toNat]? = some v ∧ Q v H
theorem get_list : PGet X (rGetL X.K) := by
  intro pins s σ H o i ov iv Q I ro ri h
  obtain ⟨p, xs, k, v, rfl, rfl, hq, h0, he, q⟩ := h
  cases ro
  obtain ⟨t, rfl⟩ := ri
  obtain ⟨its, r, pl, hz⟩ := I.list hq
  obtain ⟨w, ew, rw'⟩ := r.get he
  have hl := r.length
  have hn := line63
  have hk : k.toNat < xs.length := (List.getElem?_eq_some_iff.mp he).1
  exact wpAny_getItem_list pl.isList h0 (by omega) (by simpa using ew) ⟨v, H, I, rw', q⟩
def getL : D → D → Option D
  | .list ds, .int k => if 0 ≤ k then ds[k.toNat]? else none
  | _, _ => none
def sAugIx (g : G2) (i : Nat) (fi fe : EX) : SX := fun cs => if isOwnL cs i = true then (fi cs).bind fun s => (cont s.2.2 i).bind fun d => (getL d s.1).bind fun o => (fe s.2.2).bind fun r => (g o r.1).bind fun z => if z.2 = false then (upL r.2.2 i (fSet s.1 z.1)).bind fun c => some (.nx c) else none else none
theorem ds_augIx {i : Nat} {x : Str} {xpos tpos : Pos} {op : Operator} {tip : TIp} {gg : G2} (hv : DE X (.Name x xpos) (tVar i) (evVar i)) (hi : DE X ei ti fi) (ho : PIp X op tip) (hr : SR2 X.K tip gg) (he : DE X e te fe)
    (ha : ∀ ov iv new, augStore ei ov iv new = (do holding [new, ov, iv] (setItem ov iv new); release [new, ov, iv] []; pure .next) := by intros; rfl) :
    DS X (.AugAssign (.Subscript (.Name x xpos) ei tpos) op e pos) (tAugS (tVar i) ti te (rGetL X.K) tip rSetL) (sAugIx gg i fi fe) := by
  refine ⟨ps_augS hv.pe hi.pe get_list he.pe ho set_list ha, ?_⟩
  intro B IO Z σ H cs ok r e Dn q
  unfold sAugIx at e
  split at e
  · rename_i ho
    obtain ⟨⟨d2, f2, c2⟩, e2, e⟩ := Option.bind_eq_some_iff.mp e
    obtain ⟨dc, ec, e⟩ := Option.bind_eq_some_iff.mp e
    obtain ⟨old, eo, e⟩ := Option.bind_eq_some_iff.mp e
    obtain ⟨⟨d1, f1, c1⟩, e1, e⟩ := Option.bind_eq_some_iff.mp e
    obtain ⟨⟨z, fz⟩, ez, e⟩ := Option.bind_eq_some_iff.mp e
    simp only at e
    split at e
    · rename_i hz
      subst hz
      obtain ⟨c3, e3, e⟩ := Option.bind_eq_some_iff.mp e
      cases e
      obtain ⟨a, xs, hs, hx, _⟩ := ok.ownL ho
      refine ⟨_, hs, hi.se ok e2 _ fun y H1 w1 => ?_⟩
      obtain ⟨v', hv', w⟩ := w1.post.ok.view ec
      rw [hs] at hv'
      cases hv'
      unfold getL at eo
      dsimp only at eo
      split at eo
      · rename_i ds kk
        split at eo
        · rename_i h0
          obtain ⟨a2, ws, e4, r4, p4⟩ := w.list
          cases e4
          obtain ⟨vo, g1, g2⟩ := Pd.get p4 eo
          refine ⟨a, ws, _, vo, rfl, w1.rp.int_eq, r4, h0, g1, ?_⟩
          refine he.se w1.post.ok e1 _ fun u H2 w2 => ?_
          refine hr w2.post.ok.md (g2.mono w2.post.le) w2.rp ez _ fun v3 H3 x3 w3 => ?_
          have pe := Pe.of w2.post x3 w3
          obtain ⟨a', d, d', h1, h2, h3, k⟩ := pe.post.ok.upL e3
          rw [hs] at h1
          cases h1
          have m := ok_md (Z := Z) e3 hs
          unfold fSet at h2
          split at h2
          · simp only at h2
            obtain ⟨j, hj, h2⟩ := Option.bind_eq_some_iff.mp h2
            cases h2
            obtain ⟨ys, h4, h5⟩ := h3.list
            refine ⟨a, ys, _, j, rfl, w1.rp.int_eq, h4, by rw [Pd.len h5]; exact hj, ?_⟩
            refine q _ _ ((w1.post.trans pe.post).trans (k _ upd_kept ?_))
            rw [upd_same]
            exact .lst (Rp.monoA (cut_upd m) (Pd.set pe.rp j h5))
          · cases h2
        · cases eo
      · cases eo
    · cases e
  · cases e
end
end Qp
end
section
set_option Elab.async false
set_option linter.all false
set_option maxRecDepth 100000
set_option maxHeartbeats 2000000
/-! Qh: targets, what is walked, for, while. -/
namespace Qp
open PySem PySem.Spec PyProof.Rows L2
/-! ### targets -/
def Agr (tg : List Nat) (σ σ' : St) : Prop := σ'.length = σ.length ∧ ∀ j : Nat, j ∉ tg → σ'[j]? = σ[j]?
abbrev GX := D → En → Option En
abbrev GsX := List D → En → Option En
def SG (K : PySem.W.Frag) (g : TG) (tg : List Nat) (f : GX) : Prop := ∀ {B : Hp} {IO : List (Nat × Addr)} {X : Addr → Prop} {σ : St} {H : Hp} {cs : En}, Ok K B IO X σ H cs → ∀ {v : V} {d : D}, Rp K (cut H (Md σ cs X)) v d → ∀ {cs' : En}, f d cs = some cs' →
  ∀ Q : St → Hp → Prop, (∀ σ' H', Post K B IO X σ H cs σ' H' cs' → Agr tg σ σ' → Q σ' H') → g v σ H Q
def SGs (K : PySem.W.Frag) (g : TGs) (tg : List Nat) (f : GsX) : Prop := ∀ {B : Hp} {IO : List (Nat × Addr)} {X : Addr → Prop} {σ : St} {H : Hp} {cs : En}, Ok K B IO X σ H cs → ∀ {vs : List V} {ds : List D}, Paired (Rp K (cut H (Md σ cs X))) vs ds → ∀ {cs' : En}, f ds cs = some cs' →
  ∀ Q : St → Hp → Prop, (∀ σ' H', Post K B IO X σ H cs σ' H' cs' → Agr tg σ σ' → Q σ' H') → g vs σ H Q
structure DG (X : Cx) (e : Expr) (g : TG) (tg : List Nat) (f : GX) : Prop where
  pg : PG X e g
  sg : SG X.K g tg f
structure DGs (X : Cx) (e : List Expr) (g : TGs) (tg : List Nat) (f : GsX) : Prop where
  pgs : PGs X e g
  sg : SGs X.K g tg f
def gx (i : Nat) : GX := fun d cs => if noIo cs i = true then some (cs.set i (.dat d)) else none
def gxNil : GsX
  | [], cs => some cs
  | _, _ => none
def gxCons (f : GX) (h : GsX) : GsX
  | d :: ds, cs => (f d cs).bind fun c => h ds c
  | [], _ => none
def gxTup (h : GsX) (n : Nat) : GX
  | .tuple ds, cs => if ds.length = n then h ds cs else none
  | _, _ => none
section
variable {X : Cx} {K : PySem.W.Frag} {e : Expr} {es : List Expr} {pos : Pos}
theorem dg_name {i : Nat} {x : Str} (hN : X.N.Nodup) (hi : X.N[i]? = some x) (hx : Loc X.env.scope x) (hf : X.fn x = true ∨ X.env.scope.names.lookup x = some .local := by first | exact .inl rfl | exact .inr rfl | assumption) : DG X (.Name x pos) (gName i) [i] (gx i) := by
  refine ⟨pg_name hN hi hx hf, ?_⟩
  intro B IO Z σ H cs ok v d r cs' e Q q
  unfold gx at e
  split at e
  · rename_i hn
    cases e
    refine q _ H ((Pe.dat (Post.refl ok) r).asg ok hn) ⟨List.length_set, fun j hj => ?_⟩
    exact List.getElem?_set_ne (fun z => hj (by rw [z]; exact List.mem_singleton.mpr rfl))
  · cases e
theorem dgs_nil : DGs X [] gNil [] gxNil := by
  refine ⟨pgs_nil, ?_⟩
  intro B IO Z σ H cs ok v d r cs' e Q q
  cases r with
  | nil => cases e; exact ⟨rfl, q σ H (Post.refl ok) ⟨rfl, fun _ _ => rfl⟩⟩
  | cons _ _ => cases e
variable {g : TG} {f : GX} {gs : TGs} {fs : GsX} {t1 t2 : List Nat}
theorem dgs_cons (h1 : DG X e g t1 f) (h2 : DGs X es gs t2 fs) (hs : (assignEach (e :: es) X.env).map (·.2) = assign e X.env :: (assignEach es X.env).map (·.2) := by rfl) : DGs X (e :: es) (gCons g gs) (t1 ++ t2) (gxCons f fs) := by
  refine ⟨pgs_cons h1.pg h2.pgs hs, ?_⟩
  intro B IO Z σ H cs ok v d r cs' e Q q
  cases r with
  | nil => cases e
  | cons r1 r2 =>
    unfold gxCons at e
    obtain ⟨c1, e1, e⟩ := Option.bind_eq_some_iff.mp e
    refine ⟨_, _, rfl, h1.sg ok r1 e1 _ fun σ1 H1 p1 k1 => h2.sg p1.ok (Rp.monoA p1.le r2) e _ fun σ2 H2 p2 k2 => q σ2 H2 (p1.trans p2) ⟨k2.1.trans k1.1, fun j hj => ?_⟩⟩
    rw [List.mem_append] at hj
    exact (k2.2 j fun z => hj (.inr z)).trans (k1.2 j fun z => hj (.inl z))
theorem dg_tup {k : Nat} {n : Nat} (hc : X.calm = true) (h : DGs X es gs t1 fs) (hn : (assignEach es X.env).length = n := by rfl) (hst : (assignEach es X.env).findIdx? (·.1) = none := by rfl) : DG X (.Tuple es k pos) (gTup X.K n gs) t1 (gxTup fs n) := by
  refine ⟨pg_tup hc h.pgs hn hst, ?_⟩
  intro B IO Z σ H cs ok v d r cs' e Q q
  unfold gxTup at e
  split at e
  · split at e
    · rename_i hl
      obtain ⟨a, xs, rfl, h1, p1⟩ := r.tuple
      exact ⟨a, xs, rfl, cut_le.sqT h1, (Pd.len p1).trans hl, h.sg ok p1 e Q q⟩
    · cases e
  · cases e

/-! ### what is walked -/
abbrev IX := En → Option (List D × En)
def JOk (K : PySem.W.Frag) (J : It) (F : Hp) (items : List D) : Prop := ∀ (H : Hp) (M : Addr → Prop), (∀ a, M a → H a ≠ none) → Le F (cut H M) → ∀ i : Nat, (items.length ≤ i → J.stop i H) ∧ ∀ d, items[i]? = some d → J.go i H ∧ ∀ x H', J.yld i H x H' → Ex H H' ∧ Rp K (cut H' M) x d
def SI (K : PySem.W.Frag) (wi : TI) (f : IX) : Prop := ∀ {B : Hp} {IO : List (Nat × Addr)} {X : Addr → Prop} {σ : St} {H : Hp} {cs : En}, Ok K B IO X σ H cs → ∀ {items : List D} {cs' : En}, f cs = some (items, cs') →
  ∀ R : It → Hp → Prop, (∀ J H', Post K B IO X σ H cs σ H' cs' → JOk K J (cut H' (Md σ cs' X)) items → R J H') → wi σ H R
structure DI (X : Cx) (tg e : Expr) (wi : TI) (f : IX) : Prop where
  pi : PI X tg e wi
  si : SI X.K wi f
variable {tg : Expr} {te : TE} {fe : EX} {wi : TI} {fi : IX}
/-- a list or a tuple -/
def iSeq (K : PySem.W.Frag) (tl : TE) : TI := fun σ H R => tl σ H fun x H1 => ∃ a, x = .ref a ∧ ((∃ xs, SqL K H1 a xs ∧ R (Itl K a) H1) ∨ ∃ xs, SqT K H1 a xs ∧ R (Itt K a) H1)
theorem pi_seq {l : Expr} {tl : TE} (hl : PE X l tl) : PI X tg l (iSeq X.K tl) := by
  refine ⟨fun pins s σ H R I h => ?_⟩
  refine thn (hl.run pins s σ H _ I h) fun v s1 ⟨x, H1, I1, r1, q1⟩ => ?_
  obtain ⟨a, e, q1⟩ := q1
  subst e
  cases r1
  rcases q1 with ⟨xs, hq, q⟩ | ⟨xs, hq, q⟩
  · obtain ⟨its, rv, p, hz⟩ := I1.list hq
    refine wpAny_pyIter_list p.isList ?_
    refine ⟨s1.heap.objs.size, [s1.heap.objs.size], _, _, H1, rfl, I1.kept (t' := s1.toks) fun b o e => Heap.get?_push_of_some _ e, turn_list a _, ⟨_, Heap.get?_push_size _ rfl, rfl, rfl⟩, fun b hb => ?_, q⟩
    have e : b = s1.heap.objs.size := by simpa using hb
    subst e
    exact I1.fpOk (Nat.le_refl _) (I1.hok.fresh (Nat.le_refl _))
  · obtain ⟨its, rv, p, hz⟩ := I1.tuple hq
    refine wpAny_pyIter_tuple (show s1.heap.IsTuple a its.toArray from p) ?_
    refine ⟨s1.heap.objs.size, [s1.heap.objs.size], _, _, H1, rfl, I1.kept (t' := s1.toks) fun b o e => Heap.get?_push_of_some _ e, turn_tuple a _, ⟨_, Heap.get?_push_size _ rfl, rfl, rfl⟩, fun b hb => ?_, q⟩
    have e : b = s1.heap.objs.size := by simpa using hb
    subst e
    exact I1.fpOk (Nat.le_refl _) (I1.hok.fresh (Nat.le_refl _))
def ixSeq (f : EX) : IX := fun cs => (f cs).bind fun r => match r.1 with
  | .list ds => some (ds, r.2.2)
  | .tuple ds => some (ds, r.2.2)
  | _ => none
theorem jok_list {F : Hp} {a : Addr} {xs : List V} {ds : List D} (h : SqL K F a xs) (p : Paired (Rp K F) xs ds) : JOk K (Itl K a) F ds := by
  intro H M hm hle i
  have hq : SqL K H a xs := cut_le.sqL (hle.sqL h)
  refine ⟨fun hi => ⟨xs, hq, by rw [Pd.len p]; exact hi⟩, fun d hd => ?_⟩
  obtain ⟨v, h1, h2⟩ := Pd.get p hd
  refine ⟨⟨xs, v, hq, h1⟩, fun x H' ⟨e, y⟩ => ?_⟩
  subst e
  have := y xs hq
  rw [h1] at this
  cases this
  exact ⟨Ex.refl _, h2.mono hle⟩
theorem jok_tup {F : Hp} {a : Addr} {xs : List V} {ds : List D} (h : SqT K F a xs) (p : Paired (Rp K F) xs ds) : JOk K (Itt K a) F ds := by
  intro H M hm hle i
  have hq : SqT K H a xs := cut_le.sqT (hle.sqT h)
  refine ⟨fun hi => ⟨xs, hq, by rw [Pd.len p]; exact hi⟩, fun d hd => ?_⟩
  obtain ⟨v, h1, h2⟩ := Pd.get p hd
  refine ⟨⟨xs, v, hq, h1⟩, fun x H' ⟨e, y⟩ => ?_⟩
  subst e
  have := y xs hq
  rw [h1] at this
  cases this
  exact ⟨Ex.refl _, h2.mono hle⟩
theorem di_seq (h : DE X e te fe) : DI X tg e (iSeq X.K te) (ixSeq fe) := by
  refine ⟨pi_seq h.pe, ?_⟩
  intro B IO Z σ H cs ok items cs' e R q
  unfold ixSeq at e
  obtain ⟨⟨d1, f1, c1⟩, e1, e⟩ := Option.bind_eq_some_iff.mp e
  dsimp only at e
  split at e
  · cases e
    refine h.se ok e1 _ fun v H1 w => ?_
    obtain ⟨a, xs, rfl, r1, p1⟩ := w.rp.list
    exact ⟨a, rfl, .inl ⟨xs, cut_le.sqL r1, q _ H1 w.post (jok_list r1 p1)⟩⟩
  · cases e
    refine h.se ok e1 _ fun v H1 w => ?_
    obtain ⟨a, xs, rfl, r1, p1⟩ := w.rp.tuple
    exact ⟨a, rfl, .inr ⟨xs, cut_le.sqT r1, q _ H1 w.post (jok_tup r1 p1)⟩⟩
  · cases e
def rngD (lo : Int) (n : Nat) : List D := (List.range n).map fun i : Nat => PyData.int (lo + (i : Int))
theorem rngD_len (lo : Int) (n : Nat) : (rngD lo n).length = n := by simp [rngD]
theorem rngD_get {lo : Int} {n i : Nat} {d : D} (h : (rngD lo n)[i]? = some d) : i < n ∧ d = .int (lo + (i : Int)) := by
  unfold rngD at h
  rw [List.getElem?_map] at h
  by_cases hi : i < n
  · rw [List.getElem?_range hi] at h
    exact ⟨hi, (Option.some.inj h).symm⟩
  · rw [List.getElem?_eq_none (by simpa using hi)] at h
    cases h
theorem jok_rng {F : Hp} {lo : Int} {n : Nat} : JOk K (Itr lo n) F (rngD lo n) := by
  intro H M hm hle i
  refine ⟨fun hi => by rw [rngD_len] at hi; exact hi, fun d hd => ?_⟩
  obtain ⟨h1, rfl⟩ := rngD_get hd
  refine ⟨h1, fun x H' ⟨e1, e2⟩ => ?_⟩
  subst e1 e2
  exact ⟨Ex.refl _, .int _⟩
def small (j : Int) : Bool := decide (-1000000000 ≤ j) && decide (j ≤ 1000000000)
theorem small_ok {j : Int} (h : small j = true) : -(2 ^ 62) ≤ j ∧ j < 2 ^ 62 := by
  unfold small at h
  rw [Bool.and_eq_true, decide_eq_true_eq, decide_eq_true_eq] at h
  omega
def ixR1 (f : AX) : IX := fun cs => (f cs).bind fun r => match r.1 with
  | [.int j] => if small j = true then some (rngD 0 j.toNat, r.2) else none
  | _ => none
def ixR2 (f : AX) : IX := fun cs => (f cs).bind fun r => match r.1 with
  | [.int i, .int j] => if (small i && small j) = true then some (rngD i (j - i).toNat, r.2) else none
  | _ => none
variable {a b : Expr} {ta : TA} {fa : AX} {p : Pos}
theorem di_r1 (hg : Gl X "range") (hm : X.mg "range" = none) (ha : DA X [a] ta fa) (hs : starEach [a] X.env = [(false, eval a X.env)] := by rfl) : DI X tg (.Call (.Name "range" p) [a] [] pos) (iRng1 ta) (ixR1 fa) := by
  refine ⟨pi_range1 hg hm ha.pa hs, ?_⟩
  intro B IO Z σ H cs ok items cs' e R q
  unfold ixR1 at e
  obtain ⟨⟨d1, c1⟩, e1, e⟩ := Option.bind_eq_some_iff.mp e
  dsimp only at e
  split at e
  · split at e
    · rename_i hs
      cases e
      refine ha.sa ok e1 _ fun vs H1 p1 r1 => ?_
      cases r1 with
      | cons r1 r2 =>
        cases r2
        exact ⟨_, by rw [r1.int_eq], (small_ok hs).1, (small_ok hs).2, q _ H1 p1 jok_rng⟩
    · cases e
  · cases e
theorem di_r2 (hg : Gl X "range") (hm : X.mg "range" = none) (ha : DA X [a, b] ta fa) (hs : starEach [a, b] X.env = [(false, eval a X.env), (false, eval b X.env)] := by rfl) (hs2 : starEach [b] X.env = [(false, eval b X.env)] := by rfl) :
    DI X tg (.Call (.Name "range" p) [a, b] [] pos) (iRng2 ta) (ixR2 fa) := by
  refine ⟨pi_range2 hg hm ha.pa hs hs2, ?_⟩
  intro B IO Z σ H cs ok items cs' e R q
  unfold ixR2 at e
  obtain ⟨⟨d1, c1⟩, e1, e⟩ := Option.bind_eq_some_iff.mp e
  dsimp only at e
  split at e
  · split at e
    · rename_i hs
      cases e
      rw [Bool.and_eq_true] at hs
      refine ha.sa ok e1 _ fun vs H1 p1 r1 => ?_
      cases r1 with
      | cons r1 r2 =>
        cases r2 with
        | cons r2 r3 =>
          cases r3
          exact ⟨_, _, by rw [r1.int_eq, r2.int_eq], ⟨(small_ok hs.1).1, (small_ok hs.1).2, (small_ok hs.2).1, (small_ok hs.2).2⟩, q _ H1 p1 jok_rng⟩
    · cases e
  · cases e
/-- zip of two lists -/
def zipD : List D → List D → List D
  | x :: xs, y :: ys => .tuple [x, y] :: zipD xs ys
  | _, _ => []
theorem zipD_len : ∀ xs ys : List D, (zipD xs ys).length = min xs.length ys.length
  | [], _ => by simp [zipD]
  | _ :: _, [] => by simp [zipD]
  | x :: xs, y :: ys => by simp [zipD, zipD_len xs ys]
theorem zipD_get : ∀ {xs ys : List D} {i : Nat} {d : D}, (zipD xs ys)[i]? = some d → ∃ x y, xs[i]? = some x ∧ ys[i]? = some y ∧ d = .tuple [x, y]
  | [], _, i, d, h => by simp [zipD] at h
  | _ :: _, [], i, d, h => by simp [zipD] at h
  | x :: xs, y :: ys, 0, d, h => by simp [zipD] at h; exact ⟨x, y, rfl, rfl, h.symm⟩
  | x :: xs, y :: ys, i + 1, d, h => by
    have h' : (zipD xs ys)[i]? = some d := by simpa [zipD] using h
    exact zipD_get (xs := xs) (ys := ys) (i := i) h'
theorem jok_zip {F : Hp} {a b : Addr} {xs ys : List V} {ds es : List D} (h : SqL K F a xs) (p : Paired (Rp K F) xs ds) (h' : SqL K F b ys) (p' : Paired (Rp K F) ys es) : JOk K (Itz K a b) F (zipD ds es) := by
  intro H M hm hle i
  have hq : SqL K H a xs := cut_le.sqL (hle.sqL h)
  have hq' : SqL K H b ys := cut_le.sqL (hle.sqL h')
  refine ⟨fun hi => ⟨xs, ys, hq, hq', ?_⟩, fun d hd => ?_⟩
  · rw [zipD_len] at hi
    rw [Pd.len p, Pd.len p']
    omega
  obtain ⟨x, y, g1, g2, rfl⟩ := zipD_get hd
  obtain ⟨v, h1, h2⟩ := Pd.get p g1
  obtain ⟨w, h3, h4⟩ := Pd.get p' g2
  refine ⟨⟨xs, ys, v, w, hq, hq', h1, h3⟩, fun u H' ⟨T, x', y', e1, hT, e2, y1, y2⟩ => ?_⟩
  subst e1 e2
  have z1 := y1 xs hq
  rw [h1] at z1
  cases z1
  have z2 := y2 ys hq'
  rw [h3] at z2
  cases z2
  exact ⟨Ex.new hT, sqt_new hT hm (.cons (h2.mono hle) (.cons (h4.mono hle) .nil))⟩
def ixZip (f : AX) : IX := fun cs => (f cs).bind fun r => match r.1 with
  | [.list xs, .list ys] => some (zipD xs ys, r.2)
  | _ => none
theorem di_zip {tpos : Pos} {elts : List Expr} {kk : Nat} (hg : Gl X "zip") (hm : X.mg "zip" = none) (ha : DA X [a, b] ta fa)
    (hs : starEach [a, b] X.env = (false, eval a X.env) :: starEach [b] X.env := by rfl) (hpl : (backTo pos (starEach [b] X.env)).any (·.1) = false := by rfl) :
    DI X (.Tuple elts kk tpos) (.Call (.Name "zip" p) [a, b] [] pos) (iZip X.K ta) (ixZip fa) := by
  refine ⟨pi_zip hg hm ha.pa hs hpl, ?_⟩
  intro B IO Z σ H cs ok items cs' e R q
  unfold ixZip at e
  obtain ⟨⟨d1, c1⟩, e1, e⟩ := Option.bind_eq_some_iff.mp e
  dsimp only at e
  split at e
  · cases e
    refine ha.sa ok e1 _ fun vs H1 p1 r1 => ?_
    cases r1 with
    | cons r1 r2 =>
      cases r2 with
      | cons r2 r3 =>
        cases r3
        obtain ⟨a', xs, rfl, h1, q1⟩ := r1.list
        obtain ⟨b', ys, rfl, h2, q2⟩ := r2.list
        exact ⟨a', b', xs, ys, rfl, cut_le.sqL h1, cut_le.sqL h2, q _ H1 p1 (jok_zip h1 q1 h2 q2)⟩
  · cases e
/-- enumerate of a list -/
def enumD : Nat → List D → List D
  | _, [] => []
  | n, x :: xs => .tuple [.int (n : Int), x] :: enumD (n + 1) xs
theorem enumD_len : ∀ (n : Nat) (xs : List D), (enumD n xs).length = xs.length
  | _, [] => rfl
  | n, x :: xs => by simp [enumD, enumD_len (n + 1) xs]
theorem enumD_get : ∀ {n : Nat} {xs : List D} {i : Nat} {d : D}, (enumD n xs)[i]? = some d → ∃ x, xs[i]? = some x ∧ d = .tuple [.int ((n + i : Nat) : Int), x]
  | _, [], i, d, h => by simp [enumD] at h
  | n, x :: xs, 0, d, h => by simp [enumD] at h; exact ⟨x, rfl, h.symm⟩
  | n, x :: xs, i + 1, d, h => by
    have h' : (enumD (n + 1) xs)[i]? = some d := by simpa [enumD] using h
    obtain ⟨y, h1, h2⟩ := enumD_get (n := n + 1) (xs := xs) (i := i) h'
    exact ⟨y, by simpa using h1, by rw [h2, show n + 1 + i = n + (i + 1) by omega]⟩
def ixEnum (f : AX) : IX := fun cs => (f cs).bind fun r => match r.1 with
  | [.list xs] => some (enumD 0 xs, r.2)
  | _ => none
theorem di_enum {tpos : Pos} {elts : List Expr} {kk : Nat} (hg : Gl X "enumerate") (hm : X.mg "enumerate" = none) (ha : DA X [a] ta fa) (hs : starEach [a] X.env = [(false, eval a X.env)] := by rfl) :
    DI X (.Tuple elts kk tpos) (.Call (.Name "enumerate" p) [a] [] pos) (iEnum X.K ta) (ixEnum fa) := by
  refine ⟨pi_enum hg hm ha.pa hs, ?_⟩
  intro B IO Z σ H cs ok items cs' e R q
  unfold ixEnum at e
  obtain ⟨⟨d1, c1⟩, e1, e⟩ := Option.bind_eq_some_iff.mp e
  dsimp only at e
  split at e
  · cases e
    refine ha.sa ok e1 _ fun vs H1 p1 r1 => ?_
    cases r1 with
    | cons r1 r2 =>
      cases r2
      obtain ⟨a', xs, rfl, h1, q1⟩ := r1.list
      refine ⟨a', xs, rfl, cut_le.sqL h1, q _ H1 p1 ?_⟩
      intro H M hm hle i
      have hq : SqL X.K H a' xs := cut_le.sqL (hle.sqL h1)
      refine ⟨fun hi => ⟨xs, hq, by rw [enumD_len] at hi; rw [Pd.len q1]; exact hi⟩, fun d hd => ?_⟩
      obtain ⟨x, g1, rfl⟩ := enumD_get hd
      obtain ⟨v, h1', h2⟩ := Pd.get q1 g1
      refine ⟨⟨xs, v, hq, h1'⟩, fun u H' ⟨T, x', e1, hT, e2, y1⟩ => ?_⟩
      subst e1 e2
      have z1 := y1 xs hq
      rw [h1'] at z1
      cases z1
      refine ⟨Ex.new hT, sqt_new hT hm (.cons ?_ (.cons (h2.mono hle) .nil))⟩
      rw [Nat.zero_add]
      exact .int _
  · cases e

/-! ### for -/
def loopF (ft : GX) (body : SX) : List D → En → Option Res
  | [], cs => some (.nx cs)
  | x :: r, cs => (ft x cs).bind fun c => (body c).bind fun z => match z with
    | .nx c => loopF ft body r c
    | .ct c => loopF ft body r c
    | .bk c => some (.nx c)
    | .rt d fr c => some (.rt d fr c)
def sFor (fi : IX) (ft : GX) (body : SX) : SX := fun cs => (fi cs).bind fun r => loopF ft body r.1 r.2
variable {gb : SX} {tb : TS} {body : List Stmt}
theorem ss_for {tgs : List Nat} (hi : SI K wi fi) (hg : SG K g tgs f) (hb : SS K tb gb) : SS K (tFor wi g tb) (sFor fi f gb) := by
  intro B IO Z σ H cs ok r e Dn q
  unfold sFor at e
  obtain ⟨⟨items, c1⟩, e1, e⟩ := Option.bind_eq_some_iff.mp e
  dsimp only at e
  refine hi ok e1 _ fun J H1 p1 jok => ?_
  refine ⟨fun i m σ' H' => m = items.length - i ∧ i ≤ items.length ∧ ∃ c, Post K B IO Z σ H cs σ' H' c ∧ Le (cut H1 (Md σ c1 Z)) (cut H' (Md σ' c Z)) ∧ loopF f gb (items.drop i) c = some r, ⟨_, rfl, Nat.zero_le _, c1, p1, Le.refl _, by rw [List.drop_zero]; exact e⟩, ?_⟩
  rintro i m σ' H' ⟨rfl, hil, c, p, le, el⟩
  obtain ⟨js, jg⟩ := jok H' _ p.ok.md le i
  by_cases hlt : i < items.length
  · have hd : items[i]? = some items[i] := List.getElem?_eq_getElem hlt
    obtain ⟨go, yl⟩ := jg _ hd
    rw [List.drop_eq_getElem_cons hlt] at el
    unfold loopF at el
    obtain ⟨c2, e2, el⟩ := Option.bind_eq_some_iff.mp el
    obtain ⟨rb, e3, el⟩ := Option.bind_eq_some_iff.mp el
    refine .inr ⟨go, fun σ3 H3 => ∃ c3, Post K B IO Z σ H cs σ3 H3 c3 ∧ Le (cut H1 (Md σ c1 Z)) (cut H3 (Md σ3 c3 Z)) ∧ loopF f gb (items.drop (i + 1)) c3 = some r, fun σ3 H3 ⟨c3, h1, h2, h3⟩ => ⟨items.length - (i + 1), by omega, rfl, hlt, c3, h1, h2, h3⟩, fun x H2 hy => ?_⟩
    obtain ⟨ex, rx⟩ := yl x H2 hy
    have p2 := p.ok.ext ex
    refine hg p2.ok rx e2 _ fun σ3 H3 p3 _ => ?_
    have p123 := (p.trans p2).trans p3
    have le3 := (le.trans p2.le).trans p3.le
    refine hb p3.ok e3 _ ?_
    cases rb with
    | nx c4 => exact fun σ4 H4 p4 => ⟨c4, p123.trans p4, le3.trans p4.le, el⟩
    | ct c4 => exact fun σ4 H4 p4 => ⟨c4, p123.trans p4, le3.trans p4.le, el⟩
    | bk c4 =>
      cases el
      exact fun σ4 H4 p4 => q σ4 H4 (p123.trans p4)
    | rt d fr c4 =>
      cases el
      exact fun v σ4 H4 p4 => q v σ4 H4 (p4.pre p123)
  · have hi' : i = items.length := by omega
    subst hi'
    rw [List.drop_length] at el
    cases el
    exact .inl ⟨js (Nat.le_refl _), q σ' H' p⟩
theorem ds_for {tgs : List Nat} (hp : PassesOwn (model X.prog X.w) X.A X.env X.xe) (hc : X.calm = true) (hi : DI X tg e wi fi) (hg : DG X tg g tgs f) (hb : DB X body tb gb) (hs : ∀ x, foldedSetIterable e X.env x = pure x := by intro _; rfl) :
    DS X (.For tg e body [] pos) (tFor wi g tb) (sFor fi f gb) := ⟨ps_for hp hc hi.pi hg.pg hb.pss hs, ss_for hi.si hg.sg hb.ss⟩
/-! ### while -/
def loopW (tc : TX) (body : SX) : Nat → En → Option Res
  | 0, _ => none
  | n + 1, cs => (tc cs).bind fun b => if b.1 = true then (body b.2).bind fun z => match z with
    | .nx c => loopW tc body n c
    | .ct c => loopW tc body n c
    | .bk c => some (.nx c)
    | .rt d fr c => some (.rt d fr c) else some (.nx b.2)
variable {c : Expr} {tc : TT} {fc : TX}
theorem ss_while (n : Nat) (hc : STt K tc fc) (hb : SS K tb gb) : SS K (tWhile tc tb) (loopW fc gb n) := by
  intro B IO Z σ H cs ok r e Dn q
  refine ⟨fun m σ' H' => ∃ c, Post K B IO Z σ H cs σ' H' c ∧ loopW fc gb m c = some r, ⟨n, cs, Post.refl ok, e⟩, ?_⟩
  rintro m σ' H' ⟨c, p, el⟩
  cases m with
  | zero => cases el
  | succ m =>
    unfold loopW at el
    obtain ⟨⟨b, c1⟩, e1, el⟩ := Option.bind_eq_some_iff.mp el
    dsimp only at el
    refine hc p.ok e1 _ fun H1 p1 => ?_
    cases b with
    | false =>
      cases el
      exact iteF (q σ' H1 (p.trans p1))
    | true =>
      refine iteT ?_
      obtain ⟨rb, e3, el⟩ := Option.bind_eq_some_iff.mp (show ((gb c1).bind _) = some r from el)
      refine ⟨fun σ3 H3 => ∃ c3, Post K B IO Z σ H cs σ3 H3 c3 ∧ loopW fc gb m c3 = some r, fun σ3 H3 h => ⟨m, Nat.lt_succ_self m, h⟩, ?_⟩
      refine hb p1.ok e3 _ ?_
      cases rb with
      | nx c4 => exact fun σ4 H4 p4 => ⟨c4, (p.trans p1).trans p4, el⟩
      | ct c4 => exact fun σ4 H4 p4 => ⟨c4, (p.trans p1).trans p4, el⟩
      | bk c4 =>
        cases el
        exact fun σ4 H4 p4 => q σ4 H4 ((p.trans p1).trans p4)
      | rt d fr c4 =>
        cases el
        exact fun v σ4 H4 p4 => q v σ4 H4 (p4.pre (p.trans p1))
theorem ds_while (n : Nat) (hp : PassesOwn (model X.prog X.w) X.A X.env X.xe) (hc : DT X c tc fc) (hb : DB X body tb gb) : DS X (.While c body [] pos) (tWhile tc tb) (loopW fc gb n) := ⟨ps_while hp hc.pt hb.pss, ss_while n hc.st hb.ss⟩
end
end Qp
end
section
set_option Elab.async false
set_option linter.all false
set_option maxRecDepth 100000
set_option maxHeartbeats 2000000
/-! Qi: list comprehensions. -/
namespace Qp
open PySem PySem.Spec PyProof.Rows L2
def clr (cs : En) : List Nat → En
  | [] => cs
  | v :: vs => (clr cs vs).set v .no
theorem clr_len (cs : En) : ∀ vs : List Nat, (clr cs vs).length = cs.length
  | [] => rfl
  | v :: vs => by unfold clr; rw [List.length_set, clr_len cs vs]
theorem clr_get {cs : En} {i : Nat} {c : Cell} : ∀ {vs : List Nat}, (clr cs vs)[i]? = some c → (i ∉ vs ∧ cs[i]? = some c) ∨ (i ∈ vs ∧ c = .no)
  | [], h => .inl ⟨List.not_mem_nil, h⟩
  | v :: vs, h => by
    unfold clr at h
    rcases getset h with ⟨e, e'⟩ | ⟨e, h'⟩
    · exact .inr ⟨by rw [e]; exact List.mem_cons_self, e'.symm⟩
    · rcases clr_get h' with ⟨n, q⟩ | ⟨n, q⟩
      · refine .inl ⟨fun z => ?_, q⟩
        rcases List.mem_cons.mp z with z | z
        · exact e z.symm
        · exact n z
      · exact .inr ⟨List.mem_cons_of_mem _ n, q⟩
theorem clr_out {cs : En} {i : Nat} : ∀ {vs : List Nat}, i ∉ vs → (clr cs vs)[i]? = cs[i]?
  | [], _ => rfl
  | v :: vs, h => by
    unfold clr
    rw [List.getElem?_set_ne (fun e => h (by rw [e]; exact List.mem_cons_self))]
    exact clr_out fun m => h (List.mem_cons_of_mem _ m)
def rst (c2 c1 : En) : List Nat → En
  | [] => c2
  | v :: vs => (rst c2 c1 vs).set v (c1.getD v .no)
theorem rst_len (c2 c1 : En) : ∀ vs : List Nat, (rst c2 c1 vs).length = c2.length
  | [] => rfl
  | v :: vs => by unfold rst; rw [List.length_set, rst_len c2 c1 vs]
theorem rst_get {c2 c1 : En} {i : Nat} {c : Cell} : ∀ {vs : List Nat}, (rst c2 c1 vs)[i]? = some c → (i ∉ vs ∧ c2[i]? = some c) ∨ (i ∈ vs ∧ c = c1.getD i .no)
  | [], h => .inl ⟨List.not_mem_nil, h⟩
  | v :: vs, h => by
    unfold rst at h
    rcases getset h with ⟨e, e'⟩ | ⟨e, h'⟩
    · subst e
      exact .inr ⟨List.mem_cons_self, e'.symm⟩
    · rcases rst_get h' with ⟨n, q⟩ | ⟨n, q⟩
      · refine .inl ⟨fun z => ?_, q⟩
        rcases List.mem_cons.mp z with z | z
        · exact e z.symm
        · exact n z
      · exact .inr ⟨List.mem_cons_of_mem _ n, q⟩
theorem rst_out {c2 c1 : En} {i : Nat} : ∀ {vs : List Nat}, i ∉ vs → (rst c2 c1 vs)[i]? = c2[i]?
  | [], _ => rfl
  | v :: vs, h => by
    unfold rst
    rw [List.getElem?_set_ne (fun e => h (by rw [e]; exact List.mem_cons_self))]
    exact rst_out fun m => h (List.mem_cons_of_mem _ m)
def noOwn (cs : En) (vs : List Nat) : Bool := vs.all fun v => match cs[v]? with
  | some (.dat _) => true
  | some .no => true
  | _ => false
theorem noOwn_of {cs : En} {vs : List Nat} (h : noOwn cs vs = true) {v : Nat} (hv : v ∈ vs) : (∀ d, cs[v]? ≠ some (.own d)) ∧ ∀ d, cs[v]? ≠ some (.io d) := by
  have q := List.all_eq_true.mp h v hv
  constructor
  · intro d e
    rw [e] at q
    cases q
  · intro d e
    rw [e] at q
    cases q
theorem wipe_get (τ : St) (j : Nat) : ∀ vs : List Nat, j ∈ vs → (wipe τ vs)[j]? = if j < τ.length then some none else none
  | [], h => absurd h List.not_mem_nil
  | v :: vs, h => by
    unfold wipe
    by_cases e : v = j
    · subst e
      rw [List.getElem?_set]
      simp only [if_true, wipe_length]
    · rw [List.getElem?_set_ne e]
      rcases List.mem_cons.mp h with z | z
      · exact absurd z.symm e
      · exact wipe_get τ j vs z
theorem wipe_agr {τ σ : St} {tg vs : List Nat} (a : Agr tg (wipe σ vs) τ) (h : ∀ j ∈ tg, j ∈ vs) : wipe τ vs = wipe σ vs := by
  refine List.ext_getElem? fun j => ?_
  by_cases hj : j ∈ vs
  · rw [wipe_get τ j vs hj, wipe_get σ j vs hj, a.1, wipe_length]
  · rw [wipe_out hj, wipe_out hj, a.2 j fun z => hj (h j z), wipe_out hj]
section
variable {K : PySem.W.Frag} {B : Hp} {IO : List (Nat × Addr)} {Z Y : Addr → Prop} {σ : St} {H H' : Hp} {cs c1 c2 : En} {vs : List Nat}
theorem owns_wipe (hn : noOwn cs vs = true) (i : Nat) (a : Addr) : OwnS (wipe σ vs) (clr cs vs) i a ↔ OwnS σ cs i a := by
  constructor
  · rintro ⟨q1, d, q2⟩
    obtain ⟨q3, hi⟩ := wipe_some q1
    rw [clr_out hi] at q2
    exact ⟨q3, d, q2⟩
  · rintro ⟨q1, d, q2⟩
    have hi : i ∉ vs := fun hv => by
      rcases q2 with q2 | q2
      · exact (noOwn_of hn hv).1 d q2
      · exact (noOwn_of hn hv).2 d q2
    exact ⟨by rw [wipe_out hi]; exact q1, d, by rw [clr_out hi]; exact q2⟩
theorem md_wipe (hn : noOwn cs vs = true) : Md (wipe σ vs) (clr cs vs) Z = Md σ cs Z := by
  funext b
  unfold Md
  exact propext ⟨fun h => h.imp id fun ⟨j, q⟩ => ⟨j, (owns_wipe hn j b).mp q⟩, fun h => h.imp id fun ⟨j, q⟩ => ⟨j, (owns_wipe hn j b).mpr q⟩⟩
theorem Ok.wipe (ok : Ok K B IO Z σ H cs) (hn : noOwn cs vs = true) : Ok K B IO Z (L2.wipe σ vs) H (clr cs vs) := by
  have ow := @owns_wipe σ cs vs hn
  refine ⟨by rw [wipe_length, clr_len]; exact ok.len, fun i d e => ?_, fun i d e => ?_, fun i j a q r => ok.inj i j a ((ow i a).mp q) ((ow j a).mp r), fun i a q => ok.dis i a ((ow i a).mp q), ok.xin, fun i a d q r => ?_, fun i d e => ?_, fun i a q => ?_, ok.base, ok.dom⟩
  · rw [md_wipe hn]
    rcases clr_get e with ⟨n, q⟩ | ⟨_, q⟩
    · obtain ⟨v, h1, h2⟩ := ok.dat i d q
      exact ⟨v, by rw [wipe_out n]; exact h1, h2⟩
    · cases q
  · rw [md_wipe hn]
    have : i ∉ vs ∧ (cs[i]? = some (.own d) ∨ cs[i]? = some (.io d)) := by
      rcases e with e | e
      · rcases clr_get e with ⟨n, q⟩ | ⟨_, q⟩
        · exact ⟨n, .inl q⟩
        · cases q
      · rcases clr_get e with ⟨n, q⟩ | ⟨_, q⟩
        · exact ⟨n, .inr q⟩
        · cases q
    obtain ⟨a, h1, h2⟩ := ok.own i d this.2
    exact ⟨a, by rw [wipe_out this.1]; exact h1, h2⟩
  · obtain ⟨q1, hi⟩ := wipe_some q
    rw [clr_out hi] at r
    exact ok.new i a d q1 r
  · rcases clr_get e with ⟨n, q⟩ | ⟨_, q⟩
    · obtain ⟨a, h1, h2⟩ := ok.io i d q
      exact ⟨a, h1, by rw [wipe_out n]; exact h2⟩
    · cases q
  · obtain ⟨d, h1, h2⟩ := ok.ios i a q
    have hi : i ∉ vs := fun hv => (noOwn_of hn hv).2 d h1
    exact ⟨d, by rw [clr_out hi]; exact h1, by rw [wipe_out hi]; exact h2⟩
theorem rst_case {j : Nat} {c : Cell} (hn : noOwn c1 vs = true) (h : (rst c2 c1 vs)[j]? = some c) : (j ∉ vs ∧ c2[j]? = some c) ∨ (j ∈ vs ∧ (c = .no ∨ ∃ d, c = .dat d ∧ c1[j]? = some (.dat d))) := by
  rcases rst_get h with z | ⟨m, z⟩
  · exact .inl z
  · refine .inr ⟨m, ?_⟩
    have q := List.all_eq_true.mp hn j m
    rw [List.getD_eq_getElem?_getD] at z
    cases e : c1[j]? with
    | none => rw [e] at z; exact .inl z
    | some cc =>
      rw [e, Option.getD_some] at z
      rw [e] at q
      cases cc with
      | no => exact .inl z
      | dat d => exact .inr ⟨d, z, rfl⟩
      | own d => cases q
      | io d => cases q
theorem owns_rst (hn : noOwn c1 vs = true) (j : Nat) (a : Addr) : OwnS σ (rst c2 c1 vs) j a ↔ OwnS (wipe σ vs) c2 j a := by
  constructor
  · rintro ⟨q1, d, q2⟩
    rcases q2 with q2 | q2
    · rcases rst_case hn q2 with ⟨n, z⟩ | ⟨_, z | ⟨d', z, _⟩⟩
      · exact ⟨by rw [wipe_out n]; exact q1, d, .inl z⟩
      · cases z
      · cases z
    · rcases rst_case hn q2 with ⟨n, z⟩ | ⟨_, z | ⟨d', z, _⟩⟩
      · exact ⟨by rw [wipe_out n]; exact q1, d, .inr z⟩
      · cases z
      · cases z
  · rintro ⟨q1, d, q2⟩
    obtain ⟨q3, hj⟩ := wipe_some q1
    exact ⟨q3, d, by rw [rst_out hj]; exact q2⟩
theorem md_rst (hn : noOwn c1 vs = true) : Md σ (rst c2 c1 vs) Y = Md (wipe σ vs) c2 Y := by
  funext b
  unfold Md
  exact propext ⟨fun h => h.imp id fun ⟨j, q⟩ => ⟨j, (owns_rst hn j b).mp q⟩, fun h => h.imp id fun ⟨j, q⟩ => ⟨j, (owns_rst hn j b).mpr q⟩⟩
theorem Ok.restore (ok' : Ok K B IO Y (L2.wipe σ vs) H' c2) (hn : noOwn c1 vs = true) (h1 : ∀ (j : Nat) d, c1[j]? = some (.dat d) → ∃ v, σ[j]? = some (some v) ∧ Rp K (cut H' (Md (L2.wipe σ vs) c2 Y)) v d) : Ok K B IO Y σ H' (rst c2 c1 vs) := by
  have ow := @owns_rst σ c1 c2 vs hn
  refine ⟨by rw [rst_len, ← ok'.len, wipe_length], fun i d e => ?_, fun i d e => ?_, fun i j a q r => ok'.inj i j a ((ow i a).mp q) ((ow j a).mp r), fun i a q => ok'.dis i a ((ow i a).mp q), ok'.xin, fun i a d q r => ?_, fun i d e => ?_, fun i a q => ?_, ok'.base, ok'.dom⟩
  · rw [md_rst hn]
    rcases rst_case hn e with ⟨n, z⟩ | ⟨_, z | ⟨d', z, z'⟩⟩
    · obtain ⟨v, h1, h2⟩ := ok'.dat i d z
      exact ⟨v, by rw [wipe_out n] at h1; exact h1, h2⟩
    · cases z
    · cases z
      exact h1 i d z'
  · rw [md_rst hn]
    have : i ∉ vs ∧ (c2[i]? = some (.own d) ∨ c2[i]? = some (.io d)) := by
      rcases e with e | e
      · rcases rst_case hn e with ⟨n, z⟩ | ⟨_, z | ⟨d', z, _⟩⟩
        · exact ⟨n, .inl z⟩
        · cases z
        · cases z
      · rcases rst_case hn e with ⟨n, z⟩ | ⟨_, z | ⟨d', z, _⟩⟩
        · exact ⟨n, .inr z⟩
        · cases z
        · cases z
    obtain ⟨a, h1, h2⟩ := ok'.own i d this.2
    exact ⟨a, by rw [wipe_out this.1] at h1; exact h1, h2⟩
  · obtain ⟨q1, d2, q2⟩ := (ow i a).mp ⟨q, d, .inl r⟩
    rcases rst_case hn r with ⟨n, z⟩ | ⟨_, z | ⟨d', z, _⟩⟩
    · exact ok'.new i a d q1 z
    · cases z
    · cases z
  · rcases rst_case hn e with ⟨n, z⟩ | ⟨_, z | ⟨d', z, _⟩⟩
    · obtain ⟨a, h1, h2⟩ := ok'.io i d z
      exact ⟨a, h1, by rw [wipe_out n] at h2; exact h2⟩
    · cases z
    · cases z
  · obtain ⟨d, h1, h2⟩ := ok'.ios i a q
    obtain ⟨q3, hj⟩ := wipe_some h2
    exact ⟨d, by rw [rst_out hj]; exact h1, q3⟩
/-- an object of X is written -/
theorem cut_updX {M : Addr → Prop} {p : Addr} {o : HO} (m : M p) : cut (upd H p o) M = cut H M := by
  funext b
  by_cases mb : M b
  · rw [cut_in mb, cut_in mb]
  · rw [cut_of mb, cut_of mb, upd_ne (fun z => mb (by rw [z]; exact m))]
theorem Ok.updX {p : Addr} {o : HO} (ok : Ok K B IO Z σ H cs) (hx : Z p) (hB : B p = none) : Ok K B IO Z σ (upd H p o) cs := by
  have m : Md σ cs Z p := .inl hx
  have dm : ∀ b, H b ≠ none → upd H p o b ≠ none := fun b h => by
    by_cases e : b = p
    · rw [e, upd_same]; exact fun z => nomatch z
    · rw [upd_ne e]; exact h
  refine ⟨ok.len, fun i d e => ?_, fun i d e => ?_, ok.inj, ok.dis, fun a h => dm a (ok.xin a h), ok.new, ok.io, ok.ios, fun a u h e => ?_, fun a h => dm a (ok.dom a h)⟩
  · rw [cut_updX m]
    exact ok.dat i d e
  · rw [cut_updX m]
    obtain ⟨a, h1, h2⟩ := ok.own i d e
    have ne : a ≠ p := fun z => ok.dis i a ⟨h1, d, e⟩ (by rw [z]; exact hx)
    exact ⟨a, h1, by rw [upd_ne ne]; exact h2⟩
  · have ne : a ≠ p := fun z => by rw [z, hB] at e; cases e
    rw [upd_ne ne]
    exact ok.base a u h e
/-- a new object is kept apart -/
theorem Ok.newX {p : Addr} {o : HO} (ok : Ok K B IO Z σ H cs) (hp : H p = none) : Ok K B IO (XP Z p) σ (upd H p o) cs ∧ Le (cut H (Md σ cs Z)) (cut (upd H p o) (Md σ cs (XP Z p))) := by
  have ne : ∀ b, H b ≠ none → b ≠ p := fun b hb z => hb (by rw [z]; exact hp)
  have hle : Le (cut H (Md σ cs Z)) (cut (upd H p o) (Md σ cs (XP Z p))) := le_cut fun b u q m => by
    have nb := ne b (by rw [q]; exact fun z => nomatch z)
    refine ⟨by rw [upd_ne nb]; exact q, fun z => ?_⟩
    rcases z with (z | z) | z
    · exact m (.inl z)
    · exact nb z
    · exact m (.inr z)
  refine ⟨⟨ok.len, fun i d e => ?_, fun i d e => ?_, ok.inj, fun i a q z => ?_, fun a z => ?_, ok.new, ok.io, ok.ios, fun a u h e => Ex.new hp a u (ok.base a u h e), fun a h => (Ex.new hp).dom (ok.dom a h)⟩, hle⟩
  · obtain ⟨v, h1, h2⟩ := ok.dat i d e
    exact ⟨v, h1, h2.mono hle⟩
  · obtain ⟨a, h1, h2⟩ := ok.own i d e
    exact ⟨a, h1, by rw [upd_ne (ne a h2.some)]; exact h2.mono hle⟩
  · rcases z with z | z
    · exact ok.dis i a q z
    · exact ne a (ok.md a (.inr ⟨i, q⟩)) z
  · rcases z with z | z
    · exact (Ex.new hp).dom (ok.xin a z)
    · rw [z, upd_same]; exact fun z => nomatch z
end
section
variable {X : Cx} {K : PySem.W.Frag} {tg elt iter : Expr} {wi : TI} {fi : IX} {g : TG} {tgs vs : List Nat} {fg : GX} {tt : TT} {ft : TX} {te : TE} {fe : EX}
def loopC (fg : GX) (ft : TX) (fe : EX) (vs : List Nat) : List D → List D → En → Option (List D × En)
  | [], acc, cs => some (acc, cs)
  | x :: r, acc, cs => (fg x cs).bind fun c => (ft c).bind fun b => if b.1 = true then (fe b.2).bind fun z => if (noOwn z.2.2 vs && decide (acc.length < LIM)) = true then loopC fg ft fe vs r (acc ++ [z.1]) (clr z.2.2 vs) else none
    else if noOwn b.2 vs = true then loopC fg ft fe vs r acc (clr b.2 vs) else none
def evLc (vs : List Nat) (fi : IX) (fg : GX) (ft : TX) (fe : EX) : EX := fun cs => (fi cs).bind fun r => if noOwn r.2 vs = true then (loopC fg ft fe vs r.1 [] (clr r.2 vs)).bind fun z => some (.list z.1, true, rst z.2 r.2 vs) else none
theorem se_lc (hi : SI K wi fi) (hg : SG K g tgs fg) (ht : STt K tt ft) (he : SE K te fe) (hv : ∀ j ∈ tgs, j ∈ vs) : SE K (tLc wi g tt te vs) (evLc vs fi fg ft fe) := by
  intro B IO Z σ H cs ok d fr cs' e Q q
  unfold evLc at e
  obtain ⟨⟨items, c1⟩, e1, e⟩ := Option.bind_eq_some_iff.mp e
  dsimp only at e
  split at e
  · rename_i hn
    obtain ⟨⟨ds, c2⟩, e2, e⟩ := Option.bind_eq_some_iff.mp e
    cases e
    refine hi ok e1 _ fun J H1 p1 jok Dl hD => ?_
    have hB : B Dl = none := by
      cases z : B Dl with
      | none => rfl
      | some o => exact absurd hD (p1.ok.dom Dl (by rw [z]; exact fun z => nomatch z))
    have np : ¬ Z Dl := fun z => p1.ok.xin Dl z hD
    obtain ⟨ok1, le1⟩ := (p1.ok.wipe hn).newX (o := .lst []) hD
    rw [md_wipe hn] at le1
    have dom1 : ∀ a, H1 a ≠ none → upd H1 Dl (.lst []) a ≠ none := fun a h => (Ex.new hD).dom h
    refine ⟨fun i m H' => m = items.length - i ∧ i ≤ items.length ∧ ∃ (c : En) (acc : List D) (vals : List V), Ok K B IO (XP Z Dl) (L2.wipe σ vs) H' c ∧ Le (cut H1 (Md σ c1 Z)) (cut H' (Md (L2.wipe σ vs) c (XP Z Dl))) ∧ (∀ a, Z a → H' a = H1 a) ∧ (∀ a, H1 a ≠ none → H' a ≠ none) ∧
      H' Dl = some (.lst vals) ∧ Paired (Rp K (cut H' (Md (L2.wipe σ vs) c (XP Z Dl)))) vals acc ∧ loopC fg ft fe vs (items.drop i) acc c = some (ds, c2),
      ⟨_, rfl, Nat.zero_le _, clr c1 vs, [], [], ok1, le1, fun a h => upd_ne (fun z => np (by rw [← z]; exact h)), dom1, upd_same, .nil, by rw [List.drop_zero]; exact e2⟩, ?_⟩
    rintro i m H' ⟨rfl, hil, c, acc, vals, ok', le', keep', dom', hD', pa, el⟩
    obtain ⟨js, jg⟩ := jok H' _ ok'.md le' i
    by_cases hlt : i < items.length
    · have hd : items[i]? = some items[i] := List.getElem?_eq_getElem hlt
      obtain ⟨go, yl⟩ := jg _ hd
      rw [List.drop_eq_getElem_cons hlt] at el
      unfold loopC at el
      obtain ⟨c3, e3, el⟩ := Option.bind_eq_some_iff.mp el
      obtain ⟨⟨b, c4⟩, e4, el⟩ := Option.bind_eq_some_iff.mp el
      dsimp only at el
      refine .inr ⟨go, fun H' => ∃ (c : En) (acc : List D) (vals : List V), Ok K B IO (XP Z Dl) (L2.wipe σ vs) H' c ∧ Le (cut H1 (Md σ c1 Z)) (cut H' (Md (L2.wipe σ vs) c (XP Z Dl))) ∧ (∀ a, Z a → H' a = H1 a) ∧ (∀ a, H1 a ≠ none → H' a ≠ none) ∧
        H' Dl = some (.lst vals) ∧ Paired (Rp K (cut H' (Md (L2.wipe σ vs) c (XP Z Dl)))) vals acc ∧ loopC fg ft fe vs (items.drop (i + 1)) acc c = some (ds, c2), fun H3 ⟨c, acc, vals, h⟩ => ⟨items.length - (i + 1), by omega, rfl, hlt, c, acc, vals, h⟩, fun x H2 hy => ?_⟩
      obtain ⟨ex, rx⟩ := yl x H2 hy
      have p2 := ok'.ext ex
      refine hg p2.ok rx e3 _ fun σ3 H3 p3 ag => ⟨wipe_agr ag hv, ?_⟩
      have hw := wipe_agr ag hv
      refine ht p3.ok e4 _ fun H4 p4 => ?_
      have p234 := (p2.trans p3).trans p4
      have hz : ∀ a, Z a → XP Z Dl a := fun a h => .inl h
      cases b with
      | false =>
        refine iteF ?_
        simp only [Bool.false_eq_true, if_false] at el
        split at el
        · rename_i hn4
          have ok5 := p4.ok.wipe hn4
          rw [hw] at ok5
          have em : Md (L2.wipe σ vs) (clr c4 vs) (XP Z Dl) = Md σ3 c4 (XP Z Dl) := by rw [← hw]; exact md_wipe hn4
          exact ⟨clr c4 vs, acc, vals, ok5, by rw [em]; exact le'.trans p234.le, fun a h => (p234.keep a (hz a h)).trans (keep' a h), fun a h => p234.dom a (dom' a h), (p234.keep Dl (.inr rfl)).trans hD', by rw [em]; exact Rp.monoA p234.le pa, el⟩
        · cases el
      | true =>
        refine iteT ?_
        simp only [if_true] at el
        obtain ⟨⟨z, fz, c5⟩, e5, el⟩ := Option.bind_eq_some_iff.mp el
        dsimp only at el
        split at el
        · rename_i hn5
          rw [Bool.and_eq_true, decide_eq_true_eq] at hn5
          refine he p4.ok e5 _ fun y H5 w => ?_
          have p5 := p234.trans w.post
          have ok5 := w.post.ok.wipe hn5.1
          rw [hw] at ok5
          have em : Md (L2.wipe σ vs) (clr c5 vs) (XP Z Dl) = Md σ3 c5 (XP Z Dl) := by rw [← hw]; exact md_wipe hn5.1
          have md : Md (L2.wipe σ vs) (clr c5 vs) (XP Z Dl) Dl := .inl (.inr rfl)
          refine ⟨vals, (p5.keep Dl (.inr rfl)).trans hD', by rw [Pd.len pa]; exact lim_lt hn5.2, clr c5 vs, acc ++ [z], vals ++ [y], ok5.updX (.inr rfl) hB, ?_, fun a h => ?_, fun a h => ?_, upd_same, ?_, el⟩
          · rw [cut_updX md, em]
            exact le'.trans p5.le
          · rw [upd_ne (fun z => np (by rw [← z]; exact h))]
            exact (p5.keep a (hz a h)).trans (keep' a h)
          · by_cases ea : a = Dl
            · rw [ea, upd_same]; exact fun z => nomatch z
            · rw [upd_ne ea]; exact p5.dom a (dom' a h)
          · rw [cut_updX md, em]
            exact Pd.append (Rp.monoA p5.le pa) (.cons w.rp .nil)
        · cases el
    · have hi' : i = items.length := by omega
      subst hi'
      rw [List.drop_length] at el
      cases el
      refine .inl ⟨js (Nat.le_refl _), q _ H' ?_⟩
      have dat1 : ∀ (j : Nat) d, c1[j]? = some (.dat d) → ∃ v, σ[j]? = some (some v) ∧ Rp K (cut H' (Md (L2.wipe σ vs) c2 (XP Z Dl))) v d := fun j d hj => by
        obtain ⟨v, h1, h2⟩ := p1.ok.dat j d hj
        exact ⟨v, h1, h2.mono le'⟩
      refine ⟨Dl, rfl, ?_, ⟨ok'.restore hn dat1, by rw [md_rst hn]; exact p1.le.trans le', fun a h => (keep' a h).trans (p1.keep a h), fun a h => dom' a (p1.dom a h), np⟩, by rw [md_rst hn, hD']; exact .lst pa⟩
      cases z : H Dl with
      | none => rfl
      | some o => exact absurd hD (p1.dom Dl (by rw [z]; exact fun z => nomatch z))
  · cases e
end
end Qp
end
section
set_option Elab.async false
set_option linter.all false
set_option maxRecDepth 100000
set_option maxHeartbeats 2000000
/-! Qj: comprehensions of the text; defs. -/
namespace Qp
open PySem PySem.Spec PyProof.Rows L2
section
variable {X : Cx} {tg elt iter : Expr} {ifs : List Expr} {scope : Scope} {own : List (Str × Nat)} {pos spos : Pos} {wi : TI} {fi : IX} {g : TG} {tgs : List Nat} {fg : GX} {tt : TT} {ft : TX} {te : TE} {fe : EX} {vs : List Nat}
structure DTs (X : Cx) (ifs : List Expr) (t : TT) (f : TX) : Prop where
  pts : PTs X ifs t
  st : STt X.K t f
def evYes : TX := fun cs => some (true, cs)
theorem dts_nil : DTs X [] tYes evYes := by
  refine ⟨pts_nil, ?_⟩
  intro B IO Z σ H cs ok b cs' e Q q
  cases e
  exact q H (Post.refl ok)
theorem dts_one {c : Expr} (h : DT X c tt ft) : DTs X [c] tt ft := ⟨pts_one h.pt, h.st⟩
/-- readings by the function alone -/
def teOf (K : PySem.W.Frag) (f : EX) : TE := fun σ H Q => ∃ (B : Hp) (IO : List (Nat × Addr)) (Z : Addr → Prop) (cs : En) (d : D) (fr : Bool) (cs' : En), Ok K B IO Z σ H cs ∧ f cs = some (d, fr, cs') ∧ ∀ v H', Pe K B IO Z σ H cs σ H' cs' fr v d → Q v H'
def ttOf (K : PySem.W.Frag) (f : TX) : TT := fun σ H Q => ∃ (B : Hp) (IO : List (Nat × Addr)) (Z : Addr → Prop) (cs : En) (b : Bool) (cs' : En), Ok K B IO Z σ H cs ∧ f cs = some (b, cs') ∧ ∀ H', Post K B IO Z σ H cs σ H' cs' → Q b H'
def tgOf (K : PySem.W.Frag) (tgs : List Nat) (f : GX) : TG := fun v σ H Q => ∃ (B : Hp) (IO : List (Nat × Addr)) (Z : Addr → Prop) (cs : En) (d : D) (cs' : En), Ok K B IO Z σ H cs ∧ Rp K (cut H (Md σ cs Z)) v d ∧ f d cs = some cs' ∧ ∀ σ' H', Post K B IO Z σ H cs σ' H' cs' → Agr tgs σ σ' → Q σ' H'
theorem DE.can {e : Expr} {t : TE} {f : EX} (h : DE X e t f) : PE X e (teOf X.K f) := ⟨fun pins s σ H Q I ⟨_, _, _, _, _, _, _, ok, e, q⟩ => h.pe.run pins s σ H Q I (h.se ok e Q q)⟩
theorem DTs.can (h : DTs X ifs tt ft) : PTs X ifs (ttOf X.K ft) := ⟨fun pins s σ H Q I ⟨_, _, _, _, _, _, ok, e, q⟩ => h.pts.run pins s σ H Q I (h.st ok e Q q)⟩
theorem DG.can (h : DG X tg g tgs fg) : PG X tg (tgOf X.K tgs fg) := ⟨fun pins s σ H v u Q I r ⟨_, _, _, _, _, _, ok, rp, e, q⟩ => h.pg.run pins s σ H v u Q I r (h.sg ok rp e Q q)⟩
theorem se_can {K : PySem.W.Frag} {f : EX} : SE K (teOf K f) f := fun ok _ _ _ e _ q => ⟨_, _, _, _, _, _, _, ok, e, q⟩
theorem st_can {K : PySem.W.Frag} {f : TX} : STt K (ttOf K f) f := fun ok _ _ e _ q => ⟨_, _, _, _, _, _, ok, e, q⟩
theorem sg_can {K : PySem.W.Frag} {f : GX} : SG K (tgOf K tgs f) tgs f := fun ok _ _ r _ e _ q => ⟨_, _, _, _, _, _, ok, r, e, q⟩
theorem de_lc (hc : X.calm = true) (hN : X.N.Nodup) (hi : DI X tg iter wi fi) (ok : BlkOk X.N X.env.scope scope own)
    (hg : ∀ (s : Shared) (H : Hp) (C : Addr) (cl : List (Str × Addr)) (fp : List Addr), ∃ g, DG (X.blk s H scope (compEnvC scope cl C X.env) fp) tg g tgs fg) (ht : ∀ (s : Shared) (H : Hp) (C : Addr) (cl : List (Str × Addr)) (fp : List Addr), ∃ tt, DTs (X.blk s H scope (compEnvC scope cl C X.env) fp) ifs tt ft)
    (he : ∀ (s : Shared) (H : Hp) (C : Addr) (cl : List (Str × Addr)) (fp : List Addr), ∃ te, DE (X.blk s H scope (compEnvC scope cl C X.env) fp) elt te fe) (hvs : own.map (·.2) = vs := by rfl) (hv : ∀ j ∈ tgs, j ∈ vs := by decide) (hs : ∀ x, foldedSetIterable iter X.env x = pure x := by intro _; rfl) :
    DE X (.ListComp elt [⟨tg, iter, ifs, 0⟩] scope pos) (tLc wi (tgOf X.K tgs fg) (ttOf X.K ft) (teOf X.K fe) (own.map (·.2))) (evLc vs fi fg ft fe) := by
  subst hvs
  exact ⟨pe_lc hc hN hi.pi ok (fun s H C cl fp => (hg s H C cl fp).elim fun _ q => q.can) (fun s H C cl fp => (ht s H C cl fp).elim fun _ q => q.can) (fun s H C cl fp => (he s H C cl fp).elim fun _ q => q.can) hs,
    se_lc hi.si sg_can st_can se_can hv⟩
theorem ds_lc {i : Nat} {y : Str} {py : Pos} (hc : X.calm = true) (hN : X.N.Nodup) (hy : X.N[i]? = some y) (hyl : X.env.scope.names.lookup y = some .local) (hsw : swapsWith (.ListComp elt [⟨tg, iter, ifs, 0⟩] scope pos) (some (.Name y py)) spos.line X.env = pure true)
    (hi : DI X tg iter wi fi) (ok : BlkOk X.N X.env.scope scope own)
    (hg : ∀ (s : Shared) (H : Hp) (C : Addr) (cl : List (Str × Addr)) (fp : List Addr), ∃ g, DG (X.blk s H scope (compEnvC scope cl C X.env) fp) tg g tgs fg) (ht : ∀ (s : Shared) (H : Hp) (C : Addr) (cl : List (Str × Addr)) (fp : List Addr), ∃ tt, DTs (X.blk s H scope (compEnvC scope cl C X.env) fp) ifs tt ft)
    (he : ∀ (s : Shared) (H : Hp) (C : Addr) (cl : List (Str × Addr)) (fp : List Addr), ∃ te, DE (X.blk s H scope (compEnvC scope cl C X.env) fp) elt te fe) (hvs : own.map (·.2) = vs := by rfl) (hv : ∀ j ∈ tgs, j ∈ vs := by decide) (hs : ∀ x, foldedSetIterable iter X.env x = pure x := by intro _; rfl) :
    DS X (.Assign [.Name y py] (.ListComp elt [⟨tg, iter, ifs, 0⟩] scope pos) spos) (tAsg (tLc wi (tgOf X.K tgs fg) (ttOf X.K ft) (teOf X.K fe) (own.map (·.2))) (gName i)) (sAsg i (evLc vs fi fg ft fe)) := by
  subst hvs
  exact ⟨ps_setLc hc hN hy hyl hsw hi.pi ok (fun s H C cl fp => (hg s H C cl fp).elim fun _ q => q.can) (fun s H C cl fp => (ht s H C cl fp).elim fun _ q => q.can) (fun s H C cl fp => (he s H C cl fp).elim fun _ q => q.can) hs,
    ss_asg (se_lc hi.si sg_can st_can se_can hv)⟩
end

/-! ### defs: the promise by a function on data -/
def spP (K : PySem.W.Frag) (n : Nat) (F : GA) : Sp := fun vs H Q _ => ∃ (M : Addr → Prop) (ds : List D) (z : D) (fr : Bool), (∀ a, M a → H a ≠ none) ∧ ds.length = n ∧ Paired (Rp K (cut H M)) vs ds ∧ F ds = some (z, fr) ∧ ∀ v H', Ex H H' → VOk K H H' M fr v z → Q v H'
/-- .. the first argument is changed -/
abbrev GI := D → List D → Option (D × Bool × D)
def spI (K : PySem.W.Frag) (n : Nat) (F : GI) : Sp := fun vs H Q _ => ∃ (M : Addr → Prop) (a : Addr) (us : List V) (d0 : D) (ds : List D) (z : D) (fr : Bool) (d' : D), vs = .ref a :: us ∧ (∀ b, M b → H b ≠ none) ∧ ds.length + 1 = n ∧ M a ∧ OwnAt K (cut H M) (H a) d0 ∧ Paired (Rp K (cut H M)) us ds ∧ F d0 ds = some (z, fr, d') ∧
  ∀ v H', (∀ b u, b ≠ a → H b = some u → H' b = some u) → OwnAt K (cut H' (fun b => M b ∨ (fr = true ∧ v = .ref b))) (H' a) d' → VOk K H H' M fr v z → Q v H'
def outP (r : Option Res) : Option (D × Bool) := match r with
  | some (.rt d fr _) => some (d, fr)
  | some (.nx _) => some (.none, false)
  | _ => none
def runP (n m : Nat) (body : SX) : GA := fun ds => if ds.length = n then outP (body (ds.map Cell.dat ++ List.replicate m .no)) else none
def io0 (c : En) : Option D := match (c[(0 : Nat)]? : Option Cell) with
  | some (.io d) => some d
  | _ => none
theorem io0_of {c : En} {d : D} (h : io0 c = some d) : c[(0 : Nat)]? = some (.io d) := by
  unfold io0 at h
  split at h
  · rename_i d' e
    cases h
    exact e
  · cases h
def outI (r : Option Res) : Option (D × Bool × D) := match r with
  | some (.rt d fr c) => (io0 c).bind fun d' => some (d, fr, d')
  | some (.nx c) => (io0 c).bind fun d' => some (.none, false, d')
  | _ => none
def runI (n m : Nat) (body : SX) : GI := fun d0 ds => if ds.length + 1 = n then outI (body (.io d0 :: (ds.map Cell.dat ++ List.replicate m .no))) else none
section
variable {P : Program} {w : World} {K : PySem.W.Frag} {mg : Str → Option Value} {base : Heap}
theorem Pe.vok {B : Hp} {IO : List (Nat × Addr)} {M : Addr → Prop} {σ σ' : L2.St} {H H' : Hp} {cs c : En} {fr : Bool} {v : V} {d : D} (h : Pe K B IO M σ H cs σ' H' c fr v d) : VOk K H H' M fr v d := by
  unfold Pe at h
  unfold VOk
  cases fr with
  | false => exact h.2.mono (le_cut fun a o e m => ⟨e, fun z => m (.inl z)⟩)
  | true =>
    obtain ⟨p, e, hp, q, o⟩ := h
    exact ⟨p, e, hp, o.mono (le_cut fun a o e m => ⟨e, fun z => m (.inl z)⟩)⟩
theorem get_dat {ds : List D} {m : Nat} {i : Nat} {d : D} (h : (ds.map Cell.dat ++ List.replicate m Cell.no)[i]? = some (.dat d)) : ds[i]? = some d := by
  by_cases hi : i < ds.length
  · rw [List.getElem?_append_left (by rw [List.length_map]; exact hi), List.getElem?_map] at h
    cases e : ds[i]? with
    | none => rw [e] at h; cases h
    | some x => rw [e] at h; cases h; rfl
  · rw [List.getElem?_append_right (by rw [List.length_map]; omega), List.getElem?_replicate] at h
    split at h <;> cases h
theorem get_own {ds : List D} {m : Nat} {i : Nat} {d : D} : (ds.map Cell.dat ++ List.replicate m Cell.no)[i]? ≠ some (.own d) ∧ (ds.map Cell.dat ++ List.replicate m Cell.no)[i]? ≠ some (.io d) := by
  by_cases hi : i < ds.length
  · rw [List.getElem?_append_left (by rw [List.length_map]; exact hi), List.getElem?_map]
    cases e : ds[i]? with
    | none => exact ⟨fun z => (by cases z), fun z => (by cases z)⟩
    | some x => exact ⟨fun z => (by cases z), fun z => (by cases z)⟩
  · rw [List.getElem?_append_right (by rw [List.length_map]; omega), List.getElem?_replicate]
    split <;> exact ⟨fun z => (by cases z), fun z => (by cases z)⟩
theorem get_start {vs : List V} {m : Nat} {i : Nat} {v : V} (h : vs[i]? = some v) : (vs.map some ++ List.replicate m none)[i]? = some (some v) := by
  have hi : i < vs.length := (List.getElem?_eq_some_iff.mp h).1
  rw [List.getElem?_append_left (by rw [List.length_map]; exact hi), List.getElem?_map, h]
  rfl
theorem fn_pure {x qual : Str} {st : Stmt} {f : Addr} {fd : FuncData} {N ps : List Str} {k n m : Nat} {g : SX} (F : Fun K x qual st f fd) (S : FnScope N ps (defScope st)) (hN : N.length = n + m) (hp : ps.length = n)
    (body : ∀ (cdv : Value) (A : Around) (outer : List Env) (s : Shared) (H : Hp) (E : XK), Room k (A.deeper (envOfC qual (defScope st) s.heap.objs.size f cdv)) → ∃ t, DB (cxOf CX0 P w K mg base N qual (defScope st) f cdv A outer s H E).nox (defBody st) t g) :
    FnOk P w K mg base CX0 (k + 1) f fd ps (spP K n (runP n m g)) := by
  refine F.ok S (fun vs H Q E h => ?_) (fun cdv A outer s H vs Q E hr h => ?_)
  · obtain ⟨M, ds, z, fr, _, hl, p, _⟩ := h
    rw [Pd.len p, hl, hp]
  · obtain ⟨M, ds, z, fr, hm, hl, p, e, q⟩ := h
    obtain ⟨t, d⟩ := body cdv A outer s H E hr
    refine ⟨t, d.pss, ?_⟩
    unfold runP at e
    rw [if_pos hl] at e
    have hs : L2.start N vs = vs.map some ++ List.replicate m none := by
      unfold L2.start
      rw [Pd.len p, hl, hN, Nat.add_sub_cancel_left]
    have hmd : ∀ a, ¬ Md (L2.start N vs) (ds.map Cell.dat ++ List.replicate m .no) M a ∨ M a := fun a => by
      by_cases ha : M a
      · exact .inr ha
      · refine .inl fun z => ?_
        rcases z with z | ⟨i, _, d', z | z⟩
        · exact ha z
        · exact get_own.1 z
        · exact get_own.2 z
    have ok : Ok K H [] M (L2.start N vs) H (ds.map Cell.dat ++ List.replicate m .no) := by
      refine ⟨?_, fun i d' h => ?_, fun i d' h => ?_, fun i j a h => ?_, fun i a h => ?_, hm, fun i a d' _ h => absurd h get_own.1, fun i d' h => absurd h get_own.2, fun i a h => (by cases h), fun a o _ h => h, fun a h => h⟩
      · rw [hs, List.length_append, List.length_append, List.length_map, List.length_map, List.length_replicate, List.length_replicate, Pd.len p]
      · obtain ⟨v, h1, h2⟩ := Pd.get p (get_dat h)
        refine ⟨v, by rw [hs]; exact get_start h1, h2.mono (le_cut fun a o e' n' => ⟨e', (hmd a).resolve_right n'⟩)⟩
      · rcases h with h | h
        · exact absurd h get_own.1
        · exact absurd h get_own.2
      · obtain ⟨_, d', h | h⟩ := h
        · exact absurd h get_own.1
        · exact absurd h get_own.2
      · obtain ⟨_, d', h | h⟩ := h
        · exact absurd h get_own.1
        · exact absurd h get_own.2
    have exf : ∀ {σ' H' c}, Post K H [] M (L2.start N vs) H (ds.map Cell.dat ++ List.replicate m .no) σ' H' c → Ex H H' := fun p a o e => p.ok.base a o (fun i h => (by cases h)) e
    cases er : g (ds.map Cell.dat ++ List.replicate m .no) with
    | none => rw [er] at e; cases e
    | some r =>
      rw [er] at e
      refine d.ss ok er _ ?_
      cases r with
      | nx c => cases e; exact fun σ' H' p' => q _ H' (exf p') (VOk.of .non)
      | rt d' fr' c => cases e; exact fun v σ' H' p' => q v H' (exf p'.post) p'.vok
      | bk c => cases e
      | ct c => cases e
theorem fn_none {f : Addr} {fd : FuncData} {ps : List Str} {n : Nat} (hp : ps.length = n) : FnOk P w K mg base CX0 0 f fd ps (spP K n fun _ => none) :=
  ⟨fun vs H Q E ⟨_, _, _, _, _, _, _, e, _⟩ => (by cases e), fun A outer s H args us vs Q E _ _ _ _ ⟨_, _, _, _, _, _, _, e, _⟩ => (by cases e)⟩
theorem fn_noneI {f : Addr} {fd : FuncData} {ps : List Str} {n : Nat} (hp : ps.length = n) : FnOk P w K mg base CX0 0 f fd ps (spI K n fun _ _ => none) :=
  ⟨fun vs H Q E ⟨_, _, _, _, _, _, _, _, _, _, _, _, _, _, e, _⟩ => (by cases e), fun A outer s H args us vs Q E _ _ _ _ ⟨_, _, _, _, _, _, _, _, _, _, _, _, _, _, e, _⟩ => (by cases e)⟩
theorem fn_inout {x qual : Str} {st : Stmt} {f : Addr} {fd : FuncData} {N ps : List Str} {k n m : Nat} {g : SX} (F : Fun K x qual st f fd) (S : FnScope N ps (defScope st)) (hN : N.length = n + m) (hp : ps.length = n)
    (body : ∀ (cdv : Value) (A : Around) (outer : List Env) (s : Shared) (H : Hp) (E : XK), Room k (A.deeper (envOfC qual (defScope st) s.heap.objs.size f cdv)) → ∃ t, DB (cxOf CX0 P w K mg base N qual (defScope st) f cdv A outer s H E).nox (defBody st) t g) :
    FnOk P w K mg base CX0 (k + 1) f fd ps (spI K n (runI n m g)) := by
  refine F.ok S (fun vs H Q E h => ?_) (fun cdv A outer s H vs Q E hr h => ?_)
  · obtain ⟨M, a, us, d0, ds, z, fr, d', rfl, _, hl, _, _, p, _⟩ := h
    rw [List.length_cons, Pd.len p, hl, hp]
  · obtain ⟨M, a, us, d0, ds, z, fr, d', rfl, hm, hl, ma, oa, p, e, q⟩ := h
    obtain ⟨t, d⟩ := body cdv A outer s H E hr
    refine ⟨t, d.pss, ?_⟩
    unfold runI at e
    rw [if_pos hl] at e
    have hs : L2.start N (.ref a :: us) = some (.ref a) :: (us.map some ++ List.replicate m none) := by
      unfold L2.start
      rw [List.length_cons, Pd.len p, hl, hN, Nat.add_sub_cancel_left]
      rfl
    have own0 : ∀ (i : Nat) (b : Addr), OwnS (L2.start N (.ref a :: us)) (.io d0 :: (ds.map Cell.dat ++ List.replicate m .no)) i b → i = 0 ∧ b = a := by
      intro i b ⟨h1, d'', h2⟩
      cases i with
      | zero =>
        rw [hs] at h1
        have : some (V.ref a) = some (V.ref b) := Option.some.inj h1
        cases this
        exact ⟨rfl, rfl⟩
      | succ i =>
        rcases h2 with h2 | h2
        · exact absurd (show (ds.map Cell.dat ++ List.replicate m Cell.no)[i]? = _ from h2) get_own.1
        · exact absurd (show (ds.map Cell.dat ++ List.replicate m Cell.no)[i]? = _ from h2) get_own.2
    have hmd : ∀ b, Md (L2.start N (.ref a :: us)) (.io d0 :: (ds.map Cell.dat ++ List.replicate m .no)) (fun b => M b ∧ b ≠ a) b ↔ M b := fun b => by
      constructor
      · rintro (h | ⟨i, h⟩)
        · exact h.1
        · rw [(own0 i b h).2]; exact ma
      · intro h
        by_cases hb : b = a
        · exact .inr ⟨0, by rw [hs, hb]; rfl, d0, .inr rfl⟩
        · exact .inl ⟨h, hb⟩
    have emd : Md (L2.start N (.ref a :: us)) (.io d0 :: (ds.map Cell.dat ++ List.replicate m .no)) (fun b => M b ∧ b ≠ a) = M := funext fun b => propext (hmd b)
    have ok : Ok K H [(0, a)] (fun b => M b ∧ b ≠ a) (L2.start N (.ref a :: us)) H (.io d0 :: (ds.map Cell.dat ++ List.replicate m .no)) := by
      refine ⟨?_, fun i d' h => ?_, fun i d' h => ?_, fun i j b h h' => (own0 i b h).1.trans (own0 j b h').1.symm, fun i b h z => z.2 (own0 i b h).2, fun b h => hm b h.1, fun i b d' _ h => ?_, fun i d' h => ?_, fun i b h => ?_, fun b o _ h => h, fun b h => h⟩
      · rw [hs, List.length_cons, List.length_cons, List.length_append, List.length_append, List.length_map, List.length_map, List.length_replicate, List.length_replicate, Pd.len p]
      · rw [emd]
        cases i with
        | zero => cases h
        | succ i =>
          obtain ⟨v, h1, h2⟩ := Pd.get p (get_dat (show (ds.map Cell.dat ++ List.replicate m Cell.no)[i]? = _ from h))
          exact ⟨v, by rw [hs]; exact get_start h1, h2⟩
      · rw [emd]
        cases i with
        | zero =>
          rcases h with h | h
          · cases h
          · cases h
            exact ⟨a, by rw [hs]; rfl, oa⟩
        | succ i =>
          rcases h with h | h
          · exact absurd (show (ds.map Cell.dat ++ List.replicate m Cell.no)[i]? = _ from h) get_own.1
          · exact absurd (show (ds.map Cell.dat ++ List.replicate m Cell.no)[i]? = _ from h) get_own.2
      · cases i with
        | zero => cases h
        | succ i => exact absurd (show (ds.map Cell.dat ++ List.replicate m Cell.no)[i]? = _ from h) get_own.1
      · cases i with
        | zero => exact ⟨a, List.mem_singleton.mpr rfl, by rw [hs]; rfl⟩
        | succ i => exact absurd (show (ds.map Cell.dat ++ List.replicate m Cell.no)[i]? = _ from h) get_own.2
      · have e' := List.mem_singleton.mp h
        cases e'
        exact ⟨d0, rfl, by rw [hs]; rfl⟩
    have exf : ∀ {Y σ' H' c}, Ok K H [(0, a)] Y σ' H' c → ∀ b u, b ≠ a → H b = some u → H' b = some u := fun o b u hb e => o.base b u (fun i h => hb (by cases List.mem_singleton.mp h; rfl)) e
    have ioa : ∀ {Y σ' H' c d'}, Ok K H [(0, a)] Y σ' H' c → c[(0 : Nat)]? = some (.io d') → OwnAt K (cut H' (Md σ' c Y)) (H' a) d' := fun {Y σ' H' c d'} o h => by
      obtain ⟨b, h1, h2⟩ := o.own 0 d' (.inr h)
      obtain ⟨d'', _, h3⟩ := o.ios 0 a (List.mem_singleton.mpr rfl)
      rw [h1] at h3
      cases h3
      exact h2
    have mle : ∀ {σ' c} {Y : Addr → Prop} {b}, (∀ x, (M x ∧ x ≠ a) → Y x) → OwnS σ' c 0 a → M b → Md σ' c Y b := fun {σ' c Y b} hY h0 hb => by
      by_cases e : b = a
      · rw [e]; exact .inr ⟨0, h0⟩
      · exact .inl (hY b ⟨hb, e⟩)
    cases er : g (.io d0 :: (ds.map Cell.dat ++ List.replicate m .no)) with
    | none => rw [er] at e; cases e
    | some r =>
      rw [er] at e
      refine d.ss ok er _ ?_
      cases r with
      | nx c =>
        obtain ⟨d2, hc, e⟩ := Option.bind_eq_some_iff.mp (show (io0 c).bind _ = _ from e)
        have hc := io0_of hc
        cases e
        intro σ' H' p'
        have io0 := ioa p'.ok hc
        obtain ⟨d3, _, h3⟩ := p'.ok.ios 0 a (List.mem_singleton.mpr rfl)
        refine q _ H' (exf p'.ok) (io0.mono (le_cut fun b u e' n' => ⟨e', fun z => ?_⟩)) (VOk.of .non)
        rcases z with z | z
        · exact n' (mle (fun x h => h) ⟨h3, _, .inr hc⟩ z)
        · cases z.1
      | rt d2 fr2 c =>
        obtain ⟨d3, hc, e⟩ := Option.bind_eq_some_iff.mp (show (io0 c).bind _ = _ from e)
        have hc := io0_of hc
        cases e
        intro v σ' H' p'
        obtain ⟨d4, _, h3⟩ := p'.post.ok.ios 0 a (List.mem_singleton.mpr rfl)
        have h0 : OwnS σ' c 0 a := ⟨h3, _, .inr hc⟩
        unfold Pe at p'
        cases fr with
        | false =>
          obtain ⟨p1, r1⟩ := p'
          refine q v H' (exf p1.ok) ((ioa p1.ok hc).mono (le_cut fun b u e' n' => ⟨e', fun z => ?_⟩)) (VOk.of (r1.mono (le_cut fun b u e' n' => ⟨e', fun z => n' (mle (fun x h => h) h0 z)⟩)))
          rcases z with z | z
          · exact n' (mle (fun x h => h) h0 z)
          · cases z.1
        | true =>
          obtain ⟨p2, rfl, hp2, p1, o1⟩ := p'
          refine q _ H' (exf p1.ok) ((ioa p1.ok hc).mono (le_cut fun b u e' n' => ⟨e', fun z => ?_⟩)) ⟨p2, rfl, hp2, o1.mono (le_cut fun b u e' n' => ⟨e', fun z => ?_⟩)⟩
          · rcases z with z | ⟨_, z⟩
            · exact n' (mle (fun x h => .inl h) h0 z)
            · cases z
              exact n' (.inl (.inr rfl))
          · rcases z with z | z
            · exact n' (mle (fun x h => .inl h) h0 z)
            · exact n' (.inl (.inr z))
      | bk c => cases e
      | ct c => cases e
end
/-! ### calls of defs -/
section
variable {X : Cx} {e : Expr} {es : List Expr} {ts : TA} {fs : AX} {x : Str} {f : Addr} {fd : FuncData} {ps : List Str} {k n : Nat} {p pos : Pos} {F : GA} {G : GI}
def gN (n : Nat) (F : GA) : GA := fun ds => if ds.length = n then F ds else none
theorem sc_fn {K : PySem.W.Frag} : SRC K (fun vs H Q => spP K n F (vs ++ []) H Q E0) (gN n F) := by
  intro H M hm xs ds r z fr e Q q
  unfold gN at e
  split at e
  · rename_i hl
    exact ⟨M, ds, z, fr, hm, hl, by rw [List.append_nil]; exact r, e, q⟩
  · cases e
theorem de_call (hF : FnOk X.prog X.w X.K X.mg X.base CX0 k f fd ps (spP X.K n F)) (hr : Room k X.A) (hg : Gl X x) (hm : X.mg x = some (.ref f)) (hk : PySem.W.keepIn X.K (.ref f) = true) (hb : Binds X.K fd ps []) (ha : DA X (e :: es) ts fs)
    (hdb : (x == ("__debug__" : Str)) = false := by decide) (he : starEach (e :: es) X.env = (false, eval e X.env) :: starEach es X.env := by rfl) (hpl : (backTo pos (starEach es X.env)).any (·.1) = false := by rfl) :
    DE X (.Call (.Name x p) (e :: es) [] pos) (tCall (spP X.K n F) [] E0 ts) (evA (gN n F) fs) := ⟨pe_call hF hr hg hm hk hb .nil pass0 ha.pa hdb he hpl, se_A ha.sa sc_fn⟩
theorem de_call0 (hF : FnOk X.prog X.w X.K X.mg X.base CX0 k f fd ps (spP X.K n F)) (hr : Room k X.A) (hg : Gl X x) (hm : X.mg x = some (.ref f)) (hk : PySem.W.keepIn X.K (.ref f) = true) (hb : Binds X.K fd ps [])
    (hdb : (x == ("__debug__" : Str)) = false := by decide) : DE X (.Call (.Name x p) [] [] pos) (tCall (spP X.K n F) [] E0 tNil) (evA (gN n F) evNil) := ⟨pe_call0 hF hr hg hm hk hb .nil pass0 hdb, se_A da_nil.sa sc_fn⟩
def isOwn (cs : En) (i : Nat) : Bool := match cs[i]? with
  | some (.own _) => true
  | some (.io _) => true
  | _ => false
theorem Ok.isOwn {K : PySem.W.Frag} {B : Hp} {IO : List (Nat × Addr)} {Z : Addr → Prop} {σ : L2.St} {H : Hp} {cs : En} {i : Nat} (ok : Ok K B IO Z σ H cs) (h : isOwn cs i = true) : ∃ a, σ[i]? = some (some (.ref a)) := by
  unfold Qp.isOwn at h
  split at h
  · rename_i d hd
    obtain ⟨a, h1, _⟩ := ok.own i d (.inl hd)
    exact ⟨a, h1⟩
  · rename_i d hd
    obtain ⟨a, h1, _⟩ := ok.own i d (.inr hd)
    exact ⟨a, h1⟩
  · cases h
def setOwn (cs : En) (i : Nat) (d : D) : Option En := match cs[i]? with
  | some (.own _) => some (cs.set i (.own d))
  | some (.io _) => some (cs.set i (.io d))
  | _ => none
def evCI (n : Nat) (G : GI) (i : Nat) (fs : AX) : EX := fun cs => if isOwn cs i = true then (fs cs).bind fun r => if r.1.length + 1 = n then (cont r.2 i).bind fun d => (G d r.1).bind fun z => (setOwn r.2 i z.2.2).bind fun c => some (z.1, false, c) else none else none
theorem se_CI {K : PySem.W.Frag} {i : Nat} (ha : SA K ts fs) : SE K (tCall (spI K n G) [] E0 (tCons (tVar i) ts)) (evCI n G i fs) := by
  intro B IO Z σ H cs ok d fr cs' e Q q
  unfold evCI at e
  split at e
  · rename_i ho
    obtain ⟨⟨ds, c1⟩, e1, e⟩ := Option.bind_eq_some_iff.mp e
    dsimp only at e
    split at e
    · rename_i hl
      obtain ⟨d0, e2, e⟩ := Option.bind_eq_some_iff.mp e
      obtain ⟨⟨z, fz, d'⟩, e3, e⟩ := Option.bind_eq_some_iff.mp e
      obtain ⟨c2, e4, e⟩ := Option.bind_eq_some_iff.mp e
      cases e
      obtain ⟨a, hs⟩ := ok.isOwn ho
      refine ⟨_, hs, ha ok e1 _ fun vs H1 p1 r1 => ?_⟩
      have hc : (c1[i]? = some (.own d0) ∧ cs' = c1.set i (.own d')) ∨ (c1[i]? = some (.io d0) ∧ cs' = c1.set i (.io d')) := by
        unfold setOwn at e4
        unfold cont at e2
        dsimp only at e2 e4
        split at e4
        · rename_i dd hd
          rw [hd] at e2
          cases e2
          cases e4
          exact .inl ⟨hd, rfl⟩
        · rename_i dd hd
          rw [hd] at e2
          cases e2
          cases e4
          exact .inr ⟨hd, rfl⟩
        · cases e4
      have hc0 : c1[i]? = some (.own d0) ∨ c1[i]? = some (.io d0) := hc.imp (·.1) (·.1)
      obtain ⟨a', h1, oa⟩ := p1.ok.own i d0 hc0
      rw [hs] at h1
      cases h1
      have ma : Md σ c1 Z a := .inr ⟨i, hs, d0, hc0⟩
      refine ⟨Md σ c1 Z, a, vs, d0, ds, z, fz, d', by rw [List.append_nil], p1.ok.md, hl, ma, oa, r1, e3, fun v H2 kept oa' vo => ?_⟩
      refine q v H2 (Pe.pre p1 ?_)
      have oa2 : OwnAt K (cut H2 (Md σ c1 Z)) (H2 a) d' := oa'.mono (le_cut fun b u e n' => ⟨e, fun z => n' (.inl z)⟩)
      have po : Post K B IO Z σ H1 c1 σ H2 cs' := by
        have po := p1.ok.mutate hs hc0 kept oa2.some oa2
        rcases hc with ⟨h, h'⟩ | ⟨h, h'⟩
        · rw [h] at po; rw [h']; exact po
        · rw [h] at po; rw [h']; exact po
      refine .dat po ?_
      have vo' : Rp K (cut H2 (Md σ c1 Z)) v z := by
        unfold VOk at vo
        cases fz with
        | false => exact vo
        | true =>
          obtain ⟨p2, rfl, hp2, o2⟩ := vo
          exact o2.rp (cut_of fun m => p1.ok.md p2 m hp2) (le_cut fun b u e n' => ⟨e, fun z => n' (.inl z)⟩)
      have sub : ∀ b, Md σ cs' Z b → Md σ c1 Z b := fun b hb => by
        rcases hb with hb | ⟨j, h1, d'', h2⟩
        · exact .inl hb
        · by_cases ej : i = j
          · subst ej
            rw [hs] at h1
            cases h1
            exact ma
          · refine .inr ⟨j, h1, d'', ?_⟩
            rcases hc with ⟨_, h'⟩ | ⟨_, h'⟩
            · rw [h', List.getElem?_set_ne ej] at h2; exact h2
            · rw [h', List.getElem?_set_ne ej] at h2; exact h2
      exact vo'.mono (le_cut fun b u e n' => ⟨e, fun z => n' (sub b z)⟩)
    · cases e
  · cases e
theorem de_callI {i : Nat} {y : Str} {ypos : Pos} (hF : FnOk X.prog X.w X.K X.mg X.base CX0 k f fd ps (spI X.K n G)) (hr : Room k X.A) (hg : Gl X x) (hm : X.mg x = some (.ref f)) (hk : PySem.W.keepIn X.K (.ref f) = true) (hb : Binds X.K fd ps []) (hv : DE X (.Name y ypos) (tVar i) (evVar i)) (ha : DA X es ts fs)
    (hdb : (x == ("__debug__" : Str)) = false := by decide) (he : starEach (.Name y ypos :: es) X.env = (false, eval (.Name y ypos) X.env) :: starEach es X.env := by rfl) (hpl : (backTo pos (starEach es X.env)).any (·.1) = false := by rfl) :
    DE X (.Call (.Name x p) (.Name y ypos :: es) [] pos) (tCall (spI X.K n G) [] E0 (tCons (tVar i) ts)) (evCI n G i fs) := ⟨pe_call hF hr hg hm hk hb .nil pass0 (pa_cons hv.pe ha.pa he) hdb he hpl, se_CI ha.sa⟩
end
end Qp
end
section
set_option Elab.async false
set_option linter.all false
set_option maxRecDepth 100000
set_option maxHeartbeats 2000000
/-! Qk: the words that the printed terms use. -/
namespace Qp
open PySem PySem.Spec PyProof.Rows L2
section
variable {X : Cx} {K : PySem.W.Frag} {e a b : Expr} {es : List Expr} {te ta tb to : TE} {ts : TA} {fe fa fb fo : EX} {fs : AX} {pos fpos cpos xpos : Pos} {x : Str} {i : Nat}
def gSub : G2 := gII fun i j => .int (i - j)
def gMul : G2 := gIIc (fun i j => (decide (-(2 ^ 64) < i) && decide (i < 2 ^ 64)) || (decide (-(2 ^ 64) < j) && decide (j < 2 ^ 64))) fun i j => .int (i * j)
def gFdiv : G2 := gIIc (fun _ j => decide (0 < j) && decide (j < 1073741824)) fun i j => .int (i / j)
def gMod : G2 := gIIc (fun _ j => decide (0 < j)) fun i j => .int (i % j)
def gPow : G2 := gIIc (fun i j => decide (0 ≤ j) && (decide (j ≤ 1000000) && decide (i.natAbs < 2 ^ 64))) fun i j => .int (i ^ j.toNat)
def gLt : G2 := gII fun i j => .bool (decide (i < j))
def gLe : G2 := gII fun i j => .bool (decide (i ≤ j))
def gGt : G2 := gII fun i j => .bool (decide (j < i))
def gGe : G2 := gII fun i j => .bool (decide (j ≤ i))
theorem sr_sub : SR2 K (rI0 fun i j => .int (i - j)) gSub := sr_II (by intro _ _; rfl)
theorem sr_mul : SR2 K (rI CMul fun i j => .int (i * j)) gMul := sr_IIc (fun i j h => by
  rw [Bool.or_eq_true, Bool.and_eq_true, Bool.and_eq_true, decide_eq_true_eq, decide_eq_true_eq, decide_eq_true_eq, decide_eq_true_eq] at h
  exact h) (by intro _ _; rfl)
theorem sr_fdiv : SR2 K (rI CDiv fun i j => .int (i / j)) gFdiv := sr_IIc (fun i j h => by
  rw [Bool.and_eq_true, decide_eq_true_eq, decide_eq_true_eq] at h
  exact h) (by intro _ _; rfl)
theorem sr_mod : SR2 K (rI (fun _ j => 0 < j) fun i j => .int (i % j)) gMod := sr_IIc (fun i j h => of_decide_eq_true h) (by intro _ _; rfl)
theorem sr_pow : SR2 K (rI CPow fun i j => .int (i ^ j.toNat)) gPow := sr_IIc (fun i j h => by
  rw [Bool.and_eq_true, Bool.and_eq_true, decide_eq_true_eq, decide_eq_true_eq, decide_eq_true_eq] at h
  exact h) (by intro _ _; rfl)
theorem sr_lt : SR2 K (rI0 fun i j => .bl (decide (i < j))) gLt := sr_II (by intro _ _; rfl)
theorem sr_le : SR2 K (rI0 fun i j => .bl (decide (i ≤ j))) gLe := sr_II (by intro _ _; rfl)
theorem sr_gt : SR2 K (rI0 fun i j => .bl (decide (j < i))) gGt := sr_II (by intro _ _; rfl)
theorem sr_ge : SR2 K (rI0 fun i j => .bl (decide (j ≤ i))) gGe := sr_II (by intro _ _; rfl)
def gNeg : G1
  | .int i => some (.int (-i), false)
  | _ => none
theorem sr_neg : SR1 K (rU fun i => .int (-i)) gNeg := by
  intro H M hm x d rx z fr q Q k
  unfold gNeg at q
  split at q
  · cases q
    exact ⟨_, rx.int_eq, k _ H (Ex.refl H) (VOk.of (.int _))⟩
  · cases q
/-- in-place + on ints, for a[i] += e -/
def gAddI : G2 := gII fun i j => .int (i + j)
theorem sr_ipadd : SR2 K (ipI fun i j => i + j) gAddI := by
  intro H M hm x y d e rx ry z fr q Q k
  unfold gAddI gII at q
  split at q
  · cases q
    exact ⟨_, _, rx.int_eq, ry.int_eq, k _ H (Ex.refl H) (VOk.of (.int _))⟩
  · cases q
/-- sep.join(list or tuple of texts) -/
def strsOf : List D → Option (List Str)
  | [] => some []
  | .str s :: r => (strsOf r).bind fun t => some (s :: t)
  | _ => none
theorem strs_pd {F : Hp} : ∀ {vs : List V} {ds : List D} {ss : List Str}, Paired (Rp K F) vs ds → strsOf ds = some ss → vs = ss.map V.str
  | _, _, ss, .nil, h => by cases h; rfl
  | _, _, ss, .cons r t, h => by
    unfold strsOf at h
    split at h
    · rename_i hh; cases hh
    · rename_i s r' hh
      cases hh
      obtain ⟨t', h1, h⟩ := Option.bind_eq_some_iff.mp h
      cases h
      rw [r.str_eq, strs_pd t h1]
      rfl
    · cases h
def gJoin (s : Str) (d : D) : Option (D × Bool) := match d with
  | .list ds => (strsOf ds).bind fun ss => if (ss.map (·.length)).sum + ss.length * s.length ≤ LIM then some (.str (Txt.join s ss), false) else none
  | .tuple ds => (strsOf ds).bind fun ss => if (ss.map (·.length)).sum + ss.length * s.length ≤ LIM then some (.str (Txt.join s ss), false) else none
  | _ => none
theorem lim16 {n : Nat} (h : n ≤ LIM) : n ≤ 16777216 := Nat.le_trans h (by decide)
def rJoin (K : PySem.W.Frag) : V → List V → Hp → VK → Prop := fun x xs H Q => ∃ a p, ∃ ys : List Str, x = .str a ∧ xs = [.ref p] ∧ (SqL K H p (ys.map V.str) ∨ SqT K H p (ys.map V.str)) ∧
      (ys.map (·.length)).sum + ys.length * a.length ≤ 16777216 ∧ Q (.str (Txt.join a ys)) H
def evJoin (fo fe : EX) : EX := fun cs => (fo cs).bind fun s => match s.1 with
  | .str t => (fe s.2.2).bind fun r => (gJoin t r.1).bind fun z => some (z.1, z.2, r.2.2)
  | _ => none
theorem de_join {apos : Pos} (ho : DE X a to fo) (he : DE X e te fe) (hs : starEach [e] X.env = [(false, eval e X.env)] := by rfl) (hbase : attributeBase a "join" X.env (eval a X.env) = eval a X.env := by rfl) (hline : (apos.endLine == pos.line) = true := by rfl) :
    DE X (.Call (.Attribute a "join" apos) [e] [] pos) (tM1 (rJoin X.K) to te) (evJoin fo fe) := by
  refine ⟨pe_join ho.pe he.pe hs hbase hline, ?_⟩
  intro B IO Z σ H cs ok d fr cs' e Q q
  unfold evJoin at e
  obtain ⟨⟨d1, f1, c1⟩, e1, e⟩ := Option.bind_eq_some_iff.mp e
  dsimp only at e
  split at e
  · rename_i s
    obtain ⟨⟨d2, f2, c2⟩, e2, e⟩ := Option.bind_eq_some_iff.mp e
    obtain ⟨⟨z, fz⟩, e3, e⟩ := Option.bind_eq_some_iff.mp e
    cases e
    refine ho.se ok e1 _ fun x H1 w1 => ⟨⟨s, w1.rp.str_eq⟩, he.se w1.post.ok e2 _ fun y H2 w2 => ?_⟩
    have p := w1.post.trans w2.post
    unfold gJoin at e3
    dsimp only at e3
    split at e3
    · obtain ⟨ss, h1, e3⟩ := Option.bind_eq_some_iff.mp e3
      split at e3
      · rename_i hl
        cases e3
        obtain ⟨a', xs, rfl, h2, p2⟩ := w2.rp.list
        refine ⟨s, a', ss, w1.rp.str_eq, rfl, .inl ?_, lim16 hl, q _ H2 (.dat p (.str _))⟩
        rw [← strs_pd p2 h1]
        exact cut_le.sqL h2
      · cases e3
    · obtain ⟨ss, h1, e3⟩ := Option.bind_eq_some_iff.mp e3
      split at e3
      · rename_i hl
        cases e3
        obtain ⟨a', xs, rfl, h2, p2⟩ := w2.rp.tuple
        refine ⟨s, a', ss, w1.rp.str_eq, rfl, .inr ?_, lim16 hl, q _ H2 (.dat p (.str _))⟩
        rw [← strs_pd p2 h1]
        exact cut_le.sqT h2
      · cases e3
    · cases e3
  · cases e
end
/-! ### several targets -/
section
variable {X : Cx} {e : Expr} {te : TE} {fe : EX} {pos xpos : Pos} {x : Str} {i : Nat} {tg : Expr} {g : TG} {tgs : List Nat} {fg : GX}
def sAsgT (f : EX) (fg : GX) : SX := fun cs => (f cs).bind fun r => (fg r.1 r.2.2).bind fun c => some (.nx c)
theorem ds_asgT (he : DE X e te fe) (hg : DG X tg g tgs fg) (hs : swapsWithSole [tg] e pos.line X.env = pure false := by rfl) (hw : swappedStores [tg] e X.env = pure none := by rfl)
    (h1 : (assignEach [tg] X.env).map (·.2) = [assign tg X.env] := by rfl) : DS X (.Assign [tg] e pos) (tAsg te g) (sAsgT fe fg) := by
  refine ⟨ps_asg he.pe hg.pg hs hw h1, ?_⟩
  intro B IO Z σ H cs ok r e Dn q
  unfold sAsgT at e
  obtain ⟨⟨d1, f1, c1⟩, e1, e⟩ := Option.bind_eq_some_iff.mp e
  obtain ⟨c2, e2, e⟩ := Option.bind_eq_some_iff.mp e
  cases e
  exact he.se ok e1 _ fun v H1 w => hg.sg w.post.ok w.rp e2 _ fun σ' H' p _ => q σ' H' (w.post.trans p)
end
/-! ### a def of the text for its callers -/
structure Cal (P : Program) (w : World) (K : PySem.W.Frag) (mg : Str → Option Value) (base : Heap) (x : Str) (k : Nat) (ps : List Str) (sp : Sp) where
  f : Addr
  fd : FuncData
  ok : FnOk P w K mg base CX0 k f fd ps sp
  b : Binds K fd ps []
  kp : PySem.W.keepIn K (.ref f) = true
  m : mg x = some (.ref f)
section
variable {X : Cx} {e : Expr} {es : List Expr} {ts : TA} {fs : AX} {x : Str} {ps : List Str} {k n : Nat} {p pos : Pos} {F : GA} {G : GI}
theorem dc (c : Cal X.prog X.w X.K X.mg X.base x k ps (spP X.K n F)) (hr : Room k X.A) (ha : DA X (e :: es) ts fs) (hg : Gl X x := by rfl)
    (hdb : (x == ("__debug__" : Str)) = false := by decide) (he : starEach (e :: es) X.env = (false, eval e X.env) :: starEach es X.env := by rfl) (hpl : (backTo pos (starEach es X.env)).any (·.1) = false := by rfl) :
    DE X (.Call (.Name x p) (e :: es) [] pos) (tCall (spP X.K n F) [] E0 ts) (evA (gN n F) fs) := de_call c.ok hr hg c.m c.kp c.b ha hdb he hpl
theorem dc0 (c : Cal X.prog X.w X.K X.mg X.base x k ps (spP X.K n F)) (hr : Room k X.A) (hg : Gl X x := by rfl) (hdb : (x == ("__debug__" : Str)) = false := by decide) : DE X (.Call (.Name x p) [] [] pos) (tCall (spP X.K n F) [] E0 tNil) (evA (gN n F) evNil) := de_call0 c.ok hr hg c.m c.kp c.b hdb
theorem dcI {i : Nat} {y : Str} {ypos : Pos} (c : Cal X.prog X.w X.K X.mg X.base x k ps (spI X.K n G)) (hr : Room k X.A) (hv : DE X (.Name y ypos) (tVar i) (evVar i)) (ha : DA X es ts fs) (hg : Gl X x := by rfl)
    (hdb : (x == ("__debug__" : Str)) = false := by decide) (he : starEach (.Name y ypos :: es) X.env = (false, eval (.Name y ypos) X.env) :: starEach es X.env := by rfl) (hpl : (backTo pos (starEach es X.env)).any (·.1) = false := by rfl) :
    DE X (.Call (.Name x p) (.Name y ypos :: es) [] pos) (tCall (spI X.K n G) [] E0 (tCons (tVar i) ts)) (evCI n G i fs) := de_callI c.ok hr hg c.m c.kp c.b hv ha hdb he hpl
end
/-! ### the law's end -/
theorem law_sp {K : PySem.W.Frag} {F : GA} {ns : List Int} {H : Hp} {a : Addr} (h : SqL K H a (ns.map V.int)) (e : F [.list (ns.map .int)] = some (.bool true, false)) : spP K 1 F [.ref a] H (fun v _ => v = .bl true) fun _ _ _ => False := by
  have c : cut H (fun _ => False) = H := funext fun b => cut_of (fun z => z)
  refine ⟨fun _ => False, [.list (ns.map .int)], .bool true, false, fun _ z => z.elim, rfl, .cons ?_ .nil, e, fun v H' _ r => (show Rp K _ v (.bool true) from r).bool_eq⟩
  rw [c]
  refine .lst h ?_
  clear h e
  induction ns with
  | nil => exact .nil
  | cons n r ih => exact .cons (.int n) ih
end Qp
end
section
set_option Elab.async false
set_option linter.all false
set_option maxRecDepth 100000
set_option maxHeartbeats 2000000
/-! Ql: how the codes are reckoned, from within: a part is entered when what is ahead of it is known. -/
namespace Qp
open PySem PySem.Spec PyProof.Rows L2
abbrev OE := Option (D × Bool × En)
section
variable {d x y z : D} {fr f1 b : Bool} {c cs c1 : En} {i n m : Nat} {f fa fb fe fi : EX} {g : G2} {u : G1} {G : GA} {fs : AX} {t s : TX} {p q : SX} {xs : List D}
def fin (c : En) (o : Option (D × Bool)) : OE := o.bind fun z => some (z.1, z.2, c)
@[simp] theorem fin_s : fin c (some (z, fr)) = some (z, fr, c) := rfl
@[simp] theorem evC_ap : evC d cs = some (d, false, cs) := rfl
def kC (o : Option Cell) : Option D := match o with
  | some (.dat d) => some d
  | some (.own d) => some d
  | some (.io d) => some d
  | _ => none
@[simp] theorem cont_ap : cont cs i = kC cs[i]? := rfl
@[simp] theorem kC_d : kC (some (.dat d)) = some d := rfl
@[simp] theorem kC_o : kC (some (.own d)) = some d := rfl
@[simp] theorem kC_i : kC (some (.io d)) = some d := rfl
def kVar (i : Nat) (cs : En) (o : Option Cell) : OE := match o with
  | some (.dat d) => some (d, false, cs)
  | some (.own d) => some (d, false, cs.set i (.dat d))
  | _ => none
@[simp] theorem evVar_ap : evVar i cs = kVar i cs cs[i]? := rfl
@[simp] theorem kVar_d : kVar i cs (some (.dat d)) = some (d, false, cs) := rfl
@[simp] theorem kVar_o : kVar i cs (some (.own d)) = some (d, false, cs.set i (.dat d)) := rfl
def k2' (g : G2) (x : D) (o : OE) : OE := o.bind fun r => fin r.2.2 (g x r.1)
def k2 (g : G2) (fb : EX) (o : OE) : OE := o.bind fun r => k2' g r.1 (fb r.2.2)
@[simp] theorem ev2_ap : ev2 g fa fb cs = k2 g fb (fa cs) := rfl
@[simp] theorem k2_s : k2 g fb (some (x, f1, c)) = k2' g x (fb c) := rfl
@[simp] theorem k2'_s : k2' g x (some (y, f1, c)) = fin c (g x y) := rfl
def k1 (u : G1) (o : OE) : OE := o.bind fun r => fin r.2.2 (u r.1)
@[simp] theorem ev1_ap : ev1 u fa cs = k1 u (fa cs) := rfl
@[simp] theorem k1_s : k1 u (some (x, f1, c)) = fin c (u x) := rfl
def kT (o : OE) : Option (Bool × En) := o.bind fun r => match r.1 with
  | .bool b => some (b, r.2.2)
  | _ => none
@[simp] theorem evT_ap : evT fa cs = kT (fa cs) := rfl
@[simp] theorem kT_s : kT (some (.bool b, f1, c)) = some (b, c) := rfl
def kAndT (t : TX) (o : Option (Bool × En)) : Option (Bool × En) := o.bind fun r => if r.1 = true then t r.2 else some (false, r.2)
@[simp] theorem evAndT_ap : evAndT t s cs = kAndT s (t cs) := rfl
@[simp] theorem kAndT_t : kAndT s (some (true, c)) = s c := rfl
@[simp] theorem kAndT_f : kAndT s (some (false, c)) = some (false, c) := rfl
def kOrT (t : TX) (o : Option (Bool × En)) : Option (Bool × En) := o.bind fun r => if r.1 = true then some (true, r.2) else t r.2
@[simp] theorem evOrT_ap : evOrT t s cs = kOrT s (t cs) := rfl
@[simp] theorem kOrT_t : kOrT s (some (true, c)) = some (true, c) := rfl
@[simp] theorem kOrT_f : kOrT s (some (false, c)) = s c := rfl
def kNotT (o : Option (Bool × En)) : Option (Bool × En) := o.bind fun r => some (!r.1, r.2)
@[simp] theorem evNotT_ap : evNotT t cs = kNotT (t cs) := rfl
@[simp] theorem kNotT_s : kNotT (some (b, c)) = some (!b, c) := rfl
def kAndV (g : EX) (o : OE) : OE := o.bind fun r => match r.1 with
  | .bool true => g r.2.2
  | .bool false => some (.bool false, false, r.2.2)
  | _ => none
@[simp] theorem evAndV_ap : evAndV fa fb cs = kAndV fb (fa cs) := rfl
@[simp] theorem kAndV_t : kAndV fb (some (.bool true, f1, c)) = fb c := rfl
@[simp] theorem kAndV_f : kAndV fb (some (.bool false, f1, c)) = some (.bool false, false, c) := rfl
def kOrV (g : EX) (o : OE) : OE := o.bind fun r => match r.1 with
  | .bool true => some (.bool true, false, r.2.2)
  | .bool false => g r.2.2
  | _ => none
@[simp] theorem evOrV_ap : evOrV fa fb cs = kOrV fb (fa cs) := rfl
@[simp] theorem kOrV_t : kOrV fb (some (.bool true, f1, c)) = some (.bool true, false, c) := rfl
@[simp] theorem kOrV_f : kOrV fb (some (.bool false, f1, c)) = fb c := rfl
def kNotV (o : OE) : OE := o.bind fun r => match r.1 with
  | .bool b => some (.bool (!b), false, r.2.2)
  | _ => none
@[simp] theorem evNotV_ap : evNotV fa cs = kNotV (fa cs) := rfl
@[simp] theorem kNotV_s : kNotV (some (.bool b, f1, c)) = some (.bool (!b), false, c) := rfl
def kIfE (f g : EX) (o : Option (Bool × En)) : OE := o.bind fun r => if r.1 = true then f r.2 else g r.2
@[simp] theorem evIf_ap : evIf t fa fb cs = kIfE fa fb (t cs) := rfl
@[simp] theorem kIfE_t : kIfE fa fb (some (true, c)) = fa c := rfl
@[simp] theorem kIfE_f : kIfE fa fb (some (false, c)) = fb c := rfl
@[simp] theorem evNil_ap : evNil cs = some ([], cs) := rfl
def kCons' (x : D) (o : Option (List D × En)) : Option (List D × En) := o.bind fun s => some (x :: s.1, s.2)
def kCons (g : AX) (o : OE) : Option (List D × En) := o.bind fun r => kCons' r.1 (g r.2.2)
@[simp] theorem evCons_ap : evCons fa fs cs = kCons fs (fa cs) := rfl
@[simp] theorem kCons_s : kCons fs (some (x, f1, c)) = kCons' x (fs c) := rfl
@[simp] theorem kCons'_s : kCons' x (some (xs, c)) = some (x :: xs, c) := rfl
def kA (g : GA) (o : Option (List D × En)) : OE := o.bind fun r => fin r.2 (g r.1)
@[simp] theorem evA_ap : evA G fs cs = kA G (fs cs) := rfl
@[simp] theorem kA_s : kA G (some (xs, c)) = fin c (G xs) := rfl
@[simp] theorem gOne_ap : gOne u [d] = u d := rfl
@[simp] theorem gN0 : gN 0 G [] = G [] := rfl
@[simp] theorem gN1 : gN 1 G [x] = G [x] := rfl
@[simp] theorem gN2 : gN 2 G [x, y] = G [x, y] := rfl
@[simp] theorem gN3 : gN 3 G [x, y, z] = G [x, y, z] := rfl
@[simp] theorem gN4 : gN 4 G [x, y, z, d] = G [x, y, z, d] := rfl
def kI2 (g : G2) (y : D) (c : En) (o : Option D) : OE := o.bind fun d => fin c (g d y)
def kI1 (g : G2) (i : Nat) (o : OE) : OE := o.bind fun s => kI2 g s.1 s.2.2 (cont s.2.2 i)
def kI0 (g : G2) (i : Nat) (fb : EX) (cs : En) (o : Option D) : OE := o.bind fun _ => kI1 g i (fb cs)
@[simp] theorem evIxV_ap : evIxV g i fb cs = kI0 g i fb cs (cont cs i) := rfl
@[simp] theorem kI0_s : kI0 g i fb cs (some d) = kI1 g i (fb cs) := rfl
@[simp] theorem kI1_s : kI1 g i (some (y, f1, c)) = kI2 g y c (cont c i) := rfl
@[simp] theorem kI2_s : kI2 g y c (some d) = fin c (g d y) := rfl
def kV2 (g : G2) (x : D) (c : En) (o : Option D) : OE := o.bind fun d => fin c (g x d)
def kV1 (g : G2) (i : Nat) (o : OE) : OE := o.bind fun s => kV2 g s.1 s.2.2 (cont s.2.2 i)
@[simp] theorem evVIn_ap : evVIn g fa i cs = kV1 g i (fa cs) := rfl
@[simp] theorem kV1_s : kV1 g i (some (x, f1, c)) = kV2 g x c (cont c i) := rfl
@[simp] theorem kV2_s : kV2 g x c (some d) = fin c (g x d) := rfl
def kU (u : G1) (c : En) (o : Option D) : OE := o.bind fun d => fin c (u d)
@[simp] theorem evV1_ap : evV1 u i cs = kU u cs (cont cs i) := rfl
@[simp] theorem kU_s : kU u c (some d) = fin c (u d) := rfl
def kIsi (n : String) (c : En) (o : Option D) : OE := o.bind fun d => (kitB (tyD d) n).bind fun b => some (.bool b, false, c)
@[simp] theorem evIsiV_ap {n : String} : evIsiV n i cs = kIsi n cs (cont cs i) := rfl
def kIsiE (n : String) (o : OE) : OE := o.bind fun r => kIsi n r.2.2 (some r.1)
@[simp] theorem evIsi_ap {n : String} : evIsi n fa cs = kIsiE n (fa cs) := rfl
@[simp] theorem kIsiE_s {n : String} : kIsiE n (some (d, f1, c)) = kIsi n c (some d) := rfl
/-- which of the six types a datum has -/
def isT (n : String) : D → Bool
  | .none => false
  | .bool _ => n == "bool" || n == "int"
  | .int _ => n == "int"
  | .str _ => n == "str"
  | .list _ => n == "list"
  | .tuple _ => n == "tuple"
  | .dict _ => n == "dict"
theorem kit_isT {n : String} (h : n ∈ ["int", "bool", "str", "list", "tuple", "dict"]) (d : D) : kitB (tyD d) n = some (isT n d) := by
  have k : ∀ a ∈ ["NoneType", "bool", "int", "str", "list", "tuple", "dict"], ∀ n ∈ ["int", "bool", "str", "list", "tuple", "dict"], kitB a n = some (a == n || (a == "bool" && n == "int")) := by decide +kernel
  have e : ∀ n ∈ ["int", "bool", "str", "list", "tuple", "dict"], ∀ d : D, (tyD d == n || (tyD d == "bool" && n == "int")) = isT n d := by
    intro n h d
    simp only [List.mem_cons, List.not_mem_nil, or_false] at h
    rcases h with rfl | rfl | rfl | rfl | rfl | rfl <;> cases d <;> rfl
  rw [k (tyD d) (by cases d <;> simp [tyD]) n h, e n h d]
theorem kIsi_of {n : String} (h : n ∈ ["int", "bool", "str", "list", "tuple", "dict"]) : kIsi n c (some d) = some (.bool (isT n d), false, c) := by
  show (kitB (tyD d) n).bind _ = _
  rw [kit_isT h d]
  rfl
@[simp] theorem kIsi_int : kIsi "int" c (some d) = some (.bool (isT "int" d), false, c) := kIsi_of (by decide)
@[simp] theorem kIsi_bool : kIsi "bool" c (some d) = some (.bool (isT "bool" d), false, c) := kIsi_of (by decide)
@[simp] theorem kIsi_str : kIsi "str" c (some d) = some (.bool (isT "str" d), false, c) := kIsi_of (by decide)
@[simp] theorem kIsi_list : kIsi "list" c (some d) = some (.bool (isT "list" d), false, c) := kIsi_of (by decide)
@[simp] theorem kIsi_tuple : kIsi "tuple" c (some d) = some (.bool (isT "tuple" d), false, c) := kIsi_of (by decide)
@[simp] theorem kIsi_dict : kIsi "dict" c (some d) = some (.bool (isT "dict" d), false, c) := kIsi_of (by decide)
/-! ### slices -/
@[simp] theorem evO0_ap : evO0 cs = some (none, cs) := rfl
def kO (o : OE) : Option (Option Int × En) := o.bind fun r => match r.1 with
  | .int i => some (some i, r.2.2)
  | _ => none
@[simp] theorem evO1_ap : evO1 fa cs = kO (fa cs) := rfl
@[simp] theorem kO_s {j : Int} : kO (some (.int j, f1, c)) = some (some j, c) := rfl
variable {fl fh : OX} {o1 o2 : Option Int}
def kS3 (d : D) (lo : Option Int) (o : Option (Option Int × En)) : OE := o.bind fun u => fin u.2 (gSl d lo u.1)
def kS2 (fh : OX) (d : D) (o : Option (Option Int × En)) : OE := o.bind fun s => kS3 d s.1 (fh s.2)
def kS1 (fl fh : OX) (o : OE) : OE := o.bind fun r => kS2 fh r.1 (fl r.2.2)
@[simp] theorem evSl_ap : evSl fa fl fh cs = kS1 fl fh (fa cs) := rfl
@[simp] theorem kS1_s : kS1 fl fh (some (d, f1, c)) = kS2 fh d (fl c) := rfl
@[simp] theorem kS2_s : kS2 fh d (some (o1, c)) = kS3 d o1 (fh c) := rfl
@[simp] theorem kS3_s : kS3 d o1 (some (o2, c)) = fin c (gSl d o1 o2) := rfl
def kSV4 (lo hi : Option Int) (c : En) (o : Option D) : OE := o.bind fun d => fin c (gSl d lo hi)
def kSV3 (i : Nat) (lo : Option Int) (o : Option (Option Int × En)) : OE := o.bind fun u => kSV4 lo u.1 u.2 (cont u.2 i)
def kSV2 (fh : OX) (i : Nat) (o : Option (Option Int × En)) : OE := o.bind fun s => kSV3 i s.1 (fh s.2)
def kSV1 (fl fh : OX) (i : Nat) (cs : En) (o : Option D) : OE := o.bind fun _ => kSV2 fh i (fl cs)
@[simp] theorem evSlV_ap : evSlV i fl fh cs = kSV1 fl fh i cs (cont cs i) := rfl
@[simp] theorem kSV1_s : kSV1 fl fh i cs (some d) = kSV2 fh i (fl cs) := rfl
@[simp] theorem kSV2_s : kSV2 fh i (some (o1, c)) = kSV3 i o1 (fh c) := rfl
@[simp] theorem kSV3_s : kSV3 i o1 (some (o2, c)) = kSV4 o1 o2 c (cont c i) := rfl
@[simp] theorem kSV4_s : kSV4 o1 o2 c (some d) = fin c (gSl d o1 o2) := rfl
/-! ### changes -/
def kOwnL (o : Option Cell) : Bool := match o with
  | some (.own (.list _)) => true
  | some (.io (.list _)) => true
  | _ => false
@[simp] theorem isOwnL_ap : isOwnL cs i = kOwnL cs[i]? := rfl
@[simp] theorem kOwnL_o : kOwnL (some (.own (.list xs))) = true := rfl
@[simp] theorem kOwnL_i : kOwnL (some (.io (.list xs))) = true := rfl
def kUp (cs : En) (i : Nat) (f : D → Option D) (o : Option Cell) : Option En := match o with
  | some (.own d) => (f d).bind fun d' => some (cs.set i (.own d'))
  | some (.io d) => (f d).bind fun d' => some (cs.set i (.io d'))
  | _ => none
def kUpO (cs : En) (i : Nat) (o : Option D) : Option En := o.bind fun d' => some (cs.set i (.own d'))
def kUpI (cs : En) (i : Nat) (o : Option D) : Option En := o.bind fun d' => some (cs.set i (.io d'))
variable {h : D → Option D}
@[simp] theorem upL_ap : upL cs i h = kUp cs i h cs[i]? := rfl
@[simp] theorem kUp_o : kUp cs i h (some (.own d)) = kUpO cs i (h d) := rfl
@[simp] theorem kUp_i : kUp cs i h (some (.io d)) = kUpI cs i (h d) := rfl
@[simp] theorem kUpO_s : kUpO cs i (some d) = some (cs.set i (.own d)) := rfl
@[simp] theorem kUpI_s : kUpI cs i (some d) = some (cs.set i (.io d)) := rfl
def kApp2 (o : Option En) : OE := o.bind fun c => some (.none, false, c)
def kApp1 (i : Nat) (o : OE) : OE := o.bind fun r => kApp2 (upL r.2.2 i (fApp r.1))
def kApp0 (i : Nat) (f : EX) (cs : En) (b : Bool) : OE := if b = true then kApp1 i (f cs) else none
@[simp] theorem evApp_ap : evApp i f cs = kApp0 i f cs (isOwnL cs i) := rfl
@[simp] theorem kApp0_t : kApp0 i f cs true = kApp1 i (f cs) := rfl
@[simp] theorem kApp1_s : kApp1 i (some (d, f1, c)) = kApp2 (upL c i (fApp d)) := rfl
@[simp] theorem kApp2_s : kApp2 (some c) = some (.none, false, c) := rfl
theorem fApp_of (h : xs.length < LIM) : fApp d (.list xs) = some (.list (xs ++ [d])) := by
  show (if xs.length < LIM then _ else _) = _
  rw [if_pos h]
/-! ### statements -/
@[simp] theorem sNx_ap : sNx cs = some (.nx cs) := rfl
@[simp] theorem sBk_ap : sBk cs = some (.bk cs) := rfl
@[simp] theorem sCt_ap : sCt cs = some (.ct cs) := rfl
@[simp] theorem sRetN_ap : sRetN cs = some (.rt .none false cs) := rfl
def kSeq (q : SX) (o : Option Res) : Option Res := o.bind fun r => match r with
  | .nx c => q c
  | r => some r
@[simp] theorem sSeq_ap : sSeq p q cs = kSeq q (p cs) := rfl
@[simp] theorem kSeq_n : kSeq q (some (.nx c)) = q c := rfl
@[simp] theorem kSeq_r : kSeq q (some (.rt d fr c)) = some (.rt d fr c) := rfl
@[simp] theorem kSeq_b : kSeq q (some (.bk c)) = some (.bk c) := rfl
@[simp] theorem kSeq_c : kSeq q (some (.ct c)) = some (.ct c) := rfl
def kIf (p q : SX) (o : Option (Bool × En)) : Option Res := o.bind fun r => if r.1 = true then p r.2 else q r.2
@[simp] theorem sIf_ap : sIf t p q cs = kIf p q (t cs) := rfl
@[simp] theorem kIf_t : kIf p q (some (true, c)) = p c := rfl
@[simp] theorem kIf_f : kIf p q (some (false, c)) = q c := rfl
def kDrop (o : OE) : Option Res := o.bind fun r => some (.nx r.2.2)
@[simp] theorem sDrop_ap : sDrop f cs = kDrop (f cs) := rfl
@[simp] theorem kDrop_s : kDrop (some (d, f1, c)) = some (.nx c) := rfl
def kRet (o : OE) : Option Res := o.bind fun r => some (.rt r.1 r.2.1 r.2.2)
@[simp] theorem sRet_ap : sRet f cs = kRet (f cs) := rfl
@[simp] theorem kRet_s : kRet (some (d, f1, c)) = some (.rt d f1 c) := rfl
def kNo (o : Option Cell) : Bool := match o with
  | some (.io _) => false
  | some _ => true
  | none => false
@[simp] theorem noIo_ap : noIo cs i = kNo cs[i]? := rfl
@[simp] theorem kNo_n : kNo (some .no) = true := rfl
@[simp] theorem kNo_d : kNo (some (.dat d)) = true := rfl
@[simp] theorem kNo_o : kNo (some (.own d)) = true := rfl
@[simp] theorem cellOf_t : Qp.cellOf true d = .own d := rfl
@[simp] theorem cellOf_f : Qp.cellOf false d = .dat d := rfl
def kAsg' (i : Nat) (d : D) (fr : Bool) (c : En) (b : Bool) : Option Res := if b = true then some (.nx (c.set i (Qp.cellOf fr d))) else none
def kAsg (i : Nat) (o : OE) : Option Res := o.bind fun r => kAsg' i r.1 r.2.1 r.2.2 (noIo r.2.2 i)
@[simp] theorem sAsg_ap : sAsg i f cs = kAsg i (f cs) := rfl
@[simp] theorem kAsg_s : kAsg i (some (d, fr, c)) = kAsg' i d fr c (noIo c i) := rfl
@[simp] theorem kAsg'_t : kAsg' i d fr c true = some (.nx (c.set i (Qp.cellOf fr d))) := rfl
variable {gt : GX} {tg : GsX} {ft : TX} {items acc : List D} {fx : IX} {vs : List Nat}
def kAT2 (o : Option En) : Option Res := o.bind fun c => some (.nx c)
def kAT (gt : GX) (o : OE) : Option Res := o.bind fun r => kAT2 (gt r.1 r.2.2)
@[simp] theorem sAsgT_ap : sAsgT f gt cs = kAT gt (f cs) := rfl
@[simp] theorem kAT_s : kAT gt (some (d, fr, c)) = kAT2 (gt d c) := rfl
@[simp] theorem kAT2_s : kAT2 (some c) = some (.nx c) := rfl
def kSet3 (o : Option En) : Option Res := o.bind fun c => some (.nx c)
def kSet2 (i : Nat) (x : D) (o : OE) : Option Res := o.bind fun s => kSet3 (upL s.2.2 i (fSet s.1 x))
def kSet1 (i : Nat) (fi : EX) (x : D) (c : En) (b : Bool) : Option Res := if b = true then kSet2 i x (fi c) else none
def kSet (i : Nat) (fi : EX) (o : OE) : Option Res := o.bind fun r => kSet1 i fi r.1 r.2.2 (isOwnL r.2.2 i)
@[simp] theorem sSet_ap : sSet i fi fe cs = kSet i fi (fe cs) := rfl
@[simp] theorem kSet_s : kSet i fi (some (x, f1, c)) = kSet1 i fi x c (isOwnL c i) := rfl
@[simp] theorem kSet1_t : kSet1 i fi x c true = kSet2 i x (fi c) := rfl
@[simp] theorem kSet2_s : kSet2 i x (some (y, f1, c)) = kSet3 (upL c i (fSet y x)) := rfl
@[simp] theorem kSet3_s : kSet3 (some c) = some (.nx c) := rfl
def kG4 (i : Nat) (k : D) (c : En) (o : Option (D × Bool)) : Option Res := o.bind fun z => if z.2 = false then kSet3 (upL c i (fSet k z.1)) else none
def kG3 (g : G2) (i : Nat) (k old : D) (o : OE) : Option Res := o.bind fun r => kG4 i k r.2.2 (g old r.1)
def kG2 (g : G2) (i : Nat) (fe : EX) (k : D) (c : En) (o : Option D) : Option Res := o.bind fun old => kG3 g i k old (fe c)
def kG1 (g : G2) (i : Nat) (fe : EX) (k : D) (c : En) (o : Option D) : Option Res := o.bind fun d => kG2 g i fe k c (getL d k)
def kG (g : G2) (i : Nat) (fe : EX) (o : OE) : Option Res := o.bind fun s => kG1 g i fe s.1 s.2.2 (cont s.2.2 i)
def kG0 (g : G2) (i : Nat) (fi fe : EX) (cs : En) (b : Bool) : Option Res := if b = true then kG g i fe (fi cs) else none
@[simp] theorem sAugIx_ap : sAugIx g i fi fe cs = kG0 g i fi fe cs (isOwnL cs i) := by
  unfold sAugIx kG0 kG kG1 kG2 kG3 kG4 kSet3
  rfl
@[simp] theorem kG0_t : kG0 g i fi fe cs true = kG g i fe (fi cs) := rfl
@[simp] theorem kG_s : kG g i fe (some (x, f1, c)) = kG1 g i fe x c (cont c i) := rfl
@[simp] theorem kG1_s : kG1 g i fe x c (some d) = kG2 g i fe x c (getL d x) := rfl
@[simp] theorem kG2_s : kG2 g i fe x c (some d) = kG3 g i x d (fe c) := rfl
@[simp] theorem kG3_s : kG3 g i x d (some (y, f1, c)) = kG4 i x c (g d y) := rfl
@[simp] theorem kG4_s : kG4 i x c (some (y, false)) = kSet3 (upL c i (fSet x y)) := rfl
/-! ### loops -/
def kFor (gt : GX) (p : SX) (o : Option (List D × En)) : Option Res := o.bind fun r => loopF gt p r.1 r.2
@[simp] theorem sFor_ap : sFor fx gt p cs = kFor gt p (fx cs) := rfl
@[simp] theorem kFor_s : kFor gt p (some (items, c)) = loopF gt p items c := rfl
@[simp] theorem loopF_nil : loopF gt p [] cs = some (.nx cs) := rfl
def kL2 (gt : GX) (p : SX) (r : List D) (o : Option Res) : Option Res := o.bind fun z => match z with
  | .nx c => loopF gt p r c
  | .ct c => loopF gt p r c
  | .bk c => some (.nx c)
  | .rt d fr c => some (.rt d fr c)
def kL1 (gt : GX) (p : SX) (r : List D) (o : Option En) : Option Res := o.bind fun c => kL2 gt p r (p c)
theorem loopF_cons : loopF gt p (x :: items) cs = kL1 gt p items (gt x cs) := rfl
@[simp] theorem kL1_s : kL1 gt p items (some c) = kL2 gt p items (p c) := rfl
@[simp] theorem kL2_n : kL2 gt p items (some (.nx c)) = loopF gt p items c := rfl
@[simp] theorem kL2_c : kL2 gt p items (some (.ct c)) = loopF gt p items c := rfl
@[simp] theorem kL2_b : kL2 gt p items (some (.bk c)) = some (.nx c) := rfl
@[simp] theorem kL2_r : kL2 gt p items (some (.rt d fr c)) = some (.rt d fr c) := rfl
@[simp] theorem gx_ap : gx i d cs = if kNo cs[i]? = true then some (cs.set i (.dat d)) else none := rfl
@[simp] theorem gxNil_ap : gxNil [] cs = some cs := rfl
def kGx (tg : GsX) (ds : List D) (o : Option En) : Option En := o.bind fun c => tg ds c
@[simp] theorem gxCons_ap : gxCons gt tg (x :: xs) cs = kGx tg xs (gt x cs) := rfl
@[simp] theorem kGx_s : kGx tg xs (some c) = tg xs c := rfl
@[simp] theorem gxTup_ap : gxTup tg n (.tuple xs) cs = if xs.length = n then tg xs cs else none := rfl
def kSq (o : OE) : Option (List D × En) := o.bind fun r => match r.1 with
  | .list ds => some (ds, r.2.2)
  | .tuple ds => some (ds, r.2.2)
  | _ => none
@[simp] theorem ixSeq_ap : ixSeq f cs = kSq (f cs) := rfl
@[simp] theorem kSq_l : kSq (some (.list xs, f1, c)) = some (xs, c) := rfl
@[simp] theorem kSq_t : kSq (some (.tuple xs, f1, c)) = some (xs, c) := rfl
def kR1 (o : Option (List D × En)) : Option (List D × En) := o.bind fun r => match r.1 with
  | [.int j] => if small j = true then some (rngD 0 j.toNat, r.2) else none
  | _ => none
@[simp] theorem ixR1_ap : ixR1 fs cs = kR1 (fs cs) := rfl
theorem kR1_of {j : Int} (h : small j = true) : kR1 (some ([.int j], c)) = some (rngD 0 j.toNat, c) := by
  show (if small j = true then _ else _) = _
  rw [if_pos h]
def kR2 (o : Option (List D × En)) : Option (List D × En) := o.bind fun r => match r.1 with
  | [.int i, .int j] => if (small i && small j) = true then some (rngD i (j - i).toNat, r.2) else none
  | _ => none
@[simp] theorem ixR2_ap : ixR2 fs cs = kR2 (fs cs) := rfl
theorem kR2_of {j k : Int} (h : small j = true) (h' : small k = true) : kR2 (some ([.int j, .int k], c)) = some (rngD j (k - j).toNat, c) := by
  show (if (small j && small k) = true then _ else _) = _
  rw [h, h']
  rfl
def kZip (o : Option (List D × En)) : Option (List D × En) := o.bind fun r => match r.1 with
  | [.list xs, .list ys] => some (zipD xs ys, r.2)
  | _ => none
@[simp] theorem ixZip_ap : ixZip fs cs = kZip (fs cs) := rfl
@[simp] theorem kZip_s {ys : List D} : kZip (some ([.list xs, .list ys], c)) = some (zipD xs ys, c) := rfl
def kEnum (o : Option (List D × En)) : Option (List D × En) := o.bind fun r => match r.1 with
  | [.list xs] => some (enumD 0 xs, r.2)
  | _ => none
@[simp] theorem ixEnum_ap : ixEnum fs cs = kEnum (fs cs) := rfl
@[simp] theorem kEnum_s : kEnum (some ([.list xs], c)) = some (enumD 0 xs, c) := rfl
/-! ### comprehensions -/
def kLc2 (vs : List Nat) (c : En) (o : Option (List D × En)) : OE := o.bind fun z => some (.list z.1, true, rst z.2 c vs)
def kLc1 (gt : GX) (ft : TX) (fe : EX) (vs : List Nat) (items : List D) (c : En) (b : Bool) : OE := if b = true then kLc2 vs c (loopC gt ft fe vs items [] (clr c vs)) else none
def kLc (gt : GX) (ft : TX) (fe : EX) (vs : List Nat) (o : Option (List D × En)) : OE := o.bind fun r => kLc1 gt ft fe vs r.1 r.2 (noOwn r.2 vs)
@[simp] theorem evLc_ap : evLc vs fx gt ft fe cs = kLc gt ft fe vs (fx cs) := rfl
@[simp] theorem kLc_s : kLc gt ft fe vs (some (items, c)) = kLc1 gt ft fe vs items c (noOwn c vs) := rfl
@[simp] theorem kLc1_t : kLc1 gt ft fe vs items c true = kLc2 vs c (loopC gt ft fe vs items [] (clr c vs)) := rfl
@[simp] theorem kLc2_s : kLc2 vs c (some (xs, c1)) = some (.list xs, true, rst c1 c vs) := rfl
@[simp] theorem evYes_ap : evYes cs = some (true, cs) := rfl
@[simp] theorem loopC_nil : loopC gt ft fe vs [] acc cs = some (acc, cs) := rfl
/-- a comprehension whose element is a function of the item and which leaves the cells alone -/
theorem loopC_map {v : D → D} (hx : ∀ x ∈ items, ∃ c1 f1, gt x cs = some c1 ∧ ft c1 = some (true, c1) ∧ fe c1 = some (v x, f1, c1) ∧ noOwn c1 vs = true ∧ clr c1 vs = cs) :
    ∀ acc : List D, acc.length + items.length ≤ LIM → loopC gt ft fe vs items acc cs = some (acc ++ items.map v, cs) := by
  induction items with
  | nil => intro acc _; simp
  | cons x r ih =>
    intro acc hl
    rw [List.length_cons] at hl
    obtain ⟨c1, f1, h1, h2, h3, h4, h5⟩ := hx x List.mem_cons_self
    unfold loopC
    rw [h1, Option.bind_some, h2, Option.bind_some, if_pos rfl, h3, Option.bind_some]
    dsimp only
    rw [h4, h5, show decide (acc.length < LIM) = true from decide_eq_true (by omega)]
    have := ih (fun y hy => hx y (List.mem_cons_of_mem _ hy)) (acc ++ [v x]) (by rw [List.length_append, List.length_singleton]; omega)
    rw [Bool.and_self, if_pos rfl, this, List.append_assoc]
    rfl
/-! ### defs -/
variable {GG : GI}
def kOwnC (o : Option Cell) : Bool := match o with
  | some (.own _) => true
  | some (.io _) => true
  | _ => false
@[simp] theorem isOwn_ap : isOwn cs i = kOwnC cs[i]? := rfl
@[simp] theorem kOwnC_o : kOwnC (some (.own d)) = true := rfl
@[simp] theorem kOwnC_i : kOwnC (some (.io d)) = true := rfl
def kSO (cs : En) (i : Nat) (d : D) (o : Option Cell) : Option En := match o with
  | some (.own _) => some (cs.set i (.own d))
  | some (.io _) => some (cs.set i (.io d))
  | _ => none
@[simp] theorem setOwn_ap : setOwn cs i d = kSO cs i d cs[i]? := rfl
@[simp] theorem kSO_o : kSO cs i d (some (.own x)) = some (cs.set i (.own d)) := rfl
@[simp] theorem kSO_i : kSO cs i d (some (.io x)) = some (cs.set i (.io d)) := rfl
def kCI4 (z : D) (o : Option En) : OE := o.bind fun c => some (z, false, c)
def kCI3 (i : Nat) (c : En) (o : Option (D × Bool × D)) : OE := o.bind fun z => kCI4 z.1 (setOwn c i z.2.2)
def kCI2 (GG : GI) (i : Nat) (xs : List D) (c : En) (o : Option D) : OE := o.bind fun d => kCI3 i c (GG d xs)
def kCI1 (n : Nat) (GG : GI) (i : Nat) (o : Option (List D × En)) : OE := o.bind fun r => if r.1.length + 1 = n then kCI2 GG i r.1 r.2 (cont r.2 i) else none
def kCI0 (n : Nat) (GG : GI) (i : Nat) (fs : AX) (cs : En) (b : Bool) : OE := if b = true then kCI1 n GG i (fs cs) else none
@[simp] theorem evCI_ap : evCI n GG i fs cs = kCI0 n GG i fs cs (isOwn cs i) := rfl
@[simp] theorem kCI0_t : kCI0 n GG i fs cs true = kCI1 n GG i (fs cs) := rfl
@[simp] theorem kCI1_s : kCI1 n GG i (some (xs, c)) = if xs.length + 1 = n then kCI2 GG i xs c (cont c i) else none := rfl
@[simp] theorem kCI2_s : kCI2 GG i xs c (some d) = kCI3 i c (GG d xs) := rfl
@[simp] theorem kCI3_s : kCI3 i c (some (x, fr, d)) = kCI4 x (setOwn c i d) := rfl
@[simp] theorem kCI4_s : kCI4 x (some c) = some (x, false, c) := rfl
@[simp] theorem outP_r : outP (some (.rt d fr c)) = some (d, fr) := rfl
@[simp] theorem outP_n : outP (some (.nx c)) = some (.none, false) := rfl
def kIo (o : Option Cell) : Option D := match o with
  | some (.io d) => some d
  | _ => none
@[simp] theorem io0_ap : io0 cs = kIo cs[(0 : Nat)]? := rfl
@[simp] theorem kIo_i : kIo (some (.io d)) = some d := rfl
def kOut (x : D) (fr : Bool) (o : Option D) : Option (D × Bool × D) := o.bind fun d' => some (x, fr, d')
@[simp] theorem outI_r : outI (some (.rt d fr c)) = kOut d fr (io0 c) := rfl
@[simp] theorem outI_n : outI (some (.nx c)) = kOut .none false (io0 c) := rfl
@[simp] theorem kOut_s : kOut x fr (some d) = some (x, fr, d) := rfl
/-! ### operators -/
variable {j k : Int}
@[simp] theorem gAdd_i : gAdd (.int j) (.int k) = some (.int (j + k), false) := rfl
@[simp] theorem gAddI_i : gAddI (.int j) (.int k) = some (.int (j + k), false) := rfl
@[simp] theorem gSub_i : gSub (.int j) (.int k) = some (.int (j - k), false) := rfl
@[simp] theorem gLt_i : gLt (.int j) (.int k) = some (.bool (decide (j < k)), false) := rfl
@[simp] theorem gLe_i : gLe (.int j) (.int k) = some (.bool (decide (j ≤ k)), false) := rfl
@[simp] theorem gGt_i : gGt (.int j) (.int k) = some (.bool (decide (k < j)), false) := rfl
@[simp] theorem gGe_i : gGe (.int j) (.int k) = some (.bool (decide (k ≤ j)), false) := rfl
@[simp] theorem gNeg_i : gNeg (.int j) = some (.int (-j), false) := rfl
theorem gMod_i (h : 0 < k) : gMod (.int j) (.int k) = some (.int (j % k), false) := by
  show (if decide (0 < k) = true then _ else _) = _
  rw [if_pos (decide_eq_true h)]
theorem gFdiv_i (h : 0 < k) (h2 : k < 1073741824) : gFdiv (.int j) (.int k) = some (.int (j / k), false) := by
  show (if (decide (0 < k) && decide (k < 1073741824)) = true then _ else _) = _
  rw [if_pos (by simp [h, h2])]
theorem gMul_r (h : -(2 ^ 64) < k) (h2 : k < 2 ^ 64) : gMul (.int j) (.int k) = some (.int (j * k), false) := by
  show (if ((decide (-(2 ^ 64) < j) && decide (j < 2 ^ 64)) || (decide (-(2 ^ 64) < k) && decide (k < 2 ^ 64))) = true then _ else _) = _
  rw [if_pos (by rw [decide_eq_true h, decide_eq_true h2, Bool.and_self, Bool.or_true])]
theorem gMul_l (h : -(2 ^ 64) < j) (h2 : j < 2 ^ 64) : gMul (.int j) (.int k) = some (.int (j * k), false) := by
  show (if ((decide (-(2 ^ 64) < j) && decide (j < 2 ^ 64)) || (decide (-(2 ^ 64) < k) && decide (k < 2 ^ 64))) = true then _ else _) = _
  rw [if_pos (by rw [decide_eq_true h, decide_eq_true h2, Bool.and_self, Bool.true_or])]
@[simp] theorem gEq_i : gEq (.int j) (.int k) = some (.bool (j == k), false) := rfl
@[simp] theorem gNe_i : gNe (.int j) (.int k) = some (.bool (!(j == k)), false) := rfl
@[simp] theorem gIsN_s : gIsN d .none = some (.bool (isNone d), false) := rfl
@[simp] theorem gNotN_s : gNotN d .none = some (.bool (!isNone d), false) := rfl
@[simp] theorem gLen_l : gLen (.list xs) = some (.int xs.length, false) := rfl
@[simp] theorem gLen_t : gLen (.tuple xs) = some (.int xs.length, false) := rfl
theorem gLen_s {w : Str} (h : w.length ≤ LIM) : gLen (.str w) = some (.int w.length, false) := by
  show (if w.length ≤ LIM then _ else _) = _
  rw [if_pos h]
@[simp] theorem gInt_i : gInt [.int j] = some (.int j, false) := rfl
@[simp] theorem gList_l : gList (.list xs) = some (.list xs, true) := rfl
@[simp] theorem gList_t : gList (.tuple xs) = some (.list xs, true) := rfl
@[simp] theorem gTuple_l : gTuple (.list xs) = some (.tuple xs, false) := rfl
@[simp] theorem gTuple_t : gTuple (.tuple xs) = some (.tuple xs, false) := rfl
theorem gTupD_of (h : xs.length ≤ LIM) : gTupD xs = some (.tuple xs, false) := if_pos h
theorem gLstD_of (h : xs.length ≤ LIM) : gLstD xs = some (.list xs, true) := if_pos h
@[simp] theorem gLst0 : gLstD [] = some (.list [], true) := rfl
@[simp] theorem gLst1 : gLstD [x] = some (.list [x], true) := gLstD_of (by show 1 ≤ LIM; decide)
@[simp] theorem gLst2 : gLstD [x, y] = some (.list [x, y], true) := gLstD_of (by show 2 ≤ LIM; decide)
@[simp] theorem gLst3 : gLstD [x, y, z] = some (.list [x, y, z], true) := gLstD_of (by show 3 ≤ LIM; decide)
@[simp] theorem gLst4 : gLstD [x, y, z, d] = some (.list [x, y, z, d], true) := gLstD_of (by show 4 ≤ LIM; decide)
@[simp] theorem gTup0 : gTupD [] = some (.tuple [], false) := rfl
@[simp] theorem gTup1 : gTupD [x] = some (.tuple [x], false) := gTupD_of (by show 1 ≤ LIM; decide)
@[simp] theorem gTup2 : gTupD [x, y] = some (.tuple [x, y], false) := gTupD_of (by show 2 ≤ LIM; decide)
@[simp] theorem gTup3 : gTupD [x, y, z] = some (.tuple [x, y, z], false) := gTupD_of (by show 3 ≤ LIM; decide)
@[simp] theorem gTup4 : gTupD [x, y, z, d] = some (.tuple [x, y, z, d], false) := gTupD_of (by show 4 ≤ LIM; decide)
def kIx (o : Option D) : Option (D × Bool) := o.bind fun d => some (d, false)
@[simp] theorem kIx_s : kIx (some d) = some (d, false) := rfl
@[simp] theorem gIx_l : gIx (.list xs) (.int j) = kIx (atD xs j) := rfl
@[simp] theorem gIx_t : gIx (.tuple xs) (.int j) = kIx (atD xs j) := rfl
theorem atD_of (h : 0 ≤ j) (h2 : j < xs.length) : atD xs j = xs[j.toNat]? := by
  unfold atD ixN
  rw [if_pos h, if_pos h2]
  rfl
@[simp] theorem atD0 : atD (x :: xs) 0 = some x := by
  rw [atD_of (by decide) (by simp; try omega)]
  rfl
@[simp] theorem atD1 : atD (x :: y :: xs) 1 = some y := by
  rw [atD_of (by decide) (by simp; try omega)]
  rfl
@[simp] theorem atD2 : atD (x :: y :: z :: xs) 2 = some z := by
  rw [atD_of (by decide) (by simp; try omega)]
  rfl
@[simp] theorem atD3 : atD (x :: y :: z :: d :: xs) 3 = some d := by
  rw [atD_of (by decide) (by simp; omega)]
  rfl
theorem fSet_of {k : Int} (h : 0 ≤ k) (h2 : k < xs.length) : fSet (.int k) d (.list xs) = some (.list (xs.set k.toNat d)) := by
  show ((ixN xs.length k).bind fun j => some (PyData.list (xs.set j d))) = _
  unfold ixN
  rw [if_pos h, if_pos h2]
  rfl
@[simp] theorem fSet0 : fSet (.int 0) d (.list (x :: xs)) = some (.list (d :: xs)) := by
  rw [fSet_of (by decide) (by simp; try omega)]
  rfl
@[simp] theorem fSet1 : fSet (.int 1) d (.list (x :: y :: xs)) = some (.list (x :: d :: xs)) := by
  rw [fSet_of (by decide) (by simp; try omega)]
  rfl
@[simp] theorem fSet2 : fSet (.int 2) d (.list (x :: y :: z :: xs)) = some (.list (x :: y :: d :: xs)) := by
  rw [fSet_of (by decide) (by simp; try omega)]
  rfl
variable {w : D}
@[simp] theorem fSet3 : fSet (.int 3) d (.list (x :: y :: z :: w :: xs)) = some (.list (x :: y :: z :: d :: xs)) := by
  rw [fSet_of (by decide) (by simp; try omega)]
  rfl
@[simp] theorem getL0 : getL (.list (x :: xs)) (.int 0) = some x := rfl
@[simp] theorem getL1 : getL (.list (x :: y :: xs)) (.int 1) = some y := rfl
@[simp] theorem getL2 : getL (.list (x :: y :: z :: xs)) (.int 2) = some z := rfl
@[simp] theorem getL3 : getL (.list (x :: y :: z :: w :: xs)) (.int 3) = some w := rfl
theorem gPow_i {j k : Int} (h : 0 ≤ k) (h2 : k ≤ 1000000) (h3 : j.natAbs < 2 ^ 64) : gPow (.int j) (.int k) = some (.int (j ^ k.toNat), false) := by
  show (if (decide (0 ≤ k) && (decide (k ≤ 1000000) && decide (j.natAbs < 2 ^ 64))) = true then _ else _) = _
  rw [if_pos (by simp [h, h2]; exact h3)]
@[simp] theorem gPow18 : gPow (.int 10) (.int 18) = some (.int 1000000000000000000, false) := by
  rw [gPow_i (by decide) (by decide) (by decide)]
  rfl
theorem atD_ints {ns : List Int} {j : Int} (h : 0 ≤ j) (h2 : j < ns.length) : ∃ v, ns[j.toNat]? = some v ∧ atD (ns.map PyData.int) j = some (.int v) := by
  have hj : j.toNat < ns.length := by omega
  refine ⟨ns[j.toNat], List.getElem?_eq_getElem hj, ?_⟩
  rw [atD_of h (by rw [List.length_map]; exact h2), List.getElem?_map, List.getElem?_eq_getElem hj]
  rfl
end
end Qp
end
section
set_option Elab.async false
set_option linter.all false
set_option maxRecDepth 100000
set_option maxHeartbeats 2000000
/-! Qm: texts as lists of codes; loops by an invariant. -/
namespace Qp
open PySem PySem.Spec PyProof.Rows L2
def strD (l : List Nat) : D := .str ⟨l.toArray⟩
theorem strD_inj {l m : List Nat} (h : strD l = strD m) : l = m := by
  unfold strD at h
  injection h with h
  injection h with h
  simpa using h
theorem str_cps (s : Str) : PyData.str s = strD s.cps.toList := by
  unfold strD
  rw [Array.toArray_toList]
theorem str_app (l m : List Nat) : (⟨l.toArray⟩ : Str) ++ ⟨m.toArray⟩ = ⟨(l ++ m).toArray⟩ := by
  show Str.append _ _ = _
  unfold Str.append
  simp
theorem str_len (l : List Nat) : (⟨l.toArray⟩ : Str).length = l.length := by simp [Str.length]
theorem gAdd_str {l m : List Nat} (h : l.length + m.length ≤ LIM) : gAdd (strD l) (strD m) = some (strD (l ++ m), false) := by
  show (if (⟨l.toArray⟩ : Str).length + (⟨m.toArray⟩ : Str).length ≤ LIM then _ else _) = _
  rw [str_len, str_len, if_pos h, str_app]
  rfl
theorem gLen_str {l : List Nat} (h : l.length ≤ LIM) : gLen (strD l) = some (.int l.length, false) := by
  show (if (⟨l.toArray⟩ : Str).length ≤ LIM then some (PyData.int ((⟨l.toArray⟩ : Str).length : Nat), false) else _) = _
  rw [str_len, if_pos h]
theorem gIx_str {l : List Nat} {j : Int} {c : Nat} (h : l.length ≤ LIM) (h0 : 0 ≤ j) (h1 : l[j.toNat]? = some c) : gIx (strD l) (.int j) = some (strD [c], false) := by
  have hj : j.toNat < l.length := (List.getElem?_eq_some_iff.mp h1).1
  show (if (⟨l.toArray⟩ : Str).length ≤ LIM then (atI l.toArray.toList j).bind fun c => some (PyData.str ⟨#[c]⟩, false) else none) = _
  rw [str_len, if_pos h]
  unfold atI ixN
  rw [if_pos h0, if_pos (by simp; omega)]
  show ((l.toArray.toList[j.toNat]?).bind fun c => some (PyData.str ⟨#[c]⟩, false)) = _
  rw [show l.toArray.toList = l by simp, h1]
  rfl
theorem gSl_str {l : List Nat} {a b : Nat} (h : l.length ≤ LIM) (hb : b ≤ l.length) : gSl (strD l) (some (a : Int)) (some (b : Int)) = some (strD ((l.drop a).take (b - a)), false) := by
  show (if (⟨l.toArray⟩ : Str).length ≤ LIM then some (PyData.str (cutS ⟨l.toArray⟩ (some (a : Int)) (some (b : Int))), false) else none) = _
  rw [str_len, if_pos h]
  unfold cutS strD
  rw [str_len, HT.sIx_nat, HT.sIx_nat, show l.toArray.toList = l by simp]
  have e : min b l.length = b := Nat.min_eq_left hb
  rw [e]
  by_cases ha : a ≤ l.length
  · rw [Nat.min_eq_left ha]
  · rw [Nat.min_eq_right (by omega), List.drop_eq_nil_of_le (Nat.le_refl _), List.drop_eq_nil_of_le (by omega), List.take_nil, List.take_nil]
theorem gSl_strTo {l : List Nat} {b : Nat} (h : l.length ≤ LIM) (hb : b ≤ l.length) : gSl (strD l) none (some (b : Int)) = some (strD (l.take b), false) := by
  show (if (⟨l.toArray⟩ : Str).length ≤ LIM then some (PyData.str (cutS ⟨l.toArray⟩ none (some (b : Int))), false) else none) = _
  rw [str_len, if_pos h]
  unfold cutS strD
  rw [str_len, HT.sIx_nat, HT.sIx_none, show l.toArray.toList = l by simp, Nat.min_eq_left hb, List.drop_zero, Nat.sub_zero]
theorem shaped_str {l : List Nat} (h : ∀ c ∈ l, c < 0x110000) : SeqAt.shaped (strD l) = true := by
  show (PyData.canLay0 (.str ⟨l.toArray⟩) && decide (PyData.depth (.str ⟨l.toArray⟩) ≤ 64)) = true
  have h1 : PyData.canLay0 (.str ⟨l.toArray⟩) = true := by
    simp only [PyData.canLay0, PyData.strOk]
    rw [Array.all_eq_true']
    intro c hc
    exact decide_eq_true (h c (by simpa using hc))
  rw [h1]
  rfl
theorem eqv_str {l m : List Nat} : PyData.eqv (strD l) (strD m) = (l == m) := by
  show ((⟨l.toArray⟩ : Str) == ⟨m.toArray⟩) = (l == m)
  rw [Bool.eq_iff_iff, beq_iff_eq, beq_iff_eq]
  constructor
  · intro h
    injection h with h
    simpa using h
  · intro h
    rw [h]
theorem gEq_str {l m : List Nat} (h : ∀ c ∈ l, c < 0x110000) (h' : ∀ c ∈ m, c < 0x110000) : gEq (strD l) (strD m) = some (.bool (l == m), false) := by
  unfold gEq
  rw [shaped_str h, shaped_str h', eqv_str]
  rfl
@[simp] theorem isNone_str (l : List Nat) : isNone (strD l) = false := rfl
@[simp] theorem isT_str (n : String) (l : List Nat) : isT n (strD l) = (n == "str") := rfl
@[simp] theorem flatD_str (l : List Nat) : flatD (strD l) = true := rfl
theorem strsOf_map : ∀ ls : List (List Nat), strsOf (ls.map strD) = some (ls.map fun l => (⟨l.toArray⟩ : Str))
  | [] => rfl
  | l :: r => by
    show ((strsOf (r.map strD)).bind fun t => some ((⟨l.toArray⟩ : Str) :: t)) = _
    rw [strsOf_map r]
    rfl
theorem joinL_nil : ∀ ls : List (List Nat), TL.joinL [] ls = ls.flatten
  | [] => rfl
  | [p] => by simp [TL.joinL]
  | p :: q :: r => by
    show p ++ ([] ++ TL.joinL [] (q :: r)) = _
    rw [joinL_nil (q :: r)]
    simp
theorem sum_len (ls : List (List Nat)) : ((ls.map fun l => (⟨l.toArray⟩ : Str)).map (·.length)).sum = ls.flatten.length := by
  induction ls with
  | nil => rfl
  | cons l r ih =>
    rw [List.map_cons, List.map_cons, List.sum_cons, ih, List.flatten_cons, List.length_append, str_len]
theorem gJoin_nil {ls : List (List Nat)} (h : ls.flatten.length ≤ LIM) {s : Str} (hs : s = ⟨#[]⟩) : gJoin s (.list (ls.map strD)) = some (strD ls.flatten, false) := by
  subst hs
  show ((strsOf (ls.map strD)).bind _) = _
  rw [strsOf_map, Option.bind_some, sum_len]
  rw [if_pos (by show _ + _ * 0 ≤ LIM; omega)]
  have e : Txt.join ⟨#[]⟩ (ls.map fun l => (⟨l.toArray⟩ : Str)) = ⟨ls.flatten.toArray⟩ := by
    refine ext_toList ?_
    rw [TL.join_eq]
    have := TL.tl_join ⟨#[]⟩ (ls.map fun l => (⟨l.toArray⟩ : Str))
    rw [show TL.tl (⟨#[]⟩ : Str) = [] from rfl, joinL_nil, List.map_map] at this
    rw [show (TL.tl ∘ fun l => (⟨l.toArray⟩ : Str)) = fun l : List Nat => l from funext fun l => by simp [TL.tl], List.map_id'] at this
    simpa using this
  rw [e]
  rfl
/-! ### loops -/
theorem loopF_inv {ft : GX} {body : SX} (I : Nat → En → Prop) (items : List D) (h : ∀ i x c, items[i]? = some x → I i c → ∃ c1 c2, ft x c = some c1 ∧ body c1 = some (.nx c2) ∧ I (i + 1) c2) {cs : En} (h0 : I 0 cs) : ∃ c, loopF ft body items cs = some (.nx c) ∧ I items.length c := by
  have gen : ∀ (k : Nat) (r : List D) (i : Nat) (c : En), r.length = k → items.drop i = r → I i c → ∃ c', loopF ft body r c = some (.nx c') ∧ I (i + r.length) c' := by
    intro k
    induction k with
    | zero =>
      intro r i c hr hd hi
      rw [List.length_eq_zero_iff] at hr
      subst hr
      exact ⟨c, rfl, hi⟩
    | succ k ih =>
      intro r i c hr hd hi
      cases r with
      | nil => cases hr
      | cons x r =>
        have hx : items[i]? = some x := by
          have := congrArg (fun l => l[0]?) hd
          simpa using this
        obtain ⟨c1, c2, e1, e2, e3⟩ := h i x c hx hi
        have hd' : items.drop (i + 1) = r := by
          have := congrArg (List.drop 1) hd
          simpa [List.drop_drop, Nat.add_comm] using this
        obtain ⟨c', q1, q2⟩ := ih r (i + 1) c2 (by simpa using hr) hd' e3
        refine ⟨c', ?_, by rw [List.length_cons, show i + (r.length + 1) = i + 1 + r.length by omega]; exact q2⟩
        rw [loopF_cons, e1, kL1_s, e2, kL2_n]
        exact q1
  obtain ⟨c, q1, q2⟩ := gen items.length items 0 cs rfl (by simp) h0
  exact ⟨c, q1, by simpa using q2⟩
/-- a loop that may end early by a return -/
theorem loopF_search {ft : GX} {body : SX} (I : Nat → En → Prop) (R : Res → Prop) (items : List D) (h : ∀ i x c, items[i]? = some x → I i c → ∃ c1, ft x c = some c1 ∧ ((∃ c2, body c1 = some (.nx c2) ∧ I (i + 1) c2) ∨ ∃ d fr c2, body c1 = some (.rt d fr c2) ∧ R (.rt d fr c2))) {cs : En} (h0 : I 0 cs) :
    (∃ c, loopF ft body items cs = some (.nx c) ∧ I items.length c) ∨ ∃ d fr c, loopF ft body items cs = some (.rt d fr c) ∧ R (.rt d fr c) := by
  have gen : ∀ (k : Nat) (r : List D) (i : Nat) (c : En), r.length = k → items.drop i = r → I i c → (∃ c', loopF ft body r c = some (.nx c') ∧ I (i + r.length) c') ∨ ∃ d fr c', loopF ft body r c = some (.rt d fr c') ∧ R (.rt d fr c') := by
    intro k
    induction k with
    | zero =>
      intro r i c hr hd hi
      rw [List.length_eq_zero_iff] at hr
      subst hr
      exact .inl ⟨c, rfl, hi⟩
    | succ k ih =>
      intro r i c hr hd hi
      cases r with
      | nil => cases hr
      | cons x r =>
        have hx : items[i]? = some x := by
          have := congrArg (fun l => l[0]?) hd
          simpa using this
        have hd' : items.drop (i + 1) = r := by
          have := congrArg (List.drop 1) hd
          simpa [List.drop_drop, Nat.add_comm] using this
        obtain ⟨c1, e1, ⟨c2, e2, e3⟩ | ⟨d, fr, c2, e2, e3⟩⟩ := h i x c hx hi
        · rcases ih r (i + 1) c2 (by simpa using hr) hd' e3 with ⟨c', q1, q2⟩ | ⟨d, fr, c', q1, q2⟩
          · refine .inl ⟨c', ?_, by rw [List.length_cons, show i + (r.length + 1) = i + 1 + r.length by omega]; exact q2⟩
            rw [loopF_cons, e1, kL1_s, e2, kL2_n]
            exact q1
          · refine .inr ⟨d, fr, c', ?_, q2⟩
            rw [loopF_cons, e1, kL1_s, e2, kL2_n]
            exact q1
        · refine .inr ⟨d, fr, c2, ?_, e3⟩
          rw [loopF_cons, e1, kL1_s, e2, kL2_r]
  rcases gen items.length items 0 cs rfl (by simp) h0 with ⟨c, q1, q2⟩ | z
  · exact .inl ⟨c, q1, by simpa using q2⟩
  · exact .inr z
theorem rng_item {lo : Int} {n i : Nat} {x : D} (h : (rngD lo n)[i]? = some x) : i < n ∧ x = .int (lo + (i : Int)) := rngD_get h
theorem rngD_zero (lo : Int) : rngD lo 0 = [] := rfl
/-! ### depth -/
theorem depthAll_mem : ∀ {ds : List D} {d : D}, d ∈ ds → d.depth ≤ PyData.depthAll ds
  | [], _, h => (by cases h)
  | x :: r, d, h => by
    simp only [PyData.depthAll]
    rcases List.mem_cons.mp h with e | e
    · rw [e]; exact Nat.le_max_left _ _
    · exact Nat.le_trans (depthAll_mem e) (Nat.le_max_right _ _)
end Qp
end
section
set_option Elab.async false
set_option linter.all false
set_option maxRecDepth 100000
set_option maxHeartbeats 2000000
/-! Qn: dicts; stars; isinstance of several; more of lists. -/
namespace Qp
open PySem PySem.Spec PyProof.Rows L2
section
variable {K : PySem.W.Frag} {F : Hp}
def isK (k : Key) : D → Bool
  | .int i => decide ((.inl i : Key) = k)
  | .str s => decide ((.inr s : Key) = k)
  | _ => false
theorem isK_kD (k j : Key) : isK k (kD j) = decide (j = k) := by cases j <;> rfl
def keyD : D → Option Key
  | .int i => some (.inl i)
  | .str s => some (.inr s)
  | _ => none
theorem key_rp {v : V} {d : D} {k : Key} (r : Rp K F v d) (h : keyD d = some k) : v = kV k := by
  unfold keyD at h
  split at h
  · cases h; exact r.int_eq
  · cases h; exact r.str_eq
  · cases h
def valD (es : List (D × D)) (k : Key) : Option D := (es.find? fun p => isK k p.1).map (·.2)
theorem val_pd {R : V → D → Prop} : ∀ {kvs : List (Key × V)} {es : List (D × D)}, es.map (·.1) = kvs.map (fun p => kD p.1) → Paired R (kvs.map (·.2)) (es.map (·.2)) → ∀ k, (valV kvs k = none ∧ valD es k = none) ∨ ∃ v d, valV kvs k = some v ∧ valD es k = some d ∧ R v d
  | [], [], _, _, k => .inl ⟨rfl, rfl⟩
  | [], _ :: _, e, _, _ => by simp at e
  | _ :: _, [], e, _, _ => by simp at e
  | (j, v) :: kvs, (x, d) :: es, e, .cons r t, k => by
    rw [List.map_cons, List.map_cons] at e
    injection e with e1 e2
    dsimp only at e1
    subst e1
    by_cases h : j = k
    · exact .inr ⟨v, d, valV_pos h, by simp [valD, isK_kD, h], r⟩
    · have := val_pd e2 t k
      rw [valV_neg (p := (j, v)) h]
      have e3 : valD ((kD j, d) :: es) k = valD es k := by simp [valD, isK_kD, h]
      rw [e3]
      exact this
def putD (es : List (D × D)) (k : Key) (d : D) : List (D × D) := if (es.any fun p => isK k p.1) = true then es.map (fun p => if isK k p.1 = true then (p.1, d) else p) else es ++ [(kD k, d)]
theorem any_pd : ∀ {kvs : List (Key × V)} {es : List (D × D)}, es.map (·.1) = kvs.map (fun p => kD p.1) → ∀ k, (es.any fun p => isK k p.1) = kvs.any fun p => decide (p.1 = k)
  | [], [], _, _ => rfl
  | [], _ :: _, e, _ => by simp at e
  | _ :: _, [], e, _ => by simp at e
  | (j, v) :: kvs, (x, d) :: es, e, k => by
    rw [List.map_cons, List.map_cons] at e
    injection e with e1 e2
    dsimp only at e1
    subst e1
    rw [List.any_cons, List.any_cons, any_pd e2 k, isK_kD]
theorem map_pd {R : V → D → Prop} {v : V} {d : D} {k : Key} (r : R v d) : ∀ {kvs : List (Key × V)} {es : List (D × D)}, es.map (·.1) = kvs.map (fun p => kD p.1) → Paired R (kvs.map (·.2)) (es.map (·.2)) →
    (es.map (fun p => if isK k p.1 = true then (p.1, d) else p)).map (·.1) = (kvs.map fun p => if p.1 = k then (p.1, v) else p).map (fun p => kD p.1) ∧ Paired R ((kvs.map fun p => if p.1 = k then (p.1, v) else p).map (·.2)) ((es.map (fun p => if isK k p.1 = true then (p.1, d) else p)).map (·.2))
  | [], [], _, _ => ⟨rfl, .nil⟩
  | [], _ :: _, e, _ => by simp at e
  | _ :: _, [], e, _ => by simp at e
  | (j, u) :: kvs, (x, c) :: es, e, .cons s t => by
    rw [List.map_cons, List.map_cons] at e
    injection e with e1 e2
    dsimp only at e1
    subst e1
    obtain ⟨h1, h2⟩ := map_pd r (k := k) e2 t
    by_cases h : j = k
    · simp only [List.map_cons, isK_kD, h, decide_true, if_true]
      exact ⟨by rw [h1], .cons r h2⟩
    · simp only [List.map_cons, isK_kD, h, decide_false, if_false, Bool.false_eq_true]
      exact ⟨by rw [h1], .cons s h2⟩
theorem put_pd {R : V → D → Prop} {v : V} {d : D} {k : Key} (r : R v d) {kvs : List (Key × V)} {es : List (D × D)} (e : es.map (·.1) = kvs.map (fun p => kD p.1)) (p : Paired R (kvs.map (·.2)) (es.map (·.2))) :
    (putD es k d).map (·.1) = (putK kvs k v).map (fun p => kD p.1) ∧ Paired R ((putK kvs k v).map (·.2)) ((putD es k d).map (·.2)) := by
  unfold putD putK
  rw [any_pd e k]
  split
  · exact map_pd r e p
  · constructor
    · rw [List.map_append, List.map_append, e]
      rfl
    · rw [List.map_append, List.map_append]
      exact Pd.append p (.cons r .nil)
theorem len_pd {kvs : List (Key × V)} {es : List (D × D)} (e : es.map (·.1) = kvs.map (fun p => kD p.1)) : kvs.length = es.length := by
  have := congrArg List.length e
  simpa using this.symm
theorem OwnAt.dict {o : Option HO} {es : List (D × D)} (h : OwnAt K F o (.dict es)) : ∃ kvs, o = Option.some (.dK kvs) ∧ es.map (·.1) = kvs.map (fun p => kD p.1) ∧ Paired (Rp K F) (kvs.map (·.2)) (es.map (·.2)) := by
  cases h with
  | dic e p => exact ⟨_, rfl, e, p⟩
theorem Vw.dict {H : Hp} {M : Addr → Prop} {v : V} {es : List (D × D)} (h : Vw K H M v (.dict es)) : ∃ a kvs, v = .ref a ∧ Rd H a (.dK kvs) ∧ es.map (·.1) = kvs.map (fun p => kD p.1) ∧ Paired (Rp K (cut H M)) (kvs.map (·.2)) (es.map (·.2)) := by
  cases h with
  | sc r _ h => exact absurd rfl (h _)
  | dic h e p => exact ⟨_, _, rfl, h, e, p⟩
end
section
variable {X : Cx} {K : PySem.W.Frag} {e a b : Expr} {es : List Expr} {te ta tb tk to : TE} {ts : TA} {fe fa fb fk : EX} {fs : AX} {pos fpos cpos xpos : Pos} {x : Str} {i : Nat}
def evDnew : EX := fun cs => some (.dict [], true, cs)
theorem de_dnew : DE X (.Dict [] [] pos) tDNewK evDnew := by
  refine ⟨pe_dnewK, ?_⟩
  intro B IO Z σ H cs ok d fr cs' e Q q
  cases e
  exact fun p hp => q _ _ (Pe.of (Post.refl ok) (Ex.new hp) (VOk.new hp ok.md (.dic rfl .nil)))
/-! ### reading -/
def gDget : G2 := fun d e => match d with
  | .dict es => (keyD e).bind fun k => (valD es k).bind fun v => some (v, false)
  | _ => none
def rDGet : R2 := fun x y H Q => ∃ a v, x = V.ref a ∧ DGet H a y (some v) ∧ Q v H
theorem sw_dget : SRw K rDGet gDget := by
  intro H M hm x y d e rx ry z fr q Q k
  unfold gDget at q
  split at q
  · obtain ⟨kk, h1, q⟩ := Option.bind_eq_some_iff.mp q
    obtain ⟨v, h2, q⟩ := Option.bind_eq_some_iff.mp q
    cases q
    obtain ⟨a, kvs, rfl, hr, he, hp⟩ := rx.dict
    rcases val_pd he hp kk with ⟨_, h3⟩ | ⟨u, v', h3, h4, h5⟩
    · rw [h2] at h3; cases h3
    · rw [h2] at h4
      cases h4
      exact ⟨a, u, rfl, .inl ⟨kvs, kk, hr, key_rp ry h1, h3.symm⟩, k _ H (Ex.refl H) (VOk.of h5)⟩
  · cases q
theorem de_dgetV (hu : X.A.units + 1 < cLine) (ha : DE X (.Name x xpos) (tVar i) (evVar i)) (hb : DE X b tb fb) (hs : NoSl b := by exact fun _ _ => rfl) : DE X (.Subscript (.Name x xpos) b pos) (tDGet (tVar i) tb) (evIxV gDget i fb) := ⟨pe_dget hu ha.pe hb.pe hs, se_ixv sw_dget hb.se⟩
theorem de_dget (hu : X.A.units + 1 < cLine) (ha : DE X a ta fa) (hb : DE X b tb fb) (hs : NoSl b := by exact fun _ _ => rfl) : DE X (.Subscript a b pos) (tDGet ta tb) (ev2 gDget fa fb) := ⟨pe_dget hu ha.pe hb.pe hs, se_2 ha.se hb.se sw_dget.two⟩
def gDin (neg : Bool) : G2 := fun e d => match d with
  | .dict es => (keyD e).bind fun k => some (.bool ((valD es k).isSome != neg), false)
  | _ => none
def rDIn : R2 := fun y x H Q => ∃ a o, x = V.ref a ∧ DGet H a y o ∧ Q (.bl o.isSome) H
def rDNotIn : R2 := fun y x H Q => ∃ a o, x = V.ref a ∧ DGet H a y o ∧ Q (.bl (!o.isSome)) H
theorem din_some {es : List (D × D)} {kvs : List (Key × V)} {R : V → D → Prop} (he : es.map (·.1) = kvs.map (fun p => kD p.1)) (hp : Paired R (kvs.map (·.2)) (es.map (·.2))) (k : Key) : (valV kvs k).isSome = (valD es k).isSome := by
  rcases val_pd he hp k with ⟨h1, h2⟩ | ⟨_, _, h1, h2, _⟩ <;> rw [h1, h2] <;> rfl
theorem sw_din : SRw2 K rDIn (gDin false) := by
  intro H M hm x y d e rx ry z fr q Q k
  unfold gDin at q
  split at q
  · obtain ⟨kk, h1, q⟩ := Option.bind_eq_some_iff.mp q
    cases q
    obtain ⟨a, kvs, rfl, hr, he, hp⟩ := ry.dict
    refine ⟨a, _, rfl, .inl ⟨kvs, kk, hr, key_rp rx h1, rfl⟩, ?_⟩
    rw [din_some he hp]
    refine k _ H (Ex.refl H) (VOk.of ?_)
    rw [Bool.bne_false]
    exact .bl _
  · cases q
theorem sw_dnotin : SRw2 K rDNotIn (gDin true) := by
  intro H M hm x y d e rx ry z fr q Q k
  unfold gDin at q
  split at q
  · obtain ⟨kk, h1, q⟩ := Option.bind_eq_some_iff.mp q
    cases q
    obtain ⟨a, kvs, rfl, hr, he, hp⟩ := ry.dict
    refine ⟨a, _, rfl, .inl ⟨kvs, kk, hr, key_rp rx h1, rfl⟩, ?_⟩
    rw [din_some he hp]
    refine k _ H (Ex.refl H) (VOk.of ?_)
    rw [Bool.bne_true]
    exact .bl _
  · cases q
theorem de_dinV (hu : X.A.units + 1 < cLine) (ha : DE X a ta fa) (hb : DE X (.Name x xpos) (tVar i) (evVar i)) : DE X (.Compare a [.In] [.Name x xpos] pos) (tDIn ta (tVar i)) (evVIn (gDin false) fa i) := ⟨pe_cmp (pc_din hu ha.pe hb.pe), se_inv sw_din ha.se⟩
theorem de_dnotinV (hu : X.A.units + 1 < cLine) (ha : DE X a ta fa) (hb : DE X (.Name x xpos) (tVar i) (evVar i)) : DE X (.Compare a [.NotIn] [.Name x xpos] pos) (tDNotIn ta (tVar i)) (evVIn (gDin true) fa i) := ⟨pe_cmp (pc_dnotin hu ha.pe hb.pe), se_inv sw_dnotin ha.se⟩
theorem dt_dinV (hu : X.A.units + 1 < cLine) (ha : DE X a ta fa) (hb : DE X (.Name x xpos) (tVar i) (evVar i)) : DT X (.Compare a [.In] [.Name x xpos] pos) (tB (tDIn ta (tVar i))) (evT (evVIn (gDin false) fa i)) := ⟨pt_cmp (pc_din hu ha.pe hb.pe), st_test (se_inv sw_din ha.se)⟩
theorem dt_dnotinV (hu : X.A.units + 1 < cLine) (ha : DE X a ta fa) (hb : DE X (.Name x xpos) (tVar i) (evVar i)) : DT X (.Compare a [.NotIn] [.Name x xpos] pos) (tB (tDNotIn ta (tVar i))) (evT (evVIn (gDin true) fa i)) := ⟨pt_cmp (pc_dnotin hu ha.pe hb.pe), st_test (se_inv sw_dnotin ha.se)⟩
/-! ### an owned dict -/
def ownD (cs : En) (i : Nat) : Option (List (D × D)) := match cs[i]? with
  | some (.own (.dict es)) => some es
  | some (.io (.dict es)) => some es
  | _ => none
theorem Ok.ownD {B : Hp} {IO : List (Nat × Addr)} {Z : Addr → Prop} {σ : St} {H : Hp} {cs : En} {i : Nat} {es : List (D × D)} (ok : Ok K B IO Z σ H cs) (h : ownD cs i = some es) :
    ∃ a kvs, σ[i]? = some (some (.ref a)) ∧ H a = some (.dK kvs) ∧ es.map (·.1) = kvs.map (fun p => kD p.1) ∧ Paired (Rp K (cut H (Md σ cs Z))) (kvs.map (·.2)) (es.map (·.2)) ∧ Md σ cs Z a := by
  unfold Qp.ownD at h
  split at h
  · rename_i ds hd
    cases h
    obtain ⟨a, h1, h2⟩ := ok.own i _ (.inl hd)
    obtain ⟨kvs, h3, h4, h5⟩ := h2.dict
    exact ⟨a, kvs, h1, h3, h4, h5, .inr ⟨i, h1, _, .inl hd⟩⟩
  · rename_i ds hd
    cases h
    obtain ⟨a, h1, h2⟩ := ok.own i _ (.inr hd)
    obtain ⟨kvs, h3, h4, h5⟩ := h2.dict
    exact ⟨a, kvs, h1, h3, h4, h5, .inr ⟨i, h1, _, .inr hd⟩⟩
  · cases h
def evLenD (i : Nat) : EX := fun cs => (ownD cs i).bind fun es => some (.int es.length, false, cs)
theorem de_lenD (hg : Gl X "len") (hm : X.mg "len" = none) (ha : DE X (.Name x xpos) (tVar i) (evVar i)) :
    DE X (.Call (.Name "len" fpos) [.Name x xpos] [] cpos) (tCB (fun xs H Q => ∃ a kvs, xs = [V.ref a] ∧ H a = some (HO.dK kvs) ∧ Q (V.int ↑kvs.length) H) (tCons (tVar i) tNil)) (evLenD i) := by
  refine ⟨pe_callB call_lenD hg hm PySem.boot_len (pa_cons ha.pe pa_nil), ?_⟩
  intro B IO Z σ H cs ok d fr cs' e Q q
  unfold evLenD at e
  obtain ⟨es, e1, e⟩ := Option.bind_eq_some_iff.mp e
  cases e
  obtain ⟨a, kvs, h1, h2, h3, _, _⟩ := ok.ownD e1
  refine ⟨_, h1, a, kvs, rfl, h2, q _ H (.dat (Post.refl ok) ?_)⟩
  rw [len_pd h3]
  exact .int _
def fPut (k : Key) (d : D) : D → Option D
  | .dict es => if es.length < LIM then some (.dict (putD es k d)) else none
  | _ => none
theorem Ok.put {B : Hp} {IO : List (Nat × Addr)} {Z : Addr → Prop} {σ : St} {H : Hp} {cs cs' : En} {i : Nat} {k : Key} {d : D} {v : V} (ok : Ok K B IO Z σ H cs) (e : Qp.upL cs i (fPut k d) = some cs') (r : Rp K (cut H (Md σ cs Z)) v d) {a : Addr} (hs : σ[i]? = some (some (.ref a))) :
    ∃ kvs, H a = some (.dK kvs) ∧ kvs.length < sizeLine ∧ Post K B IO Z σ H cs σ (upd H a (.dK (putK kvs k v))) cs' := by
  obtain ⟨a', d0, d', h1, h2, h3, kk⟩ := ok.upL e
  rw [hs] at h1
  cases h1
  have m := ok_md (Z := Z) e hs
  unfold fPut at h2
  split at h2
  · split at h2
    · rename_i hl
      cases h2
      obtain ⟨kvs, h4, h5, h6⟩ := h3.dict
      refine ⟨kvs, h4, by rw [len_pd h5]; exact lim_lt hl, kk _ upd_kept ?_⟩
      rw [upd_same]
      have := put_pd (k := k) (R := Rp K (cut H (Md σ cs Z))) r h5 h6
      exact .dic this.1 (Rp.monoA (cut_upd m) this.2)
    · cases h2
  · cases h2
def evSetd (i : Nat) (fk fe : EX) : EX := fun cs => (ownD cs i).bind fun _ => (fk cs).bind fun s => (fe s.2.2).bind fun r => (ownD r.2.2 i).bind fun es => (keyD s.1).bind fun k => if es.length < LIM then (match valD es k with
    | some o => some (o, false, r.2.2)
    | none => (upL r.2.2 i (fPut k r.1)).bind fun c => some (r.1, false, c)) else none
theorem de_setd {apos : Pos} (ha : DE X (.Name x xpos) (tVar i) (evVar i)) (hk : DE X a tk fk) (he : DE X e te fe) (m : M2 X (.Name x xpos) "setdefault" apos a e cpos) :
    DE X (.Call (.Attribute (.Name x xpos) "setdefault" apos) [a, e] [] cpos) (tDSetd (tVar i) tk te) (evSetd i fk fe) := by
  refine ⟨pe_dsetd ha.pe hk.pe he.pe m, ?_⟩
  intro B IO Z σ H cs ok d fr cs' e Q q
  unfold evSetd at e
  obtain ⟨es0, e0, e⟩ := Option.bind_eq_some_iff.mp e
  obtain ⟨⟨d1, f1, c1⟩, e1, e⟩ := Option.bind_eq_some_iff.mp e
  obtain ⟨⟨d2, f2, c2⟩, e2, e⟩ := Option.bind_eq_some_iff.mp e
  obtain ⟨es, e3, e⟩ := Option.bind_eq_some_iff.mp e
  obtain ⟨k, e4, e⟩ := Option.bind_eq_some_iff.mp e
  obtain ⟨a0, kvs0, hs, h2, _, _, _⟩ := ok.ownD e0
  dsimp only at e3 e4 e
  split at e
  · rename_i hl
    refine ⟨_, hs, a0, rfl, .inl ⟨kvs0, .inl h2⟩, hk.se ok e1 _ fun y H1 w1 => he.se w1.post.ok e2 _ fun z H2 w2 => ?_⟩
    have p := w1.post.trans w2.post
    obtain ⟨a1, kvs, hs', h3, h4, h5, _⟩ := w2.post.ok.ownD e3
    rw [hs] at hs'
    cases hs'
    refine ⟨kvs, k, h3, key_rp w1.rp e4, by rw [len_pd h4]; exact lim_lt hl, fun v hv => ?_, fun hv => ?_⟩
    · rcases val_pd h4 h5 k with ⟨n1, _⟩ | ⟨v', o, n1, n2, n3⟩
      · rw [hv] at n1; cases n1
      · rw [hv] at n1
        cases n1
        rw [n2] at e
        cases e
        exact q v H2 (.dat p n3)
    · rcases val_pd h4 h5 k with ⟨_, n2⟩ | ⟨v', o, n1, _, _⟩
      · rw [n2] at e
        obtain ⟨c3, e5, e⟩ := Option.bind_eq_some_iff.mp e
        cases e
        obtain ⟨kvs', g1, g2, g3⟩ := w2.post.ok.put e5 w2.rp hs
        rw [h3] at g1
        cases g1
        exact q z _ (.dat (p.trans g3) (w2.rp.mono g3.le))
      · rw [hv] at n1; cases n1
  · cases e
def isOwnD (cs : En) (i : Nat) : Bool := (ownD cs i).isSome
def sDput (i : Nat) (fk fe : EX) : SX := fun cs => (fe cs).bind fun r => (ownD r.2.2 i).bind fun _ => (fk r.2.2).bind fun s => (keyD s.1).bind fun k => (upL s.2.2 i (fPut k r.1)).bind fun c => some (.nx c)
theorem ds_dput {spos : Pos} (hu : X.A.units + 1 < cLine) (ha : DE X (.Name x xpos) (tVar i) (evVar i)) (hk : DE X a tk fk) (he : DE X e te fe) (hs : swapsWith e (some (.Subscript (.Name x xpos) a spos)) pos.line X.env = pure false := by rfl) :
    DS X (.Assign [.Subscript (.Name x xpos) a spos] e pos) (sDPut (tVar i) tk te) (sDput i fk fe) := by
  refine ⟨ps_dput hu ha.pe hk.pe he.pe hs, ?_⟩
  intro B IO Z σ H cs ok r e Dn q
  unfold sDput at e
  obtain ⟨⟨d1, f1, c1⟩, e1, e⟩ := Option.bind_eq_some_iff.mp e
  obtain ⟨es0, e0, e⟩ := Option.bind_eq_some_iff.mp e
  obtain ⟨⟨d2, f2, c2⟩, e2, e⟩ := Option.bind_eq_some_iff.mp e
  obtain ⟨k, e3, e⟩ := Option.bind_eq_some_iff.mp e
  obtain ⟨c3, e4, e⟩ := Option.bind_eq_some_iff.mp e
  cases e
  refine he.se ok e1 _ fun y H1 w1 => ?_
  obtain ⟨a0, kvs0, hs, h2, _, _, _⟩ := w1.post.ok.ownD e0
  refine ⟨_, hs, hk.se w1.post.ok e2 _ fun z H2 w2 => ?_⟩
  obtain ⟨kvs, g1, g2, g3⟩ := w2.post.ok.put e4 (w1.rp.mono w2.post.le) hs
  rw [key_rp w2.rp e3]
  exact ⟨a0, _, rfl, DPut.k g1 g2, q σ _ ((w1.post.trans w2.post).trans g3)⟩
/-! ### stars in displays -/
def evStar (f : EX) (g : AX) : AX := fun cs => (f cs).bind fun r => match r.1 with
  | .list ds => (g r.2.2).bind fun s => some (ds ++ s.1, s.2)
  | .tuple ds => (g r.2.2).bind fun s => some (ds ++ s.1, s.2)
  | _ => none
theorem da_star {p : Pos} (h : DE X e te fe) (hr : DA X es ts fs) (hs : starEach (.Starred e p :: es) X.env = (true, eval e X.env) :: starEach es X.env := by rfl) : DA X (.Starred e p :: es) (StX.tStar X.K te ts) (evStar fe fs) := by
  refine ⟨StX.pa_star h.pe hr.pa hs, ?_⟩
  intro B IO Z σ H cs ok ds cs' e Q q
  unfold evStar at e
  obtain ⟨⟨d1, f1, c1⟩, e1, e⟩ := Option.bind_eq_some_iff.mp e
  dsimp only at e
  refine h.se ok e1 _ fun x H1 w1 => ?_
  split at e
  · obtain ⟨⟨d2, c2⟩, e2, e⟩ := Option.bind_eq_some_iff.mp e
    cases e
    obtain ⟨a, xs, rfl, h1, h2⟩ := w1.rp.list
    exact ⟨a, xs, rfl, .inr (cut_le.sqL h1), hr.sa w1.post.ok e2 _ fun ys H2 p2 v2 => q _ H2 (w1.post.trans p2) (Pd.append (Rp.monoA p2.le h2) v2)⟩
  · obtain ⟨⟨d2, c2⟩, e2, e⟩ := Option.bind_eq_some_iff.mp e
    cases e
    obtain ⟨a, xs, rfl, h1, h2⟩ := w1.rp.tuple
    exact ⟨a, xs, rfl, .inl (cut_le.sqT h1), hr.sa w1.post.ok e2 _ fun ys H2 p2 v2 => q _ H2 (w1.post.trans p2) (Pd.append (Rp.monoA p2.le h2) v2)⟩
  · cases e
end
end Qp
end
section
set_option Elab.async false
set_option linter.all false
set_option maxRecDepth 100000
set_option maxHeartbeats 2000000
/-! Qo: more of lists; isinstance of several; truths. -/
namespace Qp
open PySem PySem.Spec PyProof.Rows L2
section
variable {X : Cx} {K : PySem.W.Frag} {e a b : Expr} {es : List Expr} {te ta tb tk to : TE} {ts : TA} {fe fa fb fk : EX} {fs : AX} {pos fpos cpos xpos apos : Pos} {x : Str} {i : Nat}
theorem ex_le {H H' : Hp} (x : Ex H H') : Le H H' := fun a u _ r => r.elim (fun r => .inl (x a _ r)) fun ⟨o, r⟩ => .inr ⟨o, x a _ r⟩
/-! ### xs.insert(k, e) -/
def fIns (k : Int) (d : D) : D → Option D
  | .list ds => if (decide (0 ≤ k) && (decide (k ≤ 1000000000) && decide (ds.length < LIM))) = true then some (.list (ds.take k.toNat ++ [d] ++ ds.drop k.toNat)) else none
  | _ => none
def intD : D → Option Int
  | .int i => some i
  | _ => none
theorem intD_eq {d : D} {j : Int} (h : intD d = some j) : d = .int j := by
  unfold intD at h
  split at h
  · cases h; rfl
  · cases h
def evIns (i : Nat) (fk fe : EX) : EX := fun cs => if isOwnL cs i = true then (fk cs).bind fun s => (intD s.1).bind fun j => (fe s.2.2).bind fun r => (upL r.2.2 i (fIns j r.1)).bind fun c => some (.none, false, c) else none
theorem de_ins (hv : DE X (.Name x xpos) (tVar i) (evVar i)) (hk : DE X a tk fk) (he : DE X e te fe)
    (hbase : attributeBase (.Name x xpos) "insert" X.env (eval (.Name x xpos) X.env) = eval (.Name x xpos) X.env := by rfl)
    (hfew : ((backTo pos (starEach [a, e] X.env)).all (fun x => !x.1) && (backToKw pos (keywordEach [] X.env)).all (fun x => x.1.isSome)
      && decide ([a, e].length + ([] : List Keyword).length + (if ([] : List Keyword).isEmpty then 0 else 1) < 30)) = true := by rfl)
    (hline : (apos.endLine == pos.line) = true := by rfl) (hs : starEach [a, e] X.env = (false, eval a X.env) :: starEach [e] X.env := by rfl) (hs2 : starEach [e] X.env = (false, eval e X.env) :: starEach [] X.env := by rfl) (hplain : (backTo pos (starEach [e] X.env)).any (·.1) = false := by rfl) :
    DE X (.Call (.Attribute (.Name x xpos) "insert" apos) [a, e] [] pos) (tBM X.K "list" (fun x vs H Q =>
    ∃ l xs i y, x = V.ref l ∧ vs = [V.int i, y] ∧ H l = some (HO.lst xs) ∧ xs.length < sizeLine ∧ 0 ≤ i ∧ i < 2 ^ 63 ∧ Q V.non (upd H l (HO.lst (List.take i.toNat xs ++ [y] ++ List.drop i.toNat xs)))) (tVar i) (tCons tk (tCons te tNil))) (evIns i fk fe) := by
  refine ⟨pe_bm PySem.F.plainAttrs_list PySem.F.slot_list_insert PySem.F.type_list_insert mt_insert hv.pe (pa_cons hk.pe (pa_cons he.pe pa_nil hs2) hs) hbase hfew hline hs hplain, ?_⟩
  intro B IO Z σ H cs ok d fr cs' e Q q
  unfold evIns at e
  split at e
  · rename_i ho
    obtain ⟨⟨d0, f0, c0⟩, e0, e⟩ := Option.bind_eq_some_iff.mp e
    obtain ⟨j, ej, e⟩ := Option.bind_eq_some_iff.mp e
    obtain ⟨⟨d1, f1, c1⟩, e1, e⟩ := Option.bind_eq_some_iff.mp e
    obtain ⟨c2, e2, e⟩ := Option.bind_eq_some_iff.mp e
    cases e
    obtain ⟨a0, xs, hs, hx, _⟩ := ok.ownL ho
    refine ⟨_, hs, .inl ⟨rfl, xs, SqL.of hx⟩, hk.se ok e0 _ fun z H0 w0 => he.se w0.post.ok e1 _ fun y H1 w1 => ?_⟩
    obtain ⟨a', d, d', h1, h2, h3, k⟩ := w1.post.ok.upL e2
    rw [hs] at h1
    cases h1
    have m := ok_md (Z := Z) e2 hs
    unfold fIns at h2
    split at h2
    · split at h2
      · rename_i hl
        rw [Bool.and_eq_true, Bool.and_eq_true, decide_eq_true_eq, decide_eq_true_eq, decide_eq_true_eq] at hl
        cases h2
        obtain ⟨ys, h4, h5⟩ := h3.list
        have rj := w0.rp
        dsimp only at ej
        rw [intD_eq ej] at rj
        refine ⟨a0, ys, j, y, rfl, by rw [rj.int_eq], h4, by rw [Pd.len h5]; exact lim_lt hl.2.2, hl.1, by omega, ?_⟩
        refine q _ _ (.dat ((w0.post.trans w1.post).trans (k _ upd_kept ?_)) .non)
        rw [upd_same]
        exact .lst (Rp.monoA (cut_upd m) (Pd.append (Pd.append (Pd.take _ h5) (.cons w1.rp .nil)) (Pd.drop _ h5)))
      · cases h2
    · cases h2
  · cases e
/-! ### xs.extend(a new list) -/
def fExt (zs : List D) : D → Option D
  | .list ds => if ds.length + zs.length ≤ LIM then some (.list (ds ++ zs)) else none
  | _ => none
def listD : D → Option (List D)
  | .list ds => some ds
  | _ => none
theorem listD_eq {d : D} {ds : List D} (h : listD d = some ds) : d = .list ds := by
  unfold listD at h
  split at h
  · cases h; rfl
  · cases h
def evExt (i : Nat) (fe : EX) : EX := fun cs => if isOwnL cs i = true then (fe cs).bind fun r => (listD r.1).bind fun zs => if r.2.1 = true then (upL r.2.2 i (fExt zs)).bind fun c => some (.none, false, c) else none else none
theorem de_ext (hv : DE X (.Name x xpos) (tVar i) (evVar i)) (he : DE X e te fe)
    (hbase : attributeBase (.Name x xpos) "extend" X.env (eval (.Name x xpos) X.env) = eval (.Name x xpos) X.env := by rfl)
    (hfew : ((backTo pos (starEach [e] X.env)).all (fun x => !x.1) && (backToKw pos (keywordEach [] X.env)).all (fun x => x.1.isSome)
      && decide ([e].length + ([] : List Keyword).length + (if ([] : List Keyword).isEmpty then 0 else 1) < 30)) = true := by rfl)
    (hline : (apos.endLine == pos.line) = true := by rfl) (hs : starEach [e] X.env = (false, eval e X.env) :: starEach [] X.env := by rfl) (hplain : (backTo pos (starEach [] X.env)).any (·.1) = false := by rfl) :
    DE X (.Call (.Attribute (.Name x xpos) "extend" apos) [e] [] pos) (tBM X.K "list" rExtend (tVar i) (tCons te tNil)) (evExt i fe) := by
  refine ⟨pe_bm PySem.F.plainAttrs_list PySem.F.slot_list_extend PySem.F.type_list_extend mt_extend hv.pe (pa_cons he.pe pa_nil hs) hbase hfew hline hs hplain, ?_⟩
  intro B IO Z σ H cs ok d fr cs' e Q q
  unfold evExt at e
  split at e
  · rename_i ho
    obtain ⟨⟨d1, f1, c1⟩, e1, e⟩ := Option.bind_eq_some_iff.mp e
    obtain ⟨zs, ez, e⟩ := Option.bind_eq_some_iff.mp e
    dsimp only at ez e
    split at e
    · rename_i hf
      obtain ⟨c2, e2, e⟩ := Option.bind_eq_some_iff.mp e
      cases e
      subst hf
      obtain ⟨a0, xs, hs, hx, _⟩ := ok.ownL ho
      refine ⟨_, hs, .inl ⟨rfl, xs, SqL.of hx⟩, he.se ok e1 _ fun y H1 w => ?_⟩
      obtain ⟨a', d, d', h1, h2, h3, k⟩ := w.post.ok.upL e2
      rw [hs] at h1
      cases h1
      have m := ok_md (Z := Z) e2 hs
      have hp := w.post
      rw [listD_eq ez] at w
      obtain ⟨p, rfl, hp0, pn, ow⟩ := (show ∃ p, y = .ref p ∧ H p = none ∧ PostN X.K B IO Z σ H cs p σ H1 c1 ∧ OwnAt X.K (cut H1 (Md σ c1 (XP Z p))) (H1 p) (.list zs) from w)
      obtain ⟨us, g1, g2⟩ := ow.list
      unfold fExt at h2
      split at h2
      · split at h2
        · rename_i hl
          cases h2
          obtain ⟨ys, h4, h5⟩ := h3.list
          refine ⟨a0, p, ys, us, rfl, rfl, h4, g1, by rw [Pd.len h5, Pd.len g2]; exact lim_ok hl, ?_⟩
          refine q _ _ (.dat (hp.trans (k _ upd_kept ?_)) .non)
          rw [upd_same]
          exact .lst (Rp.monoA (cut_upd m) (Pd.append h5 (Rp.monoA le_xp g2)))
        · cases h2
      · cases h2
    · cases e
  · cases e
/-! ### xs.index(e) -/
def idxD (d : D) : List D → Option Nat
  | [] => none
  | z :: r => if PyData.eqv z d = true then some 0 else (idxD d r).map (· + 1)
theorem idxD_spec {d : D} : ∀ {ds : List D} {j : Nat}, idxD d ds = some j → (∃ z, ds[j]? = some z ∧ PyData.eqv z d = true) ∧ ∀ m z, m < j → ds[m]? = some z → PyData.eqv z d = false
  | [], j, h => by cases h
  | z :: r, j, h => by
    unfold idxD at h
    by_cases c : PyData.eqv z d = true
    · rw [if_pos c] at h
      cases h
      exact ⟨⟨z, rfl, c⟩, fun m _ hm => absurd hm (Nat.not_lt_zero _)⟩
    · rw [if_neg c] at h
      obtain ⟨j', h1, h2⟩ := Option.map_eq_some_iff.mp h
      cases h2
      obtain ⟨⟨u, h3, h4⟩, h5⟩ := idxD_spec h1
      refine ⟨⟨u, by simpa using h3, h4⟩, fun m w hm hw => ?_⟩
      cases m with
      | zero =>
        simp at hw
        subst hw
        simpa using c
      | succ m => exact h5 m w (by omega) (by simpa using hw)
def evIdx (i : Nat) (fe : EX) : EX := fun cs => (cont cs i).bind fun d0 => (listD d0).bind fun _ => (fe cs).bind fun r => (cont r.2.2 i).bind fun d => (listD d).bind fun ds => if (flatD r.1 && ds.all flatD) = true then (idxD r.1 ds).bind fun j => some (.int (j : Nat), false, r.2.2) else none
theorem de_idx (hv : DE X (.Name x xpos) (tVar i) (evVar i)) (he : DE X e te fe)
    (hbase : attributeBase (.Name x xpos) "index" X.env (eval (.Name x xpos) X.env) = eval (.Name x xpos) X.env := by rfl)
    (hfew : ((backTo pos (starEach [e] X.env)).all (fun x => !x.1) && (backToKw pos (keywordEach [] X.env)).all (fun x => x.1.isSome)
      && decide ([e].length + ([] : List Keyword).length + (if ([] : List Keyword).isEmpty then 0 else 1) < 30)) = true := by rfl)
    (hline : (apos.endLine == pos.line) = true := by rfl) (hs : starEach [e] X.env = (false, eval e X.env) :: starEach [] X.env := by rfl) (hplain : (backTo pos (starEach [] X.env)).any (·.1) = false := by rfl) :
    DE X (.Call (.Attribute (.Name x xpos) "index" apos) [e] [] pos) (tBM X.K "list" (rIndex X.K) (tVar i) (tCons te tNil)) (evIdx i fe) := by
  refine ⟨pe_bm PySem.F.plainAttrs_list PySem.F.slot_list_index PySem.F.type_list_index mt_index hv.pe (pa_cons he.pe pa_nil hs) hbase hfew hline hs hplain, ?_⟩
  intro B IO Z σ H cs ok d fr cs' e Q q
  unfold evIdx at e
  obtain ⟨d0, e0, e⟩ := Option.bind_eq_some_iff.mp e
  obtain ⟨ds0, el0, e⟩ := Option.bind_eq_some_iff.mp e
  obtain ⟨⟨d1, f1, c1⟩, e1, e⟩ := Option.bind_eq_some_iff.mp e
  obtain ⟨d2, e2, e⟩ := Option.bind_eq_some_iff.mp e
  obtain ⟨ds, el, e⟩ := Option.bind_eq_some_iff.mp e
  dsimp only at e e2
  split at e
  · rename_i hf
    rw [Bool.and_eq_true] at hf
    obtain ⟨j, ej, e⟩ := Option.bind_eq_some_iff.mp e
    cases e
    obtain ⟨v, hv, w0⟩ := ok.view e0
    rw [listD_eq el0] at w0
    obtain ⟨a0, xs0, rfl, hx0, _⟩ := w0.list
    refine ⟨_, hv, .inl ⟨rfl, xs0, hx0⟩, he.se ok e1 _ fun y H1 w => ?_⟩
    obtain ⟨v', hv', w1⟩ := w.post.ok.view e2
    rw [hv] at hv'
    cases hv'
    rw [listD_eq el] at w1
    obtain ⟨a1, xs, h1, hx, px⟩ := w1.list
    cases h1
    obtain ⟨⟨z, g1, g2⟩, g3⟩ := idxD_spec ej
    obtain ⟨u, g4, g5⟩ := Pd.get px g1
    have fz : ∀ {m : Nat} {z : D}, ds[m]? = some z → flatD z = true := fun h => List.all_eq_true.mp hf.2 _ (List.mem_of_getElem? h)
    refine ⟨a0, xs, y, j, u, rfl, rfl, hx, flat_of w.rp hf.1, (inv_of w.rp hf.1 px hf.2).1, g4, ?_, fun m z' hm hz => ?_, q _ H1 (.dat w.post (.int _))⟩
    · rw [eq_of g5 w.rp (fz g1) hf.1]
      exact g2
    · obtain ⟨z2, g6, g7⟩ := Pd.getL px hz
      rw [eq_of g7 w.rp (fz g6) hf.1]
      exact g3 m z2 hm g6
  · cases e
/-! ### isinstance(e, (T, U)) -/
structure TyA (X : Cx) (es : List Expr) (ts : TA) (ns : List String) : Prop where
  pa : PA X es ts
  run : ∀ (σ : St) (H : Hp) (Q : List V → Hp → Prop), Q (ns.map V.ty) H → ts σ H Q
theorem tya_nil : TyA X [] tNil [] := ⟨pa_nil, fun _ _ _ q => q⟩
theorem tya_cons {T : Str} {n : String} {ns : List String} {tpos : Pos} (hg : Gl X T) (hm : X.mg T = none) (hv : bootBuiltins T = some (.type n)) (h : TyA X es ts ns) (hn : T ≠ "__name__" := by decide) (hd : (T == ("__debug__" : Str)) = false := by decide)
    (hs : starEach (.Name T tpos :: es) X.env = (false, eval (.Name T tpos) X.env) :: starEach es X.env := by rfl) : TyA X (.Name T tpos :: es) (tCons (tC (.ty n)) ts) (n :: ns) :=
  ⟨pa_cons (pe_bltn hg hm hv (v := .ty n) rfl hn hd) h.pa hs, fun σ H Q q => h.run σ H _ q⟩
def kitBs (t : String) : List String → Option Bool
  | [] => some false
  | n :: r => (kitB t n).bind fun b => if b = true then some true else kitBs t r
theorem kit_any {t : String} : ∀ {ns : List String} {b : Bool}, kitBs t ns = some b → PySem.W.kitAny K (.type t) (ns.map Value.type) = some b
  | [], b, h => by cases h; exact PySem.W.kitAny.eq_1 _ _
  | n :: r, b, h => by
    unfold kitBs at h
    obtain ⟨c, h1, h⟩ := Option.bind_eq_some_iff.mp h
    rw [List.map_cons, PySem.W.kitAny.eq_2, kit_ty h1]
    cases c with
    | true => rw [if_pos rfl] at h; exact h
    | false => rw [if_neg (by decide)] at h; exact kit_any h
theorem cls_all : ∀ ns : List String, Paired ClsV (ns.map V.ty) (ns.map Value.type)
  | [] => .nil
  | n :: r => .cons (.ty n) (cls_all r)
def evIsiT (ns : List String) (f : EX) : EX := fun cs => (f cs).bind fun r => if ns.length ≤ LIM then (kitBs (tyD r.1) ns).bind fun b => some (.bool b, false, r.2.2) else none
theorem de_isiT {ns : List String} {x1 : Nat} {tpos : Pos} (hg : Gl X "isinstance") (hm : X.mg "isinstance" = none) (ht : TyA X es ts ns) (ha : DE X e te fe)
    (hs : starEach (e :: [.Tuple es x1 tpos]) X.env = (false, eval e X.env) :: starEach [.Tuple es x1 tpos] X.env := by rfl) (hs2 : starEach [.Tuple es x1 tpos] X.env = (false, eval (.Tuple es x1 tpos) X.env) :: starEach [] X.env := by rfl) :
    DE X (.Call (.Name "isinstance" fpos) [e, .Tuple es x1 tpos] [] cpos) (tCB (rIsiT X.K) (tCons te (tCons (tTup ts) tNil))) (evIsiT ns fe) := by
  refine ⟨pe_callB call_isiT hg hm (by decide +kernel) (pa_cons ha.pe (pa_cons (pe_tup ht.pa) pa_nil hs2) hs) (he := hs), ?_⟩
  intro B IO Z σ H cs ok d fr cs' e Q q
  unfold evIsiT at e
  obtain ⟨⟨d1, f1, c1⟩, e1, e⟩ := Option.bind_eq_some_iff.mp e
  dsimp only at e
  split at e
  · rename_i hl
    obtain ⟨b, e2, e⟩ := Option.bind_eq_some_iff.mp e
    cases e
    refine ha.se ok e1 _ fun x H1 w1 => ht.run σ H1 _ ⟨by rw [List.length_map]; exact lim_ok hl, fun p hp => ?_⟩
    refine ⟨x, p, ns.map V.ty, _, ns.map Value.type, b, rfl, upd_same, cls_all ns, tyx_of w1.rp (Le.trans cut_le (ex_le (Ex.new hp))), kit_any e2, ?_⟩
    exact q _ _ (.dat (w1.post.trans (w1.post.ok.ext (Ex.new hp))) (.bl b))
  · cases e
def evIsiTV (ns : List String) (i : Nat) : EX := fun cs => (cont cs i).bind fun d => if ns.length ≤ LIM then (kitBs (tyD d) ns).bind fun b => some (.bool b, false, cs) else none
theorem de_isiTV {ns : List String} {x1 : Nat} {tpos : Pos} (hg : Gl X "isinstance") (hm : X.mg "isinstance" = none) (ht : TyA X es ts ns) (ha : DE X (.Name x xpos) (tVar i) (evVar i))
    (hs2 : starEach [.Tuple es x1 tpos] X.env = (false, eval (.Tuple es x1 tpos) X.env) :: starEach [] X.env := by rfl) :
    DE X (.Call (.Name "isinstance" fpos) [.Name x xpos, .Tuple es x1 tpos] [] cpos) (tCB (rIsiT X.K) (tCons (tVar i) (tCons (tTup ts) tNil))) (evIsiTV ns i) := by
  refine ⟨pe_callB call_isiT hg hm (by decide +kernel) (pa_cons ha.pe (pa_cons (pe_tup ht.pa) pa_nil hs2)), ?_⟩
  intro B IO Z σ H cs ok d fr cs' e Q q
  unfold evIsiTV at e
  obtain ⟨d1, e1, e⟩ := Option.bind_eq_some_iff.mp e
  split at e
  · rename_i hl
    obtain ⟨b, e2, e⟩ := Option.bind_eq_some_iff.mp e
    cases e
    obtain ⟨v, hv, w⟩ := ok.view e1
    refine ⟨v, hv, ht.run σ H _ ⟨by rw [List.length_map]; exact lim_ok hl, fun p hp => ?_⟩⟩
    have x : Ex H (upd H p (.tup (ns.map V.ty))) := Ex.new hp
    refine ⟨v, p, ns.map V.ty, _, ns.map Value.type, b, rfl, upd_same, cls_all ns, tyx_of w.rpH (ex_le x), kit_any e2, ?_⟩
    exact q _ _ (.dat (ok.ext x) (.bl b))
  · cases e
/-! ### a value as a test -/
def truD : D → Option Bool
  | .none => some false
  | .bool b => some b
  | .int i => some (i != 0)
  | .str s => if s.length ≤ LIM then some ((s.length : Int) != 0) else none
  | .list ds => some (!ds.isEmpty)
  | .tuple ds => some (!ds.isEmpty)
  | .dict _ => none
theorem pd_empty {α β : Type} {R : α → β → Prop} {xs : List α} {ys : List β} (h : Paired R xs ys) : xs.isEmpty = ys.isEmpty := by cases h <;> rfl
theorem tru_of {H : Hp} {M : Addr → Prop} {v : V} {d : D} {k : Bool} (w : Vw K H M v d) (h : truD d = some k) : TruV K v H k := by
  unfold truD at h
  split at h
  · cases h; rw [(w.rp (fun _ z => nomatch z) (fun _ z => nomatch z)).none_eq]; rfl
  · cases h; rw [(w.rp (fun _ z => nomatch z) (fun _ z => nomatch z)).bool_eq]; rfl
  · cases h; rw [w.int_eq]; rfl
  · split at h
    · rename_i hl
      cases h; rw [w.str_eq]; exact ⟨lim_ok hl, rfl⟩
    · cases h
  · cases h
    obtain ⟨a, xs, rfl, h1, h2⟩ := w.list
    exact .inl ⟨xs, h1, by rw [pd_empty h2]⟩
  · cases h
    obtain ⟨a, xs, rfl, h1, h2⟩ := w.tuple
    exact .inr (.inl ⟨xs, cut_le.sqT h1, by rw [pd_empty h2]⟩)
  · cases h
def evTr (f : EX) : TX := fun cs => (f cs).bind fun r => (truD r.1).bind fun k => some (k, r.2.2)
def tTru (K : PySem.W.Frag) (t : TE) : TT := fun σ H Q => t σ H fun x H' => ∃ k, TruV K x H' k ∧ Q k H'
theorem dt_tr (h : DE X e te fe) (he : ∀ whole, isTrue e X.env whole = (do let v ← whole; standAt e.pos; holding [v] (truthy v)) := by intro _; rfl) : DT X e (tTru X.K te) (evTr fe) := by
  refine ⟨pt_truth h.pe he, ?_⟩
  intro B IO Z σ H cs ok b cs' e Q q
  unfold evTr at e
  obtain ⟨⟨d1, f1, c1⟩, e1, e⟩ := Option.bind_eq_some_iff.mp e
  obtain ⟨k, e2, e⟩ := Option.bind_eq_some_iff.mp e
  cases e
  exact h.se ok e1 _ fun x H1 w => ⟨_, tru_of (Vw.of_rp w.rp) e2, q H1 w.post⟩
def evTrV (i : Nat) : TX := fun cs => (cont cs i).bind fun d => (truD d).bind fun k => some (k, cs)
theorem dt_trV (h : DE X (.Name x xpos) (tVar i) (evVar i)) (he : ∀ whole, isTrue (.Name x xpos) X.env whole = (do let v ← whole; standAt (Expr.Name x xpos).pos; holding [v] (truthy v)) := by intro _; rfl) : DT X (.Name x xpos) (tTru X.K (tVar i)) (evTrV i) := by
  refine ⟨pt_truth h.pe he, ?_⟩
  intro B IO Z σ H cs ok b cs' e Q q
  unfold evTrV at e
  obtain ⟨d1, e1, e⟩ := Option.bind_eq_some_iff.mp e
  obtain ⟨k, e2, e⟩ := Option.bind_eq_some_iff.mp e
  cases e
  obtain ⟨v, hv, w⟩ := ok.view e1
  exact ⟨v, hv, _, tru_of w e2, q H (Post.refl ok)⟩
/-! ### all, any, sum of a list -/
def boolsOf : List D → Option (List Bool)
  | [] => some []
  | .bool s :: r => (boolsOf r).bind fun t => some (s :: t)
  | _ => none
theorem bools_pd {F : Hp} : ∀ {vs : List V} {ds : List D} {ss : List Bool}, Paired (Rp K F) vs ds → boolsOf ds = some ss → vs = ss.map V.bl
  | _, _, ss, .nil, h => by cases h; rfl
  | _, _, ss, .cons r t, h => by
    unfold boolsOf at h
    split at h
    · rename_i hh; cases hh
    · rename_i s r' hh
      cases hh
      obtain ⟨t', h1, h⟩ := Option.bind_eq_some_iff.mp h
      cases h
      rw [r.bool_eq, bools_pd t h1]
      rfl
    · cases h
def intsOf : List D → Option (List Int)
  | [] => some []
  | .int s :: r => (intsOf r).bind fun t => some (s :: t)
  | _ => none
theorem ints_pd {F : Hp} : ∀ {vs : List V} {ds : List D} {ss : List Int}, Paired (Rp K F) vs ds → intsOf ds = some ss → vs = ss.map V.int
  | _, _, ss, .nil, h => by cases h; rfl
  | _, _, ss, .cons r t, h => by
    unfold intsOf at h
    split at h
    · rename_i hh; cases hh
    · rename_i s r' hh
      cases hh
      obtain ⟨t', h1, h⟩ := Option.bind_eq_some_iff.mp h
      cases h
      rw [r.int_eq, ints_pd t h1]
      rfl
    · cases h
def gAll : G1 := fun d => (listD d).bind fun ds => (boolsOf ds).bind fun bs => some (.bool (bs.all id), false)
def gAny : G1 := fun d => (listD d).bind fun ds => (boolsOf ds).bind fun bs => some (.bool (bs.any id), false)
def gSum : G1 := fun d => (listD d).bind fun ds => (intsOf ds).bind fun bs => some (.int bs.sum, false)
theorem sw_all : SRCw K (rAll K) gAll := by
  intro H M hm x d rx z fr q Q k
  unfold gAll at q
  obtain ⟨ds, h1, q⟩ := Option.bind_eq_some_iff.mp q
  obtain ⟨bs, h2, q⟩ := Option.bind_eq_some_iff.mp q
  cases q
  rw [listD_eq h1] at rx
  obtain ⟨a, xs, rfl, h3, h4⟩ := rx.list
  rw [bools_pd h4 h2] at h3
  exact ⟨a, bs, rfl, h3, k _ H (Ex.refl H) (VOk.of (.bl _))⟩
theorem sw_any : SRCw K (rAny K) gAny := by
  intro H M hm x d rx z fr q Q k
  unfold gAny at q
  obtain ⟨ds, h1, q⟩ := Option.bind_eq_some_iff.mp q
  obtain ⟨bs, h2, q⟩ := Option.bind_eq_some_iff.mp q
  cases q
  rw [listD_eq h1] at rx
  obtain ⟨a, xs, rfl, h3, h4⟩ := rx.list
  rw [bools_pd h4 h2] at h3
  exact ⟨a, bs, rfl, h3, k _ H (Ex.refl H) (VOk.of (.bl _))⟩
theorem sw_sum : SRCw K (rSum K) gSum := by
  intro H M hm x d rx z fr q Q k
  unfold gSum at q
  obtain ⟨ds, h1, q⟩ := Option.bind_eq_some_iff.mp q
  obtain ⟨bs, h2, q⟩ := Option.bind_eq_some_iff.mp q
  cases q
  rw [listD_eq h1] at rx
  obtain ⟨a, xs, rfl, h3, h4⟩ := rx.list
  rw [ints_pd h4 h2] at h3
  exact ⟨a, bs, rfl, h3, k _ H (Ex.refl H) (VOk.of (.int _))⟩
/-! ### a list taken apart -/
def gxUnl (h : GsX) (n : Nat) : GX
  | .list ds, cs => if ds.length = n then h ds cs else none
  | _, _ => none
theorem dg_unl {gs : TGs} {t1 : List Nat} {fgs : GsX} {k : Nat} {n : Nat} (hc : X.calm = true) (h : DGs X es gs t1 fgs) (hn : (assignEach es X.env).length = n := by rfl) (hst : (assignEach es X.env).findIdx? (·.1) = none := by rfl) : DG X (.Tuple es k pos) (gUnl X.K n gs) t1 (gxUnl fgs n) := by
  refine ⟨pg_unl hc h.pgs hn hst, ?_⟩
  intro B IO Z σ H cs ok v d r cs' e Q q
  unfold gxUnl at e
  split at e
  · split at e
    · rename_i hl
      obtain ⟨a, xs, rfl, h1, p1⟩ := r.list
      exact ⟨a, xs, rfl, cut_le.sqL h1, (Pd.len p1).trans hl, h.sg ok p1 e Q q⟩
    · cases e
  · cases e
end
end Qp
end
section
set_option Elab.async false
set_option linter.all false
set_option maxRecDepth 100000
set_option maxHeartbeats 2000000
/-! Qq: how the codes of Qn, Qo are reckoned; comprehensions whose answers are told one by one. -/
namespace Qp
open PySem PySem.Spec PyProof.Rows L2
section
variable {d x y z : D} {fr f1 b : Bool} {c cs c1 : En} {i n m : Nat} {f fa fb fe fi fk : EX} {g : G2} {u : G1} {G : GA} {fs : AX} {t s : TX} {p q : SX} {xs ds zs : List D} {es : List (D × D)} {k : Key} {j : Int}
/-! cells that hold no object of their own -/
def kDn (o : Option Cell) : Bool := match o with
  | some (.dat _) => true
  | some .no => true
  | _ => false
@[simp] theorem kDn_n : kDn (some .no) = true := rfl
@[simp] theorem kDn_d : kDn (some (.dat d)) = true := rfl
theorem kNo_dn {o : Option Cell} (h : kDn o = true) : kNo o = true := by
  unfold kDn at h
  split at h
  · rfl
  · rfl
  · cases h
@[simp] theorem noOwn_nil : noOwn cs [] = true := rfl
@[simp] theorem noOwn_cons {v : Nat} {vs : List Nat} : noOwn cs (v :: vs) = (kDn cs[v]? && noOwn cs vs) := rfl
@[simp] theorem clr_nil : clr cs [] = cs := rfl
@[simp] theorem clr_cons {v : Nat} {vs : List Nat} : clr cs (v :: vs) = (clr cs vs).set v .no := rfl
@[simp] theorem rst_nil : rst c cs [] = c := rfl
@[simp] theorem rst_cons {v : Nat} {vs : List Nat} : rst c cs (v :: vs) = (rst c cs vs).set v (cs.getD v .no) := rfl
/-! dicts -/
@[simp] theorem evDnew_ap : evDnew cs = some (.dict [], true, cs) := rfl
def kD1 (o : Option D) : Option (D × Bool) := o.bind fun v => some (v, false)
@[simp] theorem kD1_s : kD1 (some d) = some (d, false) := rfl
@[simp] theorem gDget_i : gDget (.dict es) (.int j) = kD1 (valD es (.inl j)) := rfl
@[simp] theorem gDget_s {w : Str} : gDget (.dict es) (.str w) = kD1 (valD es (.inr w)) := rfl
@[simp] theorem gDin_i {neg : Bool} : gDin neg (.int j) (.dict es) = some (.bool ((valD es (.inl j)).isSome != neg), false) := rfl
@[simp] theorem gDin_s {neg : Bool} {w : Str} : gDin neg (.str w) (.dict es) = some (.bool ((valD es (.inr w)).isSome != neg), false) := rfl
@[simp] theorem valD_nil : valD [] k = none := rfl
def kOD (o : Option Cell) : Option (List (D × D)) := match o with
  | some (.own (.dict es)) => some es
  | some (.io (.dict es)) => some es
  | _ => none
@[simp] theorem ownD_ap : ownD cs i = kOD cs[i]? := rfl
@[simp] theorem kOD_o : kOD (some (.own (.dict es))) = some es := rfl
@[simp] theorem kOD_i : kOD (some (.io (.dict es))) = some es := rfl
def kLenD (cs : En) (o : Option (List (D × D))) : OE := o.bind fun es => some (.int es.length, false, cs)
@[simp] theorem evLenD_ap : evLenD i cs = kLenD cs (ownD cs i) := rfl
@[simp] theorem kLenD_s : kLenD cs (some es) = some (.int es.length, false, cs) := rfl
def kSd5 (d : D) (o : Option En) : OE := o.bind fun c => some (d, false, c)
def kSd4 (i : Nat) (d : D) (c : En) (k : Key) (o : Option D) : OE := match o with
  | some o => some (o, false, c)
  | none => kSd5 d (upL c i (fPut k d))
def kSd3 (i : Nat) (d : D) (c : En) (es : List (D × D)) (o : Option Key) : OE := o.bind fun k => if es.length < LIM then kSd4 i d c k (valD es k) else none
def kSd2' (i : Nat) (x d : D) (c : En) (o : Option (List (D × D))) : OE := o.bind fun es => kSd3 i d c es (keyD x)
def kSd2 (i : Nat) (x : D) (o : OE) : OE := o.bind fun r => kSd2' i x r.1 r.2.2 (ownD r.2.2 i)
def kSd1 (i : Nat) (fe : EX) (o : OE) : OE := o.bind fun s => kSd2 i s.1 (fe s.2.2)
def kSd0 (i : Nat) (fk fe : EX) (cs : En) (o : Option (List (D × D))) : OE := o.bind fun _ => kSd1 i fe (fk cs)
@[simp] theorem evSetd_ap : evSetd i fk fe cs = kSd0 i fk fe cs (ownD cs i) := by
  unfold evSetd kSd0 kSd1 kSd2 kSd2' kSd3
  refine congrArg (Option.bind _) (funext fun _ => congrArg (Option.bind _) (funext fun s => congrArg (Option.bind _) (funext fun r => congrArg (Option.bind _) (funext fun es => congrArg (Option.bind _) (funext fun k => ?_)))))
  split
  · unfold kSd4 kSd5
    cases valD es k <;> rfl
  · rfl
@[simp] theorem kSd0_s : kSd0 i fk fe cs (some es) = kSd1 i fe (fk cs) := rfl
@[simp] theorem kSd1_s : kSd1 i fe (some (x, f1, c)) = kSd2 i x (fe c) := rfl
@[simp] theorem kSd2_s : kSd2 i x (some (y, f1, c)) = kSd2' i x y c (ownD c i) := rfl
@[simp] theorem kSd2'_s : kSd2' i x d c (some es) = kSd3 i d c es (keyD x) := rfl
@[simp] theorem keyD_i : keyD (.int j) = some (.inl j) := rfl
@[simp] theorem keyD_s {w : Str} : keyD (.str w) = some (.inr w) := rfl
theorem kSd3_of (h : es.length < LIM) : kSd3 i d c es (some k) = kSd4 i d c k (valD es k) := by
  show (if es.length < LIM then _ else _) = _
  rw [if_pos h]
@[simp] theorem kSd4_s : kSd4 i d c k (some x) = some (x, false, c) := rfl
@[simp] theorem kSd4_n : kSd4 i d c k none = kSd5 d (upL c i (fPut k d)) := rfl
@[simp] theorem kSd5_s : kSd5 d (some c) = some (d, false, c) := rfl
theorem fPut_of (h : es.length < LIM) : fPut k d (.dict es) = some (.dict (putD es k d)) := if_pos h
def kDp3 (o : Option En) : Option Res := o.bind fun c => some (.nx c)
def kDp2' (i : Nat) (d : D) (c : En) (o : Option Key) : Option Res := o.bind fun k => kDp3 (upL c i (fPut k d))
def kDp2 (i : Nat) (d : D) (o : OE) : Option Res := o.bind fun s => kDp2' i d s.2.2 (keyD s.1)
def kDp1 (fk : EX) (i : Nat) (d : D) (c : En) (o : Option (List (D × D))) : Option Res := o.bind fun _ => kDp2 i d (fk c)
def kDp0 (fk : EX) (i : Nat) (o : OE) : Option Res := o.bind fun r => kDp1 fk i r.1 r.2.2 (ownD r.2.2 i)
@[simp] theorem sDput_ap : sDput i fk fe cs = kDp0 fk i (fe cs) := rfl
@[simp] theorem kDp0_s : kDp0 fk i (some (d, f1, c)) = kDp1 fk i d c (ownD c i) := rfl
@[simp] theorem kDp1_s : kDp1 fk i d c (some es) = kDp2 i d (fk c) := rfl
@[simp] theorem kDp2_s : kDp2 i d (some (x, f1, c)) = kDp2' i d c (keyD x) := rfl
@[simp] theorem kDp2'_s : kDp2' i d c (some k) = kDp3 (upL c i (fPut k d)) := rfl
@[simp] theorem kDp3_s : kDp3 (some c) = some (.nx c) := rfl
theorem valD_put {l : Key} : valD (putD es k d) l = if l = k then some d else valD es l := by
  have kk : ∀ (a b : Key) (z : D), isK a z = true → isK b z = true → a = b := by
    intro a b z h1 h2
    cases z <;> simp [isK] at h1 h2 <;> exact h1.symm.trans h2
  have gen : ∀ es : List (D × D), valD (es.map (fun p => if isK k p.1 = true then (p.1, d) else p)) l = if l = k then (valD es l).map (fun _ => d) else valD es l := by
    intro es
    induction es with
    | nil => simp [valD]
    | cons p r ih =>
      by_cases hk : isK k p.1 = true
      · by_cases hl : isK l p.1 = true
        · have := kk _ _ _ hl hk
          subst this
          simp [valD, hk]
        · have hne : l ≠ k := fun e => hl (by rw [e]; exact hk)
          rw [if_neg hne] at ih ⊢
          simp only [valD, List.map_cons, hk, if_true, List.find?_cons, Bool.eq_false_iff.mpr hl] at ih ⊢
          exact ih
      · by_cases hl : isK l p.1 = true
        · have hne : l ≠ k := fun e => hk (by rw [← e]; exact hl)
          simp [valD, hk, hl, hne]
        · simp only [valD, List.map_cons, hk, if_false, Bool.false_eq_true, List.find?_cons, Bool.eq_false_iff.mpr hl] at ih ⊢
          exact ih
  unfold putD
  split
  · rename_i h
    rw [gen]
    split
    · rename_i e
      subst e
      have : ∃ v, valD es l = some v := by
        unfold valD
        cases e : es.find? fun p => isK l p.1 with
        | none =>
          have := List.find?_eq_none.mp e
          obtain ⟨p, hp, hq⟩ := List.any_eq_true.mp h
          exact absurd hq (this p hp)
        | some p => exact ⟨_, rfl⟩
      obtain ⟨v, hv⟩ := this
      rw [hv]
      rfl
    · rfl
  · rename_i h
    unfold valD
    rw [List.find?_append]
    split
    · rename_i e
      subst e
      have : (es.find? fun p => isK l p.1) = none := List.find?_eq_none.mpr fun p hp hq => h (List.any_eq_true.mpr ⟨p, hp, hq⟩)
      rw [this]
      simp [isK_kD]
    · rename_i hne
      cases es.find? fun p => isK l p.1 with
      | none => simp [isK_kD, Ne.symm hne]
      | some p => rfl
theorem putD_new (h : valD es k = none) : putD es k d = es ++ [(kD k, d)] := by
  unfold putD
  rw [if_neg]
  intro z
  obtain ⟨p, hp, hq⟩ := List.any_eq_true.mp z
  unfold valD at h
  rw [Option.map_eq_none_iff] at h
  exact List.find?_eq_none.mp h p hp hq
theorem putD_le : (putD es k d).length ≤ es.length + 1 := by
  unfold putD
  split
  · rw [List.length_map]; omega
  · rw [List.length_append]; exact Nat.le_refl _
/-! stars -/
def kSt2 (ds : List D) (o : Option (List D × En)) : Option (List D × En) := o.bind fun s => some (ds ++ s.1, s.2)
def kSt1 (fs : AX) (o : OE) : Option (List D × En) := o.bind fun r => match r.1 with
  | .list ds => kSt2 ds (fs r.2.2)
  | .tuple ds => kSt2 ds (fs r.2.2)
  | _ => none
@[simp] theorem evStar_ap : evStar f fs cs = kSt1 fs (f cs) := rfl
@[simp] theorem kSt1_l : kSt1 fs (some (.list ds, f1, c)) = kSt2 ds (fs c) := rfl
@[simp] theorem kSt1_t : kSt1 fs (some (.tuple ds, f1, c)) = kSt2 ds (fs c) := rfl
@[simp] theorem kSt2_s : kSt2 ds (some (xs, c)) = some (ds ++ xs, c) := rfl
/-! lists -/
def kMd (o : Option En) : OE := o.bind fun c => some (.none, false, c)
@[simp] theorem kMd_s : kMd (some c) = some (.none, false, c) := rfl
def kIn3 (i : Nat) (j : Int) (o : OE) : OE := o.bind fun r => kMd (upL r.2.2 i (fIns j r.1))
def kIn2 (i : Nat) (fe : EX) (c : En) (o : Option Int) : OE := o.bind fun j => kIn3 i j (fe c)
def kIn1 (i : Nat) (fe : EX) (o : OE) : OE := o.bind fun s => kIn2 i fe s.2.2 (intD s.1)
def kIn0 (i : Nat) (fk fe : EX) (cs : En) (b : Bool) : OE := if b = true then kIn1 i fe (fk cs) else none
@[simp] theorem evIns_ap : evIns i fk fe cs = kIn0 i fk fe cs (isOwnL cs i) := rfl
@[simp] theorem kIn0_t : kIn0 i fk fe cs true = kIn1 i fe (fk cs) := rfl
@[simp] theorem kIn1_s : kIn1 i fe (some (.int j, f1, c)) = kIn3 i j (fe c) := rfl
@[simp] theorem kIn3_s : kIn3 i j (some (d, f1, c)) = kMd (upL c i (fIns j d)) := rfl
theorem fIns_of (h : 0 ≤ j) (h2 : j ≤ 1000000000) (h3 : ds.length < LIM) : fIns j d (.list ds) = some (.list (ds.take j.toNat ++ [d] ++ ds.drop j.toNat)) := by
  show (if _ then _ else _) = _
  rw [if_pos (by simp [h, h2, h3])]
def kEx2 (i : Nat) (zs : List D) (fr : Bool) (c : En) : OE := if fr = true then kMd (upL c i (fExt zs)) else none
def kEx1 (i : Nat) (o : OE) : OE := o.bind fun r => (listD r.1).bind fun zs => kEx2 i zs r.2.1 r.2.2
def kEx0 (i : Nat) (fe : EX) (cs : En) (b : Bool) : OE := if b = true then kEx1 i (fe cs) else none
@[simp] theorem evExt_ap : evExt i fe cs = kEx0 i fe cs (isOwnL cs i) := rfl
@[simp] theorem kEx0_t : kEx0 i fe cs true = kEx1 i (fe cs) := rfl
@[simp] theorem kEx1_s : kEx1 i (some (.list zs, true, c)) = kMd (upL c i (fExt zs)) := rfl
theorem fExt_of (h : ds.length + zs.length ≤ LIM) : fExt zs (.list ds) = some (.list (ds ++ zs)) := if_pos h
def kXi4 (c : En) (o : Option Nat) : OE := o.bind fun j => some (.int (j : Nat), false, c)
def kXi3 (d : D) (c : En) (o : Option (List D)) : OE := o.bind fun ds => if (flatD d && ds.all flatD) = true then kXi4 c (idxD d ds) else none
def kXi2 (i : Nat) (d : D) (c : En) (o : Option D) : OE := o.bind fun z => kXi3 d c (listD z)
def kXi1 (i : Nat) (o : OE) : OE := o.bind fun r => kXi2 i r.1 r.2.2 (cont r.2.2 i)
def kXi0 (i : Nat) (fe : EX) (cs : En) (o : Option D) : OE := o.bind fun z => (listD z).bind fun _ => kXi1 i (fe cs)
@[simp] theorem evIdx_ap : evIdx i fe cs = kXi0 i fe cs (cont cs i) := by
  unfold evIdx kXi0 kXi1 kXi2 kXi3 kXi4
  rfl
@[simp] theorem kXi0_s : kXi0 i fe cs (some (.list ds)) = kXi1 i (fe cs) := rfl
@[simp] theorem kXi1_s : kXi1 i (some (d, f1, c)) = kXi2 i d c (cont c i) := rfl
@[simp] theorem kXi2_s : kXi2 i d c (some (.list ds)) = kXi3 d c (some ds) := rfl
theorem kXi3_of (h : flatD d = true) (h2 : ds.all flatD = true) : kXi3 d c (some ds) = kXi4 c (idxD d ds) := by
  show (if (flatD d && ds.all flatD) = true then _ else _) = _
  rw [h, h2]
  rfl
@[simp] theorem kXi4_s : kXi4 c (some n) = some (.int (n : Nat), false, c) := rfl
/-! isinstance of several -/
def kIsiT (ns : List String) (c : En) (o : Option D) : OE := o.bind fun d => if ns.length ≤ LIM then (kitBs (tyD d) ns).bind fun b => some (.bool b, false, c) else none
@[simp] theorem evIsiTV_ap {ns : List String} : evIsiTV ns i cs = kIsiT ns cs (cont cs i) := rfl
def kIsiTE (ns : List String) (o : OE) : OE := o.bind fun r => kIsiT ns r.2.2 (some r.1)
@[simp] theorem evIsiT_ap {ns : List String} : evIsiT ns f cs = kIsiTE ns (f cs) := rfl
@[simp] theorem kIsiTE_s {ns : List String} : kIsiTE ns (some (d, f1, c)) = kIsiT ns c (some d) := rfl
theorem kitBs_isT {ns : List String} (h : ∀ n ∈ ns, n ∈ ["int", "bool", "str", "list", "tuple", "dict"]) (d : D) : kitBs (tyD d) ns = some (ns.any fun n => isT n d) := by
  induction ns with
  | nil => rfl
  | cons n r ih =>
    unfold kitBs
    rw [kit_isT (h n (by simp)) d, Option.bind_some, ih fun m hm => h m (by simp [hm])]
    cases e : isT n d <;> simp [e]
@[simp] theorem kIsiT_lt : kIsiT ["list", "tuple"] c (some d) = some (.bool (isT "list" d || (isT "tuple" d || false)), false, c) := by
  unfold kIsiT
  rw [Option.bind_some, if_pos (by show 2 ≤ LIM; decide), kitBs_isT (by decide)]
  rfl
@[simp] theorem kIsiT_tl : kIsiT ["tuple", "list"] c (some d) = some (.bool (isT "tuple" d || (isT "list" d || false)), false, c) := by
  unfold kIsiT
  rw [Option.bind_some, if_pos (by show 2 ≤ LIM; decide), kitBs_isT (by decide)]
  rfl
/-! truths -/
def kTru (c : En) (o : Option Bool) : Option (Bool × En) := o.bind fun k => some (k, c)
@[simp] theorem kTru_s : kTru c (some b) = some (b, c) := rfl
def kTrE (o : OE) : Option (Bool × En) := o.bind fun r => kTru r.2.2 (truD r.1)
@[simp] theorem evTr_ap : evTr f cs = kTrE (f cs) := rfl
@[simp] theorem kTrE_s : kTrE (some (d, f1, c)) = kTru c (truD d) := rfl
def kTrV (c : En) (o : Option D) : Option (Bool × En) := o.bind fun d => kTru c (truD d)
@[simp] theorem evTrV_ap : evTrV i cs = kTrV cs (cont cs i) := rfl
@[simp] theorem kTrV_s : kTrV c (some d) = kTru c (truD d) := rfl
@[simp] theorem truD_n : truD .none = some false := rfl
@[simp] theorem truD_b : truD (.bool b) = some b := rfl
@[simp] theorem truD_i : truD (.int j) = some (j != 0) := rfl
@[simp] theorem truD_l : truD (.list ds) = some (!ds.isEmpty) := rfl
@[simp] theorem truD_t : truD (.tuple ds) = some (!ds.isEmpty) := rfl
/-! joins -/
def kJ2 (t : Str) (o : OE) : OE := o.bind fun r => fin r.2.2 (gJoin t r.1)
def kJ1 (fe : EX) (o : OE) : OE := o.bind fun s => match s.1 with
  | .str t => kJ2 t (fe s.2.2)
  | _ => none
@[simp] theorem evJoin_ap : evJoin fa fe cs = kJ1 fe (fa cs) := rfl
@[simp] theorem kJ1_s {w : Str} : kJ1 fe (some (.str w, f1, c)) = kJ2 w (fe c) := rfl
@[simp] theorem kJ2_s {w : Str} : kJ2 w (some (d, f1, c)) = fin c (gJoin w d) := rfl
@[simp] theorem gxUnl_ap {tg : GsX} {n : Nat} : gxUnl tg n (.list xs) cs = if xs.length = n then tg xs cs else none := rfl
/-! the rest -/
@[simp] theorem gInt_b : gInt [.bool b] = some (.int (if b = true then 1 else 0), false) := rfl
@[simp] theorem gMax2_i {j k : Int} : gMax2 [.int j, .int k] = some (.int (if j < k then k else j), false) := rfl
@[simp] theorem gMin2_i {j k : Int} : gMin2 [.int j, .int k] = some (.int (if k < j then k else j), false) := rfl
theorem gAdd_l (h : xs.length + zs.length ≤ LIM) : gAdd (.list xs) (.list zs) = some (.list (xs ++ zs), true) := by
  show (if _ ≤ LIM then _ else _) = _
  rw [if_pos h]
/-- the item at a place -/
theorem atD_nat (h : m < xs.length) : atD xs (m : Int) = some xs[m] := by
  rw [atD_of (by omega) (by omega)]
  simpa using List.getElem?_eq_getElem h
theorem cutL_to {α : Type} (xs : List α) (n : Nat) : cutL xs none (some (n : Int)) = xs.take n := by
  unfold cutL
  rw [HT.sIx_nat, HT.sIx_none, List.drop_zero, Nat.sub_zero]
  by_cases h : n ≤ xs.length
  · rw [Nat.min_eq_left h]
  · rw [Nat.min_eq_right (by omega), List.take_length, List.take_of_length_le (by omega)]
theorem cutL_from {α : Type} (xs : List α) (n : Nat) : cutL xs (some (n : Int)) none = xs.drop n := by
  unfold cutL
  rw [HT.sIx_nat, HT.sIx_none]
  by_cases h : n ≤ xs.length
  · rw [Nat.min_eq_left h, List.take_of_length_le]
    rw [List.length_drop]
    exact Nat.le_refl _
  · rw [Nat.min_eq_right (by omega), List.drop_length, List.take_nil, List.drop_eq_nil_of_le (by omega)]
theorem cutL_neg1 {α : Type} (xs : List α) : cutL xs none (some (-1)) = xs.take (xs.length - 1) := by
  unfold cutL HT.sIx
  simp
  cases xs with
  | nil => rfl
  | cons x r =>
    congr 1
    simp
    try omega
@[simp] theorem gSl_l {o1 o2 : Option Int} : gSl (.list xs) o1 o2 = some (.list (cutL xs o1 o2), true) := rfl
@[simp] theorem gSl_t {o1 o2 : Option Int} : gSl (.tuple xs) o1 o2 = some (.tuple (cutL xs o1 o2), false) := rfl
end
section
variable {gt : GX} {ft : TX} {fe : EX} {vs : List Nat} {cs : En} {items : List D}
/-- a comprehension each of whose elements is there and has P -/
theorem loopC_ex {P : Nat → D → Prop} (hx : ∀ i x, items[i]? = some x → ∃ c1 y f1, gt x cs = some c1 ∧ ft c1 = some (true, c1) ∧ fe c1 = some (y, f1, c1) ∧ P i y ∧ noOwn c1 vs = true ∧ clr c1 vs = cs) (hl : items.length ≤ LIM) :
    ∃ ys, loopC gt ft fe vs items [] cs = some (ys, cs) ∧ ys.length = items.length ∧ ∀ i y, ys[i]? = some y → P i y := by
  have gen : ∀ (r pre : List D), items = pre ++ r → ∀ acc : List D, acc.length = pre.length → (∀ i y, acc[i]? = some y → P i y) → ∃ ys, loopC gt ft fe vs r acc cs = some (ys, cs) ∧ ys.length = items.length ∧ ∀ i y, ys[i]? = some y → P i y := by
    intro r
    induction r with
    | nil =>
      intro pre hp acc ha hP
      exact ⟨acc, rfl, by rw [ha, hp, List.append_nil], hP⟩
    | cons x r ih =>
      intro pre hp acc ha hP
      obtain ⟨c1, y, f1, h1, h2, h3, h3', h4, h5⟩ := hx pre.length x (by rw [hp]; simp)
      obtain ⟨ys, q1, q2, q3⟩ := ih (pre ++ [x]) (by rw [hp]; simp) (acc ++ [y]) (by simp [ha]) (fun i z hz => by
        by_cases hi : i < acc.length
        · rw [List.getElem?_append_left hi] at hz
          exact hP i z hz
        · rw [List.getElem?_append_right (by omega)] at hz
          have hi' : i - acc.length = 0 := by
            have := (List.getElem?_eq_some_iff.mp hz).1
            simp at this
            omega
          rw [hi'] at hz
          simp at hz
          subst hz
          have : i = pre.length := by omega
          rw [this]
          exact h3')
      refine ⟨ys, ?_, q2, q3⟩
      have hacc : acc.length < LIM := by
        have := congrArg List.length hp
        rw [List.length_append, List.length_cons] at this
        omega
      unfold loopC
      rw [h1, Option.bind_some, h2, Option.bind_some, if_pos rfl, h3, Option.bind_some]
      dsimp only
      rw [h4, h5, show decide (acc.length < LIM) = true from decide_eq_true hacc]
      exact q1
  exact gen items [] rfl [] rfl (fun i y h => by simp at h)
end
end Qp
end
section
set_option Elab.async false
set_option linter.all false
set_option maxRecDepth 100000
set_option maxHeartbeats 2000000
/-! Qr: dicts that are data: len, equality; calls that borrow an object of the caller. -/
namespace Qp
open PySem PySem.Spec PyProof.Rows L2
section
variable {X : Cx} {K : PySem.W.Frag} {F : Hp} {e a b : Expr} {es : List Expr} {te ta tb tk to : TE} {ts : TA} {fe fa fb fk : EX} {fs : AX} {pos fpos cpos xpos : Pos} {x : Str} {i : Nat}
/-! ### len -/
def rLenR : List V → Hp → VK → Prop := fun xs H Q => ∃ a kvs, xs = [V.ref a] ∧ Rd H a (.dK kvs) ∧ Q (.int kvs.length) H
theorem call_lenR : CallR X (.builtin "len") rLenR := by
  intro pins s σ H xs us Q I r h
  obtain ⟨a, kvs, rfl, ha, q⟩ := h
  cases r with
  | cons ru r =>
    cases r
    cases ru
    exact d_len I ha fun t s' I' => ⟨.int kvs.length, H, I', ⟨t, rfl⟩, q⟩
def gLenD : G1
  | .dict es => some (.int es.length, false)
  | _ => none
theorem sw_lenD : SRCw K rLenR gLenD := by
  intro H M hm x d rx z fr q Q k
  unfold gLenD at q
  split at q
  · cases q
    obtain ⟨a, kvs, rfl, hr, he, hp⟩ := rx.dict
    refine ⟨a, kvs, rfl, hr, ?_⟩
    rw [len_pd he]
    exact k _ H (Ex.refl H) (VOk.of (.int _))
  · cases q
/-! ### equality of dicts -/
def hitsD (fs : List (D × D)) : List (D × D) → Bool
  | [] => true
  | (k, d) :: r => match keyD k with
    | none => false
    | some k => match valD fs k with
      | none => false
      | some y => PyData.eqv d y && hitsD fs r
def eqD (es fs : List (D × D)) : Bool := es.length == fs.length && hitsD fs es
def shapedE (es : List (D × D)) : Bool := es.all fun p => SeqAt.shaped p.2
theorem keyD_kD (k : Key) : keyD (kD k) = some k := by cases k <;> rfl
theorem hits_pd {pins : List (Addr × Obj)} {σ : St} {H : Hp} {s : Shared} {A : Around} (I : L2.Inv X pins σ H s) (hA : A.units + 64 < cLine) {ls : List (Key × V)} {fs : List (D × D)} {vb : List (Key × Value)}
    (hf : fs.map (·.1) = ls.map (fun p => kD p.1)) (hp : Paired (Rp X.K H) (ls.map (·.2)) (fs.map (·.2))) (hs : shapedE fs = true) (rb : KV ls vb) :
    ∀ {ks : List (Key × V)} {es : List (D × D)} {va : List (Key × Value)}, es.map (·.1) = ks.map (fun p => kD p.1) → Paired (Rp X.K H) (ks.map (·.2)) (es.map (·.2)) → shapedE es = true → KV ks va → PySem.W.KeqHits A s vb va (hitsD fs es)
  | [], [], _, _, _, _, .nil => .nil
  | [], _ :: _, _, e, _, _, _ => by simp at e
  | _ :: _, [], _, e, _, _, _ => by simp at e
  | (j, v) :: ks, (x, d) :: es, (j', w) :: va, e, .cons r t, se, .cons h ra => by
    rw [List.map_cons, List.map_cons] at e
    injection e with e1 e2
    dsimp only at e1
    subst e1
    obtain ⟨h1, h2⟩ := h
    dsimp only at h1 h2
    subst h1
    unfold shapedE at se
    rw [List.all_cons, Bool.and_eq_true] at se
    have ih := hits_pd I hA hf hp hs rb e2 t se.2 ra
    have hv := KV.val rb j
    show PySem.W.KeqHits A s vb ((j, w) :: va) (match keyD (kD j) with
      | none => false
      | some k => match valD fs k with
        | none => false
        | some y => PyData.eqv d y && hitsD fs es)
    rw [keyD_kD]
    dsimp only
    rcases val_pd hf hp j with ⟨n1, n2⟩ | ⟨u, y, n1, n2, n3⟩
    · rw [n2]
      refine .miss ?_
      rw [n1] at hv
      cases hq : valueAt vb j with
      | none => rfl
      | some z => rw [hq] at hv; cases hv
    · rw [n2]
      rw [n1] at hv
      obtain ⟨z, hz, rz⟩ := RelO.some_of hv
      have sy : SeqAt.shaped y = true := by
        unfold valD at n2
        obtain ⟨p, hp1, hp2⟩ := Option.map_eq_some_iff.mp n2
        have := List.all_eq_true.mp hs p (List.mem_of_find?_eq_some hp1)
        rw [hp2] at this
        exact this
      have sd := se.1
      have cd : PyData.canLay0 d = true := by
        have := sd
        unfold SeqAt.shaped at this
        rw [Bool.and_eq_true] at this
        exact this.1
      have cy : PyData.canLay0 y = true := by
        have := sy
        unfold SeqAt.shaped at this
        rw [Bool.and_eq_true] at this
        exact this.1
      have dd : PyData.depth d ≤ 64 := by
        have := sd
        unfold SeqAt.shaped at this
        rw [Bool.and_eq_true, decide_eq_true_eq] at this
        exact this.2
      obtain ⟨as, r1⟩ := Dp.reads I d v w (dp_of r (Le.refl H) cd) h2
      obtain ⟨bs, r2⟩ := Dp.reads I y u z (dp_of n3 (Le.refl H) cy) rz
      exact .hit hz (SeqAt.eqAt_reads d y A s w z as bs r1 r2 cd cy (by omega)) ih
def rNeDD (K : PySem.W.Frag) (neg : Bool) : R2 := fun x y H Q => ∃ a b ks ls, ∃ es fs : List (D × D), x = .ref a ∧ y = .ref b ∧ Rd H a (.dK ks) ∧ Rd H b (.dK ls) ∧ es.map (·.1) = ks.map (fun p => kD p.1) ∧ Paired (Rp K H) (ks.map (·.2)) (es.map (·.2)) ∧
  fs.map (·.1) = ls.map (fun p => kD p.1) ∧ Paired (Rp K H) (ls.map (·.2)) (fs.map (·.2)) ∧ shapedE es = true ∧ shapedE fs = true ∧ Q (.bl (eqD es fs != neg)) H
theorem op_neDD (hu : X.A.units + 65 < cLine) : OpR X (compareOp .NotEq) (rNeDD X.K true) := by
  intro pins s σ H x y v u Q I rx ry h
  obtain ⟨a, b, ks, ls, es, fs, rfl, rfl, ra, rb, he, pe, hf, pf, se, sf, q⟩ := h
  cases rx
  cases ry
  obtain ⟨_, loa, va, ka, da⟩ := dk_rd I.hok ra
  obtain ⟨_, lob, vb, kb, db⟩ := dk_rd I.hok rb
  refine PySem.W.keq_ne (r := hitsD fs es) loa lob da db (by omega) (fun _ => hits_pd I (by show X.A.units + 1 + 64 < cLine; omega) hf pf sf kb he pe se ka) ?_
  refine fin_bl I q ?_
  unfold eqD
  rw [← KV.length ka, ← KV.length kb, len_pd he, len_pd hf, Bool.bne_true]
theorem op_eqDD (hu : X.A.units + 65 < cLine) : OpR X (compareOp .Eq) (rNeDD X.K false) := by
  intro pins s σ H x y v u Q I rx ry h
  obtain ⟨a, b, ks, ls, es, fs, rfl, rfl, ra, rb, he, pe, hf, pf, se, sf, q⟩ := h
  cases rx
  cases ry
  obtain ⟨_, loa, va, ka, da⟩ := dk_rd I.hok ra
  obtain ⟨_, lob, vb, kb, db⟩ := dk_rd I.hok rb
  refine PySem.W.keq_eq (r := hitsD fs es) loa lob da db (by omega) (fun _ => hits_pd I (by show X.A.units + 1 + 64 < cLine; omega) hf pf sf kb he pe se ka) ?_
  refine fin_bl I q ?_
  unfold eqD
  rw [← KV.length ka, ← KV.length kb, len_pd he, len_pd hf, Bool.bne_false]
def gEqD (neg : Bool) : G2
  | .dict es, .dict fs => if (shapedE es && shapedE fs) = true then some (.bool (eqD es fs != neg), false) else none
  | _, _ => none
theorem sw_eqDD {neg : Bool} : SRw K (rNeDD K neg) (gEqD neg) := by
  intro H M hm x y d e rx ry z fr q Q k
  unfold gEqD at q
  split at q
  · split at q
    · rename_i hs
      rw [Bool.and_eq_true] at hs
      cases q
      obtain ⟨a, ks, rfl, r1, he, pe⟩ := rx.dict
      obtain ⟨b, ls, rfl, r2, hf, pf⟩ := (Vw.of_rp ry).dict
      exact ⟨a, b, ks, ls, _, _, rfl, rfl, r1, r2, he, Rp.monoA cut_le pe, hf, Rp.monoA cut_le pf, hs.1, hs.2, k _ H (Ex.refl H) (VOk.of (.bl _))⟩
    · cases q
  · cases q
end
/-! ### borrowing -/
mutual
/-- a datum within which nothing can be changed -/
def noMut : D → Bool
  | .none => true
  | .bool _ => true
  | .int _ => true
  | .str _ => true
  | .tuple ds => noMutAll ds
  | .list _ => false
  | .dict _ => false
def noMutAll : List D → Bool
  | [] => true
  | d :: r => noMut d && noMutAll r
end
def noMutF (fr : Bool) (d : D) : Bool := if fr = true then (match d with
  | .list ds => noMutAll ds
  | .dict es => noMutAll (es.map (·.2))
  | _ => false) else noMut d
section
variable {K : PySem.W.Frag} {F F' : Hp}
/-- only lists and dicts are lacking in F' -/
def LeT (F F' : Hp) : Prop := ∀ a xs, Rd F a (.tup xs) → Rd F' a (.tup xs)
theorem rp_noMut (h : LeT F F') {v : V} {d : D} (r : Rp K F v d) : noMut d = true → Rp K F' v d :=
  Rp.rec (motive_1 := fun v d _ => noMut d = true → Rp K F' v d) (motive_2 := fun xs ds _ => noMutAll ds = true → Paired (Rp K F') xs ds) (fun _ => .non) (fun b _ => .bl b) (fun i _ => .int i) (fun x _ => .str x)
    (fun _ _ _ n => nomatch (show false = true from n)) (fun a _ ih n => .tup (a.imp (h _ _) id) (ih n)) (fun _ _ _ _ n => nomatch (show false = true from n)) (fun _ => .nil)
    (fun _ _ r t n => .cons (r (Bool.and_eq_true_iff.mp n).1) (t (Bool.and_eq_true_iff.mp n).2)) r
theorem rp_noMutAll (h : LeT F F') : ∀ {xs : List V} {ds : List D}, Paired (Rp K F) xs ds → noMutAll ds = true → Paired (Rp K F') xs ds
  | _, _, .nil, _ => .nil
  | _, _, .cons r t, n => .cons (rp_noMut h r (Bool.and_eq_true_iff.mp n).1) (rp_noMutAll h t (Bool.and_eq_true_iff.mp n).2)
end
end Qp
end
section
set_option Elab.async false
set_option linter.all false
set_option maxRecDepth 100000
set_option maxHeartbeats 2000000
/-! Qs: calls that borrow; displays of dicts; walks over the keys of a dict. -/
namespace Qp
open PySem PySem.Spec PyProof.Rows L2
def MdB (σ : St) (cs : En) (X : Addr → Prop) (bs : List Nat) : Addr → Prop := fun a => X a ∨ ∃ i, i ∉ bs ∧ OwnS σ cs i a
theorem mdB_md {σ : St} {cs : En} {X : Addr → Prop} {bs : List Nat} {a : Addr} (h : MdB σ cs X bs a) : Md σ cs X a := h.imp id fun ⟨i, _, q⟩ => ⟨i, q⟩
theorem le_mdB {H : Hp} {σ : St} {cs : En} {X : Addr → Prop} {bs : List Nat} : Le (cut H (Md σ cs X)) (cut H (MdB σ cs X bs)) := le_cut fun _ _ e m => ⟨e, fun z => m (mdB_md z)⟩
def SAB (K : PySem.W.Frag) (t : TA) (f : AX) (bs : List Nat) : Prop := ∀ {B : Hp} {IO : List (Nat × Addr)} {X : Addr → Prop} {σ : St} {H : Hp} {cs : En}, Ok K B IO X σ H cs → ∀ {ds : List D} {cs' : En}, f cs = some (ds, cs') →
  ∀ Q : List V → Hp → Prop, (∀ vs H', Post K B IO X σ H cs σ H' cs' → Paired (Rp K (cut H' (MdB σ cs' X bs))) vs ds → Q vs H') → t σ H Q
structure DAB (X : Cx) (e : List Expr) (t : TA) (f : AX) (bs : List Nat) : Prop where
  pa : PA X e t
  sab : SAB X.K t f bs
section
variable {X : Cx} {K : PySem.W.Frag} {e a b : Expr} {es : List Expr} {te ta tb tk to : TE} {ts : TA} {fe fa fb fk : EX} {fs : AX} {pos fpos cpos xpos p : Pos} {x : Str} {i n k : Nat} {bs : List Nat} {F : GA} {f : Addr} {fd : FuncData} {ps : List Str}
theorem dab_nil : DAB X [] tNil evNil bs := by
  refine ⟨pa_nil, ?_⟩
  intro B IO Z σ H cs ok ds cs' e Q q
  cases e
  exact q [] H (Post.refl ok) .nil
theorem dab_cons (h : DE X e te fe) (hr : DAB X es ts fs bs) (hs : starEach (e :: es) X.env = (false, eval e X.env) :: starEach es X.env := by rfl) : DAB X (e :: es) (tCons te ts) (evCons fe fs) bs := by
  refine ⟨pa_cons h.pe hr.pa hs, ?_⟩
  intro B IO Z σ H cs ok ds cs' e Q q
  unfold evCons at e
  obtain ⟨⟨d1, f1, c1⟩, e1, e⟩ := Option.bind_eq_some_iff.mp e
  obtain ⟨⟨d2, c2⟩, e2, e⟩ := Option.bind_eq_some_iff.mp e
  cases e
  refine h.se ok e1 _ fun x H1 w1 => hr.sab w1.post.ok e2 _ fun xs H2 p2 v2 => q _ H2 (w1.post.trans p2) (.cons ((w1.rp.mono p2.le).mono le_mdB) v2)
def evBor (i : Nat) (g : AX) : AX := fun cs => (cont cs i).bind fun _ => (g cs).bind fun s => (cont s.2 i).bind fun d => some (d :: s.1, s.2)
theorem Ok.borrow {B : Hp} {IO : List (Nat × Addr)} {Z : Addr → Prop} {σ : St} {H : Hp} {cs : En} (ok : Ok K B IO Z σ H cs) {d : D} (h : cont cs i = some d) (hb : i ∈ bs) : ∃ v, σ[i]? = some (some v) ∧ Rp K (cut H (MdB σ cs Z bs)) v d := by
  have own : ∀ d : D, (cs[i]? = some (.own d) ∨ cs[i]? = some (.io d)) → ∃ v, σ[i]? = some (some v) ∧ Rp K (cut H (MdB σ cs Z bs)) v d := by
    intro d hd
    obtain ⟨a, h1, h2⟩ := ok.own i d hd
    have ho : OwnS σ cs i a := ⟨h1, d, hd⟩
    refine ⟨.ref a, h1, h2.rp (cut_of fun m => ?_) le_mdB⟩
    rcases m with m | ⟨j, hj, q⟩
    · exact ok.dis i a ho m
    · have := ok.inj i j a ho q
      subst this
      exact hj hb
  unfold cont at h
  split at h
  · rename_i d' h'
    cases h
    obtain ⟨v, h1, h2⟩ := ok.dat i _ h'
    exact ⟨v, h1, h2.mono le_mdB⟩
  · rename_i d' h'
    cases h
    exact own _ (.inl h')
  · rename_i d' h'
    cases h
    exact own _ (.inr h')
  · cases h
theorem dab_bor (hv : DE X (.Name x xpos) (tVar i) (evVar i)) (hr : DAB X es ts fs bs) (hb : i ∈ bs) (hs : starEach (.Name x xpos :: es) X.env = (false, eval (.Name x xpos) X.env) :: starEach es X.env := by rfl) : DAB X (.Name x xpos :: es) (tCons (tVar i) ts) (evBor i fs) bs := by
  refine ⟨pa_cons hv.pe hr.pa hs, ?_⟩
  intro B IO Z σ H cs ok ds cs' e Q q
  unfold evBor at e
  obtain ⟨d0, e0, e⟩ := Option.bind_eq_some_iff.mp e
  obtain ⟨⟨d2, c2⟩, e2, e⟩ := Option.bind_eq_some_iff.mp e
  obtain ⟨d, e1, e⟩ := Option.bind_eq_some_iff.mp e
  cases e
  obtain ⟨v, hv, _⟩ := ok.view e0
  refine ⟨v, hv, hr.sab ok e2 _ fun xs H2 p2 v2 => ?_⟩
  obtain ⟨v', hv', r⟩ := p2.ok.borrow e1 hb
  rw [hv] at hv'
  cases hv'
  exact q _ H2 p2 (.cons r v2)
theorem leT_mdB {B : Hp} {IO : List (Nat × Addr)} {Z : Addr → Prop} {σ : St} {H H' : Hp} {cs : En} (ok : Ok K B IO Z σ H cs) (x : Ex H H') {P : Addr → Prop} : LeT (cut H' (fun a => MdB σ cs Z bs a ∨ P a)) (cut H' (fun a => Md σ cs Z a ∨ P a)) := by
  have key : ∀ a u, H' a = some u → (∀ xs, u ≠ .lst xs) → (∀ kvs, u ≠ .dK kvs) → ¬ (MdB σ cs Z bs a ∨ P a) → ¬ (Md σ cs Z a ∨ P a) := by
    intro a u hu n1 n2 nm m
    rcases m with m | m
    · rcases m with m | ⟨i, q⟩
      · exact nm (.inl (.inl m))
      · by_cases hi : i ∈ bs
        · obtain ⟨q1, d, q2⟩ := q
          obtain ⟨b, g1, g2⟩ := ok.own i d q2
          rw [q1] at g1
          cases g1
          generalize hg : H a = o at g2
          cases g2 with
          | lst _ => rw [x a _ hg] at hu; cases hu; exact n1 _ rfl
          | dic _ _ => rw [x a _ hg] at hu; cases hu; exact n2 _ rfl
        · exact nm (.inl (.inr ⟨i, hi, q⟩))
    · exact nm (.inr m)
  intro a xs r
  rcases r with r | ⟨o, r⟩
  · obtain ⟨h1, h2⟩ := cut_some r
    exact .inl ((cut_of (key a _ h1 (fun _ z => nomatch z) (fun _ z => nomatch z) h2)).trans h1)
  · obtain ⟨h1, h2⟩ := cut_some r
    exact .inr ⟨o, (cut_of (key a _ h1 (fun _ z => nomatch z) (fun _ z => nomatch z) h2)).trans h1⟩
theorem cut_or {H : Hp} {M : Addr → Prop} : cut H (fun a => M a ∨ False) = cut H M := funext fun a => by
  by_cases h : M a
  · rw [cut_in h, cut_in (Or.inl h)]
  · rw [cut_of h, cut_of (fun z => z.elim h id)]
def evCB (G : GA) (fs : AX) : EX := fun cs => (fs cs).bind fun r => (G r.1).bind fun z => if noMutF z.2 z.1 = true then some (z.1, z.2, r.2) else none
theorem de_callB (bs : List Nat) (hF : FnOk X.prog X.w X.K X.mg X.base CX0 k f fd ps (spP X.K n F)) (hr : Room k X.A) (hg : Gl X x) (hm : X.mg x = some (.ref f)) (hk : PySem.W.keepIn X.K (.ref f) = true) (hb : Binds X.K fd ps []) (ha : DAB X (e :: es) ts fs bs)
    (hdb : (x == ("__debug__" : Str)) = false := by decide) (he : starEach (e :: es) X.env = (false, eval e X.env) :: starEach es X.env := by rfl) (hpl : (backTo pos (starEach es X.env)).any (·.1) = false := by rfl) :
    DE X (.Call (.Name x p) (e :: es) [] pos) (tCall (spP X.K n F) [] E0 ts) (evCB (gN n F) fs) := by
  refine ⟨pe_call hF hr hg hm hk hb .nil pass0 ha.pa hdb he hpl, ?_⟩
  intro B IO Z σ H cs ok d fr cs' e Q q
  unfold evCB at e
  obtain ⟨⟨d1, c1⟩, e1, e⟩ := Option.bind_eq_some_iff.mp e
  obtain ⟨⟨z, fz⟩, e2, e⟩ := Option.bind_eq_some_iff.mp e
  dsimp only at e e2
  split at e
  · rename_i hn
    cases e
    unfold gN at e2
    split at e2
    · rename_i hl
      refine ha.sab ok e1 _ fun vs H1 p1 v1 => ⟨MdB σ cs' Z bs, d1, d, fr, fun a m => p1.ok.md a (mdB_md m), hl, by rw [List.append_nil]; exact v1, e2, fun v H' x w => ?_⟩
      refine q v H' (Pe.of p1 x ?_)
      unfold VOk at w ⊢
      cases fr with
      | false =>
        have w' : Rp X.K (cut H' (MdB σ cs' Z bs)) v d := w
        have lt := leT_mdB (bs := bs) p1.ok x (P := fun _ => False)
        rw [cut_or, cut_or] at lt
        exact rp_noMut lt w' hn
      | true =>
        obtain ⟨p, rfl, hp, ow⟩ := (show ∃ p, v = .ref p ∧ H1 p = none ∧ OwnAt X.K (cut H' (fun a => MdB σ cs' Z bs a ∨ a = p)) (H' p) d from w)
        have lt := leT_mdB (bs := bs) p1.ok x (P := fun a => a = p)
        refine ⟨p, rfl, hp, ?_⟩
        generalize H' p = o at ow
        cases ow with
        | lst qq => exact .lst (rp_noMutAll lt qq hn)
        | dic e' qq => exact .dic e' (rp_noMutAll lt qq hn)
    · cases e2
  · cases e
theorem dcB (bs : List Nat) (c : Cal X.prog X.w X.K X.mg X.base x k ps (spP X.K n F)) (hr : Room k X.A) (ha : DAB X (e :: es) ts fs bs) (hg : Gl X x := by rfl)
    (hdb : (x == ("__debug__" : Str)) = false := by decide) (he : starEach (e :: es) X.env = (false, eval e X.env) :: starEach es X.env := by rfl) (hpl : (backTo pos (starEach es X.env)).any (·.1) = false := by rfl) :
    DE X (.Call (.Name x p) (e :: es) [] pos) (tCall (spP X.K n F) [] E0 ts) (evCB (gN n F) fs) := de_callB bs c.ok hr hg c.m c.kp c.b ha hdb he hpl
/-! ### displays of dicts -/
abbrev PX := En → Option (List (Key × D) × En)
def SPs (K : PySem.W.Frag) (trs : List (TE × TE)) (f : PX) : Prop := ∀ {B : Hp} {IO : List (Nat × Addr)} {X : Addr → Prop} {σ : St} {H : Hp} {cs : En}, Ok K B IO X σ H cs → ∀ {ds : List (Key × D)} {cs' : En}, f cs = some (ds, cs') →
  ∀ Q : List (V × V) → Hp → Prop, (∀ vs H', Post K B IO X σ H cs σ H' cs' → Paired (fun q p => q.1 = kV p.1 ∧ Rp K (cut H' (Md σ cs' X)) q.2 p.2) vs ds → Q vs H') → tPairs trs σ H Q
structure DPs (X : Cx) (pos : Pos) (ks : List (Option Expr)) (vs : List Expr) (trs : List (TE × TE)) (f : PX) : Prop where
  pp : PPs X pos ks vs trs
  sp : SPs X.K trs f
def evPn : PX := fun cs => some ([], cs)
def evPc (fk fe : EX) (g : PX) : PX := fun cs => (fk cs).bind fun r => (keyD r.1).bind fun k => (fe r.2.2).bind fun s => (g s.2.2).bind fun u => some ((k, s.1) :: u.1, u.2)
theorem dp_nil : DPs X pos [] [] [] evPn := by
  refine ⟨pps_nil, ?_⟩
  intro B IO Z σ H cs ok ds cs' e Q q
  cases e
  exact q [] H (Post.refl ok) .nil
theorem dp_cons {ks : List (Option Expr)} {vs : List Expr} {trs : List (TE × TE)} {g : PX} (hk : DE X a tk fk) (he : DE X e te fe) (hr : DPs X pos ks vs trs g) : DPs X pos (some a :: ks) (e :: vs) ((tk, te) :: trs) (evPc fk fe g) := by
  refine ⟨pps_cons hk.pe he.pe hr.pp, ?_⟩
  intro B IO Z σ H cs ok ds cs' e Q q
  unfold evPc at e
  obtain ⟨⟨d1, f1, c1⟩, e1, e⟩ := Option.bind_eq_some_iff.mp e
  obtain ⟨kk, e2, e⟩ := Option.bind_eq_some_iff.mp e
  obtain ⟨⟨d3, f3, c3⟩, e3, e⟩ := Option.bind_eq_some_iff.mp e
  obtain ⟨⟨d4, c4⟩, e4, e⟩ := Option.bind_eq_some_iff.mp e
  cases e
  show tk σ H fun x H1 => te σ H1 fun y H2 => tPairs trs σ H2 fun ps H3 => Q ((x, y) :: ps) H3
  refine hk.se ok e1 _ fun x H1 w1 => he.se w1.post.ok e3 _ fun y H2 w2 => hr.sp w2.post.ok e4 _ fun ps H3 p3 v3 => ?_
  exact q _ H3 ((w1.post.trans w2.post).trans p3) (.cons ⟨key_rp w1.rp e2, w2.rp.mono p3.le⟩ v3)
def mergeD (es : List (D × D)) (ps : List (Key × D)) : List (D × D) := ps.foldl (fun acc p => putD acc p.1 p.2) es
theorem merge_pd {R : V → D → Prop} : ∀ {vs : List (V × V)} {ps : List (Key × D)}, Paired (fun q p => q.1 = kV p.1 ∧ R q.2 p.2) vs ps → ∃ kvs : List (Key × V), vs = kvs.map (fun kv => (kV kv.1, kv.2)) ∧ kvs.length = ps.length ∧
    ∀ {acc : List (Key × V)} {es : List (D × D)}, es.map (·.1) = acc.map (fun p => kD p.1) → Paired R (acc.map (·.2)) (es.map (·.2)) → (mergeD es ps).map (·.1) = (mergeK acc kvs).map (fun p => kD p.1) ∧ Paired R ((mergeK acc kvs).map (·.2)) ((mergeD es ps).map (·.2))
  | _, _, .nil => ⟨[], rfl, rfl, fun h1 h2 => ⟨h1, h2⟩⟩
  | (v, w) :: vs, (k, d) :: ps, .cons h t => by
    obtain ⟨h1, h2⟩ := h
    dsimp only at h1 h2
    subst h1
    obtain ⟨kvs, rfl, hl, g⟩ := merge_pd t
    refine ⟨(k, w) :: kvs, rfl, by simp [hl], fun h3 h4 => ?_⟩
    have := put_pd (k := k) h2 h3 h4
    exact g this.1 this.2
theorem Ok.updX2 {B : Hp} {IO : List (Nat × Addr)} {Z : Addr → Prop} {σ : St} {H : Hp} {cs : En} (ok : Ok K B IO Z σ H cs) {p : Addr} {o : HO} (hp : Z p) (hB : B p = none) : Ok K B IO Z σ (upd H p o) cs := by
  have hle : Le (cut H (Md σ cs Z)) (cut (upd H p o) (Md σ cs Z)) := le_cut fun a u e m => ⟨by rw [upd_ne (fun z => m (.inl (by rw [z]; exact hp)))]; exact e, m⟩
  refine ⟨ok.len, fun i d e => ?_, fun i d e => ?_, ok.inj, ok.dis, fun a h => ?_, ok.new, ok.io, ok.ios, fun a u h e => ?_, fun a h => ?_⟩
  · obtain ⟨v, h1, h2⟩ := ok.dat i d e
    exact ⟨v, h1, h2.mono hle⟩
  · obtain ⟨a, h1, h2⟩ := ok.own i d e
    have ne : a ≠ p := fun z => ok.dis i a ⟨h1, d, e⟩ (by rw [z]; exact hp)
    refine ⟨a, h1, ?_⟩
    rw [upd_ne ne]
    exact h2.mono hle
  · by_cases z : a = p
    · rw [z, upd_same]; exact fun z => nomatch z
    · rw [upd_ne z]; exact ok.xin a h
  · have ne : a ≠ p := fun z => by rw [z, hB] at e; cases e
    rw [upd_ne ne]
    exact ok.base a u h e
  · by_cases z : a = p
    · rw [z, upd_same]; exact fun z => nomatch z
    · rw [upd_ne z]; exact ok.dom a h
def evDisp (g : PX) : EX := fun cs => (g cs).bind fun r => if r.1.length ≤ 15 then some (.dict (mergeD [] r.1), true, r.2) else none
theorem de_disp {ks : List (Option Expr)} {vs : List Expr} {trs : List (TE × TE)} {g : PX} (h : DPs X pos ks vs trs g) (hall : ks.all (·.isSome) = true) (hl : ks.length = vs.length) (h0 : ks ≠ []) (h15 : ks.length ≤ 15) : DE X (.Dict ks vs pos) (tDisp trs) (evDisp g) := by
  refine ⟨pe_disp h.pp hall hl h0 h15, ?_⟩
  intro B IO Z σ H cs ok d fr cs' e Q q
  unfold evDisp at e
  obtain ⟨⟨ps, c1⟩, e1, e⟩ := Option.bind_eq_some_iff.mp e
  dsimp only at e
  split at e
  · rename_i hn
    cases e
    intro p hp
    have hq := Pe.of (K := X.K) (Post.refl ok) (Ex.new (o := HO.dK []) hp) (VOk.new hp ok.md (.dic rfl .nil : OwnAt X.K _ (some (HO.dK [])) (.dict [])))
    obtain ⟨p', ep, _, pn, _⟩ := (show ∃ p', V.ref p = .ref p' ∧ H p' = none ∧ PostN X.K B IO Z σ H cs p' σ (upd H p (.dK [])) cs ∧ OwnAt X.K (cut (upd H p (.dK [])) (Md σ cs (XP Z p'))) (upd H p (.dK []) p') (.dict []) from hq)
    cases ep
    refine h.sp pn.ok e1 _ fun us H2 p2 v2 => ?_
    obtain ⟨kvs, rfl, hlen, mg⟩ := merge_pd v2
    have hk : H2 p = some (.dK []) := by rw [p2.keep p (.inr rfl), upd_same]
    obtain ⟨m1, m2⟩ := mg (acc := []) (es := []) rfl .nil
    refine ⟨hk, kvs, rfl, by omega, ?_⟩
    have hB : B p = none := by
      cases hb : B p with
      | none => rfl
      | some o => exact absurd hp (ok.dom p (by rw [hb]; exact fun z => nomatch z))
    refine q _ _ ⟨p, rfl, hp, ⟨p2.ok.updX2 (.inr rfl) hB, ?_, fun a ha => ?_, fun a ha => ?_, pn.np⟩, ?_⟩
    · refine (pn.le.trans p2.le).trans (le_cut fun a u e m => ⟨?_, m⟩)
      rw [upd_ne (fun z => m (.inl (.inr z)))]
      exact e
    · have ne : a ≠ p := fun z => pn.np (by rw [← z]; exact ha)
      rw [upd_ne ne, p2.keep a (.inl ha), upd_ne ne]
    · by_cases z : a = p
      · rw [z, upd_same]; exact fun z => nomatch z
      · rw [upd_ne z]; exact p2.dom a (by rw [upd_ne z]; exact ha)
    · rw [upd_same]
      refine .dic m1 (Rp.monoA (le_cut fun a u e m => ⟨?_, m⟩) m2)
      rw [upd_ne (fun z => m (.inl (.inr z)))]
      exact e
  · cases e
end
end Qp
end
section
set_option Elab.async false
set_option linter.all false
set_option maxRecDepth 100000
set_option maxHeartbeats 2000000
/-! Qt: for k in d. -/
namespace Qp
open PySem PySem.Spec PyProof.Rows L2
section
variable {X : Cx} {K : PySem.W.Frag} {i : Nat} {g : TG} {tb : TS} {gb : SX} {f : GX} {tgs : List Nat} {B : Hp} {IO : List (Nat × Addr)} {Z : Addr → Prop} {σ : St} {H : Hp} {cs : En} {a : Addr} {o : Obj} {kvs : List (Key × V)} {es : List (D × D)}
theorem rp_kD {F : Hp} (k : Key) : Rp K F (kV k) (kD k) := by
  cases k with
  | inl j => exact .int j
  | inr s => exact .str s
theorem forK_core (hg : SG K g tgs f) (hb : SS K tb gb) (ok : Ok K B IO Z σ H cs) (hB : B a = some (.frz o (.dK kvs))) (hIO : ∀ i, (i, a) ∉ IO) (he : es.map (·.1) = kvs.map (fun p => kD p.1)) (hs : σ[i]? = some (some (.ref a))) {r : Res} (el : loopF f gb (es.map (·.1)) cs = some r) (Dn : Ends) (q : DnOk K B IO Z σ H cs r Dn) :
    tFor (iKeys (tVar i)) g tb Dn σ H := by
  have hlen : (es.map (·.1)).length = kvs.length := by rw [he, List.length_map]
  refine ⟨.ref a, hs, a, o, rfl, .inl ⟨kvs, ok.base a _ hIO hB, ?_⟩⟩
  refine ⟨fun i m σ' H' => m = kvs.length - i ∧ i ≤ kvs.length ∧ ∃ c, Post K B IO Z σ H cs σ' H' c ∧ loopF f gb ((es.map (·.1)).drop i) c = some r, ⟨_, rfl, Nat.zero_le _, cs, Post.refl ok, by rw [List.drop_zero]; exact el⟩, ?_⟩
  rintro i m σ' H' ⟨rfl, hil, c, p, el⟩
  have hx := p.ok.base a _ hIO hB
  by_cases hlt : i < kvs.length
  · have hlt' : i < (es.map (·.1)).length := by omega
    rw [List.drop_eq_getElem_cons hlt'] at el
    unfold loopF at el
    obtain ⟨c2, e2, el⟩ := Option.bind_eq_some_iff.mp el
    obtain ⟨rb, e3, el⟩ := Option.bind_eq_some_iff.mp el
    have hk : (es.map (·.1))[i] = kD kvs[i].1 := by
      have : (es.map (·.1))[i]? = (kvs.map (fun p => kD p.1))[i]? := by rw [he]
      rw [List.getElem?_eq_getElem hlt', List.getElem?_map, List.getElem?_eq_getElem hlt] at this
      exact Option.some.inj this
    refine .inr ⟨⟨hx, hlt⟩, fun σ3 H3 => ∃ c3, Post K B IO Z σ H cs σ3 H3 c3 ∧ loopF f gb ((es.map (·.1)).drop (i + 1)) c3 = some r, fun σ3 H3 ⟨c3, h1, h3⟩ => ⟨kvs.length - (i + 1), by omega, rfl, hlt, c3, h1, h3⟩, fun x H2 hy => ?_⟩
    obtain ⟨rfl, k, v, hkv, rfl⟩ := hy
    rw [List.getElem?_eq_getElem hlt] at hkv
    cases hkv' : kvs[i] with
    | mk k' v' =>
      rw [hkv'] at hkv hk
      cases hkv
      refine hg p.ok (by rw [hk]; exact rp_kD k) e2 _ fun σ3 H3 p3 _ => ?_
      have p123 := p.trans p3
      refine hb p3.ok e3 _ ?_
      cases rb with
      | nx c4 => exact fun σ4 H4 p4 => ⟨c4, p123.trans p4, el⟩
      | ct c4 => exact fun σ4 H4 p4 => ⟨c4, p123.trans p4, el⟩
      | bk c4 =>
        cases el
        exact fun σ4 H4 p4 => q σ4 H4 (p123.trans p4)
      | rt d fr c4 =>
        cases el
        exact fun v σ4 H4 p4 => q v σ4 H4 (p4.pre p123)
  · have hi' : i = kvs.length := by omega
    subst hi'
    rw [List.drop_eq_nil_of_le (by omega)] at el
    cases el
    exact .inl ⟨⟨hx, Nat.le_refl _⟩, q σ' H' p⟩
/-! an object is put under a lock, and taken out again -/
theorem ok_in {u w : HO} (ok : Ok K B IO Z σ H cs) (hu : H a = some u) (hm : ¬ Md σ cs Z a) (hw : ∀ F F' : Hp, F a = some u → F' a = some w → ∀ v, Nf v → Rd F a v → Rd F' a v) : Ok K (upd B a w) IO Z σ (upd H a w) cs ∧ Le (cut H (Md σ cs Z)) (cut (upd H a w) (Md σ cs Z)) := by
  have hle : Le (cut H (Md σ cs Z)) (cut (upd H a w) (Md σ cs Z)) := by
    intro b v nv r
    by_cases e : b = a
    · subst e
      exact hw _ _ ((cut_of hm).trans hu) ((cut_of hm).trans upd_same) v nv r
    · have : cut (upd H a w) (Md σ cs Z) b = cut H (Md σ cs Z) b := by
        by_cases m : Md σ cs Z b
        · rw [cut_in m, cut_in m]
        · rw [cut_of m, cut_of m, upd_ne e]
      unfold Rd at r ⊢
      rw [this]
      exact r
  refine ⟨⟨ok.len, fun i d e => ?_, fun i d e => ?_, ok.inj, ok.dis, fun b h => ?_, fun i b d h1 h2 => ?_, ok.io, ok.ios, fun b v h e => ?_, fun b h => ?_⟩, hle⟩
  · obtain ⟨v, h1, h2⟩ := ok.dat i d e
    exact ⟨v, h1, h2.mono hle⟩
  · obtain ⟨b, h1, h2⟩ := ok.own i d e
    have ne : b ≠ a := fun z => hm (.inr ⟨i, by rw [← z]; exact h1, d, e⟩)
    refine ⟨b, h1, ?_⟩
    rw [upd_ne ne]
    exact h2.mono hle
  · by_cases e : b = a
    · rw [e, upd_same]; exact fun z => nomatch z
    · rw [upd_ne e]; exact ok.xin b h
  · have ne : b ≠ a := fun z => hm (.inr ⟨i, by rw [← z]; exact h1, d, .inl h2⟩)
    rw [upd_ne ne]
    exact ok.new i b d h1 h2
  · by_cases c : b = a
    · subst c; rw [upd_same] at e ⊢; exact e
    · rw [upd_ne c] at e ⊢; exact ok.base b v h e
  · by_cases c : b = a
    · rw [c, upd_same]; exact fun z => nomatch z
    · rw [upd_ne c] at h ⊢; exact ok.dom b h
theorem ok_out {u w : HO} (ok : Ok K (upd B a w) IO Z σ H cs) (hIO : ∀ i, (i, a) ∉ IO) (hBu : B a = none ∨ B a = some u) (hz : ∀ xs, w ≠ .lst xs) (hz2 : ∀ kvs, w ≠ .dK kvs) (hZ : ¬ Z a) (hw : ∀ F F' : Hp, F a = some w → F' a = some u → ∀ v, Nf v → Rd F a v → Rd F' a v) :
    Ok K B IO Z σ (upd H a u) cs ∧ Le (cut H (Md σ cs Z)) (cut (upd H a u) (Md σ cs Z)) := by
  have hHa : H a = some w := ok.base a w hIO upd_same
  have hm : ¬ Md σ cs Z a := by
    rintro (m | ⟨i, h1, d, h2⟩)
    · exact hZ m
    · obtain ⟨b, g1, g2⟩ := ok.own i d h2
      rw [h1] at g1
      cases g1
      rw [hHa] at g2
      generalize hq : some w = oo at g2
      cases g2 with
      | lst _ => exact hz _ (Option.some.inj hq)
      | dic _ _ => exact hz2 _ (Option.some.inj hq)
  have hle : Le (cut H (Md σ cs Z)) (cut (upd H a u) (Md σ cs Z)) := by
    intro b v nv r
    by_cases e : b = a
    · subst e
      exact hw _ _ ((cut_of hm).trans hHa) ((cut_of hm).trans upd_same) v nv r
    · have : cut (upd H a u) (Md σ cs Z) b = cut H (Md σ cs Z) b := by
        by_cases m : Md σ cs Z b
        · rw [cut_in m, cut_in m]
        · rw [cut_of m, cut_of m, upd_ne e]
      unfold Rd at r ⊢
      rw [this]
      exact r
  refine ⟨⟨ok.len, fun i d e => ?_, fun i d e => ?_, ok.inj, ok.dis, fun b h => ?_, fun i b d h1 h2 => ?_, ok.io, ok.ios, fun b v h e => ?_, fun b h => ?_⟩, hle⟩
  · obtain ⟨v, h1, h2⟩ := ok.dat i d e
    exact ⟨v, h1, h2.mono hle⟩
  · obtain ⟨b, h1, h2⟩ := ok.own i d e
    have ne : b ≠ a := fun z => hm (.inr ⟨i, by rw [← z]; exact h1, d, e⟩)
    refine ⟨b, h1, ?_⟩
    rw [upd_ne ne]
    exact h2.mono hle
  · by_cases e : b = a
    · rw [e, upd_same]; exact fun z => nomatch z
    · rw [upd_ne e]; exact ok.xin b h
  · have ne : b ≠ a := fun z => hm (.inr ⟨i, by rw [← z]; exact h1, d, .inl h2⟩)
    have := ok.new i b d h1 h2
    rwa [upd_ne ne] at this
  · by_cases c : b = a
    · subst c
      rw [upd_same]
      rcases hBu with z | z
      · rw [z] at e; cases e
      · rw [z] at e; exact e
    · rw [upd_ne c]; exact ok.base b v h (by rw [upd_ne c]; exact e)
  · by_cases c : b = a
    · rw [c, upd_same]; exact fun z => nomatch z
    · rw [upd_ne c]; exact ok.dom b (by rw [upd_ne c]; exact h)
theorem frz_nl {o : Obj} {u : HO} : ∀ xs, HO.frz o u ≠ .lst xs := fun _ z => nomatch z
theorem frz_nd {o : Obj} {u : HO} : ∀ kvs, HO.frz o u ≠ .dK kvs := fun _ z => nomatch z
theorem hu65 {A : Around} {k : Nat} (h : Room k A) : A.units + 65 < cLine := by
  have := h.un
  omega
/-! the walk -/
def tForK (i : Nat) (g : TG) (tb : TS) : TS := fun Dn σ H => tFor (iKeys (tVar i)) g tb Dn σ H ∨ tLock (tFor (iKeys (tVar i)) g tb) Dn σ H
def sForK (i : Nat) (f : GX) (gb : SX) : SX := fun cs => (evVar i cs).bind fun r => match r.1 with
  | .dict es => loopF f gb (es.map (·.1)) r.2.2
  | _ => none
theorem rd_frz {o : Obj} {u : HO} (hu : Nf u) : ∀ F F' : Hp, F a = some u → F' a = some (.frz o u) → ∀ v, Nf v → Rd F a v → Rd F' a v := by
  intro F F' h h' v nv r
  rcases r with r | ⟨o', r⟩
  · rw [h] at r; cases r; exact .inr ⟨o, h'⟩
  · rw [h] at r; cases r; exact absurd rfl (hu _ _)
theorem rd_unf {o : Obj} {u : HO} : ∀ F F' : Hp, F a = some (.frz o u) → F' a = some u → ∀ v, Nf v → Rd F a v → Rd F' a v := by
  intro F F' h h' v nv r
  rcases r with r | ⟨o', r⟩
  · rw [h] at r; cases r; exact absurd rfl (nv _ _)
  · rw [h] at r; cases r; exact .inl h'
theorem rd_same {u : HO} : ∀ F F' : Hp, F a = some u → F' a = some u → ∀ v, Nf v → Rd F a v → Rd F' a v := by
  intro F F' h h' v nv r
  rcases r with r | ⟨o', r⟩
  · rw [h] at r; exact .inl (h'.trans r)
  · rw [h] at r; exact .inr ⟨o', h'.trans r⟩
/-- behind the walk: the object is as it was -/
theorem post_out {u w : HO} {σ' : St} {H' : Hp} {c : En} (ok : Ok K B IO Z σ H cs) (hu : H a = some u) (hm : ¬ Md σ cs Z a) (hIO : ∀ i, (i, a) ∉ IO) (hz : ∀ xs, w ≠ .lst xs) (hz2 : ∀ kvs, w ≠ .dK kvs) (hw1 : ∀ F F' : Hp, F a = some u → F' a = some w → ∀ v, Nf v → Rd F a v → Rd F' a v)
    (hw : ∀ F F' : Hp, F a = some w → F' a = some u → ∀ v, Nf v → Rd F a v → Rd F' a v) (p : Post K (upd B a w) IO Z σ (upd H a w) cs σ' H' c) : H' a = some w ∧ Post K B IO Z σ H cs σ' (upd H' a u) c := by
  obtain ⟨_, l1⟩ := ok_in ok hu hm hw1
  have hBu : B a = none ∨ B a = some u := by
    cases hb : B a with
    | none => exact .inl rfl
    | some v => rw [← hu]; exact .inr (ok.base a v hIO hb).symm
  have hZ : ¬ Z a := fun z => hm (.inl z)
  obtain ⟨o2, l2⟩ := ok_out p.ok hIO hBu hz hz2 hZ hw
  refine ⟨p.ok.base a w hIO upd_same, o2, (l1.trans p.le).trans l2, fun b hb => ?_, fun b hb => ?_⟩
  · have ne : b ≠ a := fun z => hZ (by rw [← z]; exact hb)
    rw [upd_ne ne, p.keep b hb, upd_ne ne]
  · by_cases c : b = a
    · rw [c, upd_same]; exact fun z => nomatch z
    · rw [upd_ne c]; exact p.dom b (by rw [upd_ne c]; exact hb)
theorem pe_out {u w : HO} {σ' : St} {H' : Hp} {c : En} {fr : Bool} {v : V} {d : D} (ok : Ok K B IO Z σ H cs) (hu : H a = some u) (hm : ¬ Md σ cs Z a) (hIO : ∀ i, (i, a) ∉ IO) (hz : ∀ xs, w ≠ .lst xs) (hz2 : ∀ kvs, w ≠ .dK kvs) (hw1 : ∀ F F' : Hp, F a = some u → F' a = some w → ∀ v, Nf v → Rd F a v → Rd F' a v)
    (hw : ∀ F F' : Hp, F a = some w → F' a = some u → ∀ v, Nf v → Rd F a v → Rd F' a v) (p : Pe K (upd B a w) IO Z σ (upd H a w) cs σ' H' c fr v d) : H' a = some w ∧ Pe K B IO Z σ H cs σ' (upd H' a u) c fr v d := by
  have hBu : B a = none ∨ B a = some u := by
    cases hb : B a with
    | none => exact .inl rfl
    | some v => rw [← hu]; exact .inr (ok.base a v hIO hb).symm
  have hZ : ¬ Z a := fun z => hm (.inl z)
  obtain ⟨h1, h2⟩ := post_out ok hu hm hIO hz hz2 hw1 hw p.post
  refine ⟨h1, ?_⟩
  cases fr with
  | false =>
    have hr := p.rp
    obtain ⟨_, l2⟩ := ok_out p.post.ok hIO hBu hz hz2 hZ hw
    exact .dat h2 (hr.mono l2)
  | true =>
    obtain ⟨_, l1⟩ := ok_in ok hu hm hw1
    obtain ⟨q, rfl, hq, pn, ow⟩ := (show ∃ q, v = .ref q ∧ upd H a w q = none ∧ PostN K (upd B a w) IO Z σ (upd H a w) cs q σ' H' c ∧ OwnAt K (cut H' (Md σ' c (XP Z q))) (H' q) d from p)
    have ne : q ≠ a := fun z => by rw [z, upd_same] at hq; cases hq
    rw [upd_ne ne] at hq
    have hZ' : ¬ XP Z q a := fun z => z.elim hZ fun e => ne e.symm
    obtain ⟨o2, l2⟩ := ok_out pn.ok hIO hBu hz hz2 hZ' hw
    refine ⟨q, rfl, hq, ⟨o2, (l1.trans pn.le).trans l2, h2.keep, h2.dom, pn.np⟩, ?_⟩
    rw [upd_ne ne]
    exact ow.mono l2
theorem ss_forK (hg : SG K g tgs f) (hb : SS K tb gb) : SS K (tForK i g tb) (sForK i f gb) := by
  intro B IO Z σ H cs ok r e Dn q
  unfold sForK at e
  obtain ⟨⟨d1, f1, c1⟩, e1, e⟩ := Option.bind_eq_some_iff.mp e
  dsimp only at e
  split at e
  · rename_i es
    -- the dict is read as a datum
    have hv : ∃ v, σ[i]? = some (some v) ∧ Post K B IO Z σ H cs σ H c1 ∧ Rp K (cut H (Md σ c1 Z)) v (.dict es) := by
      unfold evVar at e1
      split at e1
      · rename_i d' h
        cases e1
        obtain ⟨v, h1, h2⟩ := ok.dat i _ h
        exact ⟨v, h1, Post.refl ok, h2⟩
      · rename_i d' h
        cases e1
        exact ok.freeze h
      · cases e1
    obtain ⟨v, hs, p, rp⟩ := hv
    obtain ⟨a, kvs, rfl, hr, he⟩ : ∃ a kvs, v = .ref a ∧ Rd (cut H (Md σ c1 Z)) a (.dK kvs) ∧ es.map (·.1) = kvs.map (fun p => kD p.1) := by
      cases rp with
      | dic hr he _ => exact ⟨_, _, rfl, hr, he⟩
    · skip
      have q1 := q.pre p
      have nm : ¬ Md σ c1 Z a := by
        rcases hr with h | ⟨o, h⟩ <;> exact (cut_some h).2
      have hIO : ∀ i, (i, a) ∉ IO := fun j hj => by
        obtain ⟨d, h1, h2⟩ := p.ok.ios j a hj
        exact nm (.inr ⟨j, h2, d, .inr h1⟩)
      rcases hr with h | ⟨o, h⟩
      · have hu := (cut_some h).1
        refine .inr ⟨a, _, hu, trivial, fun od => ?_⟩
        obtain ⟨o1, _⟩ := ok_in (w := .frz od (.dK kvs)) p.ok hu nm (rd_frz nf_dK)
        refine forK_core hg hb o1 upd_same hIO he hs e _ ?_
        have po : ∀ {σ' : St} {H' : Hp} {c : En}, Post K (upd B a (.frz od (.dK kvs))) IO Z σ (upd H a (.frz od (.dK kvs))) c1 σ' H' c → H' a = some (.frz od (.dK kvs)) ∧ Post K B IO Z σ H c1 σ' (upd H' a (.dK kvs)) c :=
          fun pp => post_out p.ok hu nm hIO frz_nl frz_nd (rd_frz nf_dK) rd_unf pp
        cases r with
        | nx c => exact fun σ' H' pp => ⟨(po pp).1, q1 σ' _ (po pp).2⟩
        | bk c => exact fun σ' H' pp => ⟨(po pp).1, q1 σ' _ (po pp).2⟩
        | ct c => exact fun σ' H' pp => ⟨(po pp).1, q1 σ' _ (po pp).2⟩
        | rt d fr c =>
          intro v σ' H' pp
          obtain ⟨g1, g2⟩ := pe_out p.ok hu nm hIO frz_nl frz_nd (rd_frz nf_dK) rd_unf pp
          exact ⟨g1, q1 v σ' _ g2⟩
      · have hu := (cut_some h).1
        refine .inl ?_
        have hsame : upd H a (.frz o (.dK kvs)) = H := funext fun b => by
          by_cases c : b = a
          · rw [c, upd_same, hu]
          · rw [upd_ne c]
        obtain ⟨o1, _⟩ := ok_in (w := .frz o (.dK kvs)) p.ok hu nm rd_same
        have core := forK_core hg hb o1 upd_same hIO he hs e Dn (o := o) ?_
        · rw [hsame] at core; exact core
        · have same2 : ∀ H' : Hp, H' a = some (.frz o (.dK kvs)) → upd H' a (.frz o (.dK kvs)) = H' := fun H' h' => funext fun b => by
            by_cases c : b = a
            · rw [c, upd_same, h']
            · rw [upd_ne c]
          have po : ∀ {σ' : St} {H' : Hp} {c : En}, Post K (upd B a (.frz o (.dK kvs))) IO Z σ (upd H a (.frz o (.dK kvs))) c1 σ' H' c → Post K B IO Z σ H c1 σ' H' c := fun pp => by
            obtain ⟨g1, g2⟩ := post_out p.ok hu nm hIO frz_nl frz_nd rd_same rd_same pp
            rwa [same2 _ g1] at g2
          cases r with
          | nx c => exact fun σ' H' pp => q1 σ' _ (po pp)
          | bk c => exact fun σ' H' pp => q1 σ' _ (po pp)
          | ct c => exact fun σ' H' pp => q1 σ' _ (po pp)
          | rt d fr c =>
            intro v σ' H' pp
            obtain ⟨g1, g2⟩ := pe_out p.ok hu nm hIO frz_nl frz_nd rd_same rd_same pp
            rw [same2 _ g1] at g2
            exact q1 v σ' _ g2
  · cases e
theorem ps_or {st : Stmt} {t u : TS} (h1 : PS X st t) (h2 : PS X st u) : PS X st (fun Dn σ H => t Dn σ H ∨ u Dn σ H) := by
  constructor
  intros
  rename_i h
  rcases h with h | h
  · exact h1.run _ _ _ _ _ ‹_› h
  · exact h2.run _ _ _ _ _ ‹_› h
theorem ds_forK {body : List Stmt} {tg : Expr} {x : Str} {xpos pos : Pos} (hp : PassesOwn (model X.prog X.w) X.A X.env X.xe) (hc : X.calm = true) (hv : DE X (.Name x xpos) (tVar i) (evVar i)) (hg : DG X tg g tgs f) (hb : DB X body tb gb) (hs : ∀ y, foldedSetIterable (.Name x xpos) X.env y = pure y := by intro _; rfl) :
    DS X (.For tg (.Name x xpos) body [] pos) (tForK i g tb) (sForK i f gb) :=
  ⟨ps_or (ps_for hp hc (pi_keys hv.pe) hg.pg hb.pss hs) (ps_lock (ps_for hp hc (pi_keys hv.pe) hg.pg hb.pss hs)), ss_forK hg.sg hb.ss⟩
end
end Qp
end
section
set_option Elab.async false
set_option linter.all false
set_option maxRecDepth 100000
set_option maxHeartbeats 2000000
/-! Qu: how the codes of Qr, Qs, Qt, and while, are reckoned. -/
namespace Qp
open PySem PySem.Spec PyProof.Rows L2
section
variable {d x y z : D} {fr f1 b : Bool} {c cs c1 : En} {i n m : Nat} {f fa fb fe fi fk : EX} {g : G2} {u : G1} {G : GA} {fs : AX} {t s : TX} {p q : SX} {xs ds zs : List D} {es : List (D × D)} {k : Key} {j : Int} {gt : GX}
def kW2 (t : TX) (p : SX) (n : Nat) (o : Option Res) : Option Res := o.bind fun z => match z with
  | .nx c => loopW t p n c
  | .ct c => loopW t p n c
  | .bk c => some (.nx c)
  | .rt d fr c => some (.rt d fr c)
def kW1 (t : TX) (p : SX) (n : Nat) (o : Option (Bool × En)) : Option Res := o.bind fun b => if b.1 = true then kW2 t p n (p b.2) else some (.nx b.2)
theorem loopW_succ : loopW t p (n + 1) cs = kW1 t p n (t cs) := rfl
@[simp] theorem kW1_t : kW1 t p n (some (true, c)) = kW2 t p n (p c) := rfl
@[simp] theorem kW1_f : kW1 t p n (some (false, c)) = some (.nx c) := rfl
@[simp] theorem kW2_n : kW2 t p n (some (.nx c)) = loopW t p n c := rfl
@[simp] theorem kW2_c : kW2 t p n (some (.ct c)) = loopW t p n c := rfl
@[simp] theorem kW2_b : kW2 t p n (some (.bk c)) = some (.nx c) := rfl
@[simp] theorem kW2_r : kW2 t p n (some (.rt d fr c)) = some (.rt d fr c) := rfl
def kAu3 (i : Nat) (fr : Bool) (d : D) (c : En) (b : Bool) : Option Res := if b = true then some (.nx (c.set i (Qp.cellOf fr d))) else none
def kAu2 (i : Nat) (c : En) (o : Option (D × Bool)) : Option Res := o.bind fun z => kAu3 i z.2 z.1 c (noIo c i)
def kAu1 (g : G2) (i : Nat) (d : D) (o : OE) : Option Res := o.bind fun r => kAu2 i r.2.2 (g d r.1)
def kAu0 (g : G2) (i : Nat) (f : EX) (cs : En) (o : Option Cell) : Option Res := match o with
  | some (.dat d) => kAu1 g i d (f cs)
  | _ => none
@[simp] theorem sAug_ap : sAug g i f cs = kAu0 g i f cs cs[i]? := rfl
@[simp] theorem kAu0_d : kAu0 g i f cs (some (.dat d)) = kAu1 g i d (f cs) := rfl
@[simp] theorem kAu1_s : kAu1 g i d (some (x, f1, c)) = kAu2 i c (g d x) := rfl
@[simp] theorem kAu2_s : kAu2 i c (some (x, fr)) = kAu3 i fr x c (noIo c i) := rfl
@[simp] theorem kAu3_t : kAu3 i fr d c true = some (.nx (c.set i (Qp.cellOf fr d))) := rfl
def kBo2 (i : Nat) (o : Option (List D × En)) : Option (List D × En) := o.bind fun s => (cont s.2 i).bind fun d => some (d :: s.1, s.2)
def kBo1 (i : Nat) (fs : AX) (cs : En) (o : Option D) : Option (List D × En) := o.bind fun _ => kBo2 i (fs cs)
def kBo3 (xs : List D) (c : En) (o : Option D) : Option (List D × En) := o.bind fun d => some (d :: xs, c)
@[simp] theorem evBor_ap : evBor i fs cs = kBo1 i fs cs (cont cs i) := rfl
@[simp] theorem kBo1_s : kBo1 i fs cs (some d) = kBo2 i (fs cs) := rfl
@[simp] theorem kBo2_s : kBo2 i (some (xs, c)) = kBo3 xs c (cont c i) := rfl
@[simp] theorem kBo3_s : kBo3 xs c (some d) = some (d :: xs, c) := rfl
def kCB2 (c : En) (o : Option (D × Bool)) : OE := o.bind fun z => if noMutF z.2 z.1 = true then some (z.1, z.2, c) else none
def kCB1 (G : GA) (o : Option (List D × En)) : OE := o.bind fun r => kCB2 r.2 (G r.1)
@[simp] theorem evCB_ap : evCB G fs cs = kCB1 G (fs cs) := rfl
@[simp] theorem kCB1_s : kCB1 G (some (xs, c)) = kCB2 c (G xs) := rfl
theorem kCB2_of (h : noMutF fr d = true) : kCB2 c (some (d, fr)) = some (d, fr, c) := if_pos h
@[simp] theorem kCB2_i : kCB2 c (some (.int j, false)) = some (.int j, false, c) := rfl
@[simp] theorem kCB2_bl : kCB2 c (some (.bool b, false)) = some (.bool b, false, c) := rfl
@[simp] theorem kCB2_n : kCB2 c (some (.none, false)) = some (.none, false, c) := rfl
def kFK (gt : GX) (p : SX) (o : OE) : Option Res := o.bind fun r => match r.1 with
  | .dict es => loopF gt p (es.map (·.1)) r.2.2
  | _ => none
@[simp] theorem sForK_ap : sForK i gt p cs = kFK gt p (evVar i cs) := rfl
@[simp] theorem kFK_s : kFK gt p (some (.dict es, f1, c)) = loopF gt p (es.map (·.1)) c := rfl
def kDi (o : Option (List (Key × D) × En)) : OE := o.bind fun r => if r.1.length ≤ 15 then some (.dict (mergeD [] r.1), true, r.2) else none
variable {ps : List (Key × D)} {fp : PX}
@[simp] theorem evDisp_ap : evDisp fp cs = kDi (fp cs) := rfl
theorem kDi_of (h : ps.length ≤ 15) : kDi (some (ps, c)) = some (.dict (mergeD [] ps), true, c) := if_pos h
@[simp] theorem evPn_ap : evPn cs = some ([], cs) := rfl
def kPc4 (k : Key) (x : D) (o : Option (List (Key × D) × En)) : Option (List (Key × D) × En) := o.bind fun u => some ((k, x) :: u.1, u.2)
def kPc3 (fp : PX) (k : Key) (o : OE) : Option (List (Key × D) × En) := o.bind fun s => kPc4 k s.1 (fp s.2.2)
def kPc2 (fe : EX) (fp : PX) (c : En) (o : Option Key) : Option (List (Key × D) × En) := o.bind fun k => kPc3 fp k (fe c)
def kPc1 (fe : EX) (fp : PX) (o : OE) : Option (List (Key × D) × En) := o.bind fun r => kPc2 fe fp r.2.2 (keyD r.1)
@[simp] theorem evPc_ap : evPc fk fe fp cs = kPc1 fe fp (fk cs) := rfl
@[simp] theorem kPc1_s : kPc1 fe fp (some (x, f1, c)) = kPc2 fe fp c (keyD x) := rfl
@[simp] theorem kPc2_s : kPc2 fe fp c (some k) = kPc3 fp k (fe c) := rfl
@[simp] theorem kPc3_s : kPc3 fp k (some (x, f1, c)) = kPc4 k x (fp c) := rfl
@[simp] theorem kPc4_s : kPc4 k x (some (ps, c)) = some ((k, x) :: ps, c) := rfl
@[simp] theorem gLenD_d : gLenD (.dict es) = some (.int es.length, false) := rfl
/-- a comprehension with a test -/
theorem loopC_filt {items : List D} {ft : TX} {fe : EX} {vs : List Nat} {P : D → Bool} {v : D → D}
    (hx : ∀ x ∈ items, ∃ c1, gt x cs = some c1 ∧ ft c1 = some (P x, c1) ∧ noOwn c1 vs = true ∧ clr c1 vs = cs ∧ (P x = true → ∃ f1, fe c1 = some (v x, f1, c1))) :
    ∀ acc : List D, acc.length + items.length ≤ LIM → loopC gt ft fe vs items acc cs = some (acc ++ (items.filter P).map v, cs) := by
  induction items with
  | nil => intro acc _; simp
  | cons x r ih =>
    intro acc hl
    rw [List.length_cons] at hl
    obtain ⟨c1, h1, h2, h4, h5, h3⟩ := hx x List.mem_cons_self
    have ih' := ih (fun y hy => hx y (List.mem_cons_of_mem _ hy))
    cases hp : P x with
    | true =>
      obtain ⟨f1, h3⟩ := h3 hp
      unfold loopC
      rw [h1, Option.bind_some, h2, Option.bind_some, hp, if_pos rfl, h3, Option.bind_some]
      dsimp only
      rw [h4, h5, show decide (acc.length < LIM) = true from decide_eq_true (by omega)]
      have := ih' (acc ++ [v x]) (by rw [List.length_append, List.length_singleton]; omega)
      rw [Bool.and_self, if_pos rfl, this, List.append_assoc, List.filter_cons_of_pos hp]
      rfl
    | false =>
      unfold loopC
      rw [h1, Option.bind_some, h2, Option.bind_some, hp]
      have := ih' acc (by omega)
      rw [List.filter_cons_of_neg (by rw [hp]; decide)]
      show (if noOwn c1 vs = true then loopC gt ft fe vs r acc (clr c1 vs) else none) = _
      rw [h4, h5, if_pos rfl]
      exact this
end
end Qp
end
section
set_option Elab.async false
set_option linter.all false
set_option maxRecDepth 100000
namespace My
open PySem PySem.Spec PyProof.Rows L2 Qp
/-! the text -/
def top (i : Nat) : Stmt := PySem.Challenge.pw_quillproof_k09_equations_are_solved.main.body.getD i (.Pass ⟨0, 0, 0, 0⟩)
abbrev s_is_variable : Stmt := top 1
abbrev N_is_variable : List Str := ["base"]
theorem sc_is_variable : FnScope N_is_variable ["base"] (defScope s_is_variable) := ⟨rfl, rfl, rfl, by decide +kernel, rfl, by decide +kernel, by decide +kernel⟩
abbrev s_replaced : Stmt := top 2
abbrev N_replaced : List Str := ["kind", "found", "levels", "base"]
theorem sc_replaced : FnScope N_replaced ["kind", "found"] (defScope s_replaced) := ⟨rfl, rfl, rfl, by decide +kernel, rfl, by decide +kernel, by decide +kernel⟩
abbrev s__make_equal : Stmt := top 3
abbrev N__make_equal : List Str := ["found", "first", "second", "low", "left", "right"]
theorem sc__make_equal : FnScope N__make_equal ["found", "first", "second"] (defScope s__make_equal) := ⟨rfl, rfl, rfl, by decide +kernel, rfl, by decide +kernel, by decide +kernel⟩
abbrev s_unify : Stmt := top 4
abbrev N_unify : List Str := ["equations", "found", "first", "second"]
theorem sc_unify : FnScope N_unify ["equations"] (defScope s_unify) := ⟨rfl, rfl, rfl, by decide +kernel, rfl, by decide +kernel, by decide +kernel⟩
abbrev s__law_mix : Stmt := top 6
abbrev N__law_mix : List Str := ["cell", "k", "value"]
theorem sc__law_mix : FnScope N__law_mix ["cell", "k"] (defScope s__law_mix) := ⟨rfl, rfl, rfl, by decide +kernel, rfl, by decide +kernel, by decide +kernel⟩
abbrev s__law_draws : Stmt := top 7
abbrev N__law_draws : List Str := ["script", "draws", "k", "cell", "place"]
theorem sc__law_draws : FnScope N__law_draws ["script"] (defScope s__law_draws) := ⟨rfl, rfl, rfl, by decide +kernel, rfl, by decide +kernel, by decide +kernel⟩
abbrev s__law_at : Stmt := top 8
abbrev N__law_at : List Str := ["draws", "index"]
theorem sc__law_at : FnScope N__law_at ["draws", "index"] (defScope s__law_at) := ⟨rfl, rfl, rfl, by decide +kernel, rfl, by decide +kernel, by decide +kernel⟩
abbrev s__law_is_integer : Stmt := top 9
abbrev N__law_is_integer : List Str := ["actual"]
theorem sc__law_is_integer : FnScope N__law_is_integer ["actual"] (defScope s__law_is_integer) := ⟨rfl, rfl, rfl, by decide +kernel, rfl, by decide +kernel, by decide +kernel⟩
abbrev s__law_same : Stmt := top 10
abbrev N__law_same : List Str := ["actual", "expected", "k"]
theorem sc__law_same : FnScope N__law_same ["actual", "expected"] (defScope s__law_same) := ⟨rfl, rfl, rfl, by decide +kernel, rfl, by decide +kernel, by decide +kernel⟩
abbrev s__law_base : Stmt := top 11
abbrev N__law_base : List Str := ["number"]
theorem sc__law_base : FnScope N__law_base ["number"] (defScope s__law_base) := ⟨rfl, rfl, rfl, by decide +kernel, rfl, by decide +kernel, by decide +kernel⟩
abbrev s__law_kind : Stmt := top 12
abbrev N__law_kind : List Str := ["draws", "index", "levels"]
theorem sc__law_kind : FnScope N__law_kind ["draws", "index"] (defScope s__law_kind) := ⟨rfl, rfl, rfl, by decide +kernel, rfl, by decide +kernel, by decide +kernel⟩
abbrev s__law_solved : Stmt := top 13
abbrev N__law_solved : List Str := ["pairs", "found", "first", "second", "left", "right", "low"]
theorem sc__law_solved : FnScope N__law_solved ["pairs"] (defScope s__law_solved) := ⟨rfl, rfl, rfl, by decide +kernel, rfl, by decide +kernel, by decide +kernel⟩
abbrev s__law_put : Stmt := top 14
abbrev N__law_put : List Str := ["kind", "found", "levels", "base", "k"]
theorem sc__law_put : FnScope N__law_put ["kind", "found"] (defScope s__law_put) := ⟨rfl, rfl, rfl, by decide +kernel, rfl, by decide +kernel, by decide +kernel⟩
abbrev s__law_pairs : Stmt := top 15
abbrev N__law_pairs : List Str := ["draws", "pairs", "k", "known", "fitting", "first", "second", "left", "right"]
theorem sc__law_pairs : FnScope N__law_pairs ["draws"] (defScope s__law_pairs) := ⟨rfl, rfl, rfl, by decide +kernel, rfl, by decide +kernel, by decide +kernel⟩
abbrev s_law : Stmt := top 16
abbrev N_law : List Str := ["script", "draws", "pairs", "passed", "found", "expected", "base", "first", "second", "names", "before", "told", "due", "back", "k", "want", "chain", "long", "count", "kind", "pair"]
theorem sc_law : FnScope N_law ["script"] (defScope s_law) := ⟨rfl, rfl, rfl, by decide +kernel, rfl, by decide +kernel, by decide +kernel⟩
/-! what the defs say -/
def b_is_variable : SX := sRet (evIsiV "int" 0)
def F_is_variable : GA := runP 1 0 b_is_variable
def b__law_mix : SX := sSeq (sAsg 2 (ev2 gMod (evA gInt (evCons (ev2 gAdd (ev2 gAdd (ev2 gMul (evA gInt (evCons (evVar 0) (evNil))) (evC (.int 48271))) (ev2 gMul (evVar 1) (evC (.int 69621)))) (evC (.int 12345))) (evNil))) (evC (.int 2147483647))))
  (sSeq (sAsg 2 (ev2 gMod (evA gInt (evCons (ev2 gAdd (ev2 gAdd (ev2 gMul (evVar 2) (evVar 2)) (ev2 gMul (evVar 1) (evC (.int 40692)))) (evC (.int 1))) (evNil))) (evC (.int 2147483399))))
  (sRet (ev2 gMod (ev2 gFdiv (evVar 2) (evC (.int 5))) (evC (.int 9973)))))
def F__law_mix : GA := runP 2 1 b__law_mix
def b__law_is_integer : SX := sRet (evAndV (evIsiV "int" 0) (evNotV (evIsiV "bool" 0)))
def F__law_is_integer : GA := runP 1 0 b__law_is_integer
def b__law_base : SX := sRet (ev2 gIx (evA gLstD (evCons (evC (.int 0)) (evCons (evC (.int 1)) (evCons (evC (.int 2)) (evCons (evC (.int 3)) (evCons (evC (.int 4)) (evCons (evC (.int 5)) (evCons (evC (.int 9)) (evCons (evC (.int 40)) (evCons (evC (.str "num")) (evCons (evC (.str "text")) (evCons (evC (.str "bool")) (evCons (evC (.str "d")) (evCons (evC (.str "e2")) (evCons (evC (.int 0)) (evCons (evC (.int 1)) (evNil))))))))))))))))) (ev2 gMod (evVar 0) (evC (.int 15))))
def F__law_base : GA := runP 1 0 b__law_base
def L__law_put_1 : SX := sIf (evAndT (evT (evIsiV "int" 3)) (evT (evVIn (gDin false) (evVar 3) 1))) (sSeq (sAsg 2 (evIxV gAdd 2 (ev2 gIx (evIxV gDget 1 (evVar 3)) (evC (.int 0)))))
  (sAsg 3 (ev2 gIx (evIxV gDget 1 (evVar 3)) (evC (.int 1))))) (sNx)
def b__law_put : SX := sSeq (sAsgT (evVar 0) (gxTup (gxCons (gx 2) (gxCons (gx 3) (gxNil))) 2))
  (sSeq (sFor (ixR1 (evCons (evC (.int 20)) (evNil))) (gx 4) (L__law_put_1))
  (sRet (evA gTupD (evCons (evVar 2) (evCons (evVar 3) (evNil))))))
def F__law_put : GA := runP 2 3 b__law_put
def W_replaced_1 : TX := evAndT (evT (evA (gN 1 (F_is_variable)) (evCons (evVar 3) (evNil)))) (evT (evVIn (gDin false) (evVar 3) 1))
def L_replaced_2 : SX := sSeq (sAug gAddI 2 (ev2 gIx (evIxV gDget 1 (evVar 3)) (evC (.int 0))))
  (sAsg 3 (ev2 gIx (evIxV gDget 1 (evVar 3)) (evC (.int 1))))
def b_replaced : SX := sSeq (sAsgT (evVar 0) (gxTup (gxCons (gx 2) (gxCons (gx 3) (gxNil))) 2))
  (sSeq (loopW (W_replaced_1) (L_replaced_2) 1000)
  (sRet (evA gTupD (evCons (evVar 2) (evCons (evVar 3) (evNil))))))
def F_replaced : GA := runP 2 2 b_replaced
def b__make_equal : SX := sSeq (sAsg 3 (evA gMin2 (evCons (evIxV gIx 1 (evC (.int 0))) (evCons (evIxV gIx 2 (evC (.int 0))) (evNil)))))
  (sSeq (sAsg 4 (evA gTupD (evCons (ev2 gSub (evIxV gIx 1 (evC (.int 0))) (evVar 3)) (evCons (evIxV gIx 1 (evC (.int 1))) (evNil)))))
  (sSeq (sAsg 5 (evA gTupD (evCons (ev2 gSub (evIxV gIx 2 (evC (.int 0))) (evVar 3)) (evCons (evIxV gIx 2 (evC (.int 1))) (evNil)))))
  (sSeq (sIf (evT (evIxV gEq 4 (evVar 5))) (sRet (evC (.bool true))) (sNx))
  (sSeq (sIf (evT (ev2 gEq (evIxV gIx 4 (evC (.int 1))) (evIxV gIx 5 (evC (.int 1))))) (sRet (evC (.bool false))) (sNx))
  (sSeq (sIf (evAndT (evT (ev2 gEq (evIxV gIx 4 (evC (.int 0))) (evC (.int 0)))) (evT (evA (gN 1 (F_is_variable)) (evCons (evIxV gIx 4 (evC (.int 1))) (evNil))))) (sSeq (sDput 0 (evIxV gIx 4 (evC (.int 1))) (evVar 5))
  (sRet (evC (.bool true)))) (sNx))
  (sSeq (sIf (evAndT (evT (ev2 gEq (evIxV gIx 5 (evC (.int 0))) (evC (.int 0)))) (evT (evA (gN 1 (F_is_variable)) (evCons (evIxV gIx 5 (evC (.int 1))) (evNil))))) (sSeq (sDput 0 (evIxV gIx 5 (evC (.int 1))) (evVar 4))
  (sRet (evC (.bool true)))) (sNx))
  (sRet (evC (.bool false)))))))))
def F__make_equal : GI := runI 3 3 b__make_equal
def L__law_draws_1 : SX := sIf (evT (ev2 gGt (evVar 3) (evC (.int 0)))) (sSeq (sDrop (evApp 1 (ev2 gMod (evA gInt (evCons (evVar 3) (evNil))) (evC (.int 9973)))))
  (sAsg 3 (ev2 gFdiv (evVar 3) (evC (.int 9973))))) (sNx)
def L__law_draws_2 : SX := sSeq (sAsg 3 (evA gInt (evCons (evIxV gIx 0 (evVar 2)) (evNil))))
  (sIf (evT (ev2 gLt (evVar 3) (ev2 gPow (evC (.int 10)) (evC (.int 18))))) (sDrop (evApp 1 (evA (gN 2 (F__law_mix)) (evCons (evVar 3) (evCons (evVar 2) (evNil)))))) (sFor (ixR1 (evCons (evC (.int 60)) (evNil))) (gx 4) (L__law_draws_1)))
def b__law_draws : SX := sSeq (sAsg 1 (evA gLstD (evNil)))
  (sSeq (sFor (ixR1 (evCons (evA gMin2 (evCons (evC (.int 63)) (evCons (evV1 gLen 0) (evNil)))) (evNil))) (gx 2) (L__law_draws_2))
  (sRet (evVar 1)))
def F__law_draws : GA := runP 1 4 b__law_draws
def b__law_at : SX := sSeq (sIf (evT (ev2 gLt (evVar 1) (evV1 gLen 0))) (sRet (evIxV gIx 0 (evVar 1))) (sNx))
  (sSeq (sIf (evT (ev2 gEq (evV1 gLen 0) (evC (.int 0)))) (sRet (evA (gN 2 (F__law_mix)) (evCons (evVar 1) (evCons (evC (.int 77)) (evNil))))) (sNx))
  (sRet (evA (gN 2 (F__law_mix)) (evCons (ev2 gAdd (evIxV gIx 0 (ev2 gMod (evA gInt (evCons (evVar 1) (evNil))) (evV1 gLen 0))) (ev2 gMul (evVar 1) (evC (.int 131)))) (evCons (evVar 1) (evNil))))))
def F__law_at : GA := runP 2 0 b__law_at
def L__law_solved_1 : SX := sSeq (sAsg 4 (evCB (gN 2 (F__law_put)) (evCons (evVar 2) (evBor 1 (evNil)))))
  (sSeq (sAsg 5 (evCB (gN 2 (F__law_put)) (evCons (evVar 3) (evBor 1 (evNil)))))
  (sSeq (sAsg 6 (evA gMin2 (evCons (evIxV gIx 4 (evC (.int 0))) (evCons (evIxV gIx 5 (evC (.int 0))) (evNil)))))
  (sSeq (sAsg 4 (evA gTupD (evCons (ev2 gSub (evIxV gIx 4 (evC (.int 0))) (evVar 6)) (evCons (evIxV gIx 4 (evC (.int 1))) (evNil)))))
  (sSeq (sAsg 5 (evA gTupD (evCons (ev2 gSub (evIxV gIx 5 (evC (.int 0))) (evVar 6)) (evCons (evIxV gIx 5 (evC (.int 1))) (evNil)))))
  (sIf (evT (evIxV gNe 4 (evVar 5))) (sSeq (sIf (evT (ev2 gEq (evIxV gIx 4 (evC (.int 1))) (evIxV gIx 5 (evC (.int 1))))) (sRet (evC .none)) (sNx))
  (sIf (evAndT (evT (ev2 gEq (evIxV gIx 4 (evC (.int 0))) (evC (.int 0)))) (evT (evIsi "int" (evIxV gIx 4 (evC (.int 1)))))) (sDput 1 (evIxV gIx 4 (evC (.int 1))) (evVar 5)) (sIf (evAndT (evT (ev2 gEq (evIxV gIx 5 (evC (.int 0))) (evC (.int 0)))) (evT (evIsi "int" (evIxV gIx 5 (evC (.int 1)))))) (sDput 1 (evIxV gIx 5 (evC (.int 1))) (evVar 4)) (sRet (evC .none))))) (sNx))))))
def b__law_solved : SX := sSeq (sAsg 1 (evDnew))
  (sSeq (sFor (ixSeq (evVar 0)) (gxTup (gxCons (gx 2) (gxCons (gx 3) (gxNil))) 2) (L__law_solved_1))
  (sRet (evVar 1)))
def F__law_solved : GA := runP 1 6 b__law_solved
def L_unify_1 : SX := sIf (evNotT (evT (evCI 3 (F__make_equal) 1 (evCons (evCB (gN 2 (F_replaced)) (evCons (evVar 2) (evBor 1 (evNil)))) (evCons (evCB (gN 2 (F_replaced)) (evCons (evVar 3) (evBor 1 (evNil)))) (evNil)))))) (sRet (evC .none)) (sNx)
def b_unify : SX := sSeq (sAsg 1 (evDnew))
  (sSeq (sFor (ixSeq (evVar 0)) (gxTup (gxCons (gx 2) (gxCons (gx 3) (gxNil))) 2) (L_unify_1))
  (sRet (evVar 1)))
def F_unify : GA := runP 1 3 b_unify
def b__law_kind : SX := sSeq (sAsg 2 (ev2 gMod (evA (gN 2 (F__law_at)) (evCons (evVar 0) (evCons (evVar 1) (evNil)))) (evC (.int 4))))
  (sSeq (sIf (evT (ev2 gEq (ev2 gMod (ev2 gFdiv (evA (gN 2 (F__law_at)) (evCons (evVar 0) (evCons (evVar 1) (evNil)))) (evC (.int 4))) (evC (.int 12))) (evC (.int 11)))) (sAsg 2 (ev2 gMod (ev2 gFdiv (evA (gN 2 (F__law_at)) (evCons (evVar 0) (evCons (evVar 1) (evNil)))) (evC (.int 48))) (evC (.int 41)))) (sNx))
  (sRet (evA gTupD (evCons (evVar 2) (evCons (evA (gN 1 (F__law_base)) (evCons (evA (gN 2 (F__law_at)) (evCons (evVar 0) (evCons (evIxV gAdd 1 (evC (.int 1))) (evNil)))) (evNil))) (evNil))))))
def F__law_kind : GA := runP 2 1 b__law_kind
def L__law_pairs_1 : SX := sDrop (evApp 1 (evA gTupD (evCons (evA (gN 2 (F__law_kind)) (evCons (evVar 0) (evCons (ev2 gAdd (evC (.int 20)) (ev2 gMul (evC (.int 4)) (evVar 2))) (evNil)))) (evCons (evA (gN 2 (F__law_kind)) (evCons (evVar 0) (evCons (ev2 gAdd (evC (.int 22)) (ev2 gMul (evC (.int 4)) (evVar 2))) (evNil)))) (evNil)))))
def L__law_pairs_2 : SX := sDput 3 (evVar 2) (evA gTupD (evCons (ev2 gMod (evA (gN 2 (F__law_at)) (evCons (evVar 0) (evCons (ev2 gAdd (evC (.int 100)) (evVar 2)) (evNil)))) (evC (.int 4))) (evCons (ev2 gIx (evA gLstD (evCons (evC (.str "num")) (evCons (evC (.str "text")) (evCons (evC (.str "d")) (evNil))))) (ev2 gMod (ev2 gFdiv (evA (gN 2 (F__law_at)) (evCons (evVar 0) (evCons (ev2 gAdd (evC (.int 100)) (evVar 2)) (evNil)))) (evC (.int 4))) (evC (.int 3)))) (evNil))))
def L__law_pairs_3 : SX := sSeq (sAsg 7 (evCB (gN 2 (F__law_put)) (evCons (evVar 5) (evBor 3 (evNil)))))
  (sSeq (sAsg 8 (evCB (gN 2 (F__law_put)) (evCons (evVar 6) (evBor 3 (evNil)))))
  (sIf (evT (evIxV gEq 7 (evVar 8))) (sDrop (evApp 4 (evA gTupD (evCons (evVar 5) (evCons (evVar 6) (evNil)))))) (sIf (evAndT (evT (evIsi "int" (evIxV gIx 6 (evC (.int 1))))) (evAndT (evT (ev2 gGe (evIxV gIx 7 (evC (.int 0))) (ev2 gIx (evIxV gDget 3 (evIxV gIx 6 (evC (.int 1)))) (evC (.int 0))))) (evT (ev2 gEq (evIxV gIx 7 (evC (.int 1))) (ev2 gIx (evIxV gDget 3 (evIxV gIx 6 (evC (.int 1)))) (evC (.int 1))))))) (sDrop (evApp 4 (evA gTupD (evCons (evVar 5) (evCons (evA gTupD (evCons (ev2 gSub (evIxV gIx 7 (evC (.int 0))) (ev2 gIx (evIxV gDget 3 (evIxV gIx 6 (evC (.int 1)))) (evC (.int 0)))) (evCons (evIxV gIx 6 (evC (.int 1))) (evNil)))) (evNil)))))) (sDrop (evApp 4 (evA gTupD (evCons (evVar 5) (evCons (evVar 7) (evNil)))))))))
def b__law_pairs : SX := sSeq (sAsg 1 (evA gLstD (evNil)))
  (sSeq (sFor (ixR1 (evCons (ev2 gAdd (ev2 gMod (evA (gN 2 (F__law_at)) (evCons (evVar 0) (evCons (evC (.int 0)) (evNil)))) (evC (.int 7))) (ev2 gMul (evC (.int 6)) (evA gInt (evCons (ev2 gEq (ev2 gMod (ev2 gFdiv (evA (gN 2 (F__law_at)) (evCons (evVar 0) (evCons (evC (.int 0)) (evNil)))) (evC (.int 7))) (evC (.int 4))) (evC (.int 3))) (evNil))))) (evNil))) (gx 2) (L__law_pairs_1))
  (sSeq (sIf (evT (ev2 gEq (ev2 gMod (evA (gN 2 (F__law_at)) (evCons (evVar 0) (evCons (evC (.int 1)) (evNil)))) (evC (.int 2))) (evC (.int 0)))) (sRet (evVar 1)) (sNx))
  (sSeq (sAsg 3 (evDnew))
  (sSeq (sFor (ixSeq (evA gLstD (evCons (evC (.int 0)) (evCons (evC (.int 1)) (evCons (evC (.int 2)) (evCons (evC (.int 3)) (evCons (evC (.int 4)) (evCons (evC (.int 5)) (evCons (evC (.int 9)) (evCons (evC (.int 40)) (evNil))))))))))) (gx 2) (L__law_pairs_2))
  (sSeq (sAsg 4 (evA gLstD (evNil)))
  (sSeq (sFor (ixSeq (evVar 1)) (gxTup (gxCons (gx 5) (gxCons (gx 6) (gxNil))) 2) (L__law_pairs_3))
  (sRet (evVar 4))))))))
def F__law_pairs : GA := runP 1 8 b__law_pairs
def L__law_same_1 (F : GA) : SX := sIf (evNotT (evT (evA (gN 2 (F)) (evCons (evIxV gIx 0 (evVar 2)) (evCons (evIxV gIx 1 (evVar 2)) (evNil)))))) (sRet (evC (.bool false))) (sNx)
def b__law_same (F : GA) : SX := sSeq (sIf (evT (evIsiTV ["list", "tuple"] 1)) (sSeq (sIf (evOrT (evT (ev2 gNe (evIsiV "list" 1) (evIsiV "list" 0))) (evT (ev2 gNe (evIsiV "tuple" 1) (evIsiV "tuple" 0)))) (sRet (evC (.bool false))) (sNx))
  (sSeq (sIf (evT (ev2 gNe (evV1 gLen 0) (evV1 gLen 1))) (sRet (evC (.bool false))) (sNx))
  (sSeq (sFor (ixR1 (evCons (evV1 gLen 1) (evNil))) (gx 2) (L__law_same_1 F))
  (sRet (evC (.bool true)))))) (sNx))
  (sSeq (sIf (evT (ev2 gIsN (evVar 1) (evC .none))) (sRet (ev2 gIsN (evVar 0) (evC .none))) (sNx))
  (sSeq (sIf (evT (evIsiV "bool" 1)) (sRet (evAndV (evIsiV "bool" 0) (evIxV gEq 0 (evVar 1)))) (sNx))
  (sSeq (sIf (evT (evIsiV "int" 1)) (sRet (evAndV (evA (gN 1 (F__law_is_integer)) (evCons (evVar 0) (evNil))) (evIxV gEq 0 (evVar 1)))) (sNx))
  (sRet (evAndV (evIsiV "str" 0) (evIxV gEq 0 (evVar 1)))))))
def F__law_same : Nat → GA
  | 0 => fun _ => none
  | k + 1 => runP 2 1 (b__law_same (F__law_same k))
def C_law_1 : EX := evIxV gIx 20 (evC (.int 1))
def C_law_2 : EX := evIxV gIx 20 (evC (.int 0))
def C_law_3 : EX := evIxV gIx 19 (evC (.int 1))
def L_law_4 : SX := sSeq (sIf (evOrT (evNotT (evT (evA (gN 1 (F__law_is_integer)) (evCons (evVar 6) (evNil))))) (evOrT (evNotT (evT (evIsi "tuple" (evIxV gDget 4 (evVar 6))))) (evT (ev2 gNe (evA (gOne gLen) (evCons (evIxV gDget 4 (evVar 6)) (evNil))) (evC (.int 2)))))) (sRet (evC (.bool false))) (sNx))
  (sIf (evT (ev2 (gIn true) (evVar 6) (evLc [19] (ixSeq (ev2 gAdd (evLc [20] (ixSeq (evVar 2)) (gx 20) (evYes) (C_law_2)) (evLc [20] (ixSeq (evVar 2)) (gx 20) (evYes) (C_law_1)))) (gx 19) (evYes) (C_law_3)))) (sRet (evC (.bool false))) (sNx))
def L_law_5 : SX := sIf (evNotT (evT (evA (gN 2 (F__law_same 4)) (evCons (evA (gN 2 (F_replaced)) (evCons (evVar 7) (evCons (evVar 4) (evNil)))) (evCons (evA (gN 2 (F_replaced)) (evCons (evVar 8) (evCons (evVar 4) (evNil)))) (evNil)))))) (sRet (evC (.bool false))) (sNx)
def C_law_6 : EX := evA gTupD (evCons (evVar 6) (evCons (evIxV gDget 4 (evVar 6)) (evNil)))
def W_law_7 : TX := evT (evVIn (gDin false) (evVar 6) 4)
def C_law_8 : EX := evA (gN 2 (F_replaced)) (evCons (evA gTupD (evCons (evC (.int 0)) (evCons (evVar 6) (evNil)))) (evCons (evVar 4) (evNil)))
def C_law_9 : EX := evA gTupD (evCons (evVar 6) (evCons (evIxV gDget 4 (evVar 6)) (evNil)))
def W_law_10 : TX := evT (evVIn (gDin false) (evVar 6) 4)
def C_law_11 : EX := evA (gN 2 (F__law_put)) (evCons (evA gTupD (evCons (evC (.int 0)) (evCons (evVar 6) (evNil)))) (evCons (evVar 5) (evNil)))
def L_law_12 : SX := sIf (evT (evIsi "int" (ev2 gIx (evIxV gIx 11 (evVar 14)) (evC (.int 1))))) (sSeq (sIf (evOrT (evT (evVIn (gDin false) (ev2 gIx (evIxV gIx 11 (evVar 14)) (evC (.int 1))) 4)) (evT (ev2 gLt (ev2 gIx (evIxV gIx 12 (evVar 14)) (evC (.int 0))) (ev2 gIx (evIxV gIx 11 (evVar 14)) (evC (.int 0)))))) (sRet (evC (.bool false))) (sNx))
  (sSeq (sAsg 15 (evA gTupD (evCons (ev2 gSub (ev2 gIx (evIxV gIx 12 (evVar 14)) (evC (.int 0))) (ev2 gIx (evIxV gIx 11 (evVar 14)) (evC (.int 0)))) (evCons (ev2 gIx (evIxV gIx 12 (evVar 14)) (evC (.int 1))) (evNil)))))
  (sSeq (sIf (evAndT (evT (evVIn (gDin false) (ev2 gIx (evIxV gIx 11 (evVar 14)) (evC (.int 1))) 13)) (evT (ev2 gNe (evIxV gDget 13 (ev2 gIx (evIxV gIx 11 (evVar 14)) (evC (.int 1)))) (evVar 15)))) (sRet (evC (.bool false))) (sNx))
  (sDput 13 (ev2 gIx (evIxV gIx 11 (evVar 14)) (evC (.int 1))) (evVar 15))))) (sIf (evNotT (evT (evA (gN 2 (F__law_same 4)) (evCons (evIxV gIx 11 (evVar 14)) (evCons (evIxV gIx 12 (evVar 14)) (evNil)))))) (sRet (evC (.bool false))) (sNx))
def L_law_13 : SX := sDput 17 (evVar 14) (evA gTupD (evCons (ev2 gMod (evVar 14) (evC (.int 2))) (evCons (evIxV gAdd 14 (evC (.int 1))) (evNil))))
def b_law : SX := sSeq (sAsg 1 (evA (gN 1 (F__law_draws)) (evCons (evVar 0) (evNil))))
  (sSeq (sAsg 2 (evA (gN 1 (F__law_pairs)) (evCons (evVar 1) (evNil))))
  (sSeq (sAsg 3 (evV1 gList 2))
  (sSeq (sAsg 4 (evA (gN 1 (F_unify)) (evCons (evVar 3) (evNil))))
  (sSeq (sAsg 5 (evA (gN 1 (F__law_solved)) (evCons (evVar 2) (evNil))))
  (sSeq (sIf (evOrT (evNotT (evT (evA (gN 2 (F__law_same 4)) (evCons (evVar 3) (evCons (evVar 2) (evNil)))))) (evOrT (evT (ev2 gIsN (evVar 5) (evC .none))) (evT (ev2 gIsN (evVar 4) (evC .none))))) (sRet (evAndV (ev2 gIsN (evVar 4) (evC .none)) (evAndV (ev2 gIsN (evVar 5) (evC .none)) (evIxV gEq 3 (evVar 2))))) (sNx))
  (sSeq (sIf (evNotT (evT (evIsiV "dict" 4))) (sRet (evC (.bool false))) (sNx))
  (sSeq (sForK 4 (gx 6) (L_law_4))
  (sSeq (sFor (ixSeq (evVar 2)) (gxTup (gxCons (gx 7) (gxCons (gx 8) (gxNil))) 2) (L_law_5))
  (sSeq (sAsg 9 (evA gLstD (evCons (evC (.int 0)) (evCons (evC (.int 1)) (evCons (evC (.int 2)) (evCons (evC (.int 3)) (evCons (evC (.int 4)) (evCons (evC (.int 5)) (evCons (evC (.int 9)) (evCons (evC (.int 40)) (evNil)))))))))))
  (sSeq (sAsg 10 (evLc [6] (ixSeq (evVar 9)) (gx 6) (W_law_7) (C_law_6)))
  (sSeq (sAsg 11 (evLc [6] (ixSeq (evVar 9)) (gx 6) (evYes) (C_law_8)))
  (sSeq (sIf (evOrT (evT (ev2 gNe (evLc [6] (ixSeq (evVar 9)) (gx 6) (W_law_10) (C_law_9)) (evVar 10))) (evT (ev2 gNe (evV1 gLenD 4) (evV1 gLen 10)))) (sRet (evC (.bool false))) (sNx))
  (sSeq (sAsg 12 (evLc [6] (ixSeq (evVar 9)) (gx 6) (evYes) (C_law_11)))
  (sSeq (sAsg 13 (evDnew))
  (sSeq (sFor (ixR1 (evCons (evC (.int 8)) (evNil))) (gx 14) (L_law_12))
  (sSeq (sAsg 16 (evDisp (evPc (evC (.int 2)) (evA gTupD (evCons (evC (.int 1)) (evCons (evC (.int 5)) (evNil)))) (evPc (evC (.int 5)) (evA gTupD (evCons (evC (.int 4)) (evCons (evC (.int 9)) (evNil)))) (evPc (evC (.int 9)) (evA gTupD (evCons (evC (.int 2)) (evCons (evC (.str "num")) (evNil)))) (evPn))))))
  (sSeq (sIf (evOrT (evNotT (evT (evA (gN 2 (F__law_same 4)) (evCons (evA (gN 2 (F_replaced)) (evCons (evA gTupD (evCons (evC (.int 3)) (evCons (evC (.int 2)) (evNil)))) (evCons (evVar 16) (evNil)))) (evCons (evA gTupD (evCons (evC (.int 10)) (evCons (evC (.str "num")) (evNil)))) (evNil)))))) (evT (evIxV (gEqD true) 16 (evDisp (evPc (evC (.int 2)) (evA gTupD (evCons (evC (.int 1)) (evCons (evC (.int 5)) (evNil)))) (evPc (evC (.int 5)) (evA gTupD (evCons (evC (.int 4)) (evCons (evC (.int 9)) (evNil)))) (evPc (evC (.int 9)) (evA gTupD (evCons (evC (.int 2)) (evCons (evC (.str "num")) (evNil)))) (evPn)))))))) (sRet (evC (.bool false))) (sNx))
  (sSeq (sAsg 17 (evDnew))
  (sSeq (sAsg 18 (ev2 gAdd (evC (.int 8)) (ev2 gMod (evA (gN 2 (F__law_at)) (evCons (evVar 1) (evCons (evC (.int 5)) (evNil)))) (evC (.int 30)))))
  (sSeq (sFor (ixR1 (evCons (evVar 18) (evNil))) (gx 14) (L_law_13))
  (sSeq (sDput 17 (evVar 18) (evA gTupD (evCons (evC (.int 1)) (evCons (evC (.str "text")) (evNil)))))
  (sSeq (sIf (evNotT (evT (evA (gN 2 (F__law_same 4)) (evCons (evCB (gN 2 (F_replaced)) (evCons (evA gTupD (evCons (evC (.int 2)) (evCons (evC (.int 0)) (evNil)))) (evBor 17 (evNil)))) (evCons (evA gTupD (evCons (ev2 gAdd (evC (.int 3)) (ev2 gFdiv (evVar 18) (evC (.int 2)))) (evCons (evC (.str "text")) (evNil)))) (evNil)))))) (sRet (evC (.bool false))) (sNx))
  (sRet (evA (gN 2 (F__law_same 4)) (evCons (evA (gN 2 (F_replaced)) (evCons (evA gTupD (evCons (evC (.int 3)) (evCons (evC (.str "d")) (evNil)))) (evCons (evDnew) (evNil)))) (evCons (evA gTupD (evCons (evC (.int 3)) (evCons (evC (.str "d")) (evNil)))) (evNil)))))))))))))))))))))))))))
def F_law : GA := runP 1 20 b_law
end My
end
section
set_option Elab.async false
set_option linter.all false
set_option maxRecDepth 100000
set_option maxHeartbeats 4000000
namespace My
open PySem PySem.Spec PyProof.Rows L2 Qp
structure Tx (mg : Str → Option Value) : Prop where
  b_bool : mg "bool" = none
  b_dict : mg "dict" = none
  b_int : mg "int" = none
  b_isinstance : mg "isinstance" = none
  b_len : mg "len" = none
  b_list : mg "list" = none
  b_min : mg "min" = none
  b_range : mg "range" = none
  b_str : mg "str" = none
  b_tuple : mg "tuple" = none
section
variable {P : Program} {w : World} {K : PySem.W.Frag} {mg : Str → Option Value} {base : Heap}
theorem ok_is_variable {f : Addr} {fd : FuncData} (F : Fun K "is_variable" "is_variable" s_is_variable f fd) (T : Tx mg) : FnOk P w K mg base CX0 1 f fd ["base"] (spP K 1 F_is_variable) := by
  refine fn_pure (P := P) (w := w) (mg := mg) (base := base) (k := 0) F sc_is_variable rfl rfl (fun cdv A outer s H E hr => ?_)
  exact ⟨_, (db_one (ds_ret (de_isiV (n := "int") (by rfl) T.b_isinstance (by rfl) T.b_int (by decide +kernel) (dv 0))))⟩
theorem ok__law_mix {f : Addr} {fd : FuncData} (F : Fun K "_law_mix" "_law_mix" s__law_mix f fd) (T : Tx mg) : FnOk P w K mg base CX0 1 f fd ["cell", "k"] (spP K 2 F__law_mix) := by
  refine fn_pure (P := P) (w := w) (mg := mg) (base := base) (k := 0) F sc__law_mix rfl rfl (fun cdv A outer s H E hr => ?_)
  exact ⟨_, (db_cons (ds_asg (i := 2) sc__law_mix.nd rfl (by first | exact Or.inl rfl | exact Or.inr rfl) (de_op op_mod sr_mod (de_cT (call_int1) sc_int (by rfl) T.b_int (by decide +kernel) (da_cons (de_op op_addD sw_add.two (de_op op_addD sw_add.two (de_op op_mul sr_mul (de_cT (call_int1) sc_int (by rfl) T.b_int (by decide +kernel) (da_cons (dv 0) da_nil)) de_int) (de_op op_mul sr_mul (dv 1) de_int)) de_int) da_nil)) de_int))
    (db_cons (ds_asg (i := 2) sc__law_mix.nd rfl (by first | exact Or.inl rfl | exact Or.inr rfl) (de_op op_mod sr_mod (de_cT (call_int1) sc_int (by rfl) T.b_int (by decide +kernel) (da_cons (de_op op_addD sw_add.two (de_op op_addD sw_add.two (de_op op_mul sr_mul (dv 2) (dv 2)) (de_op op_mul sr_mul (dv 1) de_int)) de_int) da_nil)) de_int))
    (db_one (ds_ret (de_op op_mod sr_mod (de_op op_fdiv sr_fdiv (dv 2) de_int) de_int)))))⟩
theorem ok__law_is_integer {f : Addr} {fd : FuncData} (F : Fun K "_law_is_integer" "_law_is_integer" s__law_is_integer f fd) (T : Tx mg) : FnOk P w K mg base CX0 1 f fd ["actual"] (spP K 1 F__law_is_integer) := by
  refine fn_pure (P := P) (w := w) (mg := mg) (base := base) (k := 0) F sc__law_is_integer rfl rfl (fun cdv A outer s H E hr => ?_)
  exact ⟨_, (db_one (ds_ret (de_and (de_isiV (n := "int") (by rfl) T.b_isinstance (by rfl) T.b_int (by decide +kernel) (dv 0)) (de_one (de_not (de_isiV (n := "bool") (by rfl) T.b_isinstance (by rfl) T.b_bool (by decide +kernel) (dv 0)))))))⟩
theorem ok__law_base {f : Addr} {fd : FuncData} (F : Fun K "_law_base" "_law_base" s__law_base f fd) (T : Tx mg) : FnOk P w K mg base CX0 1 f fd ["number"] (spP K 1 F__law_base) := by
  refine fn_pure (P := P) (w := w) (mg := mg) (base := base) (k := 0) F sc__law_base rfl rfl (fun cdv A outer s H E hr => ?_)
  exact ⟨_, (db_one (ds_ret (de_ix (de_lst (da_cons de_int (da_cons de_int (da_cons de_int (da_cons de_int (da_cons de_int (da_cons de_int (da_cons de_int (da_cons de_int (da_cons de_str (da_cons de_str (da_cons de_str (da_cons de_str (da_cons de_str (da_cons de_int (da_cons de_int da_nil)))))))))))))))) (de_op op_mod sr_mod (dv 0) de_int))))⟩
theorem ok__law_put {f : Addr} {fd : FuncData} (F : Fun K "_law_put" "_law_put" s__law_put f fd) (T : Tx mg) : FnOk P w K mg base CX0 1 f fd ["kind", "found"] (spP K 2 F__law_put) := by
  refine fn_pure (P := P) (w := w) (mg := mg) (base := base) (k := 0) F sc__law_put rfl rfl (fun cdv A outer s H E hr => ?_)
  exact ⟨_, (db_cons (ds_asgT (dv 0) (dg_tup rfl (dgs_cons (dg_name (i := 2) sc__law_put.nd rfl (by first | exact Or.inl rfl | exact Or.inr rfl)) (dgs_cons (dg_name (i := 3) sc__law_put.nd rfl (by first | exact Or.inl rfl | exact Or.inr rfl)) dgs_nil))))
    (db_cons (ds_for PassesOwn.never rfl (di_r1 (by rfl) T.b_range (da_cons de_int da_nil)) (dg_name (i := 4) sc__law_put.nd rfl (by first | exact Or.inl rfl | exact Or.inr rfl)) (db_one (ds_if (DW.dt (dw_and (dt_val (de_isiV (n := "int") (by rfl) T.b_isinstance (by rfl) T.b_int (by decide +kernel) (dv 3))) (dw_and1 (dt_dinV (hu_of hr) (dv 3) (dv 1))))) (db_cons (ds_asg (i := 2) sc__law_put.nd rfl (by first | exact Or.inl rfl | exact Or.inr rfl) (de_opV op_addD sw_add (dv 2) (de_ix (de_dgetV (hu_of hr) (dv 1) (dv 3)) de_int)))
    (db_one (ds_asg (i := 3) sc__law_put.nd rfl (by first | exact Or.inl rfl | exact Or.inr rfl) (de_ix (de_dgetV (hu_of hr) (dv 1) (dv 3)) de_int)))) db_nil)))
    (db_one (ds_ret (de_tup (da_cons (dv 2) (da_cons (dv 3) da_nil)))))))⟩
theorem ok_replaced {f : Addr} {fd : FuncData} (F : Fun K "replaced" "replaced" s_replaced f fd) (T : Tx mg) (c_is_variable : Cal P w K mg base "is_variable" 1 ["base"] (spP K 1 (F_is_variable))) : FnOk P w K mg base CX0 2 f fd ["kind", "found"] (spP K 2 F_replaced) := by
  refine fn_pure (P := P) (w := w) (mg := mg) (base := base) (k := 1) F sc_replaced rfl rfl (fun cdv A outer s H E hr => ?_)
  exact ⟨_, (db_cons (ds_asgT (dv 0) (dg_tup rfl (dgs_cons (dg_name (i := 2) sc_replaced.nd rfl (by first | exact Or.inl rfl | exact Or.inr rfl)) (dgs_cons (dg_name (i := 3) sc_replaced.nd rfl (by first | exact Or.inl rfl | exact Or.inr rfl)) dgs_nil))))
    (db_cons (ds_while 1000 PassesOwn.never (DW.dt (dw_and (dt_val (dc c_is_variable (hr.mono (by decide)) (da_cons (dv 3) da_nil))) (dw_and1 (dt_dinV (hu_of hr) (dv 3) (dv 1))))) (db_cons (ds_aug (i := 2) sc_replaced.nd rfl (by first | exact Or.inl rfl | exact Or.inr rfl) ip_add sr_ipadd (de_ix (de_dgetV (hu_of hr) (dv 1) (dv 3)) de_int))
    (db_one (ds_asg (i := 3) sc_replaced.nd rfl (by first | exact Or.inl rfl | exact Or.inr rfl) (de_ix (de_dgetV (hu_of hr) (dv 1) (dv 3)) de_int)))))
    (db_one (ds_ret (de_tup (da_cons (dv 2) (da_cons (dv 3) da_nil)))))))⟩
theorem ok__make_equal {f : Addr} {fd : FuncData} (F : Fun K "_make_equal" "_make_equal" s__make_equal f fd) (T : Tx mg) (c_is_variable : Cal P w K mg base "is_variable" 1 ["base"] (spP K 1 (F_is_variable))) : FnOk P w K mg base CX0 2 f fd ["found", "first", "second"] (spI K 3 F__make_equal) := by
  refine fn_inout (P := P) (w := w) (mg := mg) (base := base) (k := 1) F sc__make_equal rfl rfl (fun cdv A outer s H E hr => ?_)
  exact ⟨_, (db_cons (ds_asg (i := 3) sc__make_equal.nd rfl (by first | exact Or.inl rfl | exact Or.inr rfl) (de_cB (call_min2 rfl) sc_min2 (by rfl) T.b_min (by decide +kernel) (da_cons (de_ixV (dv 1) de_int) (da_cons (de_ixV (dv 2) de_int) da_nil))))
    (db_cons (ds_asg (i := 4) sc__make_equal.nd rfl (by first | exact Or.inl rfl | exact Or.inr rfl) (de_tup (da_cons (de_op op_sub sr_sub (de_ixV (dv 1) de_int) (dv 3)) (da_cons (de_ixV (dv 1) de_int) da_nil))))
    (db_cons (ds_asg (i := 5) sc__make_equal.nd rfl (by first | exact Or.inl rfl | exact Or.inr rfl) (de_tup (da_cons (de_op op_sub sr_sub (de_ixV (dv 2) de_int) (dv 3)) (da_cons (de_ixV (dv 2) de_int) da_nil))))
    (db_cons (ds_if (dt_cmpV (op_eqD hr.units) sw_eq (dv 4) (dv 5)) (db_one (ds_ret de_bl)) db_nil)
    (db_cons (ds_if (dt_cmp (op_eqD hr.units) sw_eq.two (de_ixV (dv 4) de_int) (de_ixV (dv 5) de_int)) (db_one (ds_ret de_bl)) db_nil)
    (db_cons (ds_if (DW.dt (dw_and (dt_cmp (op_eqD hr.units) sw_eq.two (de_ixV (dv 4) de_int) de_int) (dw_and1 (dt_val (dc c_is_variable (hr.mono (by decide)) (da_cons (de_ixV (dv 4) de_int) da_nil)))))) (db_cons (ds_dput (hu_of hr) (dv 0) (de_ixV (dv 4) de_int) (dv 5))
    (db_one (ds_ret de_bl))) db_nil)
    (db_cons (ds_if (DW.dt (dw_and (dt_cmp (op_eqD hr.units) sw_eq.two (de_ixV (dv 5) de_int) de_int) (dw_and1 (dt_val (dc c_is_variable (hr.mono (by decide)) (da_cons (de_ixV (dv 5) de_int) da_nil)))))) (db_cons (ds_dput (hu_of hr) (dv 0) (de_ixV (dv 5) de_int) (dv 4))
    (db_one (ds_ret de_bl))) db_nil)
    (db_one (ds_ret de_bl)))))))))⟩
theorem ok__law_draws {f : Addr} {fd : FuncData} (F : Fun K "_law_draws" "_law_draws" s__law_draws f fd) (T : Tx mg) (c__law_mix : Cal P w K mg base "_law_mix" 1 ["cell", "k"] (spP K 2 (F__law_mix))) : FnOk P w K mg base CX0 2 f fd ["script"] (spP K 1 F__law_draws) := by
  refine fn_pure (P := P) (w := w) (mg := mg) (base := base) (k := 1) F sc__law_draws rfl rfl (fun cdv A outer s H E hr => ?_)
  exact ⟨_, (db_cons (ds_asg (i := 1) sc__law_draws.nd rfl (by first | exact Or.inl rfl | exact Or.inr rfl) (de_lst da_nil))
    (db_cons (ds_for PassesOwn.never rfl (di_r1 (by rfl) T.b_range (da_cons (de_cB (call_min2 rfl) sc_min2 (by rfl) T.b_min (by decide +kernel) (da_cons de_int (da_cons (de_cBV call_len sw_len (by rfl) T.b_len PySem.boot_len (dv 0)) da_nil))) da_nil)) (dg_name (i := 2) sc__law_draws.nd rfl (by first | exact Or.inl rfl | exact Or.inr rfl)) (db_cons (ds_asg (i := 3) sc__law_draws.nd rfl (by first | exact Or.inl rfl | exact Or.inr rfl) (de_cT (call_int1) sc_int (by rfl) T.b_int (by decide +kernel) (da_cons (de_ixV (dv 0) (dv 2)) da_nil)))
    (db_one (ds_if (dt_cmp op_lt sr_lt (dv 3) (de_op op_pow sr_pow de_int de_int)) (db_one (ds_expr (de_app (dv 1) (dc c__law_mix (hr.mono (by decide)) (da_cons (dv 3) (da_cons (dv 2) da_nil)))))) (db_one (ds_for PassesOwn.never rfl (di_r1 (by rfl) T.b_range (da_cons de_int da_nil)) (dg_name (i := 4) sc__law_draws.nd rfl (by first | exact Or.inl rfl | exact Or.inr rfl)) (db_one (ds_if (dt_cmp op_gt sr_gt (dv 3) de_int) (db_cons (ds_expr (de_app (dv 1) (de_op op_mod sr_mod (de_cT (call_int1) sc_int (by rfl) T.b_int (by decide +kernel) (da_cons (dv 3) da_nil)) de_int)))
    (db_one (ds_asg (i := 3) sc__law_draws.nd rfl (by first | exact Or.inl rfl | exact Or.inr rfl) (de_op op_fdiv sr_fdiv (dv 3) de_int)))) db_nil))))))))
    (db_one (ds_ret (dv 1)))))⟩
theorem ok__law_at {f : Addr} {fd : FuncData} (F : Fun K "_law_at" "_law_at" s__law_at f fd) (T : Tx mg) (c__law_mix : Cal P w K mg base "_law_mix" 1 ["cell", "k"] (spP K 2 (F__law_mix))) : FnOk P w K mg base CX0 2 f fd ["draws", "index"] (spP K 2 F__law_at) := by
  refine fn_pure (P := P) (w := w) (mg := mg) (base := base) (k := 1) F sc__law_at rfl rfl (fun cdv A outer s H E hr => ?_)
  exact ⟨_, (db_cons (ds_if (dt_cmp op_lt sr_lt (dv 1) (de_cBV call_len sw_len (by rfl) T.b_len PySem.boot_len (dv 0))) (db_one (ds_ret (de_ixV (dv 0) (dv 1)))) db_nil)
    (db_cons (ds_if (dt_cmp (op_eqD hr.units) sw_eq.two (de_cBV call_len sw_len (by rfl) T.b_len PySem.boot_len (dv 0)) de_int) (db_one (ds_ret (dc c__law_mix (hr.mono (by decide)) (da_cons (dv 1) (da_cons de_int da_nil))))) db_nil)
    (db_one (ds_ret (dc c__law_mix (hr.mono (by decide)) (da_cons (de_op op_addD sw_add.two (de_ixV (dv 0) (de_op op_mod sr_mod (de_cT (call_int1) sc_int (by rfl) T.b_int (by decide +kernel) (da_cons (dv 1) da_nil)) (de_cBV call_len sw_len (by rfl) T.b_len PySem.boot_len (dv 0)))) (de_op op_mul sr_mul (dv 1) de_int)) (da_cons (dv 1) da_nil)))))))⟩
theorem ok__law_solved {f : Addr} {fd : FuncData} (F : Fun K "_law_solved" "_law_solved" s__law_solved f fd) (T : Tx mg) (c__law_put : Cal P w K mg base "_law_put" 1 ["kind", "found"] (spP K 2 (F__law_put))) : FnOk P w K mg base CX0 2 f fd ["pairs"] (spP K 1 F__law_solved) := by
  refine fn_pure (P := P) (w := w) (mg := mg) (base := base) (k := 1) F sc__law_solved rfl rfl (fun cdv A outer s H E hr => ?_)
  exact ⟨_, (db_cons (ds_asg (i := 1) sc__law_solved.nd rfl (by first | exact Or.inl rfl | exact Or.inr rfl) de_dnew)
    (db_cons (ds_for PassesOwn.never rfl (di_seq (dv 0)) (dg_tup rfl (dgs_cons (dg_name (i := 2) sc__law_solved.nd rfl (by first | exact Or.inl rfl | exact Or.inr rfl)) (dgs_cons (dg_name (i := 3) sc__law_solved.nd rfl (by first | exact Or.inl rfl | exact Or.inr rfl)) dgs_nil))) (db_cons (ds_asg (i := 4) sc__law_solved.nd rfl (by first | exact Or.inl rfl | exact Or.inr rfl) (dcB [1] c__law_put (hr.mono (by decide)) (dab_cons (dv 2) (dab_bor (dv 1) dab_nil (by decide)))))
    (db_cons (ds_asg (i := 5) sc__law_solved.nd rfl (by first | exact Or.inl rfl | exact Or.inr rfl) (dcB [1] c__law_put (hr.mono (by decide)) (dab_cons (dv 3) (dab_bor (dv 1) dab_nil (by decide)))))
    (db_cons (ds_asg (i := 6) sc__law_solved.nd rfl (by first | exact Or.inl rfl | exact Or.inr rfl) (de_cB (call_min2 rfl) sc_min2 (by rfl) T.b_min (by decide +kernel) (da_cons (de_ixV (dv 4) de_int) (da_cons (de_ixV (dv 5) de_int) da_nil))))
    (db_cons (ds_asg (i := 4) sc__law_solved.nd rfl (by first | exact Or.inl rfl | exact Or.inr rfl) (de_tup (da_cons (de_op op_sub sr_sub (de_ixV (dv 4) de_int) (dv 6)) (da_cons (de_ixV (dv 4) de_int) da_nil))))
    (db_cons (ds_asg (i := 5) sc__law_solved.nd rfl (by first | exact Or.inl rfl | exact Or.inr rfl) (de_tup (da_cons (de_op op_sub sr_sub (de_ixV (dv 5) de_int) (dv 6)) (da_cons (de_ixV (dv 5) de_int) da_nil))))
    (db_one (ds_if (dt_cmpV (op_neD hr.units) sw_ne (dv 4) (dv 5)) (db_cons (ds_if (dt_cmp (op_eqD hr.units) sw_eq.two (de_ixV (dv 4) de_int) (de_ixV (dv 5) de_int)) (db_one (ds_ret de_non)) db_nil)
    (db_one (ds_if (DW.dt (dw_and (dt_cmp (op_eqD hr.units) sw_eq.two (de_ixV (dv 4) de_int) de_int) (dw_and1 (dt_val (de_isi (n := "int") (by rfl) T.b_isinstance (by rfl) T.b_int (by decide +kernel) (de_ixV (dv 4) de_int)))))) (db_one (ds_dput (hu_of hr) (dv 1) (de_ixV (dv 4) de_int) (dv 5))) (db_one (ds_if (DW.dt (dw_and (dt_cmp (op_eqD hr.units) sw_eq.two (de_ixV (dv 5) de_int) de_int) (dw_and1 (dt_val (de_isi (n := "int") (by rfl) T.b_isinstance (by rfl) T.b_int (by decide +kernel) (de_ixV (dv 5) de_int)))))) (db_one (ds_dput (hu_of hr) (dv 1) (de_ixV (dv 5) de_int) (dv 4))) (db_one (ds_ret de_non))))))) db_nil))))))))
    (db_one (ds_ret (dv 1)))))⟩
theorem ok_unify {f : Addr} {fd : FuncData} (F : Fun K "unify" "unify" s_unify f fd) (T : Tx mg) (c_replaced : Cal P w K mg base "replaced" 2 ["kind", "found"] (spP K 2 (F_replaced))) (c__make_equal : Cal P w K mg base "_make_equal" 2 ["found", "first", "second"] (spI K 3 (F__make_equal))) : FnOk P w K mg base CX0 3 f fd ["equations"] (spP K 1 F_unify) := by
  refine fn_pure (P := P) (w := w) (mg := mg) (base := base) (k := 2) F sc_unify rfl rfl (fun cdv A outer s H E hr => ?_)
  exact ⟨_, (db_cons (ds_asg (i := 1) sc_unify.nd rfl (by first | exact Or.inl rfl | exact Or.inr rfl) de_dnew)
    (db_cons (ds_for PassesOwn.never rfl (di_seq (dv 0)) (dg_tup rfl (dgs_cons (dg_name (i := 2) sc_unify.nd rfl (by first | exact Or.inl rfl | exact Or.inr rfl)) (dgs_cons (dg_name (i := 3) sc_unify.nd rfl (by first | exact Or.inl rfl | exact Or.inr rfl)) dgs_nil))) (db_one (ds_if (dt_not (dt_val (dcI c__make_equal (hr.mono (by decide)) (dv 1) (da_cons (dcB [1] c_replaced (hr.mono (by decide)) (dab_cons (dv 2) (dab_bor (dv 1) dab_nil (by decide)))) (da_cons (dcB [1] c_replaced (hr.mono (by decide)) (dab_cons (dv 3) (dab_bor (dv 1) dab_nil (by decide)))) da_nil))))) (db_one (ds_ret de_non)) db_nil)))
    (db_one (ds_ret (dv 1)))))⟩
theorem ok__law_kind {f : Addr} {fd : FuncData} (F : Fun K "_law_kind" "_law_kind" s__law_kind f fd) (T : Tx mg) (c__law_at : Cal P w K mg base "_law_at" 2 ["draws", "index"] (spP K 2 (F__law_at))) (c__law_base : Cal P w K mg base "_law_base" 1 ["number"] (spP K 1 (F__law_base))) : FnOk P w K mg base CX0 3 f fd ["draws", "index"] (spP K 2 F__law_kind) := by
  refine fn_pure (P := P) (w := w) (mg := mg) (base := base) (k := 2) F sc__law_kind rfl rfl (fun cdv A outer s H E hr => ?_)
  exact ⟨_, (db_cons (ds_asg (i := 2) sc__law_kind.nd rfl (by first | exact Or.inl rfl | exact Or.inr rfl) (de_op op_mod sr_mod (dc c__law_at (hr.mono (by decide)) (da_cons (dv 0) (da_cons (dv 1) da_nil))) de_int))
    (db_cons (ds_if (dt_cmp (op_eqD hr.units) sw_eq.two (de_op op_mod sr_mod (de_op op_fdiv sr_fdiv (dc c__law_at (hr.mono (by decide)) (da_cons (dv 0) (da_cons (dv 1) da_nil))) de_int) de_int) de_int) (db_one (ds_asg (i := 2) sc__law_kind.nd rfl (by first | exact Or.inl rfl | exact Or.inr rfl) (de_op op_mod sr_mod (de_op op_fdiv sr_fdiv (dc c__law_at (hr.mono (by decide)) (da_cons (dv 0) (da_cons (dv 1) da_nil))) de_int) de_int))) db_nil)
    (db_one (ds_ret (de_tup (da_cons (dv 2) (da_cons (dc c__law_base (hr.mono (by decide)) (da_cons (dc c__law_at (hr.mono (by decide)) (da_cons (dv 0) (da_cons (de_opV op_addD sw_add (dv 1) de_int) da_nil))) da_nil)) da_nil)))))))⟩
theorem ok__law_pairs {f : Addr} {fd : FuncData} (F : Fun K "_law_pairs" "_law_pairs" s__law_pairs f fd) (T : Tx mg) (c__law_at : Cal P w K mg base "_law_at" 2 ["draws", "index"] (spP K 2 (F__law_at))) (c__law_kind : Cal P w K mg base "_law_kind" 3 ["draws", "index"] (spP K 2 (F__law_kind))) (c__law_put : Cal P w K mg base "_law_put" 1 ["kind", "found"] (spP K 2 (F__law_put))) : FnOk P w K mg base CX0 4 f fd ["draws"] (spP K 1 F__law_pairs) := by
  refine fn_pure (P := P) (w := w) (mg := mg) (base := base) (k := 3) F sc__law_pairs rfl rfl (fun cdv A outer s H E hr => ?_)
  exact ⟨_, (db_cons (ds_asg (i := 1) sc__law_pairs.nd rfl (by first | exact Or.inl rfl | exact Or.inr rfl) (de_lst da_nil))
    (db_cons (ds_for PassesOwn.never rfl (di_r1 (by rfl) T.b_range (da_cons (de_op op_addD sw_add.two (de_op op_mod sr_mod (dc c__law_at (hr.mono (by decide)) (da_cons (dv 0) (da_cons de_int da_nil))) de_int) (de_op op_mul sr_mul de_int (de_cT (call_int1) sc_int (by rfl) T.b_int (by decide +kernel) (da_cons (de_cmp (op_eqD hr.units) sw_eq.two (de_op op_mod sr_mod (de_op op_fdiv sr_fdiv (dc c__law_at (hr.mono (by decide)) (da_cons (dv 0) (da_cons de_int da_nil))) de_int) de_int) de_int) da_nil)))) da_nil)) (dg_name (i := 2) sc__law_pairs.nd rfl (by first | exact Or.inl rfl | exact Or.inr rfl)) (db_one (ds_expr (de_app (dv 1) (de_tup (da_cons (dc c__law_kind (hr.mono (by decide)) (da_cons (dv 0) (da_cons (de_op op_addD sw_add.two de_int (de_op op_mul sr_mul de_int (dv 2))) da_nil))) (da_cons (dc c__law_kind (hr.mono (by decide)) (da_cons (dv 0) (da_cons (de_op op_addD sw_add.two de_int (de_op op_mul sr_mul de_int (dv 2))) da_nil))) da_nil)))))))
    (db_cons (ds_if (dt_cmp (op_eqD hr.units) sw_eq.two (de_op op_mod sr_mod (dc c__law_at (hr.mono (by decide)) (da_cons (dv 0) (da_cons de_int da_nil))) de_int) de_int) (db_one (ds_ret (dv 1))) db_nil)
    (db_cons (ds_asg (i := 3) sc__law_pairs.nd rfl (by first | exact Or.inl rfl | exact Or.inr rfl) de_dnew)
    (db_cons (ds_for PassesOwn.never rfl (di_seq (de_lst (da_cons de_int (da_cons de_int (da_cons de_int (da_cons de_int (da_cons de_int (da_cons de_int (da_cons de_int (da_cons de_int da_nil)))))))))) (dg_name (i := 2) sc__law_pairs.nd rfl (by first | exact Or.inl rfl | exact Or.inr rfl)) (db_one (ds_dput (hu_of hr) (dv 3) (dv 2) (de_tup (da_cons (de_op op_mod sr_mod (dc c__law_at (hr.mono (by decide)) (da_cons (dv 0) (da_cons (de_op op_addD sw_add.two de_int (dv 2)) da_nil))) de_int) (da_cons (de_ix (de_lst (da_cons de_str (da_cons de_str (da_cons de_str da_nil)))) (de_op op_mod sr_mod (de_op op_fdiv sr_fdiv (dc c__law_at (hr.mono (by decide)) (da_cons (dv 0) (da_cons (de_op op_addD sw_add.two de_int (dv 2)) da_nil))) de_int) de_int)) da_nil))))))
    (db_cons (ds_asg (i := 4) sc__law_pairs.nd rfl (by first | exact Or.inl rfl | exact Or.inr rfl) (de_lst da_nil))
    (db_cons (ds_for PassesOwn.never rfl (di_seq (dv 1)) (dg_tup rfl (dgs_cons (dg_name (i := 5) sc__law_pairs.nd rfl (by first | exact Or.inl rfl | exact Or.inr rfl)) (dgs_cons (dg_name (i := 6) sc__law_pairs.nd rfl (by first | exact Or.inl rfl | exact Or.inr rfl)) dgs_nil))) (db_cons (ds_asg (i := 7) sc__law_pairs.nd rfl (by first | exact Or.inl rfl | exact Or.inr rfl) (dcB [3] c__law_put (hr.mono (by decide)) (dab_cons (dv 5) (dab_bor (dv 3) dab_nil (by decide)))))
    (db_cons (ds_asg (i := 8) sc__law_pairs.nd rfl (by first | exact Or.inl rfl | exact Or.inr rfl) (dcB [3] c__law_put (hr.mono (by decide)) (dab_cons (dv 6) (dab_bor (dv 3) dab_nil (by decide)))))
    (db_one (ds_if (dt_cmpV (op_eqD hr.units) sw_eq (dv 7) (dv 8)) (db_one (ds_expr (de_app (dv 4) (de_tup (da_cons (dv 5) (da_cons (dv 6) da_nil)))))) (db_one (ds_if (DW.dt (dw_and (dt_val (de_isi (n := "int") (by rfl) T.b_isinstance (by rfl) T.b_int (by decide +kernel) (de_ixV (dv 6) de_int))) (dw_and (dt_cmp op_ge sr_ge (de_ixV (dv 7) de_int) (de_ix (de_dgetV (hu_of hr) (dv 3) (de_ixV (dv 6) de_int)) de_int)) (dw_and1 (dt_cmp (op_eqD hr.units) sw_eq.two (de_ixV (dv 7) de_int) (de_ix (de_dgetV (hu_of hr) (dv 3) (de_ixV (dv 6) de_int)) de_int)))))) (db_one (ds_expr (de_app (dv 4) (de_tup (da_cons (dv 5) (da_cons (de_tup (da_cons (de_op op_sub sr_sub (de_ixV (dv 7) de_int) (de_ix (de_dgetV (hu_of hr) (dv 3) (de_ixV (dv 6) de_int)) de_int)) (da_cons (de_ixV (dv 6) de_int) da_nil))) da_nil)))))) (db_one (ds_expr (de_app (dv 4) (de_tup (da_cons (dv 5) (da_cons (dv 7) da_nil)))))))))))))
    (db_one (ds_ret (dv 4))))))))))⟩
theorem ok__law_same {f : Addr} {fd : FuncData} (F : Fun K "_law_same" "_law_same" s__law_same f fd) (T : Tx mg) (c__law_is_integer : Cal P w K mg base "_law_is_integer" 1 ["actual"] (spP K 1 (F__law_is_integer))) (b : Binds K fd ["actual", "expected"] []) (m : mg "_law_same" = some (.ref f)) : ∀ k : Nat, FnOk P w K mg base CX0 (1 + k) f fd ["actual", "expected"] (spP K 2 (F__law_same k))
  | 0 => (fn_none rfl).mono (Nat.zero_le _)
  | k + 1 => by
    have ih := ok__law_same F T c__law_is_integer b m k
    have c__law_same : Cal P w K mg base "_law_same" (1 + k) ["actual", "expected"] (spP K 2 (F__law_same k)) := ⟨f, fd, ih, b, F.kp, m⟩
    show FnOk P w K mg base CX0 ((1 + k) + 1) f fd ["actual", "expected"] (spP K 2 (runP 2 1 (b__law_same (F__law_same k))))
    refine fn_pure (P := P) (w := w) (mg := mg) (base := base) F sc__law_same rfl rfl (fun cdv A outer s H E hr => ?_)
    exact ⟨_, (db_cons (ds_if (dt_val (de_isiTV (by rfl) T.b_isinstance (tya_cons (by rfl) T.b_list (by decide +kernel) (tya_cons (by rfl) T.b_tuple (by decide +kernel) tya_nil)) (dv 1))) (db_cons (ds_if (DW.dt (dw_or (dt_cmp (op_neD hr.units) sw_ne.two (de_isiV (n := "list") (by rfl) T.b_isinstance (by rfl) T.b_list (by decide +kernel) (dv 1)) (de_isiV (n := "list") (by rfl) T.b_isinstance (by rfl) T.b_list (by decide +kernel) (dv 0))) (dw_or1 (dt_cmp (op_neD hr.units) sw_ne.two (de_isiV (n := "tuple") (by rfl) T.b_isinstance (by rfl) T.b_tuple (by decide +kernel) (dv 1)) (de_isiV (n := "tuple") (by rfl) T.b_isinstance (by rfl) T.b_tuple (by decide +kernel) (dv 0)))))) (db_one (ds_ret de_bl)) db_nil)
    (db_cons (ds_if (dt_cmp (op_neD hr.units) sw_ne.two (de_cBV call_len sw_len (by rfl) T.b_len PySem.boot_len (dv 0)) (de_cBV call_len sw_len (by rfl) T.b_len PySem.boot_len (dv 1))) (db_one (ds_ret de_bl)) db_nil)
    (db_cons (ds_for PassesOwn.never rfl (di_r1 (by rfl) T.b_range (da_cons (de_cBV call_len sw_len (by rfl) T.b_len PySem.boot_len (dv 1)) da_nil)) (dg_name (i := 2) sc__law_same.nd rfl (by first | exact Or.inl rfl | exact Or.inr rfl)) (db_one (ds_if (dt_not (dt_val (dc c__law_same (hr.mono (by omega)) (da_cons (de_ixV (dv 0) (dv 2)) (da_cons (de_ixV (dv 1) (dv 2)) da_nil))))) (db_one (ds_ret de_bl)) db_nil)))
    (db_one (ds_ret de_bl))))) db_nil)
    (db_cons (ds_if (dt_cmp op_isN sr_isN (dv 1) de_non) (db_one (ds_ret (de_cmp op_isN sr_isN (dv 0) de_non))) db_nil)
    (db_cons (ds_if (dt_val (de_isiV (n := "bool") (by rfl) T.b_isinstance (by rfl) T.b_bool (by decide +kernel) (dv 1))) (db_one (ds_ret (de_and (de_isiV (n := "bool") (by rfl) T.b_isinstance (by rfl) T.b_bool (by decide +kernel) (dv 0)) (de_one (de_cmpV (op_eqD hr.units) sw_eq (dv 0) (dv 1)))))) db_nil)
    (db_cons (ds_if (dt_val (de_isiV (n := "int") (by rfl) T.b_isinstance (by rfl) T.b_int (by decide +kernel) (dv 1))) (db_one (ds_ret (de_and (dc c__law_is_integer (hr.mono (by omega)) (da_cons (dv 0) da_nil)) (de_one (de_cmpV (op_eqD hr.units) sw_eq (dv 0) (dv 1)))))) db_nil)
    (db_one (ds_ret (de_and (de_isiV (n := "str") (by rfl) T.b_isinstance (by rfl) T.b_str (by decide +kernel) (dv 0)) (de_one (de_cmpV (op_eqD hr.units) sw_eq (dv 0) (dv 1))))))))))⟩
theorem ok_law {f : Addr} {fd : FuncData} (F : Fun K "law" "law" s_law f fd) (T : Tx mg) (c_replaced : Cal P w K mg base "replaced" 2 ["kind", "found"] (spP K 2 (F_replaced))) (c_unify : Cal P w K mg base "unify" 3 ["equations"] (spP K 1 (F_unify))) (c__law_draws : Cal P w K mg base "_law_draws" 2 ["script"] (spP K 1 (F__law_draws))) (c__law_at : Cal P w K mg base "_law_at" 2 ["draws", "index"] (spP K 2 (F__law_at))) (c__law_is_integer : Cal P w K mg base "_law_is_integer" 1 ["actual"] (spP K 1 (F__law_is_integer))) (c__law_same : Cal P w K mg base "_law_same" 5 ["actual", "expected"] (spP K 2 (F__law_same 4))) (c__law_solved : Cal P w K mg base "_law_solved" 2 ["pairs"] (spP K 1 (F__law_solved))) (c__law_put : Cal P w K mg base "_law_put" 1 ["kind", "found"] (spP K 2 (F__law_put))) (c__law_pairs : Cal P w K mg base "_law_pairs" 4 ["draws"] (spP K 1 (F__law_pairs))) : FnOk P w K mg base CX0 6 f fd ["script"] (spP K 1 F_law) := by
  refine fn_pure (P := P) (w := w) (mg := mg) (base := base) (k := 5) F sc_law rfl rfl (fun cdv A outer s H E hr => ?_)
  exact ⟨_, (db_cons (ds_asg (i := 1) sc_law.nd rfl (by first | exact Or.inl rfl | exact Or.inr rfl) (dc c__law_draws (hr.mono (by decide)) (da_cons (dv 0) da_nil)))
    (db_cons (ds_asg (i := 2) sc_law.nd rfl (by first | exact Or.inl rfl | exact Or.inr rfl) (dc c__law_pairs (hr.mono (by decide)) (da_cons (dv 1) da_nil)))
    (db_cons (ds_asg (i := 3) sc_law.nd rfl (by first | exact Or.inl rfl | exact Or.inr rfl) (de_cTV call_list_of sw_list (by rfl) T.b_list (by decide +kernel) (dv 2)))
    (db_cons (ds_asg (i := 4) sc_law.nd rfl (by first | exact Or.inl rfl | exact Or.inr rfl) (dc c_unify (hr.mono (by decide)) (da_cons (dv 3) da_nil)))
    (db_cons (ds_asg (i := 5) sc_law.nd rfl (by first | exact Or.inl rfl | exact Or.inr rfl) (dc c__law_solved (hr.mono (by decide)) (da_cons (dv 2) da_nil)))
    (db_cons (ds_if (DW.dt (dw_or (dt_not (dt_val (dc c__law_same (hr.mono (by decide)) (da_cons (dv 3) (da_cons (dv 2) da_nil))))) (dw_or (dt_cmp op_isN sr_isN (dv 5) de_non) (dw_or1 (dt_cmp op_isN sr_isN (dv 4) de_non))))) (db_one (ds_ret (de_and (de_cmp op_isN sr_isN (dv 4) de_non) (de_and (de_cmp op_isN sr_isN (dv 5) de_non) (de_one (de_cmpV (op_eqD hr.units) sw_eq (dv 3) (dv 2))))))) db_nil)
    (db_cons (ds_if (dt_not (dt_val (de_isiV (n := "dict") (by rfl) T.b_isinstance (by rfl) T.b_dict (by decide +kernel) (dv 4)))) (db_one (ds_ret de_bl)) db_nil)
    (db_cons (ds_forK PassesOwn.never rfl (dv 4) (dg_name (i := 6) sc_law.nd rfl (by first | exact Or.inl rfl | exact Or.inr rfl)) (db_cons (ds_if (DW.dt (dw_or (dt_not (dt_val (dc c__law_is_integer (hr.mono (by decide)) (da_cons (dv 6) da_nil)))) (dw_or (dt_not (dt_val (de_isi (n := "tuple") (by rfl) T.b_isinstance (by rfl) T.b_tuple (by decide +kernel) (de_dgetV (hu_of hr) (dv 4) (dv 6))))) (dw_or1 (dt_cmp (op_neD hr.units) sw_ne.two (de_cB call_len sw_len.all (by rfl) T.b_len PySem.boot_len (da_cons (de_dgetV (hu_of hr) (dv 4) (dv 6)) da_nil)) de_int))))) (db_one (ds_ret de_bl)) db_nil)
    (db_one (ds_if (dt_cmp op_notIn_seq sw_in.two (dv 6) (de_lc rfl sc_law.nd (di_seq (de_op op_addD sw_add.two (de_lc rfl sc_law.nd (di_seq (dv 2)) (blkOk_by (own := [("pair", 20)]) (N := N_law) (sc := defScope s_law) (by decide +kernel)) (fun _ _ _ _ _ => ⟨_, (dg_name (i := 20) sc_law.nd rfl (by first | exact Or.inl rfl | exact Or.inr rfl))⟩) (fun _ _ _ _ _ => ⟨_, dts_nil⟩) (fun _ _ _ _ _ => ⟨_, (de_ixV (dv 20) de_int)⟩)) (de_lc rfl sc_law.nd (di_seq (dv 2)) (blkOk_by (own := [("pair", 20)]) (N := N_law) (sc := defScope s_law) (by decide +kernel)) (fun _ _ _ _ _ => ⟨_, (dg_name (i := 20) sc_law.nd rfl (by first | exact Or.inl rfl | exact Or.inr rfl))⟩) (fun _ _ _ _ _ => ⟨_, dts_nil⟩) (fun _ _ _ _ _ => ⟨_, (de_ixV (dv 20) de_int)⟩)))) (blkOk_by (own := [("kind", 19)]) (N := N_law) (sc := defScope s_law) (by decide +kernel)) (fun _ _ _ _ _ => ⟨_, (dg_name (i := 19) sc_law.nd rfl (by first | exact Or.inl rfl | exact Or.inr rfl))⟩) (fun _ _ _ _ _ => ⟨_, dts_nil⟩) (fun _ _ _ _ _ => ⟨_, (de_ixV (dv 19) de_int)⟩))) (db_one (ds_ret de_bl)) db_nil))))
    (db_cons (ds_for PassesOwn.never rfl (di_seq (dv 2)) (dg_tup rfl (dgs_cons (dg_name (i := 7) sc_law.nd rfl (by first | exact Or.inl rfl | exact Or.inr rfl)) (dgs_cons (dg_name (i := 8) sc_law.nd rfl (by first | exact Or.inl rfl | exact Or.inr rfl)) dgs_nil))) (db_one (ds_if (dt_not (dt_val (dc c__law_same (hr.mono (by decide)) (da_cons (dc c_replaced (hr.mono (by decide)) (da_cons (dv 7) (da_cons (dv 4) da_nil))) (da_cons (dc c_replaced (hr.mono (by decide)) (da_cons (dv 8) (da_cons (dv 4) da_nil))) da_nil))))) (db_one (ds_ret de_bl)) db_nil)))
    (db_cons (ds_asg (i := 9) sc_law.nd rfl (by first | exact Or.inl rfl | exact Or.inr rfl) (de_lst (da_cons de_int (da_cons de_int (da_cons de_int (da_cons de_int (da_cons de_int (da_cons de_int (da_cons de_int (da_cons de_int da_nil))))))))))
    (db_cons (ds_lc (i := 10) rfl sc_law.nd rfl rfl (sw_true rfl rfl rfl (by decide +kernel)) (di_seq (dv 9)) (blkOk_by (own := [("base", 6)]) (N := N_law) (sc := defScope s_law) (by decide +kernel)) (fun _ _ _ _ _ => ⟨_, (dg_name (i := 6) sc_law.nd rfl (by first | exact Or.inl rfl | exact Or.inr rfl))⟩) (fun _ _ _ _ _ => ⟨_, (dts_one (dt_dinV (hu_of hr) (dv 6) (dv 4)))⟩) (fun _ _ _ _ _ => ⟨_, (de_tup (da_cons (dv 6) (da_cons (de_dgetV (hu_of hr) (dv 4) (dv 6)) da_nil)))⟩))
    (db_cons (ds_lc (i := 11) rfl sc_law.nd rfl rfl (sw_true rfl rfl rfl (by decide +kernel)) (di_seq (dv 9)) (blkOk_by (own := [("base", 6)]) (N := N_law) (sc := defScope s_law) (by decide +kernel)) (fun _ _ _ _ _ => ⟨_, (dg_name (i := 6) sc_law.nd rfl (by first | exact Or.inl rfl | exact Or.inr rfl))⟩) (fun _ _ _ _ _ => ⟨_, dts_nil⟩) (fun _ _ _ _ _ => ⟨_, (dc c_replaced (hr.mono (by decide)) (da_cons (de_tup (da_cons de_int (da_cons (dv 6) da_nil))) (da_cons (dv 4) da_nil)))⟩))
    (db_cons (ds_if (DW.dt (dw_or (dt_cmp (op_neD hr.units) sw_ne.two (de_lc rfl sc_law.nd (di_seq (dv 9)) (blkOk_by (own := [("base", 6)]) (N := N_law) (sc := defScope s_law) (by decide +kernel)) (fun _ _ _ _ _ => ⟨_, (dg_name (i := 6) sc_law.nd rfl (by first | exact Or.inl rfl | exact Or.inr rfl))⟩) (fun _ _ _ _ _ => ⟨_, (dts_one (dt_dinV (hu_of hr) (dv 6) (dv 4)))⟩) (fun _ _ _ _ _ => ⟨_, (de_tup (da_cons (dv 6) (da_cons (de_dgetV (hu_of hr) (dv 4) (dv 6)) da_nil)))⟩)) (dv 10)) (dw_or1 (dt_cmp (op_neD hr.units) sw_ne.two (de_cBV call_lenR sw_lenD (by rfl) T.b_len PySem.boot_len (dv 4)) (de_cBV call_len sw_len (by rfl) T.b_len PySem.boot_len (dv 10)))))) (db_one (ds_ret de_bl)) db_nil)
    (db_cons (ds_lc (i := 12) rfl sc_law.nd rfl rfl (sw_true rfl rfl rfl (by decide +kernel)) (di_seq (dv 9)) (blkOk_by (own := [("base", 6)]) (N := N_law) (sc := defScope s_law) (by decide +kernel)) (fun _ _ _ _ _ => ⟨_, (dg_name (i := 6) sc_law.nd rfl (by first | exact Or.inl rfl | exact Or.inr rfl))⟩) (fun _ _ _ _ _ => ⟨_, dts_nil⟩) (fun _ _ _ _ _ => ⟨_, (dc c__law_put (hr.mono (by decide)) (da_cons (de_tup (da_cons de_int (da_cons (dv 6) da_nil))) (da_cons (dv 5) da_nil)))⟩))
    (db_cons (ds_asg (i := 13) sc_law.nd rfl (by first | exact Or.inl rfl | exact Or.inr rfl) de_dnew)
    (db_cons (ds_for PassesOwn.never rfl (di_r1 (by rfl) T.b_range (da_cons de_int da_nil)) (dg_name (i := 14) sc_law.nd rfl (by first | exact Or.inl rfl | exact Or.inr rfl)) (db_one (ds_if (dt_val (de_isi (n := "int") (by rfl) T.b_isinstance (by rfl) T.b_int (by decide +kernel) (de_ix (de_ixV (dv 11) (dv 14)) de_int))) (db_cons (ds_if (DW.dt (dw_or (dt_dinV (hu_of hr) (de_ix (de_ixV (dv 11) (dv 14)) de_int) (dv 4)) (dw_or1 (dt_cmp op_lt sr_lt (de_ix (de_ixV (dv 12) (dv 14)) de_int) (de_ix (de_ixV (dv 11) (dv 14)) de_int))))) (db_one (ds_ret de_bl)) db_nil)
    (db_cons (ds_asg (i := 15) sc_law.nd rfl (by first | exact Or.inl rfl | exact Or.inr rfl) (de_tup (da_cons (de_op op_sub sr_sub (de_ix (de_ixV (dv 12) (dv 14)) de_int) (de_ix (de_ixV (dv 11) (dv 14)) de_int)) (da_cons (de_ix (de_ixV (dv 12) (dv 14)) de_int) da_nil))))
    (db_cons (ds_if (DW.dt (dw_and (dt_dinV (hu_of hr) (de_ix (de_ixV (dv 11) (dv 14)) de_int) (dv 13)) (dw_and1 (dt_cmp (op_neD hr.units) sw_ne.two (de_dgetV (hu_of hr) (dv 13) (de_ix (de_ixV (dv 11) (dv 14)) de_int)) (dv 15))))) (db_one (ds_ret de_bl)) db_nil)
    (db_one (ds_dput (hu_of hr) (dv 13) (de_ix (de_ixV (dv 11) (dv 14)) de_int) (dv 15)))))) (db_one (ds_if (dt_not (dt_val (dc c__law_same (hr.mono (by decide)) (da_cons (de_ixV (dv 11) (dv 14)) (da_cons (de_ixV (dv 12) (dv 14)) da_nil))))) (db_one (ds_ret de_bl)) db_nil)))))
    (db_cons (ds_asg (i := 16) sc_law.nd rfl (by first | exact Or.inl rfl | exact Or.inr rfl) (de_disp (dp_cons de_int (de_tup (da_cons de_int (da_cons de_int da_nil))) (dp_cons de_int (de_tup (da_cons de_int (da_cons de_int da_nil))) (dp_cons de_int (de_tup (da_cons de_int (da_cons de_str da_nil))) dp_nil))) rfl rfl (fun z => nomatch z) (by decide)))
    (db_cons (ds_if (DW.dt (dw_or (dt_not (dt_val (dc c__law_same (hr.mono (by decide)) (da_cons (dc c_replaced (hr.mono (by decide)) (da_cons (de_tup (da_cons de_int (da_cons de_int da_nil))) (da_cons (dv 16) da_nil))) (da_cons (de_tup (da_cons de_int (da_cons de_str da_nil))) da_nil))))) (dw_or1 (dt_cmpV (op_neDD (hu65 hr)) sw_eqDD (dv 16) (de_disp (dp_cons de_int (de_tup (da_cons de_int (da_cons de_int da_nil))) (dp_cons de_int (de_tup (da_cons de_int (da_cons de_int da_nil))) (dp_cons de_int (de_tup (da_cons de_int (da_cons de_str da_nil))) dp_nil))) rfl rfl (fun z => nomatch z) (by decide)))))) (db_one (ds_ret de_bl)) db_nil)
    (db_cons (ds_asg (i := 17) sc_law.nd rfl (by first | exact Or.inl rfl | exact Or.inr rfl) de_dnew)
    (db_cons (ds_asg (i := 18) sc_law.nd rfl (by first | exact Or.inl rfl | exact Or.inr rfl) (de_op op_addD sw_add.two de_int (de_op op_mod sr_mod (dc c__law_at (hr.mono (by decide)) (da_cons (dv 1) (da_cons de_int da_nil))) de_int)))
    (db_cons (ds_for PassesOwn.never rfl (di_r1 (by rfl) T.b_range (da_cons (dv 18) da_nil)) (dg_name (i := 14) sc_law.nd rfl (by first | exact Or.inl rfl | exact Or.inr rfl)) (db_one (ds_dput (hu_of hr) (dv 17) (dv 14) (de_tup (da_cons (de_op op_mod sr_mod (dv 14) de_int) (da_cons (de_opV op_addD sw_add (dv 14) de_int) da_nil))))))
    (db_cons (ds_dput (hu_of hr) (dv 17) (dv 18) (de_tup (da_cons de_int (da_cons de_str da_nil))))
    (db_cons (ds_if (dt_not (dt_val (dc c__law_same (hr.mono (by decide)) (da_cons (dcB [17] c_replaced (hr.mono (by decide)) (dab_cons (de_tup (da_cons de_int (da_cons de_int da_nil))) (dab_bor (dv 17) dab_nil (by decide)))) (da_cons (de_tup (da_cons (de_op op_addD sw_add.two de_int (de_op op_fdiv sr_fdiv (dv 18) de_int)) (da_cons de_str da_nil))) da_nil))))) (db_one (ds_ret de_bl)) db_nil)
    (db_one (ds_ret (dc c__law_same (hr.mono (by decide)) (da_cons (dc c_replaced (hr.mono (by decide)) (da_cons (de_tup (da_cons de_int (da_cons de_str da_nil))) (da_cons de_dnew da_nil))) (da_cons (de_tup (da_cons de_int (da_cons de_str da_nil))) da_nil))))))))))))))))))))))))))))⟩
end
theorem all_mk {l : PySem.W.OpenLaw} {w : World} {K : PySem.W.Frag} {h : Heap} {mg : Str → Option Value} {fa f0 f1 f2 f3 f4 f5 f6 f7 f8 f9 f10 f11 f12 f13 f14 : Addr} (X : K.In h) (G : h.Ns mainGlobals mg) (hfa : mg "law" = some (.ref fa))
    {od0 an0 od1 an1 od2 an2 od3 an3 od4 an4 od5 an5 od6 an6 od7 an7 od8 an8 od9 an9 od10 an10 od11 an11 od12 an12 od13 an13 od14 an14 : Option Addr} {sl0 sl1 sl2 sl3 sl4 sl5 sl6 sl7 sl8 sl9 sl10 sl11 sl12 sl13 sl14 : Array (Option Value)} {oc0 kV0 dc0 pm0 cd0 ct0 oc1 kV1 dc1 pm1 cd1 ct1 oc2 kV2 dc2 pm2 cd2 ct2 oc3 kV3 dc3 pm3 cd3 ct3 oc4 kV4 dc4 pm4 cd4 ct4 oc5 kV5 dc5 pm5 cd5 ct5 oc6 kV6 dc6 pm6 cd6 ct6 oc7 kV7 dc7 pm7 cd7 ct7 oc8 kV8 dc8 pm8 cd8 ct8 oc9 kV9 dc9 pm9 cd9 ct9 oc10 kV10 dc10 pm10 cd10 ct10 oc11 kV11 dc11 pm11 cd11 ct11 oc12 kV12 dc12 pm12 cd12 ct12 oc13 kV13 dc13 pm13 cd13 ct13 oc14 kV14 dc14 pm14 cd14 ct14 : Value}
    (a0 : PySem.W.nsIn K mainGlobals "is_variable" = some (some (.ref f0))) (l0 : K.lookup f0 = some ⟨oc0, od0, .func (PySem.W.fnOf "is_variable" "is_variable" (defArgs s_is_variable) (defBody s_is_variable) (defScope s_is_variable) .none kV0 dc0 pm0 an0 cd0 ct0), sl0⟩) (c0 : PySem.W.codeIn K cd0 "is_variable" = true) (k0 : PySem.W.keepIn K (.ref f0) = true)
    (a1 : PySem.W.nsIn K mainGlobals "replaced" = some (some (.ref f1))) (l1 : K.lookup f1 = some ⟨oc1, od1, .func (PySem.W.fnOf "replaced" "replaced" (defArgs s_replaced) (defBody s_replaced) (defScope s_replaced) .none kV1 dc1 pm1 an1 cd1 ct1), sl1⟩) (c1 : PySem.W.codeIn K cd1 "replaced" = true) (k1 : PySem.W.keepIn K (.ref f1) = true)
    (a2 : PySem.W.nsIn K mainGlobals "_make_equal" = some (some (.ref f2))) (l2 : K.lookup f2 = some ⟨oc2, od2, .func (PySem.W.fnOf "_make_equal" "_make_equal" (defArgs s__make_equal) (defBody s__make_equal) (defScope s__make_equal) .none kV2 dc2 pm2 an2 cd2 ct2), sl2⟩) (c2 : PySem.W.codeIn K cd2 "_make_equal" = true) (k2 : PySem.W.keepIn K (.ref f2) = true)
    (a3 : PySem.W.nsIn K mainGlobals "unify" = some (some (.ref f3))) (l3 : K.lookup f3 = some ⟨oc3, od3, .func (PySem.W.fnOf "unify" "unify" (defArgs s_unify) (defBody s_unify) (defScope s_unify) .none kV3 dc3 pm3 an3 cd3 ct3), sl3⟩) (c3 : PySem.W.codeIn K cd3 "unify" = true) (k3 : PySem.W.keepIn K (.ref f3) = true)
    (a4 : PySem.W.nsIn K mainGlobals "_law_mix" = some (some (.ref f4))) (l4 : K.lookup f4 = some ⟨oc4, od4, .func (PySem.W.fnOf "_law_mix" "_law_mix" (defArgs s__law_mix) (defBody s__law_mix) (defScope s__law_mix) .none kV4 dc4 pm4 an4 cd4 ct4), sl4⟩) (c4 : PySem.W.codeIn K cd4 "_law_mix" = true) (k4 : PySem.W.keepIn K (.ref f4) = true)
    (a5 : PySem.W.nsIn K mainGlobals "_law_draws" = some (some (.ref f5))) (l5 : K.lookup f5 = some ⟨oc5, od5, .func (PySem.W.fnOf "_law_draws" "_law_draws" (defArgs s__law_draws) (defBody s__law_draws) (defScope s__law_draws) .none kV5 dc5 pm5 an5 cd5 ct5), sl5⟩) (c5 : PySem.W.codeIn K cd5 "_law_draws" = true) (k5 : PySem.W.keepIn K (.ref f5) = true)
    (a6 : PySem.W.nsIn K mainGlobals "_law_at" = some (some (.ref f6))) (l6 : K.lookup f6 = some ⟨oc6, od6, .func (PySem.W.fnOf "_law_at" "_law_at" (defArgs s__law_at) (defBody s__law_at) (defScope s__law_at) .none kV6 dc6 pm6 an6 cd6 ct6), sl6⟩) (c6 : PySem.W.codeIn K cd6 "_law_at" = true) (k6 : PySem.W.keepIn K (.ref f6) = true)
    (a7 : PySem.W.nsIn K mainGlobals "_law_is_integer" = some (some (.ref f7))) (l7 : K.lookup f7 = some ⟨oc7, od7, .func (PySem.W.fnOf "_law_is_integer" "_law_is_integer" (defArgs s__law_is_integer) (defBody s__law_is_integer) (defScope s__law_is_integer) .none kV7 dc7 pm7 an7 cd7 ct7), sl7⟩) (c7 : PySem.W.codeIn K cd7 "_law_is_integer" = true) (k7 : PySem.W.keepIn K (.ref f7) = true)
    (a8 : PySem.W.nsIn K mainGlobals "_law_same" = some (some (.ref f8))) (l8 : K.lookup f8 = some ⟨oc8, od8, .func (PySem.W.fnOf "_law_same" "_law_same" (defArgs s__law_same) (defBody s__law_same) (defScope s__law_same) .none kV8 dc8 pm8 an8 cd8 ct8), sl8⟩) (c8 : PySem.W.codeIn K cd8 "_law_same" = true) (k8 : PySem.W.keepIn K (.ref f8) = true)
    (a9 : PySem.W.nsIn K mainGlobals "_law_base" = some (some (.ref f9))) (l9 : K.lookup f9 = some ⟨oc9, od9, .func (PySem.W.fnOf "_law_base" "_law_base" (defArgs s__law_base) (defBody s__law_base) (defScope s__law_base) .none kV9 dc9 pm9 an9 cd9 ct9), sl9⟩) (c9 : PySem.W.codeIn K cd9 "_law_base" = true) (k9 : PySem.W.keepIn K (.ref f9) = true)
    (a10 : PySem.W.nsIn K mainGlobals "_law_kind" = some (some (.ref f10))) (l10 : K.lookup f10 = some ⟨oc10, od10, .func (PySem.W.fnOf "_law_kind" "_law_kind" (defArgs s__law_kind) (defBody s__law_kind) (defScope s__law_kind) .none kV10 dc10 pm10 an10 cd10 ct10), sl10⟩) (c10 : PySem.W.codeIn K cd10 "_law_kind" = true) (k10 : PySem.W.keepIn K (.ref f10) = true)
    (a11 : PySem.W.nsIn K mainGlobals "_law_solved" = some (some (.ref f11))) (l11 : K.lookup f11 = some ⟨oc11, od11, .func (PySem.W.fnOf "_law_solved" "_law_solved" (defArgs s__law_solved) (defBody s__law_solved) (defScope s__law_solved) .none kV11 dc11 pm11 an11 cd11 ct11), sl11⟩) (c11 : PySem.W.codeIn K cd11 "_law_solved" = true) (k11 : PySem.W.keepIn K (.ref f11) = true)
    (a12 : PySem.W.nsIn K mainGlobals "_law_put" = some (some (.ref f12))) (l12 : K.lookup f12 = some ⟨oc12, od12, .func (PySem.W.fnOf "_law_put" "_law_put" (defArgs s__law_put) (defBody s__law_put) (defScope s__law_put) .none kV12 dc12 pm12 an12 cd12 ct12), sl12⟩) (c12 : PySem.W.codeIn K cd12 "_law_put" = true) (k12 : PySem.W.keepIn K (.ref f12) = true)
    (a13 : PySem.W.nsIn K mainGlobals "_law_pairs" = some (some (.ref f13))) (l13 : K.lookup f13 = some ⟨oc13, od13, .func (PySem.W.fnOf "_law_pairs" "_law_pairs" (defArgs s__law_pairs) (defBody s__law_pairs) (defScope s__law_pairs) .none kV13 dc13 pm13 an13 cd13 ct13), sl13⟩) (c13 : PySem.W.codeIn K cd13 "_law_pairs" = true) (k13 : PySem.W.keepIn K (.ref f13) = true)
    (a14 : PySem.W.nsIn K mainGlobals "law" = some (some (.ref f14))) (l14 : K.lookup f14 = some ⟨oc14, od14, .func (PySem.W.fnOf "law" "law" (defArgs s_law) (defBody s_law) (defScope s_law) .none kV14 dc14 pm14 an14 cd14 ct14), sl14⟩) (c14 : PySem.W.codeIn K cd14 "law" = true) (k14 : PySem.W.keepIn K (.ref f14) = true)
    (z0 : PySem.W.nsIn K mainGlobals "bool" = some none) (z1 : PySem.W.nsIn K mainGlobals "dict" = some none) (z2 : PySem.W.nsIn K mainGlobals "int" = some none) (z3 : PySem.W.nsIn K mainGlobals "isinstance" = some none) (z4 : PySem.W.nsIn K mainGlobals "len" = some none) (z5 : PySem.W.nsIn K mainGlobals "list" = some none) (z6 : PySem.W.nsIn K mainGlobals "min" = some none) (z7 : PySem.W.nsIn K mainGlobals "range" = some none) (z8 : PySem.W.nsIn K mainGlobals "str" = some none) (z9 : PySem.W.nsIn K mainGlobals "tuple" = some none) :
    ∃ fd : FuncData, (∀ (s : Shared) (v : Value), BindsTo s fd ⟨[v], []⟩ [("script", v)]) ∧ ∀ base : Heap, K.In base → base.Ns mainGlobals mg → FnOk l.prog w K mg base CX0 6 fa fd ["script"] (spP K 1 F_law) := by
  have e := hfa.symm.trans (PySem.W.mg_of X G a14)
  cases e
  have T : Tx mg := ⟨PySem.W.mg_none_of X G z0, PySem.W.mg_none_of X G z1, PySem.W.mg_none_of X G z2, PySem.W.mg_none_of X G z3, PySem.W.mg_none_of X G z4, PySem.W.mg_none_of X G z5, PySem.W.mg_none_of X G z6, PySem.W.mg_none_of X G z7, PySem.W.mg_none_of X G z8, PySem.W.mg_none_of X G z9⟩
  have F0 := fun_mk (st := s_is_variable) l0 c0 k0
  have b0 := F0.binds (ps := ["base"]) fun _ _ _ _ _ _ us hl => match us, hl with | [_], _ => rfl
  have F1 := fun_mk (st := s_replaced) l1 c1 k1
  have b1 := F1.binds (ps := ["kind", "found"]) fun _ _ _ _ _ _ us hl => match us, hl with | [_, _], _ => rfl
  have F2 := fun_mk (st := s__make_equal) l2 c2 k2
  have b2 := F2.binds (ps := ["found", "first", "second"]) fun _ _ _ _ _ _ us hl => match us, hl with | [_, _, _], _ => rfl
  have F3 := fun_mk (st := s_unify) l3 c3 k3
  have b3 := F3.binds (ps := ["equations"]) fun _ _ _ _ _ _ us hl => match us, hl with | [_], _ => rfl
  have F4 := fun_mk (st := s__law_mix) l4 c4 k4
  have b4 := F4.binds (ps := ["cell", "k"]) fun _ _ _ _ _ _ us hl => match us, hl with | [_, _], _ => rfl
  have F5 := fun_mk (st := s__law_draws) l5 c5 k5
  have b5 := F5.binds (ps := ["script"]) fun _ _ _ _ _ _ us hl => match us, hl with | [_], _ => rfl
  have F6 := fun_mk (st := s__law_at) l6 c6 k6
  have b6 := F6.binds (ps := ["draws", "index"]) fun _ _ _ _ _ _ us hl => match us, hl with | [_, _], _ => rfl
  have F7 := fun_mk (st := s__law_is_integer) l7 c7 k7
  have b7 := F7.binds (ps := ["actual"]) fun _ _ _ _ _ _ us hl => match us, hl with | [_], _ => rfl
  have F8 := fun_mk (st := s__law_same) l8 c8 k8
  have b8 := F8.binds (ps := ["actual", "expected"]) fun _ _ _ _ _ _ us hl => match us, hl with | [_, _], _ => rfl
  have F9 := fun_mk (st := s__law_base) l9 c9 k9
  have b9 := F9.binds (ps := ["number"]) fun _ _ _ _ _ _ us hl => match us, hl with | [_], _ => rfl
  have F10 := fun_mk (st := s__law_kind) l10 c10 k10
  have b10 := F10.binds (ps := ["draws", "index"]) fun _ _ _ _ _ _ us hl => match us, hl with | [_, _], _ => rfl
  have F11 := fun_mk (st := s__law_solved) l11 c11 k11
  have b11 := F11.binds (ps := ["pairs"]) fun _ _ _ _ _ _ us hl => match us, hl with | [_], _ => rfl
  have F12 := fun_mk (st := s__law_put) l12 c12 k12
  have b12 := F12.binds (ps := ["kind", "found"]) fun _ _ _ _ _ _ us hl => match us, hl with | [_, _], _ => rfl
  have F13 := fun_mk (st := s__law_pairs) l13 c13 k13
  have b13 := F13.binds (ps := ["draws"]) fun _ _ _ _ _ _ us hl => match us, hl with | [_], _ => rfl
  have F14 := fun_mk (st := s_law) l14 c14 k14
  refine ⟨PySem.W.fnOf "law" "law" (defArgs s_law) (defBody s_law) (defScope s_law) .none kV14 dc14 pm14 an14 cd14 ct14, fun s v => .of_eq rfl, fun base _ _ => ?_⟩
  have c_is_variable : Cal l.prog w K mg base "is_variable" 1 ["base"] (spP K 1 F_is_variable) := ⟨f0, _, ok_is_variable F0 T , b0, k0, (PySem.W.mg_of X G a0)⟩
  have c__law_mix : Cal l.prog w K mg base "_law_mix" 1 ["cell", "k"] (spP K 2 F__law_mix) := ⟨f4, _, ok__law_mix F4 T , b4, k4, (PySem.W.mg_of X G a4)⟩
  have c__law_is_integer : Cal l.prog w K mg base "_law_is_integer" 1 ["actual"] (spP K 1 F__law_is_integer) := ⟨f7, _, ok__law_is_integer F7 T , b7, k7, (PySem.W.mg_of X G a7)⟩
  have c__law_base : Cal l.prog w K mg base "_law_base" 1 ["number"] (spP K 1 F__law_base) := ⟨f9, _, ok__law_base F9 T , b9, k9, (PySem.W.mg_of X G a9)⟩
  have c__law_put : Cal l.prog w K mg base "_law_put" 1 ["kind", "found"] (spP K 2 F__law_put) := ⟨f12, _, ok__law_put F12 T , b12, k12, (PySem.W.mg_of X G a12)⟩
  have c_replaced : Cal l.prog w K mg base "replaced" 2 ["kind", "found"] (spP K 2 F_replaced) := ⟨f1, _, ok_replaced F1 T c_is_variable, b1, k1, (PySem.W.mg_of X G a1)⟩
  have c__make_equal : Cal l.prog w K mg base "_make_equal" 2 ["found", "first", "second"] (spI K 3 F__make_equal) := ⟨f2, _, ok__make_equal F2 T c_is_variable, b2, k2, (PySem.W.mg_of X G a2)⟩
  have c__law_draws : Cal l.prog w K mg base "_law_draws" 2 ["script"] (spP K 1 F__law_draws) := ⟨f5, _, ok__law_draws F5 T c__law_mix, b5, k5, (PySem.W.mg_of X G a5)⟩
  have c__law_at : Cal l.prog w K mg base "_law_at" 2 ["draws", "index"] (spP K 2 F__law_at) := ⟨f6, _, ok__law_at F6 T c__law_mix, b6, k6, (PySem.W.mg_of X G a6)⟩
  have c__law_solved : Cal l.prog w K mg base "_law_solved" 2 ["pairs"] (spP K 1 F__law_solved) := ⟨f11, _, ok__law_solved F11 T c__law_put, b11, k11, (PySem.W.mg_of X G a11)⟩
  have c_unify : Cal l.prog w K mg base "unify" 3 ["equations"] (spP K 1 F_unify) := ⟨f3, _, ok_unify F3 T c_replaced c__make_equal, b3, k3, (PySem.W.mg_of X G a3)⟩
  have c__law_kind : Cal l.prog w K mg base "_law_kind" 3 ["draws", "index"] (spP K 2 F__law_kind) := ⟨f10, _, ok__law_kind F10 T c__law_at c__law_base, b10, k10, (PySem.W.mg_of X G a10)⟩
  have c__law_pairs : Cal l.prog w K mg base "_law_pairs" 4 ["draws"] (spP K 1 F__law_pairs) := ⟨f13, _, ok__law_pairs F13 T c__law_at c__law_kind c__law_put, b13, k13, (PySem.W.mg_of X G a13)⟩
  have c__law_same : Cal l.prog w K mg base "_law_same" 5 ["actual", "expected"] (spP K 2 (F__law_same 4)) := ⟨f8, _, ok__law_same F8 T c__law_is_integer b8 (PySem.W.mg_of X G a8) 4, b8, k8, (PySem.W.mg_of X G a8)⟩
  exact ok_law F14 T c_replaced c_unify c__law_draws c__law_at c__law_is_integer c__law_same c__law_solved c__law_put c__law_pairs
end My
end
section
set_option Elab.async false
set_option linter.all false
set_option maxRecDepth 100000
set_option maxHeartbeats 1000000
namespace My
open PySem PySem.Spec PyProof.Rows L2 Qp
/-! the numbers that a law draws of its script -/
theorem mix_ok (cell k : Int) : ∃ v, F__law_mix [.int cell, .int k] = some (.int v, false) ∧ 0 ≤ v ∧ v < 9973 := by
  unfold F__law_mix runP b__law_mix
  have a1 : 0 ≤ (cell * 48271 + k * 69621 + 12345) % 2147483647 := Int.emod_nonneg _ (by decide)
  have a2 : (cell * 48271 + k * 69621 + 12345) % 2147483647 < 2147483647 := Int.emod_lt_of_pos _ (by decide)
  generalize hv : (cell * 48271 + k * 69621 + 12345) % 2147483647 = v at a1 a2
  have hm : gMul (.int v) (.int v) = some (.int (v * v), false) := gMul_l (by omega) (by omega)
  refine ⟨(v * v + k * 40692 + 1) % 2147483399 / 5 % 9973, ?_, Int.emod_nonneg _ (by decide), Int.emod_lt_of_pos _ (by decide)⟩
  simp [gMul_l, gMul_r, gMod_i, gFdiv_i, hv, hm]
/-- draws -/
def Dr (d : D) : Prop := ∃ ds : List Int, d = .list (ds.map .int) ∧ ds.length ≤ 10000 ∧ ∀ v ∈ ds, 0 ≤ v ∧ v < 9973
theorem map_int_snoc (ds : List Int) (v : Int) : ds.map PyData.int ++ [.int v] = (ds ++ [v]).map PyData.int := by simp
theorem draws_ok {ns : List Int} (hl : ns.length ≤ 63) : ∃ d, F__law_draws [.list (ns.map .int)] = some (d, false) ∧ Dr d := by
  unfold F__law_draws runP b__law_draws
  have em : (if (ns.length : Int) < 63 then (ns.length : Int) else 63) = ns.length := by
    by_cases h : (ns.length : Int) < 63
    · rw [if_pos h]
    · rw [if_neg h]; omega
  have hsm : Qp.small (ns.length : Int) = true := by unfold Qp.small; simp; omega
  have h60 : Qp.small 60 = true := by decide
  obtain ⟨c, q, ds, x2, x3, x4, rfl, h2, h3, h4, hd, hv⟩ := loopF_inv (ft := gx 2) (body := L__law_draws_2)
    (fun i c => ∃ ds x2 x3 x4, c = [.dat (.list (ns.map .int)), .own (.list (ds.map .int)), x2, x3, x4] ∧ kNo (some x2) = true ∧ kNo (some x3) = true ∧ kNo (some x4) = true ∧ ds.length ≤ 60 * i ∧ ∀ v ∈ ds, (0 : Int) ≤ v ∧ v < 9973) (rngD 0 ns.length)
    (fun i x c hi ⟨ds, x2, x3, x4, hc, h2, h3, h4, hd, hv⟩ => by
      subst hc
      obtain ⟨hi', rfl⟩ := rng_item hi
      rw [Int.zero_add]
      obtain ⟨cell, _, hcell⟩ := atD_ints (ns := ns) (j := (i : Int)) (by omega) (by omega)
      have hap : ∀ (l : List Int) (d : D), l.length ≤ 60 * i + 60 → fApp d (.list (l.map .int)) = some (.list (l.map .int ++ [d])) := fun l d hl' => fApp_of (by rw [List.length_map]; unfold LIM; omega)
      by_cases h18 : cell < 1000000000000000000
      · obtain ⟨v, ev, v0, v1⟩ := mix_ok cell i
        refine ⟨_, _, by simp [h2]; rfl, ?_, ds ++ [v], .dat (.int i), .dat (.int cell), x4, rfl, rfl, rfl, h4, by simp; omega, ?_⟩
        · have := hap ds (.int v) (by omega)
          rw [← map_int_snoc]
          simp [L__law_draws_2, hcell, h3, h18, ev, this]
        · intro u hu
          rcases List.mem_append.mp hu with hu | hu
          · exact hv u hu
          · rw [List.mem_singleton.mp hu]; exact ⟨v0, v1⟩
      · obtain ⟨c', q, ds', w', x4', rfl, g4, gd, gv⟩ := loopF_inv (ft := gx 4) (body := L__law_draws_1)
          (fun m c => ∃ ds' w x4', c = [.dat (.list (ns.map .int)), .own (.list (ds'.map .int)), .dat (.int i), .dat (.int w), x4'] ∧ kNo (some x4') = true ∧ ds'.length ≤ 60 * i + m ∧ ∀ v ∈ ds', (0 : Int) ≤ v ∧ v < 9973) (rngD 0 60)
          (fun m x c hm ⟨ds', w, x4', hc, g4, gd, gv⟩ => by
            subst hc
            obtain ⟨hm', rfl⟩ := rng_item hm
            by_cases hw : 0 < w
            · have := hap ds' (.int (w % 9973)) (by omega)
              refine ⟨_, _, by simp [g4]; rfl, ?_, ds' ++ [w % 9973], w / 9973, .dat (.int (0 + (m : Int))), rfl, rfl, by simp; omega, ?_⟩
              · rw [← map_int_snoc]
                simp [L__law_draws_1, hw, gMod_i, gFdiv_i, this]
              · intro u hu
                rcases List.mem_append.mp hu with hu | hu
                · exact gv u hu
                · rw [List.mem_singleton.mp hu]
                  exact ⟨Int.emod_nonneg _ (by decide), Int.emod_lt_of_pos _ (by decide)⟩
            · refine ⟨_, _, by simp [g4]; rfl, ?_, ds', w, .dat (.int (0 + (m : Int))), rfl, rfl, by omega, gv⟩
              simp [L__law_draws_1, hw])
          (cs := [.dat (.list (ns.map .int)), .own (.list (ds.map .int)), .dat (.int i), .dat (.int cell), x4]) ⟨ds, cell, x4, rfl, h4, by omega, hv⟩
        rw [rngD_len] at gd
        refine ⟨_, _, by simp [h2]; rfl, ?_, ds', .dat (.int i), .dat (.int w'), x4', rfl, rfl, rfl, g4, by omega, gv⟩
        simp [L__law_draws_2, hcell, h3, h18, kR1_of h60, q])
    (cs := [.dat (.list (ns.map .int)), .own (.list ([] : List D)), .no, .no, .no]) ⟨[], _, _, _, rfl, rfl, rfl, rfl, by simp, fun v h => (by cases h)⟩
  refine ⟨.list (ds.map .int), ?_, ds, rfl, by rw [rngD_len] at hd; omega, hv⟩
  simp [em, kR1_of hsm, q]
theorem at_ok {d : D} {i : Int} (h : Dr d) (h0 : 0 ≤ i) : ∃ v, F__law_at [d, .int i] = some (.int v, false) ∧ 0 ≤ v ∧ v < 9973 := by
  obtain ⟨ds, rfl, hl, hv⟩ := h
  unfold F__law_at runP b__law_at
  by_cases hi : i < ds.length
  · obtain ⟨v, h1, h2⟩ := atD_ints h0 hi
    refine ⟨v, ?_, hv v (List.mem_of_getElem? h1)⟩
    simp [hi, h2]
  · by_cases hz : ds.length = 0
    · have e : ds = [] := List.length_eq_zero_iff.mp hz
      subst e
      obtain ⟨v, ev, h1, h2⟩ := mix_ok i 77
      refine ⟨v, ?_, h1, h2⟩
      have hi' : ¬ i < 0 := by omega
      simp [hi', ev]
    · have hp : (0 : Int) < ds.length := by omega
      obtain ⟨u, _, h3⟩ := atD_ints (ns := ds) (j := i % ds.length) (Int.emod_nonneg _ (by omega)) (Int.emod_lt_of_pos _ hp)
      obtain ⟨v, ev, h1, h2⟩ := mix_ok (u + i * 131) i
      refine ⟨v, ?_, h1, h2⟩
      have hz' : ((ds.length : Int) == 0) = false := by simp; intro z; exact hz (by rw [z]; rfl)
      have em : gMod (.int i) (.int ds.length) = some (.int (i % ds.length), false) := gMod_i hp
      simp [hi, hz', em, gMul_r, h3, ev]
end My
end
section
set_option Elab.async false
set_option linter.all false
set_option maxRecDepth 100000
set_option maxHeartbeats 1000000
namespace My
open PySem PySem.Spec PyProof.Rows L2 Qp
/-! kinds: levels and a base, a number or a name -/
abbrev Kd := Int × Key
def kdD (k : Kd) : D := .tuple [.int k.1, kD k.2]
def kOk : Key → Prop
  | .inl _ => True
  | .inr s => ∀ c ∈ s.cps.toList, c < 1114112
theorem lay_kD {k : Key} (h : kOk k) : PyData.canLay0 (kD k) = true := by
  cases k with
  | inl i => rfl
  | inr s =>
    show PyData.canLay0 (.str s) = true
    rw [str_cps]
    have := shaped_str h
    unfold SeqAt.shaped at this
    rw [Bool.and_eq_true] at this
    exact this.1
theorem depth_kD (k : Key) : PyData.depth (kD k) ≤ 1 := by
  cases k with
  | inl i => simp [kD, PyData.depth]
  | inr s => simp [kD, PyData.depth]
theorem shaped_kD {k : Key} (h : kOk k) : SeqAt.shaped (kD k) = true := by
  unfold SeqAt.shaped
  rw [lay_kD h, decide_eq_true (Nat.le_trans (depth_kD k) (by decide))]
  rfl
theorem shaped_kd {k : Kd} (h : kOk k.2) : SeqAt.shaped (kdD k) = true := by
  unfold SeqAt.shaped kdD
  have h1 := lay_kD h
  have h2 := depth_kD k.2
  have h3 : PyData.depth (.int k.1) ≤ 1 := depth_kD (.inl k.1)
  have h4 : PyData.canLay0 (.int k.1) = true := lay_kD (k := .inl k.1) trivial
  simp only [PyData.canLay0, PyData.canLayAll0] at h4 ⊢
  rw [h1]
  simp [PyData.depth, PyData.depthAll]
  omega
theorem eqv_kD (a b : Key) : PyData.eqv (kD a) (kD b) = decide (a = b) := by
  cases a with
  | inl i =>
    cases b with
    | inl j =>
      show (i == j) = _
      by_cases h : i = j <;> simp [h]
    | inr t => simp [kD, PyData.eqv]
  | inr s =>
    cases b with
    | inl j => simp [kD, PyData.eqv]
    | inr t =>
      show (s == t) = _
      by_cases h : s = t <;> simp [h]
theorem eqv_kd (a b : Kd) : PyData.eqv (kdD a) (kdD b) = decide (a = b) := by
  have h1 := eqv_kD a.2 b.2
  have h2 := eqv_kD (.inl a.1) (.inl b.1)
  have : PyData.eqv (kdD a) (kdD b) = (PyData.eqv (kD (.inl a.1)) (kD (.inl b.1)) && PyData.eqv (kD a.2) (kD b.2)) := by
    simp [kdD, kD, PyData.eqv, PyData.eqvAll]
  rw [this, h1, h2]
  obtain ⟨a1, a2⟩ := a
  obtain ⟨b1, b2⟩ := b
  by_cases e1 : a1 = b1 <;> by_cases e2 : a2 = b2 <;> simp [e1, e2]
theorem gEq_kD {a b : Key} (ha : kOk a) (hb : kOk b) : gEq (kD a) (kD b) = some (.bool (decide (a = b)), false) := by
  unfold gEq
  rw [shaped_kD ha, shaped_kD hb, eqv_kD]
  rfl
theorem gNe_kD {a b : Key} (ha : kOk a) (hb : kOk b) : gNe (kD a) (kD b) = some (.bool (!decide (a = b)), false) := by
  unfold gNe
  rw [shaped_kD ha, shaped_kD hb, eqv_kD]
  rfl
theorem gNe_kd {a b : Kd} (ha : kOk a.2) (hb : kOk b.2) : gNe (kdD a) (kdD b) = some (.bool (!decide (a = b)), false) := by
  unfold gNe
  rw [shaped_kd ha, shaped_kd hb, eqv_kd]
  rfl
theorem gEq_kd {a b : Kd} (ha : kOk a.2) (hb : kOk b.2) : gEq (kdD a) (kdD b) = some (.bool (decide (a = b)), false) := by
  unfold gEq
  rw [shaped_kd ha, shaped_kd hb, eqv_kd]
  rfl
theorem gLst_k {xs : List D} (h : xs.length ≤ 40) : gLstD xs = some (.list xs, true) := gLstD_of (Nat.le_trans h (by decide))
theorem get_kd : ∀ {ys : List D} , (∀ (i : Nat) y, ys[i]? = some y → ∃ k : Kd, y = kdD k ∧ kOk k.2) → ∃ ks : List Kd, ys = ks.map kdD ∧ ∀ k ∈ ks, kOk k.2
  | [], _ => ⟨[], rfl, fun k h => (by cases h)⟩
  | y :: r, h => by
    obtain ⟨k, h1, h2⟩ := h 0 y rfl
    obtain ⟨ks, h3, h4⟩ := get_kd (ys := r) (fun i z hz => h (i + 1) z (by simpa using hz))
    refine ⟨k :: ks, by rw [h1, h3]; rfl, fun z hz => ?_⟩
    rcases List.mem_cons.mp hz with e | e
    · rw [e]; exact h2
    · exact h4 z e
theorem kOk_lit {s : Str} (h : s.cps.toList.all (fun c => decide (c < 1114112)) = true) : kOk (.inr s) := fun c hc => of_decide_eq_true (List.all_eq_true.mp h c hc)
theorem atD_all {L : List D} {j : Int} (h0 : 0 ≤ j) (h1 : j < L.length) {P : D → Prop} (h : ∀ x ∈ L, P x) : ∃ x, atD L j = some x ∧ P x := by
  have hj : j = (j.toNat : Int) := by omega
  have hn : j.toNat < L.length := by omega
  have q := atD_nat (xs := L) hn
  rw [← hj] at q
  exact ⟨_, q, h _ (List.getElem_mem hn)⟩
theorem ix_kd0 (a : Kd) : gIx (kdD a) (.int 0) = some (.int a.1, false) := by unfold kdD; simp
theorem ix_kd1 (a : Kd) : gIx (kdD a) (.int 1) = some (kD a.2, false) := by unfold kdD; simp
theorem isT_kD (k : Key) : isT "int" (kD k) = (match k with | .inl _ => true | .inr _ => false) := by cases k <;> rfl
theorem isv_ok (k : Key) : F_is_variable [kD k] = some (.bool (match k with | .inl _ => true | .inr _ => false), false) := by
  unfold F_is_variable runP b_is_variable
  cases k <;> simp [kD, isT]
theorem tup_kd (l : Int) (b : Key) : PyData.tuple [.int l, kD b] = kdD (l, b) := rfl
/-! dicts of kinds -/
abbrev Sb := List (Int × Kd)
def esD (S : Sb) : List (D × D) := S.map fun p => (.int p.1, kdD p.2)
def lk (S : Sb) (n : Int) : Option Kd := (S.find? fun p => p.1 == n).map (·.2)
theorem val_es (S : Sb) (n : Int) : valD (esD S) (.inl n) = (lk S n).map kdD := by
  induction S with
  | nil => rfl
  | cons p r ih =>
    unfold valD esD lk at ih ⊢
    rw [List.map_cons, List.find?_cons, List.find?_cons]
    have e : isK (.inl n) (PyData.int p.1) = (p.1 == n) := by
      show decide ((Sum.inl p.1 : Key) = .inl n) = _
      by_cases h : p.1 = n <;> simp [h]
    dsimp only
    rw [e]
    cases h : (p.1 == n)
    · exact ih
    · rfl
theorem put_es {S : Sb} {n : Int} {k : Kd} (h : lk S n = none) : putD (esD S) (.inl n) (kdD k) = esD (S ++ [(n, k)]) := by
  have := val_es S n
  rw [h] at this
  rw [putD_new this]
  unfold esD
  rw [List.map_append]
  rfl
theorem es_len (S : Sb) : (esD S).length = S.length := by simp [esD]
/-! replacing -/
def st (S : Sb) (k : Kd) : Option Kd := match k.2 with
  | .inl n => (lk S n).map fun v => (k.1 + v.1, v.2)
  | .inr _ => none
def rep (S : Sb) : Nat → Kd → Kd
  | 0, k => k
  | f + 1, k => match st S k with
    | some k' => rep S f k'
    | none => k
theorem rep_none {S : Sb} {k : Kd} (h : st S k = none) : ∀ f, rep S f k = k
  | 0 => rfl
  | f + 1 => by unfold rep; rw [h]
theorem rep_some {S : Sb} {k k' : Kd} (h : st S k = some k') (f : Nat) : rep S (f + 1) k = rep S f k' := by
  show (match st S k with | some k' => rep S f k' | none => k) = _
  rw [h]
/-- from here on nothing changes -/
theorem rep_more {S : Sb} : ∀ (f : Nat) (k : Kd), st S (rep S f k) = none → ∀ g, f ≤ g → rep S g k = rep S f k
  | 0, k, h, g, _ => by
    show rep S g k = k
    exact rep_none h g
  | f + 1, k, h, g, hg => by
    obtain ⟨g', rfl⟩ : ∃ g', g = g' + 1 := ⟨g - 1, by omega⟩
    cases e : st S k with
    | none => rw [rep_none e, rep_none e]
    | some k' =>
      rw [rep_some e] at h ⊢
      rw [rep_some e]
      exact rep_more f k' h g' (by omega)
theorem st_inl {S : Sb} {l n : Int} : st S (l, .inl n) = (lk S n).map fun v => (l + v.1, v.2) := rfl
theorem st_inr {S : Sb} {l : Int} {s : Str} : st S (l, .inr s) = none := rfl
theorem put_loop (S : Sb) {A : D} : ∀ (items : List D) (k : Kd) (x4 : Cell), kNo (some x4) = true →
    ∃ x4', loopF (gx 4) L__law_put_1 items [.dat A, .dat (.dict (esD S)), .dat (.int k.1), .dat (kD k.2), x4] = some (.nx [.dat A, .dat (.dict (esD S)), .dat (.int (rep S items.length k).1), .dat (kD (rep S items.length k).2), x4'])
  | [], k, x4, h => ⟨x4, rfl⟩
  | x :: r, (l, b), x4, h => by
    have hi := isT_kD b
    cases hb : b with
    | inr s =>
      subst hb
      obtain ⟨x', q⟩ := put_loop S r (l, .inr s) (.dat x) rfl
      refine ⟨x', ?_⟩
      rw [rep_none st_inr] at q ⊢
      rw [← q, loopF_cons]
      simp [L__law_put_1, h, hi]
    | inl n =>
      subst hb
      have hv := val_es S n
      cases hl : lk S n with
      | none =>
        rw [hl] at hv
        have e : st S (l, .inl n) = none := by rw [st_inl, hl]; rfl
        obtain ⟨x', q⟩ := put_loop S r (l, .inl n) (.dat x) rfl
        refine ⟨x', ?_⟩
        rw [rep_none e] at q ⊢
        have hk : kD (.inl n) = .int n := rfl
        rw [hk] at q ⊢
        rw [← q, loopF_cons]
        simp [L__law_put_1, h, isT, hv]
      | some v =>
        rw [hl] at hv
        have e : st S (l, .inl n) = some (l + v.1, v.2) := by rw [st_inl, hl]; rfl
        obtain ⟨x', q⟩ := put_loop S r (l + v.1, v.2) (.dat x) rfl
        refine ⟨x', ?_⟩
        rw [List.length_cons, rep_some e, ← q, loopF_cons]
        have hk : kD (.inl n) = .int n := rfl
        rw [hk]
        simp [L__law_put_1, h, isT, hv, ix_kd0, ix_kd1]
theorem put_ok (S : Sb) (k : Kd) : F__law_put [kdD k, .dict (esD S)] = some (kdD (rep S 20 k), false) := by
  obtain ⟨x, q⟩ := put_loop S (A := kdD k) (rngD 0 20) k .no rfl
  rw [rngD_len] at q
  unfold F__law_put runP b__law_put
  have s20 : Qp.small 20 = true := by decide
  generalize esD S = E at *
  have hk : kdD k = .tuple [.int k.1, kD k.2] := rfl
  rw [hk] at q ⊢
  simp [kR1_of s20, q, kdD]
theorem rep_stop (S : Sb) {A : D} (k : Kd) (h : st S k = none) (n : Nat) : loopW W_replaced_1 L_replaced_2 (n + 1) [.dat A, .dat (.dict (esD S)), .dat (.int k.1), .dat (kD k.2)] = some (.nx [.dat A, .dat (.dict (esD S)), .dat (.int k.1), .dat (kD k.2)]) := by
  obtain ⟨l, b⟩ := k
  have hi := isv_ok b
  rw [loopW_succ]
  cases b with
  | inr s => simp [W_replaced_1, hi]
  | inl n =>
    have hv := val_es S n
    rw [st_inl, Option.map_eq_none_iff] at h
    rw [h] at hv
    have hk : kD (.inl n) = .int n := rfl
    rw [hk] at hi ⊢
    simp [W_replaced_1, hi, hv]
theorem rep_loop (S : Sb) {A : D} : ∀ (f : Nat) (k : Kd), st S (rep S f k) = none → ∀ fuel, f < fuel →
    loopW W_replaced_1 L_replaced_2 fuel [.dat A, .dat (.dict (esD S)), .dat (.int k.1), .dat (kD k.2)] = some (.nx [.dat A, .dat (.dict (esD S)), .dat (.int (rep S f k).1), .dat (kD (rep S f k).2)]) := by
  intro f
  induction f with
  | zero =>
    intro k h fuel hf
    obtain ⟨g, rfl⟩ : ∃ g, fuel = g + 1 := ⟨fuel - 1, by omega⟩
    exact rep_stop S k h g
  | succ f ih =>
    intro k h fuel hf
    obtain ⟨g, rfl⟩ : ∃ g, fuel = g + 1 := ⟨fuel - 1, by omega⟩
    cases e : st S k with
    | none =>
      rw [rep_none e]
      exact rep_stop S k e g
    | some k' =>
      rw [rep_some e] at h ⊢
      have q := ih k' h g (by omega)
      rw [← q, loopW_succ]
      obtain ⟨l, b⟩ := k
      cases b with
      | inr s => rw [st_inr] at e; cases e
      | inl n =>
        have hi := isv_ok (.inl n)
        have hv := val_es S n
        rw [st_inl] at e
        obtain ⟨v, hl, rfl⟩ := Option.map_eq_some_iff.mp e
        rw [hl] at hv
        have hk : kD (.inl n) = .int n := rfl
        rw [hk] at hi ⊢
        simp [W_replaced_1, L_replaced_2, hi, hv, ix_kd0, ix_kd1]
theorem replaced_ok (S : Sb) (k : Kd) {f : Nat} (h : st S (rep S f k) = none) (hf : f < 1000) : F_replaced [kdD k, .dict (esD S)] = some (kdD (rep S f k), false) := by
  have q := rep_loop S (A := kdD k) f k h 1000 hf
  unfold F_replaced runP b_replaced
  generalize esD S = E at *
  have hk : kdD k = .tuple [.int k.1, kD k.2] := rfl
  rw [hk] at q ⊢
  simp [q, kdD]
end My
end
section
set_option Elab.async false
set_option linter.all false
set_option maxRecDepth 100000
set_option maxHeartbeats 2000000
namespace My
open PySem PySem.Spec PyProof.Rows L2 Qp
/-! one equation -/
def low (a b : Kd) : Int := if b.1 < a.1 then b.1 else a.1
def lefK (a b : Kd) : Kd := (a.1 - low a b, a.2)
def rigK (a b : Kd) : Kd := (b.1 - low a b, b.2)
def asg (S : Sb) (L R : Kd) : Option Sb := match L with
  | (0, .inl n) => some (S ++ [(n, R)])
  | _ => none
def mk (S : Sb) (a b : Kd) : Option Sb := if lefK a b = rigK a b then some S else if a.2 = b.2 then none else match asg S (lefK a b) (rigK a b) with
  | some S' => some S'
  | none => asg S (rigK a b) (lefK a b)
theorem asg_of {S : Sb} {n : Int} {R : Kd} {l : Int} (h : l = 0) : asg S (l, .inl n) R = some (S ++ [(n, R)]) := by subst h; rfl
theorem asg_no1 {S : Sb} {L R : Kd} (h : L.1 ≠ 0) : asg S L R = none := by
  unfold asg
  split
  · rename_i n
    exact absurd rfl h
  · rfl
theorem asg_no2 {S : Sb} {l : Int} {s : Str} {R : Kd} : asg S (l, .inr s) R = none := by
  unfold asg
  split
  · rename_i h; cases h
  · rfl
def m_l : SX := sIf (evAndT (evT (ev2 gEq (evIxV gIx 4 (evC (.int 0))) (evC (.int 0)))) (evT (evA (gN 1 (F_is_variable)) (evCons (evIxV gIx 4 (evC (.int 1))) (evNil))))) (sSeq (sDput 0 (evIxV gIx 4 (evC (.int 1))) (evVar 5))
  (sRet (evC (.bool true)))) (sNx)
def m_r : SX := sIf (evAndT (evT (ev2 gEq (evIxV gIx 5 (evC (.int 0))) (evC (.int 0)))) (evT (evA (gN 1 (F_is_variable)) (evCons (evIxV gIx 5 (evC (.int 1))) (evNil))))) (sSeq (sDput 0 (evIxV gIx 5 (evC (.int 1))) (evVar 4))
  (sRet (evC (.bool true)))) (sNx)
def m_f : SX := sRet (evC (.bool false))
theorem b_mk_parts : b__make_equal = sSeq (sAsg 3 (evA gMin2 (evCons (evIxV gIx 1 (evC (.int 0))) (evCons (evIxV gIx 2 (evC (.int 0))) (evNil))))) (sSeq (sAsg 4 (evA gTupD (evCons (ev2 gSub (evIxV gIx 1 (evC (.int 0))) (evVar 3)) (evCons (evIxV gIx 1 (evC (.int 1))) (evNil))))) (sSeq (sAsg 5 (evA gTupD (evCons (ev2 gSub (evIxV gIx 2 (evC (.int 0))) (evVar 3)) (evCons (evIxV gIx 2 (evC (.int 1))) (evNil))))) (sSeq (sIf (evT (evIxV gEq 4 (evVar 5))) (sRet (evC (.bool true))) (sNx)) (sSeq (sIf (evT (ev2 gEq (evIxV gIx 4 (evC (.int 1))) (evIxV gIx 5 (evC (.int 1))))) (sRet (evC (.bool false))) (sNx)) (sSeq m_l (sSeq m_r m_f)))))) := rfl

theorem asg_cases (S : Sb) (L R : Kd) : (∃ n, L = (0, .inl n) ∧ asg S L R = some (S ++ [(n, R)])) ∨ (asg S L R = none ∧ ((L.1 == 0) = false ∨ ∃ s, L.2 = .inr s)) := by
  obtain ⟨l, b⟩ := L
  cases b with
  | inr s => exact .inr ⟨asg_no2, .inr ⟨s, rfl⟩⟩
  | inl n =>
    by_cases h : l = 0
    · subst h; exact .inl ⟨n, rfl, rfl⟩
    · exact .inr ⟨asg_no1 h, .inl (by simp [h])⟩
theorem m_l_ok {S : Sb} {L R : Kd} {x1 x2 x3 : Cell} (hf : ∀ n, L.2 = .inl n → lk S n = none) (hS : S.length < 1000) :
    (∀ S', asg S L R = some S' → m_l [.io (.dict (esD S)), x1, x2, x3, .dat (kdD L), .dat (kdD R)] = some (.rt (.bool true) false [.io (.dict (esD S')), x1, x2, x3, .dat (kdD L), .dat (kdD R)])) ∧
    (asg S L R = none → m_l [.io (.dict (esD S)), x1, x2, x3, .dat (kdD L), .dat (kdD R)] = some (.nx [.io (.dict (esD S)), x1, x2, x3, .dat (kdD L), .dat (kdD R)])) := by
  have hel : (esD S).length < LIM := by rw [es_len]; unfold LIM; omega
  have vb := isv_ok L.2
  have i0 := ix_kd0 L
  have i1 := ix_kd1 L
  unfold m_l
  rcases asg_cases S L R with ⟨n, e, h⟩ | ⟨h, e | ⟨s, e⟩⟩
  · refine ⟨fun S' hS' => ?_, fun z => by rw [h] at z; cases z⟩
    rw [h] at hS'
    cases hS'
    have hp := put_es (S := S) (n := n) (k := R) (hf n (by rw [e]))
    have hput := fPut_of (k := .inl n) (d := kdD R) hel
    rw [hp] at hput
    have hk : keyD (kD (.inl n)) = some (.inl n) := rfl
    subst e
    dsimp only at vb i0 i1
    generalize esD (S ++ [(n, R)]) = E' at *
    generalize kdD (0, .inl n) = L at *
    simp [i0, i1, vb, hk, hput]
  · refine ⟨fun S' hS' => (by rw [h] at hS'; cases hS'), fun _ => ?_⟩
    generalize kdD L = LL at *
    simp [i0, i1, e]
  · refine ⟨fun S' hS' => (by rw [h] at hS'; cases hS'), fun _ => ?_⟩
    rw [e] at vb i1
    dsimp only at vb
    generalize kdD L = LL at *
    cases hz : (L.1 == 0) <;> simp [i0, i1, hz, vb]
theorem m_r_ok {S : Sb} {L R : Kd} {x1 x2 x3 : Cell} (hf : ∀ n, R.2 = .inl n → lk S n = none) (hS : S.length < 1000) :
    (∀ S', asg S R L = some S' → m_r [.io (.dict (esD S)), x1, x2, x3, .dat (kdD L), .dat (kdD R)] = some (.rt (.bool true) false [.io (.dict (esD S')), x1, x2, x3, .dat (kdD L), .dat (kdD R)])) ∧
    (asg S R L = none → m_r [.io (.dict (esD S)), x1, x2, x3, .dat (kdD L), .dat (kdD R)] = some (.nx [.io (.dict (esD S)), x1, x2, x3, .dat (kdD L), .dat (kdD R)])) := by
  have hel : (esD S).length < LIM := by rw [es_len]; unfold LIM; omega
  have vb := isv_ok R.2
  have i0 := ix_kd0 R
  have i1 := ix_kd1 R
  unfold m_r
  rcases asg_cases S R L with ⟨n, e, h⟩ | ⟨h, e | ⟨s, e⟩⟩
  · refine ⟨fun S' hS' => ?_, fun z => by rw [h] at z; cases z⟩
    rw [h] at hS'
    cases hS'
    have hp := put_es (S := S) (n := n) (k := L) (hf n (by rw [e]))
    have hput := fPut_of (k := .inl n) (d := kdD L) hel
    rw [hp] at hput
    have hk : keyD (kD (.inl n)) = some (.inl n) := rfl
    subst e
    dsimp only at vb i0 i1
    generalize esD (S ++ [(n, L)]) = E' at *
    generalize kdD (0, .inl n) = RR at *
    simp [i0, i1, vb, hk, hput]
  · refine ⟨fun S' hS' => (by rw [h] at hS'; cases hS'), fun _ => ?_⟩
    generalize kdD R = RR at *
    simp [i0, i1, e]
  · refine ⟨fun S' hS' => (by rw [h] at hS'; cases hS'), fun _ => ?_⟩
    rw [e] at vb i1
    dsimp only at vb
    generalize kdD R = RR at *
    cases hz : (R.1 == 0) <;> simp [i0, i1, hz, vb]
theorem fin_lk {S : Sb} {k : Kd} (h : st S k = none) : ∀ n, k.2 = .inl n → lk S n = none := by
  intro n hn
  obtain ⟨l, b⟩ := k
  dsimp only at hn
  subst hn
  rwa [st_inl, Option.map_eq_none_iff] at h
theorem mkeq_ok {S : Sb} {a b : Kd} (oka : kOk a.2) (okb : kOk b.2) (fa : st S a = none) (fb : st S b = none) (hS : S.length < 1000) :
    F__make_equal (.dict (esD S)) [kdD a, kdD b] = some (.bool (mk S a b).isSome, false, .dict (esD ((mk S a b).getD S))) := by
  have okL : kOk (lefK a b).2 := oka
  have okR : kOk (rigK a b).2 := okb
  have e1 := gEq_kd okL okR
  have e2 := gEq_kD oka okb
  have hL : PyData.tuple [.int (a.1 - low a b), kD a.2] = kdD (lefK a b) := rfl
  have hR : PyData.tuple [.int (b.1 - low a b), kD b.2] = kdD (rigK a b) := rfl
  have hlow : (if b.1 < a.1 then b.1 else a.1) = low a b := rfl
  have iL1 : gIx (kdD (lefK a b)) (.int 1) = some (kD a.2, false) := ix_kd1 _
  have iR1 : gIx (kdD (rigK a b)) (.int 1) = some (kD b.2, false) := ix_kd1 _
  obtain ⟨l1, l2⟩ := m_l_ok (S := S) (L := lefK a b) (R := rigK a b) (x1 := .dat (kdD a)) (x2 := .dat (kdD b)) (x3 := .dat (.int (low a b))) (fun n hn => fin_lk fa n hn) hS
  obtain ⟨r1, r2⟩ := m_r_ok (S := S) (L := lefK a b) (R := rigK a b) (x1 := .dat (kdD a)) (x2 := .dat (kdD b)) (x3 := .dat (.int (low a b))) (fun n hn => fin_lk fb n hn) hS
  unfold F__make_equal runI
  rw [b_mk_parts]
  by_cases c1 : lefK a b = rigK a b
  · rw [decide_eq_true c1] at e1
    have hm : mk S a b = some S := if_pos c1
    rw [hm]
    simp [ix_kd0, ix_kd1, hlow, hL, hR, e1]
  · rw [decide_eq_false c1] at e1
    by_cases c2 : a.2 = b.2
    · rw [decide_eq_true c2] at e2
      have hm : mk S a b = none := by
        show (if _ then _ else _) = _
        rw [if_neg c1, if_pos c2]
      rw [hm]
      simp [ix_kd0, ix_kd1, hlow, hL, hR, e1, iL1, iR1, e2]
    · rw [decide_eq_false c2] at e2
      have hm : mk S a b = match asg S (lefK a b) (rigK a b) with
          | some S' => some S'
          | none => asg S (rigK a b) (lefK a b) := by
        show (if _ then _ else _) = _
        rw [if_neg c1, if_neg c2]
      cases h1 : asg S (lefK a b) (rigK a b) with
      | some S' =>
        rw [h1] at hm
        dsimp only at hm
        rw [hm]
        have := l1 S' h1
        simp [ix_kd0, ix_kd1, hlow, hL, hR, e1, iL1, iR1, e2, this]
      | none =>
        rw [h1] at hm
        dsimp only at hm
        have q1 := l2 h1
        cases h2 : asg S (rigK a b) (lefK a b) with
        | some S' =>
          rw [h2] at hm
          rw [hm]
          have := r1 S' h2
          simp [ix_kd0, ix_kd1, hlow, hL, hR, e1, iL1, iR1, e2, q1, this]
        | none =>
          rw [h2] at hm
          rw [hm]
          have := r2 h2
          simp [ix_kd0, ix_kd1, hlow, hL, hR, e1, iL1, iR1, e2, q1, this, m_f]
end My
end
section
set_option Elab.async false
set_option linter.all false
set_option maxRecDepth 100000
set_option maxHeartbeats 2000000
namespace My
open PySem PySem.Spec PyProof.Rows L2 Qp
def V8 : List Int := [0, 1, 2, 3, 4, 5, 9, 40]
structure Bok (Bs : List Key) : Prop where
  var : ∀ n, Sum.inl n ∈ Bs → n ∈ V8
  ok : ∀ b ∈ Bs, kOk b
structure Inv (Bs : List Key) (S : Sb) : Prop where
  nod : (S.map (·.1)).Nodup
  key : ∀ p ∈ S, Sum.inl p.1 ∈ Bs
  val : ∀ p ∈ S, p.2.2 ∈ Bs
  ord : ∀ (i j : Nat) p q, S[i]? = some p → S[j]? = some q → p.2.2 = .inl q.1 → i < j
theorem inv_nil (Bs : List Key) : Inv Bs [] := ⟨.nil, fun p h => (by cases h), fun p h => (by cases h), fun i j p q h => by simp at h⟩
theorem nodup_len : ∀ {l m : List Int}, l.Nodup → (∀ x ∈ l, x ∈ m) → l.length ≤ m.length
  | [], _, _, _ => Nat.zero_le _
  | x :: l, m, h, hs => by
    rw [List.nodup_cons] at h
    have hx : x ∈ m := hs x List.mem_cons_self
    have := nodup_len (l := l) (m := m.erase x) h.2 (fun y hy => by
      have ne : y ≠ x := fun z => h.1 (by rw [← z]; exact hy)
      exact (List.mem_erase_of_ne ne).mpr (hs y (List.mem_cons_of_mem _ hy)))
    rw [List.length_erase_of_mem hx] at this
    have : 0 < m.length := List.length_pos_of_mem hx
    rw [List.length_cons]
    omega
theorem inv_len {Bs : List Key} {S : Sb} (hB : Bok Bs) (h : Inv Bs S) : S.length ≤ 8 := by
  have := nodup_len (l := S.map (·.1)) (m := V8) h.nod (fun x hx => by
    obtain ⟨p, hp, rfl⟩ := List.mem_map.mp hx
    exact hB.var _ (h.key p hp))
  rw [List.length_map] at this
  exact this
theorem lk_some {S : Sb} {n : Int} {v : Kd} (h : lk S n = some v) : ∃ i : Nat, S[i]? = some (n, v) := by
  unfold lk at h
  obtain ⟨p, h1, rfl⟩ := Option.map_eq_some_iff.mp h
  have h2 := List.find?_some h1
  obtain ⟨i, hi, e⟩ := List.mem_iff_getElem.mp (List.mem_of_find?_eq_some h1)
  have : p.1 = n := by simpa using h2
  refine ⟨i, ?_⟩
  rw [List.getElem?_eq_getElem hi, e, ← this]
theorem lk_none {S : Sb} {n : Int} (h : lk S n = none) : ∀ p ∈ S, p.1 ≠ n := by
  intro p hp e
  unfold lk at h
  rw [Option.map_eq_none_iff] at h
  have := List.find?_eq_none.mp h p hp
  simp [e] at this
theorem lk_app {S : Sb} {n m : Int} {v : Kd} : lk (S ++ [(n, v)]) m = match lk S m with
    | some w => some w
    | none => if n = m then some v else none := by
  unfold lk
  rw [List.find?_append]
  cases h : S.find? fun p => p.1 == m with
  | some p => rfl
  | none =>
    by_cases e : n = m
    · simp [e]
    · simp [e]
theorem rep_fin {Bs : List Key} {S : Sb} (h : Inv Bs S) : ∀ (f : Nat) (k : Kd), (∀ (i : Nat) p, S[i]? = some p → k.2 = .inl p.1 → S.length ≤ i + f) → st S (rep S f k) = none
  | 0, k, hk => by
    show st S k = none
    obtain ⟨l, b⟩ := k
    cases b with
    | inr s => rfl
    | inl n =>
      rw [st_inl]
      cases e : lk S n with
      | none => rfl
      | some v =>
        obtain ⟨i, hi⟩ := lk_some e
        have h1 := hk i _ hi rfl
        have h2 := (List.getElem?_eq_some_iff.mp hi).1
        omega
  | f + 1, k, hk => by
    cases e : st S k with
    | none => rw [rep_none e]; exact e
    | some k' =>
      rw [rep_some e]
      obtain ⟨l, b⟩ := k
      cases b with
      | inr s => rw [st_inr] at e; cases e
      | inl n =>
        rw [st_inl] at e
        obtain ⟨v, hl, rfl⟩ := Option.map_eq_some_iff.mp e
        obtain ⟨i, hi⟩ := lk_some hl
        have h1 := hk i _ hi rfl
        refine rep_fin h f _ fun j q hj hq => ?_
        have := h.ord i j _ q hi hj hq
        omega
abbrev R (S : Sb) (k : Kd) : Kd := rep S 20 k
section
variable {Bs : List Key} {S : Sb} (hB : Bok Bs) (h : Inv Bs S)
include hB h
theorem R_fin (k : Kd) : st S (R S k) = none := rep_fin h 20 k fun i p _ _ => by have := inv_len hB h; omega
theorem R_step {k k' : Kd} (e : st S k = some k') : R S k = R S k' := by
  have := rep_more 20 k (R_fin hB h k) 21 (by decide)
  rw [rep_some e] at this
  exact this.symm
theorem R_base {k : Kd} (hk : k.2 ∈ Bs) : (R S k).2 ∈ Bs := by
  have gen : ∀ (f : Nat) (k : Kd), k.2 ∈ Bs → (rep S f k).2 ∈ Bs := by
    intro f
    induction f with
    | zero => exact fun _ h => h
    | succ f ih =>
      intro k hk
      cases e : st S k with
      | none => rw [rep_none e]; exact hk
      | some k' =>
        rw [rep_some e]
        obtain ⟨l, b⟩ := k
        cases b with
        | inr s => rw [st_inr] at e; cases e
        | inl n =>
          rw [st_inl] at e
          obtain ⟨v, hl, rfl⟩ := Option.map_eq_some_iff.mp e
          obtain ⟨i, hi⟩ := lk_some hl
          exact ih _ (h.val _ (List.mem_of_getElem? hi))
  exact gen 20 k hk
end
theorem R_ext {Bs : List Key} {S : Sb} {n : Int} {v : Kd} (hB : Bok Bs) (h' : Inv Bs (S ++ [(n, v)])) (k : Kd) : R (S ++ [(n, v)]) k = R (S ++ [(n, v)]) (R S k) := by
  have gen : ∀ (f : Nat) (k : Kd), R (S ++ [(n, v)]) k = R (S ++ [(n, v)]) (rep S f k) := by
    intro f
    induction f with
    | zero => exact fun _ => rfl
    | succ f ih =>
      intro k
      cases e : st S k with
      | none => rw [rep_none e]
      | some k' =>
        rw [rep_some e, ← ih k']
        refine R_step hB h' ?_
        obtain ⟨l, b⟩ := k
        cases b with
        | inr s => rw [st_inr] at e; cases e
        | inl m =>
          rw [st_inl] at e ⊢
          obtain ⟨w, hl, rfl⟩ := Option.map_eq_some_iff.mp e
          rw [lk_app, hl]
          rfl
  exact gen 20 k
theorem inv_app {Bs : List Key} {S : Sb} {n : Int} {v : Kd} (h : Inv Bs S) (hn : lk S n = none) (h1 : Sum.inl n ∈ Bs) (h2 : v.2 ∈ Bs) (h3 : v.2 ≠ .inl n) (h4 : ∀ m, v.2 = .inl m → lk S m = none) : Inv Bs (S ++ [(n, v)]) := by
  have mem : ∀ p ∈ S ++ [(n, v)], p ∈ S ∨ p = (n, v) := fun p hp => by
    rcases List.mem_append.mp hp with e | e
    · exact .inl e
    · exact .inr (List.mem_singleton.mp e)
  refine ⟨?_, fun p hp => ?_, fun p hp => ?_, fun i j p q hi hj e => ?_⟩
  · rw [List.map_append, List.nodup_append]
    refine ⟨h.nod, by simp, fun a ha b hb => ?_⟩
    obtain ⟨p, hp, rfl⟩ := List.mem_map.mp ha
    rw [List.map_singleton, List.mem_singleton] at hb
    rw [hb]
    exact lk_none hn p hp
  · rcases mem p hp with e | e
    · exact h.key p e
    · rw [e]; exact h1
  · rcases mem p hp with e | e
    · exact h.val p e
    · rw [e]; exact h2
  · have hjl := (List.getElem?_eq_some_iff.mp hj).1
    have hil := (List.getElem?_eq_some_iff.mp hi).1
    rw [List.length_append, List.length_singleton] at hjl hil
    by_cases c1 : i < S.length
    · by_cases c2 : j < S.length
      · rw [List.getElem?_append_left c1] at hi
        rw [List.getElem?_append_left c2] at hj
        exact h.ord i j p q hi hj e
      · omega
    · exfalso
      rw [List.getElem?_append_right (by omega), show i - S.length = 0 by omega] at hi
      simp at hi
      subst hi
      dsimp only at e
      by_cases c2 : j < S.length
      · rw [List.getElem?_append_left c2] at hj
        exact lk_none (h4 q.1 e) q (List.mem_of_getElem? hj) rfl
      · rw [List.getElem?_append_right (by omega), show j - S.length = 0 by omega] at hj
        simp at hj
        subst hj
        exact h3 e
theorem mk_ok {Bs : List Key} {S S' : Sb} {a b : Kd} (hB : Bok Bs) (h : Inv Bs S) (ha : a.2 ∈ Bs) (hb : b.2 ∈ Bs) (fa : st S a = none) (fb : st S b = none) (e : mk S a b = some S') :
    Inv Bs S' ∧ R S' a = R S' b ∧ ∀ k, R S' k = R S' (R S k) := by
  unfold mk at e
  split at e
  · rename_i c1
    cases e
    have : a = b := by
      unfold lefK rigK at c1
      injection c1 with c1 c2
      obtain ⟨a1, a2⟩ := a
      obtain ⟨b1, b2⟩ := b
      dsimp only at c1 c2
      subst c2
      have : a1 = b1 := by omega
      rw [this]
    refine ⟨h, by rw [this], fun k => ?_⟩
    exact (rep_none (R_fin hB h k) 20).symm
  · split at e
    · cases e
    · rename_i c1 c2
      -- one variable is set
      have one : ∀ (a b : Kd) (n : Int), a.2 ∈ Bs → b.2 ∈ Bs → st S a = none → st S b = none → a.2 ≠ b.2 → a.2 = .inl n → Inv Bs (S ++ [(n, (b.1 - a.1, b.2))]) ∧ R (S ++ [(n, (b.1 - a.1, b.2))]) a = R (S ++ [(n, (b.1 - a.1, b.2))]) b ∧ ∀ k, R (S ++ [(n, (b.1 - a.1, b.2))]) k = R (S ++ [(n, (b.1 - a.1, b.2))]) (R S k) := by
        intro a b n ha hb fa fb ne en
        have i' : Inv Bs (S ++ [(n, (b.1 - a.1, b.2))]) := inv_app h (fin_lk fa n en) (by rw [← en]; exact ha) hb (fun z => ne (by rw [en]; exact z.symm)) (fun m hm => fin_lk fb m hm)
        refine ⟨i', ?_, R_ext hB i'⟩
        refine R_step hB i' ?_
        obtain ⟨a1, a2⟩ := a
        dsimp only at en
        subst en
        rw [st_inl, lk_app, fin_lk fa n rfl]
        simp
        obtain ⟨b1, b2⟩ := b
        dsimp only
        rw [show a1 + (b1 - a1) = b1 by omega]
      split at e
      · rename_i S1 hs
        cases e
        rcases asg_cases S (lefK a b) (rigK a b) with ⟨n, e1, e2⟩ | ⟨e1, _⟩
        · rw [hs] at e2
          cases e2
          unfold lefK at e1
          injection e1 with e1 e3
          have := one a b n ha hb fa fb c2 e3
          have el : rigK a b = (b.1 - a.1, b.2) := by
            unfold rigK
            rw [show b.1 - low a b = b.1 - a.1 by omega]
          rw [el]
          exact this
        · rw [e1] at hs; cases hs
      · rcases asg_cases S (rigK a b) (lefK a b) with ⟨n, e1, e2⟩ | ⟨e1, _⟩
        · rw [e] at e2
          cases e2
          unfold rigK at e1
          injection e1 with e1 e3
          obtain ⟨o1, o2, o3⟩ := one b a n hb ha fb fa (fun z => c2 z.symm) e3
          have el : lefK a b = (a.1 - b.1, a.2) := by
            unfold lefK
            rw [show a.1 - low a b = a.1 - b.1 by omega]
          rw [el]
          exact ⟨o1, o2.symm, o3⟩
        · rw [e1] at e; cases e
/-! all equations -/
abbrev Pr2 := Kd × Kd
def pD (p : Pr2) : D := .tuple [kdD p.1, kdD p.2]
def sol : Sb → List Pr2 → Option Sb
  | S, [] => some S
  | S, p :: r => match mk S (R S p.1) (R S p.2) with
    | some S' => sol S' r
    | none => none
theorem sol_ok {Bs : List Key} (hB : Bok Bs) : ∀ (ps : List Pr2) (S S' : Sb), Inv Bs S → (∀ p ∈ ps, p.1.2 ∈ Bs ∧ p.2.2 ∈ Bs) → sol S ps = some S' →
    Inv Bs S' ∧ (∀ p ∈ ps, R S' p.1 = R S' p.2) ∧ ∀ x y, R S x = R S y → R S' x = R S' y
  | [], S, S', h, _, e => by
    cases e
    exact ⟨h, fun p hp => (by cases hp), fun _ _ z => z⟩
  | p :: r, S, S', h, hp, e => by
    unfold sol at e
    cases e1 : mk S (R S p.1) (R S p.2) with
    | none => rw [e1] at e; cases e
    | some S1 =>
      rw [e1] at e
      dsimp only at e
      obtain ⟨p1, p2⟩ := hp p List.mem_cons_self
      obtain ⟨i1, r1, x1⟩ := mk_ok hB h (R_base hB h p1) (R_base hB h p2) (R_fin hB h _) (R_fin hB h _) e1
      obtain ⟨i2, r2, x2⟩ := sol_ok hB r S1 S' i1 (fun q hq => hp q (List.mem_cons_of_mem _ hq)) e
      have keep : ∀ x y, R S x = R S y → R S1 x = R S1 y := fun x y z => by rw [x1 x, x1 y, z]
      refine ⟨i2, fun q hq => ?_, fun x y z => x2 x y (keep x y z)⟩
      rcases List.mem_cons.mp hq with e | e
      · subst e
        refine x2 _ _ ?_
        rw [x1 q.1, x1 q.2]
        exact r1
      · exact r2 q e
end My
end
section
set_option Elab.async false
set_option linter.all false
set_option maxRecDepth 100000
set_option maxHeartbeats 2000000
namespace My
open PySem PySem.Spec PyProof.Rows L2 Qp
theorem noMut_kd (k : Kd) : noMutF false (kdD k) = true := by
  obtain ⟨l, b⟩ := k
  all_goals (cases b <;> rfl)
abbrev gt23 : GX := gxTup (gxCons (gx 2) (gxCons (gx 3) (gxNil))) 2
theorem rep_R {Bs : List Key} {S : Sb} (hB : Bok Bs) (h : Inv Bs S) (k : Kd) : F_replaced [kdD k, .dict (esD S)] = some (kdD (R S k), false) := replaced_ok S k (R_fin hB h k) (by decide)
theorem unify_loop {Bs : List Key} {A : D} (hB : Bok Bs) : ∀ (ps : List Pr2) (S : Sb) (x2 x3 : Cell), Inv Bs S → (∀ p ∈ ps, p.1.2 ∈ Bs ∧ p.2.2 ∈ Bs) → kNo (some x2) = true → kNo (some x3) = true →
    (∀ S', sol S ps = some S' → ∃ y2 y3, loopF gt23 L_unify_1 (ps.map pD) [.dat A, .own (.dict (esD S)), x2, x3] = some (.nx [.dat A, .own (.dict (esD S')), y2, y3])) ∧
    (sol S ps = none → ∃ c, loopF gt23 L_unify_1 (ps.map pD) [.dat A, .own (.dict (esD S)), x2, x3] = some (.rt .none false c))
  | [], S, x2, x3, h, hp, h2, h3 => ⟨fun S' e => by cases e; exact ⟨x2, x3, rfl⟩, fun e => by cases e⟩
  | (a, b) :: r, S, x2, x3, h, hp, h2, h3 => by
    obtain ⟨pa, pb⟩ := hp (a, b) List.mem_cons_self
    have ra := rep_R hB h a
    have rb := rep_R hB h b
    have hS : S.length < 1000 := by have := inv_len hB h; omega
    have hm := mkeq_ok (hB.ok _ (R_base hB h pa)) (hB.ok _ (R_base hB h pb)) (R_fin hB h a) (R_fin hB h b) hS
    have k1 := fun c => kCB2_of (c := c) (noMut_kd (R S a))
    have k2 := fun c => kCB2_of (c := c) (noMut_kd (R S b))
    have hsol : sol S ((a, b) :: r) = match mk S (R S a) (R S b) with
      | some S' => sol S' r
      | none => none := rfl
    rw [hsol, List.map_cons, loopF_cons]
    have hpd : pD (a, b) = .tuple [kdD a, kdD b] := rfl
    rw [hpd]
    cases e1 : mk S (R S a) (R S b) with
    | none =>
      rw [e1] at hm
      refine ⟨fun S' z => (by cases z), fun _ => ?_⟩
      dsimp only [Option.isSome, Option.getD] at hm
      generalize esD S = E at *
      exact ⟨_, by simp [h2, h3, L_unify_1, ra, rb, k1, k2, hm]; rfl⟩
    | some S1 =>
      rw [e1] at hm
      obtain ⟨i1, _, _⟩ := mk_ok hB h (R_base hB h pa) (R_base hB h pb) (R_fin hB h _) (R_fin hB h _) e1
      obtain ⟨q1, q2⟩ := unify_loop (A := A) hB r S1 (.dat (kdD a)) (.dat (kdD b)) i1 (fun q hq => hp q (List.mem_cons_of_mem _ hq)) rfl rfl
      dsimp only [Option.isSome, Option.getD] at hm
      have step : kL1 gt23 L_unify_1 (r.map pD) (gt23 (.tuple [kdD a, kdD b]) [.dat A, .own (.dict (esD S)), x2, x3]) = loopF gt23 L_unify_1 (r.map pD) [.dat A, .own (.dict (esD S1)), .dat (kdD a), .dat (kdD b)] := by
        generalize esD S = E at *
        generalize esD S1 = E1 at *
        generalize r.map pD = items at *
        simp [h2, h3, L_unify_1, ra, rb, k1, k2, hm]
      rw [step]
      exact ⟨q1, q2⟩
theorem unify_ok {Bs : List Key} (hB : Bok Bs) {ps : List Pr2} (hp : ∀ p ∈ ps, p.1.2 ∈ Bs ∧ p.2.2 ∈ Bs) : F_unify [.list (ps.map pD)] = some (match sol [] ps with | some S => .dict (esD S) | none => .none, false) := by
  obtain ⟨q1, q2⟩ := unify_loop (A := .list (ps.map pD)) hB ps [] .no .no (inv_nil Bs) hp rfl rfl
  unfold F_unify runP b_unify
  have he : esD [] = [] := rfl
  rw [he] at q1 q2
  cases e : sol [] ps with
  | none =>
    obtain ⟨c, q⟩ := q2 e
    generalize ps.map pD = items at *
    simp [q]
  | some S =>
    obtain ⟨y2, y3, q⟩ := q1 S e
    generalize ps.map pD = items at *
    simp [q]
/-! the law's way -/
theorem isiE_kD (b : Key) (c : En) (fr : Bool) : kIsiE "int" (some (kD b, fr, c)) = some (.bool (match b with | .inl _ => true | .inr _ => false), false, c) := by
  rw [kIsiE_s, kIsi_int, isT_kD]
  all_goals (cases b <;> rfl)
def s_if : SX := sIf (evT (evIxV gNe 4 (evVar 5))) (sSeq (sIf (evT (ev2 gEq (evIxV gIx 4 (evC (.int 1))) (evIxV gIx 5 (evC (.int 1))))) (sRet (evC .none)) (sNx))
  (sIf (evAndT (evT (ev2 gEq (evIxV gIx 4 (evC (.int 0))) (evC (.int 0)))) (evT (evIsi "int" (evIxV gIx 4 (evC (.int 1)))))) (sDput 1 (evIxV gIx 4 (evC (.int 1))) (evVar 5)) (sIf (evAndT (evT (ev2 gEq (evIxV gIx 5 (evC (.int 0))) (evC (.int 0)))) (evT (evIsi "int" (evIxV gIx 5 (evC (.int 1)))))) (sDput 1 (evIxV gIx 5 (evC (.int 1))) (evVar 4)) (sRet (evC .none))))) (sNx)
theorem L_solved_parts : L__law_solved_1 = sSeq (sAsg 4 (evCB (gN 2 (F__law_put)) (evCons (evVar 2) (evBor 1 (evNil))))) (sSeq (sAsg 5 (evCB (gN 2 (F__law_put)) (evCons (evVar 3) (evBor 1 (evNil))))) (sSeq (sAsg 6 (evA gMin2 (evCons (evIxV gIx 4 (evC (.int 0))) (evCons (evIxV gIx 5 (evC (.int 0))) (evNil))))) (sSeq (sAsg 4 (evA gTupD (evCons (ev2 gSub (evIxV gIx 4 (evC (.int 0))) (evVar 6)) (evCons (evIxV gIx 4 (evC (.int 1))) (evNil))))) (sSeq (sAsg 5 (evA gTupD (evCons (ev2 gSub (evIxV gIx 5 (evC (.int 0))) (evVar 6)) (evCons (evIxV gIx 5 (evC (.int 1))) (evNil))))) (s_if))))) := rfl
theorem s_if_ok {S : Sb} {a b : Kd} (oka : kOk a.2) (okb : kOk b.2) (fa : st S a = none) (fb : st S b = none) (hS : S.length < 1000) {x0 x2 x3 x6 : Cell} :
    (∀ S', mk S a b = some S' → s_if [x0, .own (.dict (esD S)), x2, x3, .dat (kdD (lefK a b)), .dat (kdD (rigK a b)), x6] = some (.nx [x0, .own (.dict (esD S')), x2, x3, .dat (kdD (lefK a b)), .dat (kdD (rigK a b)), x6])) ∧
    (mk S a b = none → ∃ c, s_if [x0, .own (.dict (esD S)), x2, x3, .dat (kdD (lefK a b)), .dat (kdD (rigK a b)), x6] = some (.rt .none false c)) := by
  have hel : (esD S).length < LIM := by rw [es_len]; unfold LIM; omega
  have okL : kOk (lefK a b).2 := oka
  have okR : kOk (rigK a b).2 := okb
  have e1 := gNe_kd okL okR
  have e2 := gEq_kD oka okb
  have iL0 : gIx (kdD (lefK a b)) (.int 0) = some (.int (lefK a b).1, false) := ix_kd0 _
  have iR0 : gIx (kdD (rigK a b)) (.int 0) = some (.int (rigK a b).1, false) := ix_kd0 _
  have iL1 : gIx (kdD (lefK a b)) (.int 1) = some (kD a.2, false) := ix_kd1 _
  have iR1 : gIx (kdD (rigK a b)) (.int 1) = some (kD b.2, false) := ix_kd1 _
  have ta := isiE_kD a.2
  have tb := isiE_kD b.2
  unfold s_if
  by_cases c1 : lefK a b = rigK a b
  · rw [decide_eq_true c1] at e1
    have hm : mk S a b = some S := if_pos c1
    rw [hm]
    refine ⟨fun S' z => ?_, fun z => by cases z⟩
    cases z
    generalize esD S = E at *
    simp [e1]
  · rw [decide_eq_false c1] at e1
    by_cases c2 : a.2 = b.2
    · rw [decide_eq_true c2] at e2
      have hm : mk S a b = none := by
        show (if _ then _ else _) = _
        rw [if_neg c1, if_pos c2]
      rw [hm]
      refine ⟨fun S' z => (by cases z), fun _ => ?_⟩
      generalize esD S = E at *
      exact ⟨_, by simp [e1, iL1, iR1, e2]; rfl⟩
    · rw [decide_eq_false c2] at e2
      have hm : mk S a b = match asg S (lefK a b) (rigK a b) with
          | some S' => some S'
          | none => asg S (rigK a b) (lefK a b) := by
        show (if _ then _ else _) = _
        rw [if_neg c1, if_neg c2]
        all_goals (cases asg S (lefK a b) (rigK a b) <;> rfl)
      have pl := fun n (hn : a.2 = .inl n) => put_es (S := S) (n := n) (k := rigK a b) (fin_lk fa n hn)
      have pr := fun n (hn : b.2 = .inl n) => put_es (S := S) (n := n) (k := lefK a b) (fin_lk fb n hn)
      have hput := fun (n : Int) (k : Kd) => fPut_of (k := .inl n) (d := kdD k) hel
      have hk : ∀ n, keyD (kD (.inl n)) = some (.inl n) := fun n => rfl
      rcases asg_cases S (lefK a b) (rigK a b) with ⟨n, e, h1⟩ | ⟨h1, hno⟩
      · rw [h1] at hm
        rw [hm]
        refine ⟨fun S' z => ?_, fun z => by cases z⟩
        cases z
        have en : a.2 = .inl n := congrArg Prod.snd e
        have e0 : (lefK a b).1 = 0 := congrArg Prod.fst e
        have pl' := pl n en
        have hput' := hput n (rigK a b)
        rw [pl'] at hput'
        rw [en] at ta iL1 e2
        rw [e0] at iL0
        dsimp only at ta
        generalize esD (S ++ [(n, rigK a b)]) = E' at *
        generalize esD S = E at *
        simp [e1, iL0, iL1, iR1, ta, hk, hput', e2]
      · rw [h1] at hm
        dsimp only at hm
        -- the left side is not set
        have left : ∀ (c : En), c = [x0, .own (.dict (esD S)), x2, x3, .dat (kdD (lefK a b)), .dat (kdD (rigK a b)), x6] → evAndT (evT (ev2 gEq (evIxV gIx 4 (evC (.int 0))) (evC (.int 0)))) (evT (evIsi "int" (evIxV gIx 4 (evC (.int 1))))) c = some (false, c) := by
          intro c hc
          subst hc
          rcases hno with hz | ⟨s, hs⟩
          · simp [iL0, hz]
          · have hs' : a.2 = .inr s := hs
            rw [hs'] at ta iL1
            dsimp only at ta
            cases hz : ((lefK a b).1 == 0) <;> simp [iL0, hz, iL1, ta]
        rcases asg_cases S (rigK a b) (lefK a b) with ⟨n, e, h2⟩ | ⟨h2, hno2⟩
        · rw [h2] at hm
          rw [hm]
          refine ⟨fun S' z => ?_, fun z => by cases z⟩
          cases z
          have en : b.2 = .inl n := congrArg Prod.snd e
          have e0 : (rigK a b).1 = 0 := congrArg Prod.fst e
          have pl' := pr n en
          have hput' := hput n (lefK a b)
          rw [pl'] at hput'
          rw [en] at tb iR1
          rw [e0] at iR0
          dsimp only at tb
          have left' := left _ rfl
          rw [en] at e2
          generalize esD (S ++ [(n, lefK a b)]) = E' at *
          generalize esD S = E at *
          generalize kdD (lefK a b) = LL at *
          generalize kdD (rigK a b) = RR at *
          generalize hev : evAndT (evT (ev2 gEq (evIxV gIx 4 (evC (.int 0))) (evC (.int 0)))) (evT (evIsi "int" (evIxV gIx 4 (evC (.int 1))))) = tst at *
          simp [e1, iL1, iR1, e2, left', iR0, tb, hk, hput']
        · rw [h2] at hm
          rw [hm]
          refine ⟨fun S' z => (by cases z), fun _ => ?_⟩
          have right : ∀ (c : En), c = [x0, .own (.dict (esD S)), x2, x3, .dat (kdD (lefK a b)), .dat (kdD (rigK a b)), x6] → evAndT (evT (ev2 gEq (evIxV gIx 5 (evC (.int 0))) (evC (.int 0)))) (evT (evIsi "int" (evIxV gIx 5 (evC (.int 1))))) c = some (false, c) := by
            intro c hc
            subst hc
            rcases hno2 with hz | ⟨s, hs⟩
            · simp [iR0, hz]
            · have hs' : b.2 = .inr s := hs
              rw [hs'] at tb iR1
              dsimp only at tb
              cases hz : ((rigK a b).1 == 0) <;> simp [iR0, hz, iR1, tb]
          have left' := left _ rfl
          have right' := right _ rfl
          generalize esD S = E at *
          generalize kdD (lefK a b) = LL at *
          generalize kdD (rigK a b) = RR at *
          generalize hev : evAndT (evT (ev2 gEq (evIxV gIx 4 (evC (.int 0))) (evC (.int 0)))) (evT (evIsi "int" (evIxV gIx 4 (evC (.int 1))))) = tst at *
          generalize hev2 : evAndT (evT (ev2 gEq (evIxV gIx 5 (evC (.int 0))) (evC (.int 0)))) (evT (evIsi "int" (evIxV gIx 5 (evC (.int 1))))) = tst2 at *
          exact ⟨_, by simp [e1, iL1, iR1, e2, left', right']; rfl⟩
theorem put_R {S : Sb} (k : Kd) : F__law_put [kdD k, .dict (esD S)] = some (kdD (R S k), false) := put_ok S k
theorem solved_loop {Bs : List Key} {A : D} (hB : Bok Bs) : ∀ (ps : List Pr2) (S : Sb) (x2 x3 x4 x5 x6 : Cell), Inv Bs S → (∀ p ∈ ps, p.1.2 ∈ Bs ∧ p.2.2 ∈ Bs) → kNo (some x2) = true → kNo (some x3) = true → kNo (some x4) = true → kNo (some x5) = true → kNo (some x6) = true →
    (∀ S', sol S ps = some S' → ∃ y2 y3 y4 y5 y6, loopF gt23 L__law_solved_1 (ps.map pD) [.dat A, .own (.dict (esD S)), x2, x3, x4, x5, x6] = some (.nx [.dat A, .own (.dict (esD S')), y2, y3, y4, y5, y6])) ∧
    (sol S ps = none → ∃ c, loopF gt23 L__law_solved_1 (ps.map pD) [.dat A, .own (.dict (esD S)), x2, x3, x4, x5, x6] = some (.rt .none false c))
  | [], S, x2, x3, x4, x5, x6, h, hp, h2, h3, h4, h5, h6 => ⟨fun S' e => by cases e; exact ⟨x2, x3, x4, x5, x6, rfl⟩, fun e => by cases e⟩
  | (a, b) :: r, S, x2, x3, x4, x5, x6, h, hp, h2, h3, h4, h5, h6 => by
    obtain ⟨pa, pb⟩ := hp (a, b) List.mem_cons_self
    have ra := put_R (S := S) a
    have rb := put_R (S := S) b
    have hS : S.length < 1000 := by have := inv_len hB h; omega
    have k1 := fun c => kCB2_of (c := c) (noMut_kd (R S a))
    have k2 := fun c => kCB2_of (c := c) (noMut_kd (R S b))
    obtain ⟨m1, m2⟩ := s_if_ok (S := S) (hB.ok _ (R_base hB h pa)) (hB.ok _ (R_base hB h pb)) (R_fin hB h a) (R_fin hB h b) hS (x0 := .dat A) (x2 := .dat (kdD a)) (x3 := .dat (kdD b)) (x6 := .dat (.int (low (R S a) (R S b))))
    have hsol : sol S ((a, b) :: r) = match mk S (R S a) (R S b) with
      | some S' => sol S' r
      | none => none := rfl
    have hlow : (if (R S b).1 < (R S a).1 then (R S b).1 else (R S a).1) = low (R S a) (R S b) := rfl
    have hL : PyData.tuple [.int ((R S a).1 - low (R S a) (R S b)), kD (R S a).2] = kdD (lefK (R S a) (R S b)) := rfl
    have hR : PyData.tuple [.int ((R S b).1 - low (R S a) (R S b)), kD (R S b).2] = kdD (rigK (R S a) (R S b)) := rfl
    have i1 := ix_kd0 (R S a)
    have i2 := ix_kd1 (R S a)
    have i3 := ix_kd0 (R S b)
    have i4 := ix_kd1 (R S b)
    rw [hsol, List.map_cons, loopF_cons]
    have hpd : pD (a, b) = .tuple [kdD a, kdD b] := rfl
    rw [hpd]
    have pre : ∀ (q : Option Res), s_if [.dat A, .own (.dict (esD S)), .dat (kdD a), .dat (kdD b), .dat (kdD (lefK (R S a) (R S b))), .dat (kdD (rigK (R S a) (R S b))), .dat (.int (low (R S a) (R S b)))] = q →
        kL1 gt23 L__law_solved_1 (r.map pD) (gt23 (.tuple [kdD a, kdD b]) [.dat A, .own (.dict (esD S)), x2, x3, x4, x5, x6]) = kL2 gt23 L__law_solved_1 (r.map pD) q := by
      intro q hq
      rw [L_solved_parts]
      generalize hbody : sSeq _ _ = body
      rw [← hq]
      have : body [.dat A, .own (.dict (esD S)), .dat (kdD a), .dat (kdD b), x4, x5, x6] = s_if [.dat A, .own (.dict (esD S)), .dat (kdD a), .dat (kdD b), .dat (kdD (lefK (R S a) (R S b))), .dat (kdD (rigK (R S a) (R S b))), .dat (.int (low (R S a) (R S b)))] := by
        subst hbody
        generalize esD S = E at *
        generalize kdD (lefK (R S a) (R S b)) = LL at *
        generalize kdD (rigK (R S a) (R S b)) = RR at *
        generalize kdD (R S a) = RA at *
        generalize kdD (R S b) = RB at *
        simp [ra, rb, k1, k2, h4, h5, h6, i1, i2, i3, i4, hlow, hL, hR]
      rw [← this]
      simp [h2, h3]
    cases e1 : mk S (R S a) (R S b) with
    | none =>
      refine ⟨fun S' z => (by cases z), fun _ => ?_⟩
      obtain ⟨c, q⟩ := m2 e1
      exact ⟨c, by rw [pre _ q]; rfl⟩
    | some S1 =>
      have q := m1 S1 e1
      obtain ⟨i1, _, _⟩ := mk_ok hB h (R_base hB h pa) (R_base hB h pb) (R_fin hB h _) (R_fin hB h _) e1
      obtain ⟨q1, q2⟩ := solved_loop (A := A) hB r S1 _ _ _ _ _ i1 (fun q hq => hp q (List.mem_cons_of_mem _ hq)) (kNo_d (d := kdD a)) (kNo_d (d := kdD b)) (kNo_d (d := kdD (lefK (R S a) (R S b)))) (kNo_d (d := kdD (rigK (R S a) (R S b)))) (kNo_d (d := .int (low (R S a) (R S b))))
      rw [pre _ q]
      exact ⟨q1, q2⟩
theorem solved_ok {Bs : List Key} (hB : Bok Bs) {ps : List Pr2} (hp : ∀ p ∈ ps, p.1.2 ∈ Bs ∧ p.2.2 ∈ Bs) : F__law_solved [.list (ps.map pD)] = some (match sol [] ps with | some S => .dict (esD S) | none => .none, false) := by
  obtain ⟨q1, q2⟩ := solved_loop (A := .list (ps.map pD)) hB ps [] .no .no .no .no .no (inv_nil Bs) hp rfl rfl rfl rfl rfl
  unfold F__law_solved runP b__law_solved
  have he : esD [] = [] := rfl
  rw [he] at q1 q2
  cases e : sol [] ps with
  | none =>
    obtain ⟨c, q⟩ := q2 e
    generalize ps.map pD = items at *
    simp [q]
  | some S =>
    obtain ⟨y2, y3, y4, y5, y6, q⟩ := q1 S e
    generalize ps.map pD = items at *
    simp [q]
end My
end
section
set_option Elab.async false
set_option linter.all false
set_option maxRecDepth 100000
set_option maxHeartbeats 2000000
namespace My
open PySem PySem.Spec PyProof.Rows L2 Qp
def BsAll : List Key := [.inl 0, .inl 1, .inl 2, .inl 3, .inl 4, .inl 5, .inl 9, .inl 40, .inr "num", .inr "text", .inr "bool", .inr "d", .inr "e2"]
theorem bsAll_ok {Bs : List Key} (h : ∀ b ∈ Bs, b ∈ BsAll) : Bok Bs := by
  constructor
  · intro n hn
    have := h _ hn
    unfold BsAll at this
    unfold V8
    simp only [List.mem_cons, List.not_mem_nil, or_false, Sum.inl.injEq, reduceCtorEq] at this ⊢
    exact this
  · intro b hb
    have := h _ hb
    unfold BsAll at this
    simp only [List.mem_cons, List.not_mem_nil, or_false] at this
    rcases this with rfl | rfl | rfl | rfl | rfl | rfl | rfl | rfl | rfl | rfl | rfl | rfl | rfl
    · trivial
    · trivial
    · trivial
    · trivial
    · trivial
    · trivial
    · trivial
    · trivial
    · exact kOk_lit (by decide +kernel)
    · exact kOk_lit (by decide +kernel)
    · exact kOk_lit (by decide +kernel)
    · exact kOk_lit (by decide +kernel)
    · exact kOk_lit (by decide +kernel)
theorem base_ok (v : Int) : ∃ b : Key, F__law_base [.int v] = some (kD b, false) ∧ b ∈ BsAll := by
  obtain ⟨z, hz, b, rfl, hb⟩ : ∃ z, atD [.int 0, .int 1, .int 2, .int 3, .int 4, .int 5, .int 9, .int 40, .str "num", .str "text", .str "bool", .str "d", .str "e2", .int 0, .int 1] (v % 15) = some z ∧ ∃ b : Key, z = kD b ∧ b ∈ BsAll :=
    atD_all (Int.emod_nonneg _ (by decide)) (by simp; omega) (fun x hx => by
      simp only [List.mem_cons, List.not_mem_nil, or_false] at hx
      rcases hx with rfl | rfl | rfl | rfl | rfl | rfl | rfl | rfl | rfl | rfl | rfl | rfl | rfl | rfl | rfl
      · exact ⟨.inl 0, rfl, by simp [BsAll]⟩
      · exact ⟨.inl 1, rfl, by simp [BsAll]⟩
      · exact ⟨.inl 2, rfl, by simp [BsAll]⟩
      · exact ⟨.inl 3, rfl, by simp [BsAll]⟩
      · exact ⟨.inl 4, rfl, by simp [BsAll]⟩
      · exact ⟨.inl 5, rfl, by simp [BsAll]⟩
      · exact ⟨.inl 9, rfl, by simp [BsAll]⟩
      · exact ⟨.inl 40, rfl, by simp [BsAll]⟩
      · exact ⟨.inr "num", rfl, by simp [BsAll]⟩
      · exact ⟨.inr "text", rfl, by simp [BsAll]⟩
      · exact ⟨.inr "bool", rfl, by simp [BsAll]⟩
      · exact ⟨.inr "d", rfl, by simp [BsAll]⟩
      · exact ⟨.inr "e2", rfl, by simp [BsAll]⟩
      · exact ⟨.inl 0, rfl, by simp [BsAll]⟩
      · exact ⟨.inl 1, rfl, by simp [BsAll]⟩)
  refine ⟨b, ?_, hb⟩
  unfold F__law_base runP b__law_base
  simp [gLst_k, gMod_i, hz]
theorem kind_ok {d : D} {i : Int} (h : Dr d) (h0 : 0 ≤ i) : ∃ k : Kd, F__law_kind [d, .int i] = some (kdD k, false) ∧ k.2 ∈ BsAll := by
  obtain ⟨v, e, _, _⟩ := at_ok (i := i) h h0
  obtain ⟨v1, e1, _, _⟩ := at_ok (i := i + 1) h (by omega)
  obtain ⟨b, eb, hb⟩ := base_ok v1
  unfold F__law_kind runP b__law_kind
  cases hz : (v / 4 % 12 == 11)
  · exact ⟨(v % 4, b), by simp [e, e1, eb, gMod_i, gFdiv_i, hz, kdD], hb⟩
  · exact ⟨(v / 48 % 41, b), by simp [e, e1, eb, gMod_i, gFdiv_i, hz, kdD], hb⟩
def PsOk (ps : List Pr2) : Prop := ∀ p ∈ ps, p.1.2 ∈ BsAll ∧ p.2.2 ∈ BsAll
theorem map_pD_snoc (ps : List Pr2) (p : Pr2) : ps.map pD ++ [pD p] = (ps ++ [p]).map pD := by simp
theorem app_pD {ps : List Pr2} (p : Pr2) {x : D} (hx : x = pD p) (h : ps.length < 1000) : fApp x (.list (ps.map pD)) = some (.list ((ps ++ [p]).map pD)) := by
  rw [hx, fApp_of (by rw [List.length_map]; unfold LIM; omega), map_pD_snoc]
theorem psOk_snoc {ps : List Pr2} {p : Pr2} (h : PsOk ps) (h1 : p.1.2 ∈ BsAll) (h2 : p.2.2 ∈ BsAll) : PsOk (ps ++ [p]) := fun q hq => by
  rcases List.mem_append.mp hq with e | e
  · exact h q e
  · rw [List.mem_singleton.mp e]; exact ⟨h1, h2⟩
theorem raw_loop {d : D} (h : Dr d) (n : Nat) (hn : n ≤ 20) {x3 x4 x5 x6 x7 x8 : Cell} : ∃ (ps : List Pr2) (x2 : Cell), loopF (gx 2) L__law_pairs_1 (rngD 0 n) [.dat d, .own (.list []), .no, x3, x4, x5, x6, x7, x8] = some (.nx [.dat d, .own (.list (ps.map pD)), x2, x3, x4, x5, x6, x7, x8]) ∧ PsOk ps ∧ ps.length = n ∧ kNo (some x2) = true := by
  obtain ⟨c, q, ps, x2, rfl, h2, hl, ho⟩ := loopF_inv (ft := gx 2) (body := L__law_pairs_1)
    (fun i c => ∃ (ps : List Pr2) (x2 : Cell), c = [.dat d, .own (.list (ps.map pD)), x2, x3, x4, x5, x6, x7, x8] ∧ kNo (some x2) = true ∧ ps.length = i ∧ PsOk ps) (rngD 0 n)
    (fun i x c hi ⟨ps, x2, hc, h2, hl, ho⟩ => by
      subst hc
      obtain ⟨hi2, rfl⟩ := rng_item hi
      rw [Int.zero_add]
      obtain ⟨k1, e1, o1⟩ := kind_ok (i := 20 + 4 * (i : Int)) h (by omega)
      obtain ⟨k2, e2, o2⟩ := kind_ok (i := 22 + 4 * (i : Int)) h (by omega)
      have hap := app_pD (ps := ps) (k1, k2) (x := .tuple [kdD k1, kdD k2]) rfl (by omega)
      refine ⟨_, [.dat d, .own (.list ((ps ++ [(k1, k2)]).map pD)), .dat (.int (i : Nat)), x3, x4, x5, x6, x7, x8], by simp [h2]; rfl, ?_, ps ++ [(k1, k2)], .dat (.int (i : Nat)), rfl, rfl, by simp [hl], psOk_snoc ho o1 o2⟩
      generalize (ps ++ [(k1, k2)]).map pD = O at *
      simp [L__law_pairs_1, gMul_l, e1, e2, hap])
    (cs := [.dat d, .own (.list []), .no, x3, x4, x5, x6, x7, x8]) ⟨[], .no, rfl, rfl, rfl, fun p hp => (by cases hp)⟩
  rw [rngD_len] at hl
  exact ⟨ps, x2, q, ho, hl, h2⟩
theorem known_loop {d : D} (h : Dr d) {x1 x4 x5 x6 x7 x8 : Cell} : ∀ (ns : List Int) (S : Sb) (x2 : Cell), kNo (some x2) = true → ns.Nodup → (∀ n ∈ ns, 0 ≤ n ∧ lk S n = none) → S.length + ns.length ≤ 100 → (∀ m w, lk S m = some w → w.2 ∈ BsAll) →
    ∃ (S' : Sb) (x2' : Cell), loopF (gx 2) L__law_pairs_2 (ns.map .int) [.dat d, x1, x2, .own (.dict (esD S)), x4, x5, x6, x7, x8] = some (.nx [.dat d, x1, x2', .own (.dict (esD S')), x4, x5, x6, x7, x8]) ∧ (∀ n ∈ ns, lk S' n ≠ none) ∧ (∀ m, lk S m ≠ none → lk S' m ≠ none) ∧ (∀ m w, lk S' m = some w → w.2 ∈ BsAll) ∧ S'.length ≤ 100
  | [], S, x2, h2, _, _, hl, hv => ⟨S, x2, rfl, fun n hn => (by cases hn), fun _ z => z, hv, by simpa using hl⟩
  | n :: r, S, x2, h2, hnd, hn, hl, hv => by
    rw [List.length_cons] at hl
    rw [List.nodup_cons] at hnd
    obtain ⟨n0, hno⟩ := hn n List.mem_cons_self
    obtain ⟨v, ev, _, _⟩ := at_ok (i := 100 + n) h (by omega)
    obtain ⟨z, hz, b, rfl, hb⟩ : ∃ z, atD [.str "num", .str "text", .str "d"] (v / 4 % 3) = some z ∧ ∃ b : Key, z = kD b ∧ b ∈ BsAll :=
      atD_all (Int.emod_nonneg _ (by decide)) (by simp; omega) (fun x hx => by
        simp only [List.mem_cons, List.not_mem_nil, or_false] at hx
        rcases hx with rfl | rfl | rfl
        · exact ⟨.inr "num", rfl, by simp [BsAll]⟩
        · exact ⟨.inr "text", rfl, by simp [BsAll]⟩
        · exact ⟨.inr "d", rfl, by simp [BsAll]⟩)
    have hput := fPut_of (es := esD S) (k := .inl n) (d := kdD (v % 4, b)) (by rw [es_len]; unfold LIM; omega)
    rw [put_es hno] at hput
    have ht : PyData.tuple [.int (v % 4), kD b] = kdD (v % 4, b) := rfl
    obtain ⟨S', x2', q, g1, g2, g3, g4⟩ := known_loop h (x1 := x1) (x4 := x4) (x5 := x5) (x6 := x6) (x7 := x7) (x8 := x8) r (S ++ [(n, (v % 4, b))]) (.dat (.int n)) rfl hnd.2 (fun m hm => by
      obtain ⟨m0, mn⟩ := hn m (List.mem_cons_of_mem _ hm)
      refine ⟨m0, ?_⟩
      rw [lk_app, mn]
      have : n ≠ m := fun z => hnd.1 (by rw [z]; exact hm)
      simp [this]) (by rw [List.length_append, List.length_singleton]; omega) (fun m w hw => by
      rw [lk_app] at hw
      cases e : lk S m with
      | some w' => rw [e] at hw; cases hw; exact hv m w e
      | none =>
        rw [e] at hw
        dsimp only at hw
        split at hw
        · cases hw; exact hb
        · cases hw)
    refine ⟨S', x2', ?_, fun m hm => ?_, fun m hm => g2 m ?_, g3, g4⟩
    · rw [← q, List.map_cons, loopF_cons]
      generalize esD (S ++ [(n, (v % 4, b))]) = E' at *
      generalize esD S = E at *
      simp [h2, L__law_pairs_2, ev, gMod_i, gFdiv_i, hz, ht, hput]
    · rcases List.mem_cons.mp hm with e | e
      · subst e
        refine g2 m ?_
        rw [lk_app, hno]
        simp
      · exact g1 m e
    · rw [lk_app]
      cases e : lk S m with
      | some w' => exact fun z => nomatch z
      | none => exact absurd e hm
theorem rep_base {S : Sb} (hv : ∀ m w, lk S m = some w → w.2 ∈ BsAll) : ∀ (f : Nat) (k : Kd), k.2 ∈ BsAll → (rep S f k).2 ∈ BsAll := by
  intro f
  induction f with
  | zero => exact fun _ h => h
  | succ f ih =>
    intro k hk
    cases e : st S k with
    | none => rw [rep_none e]; exact hk
    | some k' =>
      rw [rep_some e]
      obtain ⟨l, b⟩ := k
      cases b with
      | inr s => rw [st_inr] at e; cases e
      | inl n =>
        rw [st_inl] at e
        obtain ⟨v, hl, rfl⟩ := Option.map_eq_some_iff.mp e
        exact ih _ (hv n v hl)
end My
end
section
set_option Elab.async false
set_option linter.all false
set_option maxRecDepth 100000
set_option maxHeartbeats 2000000
namespace My
open PySem PySem.Spec PyProof.Rows L2 Qp
abbrev gt56 : GX := gxTup (gxCons (gx 5) (gxCons (gx 6) (gxNil))) 2
theorem bs_kOk {b : Key} (h : b ∈ BsAll) : kOk b := (bsAll_ok (Bs := BsAll) fun _ z => z).ok b h
theorem fit_step {d : D} {S : Sb} (hv : ∀ m w, lk S m = some w → w.2 ∈ BsAll) (hk : ∀ n ∈ V8, lk S n ≠ none) {A : D} {fs : List Pr2} (hl : fs.length < 900) {a b : Kd} (ha : a.2 ∈ BsAll) (hb : b.2 ∈ BsAll) {x2 x7 x8 : Cell} (h7 : kNo (some x7) = true) (h8 : kNo (some x8) = true) :
    ∃ (p : Pr2) (y7 y8 : Cell), L__law_pairs_3 [.dat d, .dat A, x2, .own (.dict (esD S)), .own (.list (fs.map pD)), .dat (kdD a), .dat (kdD b), x7, x8] = some (.nx [.dat d, .dat A, x2, .own (.dict (esD S)), .own (.list ((fs ++ [p]).map pD)), .dat (kdD a), .dat (kdD b), y7, y8]) ∧ p.1.2 ∈ BsAll ∧ p.2.2 ∈ BsAll ∧ kNo (some y7) = true ∧ kNo (some y8) = true := by
  have ra := put_R (S := S) a
  have rb := put_R (S := S) b
  have k1 := fun c => kCB2_of (c := c) (noMut_kd (R S a))
  have k2 := fun c => kCB2_of (c := c) (noMut_kd (R S b))
  have oA : (R S a).2 ∈ BsAll := rep_base hv 20 a ha
  have oB : (R S b).2 ∈ BsAll := rep_base hv 20 b hb
  have e1 := gEq_kd (bs_kOk oA) (bs_kOk oB)
  have i0 := ix_kd0 (R S a)
  have i1 := ix_kd1 (R S a)
  have j1 := ix_kd1 b
  have tb := isiE_kD b.2
  have ap : ∀ p : Pr2, fApp (.tuple [kdD p.1, kdD p.2]) (.list (fs.map pD)) = some (.list ((fs ++ [p]).map pD)) := fun p => app_pD p rfl (by omega)
  by_cases c1 : R S a = R S b
  · rw [decide_eq_true c1] at e1
    have := ap (a, b)
    refine ⟨(a, b), .dat (kdD (R S a)), .dat (kdD (R S b)), ?_, ha, hb, rfl, rfl⟩
    generalize (fs ++ [(a, b)]).map pD = O at *
    generalize esD S = E at *
    simp [L__law_pairs_3, ra, rb, k1, k2, h7, h8, e1, this]
  · rw [decide_eq_false c1] at e1
    have last := ap (a, R S a)
    have other : ∃ (p : Pr2), p = (a, R S a) := ⟨_, rfl⟩
    cases hb2 : b.2 with
    | inr s =>
      rw [hb2] at tb j1
      dsimp only at tb
      refine ⟨(a, R S a), .dat (kdD (R S a)), .dat (kdD (R S b)), ?_, ha, oA, rfl, rfl⟩
      generalize (fs ++ [(a, R S a)]).map pD = O at *
      generalize esD S = E at *
      simp [L__law_pairs_3, ra, rb, k1, k2, h7, h8, e1, j1, tb, last]
    | inl n =>
      have hn : n ∈ V8 := (bsAll_ok (Bs := BsAll) fun _ z => z).var n (by rw [← hb2]; exact hb)
      obtain ⟨w, hw⟩ : ∃ w, lk S n = some w := by
        cases e : lk S n with
        | none => exact absurd e (hk n hn)
        | some w => exact ⟨w, rfl⟩
      have hval := val_es S n
      rw [hw] at hval
      have hg : gDget (.dict (esD S)) (kD (.inl n)) = some (kdD w, false) := by
        show gDget (.dict (esD S)) (.int n) = _
        rw [gDget_i, hval]
        rfl
      have w0 := ix_kd0 w
      have w1 := ix_kd1 w
      have e2 := gEq_kD (bs_kOk oA) (bs_kOk (hv n w hw))
      rw [hb2] at tb j1
      dsimp only at tb
      have hk2 : PyData.tuple [.int ((R S a).1 - w.1), kD (.inl n)] = kdD ((R S a).1 - w.1, .inl n) := rfl
      have fit := ap (a, ((R S a).1 - w.1, .inl n))
      have hin : Sum.inl n ∈ BsAll := by rw [← hb2]; exact hb
      by_cases c2 : w.1 ≤ (R S a).1
      · by_cases c3 : (R S a).2 = w.2
        · rw [decide_eq_true c3] at e2
          refine ⟨(a, ((R S a).1 - w.1, .inl n)), .dat (kdD (R S a)), .dat (kdD (R S b)), ?_, ha, hin, rfl, rfl⟩
          dsimp only at fit
          generalize (fs ++ [((a, ((R S a).1 - w.1, Sum.inl n)) : Pr2)]).map pD = O at *
          generalize esD S = E at *
          generalize hkn : kD (.inl n) = KN at *
          simp [L__law_pairs_3, ra, rb, k1, k2, h7, h8, e1, j1, tb, hg, w0, w1, i0, i1, c2, e2, hk2, fit]
        · rw [decide_eq_false c3] at e2
          refine ⟨(a, R S a), .dat (kdD (R S a)), .dat (kdD (R S b)), ?_, ha, oA, rfl, rfl⟩
          generalize (fs ++ [(a, R S a)]).map pD = O at *
          generalize esD S = E at *
          generalize hkn : kD (.inl n) = KN at *
          simp [L__law_pairs_3, ra, rb, k1, k2, h7, h8, e1, j1, tb, hg, w0, w1, i0, i1, c2, e2, last]
      · refine ⟨(a, R S a), .dat (kdD (R S a)), .dat (kdD (R S b)), ?_, ha, oA, rfl, rfl⟩
        generalize (fs ++ [(a, R S a)]).map pD = O at *
        generalize esD S = E at *
        generalize hkn : kD (.inl n) = KN at *
        simp [L__law_pairs_3, ra, rb, k1, k2, h7, h8, e1, j1, tb, hg, w0, w1, i0, i1, c2, last]
theorem fit_loop {d : D} {S : Sb} (hv : ∀ m w, lk S m = some w → w.2 ∈ BsAll) (hk : ∀ n ∈ V8, lk S n ≠ none) {A : D} {x2 : Cell} : ∀ (ps fs : List Pr2) (x5 x6 x7 x8 : Cell), PsOk ps → PsOk fs → fs.length + ps.length ≤ 800 → kNo (some x5) = true → kNo (some x6) = true → kNo (some x7) = true → kNo (some x8) = true →
    ∃ (fs' : List Pr2) (y5 y6 y7 y8 : Cell), loopF gt56 L__law_pairs_3 (ps.map pD) [.dat d, .dat A, x2, .own (.dict (esD S)), .own (.list (fs.map pD)), x5, x6, x7, x8] = some (.nx [.dat d, .dat A, x2, .own (.dict (esD S)), .own (.list (fs'.map pD)), y5, y6, y7, y8]) ∧ PsOk fs' ∧ fs'.length = fs.length + ps.length
  | [], fs, x5, x6, x7, x8, _, hf, _, _, _, _, _ => ⟨fs, x5, x6, x7, x8, rfl, hf, rfl⟩
  | (a, b) :: r, fs, x5, x6, x7, x8, hp, hf, hl, h5, h6, h7, h8 => by
    rw [List.length_cons] at hl
    obtain ⟨pa, pb⟩ := hp (a, b) List.mem_cons_self
    obtain ⟨p, y7, y8, q, g1, g2, g7, g8⟩ := fit_step (d := d) (A := A) (x2 := x2) hv hk (fs := fs) (by omega) pa pb h7 h8
    obtain ⟨fs', z5, z6, z7, z8, q2, o2, l2⟩ := fit_loop hv hk (d := d) (A := A) (x2 := x2) r (fs ++ [p]) (.dat (kdD a)) (.dat (kdD b)) y7 y8 (fun q hq => hp q (List.mem_cons_of_mem _ hq)) (psOk_snoc hf g1 g2) (by rw [List.length_append, List.length_singleton]; omega) rfl rfl g7 g8
    refine ⟨fs', z5, z6, z7, z8, ?_, o2, by rw [l2, List.length_append, List.length_singleton, List.length_cons]; omega⟩
    rw [← q2, List.map_cons, loopF_cons]
    have hpd : pD (a, b) = .tuple [kdD a, kdD b] := rfl
    rw [hpd]
    generalize (fs ++ [p]).map pD = O at *
    generalize fs.map pD = O2 at *
    generalize esD S = E at *
    simp [h5, h6, q]
theorem count_ok (v : Int) (a1 : 0 ≤ v) : ∃ n : Nat, n ≤ 12 ∧ (((v / 7 % 4 == 3) = true ∧ v % 7 + 6 = (n : Int)) ∨ ((v / 7 % 4 == 3) = false ∧ v % 7 = (n : Int))) := by
  have h1 : 0 ≤ v % 7 := Int.emod_nonneg _ (by decide)
  have h2 : v % 7 < 7 := Int.emod_lt_of_pos _ (by decide)
  cases h : (v / 7 % 4 == 3)
  · exact ⟨(v % 7).toNat, by omega, .inr ⟨rfl, by omega⟩⟩
  · exact ⟨(v % 7 + 6).toNat, by omega, .inl ⟨rfl, by omega⟩⟩
end My
end
section
set_option Elab.async false
set_option linter.all false
set_option maxRecDepth 100000
set_option maxHeartbeats 2000000
namespace My
open PySem PySem.Spec PyProof.Rows L2 Qp
def p_rest : SX := sSeq (sAsg 3 (evDnew)) (sSeq (sFor (ixSeq (evA gLstD (evCons (evC (.int 0)) (evCons (evC (.int 1)) (evCons (evC (.int 2)) (evCons (evC (.int 3)) (evCons (evC (.int 4)) (evCons (evC (.int 5)) (evCons (evC (.int 9)) (evCons (evC (.int 40)) (evNil))))))))))) (gx 2) (L__law_pairs_2)) (sSeq (sAsg 4 (evA gLstD (evNil))) (sSeq (sFor (ixSeq (evVar 1)) (gxTup (gxCons (gx 5) (gxCons (gx 6) (gxNil))) 2) (L__law_pairs_3)) (sRet (evVar 4)))))
theorem b_pairs_parts : b__law_pairs = sSeq (sAsg 1 (evA gLstD (evNil))) (sSeq (sFor (ixR1 (evCons (ev2 gAdd (ev2 gMod (evA (gN 2 (F__law_at)) (evCons (evVar 0) (evCons (evC (.int 0)) (evNil)))) (evC (.int 7))) (ev2 gMul (evC (.int 6)) (evA gInt (evCons (ev2 gEq (ev2 gMod (ev2 gFdiv (evA (gN 2 (F__law_at)) (evCons (evVar 0) (evCons (evC (.int 0)) (evNil)))) (evC (.int 7))) (evC (.int 4))) (evC (.int 3))) (evNil))))) (evNil))) (gx 2) (L__law_pairs_1)) (sSeq (sIf (evT (ev2 gEq (ev2 gMod (evA (gN 2 (F__law_at)) (evCons (evVar 0) (evCons (evC (.int 1)) (evNil)))) (evC (.int 2))) (evC (.int 0)))) (sRet (evVar 1)) (sNx)) p_rest)) := rfl

theorem rest_ok {d : D} (h : Dr d) {ps : List Pr2} (hp : PsOk ps) (hl : ps.length ≤ 20) {x2 : Cell} (h2 : kNo (some x2) = true) :
    ∃ (fs : List Pr2) (c : En), p_rest [.dat d, .own (.list (ps.map pD)), x2, .no, .no, .no, .no, .no, .no] = some (.rt (.list (fs.map pD)) false c) ∧ PsOk fs ∧ fs.length = ps.length := by
  obtain ⟨S, y2, q1, g1, _, g3, _⟩ := known_loop h (x1 := .own (.list (ps.map pD))) (x4 := .no) (x5 := .no) (x6 := .no) (x7 := .no) (x8 := .no) V8 [] x2 h2 (by decide) (fun n hn => ⟨by unfold V8 at hn; simp only [List.mem_cons, List.not_mem_nil, or_false] at hn; omega, rfl⟩) (by decide) (fun m w z => by cases z)
  obtain ⟨fs, y5, y6, y7, y8, q2, o2, l2⟩ := fit_loop (d := d) (A := .list (ps.map pD)) (x2 := y2) g3 g1 ps [] .no .no .no .no hp (fun p z => by cases z) (by simp; omega) rfl rfl rfl rfl
  refine ⟨fs, [.dat d, .dat (.list (ps.map pD)), y2, .own (.dict (esD S)), .dat (.list (fs.map pD)), y5, y6, y7, y8], ?_, o2, by rw [l2]; simp⟩
  have hm : V8.map PyData.int = [.int 0, .int 1, .int 2, .int 3, .int 4, .int 5, .int 9, .int 40] := rfl
  rw [hm] at q1
  have he : esD [] = [] := rfl
  rw [he] at q1
  simp only [List.map_nil] at q2
  unfold p_rest
  generalize esD S = E at *
  generalize ps.map pD = O at *
  generalize fs.map pD = O2 at *
  simp [gLst_k, q1, q2]
theorem pairs_ok {d : D} (h : Dr d) : ∃ ps : List Pr2, F__law_pairs [d] = some (.list (ps.map pD), false) ∧ PsOk ps ∧ ps.length ≤ 12 := by
  obtain ⟨v, e0, a0, b0⟩ := at_ok (i := 0) h (by decide)
  obtain ⟨v1, e1, _, _⟩ := at_ok (i := 1) h (by decide)
  obtain ⟨n, hn12, hn⟩ := count_ok v a0
  obtain ⟨ps, x2, q0, hp, hl, h2⟩ := raw_loop h n (by omega) (x3 := .no) (x4 := .no) (x5 := .no) (x6 := .no) (x7 := .no) (x8 := .no)
  obtain ⟨fs, c, q1, o1, l1⟩ := rest_ok h hp (by omega) h2
  have hsm : Qp.small (n : Int) = true := by unfold Qp.small; simp; omega
  have hn1 : ((n : Int)).toNat = n := by omega
  unfold F__law_pairs runP
  rw [b_pairs_parts]
  cases hb : (v1 % 2 == 0)
  · refine ⟨fs, ?_, o1, by omega⟩
    generalize ps.map pD = O at *
    generalize fs.map pD = O2 at *
    rcases hn with ⟨hc, hn⟩ | ⟨hc, hn⟩
    · rw [← hn] at hsm hn1
      simp [e0, e1, gMod_i, gFdiv_i, gMul_l, hc, kR1_of hsm, hn1, q0, hb, q1]
    · rw [← hn] at hsm hn1
      simp [e0, e1, gMod_i, gFdiv_i, gMul_l, hc, kR1_of hsm, hn1, q0, hb, q1]
  · refine ⟨ps, ?_, hp, by omega⟩
    generalize ps.map pD = O at *
    rcases hn with ⟨hc, hn⟩ | ⟨hc, hn⟩
    · rw [← hn] at hsm hn1
      simp [e0, e1, gMod_i, gFdiv_i, gMul_l, hc, kR1_of hsm, hn1, q0, hb]
    · rw [← hn] at hsm hn1
      simp [e0, e1, gMod_i, gFdiv_i, gMul_l, hc, kR1_of hsm, hn1, q0, hb]
end My
end
section
set_option Elab.async false
set_option linter.all false
set_option maxRecDepth 100000
set_option maxHeartbeats 1000000
namespace My
open PySem PySem.Spec PyProof.Rows L2 Qp
/-! _law_same tells that a thing is like itself -/
def Pl : Nat → D → Prop
  | 0, _ => False
  | k + 1, d => match d with
    | .none => True
    | .bool _ => True
    | .int _ => True
    | .str s => ∀ c ∈ s.cps.toList, c < 1114112
    | .list ds => ds.length ≤ 1000000 ∧ ∀ d ∈ ds, Pl k d
    | .tuple ds => ds.length ≤ 1000000 ∧ ∀ d ∈ ds, Pl k d
    | .dict _ => False
theorem gEq_b (a b : Bool) : gEq (.bool a) (.bool b) = some (.bool (a == b), false) := rfl
theorem gNe_b (a b : Bool) : gNe (.bool a) (.bool b) = some (.bool (!(a == b)), false) := rfl
theorem isi_ok (d : D) (h : isT "bool" d = false) : F__law_is_integer [d] = some (.bool (isT "int" d), false) := by
  unfold F__law_is_integer runP b__law_is_integer
  cases e : isT "int" d <;> simp [e, h]
theorem same_loop {k : Nat} {ds : List D} (ih : ∀ d ∈ ds, F__law_same k [d, d] = some (.bool true, false)) {X : List D → D} (hX : (X = PyData.list) ∨ X = PyData.tuple) {x : Cell} (hx : kNo (some x) = true) :
    ∃ c, loopF (gx 2) (L__law_same_1 (F__law_same k)) (rngD 0 ds.length) [.dat (X ds), .dat (X ds), x] = some (.nx c) := by
  obtain ⟨c, q, _⟩ := loopF_inv (ft := gx 2) (body := L__law_same_1 (F__law_same k)) (fun _ c => ∃ x, c = [.dat (X ds), .dat (X ds), x] ∧ kNo (some x) = true) (rngD 0 ds.length) (fun i x c hi ⟨y, hc, hy⟩ => by
    subst hc
    obtain ⟨hi', e⟩ := rng_item hi
    rw [Int.zero_add] at e
    subst e
    have ea : atD ds (i : Int) = some ds[i] := atD_nat hi'
    have es := ih ds[i] (List.getElem_mem _)
    refine ⟨[.dat (X ds), .dat (X ds), .dat (.int (i : Int))], [.dat (X ds), .dat (X ds), .dat (.int (i : Int))], by simp [hy], ?_, _, rfl, rfl⟩
    rcases hX with rfl | rfl
    · simp [L__law_same_1, ea, es]
    · simp [L__law_same_1, ea, es]) (cs := [.dat (X ds), .dat (X ds), x]) ⟨x, rfl, hx⟩
  exact ⟨c, q⟩
theorem same_refl : ∀ (k : Nat) (d : D), Pl k d → F__law_same k [d, d] = some (.bool true, false)
  | 0, _, h => h.elim
  | k + 1, d, h => by
    show runP 2 1 (b__law_same (F__law_same k)) [d, d] = _
    unfold runP b__law_same
    cases d with
    | none => simp [isNone, isT]
    | bool b => simp [isNone, isT, gEq_b]
    | int i =>
      have := isi_ok (.int i) rfl
      simp [isNone, isT, this]
    | str s =>
      have h' : ∀ c ∈ s.cps.toList, c < 1114112 := h
      rw [str_cps]
      simp [gEq_str h' h']
    | list ds =>
      obtain ⟨hl, hd⟩ : ds.length ≤ 1000000 ∧ ∀ d ∈ ds, Pl k d := h
      have hsm : Qp.small (ds.length : Int) = true := by unfold Qp.small; simp; omega
      obtain ⟨c, q⟩ := same_loop (k := k) (ds := ds) (fun d hd' => same_refl k d (hd d hd')) (X := PyData.list) (.inl rfl) (x := .no) rfl
      simp [isNone, isT, kR1_of hsm, q, gNe_b]
    | tuple ds =>
      obtain ⟨hl, hd⟩ : ds.length ≤ 1000000 ∧ ∀ d ∈ ds, Pl k d := h
      have hsm : Qp.small (ds.length : Int) = true := by unfold Qp.small; simp; omega
      obtain ⟨c, q⟩ := same_loop (k := k) (ds := ds) (fun d hd' => same_refl k d (hd d hd')) (X := PyData.tuple) (.inr rfl) (x := .no) rfl
      simp [isNone, isT, kR1_of hsm, q, gNe_b]
    | dict _ => exact h.elim
theorem pl_kd {k : Kd} {n : Nat} (h : kOk k.2) : Pl (n + 2) (kdD k) := by
  refine ⟨by simp, fun d hd => ?_⟩
  rcases List.mem_cons.mp hd with e | e
  · subst e; trivial
  · rw [List.mem_singleton.mp e]
    obtain ⟨l, b⟩ := k
    cases b with
    | inl n => trivial
    | inr s => exact h

theorem pl_pD {p : Pr2} (h1 : kOk p.1.2) (h2 : kOk p.2.2) : Pl 3 (pD p) := by
  refine ⟨by simp, fun d hd => ?_⟩
  rcases List.mem_cons.mp hd with e | e
  · subst e; exact pl_kd (n := 0) h1
  · rw [List.mem_singleton.mp e]; exact pl_kd (n := 0) h2
theorem pl_ps {ps : List Pr2} (h : PsOk ps) (hl : ps.length ≤ 1000) : Pl 4 (.list (ps.map pD)) := by
  refine ⟨by simp; omega, fun d hd => ?_⟩
  obtain ⟨p, hp, rfl⟩ := List.mem_map.mp hd
  obtain ⟨h1, h2⟩ := h p hp
  exact pl_pD (bs_kOk h1) (bs_kOk h2)
theorem same_kd {k : Kd} (h : kOk k.2) : F__law_same 4 [kdD k, kdD k] = some (.bool true, false) := same_refl 4 _ (pl_kd (n := 2) h)
/-! a list is equal to itself -/
theorem eqvAll_map {α : Type} (f : α → D) (h : ∀ x, PyData.eqv (f x) (f x) = true) : ∀ l : List α, PyData.eqvAll (l.map f) (l.map f) = true
  | [] => by simp [PyData.eqvAll]
  | x :: r => by
    rw [List.map_cons]
    simp [PyData.eqvAll, h x, eqvAll_map f h r]
theorem layAll_map {α : Type} (f : α → D) : ∀ l : List α, (∀ x ∈ l, PyData.canLay0 (f x) = true) → PyData.canLayAll0 (l.map f) = true
  | [], _ => by simp [PyData.canLayAll0]
  | x :: r, h => by
    rw [List.map_cons]
    simp only [PyData.canLayAll0, Bool.and_eq_true]
    exact ⟨h x List.mem_cons_self, layAll_map f r fun y hy => h y (List.mem_cons_of_mem _ hy)⟩
theorem depthAll_le {n : Nat} : ∀ l : List D, (∀ x ∈ l, PyData.depth x ≤ n) → PyData.depthAll l ≤ n
  | [], _ => by simp [PyData.depthAll]
  | x :: r, h => by
    simp only [PyData.depthAll]
    exact Nat.max_le.mpr ⟨h x List.mem_cons_self, depthAll_le r fun y hy => h y (List.mem_cons_of_mem _ hy)⟩
theorem depth_kd (k : Kd) : PyData.depth (kdD k) ≤ 3 := by
  have h2 := depth_kD k.2
  have h3 : PyData.depth (.int k.1) ≤ 1 := depth_kD (.inl k.1)
  unfold kdD
  simp only [PyData.depth, PyData.depthAll] at *
  omega
theorem lay_kd {k : Kd} (h : kOk k.2) : PyData.canLay0 (kdD k) = true := by
  have := shaped_kd h
  unfold SeqAt.shaped at this
  rw [Bool.and_eq_true] at this
  exact this.1
theorem eqv_kd_self (k : Kd) : PyData.eqv (kdD k) (kdD k) = true := by rw [eqv_kd]; simp
/-- an entry as the law lists it -/
def entD (p : Int × Kd) : D := .tuple [.int p.1, kdD p.2]
theorem gEq_list {α : Type} {f : α → D} {l : List α} (h1 : ∀ x ∈ l, PyData.canLay0 (f x) = true) (h2 : ∀ x, PyData.depth (f x) ≤ 10) (h3 : ∀ x, PyData.eqv (f x) (f x) = true) : gEq (.list (l.map f)) (.list (l.map f)) = some (.bool true, false) ∧ gNe (.list (l.map f)) (.list (l.map f)) = some (.bool false, false) := by
  have hl : PyData.canLay0 (.list (l.map f)) = true := by
    simp only [PyData.canLay0]
    exact layAll_map f l h1
  have hd : PyData.depth (.list (l.map f)) ≤ 64 := by
    have : PyData.depthAll (l.map f) ≤ 10 := depthAll_le _ fun x hx => by
      obtain ⟨y, _, rfl⟩ := List.mem_map.mp hx
      exact h2 y
    simp only [PyData.depth]
    omega
  have hs : SeqAt.shaped (.list (l.map f)) = true := by
    unfold SeqAt.shaped
    rw [hl, decide_eq_true hd]
    rfl
  have he : PyData.eqv (.list (l.map f)) (.list (l.map f)) = true := by
    simp only [PyData.eqv]
    exact eqvAll_map f h3 l
  unfold gEq gNe
  rw [hs, he]
  exact ⟨rfl, rfl⟩
theorem pD_lay {p : Pr2} (h1 : kOk p.1.2) (h2 : kOk p.2.2) : PyData.canLay0 (pD p) = true := by
  unfold pD
  simp only [PyData.canLay0, PyData.canLayAll0, lay_kd h1, lay_kd h2, Bool.and_self]
theorem pD_depth (p : Pr2) : PyData.depth (pD p) ≤ 10 := by
  have h1 := depth_kd p.1
  have h2 := depth_kd p.2
  unfold pD
  simp only [PyData.depth, PyData.depthAll]
  omega
theorem pD_eqv (p : Pr2) : PyData.eqv (pD p) (pD p) = true := by
  unfold pD
  simp [PyData.eqv, PyData.eqvAll, eqv_kd_self]
theorem ent_lay {p : Int × Kd} (h1 : kOk p.2.2) : PyData.canLay0 (entD p) = true := by
  have h0 : PyData.canLay0 (.int p.1) = true := lay_kD (k := .inl p.1) trivial
  unfold entD
  simp only [PyData.canLay0, PyData.canLayAll0, lay_kd h1, Bool.and_self] at *
theorem ent_depth (p : Int × Kd) : PyData.depth (entD p) ≤ 10 := by
  have h1 := depth_kd p.2
  have h2 : PyData.depth (.int p.1) ≤ 1 := depth_kD (.inl p.1)
  unfold entD
  simp only [PyData.depth, PyData.depthAll] at *
  omega
theorem ent_eqv (p : Int × Kd) : PyData.eqv (entD p) (entD p) = true := by
  have h2 : PyData.eqv (.int p.1) (.int p.1) = true := by show (p.1 == p.1) = true; simp
  unfold entD
  simp [PyData.eqv, PyData.eqvAll, eqv_kd_self]
end My
end
section
set_option Elab.async false
set_option linter.all false
set_option maxRecDepth 100000
set_option maxHeartbeats 2000000
namespace My
open PySem PySem.Spec PyProof.Rows L2 Qp
def fst2 : D → D
  | .tuple [a, _] => a
  | d => d
def snd2 : D → D
  | .tuple [_, b] => b
  | d => d
theorem fst2_pD (p : Pr2) : fst2 (pD p) = kdD p.1 := rfl
theorem snd2_pD (p : Pr2) : snd2 (pD p) = kdD p.2 := rfl
theorem snd2_kd (k : Kd) : snd2 (kdD k) = kD k.2 := rfl
theorem ix_pD0 (p : Pr2) : gIx (pD p) (.int 0) = some (kdD p.1, false) := by unfold pD; simp
theorem ix_pD1 (p : Pr2) : gIx (pD p) (.int 1) = some (kdD p.2, false) := by unfold pD; simp
def basesD (ps : List Pr2) : List D := (ps.map fun p => kD p.1.2) ++ ps.map fun p => kD p.2.2
theorem gIn_bases {ps : List Pr2} {n : Int} (h : Sum.inl n ∈ (ps.map (·.1.2) ++ ps.map (·.2.2))) : gIn true (.int n) (.list (basesD ps)) = some (.bool false, false) := by
  have e : basesD ps = (ps.map (·.1.2) ++ ps.map (·.2.2)).map kD := by
    unfold basesD
    rw [List.map_append, List.map_map, List.map_map]
    rfl
  rw [e]
  generalize ps.map (·.1.2) ++ ps.map (·.2.2) = bs at h
  have h1 : (bs.map kD).all flatD = true := by
    rw [List.all_map, List.all_eq_true]
    intro b _
    cases b <;> rfl
  have h2 : ((bs.map kD).any fun e => PyData.eqv e (.int n)) = true := by
    rw [List.any_map, List.any_eq_true]
    refine ⟨_, h, ?_⟩
    show PyData.eqv (kD (.inl n)) (kD (.inl n)) = true
    rw [eqv_kD]
    simp
  show (if (flatD (.int n) && (bs.map kD).all flatD) = true then some (PyData.bool (if true = true then !((bs.map kD).any fun e => PyData.eqv e (.int n)) else ((bs.map kD).any fun e => PyData.eqv e (.int n))), false) else none) = _
  rw [h1, h2]
  rfl
/-- the cells of the law, in the first half -/
def lc (a0 a1 P a3 F a5 : D) (c6 c7 c8 c9 c10 c11 c12 c13 c14 c15 : Cell) : En := [.dat a0, .dat a1, .dat P, .dat a3, .dat F, .dat a5, c6, c7, c8, c9, c10, c11, c12, c13, c14, c15, .no, .no, .no, .no, .no]
theorem comp2 {a0 a1 a3 F a5 P : D} {c6 c7 c8 c9 c10 c11 c12 c13 c14 c15 : Cell} {ps : List Pr2} (hl : ps.length ≤ 100) : loopC (gx 20) evYes C_law_2 [20] (ps.map pD) [] (lc a0 a1 P a3 F a5 c6 c7 c8 c9 c10 c11 c12 c13 c14 c15) = some (ps.map fun p => kdD p.1, lc a0 a1 P a3 F a5 c6 c7 c8 c9 c10 c11 c12 c13 c14 c15) := by
  rw [loopC_map (v := fst2)]
  · rw [List.map_map]
    rfl
  · intro x hx
    obtain ⟨p, _, rfl⟩ := List.mem_map.mp hx
    unfold lc
    exact ⟨_, false, by simp; rfl, rfl, by simp [C_law_2, ix_pD0, fst2_pD], by simp, by simp⟩
  · rw [List.length_map]
    show 0 + _ ≤ LIM
    unfold LIM
    omega
theorem comp1 {a0 a1 a3 F a5 P : D} {c6 c7 c8 c9 c10 c11 c12 c13 c14 c15 : Cell} {ps : List Pr2} (hl : ps.length ≤ 100) : loopC (gx 20) evYes C_law_1 [20] (ps.map pD) [] (lc a0 a1 P a3 F a5 c6 c7 c8 c9 c10 c11 c12 c13 c14 c15) = some (ps.map fun p => kdD p.2, lc a0 a1 P a3 F a5 c6 c7 c8 c9 c10 c11 c12 c13 c14 c15) := by
  rw [loopC_map (v := snd2)]
  · rw [List.map_map]
    rfl
  · intro x hx
    obtain ⟨p, _, rfl⟩ := List.mem_map.mp hx
    unfold lc
    exact ⟨_, false, by simp; rfl, rfl, by simp [C_law_1, ix_pD1, snd2_pD], by simp, by simp⟩
  · rw [List.length_map]
    show 0 + _ ≤ LIM
    unfold LIM
    omega
theorem comp3 {a0 a1 a3 F a5 P : D} {c6 c7 c8 c9 c10 c11 c12 c13 c14 c15 : Cell} {ks : List Kd} (hl : ks.length ≤ 1000) : loopC (gx 19) evYes C_law_3 [19] (ks.map kdD) [] (lc a0 a1 P a3 F a5 c6 c7 c8 c9 c10 c11 c12 c13 c14 c15) = some (ks.map fun k => kD k.2, lc a0 a1 P a3 F a5 c6 c7 c8 c9 c10 c11 c12 c13 c14 c15) := by
  rw [loopC_map (v := snd2)]
  · rw [List.map_map]
    rfl
  · intro x hx
    obtain ⟨p, _, rfl⟩ := List.mem_map.mp hx
    unfold lc
    exact ⟨_, false, by simp; rfl, rfl, by simp [C_law_3, ix_kd1, snd2_kd], by simp, by simp⟩
  · rw [List.length_map]
    show 0 + _ ≤ LIM
    unfold LIM
    omega
theorem isint_ok (n : Int) : F__law_is_integer [.int n] = some (.bool true, false) := isi_ok (.int n) rfl
theorem keys_step {a0 a1 a3 a5 : D} {c7 c8 c9 c10 c11 c12 c13 c14 c15 : Cell} {ps : List Pr2} (hl : ps.length ≤ 100) {S : Sb} {n : Int} {w : Kd} (hw : lk S n = some w) (hn : Sum.inl n ∈ (ps.map (·.1.2) ++ ps.map (·.2.2))) :
    L_law_4 (lc a0 a1 (.list (ps.map pD)) a3 (.dict (esD S)) a5 (.dat (.int n)) c7 c8 c9 c10 c11 c12 c13 c14 c15) = some (.nx (lc a0 a1 (.list (ps.map pD)) a3 (.dict (esD S)) a5 (.dat (.int n)) c7 c8 c9 c10 c11 c12 c13 c14 c15)) := by
  have hv := val_es S n
  rw [hw] at hv
  have g := gIn_bases hn
  have q1 := comp1 (a0 := a0) (a1 := a1) (a3 := a3) (F := .dict (esD S)) (a5 := a5) (P := .list (ps.map pD)) (c6 := .dat (.int n)) (c7 := c7) (c8 := c8) (c9 := c9) (c10 := c10) (c11 := c11) (c12 := c12) (c13 := c13) (c14 := c14) (c15 := c15) hl
  have q2 := comp2 (a0 := a0) (a1 := a1) (a3 := a3) (F := .dict (esD S)) (a5 := a5) (P := .list (ps.map pD)) (c6 := .dat (.int n)) (c7 := c7) (c8 := c8) (c9 := c9) (c10 := c10) (c11 := c11) (c12 := c12) (c13 := c13) (c14 := c14) (c15 := c15) hl
  have q3 := comp3 (a0 := a0) (a1 := a1) (a3 := a3) (F := .dict (esD S)) (a5 := a5) (P := .list (ps.map pD)) (c6 := .dat (.int n)) (c7 := c7) (c8 := c8) (c9 := c9) (c10 := c10) (c11 := c11) (c12 := c12) (c13 := c13) (c14 := c14) (c15 := c15) (ks := (ps.map fun p => p.1) ++ ps.map fun p => p.2) (by simp; omega)
  have ha : gAdd (.list (ps.map fun p => kdD p.1)) (.list (ps.map fun p => kdD p.2)) = some (.list (((ps.map fun p => p.1) ++ ps.map fun p => p.2).map kdD), true) := by
    rw [gAdd_l (by simp; unfold LIM; omega), List.map_append, List.map_map, List.map_map]
    rfl
  have hb : (((ps.map fun p => p.1) ++ ps.map fun p => p.2).map fun k => kD k.2) = basesD ps := by
    unfold basesD
    rw [List.map_append, List.map_map, List.map_map]
    rfl
  rw [hb] at q3
  have hkd : ∀ c : En, kIsiE "tuple" (some (kdD w, false, c)) = some (.bool true, false, c) := fun c => by
    rw [kIsiE_s, kIsi_tuple]
    rfl
  have hlen : gLen (kdD w) = some (.int 2, false) := rfl
  unfold L_law_4 lc at *
  generalize ((ps.map fun p => p.1) ++ ps.map fun p => p.2).map kdD = O1 at *
  generalize basesD ps = O2 at *
  generalize (ps.map fun p => kdD p.1) = O3 at *
  generalize (ps.map fun p => kdD p.2) = O4 at *
  generalize ps.map pD = O5 at *
  generalize esD S = E at *
  simp [isint_ok, hv, hkd, hlen, q1, q2, ha, q3, g]
end My
end
section
set_option Elab.async false
set_option linter.all false
set_option maxRecDepth 100000
set_option maxHeartbeats 2000000
namespace My
open PySem PySem.Spec PyProof.Rows L2 Qp
def bsOf (ps : List Pr2) : List Key := ps.map (·.1.2) ++ ps.map (·.2.2)
theorem bsOf_all {ps : List Pr2} (h : PsOk ps) : Bok (bsOf ps) := bsAll_ok fun b hb => by
  rcases List.mem_append.mp hb with e | e
  · obtain ⟨p, hp, rfl⟩ := List.mem_map.mp e
    exact (h p hp).1
  · obtain ⟨p, hp, rfl⟩ := List.mem_map.mp e
    exact (h p hp).2
theorem bsOf_mem {ps : List Pr2} : ∀ p ∈ ps, p.1.2 ∈ bsOf ps ∧ p.2.2 ∈ bsOf ps := fun p hp => ⟨List.mem_append_left _ (List.mem_map.mpr ⟨p, hp, rfl⟩), List.mem_append_right _ (List.mem_map.mpr ⟨p, hp, rfl⟩)⟩
section
variable {a0 a1 a3 a5 : D} {c6 c7 c8 c9 c10 c11 c12 c13 c14 c15 : Cell} {ps : List Pr2} {S : Sb}
theorem keys_ok (hl : ps.length ≤ 100) (h : Inv (bsOf ps) S) (h6 : kDn (some c6) = true) : ∃ y6, loopF (gx 6) L_law_4 ((esD S).map (·.1)) (lc a0 a1 (.list (ps.map pD)) a3 (.dict (esD S)) a5 c6 c7 c8 c9 c10 c11 c12 c13 c14 c15) = some (.nx (lc a0 a1 (.list (ps.map pD)) a3 (.dict (esD S)) a5 y6 c7 c8 c9 c10 c11 c12 c13 c14 c15)) ∧ kDn (some y6) = true := by
  obtain ⟨c, q, y6, rfl, h6'⟩ := loopF_inv (ft := gx 6) (body := L_law_4) (fun _ c => ∃ y6, c = lc a0 a1 (.list (ps.map pD)) a3 (.dict (esD S)) a5 y6 c7 c8 c9 c10 c11 c12 c13 c14 c15 ∧ kDn (some y6) = true) ((esD S).map (·.1))
    (fun i x c hi ⟨y6, hc, hy⟩ => by
      subst hc
      unfold esD at hi
      rw [List.map_map, List.getElem?_map] at hi
      obtain ⟨p, hp, rfl⟩ := Option.map_eq_some_iff.mp hi
      have hm := List.mem_of_getElem? hp
      obtain ⟨w, hw⟩ : ∃ w, lk S p.1 = some w := by
        cases e : lk S p.1 with
        | none => exact absurd rfl (lk_none e p hm)
        | some w => exact ⟨w, rfl⟩
      refine ⟨lc a0 a1 (.list (ps.map pD)) a3 (.dict (esD S)) a5 (.dat (.int p.1)) c7 c8 c9 c10 c11 c12 c13 c14 c15, _, ?_, keys_step hl hw (h.key p hm), _, rfl, rfl⟩
      unfold lc
      simp [kNo_dn hy])
    (cs := lc a0 a1 (.list (ps.map pD)) a3 (.dict (esD S)) a5 c6 c7 c8 c9 c10 c11 c12 c13 c14 c15) ⟨c6, rfl, h6⟩
  exact ⟨y6, q, h6'⟩
theorem sat_ok (hB : Bok (bsOf ps)) (h : Inv (bsOf ps) S) (hs : ∀ p ∈ ps, R S p.1 = R S p.2) (h7 : kNo (some c7) = true) (h8 : kNo (some c8) = true) {P : D} : ∃ y7 y8, loopF (gxTup (gxCons (gx 7) (gxCons (gx 8) (gxNil))) 2) L_law_5 (ps.map pD) (lc a0 a1 P a3 (.dict (esD S)) a5 c6 c7 c8 c9 c10 c11 c12 c13 c14 c15) = some (.nx (lc a0 a1 P a3 (.dict (esD S)) a5 c6 y7 y8 c9 c10 c11 c12 c13 c14 c15)) ∧ kNo (some y7) = true ∧ kNo (some y8) = true := by
  obtain ⟨c, q, y7, y8, rfl, h7', h8'⟩ := loopF_inv (ft := gxTup (gxCons (gx 7) (gxCons (gx 8) (gxNil))) 2) (body := L_law_5) (fun _ c => ∃ y7 y8, c = lc a0 a1 P a3 (.dict (esD S)) a5 c6 y7 y8 c9 c10 c11 c12 c13 c14 c15 ∧ kNo (some y7) = true ∧ kNo (some y8) = true) (ps.map pD)
    (fun i x c hi ⟨y7, y8, hc, h7, h8⟩ => by
      subst hc
      rw [List.getElem?_map] at hi
      obtain ⟨p, hp, rfl⟩ := Option.map_eq_some_iff.mp hi
      have hm := List.mem_of_getElem? hp
      have r1 := rep_R hB h p.1
      have r2 := rep_R hB h p.2
      rw [← hs p hm] at r2
      have ok := same_kd (hB.ok _ (R_base hB h (k := p.1) (bsOf_mem p hm).1))
      refine ⟨lc a0 a1 P a3 (.dict (esD S)) a5 c6 (.dat (kdD p.1)) (.dat (kdD p.2)) c9 c10 c11 c12 c13 c14 c15, lc a0 a1 P a3 (.dict (esD S)) a5 c6 (.dat (kdD p.1)) (.dat (kdD p.2)) c9 c10 c11 c12 c13 c14 c15, ?_, ?_, _, _, rfl, rfl, rfl⟩
      · unfold lc pD
        simp [h7, h8]
      · unfold lc
        generalize esD S = E at *
        simp [L_law_5, r1, r2, ok])
    (cs := lc a0 a1 P a3 (.dict (esD S)) a5 c6 c7 c8 c9 c10 c11 c12 c13 c14 c15) ⟨c7, c8, rfl, h7, h8⟩
  exact ⟨y7, y8, q, h7', h8'⟩
def entsP (S : Sb) : D → Bool
  | .int n => (lk S n).isSome
  | _ => false
def entsV (S : Sb) : D → D
  | .int n => entD (n, (lk S n).getD (0, .inl 0))
  | d => d
def ents (S : Sb) : List (Int × Kd) := (V8.filter fun n => (lk S n).isSome).map fun n => (n, (lk S n).getD (0, .inl 0))
theorem ents_eq (S : Sb) : ((V8.map PyData.int).filter (entsP S)).map (entsV S) = (ents S).map entD := by
  unfold ents
  rw [List.filter_map, List.map_map, List.map_map]
  rfl
theorem ents_ok {Bs : List Key} (hB : Bok Bs) (h : Inv Bs S) : ∀ p ∈ ents S, kOk p.2.2 := by
  intro p hp
  obtain ⟨n, hn, rfl⟩ := List.mem_map.mp hp
  obtain ⟨_, hn⟩ := List.mem_filter.mp hn
  obtain ⟨w, hw⟩ := Option.isSome_iff_exists.mp hn
  rw [hw]
  obtain ⟨i, hi⟩ := lk_some hw
  exact hB.ok _ (h.val _ (List.mem_of_getElem? hi))
theorem ents_len {Bs : List Key} (hB : Bok Bs) (h : Inv Bs S) : (ents S).length = S.length := by
  unfold ents
  rw [List.length_map]
  have l1 : (S.map (·.1)).length ≤ (V8.filter fun n => (lk S n).isSome).length := nodup_len h.nod fun x hx => by
    obtain ⟨p, hp, rfl⟩ := List.mem_map.mp hx
    refine List.mem_filter.mpr ⟨hB.var _ (h.key p hp), ?_⟩
    cases e : lk S p.1 with
    | none => exact absurd rfl (lk_none e p hp)
    | some w => rfl
  have l2 : (V8.filter fun n => (lk S n).isSome).length ≤ (S.map (·.1)).length := nodup_len (List.Pairwise.filter _ (by decide : V8.Nodup)) fun x hx => by
    obtain ⟨_, hx⟩ := List.mem_filter.mp hx
    obtain ⟨w, hw⟩ := Option.isSome_iff_exists.mp hx
    obtain ⟨i, hi⟩ := lk_some hw
    exact List.mem_map.mpr ⟨_, List.mem_of_getElem? hi, rfl⟩
  rw [List.length_map] at l1 l2
  omega
theorem filt_ok {P : D} (W : TX) (C : EX) (hW : W = W_law_7) (hC : C = C_law_6) : loopC (gx 6) W C [6] (V8.map .int) [] (lc a0 a1 P a3 (.dict (esD S)) a5 .no c7 c8 c9 c10 c11 c12 c13 c14 c15) = some ((ents S).map entD, lc a0 a1 P a3 (.dict (esD S)) a5 .no c7 c8 c9 c10 c11 c12 c13 c14 c15) := by
  subst hW hC
  rw [loopC_filt (P := entsP S) (v := entsV S)]
  · rw [ents_eq]
    rfl
  · intro x hx
    obtain ⟨n, _, rfl⟩ := List.mem_map.mp hx
    have hv := val_es S n
    refine ⟨lc a0 a1 P a3 (.dict (esD S)) a5 (.dat (.int n)) c7 c8 c9 c10 c11 c12 c13 c14 c15, by unfold lc; simp, ?_, by unfold lc; simp, by unfold lc; simp, fun hp => ⟨false, ?_⟩⟩
    · unfold lc
      simp [W_law_7, hv, entsP]
    · obtain ⟨w, hw⟩ := Option.isSome_iff_exists.mp (show (lk S n).isSome = true from hp)
      rw [hw] at hv
      unfold lc
      simp [C_law_6, hv, entsV, hw, entD]
  · show 0 + 8 ≤ LIM
    decide
theorem map_told {P : D} {C : EX} {E : D} {k : Int → Kd} (hx : ∀ n ∈ V8, C (lc a0 a1 P a3 E a5 (.dat (.int n)) c7 c8 c9 c10 c11 c12 c13 c14 c15) = some (kdD (k n), false, lc a0 a1 P a3 E a5 (.dat (.int n)) c7 c8 c9 c10 c11 c12 c13 c14 c15)) :
    loopC (gx 6) evYes C [6] (V8.map .int) [] (lc a0 a1 P a3 E a5 .no c7 c8 c9 c10 c11 c12 c13 c14 c15) = some ((V8.map k).map kdD, lc a0 a1 P a3 E a5 .no c7 c8 c9 c10 c11 c12 c13 c14 c15) := by
  rw [loopC_map (v := fun d => match d with | .int n => kdD (k n) | d => d)]
  · rw [List.map_map, List.map_map]
    rfl
  · intro x hxm
    obtain ⟨n, hn, rfl⟩ := List.mem_map.mp hxm
    exact ⟨lc a0 a1 P a3 E a5 (.dat (.int n)) c7 c8 c9 c10 c11 c12 c13 c14 c15, false, by unfold lc; simp, rfl, hx n hn, by unfold lc; simp, by unfold lc; simp⟩
  · show 0 + 8 ≤ LIM
    decide
end
end My
end
section
set_option Elab.async false
set_option linter.all false
set_option maxRecDepth 100000
set_option maxHeartbeats 2000000
namespace My
open PySem PySem.Spec PyProof.Rows L2 Qp
def l_end : SX := sAsg 16 (evDisp (evPc (evC (.int 2)) (evA gTupD (evCons (evC (.int 1)) (evCons (evC (.int 5)) (evNil)))) (evPc (evC (.int 5)) (evA gTupD (evCons (evC (.int 4)) (evCons (evC (.int 9)) (evNil)))) (evPc (evC (.int 9)) (evA gTupD (evCons (evC (.int 2)) (evCons (evC (.str "num")) (evNil)))) (evPn)))))
def l_mid : SX := sIf (evOrT (evNotT (evT (evA (gN 2 (F__law_same 4)) (evCons (evA (gN 2 (F_replaced)) (evCons (evA gTupD (evCons (evC (.int 3)) (evCons (evC (.int 2)) (evNil)))) (evCons (evVar 16) (evNil)))) (evCons (evA gTupD (evCons (evC (.int 10)) (evCons (evC (.str "num")) (evNil)))) (evNil)))))) (evT (evIxV (gEqD true) 16 (evDisp (evPc (evC (.int 2)) (evA gTupD (evCons (evC (.int 1)) (evCons (evC (.int 5)) (evNil)))) (evPc (evC (.int 5)) (evA gTupD (evCons (evC (.int 4)) (evCons (evC (.int 9)) (evNil)))) (evPc (evC (.int 9)) (evA gTupD (evCons (evC (.int 2)) (evCons (evC (.str "num")) (evNil)))) (evPn)))))))) (sRet (evC (.bool false))) (sNx)
def l_long : SX := sSeq (sAsg 17 (evDnew)) (sSeq (sAsg 18 (ev2 gAdd (evC (.int 8)) (ev2 gMod (evA (gN 2 (F__law_at)) (evCons (evVar 1) (evCons (evC (.int 5)) (evNil)))) (evC (.int 30))))) (sSeq (sFor (ixR1 (evCons (evVar 18) (evNil))) (gx 14) (L_law_13)) (sSeq (sDput 17 (evVar 18) (evA gTupD (evCons (evC (.int 1)) (evCons (evC (.str "text")) (evNil))))) (sSeq (sIf (evNotT (evT (evA (gN 2 (F__law_same 4)) (evCons (evCB (gN 2 (F_replaced)) (evCons (evA gTupD (evCons (evC (.int 2)) (evCons (evC (.int 0)) (evNil)))) (evBor 17 (evNil)))) (evCons (evA gTupD (evCons (ev2 gAdd (evC (.int 3)) (ev2 gFdiv (evVar 18) (evC (.int 2)))) (evCons (evC (.str "text")) (evNil)))) (evNil)))))) (sRet (evC (.bool false))) (sNx)) (sRet (evA (gN 2 (F__law_same 4)) (evCons (evA (gN 2 (F_replaced)) (evCons (evA gTupD (evCons (evC (.int 3)) (evCons (evC (.str "d")) (evNil)))) (evCons (evDnew) (evNil)))) (evCons (evA gTupD (evCons (evC (.int 3)) (evCons (evC (.str "d")) (evNil)))) (evNil)))))))))
theorem atKd {P : List Kd} {i : Nat} {a : Kd} (h : P[i]? = some a) : atD (P.map kdD) (i : Int) = some (kdD a) := by
  obtain ⟨h1, h2⟩ := List.getElem?_eq_some_iff.mp h
  rw [atD_nat (by rw [List.length_map]; exact h1), List.getElem_map, h2]
section
variable {a0 a1 a3 a5 P : D} {c6 c7 c8 c9 c10 : Cell} {S : Sb}
theorem back_var {F : List (D × D)} {O : List D} {E E' : List (D × D)} {y15 : Cell} {i : Nat} {n l : Int} {T : D} (h15 : kNo (some y15) = true) (ea : atD O (i : Int) = some T) (i0 : gIx T (.int 0) = some (.int l, false)) (i1 : gIx T (.int 1) = some (.int n, false))
    (tb : ∀ (c : En) (fr : Bool), kIsiE "int" (some (.int n, fr, c)) = some (.bool true, false, c)) (hv1 : valD F (.inl n) = none) (hv : ∀ d, valD E (.inl n) = some d → d = kdD (0, .inl n)) (hput : fPut (.inl n) (kdD (0, .inl n)) (.dict E) = some (.dict E')) :
    L_law_12 (lc a0 a1 P a3 (.dict F) a5 c6 c7 c8 c9 c10 (.own (.list O)) (.own (.list O)) (.own (.dict E)) (.dat (.int (i : Nat))) y15) = some (.nx (lc a0 a1 P a3 (.dict F) a5 c6 c7 c8 c9 c10 (.own (.list O)) (.own (.list O)) (.own (.dict E')) (.dat (.int (i : Nat))) (.dat (kdD (0, .inl n))))) := by
  have ht2 : gTupD [.int 0, .int n] = some (kdD (0, .inl n), false) := gTup2
  have hne := gNe_kd (a := (0, .inl n)) (b := (0, .inl n)) trivial trivial
  rw [decide_eq_true rfl] at hne
  generalize kdD (0, .inl n) = W at *
  unfold lc
  cases hin : valD E (.inl n) with
  | none => simp [L_law_12, ea, i0, i1, tb, hv1, h15, ht2, hin, hput, -gTup2]
  | some d0 =>
    have := hv d0 hin
    rw [this] at hin
    simp [L_law_12, ea, i0, i1, tb, hv1, h15, ht2, hin, hput, hne, -gTup2]
theorem back_ok {ts : List Kd} (hl : ts.length = 8) (ht : ∀ t ∈ ts, st S t = none ∧ kOk t.2) : ∃ (E : List (D × D)) (y14 y15 : Cell), loopF (gx 14) L_law_12 (rngD 0 8) (lc a0 a1 P a3 (.dict (esD S)) a5 c6 c7 c8 c9 c10 (.own (.list (ts.map kdD))) (.own (.list (ts.map kdD))) (.own (.dict [])) .no .no) =
    some (.nx (lc a0 a1 P a3 (.dict (esD S)) a5 c6 c7 c8 c9 c10 (.own (.list (ts.map kdD))) (.own (.list (ts.map kdD))) (.own (.dict E)) y14 y15)) ∧ kNo (some y14) = true := by
  obtain ⟨c, q, E, y14, y15, rfl, h14, h15, hE, hv⟩ := loopF_inv (ft := gx 14) (body := L_law_12)
    (fun i c => ∃ (E : List (D × D)) (y14 y15 : Cell), c = lc a0 a1 P a3 (.dict (esD S)) a5 c6 c7 c8 c9 c10 (.own (.list (ts.map kdD))) (.own (.list (ts.map kdD))) (.own (.dict E)) y14 y15 ∧ kNo (some y14) = true ∧ kNo (some y15) = true ∧ E.length ≤ i ∧ ∀ n d, valD E (.inl n) = some d → d = kdD (0, .inl n)) (rngD 0 8)
    (fun i x c hi ⟨E, y14, y15, hc, h14, h15, hE, hv⟩ => by
      subst hc
      obtain ⟨hi2, rfl⟩ := rng_item hi
      rw [Int.zero_add]
      have hg : ts[i]? = some ts[i] := List.getElem?_eq_getElem (by omega)
      obtain ⟨hfin, hok⟩ := ht _ (List.getElem_mem (by omega : i < ts.length))
      have ea := atKd hg
      generalize ts[i] = t at ea hfin hok
      have i0 := ix_kd0 t
      have i1 := ix_kd1 t
      have tb := isiE_kD t.2
      have same := same_kd hok
      have gx14 : gx 14 (.int (i : Nat)) (lc a0 a1 P a3 (.dict (esD S)) a5 c6 c7 c8 c9 c10 (.own (.list (ts.map kdD))) (.own (.list (ts.map kdD))) (.own (.dict E)) y14 y15) = some (lc a0 a1 P a3 (.dict (esD S)) a5 c6 c7 c8 c9 c10 (.own (.list (ts.map kdD))) (.own (.list (ts.map kdD))) (.own (.dict E)) (.dat (.int (i : Nat))) y15) := by
        unfold lc
        simp [h14]
      cases hb : t.2 with
      | inr s =>
        rw [hb] at tb i1
        dsimp only at tb
        refine ⟨_, lc a0 a1 P a3 (.dict (esD S)) a5 c6 c7 c8 c9 c10 (.own (.list (ts.map kdD))) (.own (.list (ts.map kdD))) (.own (.dict E)) (.dat (.int (i : Nat))) y15, gx14, ?_, E, _, _, rfl, rfl, h15, by omega, hv⟩
        unfold lc
        clear gx14 hg
        generalize esD S = E0
        generalize ts.map kdD = O at ea ⊢
        generalize kdD t = T at ea i0 i1 same ⊢
        simp [L_law_12, ea, i1, tb, same]
      | inl n =>
        rw [hb] at tb i1
        dsimp only at tb
        have hkn : kD (.inl n) = .int n := rfl
        rw [hkn] at tb i1
        have hv1 := val_es S n
        rw [fin_lk hfin n hb] at hv1
        have hw : PyData.tuple [.int 0, .int n] = kdD (0, .inl n) := rfl
        have hput := fPut_of (es := E) (k := .inl n) (d := kdD (0, .inl n)) (by unfold LIM; omega)
        have hne := gNe_kd (a := (0, .inl n)) (b := (0, .inl n)) trivial trivial
        rw [decide_eq_true rfl] at hne
        refine ⟨_, lc a0 a1 P a3 (.dict (esD S)) a5 c6 c7 c8 c9 c10 (.own (.list (ts.map kdD))) (.own (.list (ts.map kdD))) (.own (.dict (putD E (.inl n) (kdD (0, .inl n))))) (.dat (.int (i : Nat))) (.dat (kdD (0, .inl n))), gx14, ?_, _, _, _, rfl, rfl, rfl, Nat.le_trans putD_le (by omega), fun m d hd => ?_⟩
        · exact back_var h15 ea i0 i1 tb (by rw [hv1]; rfl) (fun d0 hd0 => hv n d0 hd0) hput
        · rw [valD_put] at hd
          split at hd
          · rename_i e
            have e' : m = n := Sum.inl.inj e
            rw [e']
            exact (Option.some.inj hd).symm
          · exact hv m d hd)
    (cs := lc a0 a1 P a3 (.dict (esD S)) a5 c6 c7 c8 c9 c10 (.own (.list (ts.map kdD))) (.own (.list (ts.map kdD))) (.own (.dict [])) .no .no) ⟨[], .no, .no, rfl, rfl, rfl, Nat.le_refl _, fun n d z => by cases z⟩
  exact ⟨E, y14, y15, q, h14⟩
end
end My
end
section
set_option Elab.async false
set_option linter.all false
set_option maxRecDepth 100000
set_option maxHeartbeats 2000000
namespace My
open PySem PySem.Spec PyProof.Rows L2 Qp
/-! a long chain -/
def longS : Nat → Sb
  | 0 => []
  | m + 1 => longS m ++ [((m : Int), ((m : Int) % 2, .inl ((m : Int) + 1)))]
theorem longS_len : ∀ m, (longS m).length = m
  | 0 => rfl
  | m + 1 => by
    show (longS m ++ _).length = _
    rw [List.length_append, longS_len m]
    rfl
theorem longS_lk : ∀ (m : Nat) (k : Int), lk (longS m) k = if 0 ≤ k ∧ k < m then some (k % 2, .inl (k + 1)) else none
  | 0, k => by
    rw [if_neg (by omega)]
    rfl
  | m + 1, k => by
    show lk (longS m ++ _) k = _
    rw [lk_app, longS_lk m k]
    by_cases h : 0 ≤ k ∧ k < m
    · have h' : 0 ≤ k ∧ k < ((m + 1 : Nat) : Int) := by omega
      rw [if_pos h, if_pos h']
    · rw [if_neg h]
      dsimp only
      by_cases e : (m : Int) = k
      · subst e
        rw [if_pos rfl, if_pos (by omega)]
      · rw [if_neg e, if_neg (by omega)]
def longT (m : Nat) : Sb := longS m ++ [((m : Int), (1, .inr "text"))]
theorem longT_lk (m : Nat) (k : Nat) (h : k ≤ m) : lk (longT m) (k : Int) = some (if k < m then ((k : Int) % 2, .inl ((k : Int) + 1)) else (1, .inr "text")) := by
  unfold longT
  rw [lk_app, longS_lk]
  by_cases c : k < m
  · rw [if_pos (by omega), if_pos c]
  · rw [if_neg (by omega), if_neg c]
    dsimp only
    rw [if_pos (by omega)]
theorem long_rep (m : Nat) : ∀ j : Nat, j ≤ m → ∀ k : Nat, k + j = m → rep (longT m) (j + 1) (2 + (k : Int) / 2, .inl (k : Int)) = (3 + (m : Int) / 2, .inr "text")
  | 0, _, k, h => by
    have e : k = m := by omega
    subst e
    have hs : st (longT k) (2 + (k : Int) / 2, .inl (k : Int)) = some (2 + (k : Int) / 2 + 1, .inr "text") := by
      rw [st_inl, longT_lk k k (Nat.le_refl _), if_neg (by omega)]
      rfl
    rw [rep_some hs]
    show ((2 + (k : Int) / 2 + 1 : Int), (Sum.inr "text" : Key)) = _
    rw [show 2 + (k : Int) / 2 + 1 = 3 + (k : Int) / 2 by omega]
  | j + 1, hj, k, h => by
    have hs : st (longT m) (2 + (k : Int) / 2, .inl (k : Int)) = some (2 + ((k + 1 : Nat) : Int) / 2, .inl ((k + 1 : Nat) : Int)) := by
      rw [st_inl, longT_lk m k (by omega), if_pos (by omega)]
      simp only [Option.map_some]
      rw [show 2 + (k : Int) / 2 + (k : Int) % 2 = 2 + ((k + 1 : Nat) : Int) / 2 by omega]
      rfl
    rw [rep_some hs]
    exact long_rep m j (by omega) (k + 1) (by omega)
theorem long_ok {m : Nat} (h : m ≤ 100) : F_replaced [kdD (2, .inl 0), .dict (esD (longT m))] = some (kdD (3 + (m : Int) / 2, .inr "text"), false) := by
  have e := long_rep m m (Nat.le_refl _) 0 (by omega)
  have e' : rep (longT m) (m + 1) (2, .inl 0) = (3 + (m : Int) / 2, .inr "text") := by
    simpa using e
  have := replaced_ok (longT m) (2, .inl 0) (f := m + 1) (by rw [e']; rfl) (by omega)
  rw [this, e']
/-! a chain of three -/
def Sc : Sb := [(2, (1, .inl 5)), (5, (4, .inl 9)), (9, (2, .inr "num"))]
theorem chain_rep : F_replaced [kdD (3, .inl 2), .dict (esD Sc)] = some (kdD (10, .inr "num"), false) := replaced_ok Sc (3, .inl 2) (f := 3) (by rfl) (by decide)
theorem chain_mk : mergeD [] [(.inl 2, .tuple [.int 1, .int 5]), (.inl 5, .tuple [.int 4, .int 9]), (.inl 9, .tuple [.int 2, .str "num"])] = esD Sc := by rfl
theorem chain_eq : gEqD true (.dict (esD Sc)) (.dict (esD Sc)) = some (.bool false, false) := by
  have h : shapedE (esD Sc) = true := by
    unfold shapedE
    rw [List.all_eq_true]
    intro p hp
    obtain ⟨q, hq, rfl⟩ := List.mem_map.mp hp
    refine shaped_kd ?_
    unfold Sc at hq
    simp only [List.mem_cons, List.not_mem_nil, or_false] at hq
    rcases hq with rfl | rfl | rfl
    · trivial
    · trivial
    · exact kOk_lit (by decide +kernel)
  have e : eqD (esD Sc) (esD Sc) = true := by
    have v1 : valD (esD Sc) (.inl 2) = some (kdD (1, .inl 5)) := by rw [val_es]; rfl
    have v2 : valD (esD Sc) (.inl 5) = some (kdD (4, .inl 9)) := by rw [val_es]; rfl
    have v3 : valD (esD Sc) (.inl 9) = some (kdD (2, .inr "num")) := by rw [val_es]; rfl
    have s : esD Sc = [(.int 2, kdD (1, .inl 5)), (.int 5, kdD (4, .inl 9)), (.int 9, kdD (2, .inr "num"))] := rfl
    unfold eqD
    rw [show ((esD Sc).length == (esD Sc).length) = true by simp, Bool.true_and]
    rw [s] at v1 v2 v3 ⊢
    simp [Qp.hitsD, v1, v2, v3, eqv_kd_self]
  show (if (shapedE (esD Sc) && shapedE (esD Sc)) = true then some (PyData.bool (eqD (esD Sc) (esD Sc) != true), false) else none) = _
  rw [h, e]
  rfl
end My
end
section
set_option Elab.async false
set_option linter.all false
set_option maxRecDepth 100000
set_option maxHeartbeats 8000000
namespace My
open PySem PySem.Spec PyProof.Rows L2 Qp
def t_a : SX → SX := fun k => sSeq (sIf (evNotT (evT (evIsiV "dict" 4))) (sRet (evC (.bool false))) (sNx)) (sSeq (sForK 4 (gx 6) (L_law_4)) (sSeq (sFor (ixSeq (evVar 2)) (gxTup (gxCons (gx 7) (gxCons (gx 8) (gxNil))) 2) (L_law_5)) (sSeq (sAsg 9 (evA gLstD (evCons (evC (.int 0)) (evCons (evC (.int 1)) (evCons (evC (.int 2)) (evCons (evC (.int 3)) (evCons (evC (.int 4)) (evCons (evC (.int 5)) (evCons (evC (.int 9)) (evCons (evC (.int 40)) (evNil))))))))))) (sSeq (sAsg 10 (evLc [6] (ixSeq (evVar 9)) (gx 6) (W_law_7) (C_law_6))) (sSeq (sAsg 11 (evLc [6] (ixSeq (evVar 9)) (gx 6) (evYes) (C_law_8))) (sSeq (sIf (evOrT (evT (ev2 gNe (evLc [6] (ixSeq (evVar 9)) (gx 6) (W_law_10) (C_law_9)) (evVar 10))) (evT (ev2 gNe (evV1 gLenD 4) (evV1 gLen 10)))) (sRet (evC (.bool false))) (sNx)) (sSeq (sAsg 12 (evLc [6] (ixSeq (evVar 9)) (gx 6) (evYes) (C_law_11))) (sSeq (sAsg 13 (evDnew)) (sSeq (sFor (ixR1 (evCons (evC (.int 8)) (evNil))) (gx 14) (L_law_12)) (k))))))))))
def t_b : SX := sSeq (sAsg 16 (evDisp (evPc (evC (.int 2)) (evA gTupD (evCons (evC (.int 1)) (evCons (evC (.int 5)) (evNil)))) (evPc (evC (.int 5)) (evA gTupD (evCons (evC (.int 4)) (evCons (evC (.int 9)) (evNil)))) (evPc (evC (.int 9)) (evA gTupD (evCons (evC (.int 2)) (evCons (evC (.str "num")) (evNil)))) (evPn)))))) (sSeq (sIf (evOrT (evNotT (evT (evA (gN 2 (F__law_same 4)) (evCons (evA (gN 2 (F_replaced)) (evCons (evA gTupD (evCons (evC (.int 3)) (evCons (evC (.int 2)) (evNil)))) (evCons (evVar 16) (evNil)))) (evCons (evA gTupD (evCons (evC (.int 10)) (evCons (evC (.str "num")) (evNil)))) (evNil)))))) (evT (evIxV (gEqD true) 16 (evDisp (evPc (evC (.int 2)) (evA gTupD (evCons (evC (.int 1)) (evCons (evC (.int 5)) (evNil)))) (evPc (evC (.int 5)) (evA gTupD (evCons (evC (.int 4)) (evCons (evC (.int 9)) (evNil)))) (evPc (evC (.int 9)) (evA gTupD (evCons (evC (.int 2)) (evCons (evC (.str "num")) (evNil)))) (evPn)))))))) (sRet (evC (.bool false))) (sNx)) (l_long))
theorem b_law_parts : b_law = sSeq (sAsg 1 (evA (gN 1 (F__law_draws)) (evCons (evVar 0) (evNil)))) (sSeq (sAsg 2 (evA (gN 1 (F__law_pairs)) (evCons (evVar 1) (evNil)))) (sSeq (sAsg 3 (evV1 gList 2)) (sSeq (sAsg 4 (evA (gN 1 (F_unify)) (evCons (evVar 3) (evNil)))) (sSeq (sAsg 5 (evA (gN 1 (F__law_solved)) (evCons (evVar 2) (evNil)))) (sSeq (sIf (evOrT (evNotT (evT (evA (gN 2 (F__law_same 4)) (evCons (evVar 3) (evCons (evVar 2) (evNil)))))) (evOrT (evT (ev2 gIsN (evVar 5) (evC .none))) (evT (ev2 gIsN (evVar 4) (evC .none))))) (sRet (evAndV (ev2 gIsN (evVar 4) (evC .none)) (evAndV (ev2 gIsN (evVar 5) (evC .none)) (evIxV gEq 3 (evVar 2))))) (sNx)) (t_a t_b)))))) := rfl

theorem W10 : W_law_10 = W_law_7 := rfl
theorem C9 : C_law_9 = C_law_6 := rfl
theorem names_eq : V8.map PyData.int = [.int 0, .int 1, .int 2, .int 3, .int 4, .int 5, .int 9, .int 40] := rfl
theorem ta_ok {a0 a1 a3 a5 : D} {ps : List Pr2} {S : Sb} (hl : ps.length ≤ 100) (hB : Bok (bsOf ps)) (h : Inv (bsOf ps) S) (hs : ∀ p ∈ ps, R S p.1 = R S p.2) (ha5 : a5 = .dict (esD S)) (k : SX) (hk : ∀ (y6 y7 y8 c9 c10 c11 c12 c13 y14 y15 : Cell), kNo (some y14) = true → ∃ c, k (lc a0 a1 (.list (ps.map pD)) a3 (.dict (esD S)) a5 y6 y7 y8 c9 c10 c11 c12 c13 y14 y15) = some (.rt (.bool true) false c)) :
    ∃ c, t_a k (lc a0 a1 (.list (ps.map pD)) a3 (.dict (esD S)) a5 .no .no .no .no .no .no .no .no .no .no) = some (.rt (.bool true) false c) := by
  subst ha5
  have hB8 : ∀ n ∈ V8, kOk (R S (0, .inl n)).2 := fun n hn => by
    have gen : ∀ (f : Nat) (k : Kd), kOk k.2 → kOk (rep S f k).2 := by
      intro f
      induction f with
      | zero => exact fun _ h => h
      | succ f ih =>
        intro k hk
        cases e : st S k with
        | none => rw [rep_none e]; exact hk
        | some k' =>
          rw [rep_some e]
          obtain ⟨l, b⟩ := k
          cases b with
          | inr s => rw [st_inr] at e; cases e
          | inl m =>
            rw [st_inl] at e
            obtain ⟨v, hl, rfl⟩ := Option.map_eq_some_iff.mp e
            obtain ⟨i, hi⟩ := lk_some hl
            exact ih _ (hB.ok _ (h.val _ (List.mem_of_getElem? hi)))
    exact gen 20 _ trivial
  let kk : Int → Kd := fun n => R S (0, .inl n)
  let ts : List Kd := V8.map kk
  let P : D := .list (ps.map pD)
  let F : D := .dict (esD S)
  let nm : Cell := .dat (.list (V8.map .int))
  let en : D := .list ((ents S).map entD)
  obtain ⟨y6, q7, n6⟩ := keys_ok (a0 := a0) (a1 := a1) (a3 := a3) (a5 := F) (c6 := .no) (c7 := .no) (c8 := .no) (c9 := .no) (c10 := .no) (c11 := .no) (c12 := .no) (c13 := .no) (c14 := .no) (c15 := .no) hl h rfl
  obtain ⟨y7, y8, q8, n7, n8⟩ := sat_ok (a0 := a0) (a1 := a1) (a3 := a3) (a5 := F) (P := P) (c6 := y6) (c7 := .no) (c8 := .no) (c9 := .no) (c10 := .no) (c11 := .no) (c12 := .no) (c13 := .no) (c14 := .no) (c15 := .no) hB h hs rfl rfl
  have f1 := filt_ok (a0 := a0) (a1 := a1) (a3 := a3) (a5 := F) (S := S) (P := P) (c7 := y7) (c8 := y8) (c9 := nm) (c10 := .no) (c11 := .no) (c12 := .no) (c13 := .no) (c14 := .no) (c15 := .no) W_law_7 C_law_6 rfl rfl
  have f2 := filt_ok (a0 := a0) (a1 := a1) (a3 := a3) (a5 := F) (S := S) (P := P) (c7 := y7) (c8 := y8) (c9 := nm) (c10 := .own en) (c11 := .own (.list (ts.map kdD))) (c12 := .no) (c13 := .no) (c14 := .no) (c15 := .no) W_law_10 C_law_9 W10 C9
  have m1 := map_told (a0 := a0) (a1 := a1) (a3 := a3) (a5 := F) (P := P) (E := F) (C := C_law_8) (k := kk) (c7 := y7) (c8 := y8) (c9 := nm) (c10 := .own en) (c11 := .no) (c12 := .no) (c13 := .no) (c14 := .no) (c15 := .no) (fun n _ => by
    have := rep_R hB h (0, .inl n)
    have ht : PyData.tuple [.int 0, .int n] = kdD (0, .inl n) := rfl
    unfold lc
    show C_law_8 [_, _, _, _, .dat (.dict (esD S)), _, _, _, _, _, _, _, _, _, _, _, _, _, _, _, _] = _
    simp [C_law_8, ht, this, kk, F])
  have m2 := map_told (a0 := a0) (a1 := a1) (a3 := a3) (a5 := F) (P := P) (E := F) (C := C_law_11) (k := kk) (c7 := y7) (c8 := y8) (c9 := nm) (c10 := .dat en) (c11 := .own (.list (ts.map kdD))) (c12 := .no) (c13 := .no) (c14 := .no) (c15 := .no) (fun n _ => by
    have := put_R (S := S) (0, .inl n)
    have ht : PyData.tuple [.int 0, .int n] = kdD (0, .inl n) := rfl
    unfold lc
    show C_law_11 [_, _, _, _, _, .dat (.dict (esD S)), _, _, _, _, _, _, _, _, _, _, _, _, _, _, _] = _
    simp [C_law_11, ht, this, kk, F])
  obtain ⟨E, y14, y15, q15, n14⟩ := back_ok (a0 := a0) (a1 := a1) (a3 := a3) (a5 := F) (P := P) (S := S) (c6 := y6) (c7 := y7) (c8 := y8) (c9 := nm) (c10 := .dat en) (ts := ts) rfl (fun t ht => by
    obtain ⟨n, hn, rfl⟩ := List.mem_map.mp ht
    exact ⟨R_fin hB h _, hB8 n hn⟩)
  obtain ⟨c, qk⟩ := hk y6 y7 y8 nm (.dat en) (.own (.list (ts.map kdD))) (.own (.list (ts.map kdD))) (.own (.dict E)) y14 y15 n14
  refine ⟨c, ?_⟩
  have hne := (gEq_list (f := entD) (l := ents S) (fun x hx => ent_lay (ents_ok hB h x hx)) ent_depth ent_eqv).2
  have hlen := ents_len hB h
  have g1 : gLenD (.dict (esD S)) = some (.int (S.length : Nat), false) := by rw [gLenD_d, es_len]
  have g2 : gLen (.list ((ents S).map entD)) = some (.int (S.length : Nat), false) := by rw [gLen_l, List.length_map, hlen]
  have isd : ∀ cs : En, kIsi "dict" cs (some (.dict (esD S))) = some (.bool true, false, cs) := fun cs => by rw [kIsi_dict]; rfl
  have s8 : Qp.small 8 = true := by decide
  have hts : (V8.map kk).map kdD = ts.map kdD := rfl
  rw [hts] at m1 m2
  unfold t_a
  simp only [P, F, nm, en] at *
  rw [names_eq] at f1 f2 m1 m2 q15 qk
  unfold lc at *
  generalize ts.map kdD = T at *
  generalize (ents S).map entD = N at *
  generalize ps.map pD = O at *
  generalize hks : (esD S).map (·.1) = KS at *
  generalize esD S = E0 at *
  have n6' := kNo_dn n6
  simp [isd, hks, q7, q8, gLst_k, f1, f2, m1, m2, hne, g1, g2, q15, qk, kR1_of s8, n6, n6', -gLen_l, -gLenD_d]
end My
end
section
set_option Elab.async false
set_option linter.all false
set_option maxRecDepth 100000
set_option maxHeartbeats 8000000
namespace My
open PySem PySem.Spec PyProof.Rows L2 Qp
section
variable {a0 a1 a2 a3 a4 a5 : D} {y6 y7 y8 c9 c10 c11 c12 c13 y14 y15 c16 c18 : Cell}
theorem long_loop (m : Nat) (hm : m ≤ 100) (h14 : kNo (some y14) = true) : ∃ z14, loopF (gx 14) L_law_13 (rngD 0 m) [.dat a0, .dat a1, .dat a2, .dat a3, .dat a4, .dat a5, y6, y7, y8, c9, c10, c11, c12, c13, y14, y15, c16, .own (.dict []), c18, .no, .no] = some (.nx [.dat a0, .dat a1, .dat a2, .dat a3, .dat a4, .dat a5, y6, y7, y8, c9, c10, c11, c12, c13, z14, y15, c16, .own (.dict (esD (longS m))), c18, .no, .no]) := by
  obtain ⟨c, q, z14, rfl, _⟩ := loopF_inv (ft := gx 14) (body := L_law_13) (fun i c => ∃ z14, c = [.dat a0, .dat a1, .dat a2, .dat a3, .dat a4, .dat a5, y6, y7, y8, c9, c10, c11, c12, c13, z14, y15, c16, .own (.dict (esD (longS i))), c18, .no, .no] ∧ kNo (some z14) = true ∧ i ≤ m) (rngD 0 m)
    (fun i x c hi ⟨z14, hc, hz, _⟩ => by
      subst hc
      obtain ⟨hi2, rfl⟩ := rng_item hi
      rw [Int.zero_add]
      have hn : lk (longS i) (i : Int) = none := by
        rw [longS_lk, if_neg (by omega)]
      have hput := fPut_of (es := esD (longS i)) (k := .inl (i : Int)) (d := kdD ((i : Int) % 2, .inl ((i : Int) + 1))) (by rw [es_len, longS_len]; unfold LIM; omega)
      rw [put_es hn] at hput
      have hs : longS i ++ [((i : Int), ((i : Int) % 2, .inl ((i : Int) + 1)))] = longS (i + 1) := rfl
      rw [hs] at hput
      have ht : PyData.tuple [.int ((i : Int) % 2), .int ((i : Int) + 1)] = kdD ((i : Int) % 2, .inl ((i : Int) + 1)) := rfl
      refine ⟨[.dat a0, .dat a1, .dat a2, .dat a3, .dat a4, .dat a5, y6, y7, y8, c9, c10, c11, c12, c13, .dat (.int (i : Nat)), y15, c16, .own (.dict (esD (longS i))), c18, .no, .no], [.dat a0, .dat a1, .dat a2, .dat a3, .dat a4, .dat a5, y6, y7, y8, c9, c10, c11, c12, c13, .dat (.int (i : Nat)), y15, c16, .own (.dict (esD (longS (i + 1)))), c18, .no, .no], by simp -implicitDefEqProofs [hz], ?_, _, rfl, rfl, by omega⟩
      generalize esD (longS (i + 1)) = E1 at *
      generalize esD (longS i) = E0 at *
      simp -implicitDefEqProofs [L_law_13, gMod_i, ht, hput])
    (cs := [.dat a0, .dat a1, .dat a2, .dat a3, .dat a4, .dat a5, y6, y7, y8, c9, c10, c11, c12, c13, y14, y15, c16, .own (.dict []), c18, .no, .no]) ⟨y14, rfl, h14, Nat.zero_le _⟩
  rw [rngD_len] at q
  exact ⟨z14, q⟩
theorem tb_ok (h : Dr a1) (h14 : kNo (some y14) = true) : ∃ c, t_b (lc a0 a1 a2 a3 a4 a5 y6 y7 y8 c9 c10 c11 c12 c13 y14 y15) = some (.rt (.bool true) false c) := by
  obtain ⟨v, e5, v0, _⟩ := at_ok (i := 5) h (by decide)
  have b1 : 0 ≤ v % 30 := Int.emod_nonneg _ (by decide)
  have b2 : v % 30 < 30 := Int.emod_lt_of_pos _ (by decide)
  obtain ⟨m, hm, hm1⟩ : ∃ m : Nat, 8 + v % 30 = (m : Int) ∧ m ≤ 100 := ⟨(8 + v % 30).toNat, by omega, by omega⟩
  obtain ⟨z14, q⟩ := long_loop (a0 := a0) (a1 := a1) (a2 := a2) (a3 := a3) (a4 := a4) (a5 := a5) (y6 := y6) (y7 := y7) (y8 := y8) (c9 := c9) (c10 := c10) (c11 := c11) (c12 := c12) (c13 := c13) (y14 := y14) (y15 := y15) (c16 := .dat (.dict (esD Sc))) (c18 := .dat (.int (8 + v % 30))) m hm1 h14
  have hsm : Qp.small (8 + v % 30) = true := by unfold Qp.small; simp; omega
  have hn1 : (8 + v % 30).toNat = m := by omega
  have hn : lk (longS m) (8 + v % 30) = none := by
    rw [longS_lk, if_neg (by omega)]
  have hput := fPut_of (es := esD (longS m)) (k := .inl (8 + v % 30)) (d := kdD (1, .inr "text")) (by rw [es_len, longS_len]; unfold LIM; omega)
  rw [put_es hn] at hput
  have hT : longS m ++ [(8 + v % 30, (1, .inr "text"))] = longT m := by rw [hm]; rfl
  rw [hT] at hput
  have lo := long_ok hm1
  rw [← hm] at lo
  have s1 := same_kd (k := (10, .inr "num")) (kOk_lit (by decide +kernel))
  have s2 := same_kd (k := (3 + (8 + v % 30) / 2, .inr "text")) (kOk_lit (by decide +kernel))
  have s3 := same_kd (k := (3, .inr "d")) (kOk_lit (by decide +kernel))
  have rd : F_replaced [kdD (3, .inr "d"), .dict []] = some (kdD (3, .inr "d"), false) := replaced_ok [] (3, .inr "d") (f := 0) rfl (by decide)
  have t1 : PyData.tuple [.int 3, .int 2] = kdD (3, .inl 2) := rfl
  have t2 : PyData.tuple [.int 10, .str "num"] = kdD (10, .inr "num") := rfl
  have t3 : PyData.tuple [.int 1, .str "text"] = kdD (1, .inr "text") := rfl
  have t4 : PyData.tuple [.int 2, .int 0] = kdD (2, .inl 0) := rfl
  have t5 : PyData.tuple [.int (3 + (8 + v % 30) / 2), .str "text"] = kdD (3 + (8 + v % 30) / 2, .inr "text") := rfl
  have t6 : PyData.tuple [.int 3, .str "d"] = kdD (3, .inr "d") := rfl
  have kb := fun c => kCB2_of (c := c) (noMut_kd (3 + (8 + v % 30) / 2, .inr "text"))
  have cr := chain_rep
  have cm := chain_mk
  have ce := chain_eq
  have kd3 : ∀ (c : En), kDi (some ([((.inl 2 : Key), PyData.tuple [.int 1, .int 5]), (.inl 5, .tuple [.int 4, .int 9]), (.inl 9, .tuple [.int 2, .str "num"])], c)) = some (.dict (esD Sc), true, c) := fun c => by
    rw [kDi_of (by simp), cm]
  unfold t_b l_long lc
  generalize esD (longT m) = ET at *
  generalize esD (longS m) = ES at *
  generalize esD Sc = EC at *
  exact ⟨_, by simp -implicitDefEqProofs [kd3, t1, t2, t3, t4, t5, t6, cr, s1, ce, e5, gMod_i, gFdiv_i, kR1_of hsm, hn1, q, hput, lo, kb, s2, rd, s3]; rfl⟩
end
end My
end
section
set_option Elab.async false
set_option linter.all false
set_option maxRecDepth 100000
set_option maxHeartbeats 8000000
namespace My
open PySem PySem.Spec PyProof.Rows L2 Qp
theorem main (ns : List Int) (hl : ns.length ≤ 63) : F_law [.list (ns.map .int)] = some (.bool true, false) := by
  obtain ⟨d, ed, hd⟩ := draws_ok hl
  obtain ⟨ps, ep, hp, hpl⟩ := pairs_ok hd
  have hB := bsOf_all hp
  have eu := unify_ok hB (ps := ps) bsOf_mem
  have es := solved_ok hB (ps := ps) bsOf_mem
  have hsame := same_refl 4 _ (pl_ps hp (by omega))
  have heq := (gEq_list (f := pD) (l := ps) (fun x hx => pD_lay (bs_kOk (hp x hx).1) (bs_kOk (hp x hx).2)) pD_depth pD_eqv).1
  unfold F_law runP
  rw [b_law_parts]
  generalize hTT : t_a t_b = TT
  cases e : sol [] ps with
  | none =>
    rw [e] at eu es
    dsimp only at eu es
    clear hTT
    generalize ps.map pD = O at *
    generalize PyData.list (ns.map PyData.int) = A at *
    simp -implicitDefEqProofs [ed, ep, eu, es, hsame, heq, isNone]
  | some S =>
    rw [e] at eu es
    dsimp only at eu es
    obtain ⟨inv, sat, _⟩ := sol_ok hB ps [] S (inv_nil _) bsOf_mem e
    obtain ⟨c, q⟩ := ta_ok (a0 := .list (ns.map .int)) (a1 := d) (a3 := .list (ps.map pD)) (a5 := .dict (esD S)) (by omega) hB inv sat rfl t_b (fun _ _ _ _ _ _ _ _ _ _ h14 => tb_ok hd h14)
    rw [hTT] at q
    clear hTT
    unfold lc at q
    generalize ps.map pD = O at *
    generalize esD S = E at *
    generalize PyData.list (ns.map PyData.int) = A at *
    simp -implicitDefEqProofs [ed, ep, eu, es, hsame, isNone, q]
end My
end
section
open PySem PySem.W PyProof.Rows
set_option maxHeartbeats 0 in
theorem PySem.Challenge.cw_quillproof_k09_equations_are_solved_holds : PySem.Challenge.rw_quillproof_k09_equations_are_solved.Holds := by
  w_on; o_law; k_head; (case hw => w_witness2)
  k_fill
  refine L2.walk_of (l := PySem.Challenge.rw_quillproof_k09_equations_are_solved) (n := 63) (k := 6) (x := "script") (CX := fun _ => L2.CX0) (sp := fun w => Qp.spP _ 1 My.F_law) rfl (by decide) rfl ⟨rfl, by decide, by decide⟩ (fun w h Y => PySem.W.kIn_of Y) ?F (fun _ _ a ns hl _ hS => Qp.law_sp hS (My.main ns hl)) (fun _ _ _ _ _ h => h)
  case F =>
    intro w mg fa h KX G hmg
    refine' My.all_mk KX G hmg ?a0 ?l0 ?c0 ?k0 ?a1 ?l1 ?c1 ?k1 ?a2 ?l2 ?c2 ?k2 ?a3 ?l3 ?c3 ?k3 ?a4 ?l4 ?c4 ?k4 ?a5 ?l5 ?c5 ?k5 ?a6 ?l6 ?c6 ?k6 ?a7 ?l7 ?c7 ?k7 ?a8 ?l8 ?c8 ?k8 ?a9 ?l9 ?c9 ?k9 ?a10 ?l10 ?c10 ?k10 ?a11 ?l11 ?c11 ?k11 ?a12 ?l12 ?c12 ?k12 ?a13 ?l13 ?c13 ?k13 ?a14 ?l14 ?c14 ?k14 ?z0 ?z1 ?z2 ?z3 ?z4 ?z5 ?z6 ?z7 ?z8 ?z9
    (case a0 => k_is); (case l0 => k_is); (case c0 => k_is); (case k0 => k_is); (case a1 => k_is); (case l1 => k_is); (case c1 => k_is); (case k1 => k_is)
    (case a2 => k_is); (case l2 => k_is); (case c2 => k_is); (case k2 => k_is); (case a3 => k_is); (case l3 => k_is); (case c3 => k_is); (case k3 => k_is)
    (case a4 => k_is); (case l4 => k_is); (case c4 => k_is); (case k4 => k_is); (case a5 => k_is); (case l5 => k_is); (case c5 => k_is); (case k5 => k_is)
    (case a6 => k_is); (case l6 => k_is); (case c6 => k_is); (case k6 => k_is); (case a7 => k_is); (case l7 => k_is); (case c7 => k_is); (case k7 => k_is)
    (case a8 => k_is); (case l8 => k_is); (case c8 => k_is); (case k8 => k_is); (case a9 => k_is); (case l9 => k_is); (case c9 => k_is); (case k9 => k_is)
    (case a10 => k_is); (case l10 => k_is); (case c10 => k_is); (case k10 => k_is); (case a11 => k_is); (case l11 => k_is); (case c11 => k_is); (case k11 => k_is)
    (case a12 => k_is); (case l12 => k_is); (case c12 => k_is); (case k12 => k_is); (case a13 => k_is); (case l13 => k_is); (case c13 => k_is); (case k13 => k_is)
    (case a14 => k_is); (case l14 => k_is); (case c14 => k_is); (case k14 => k_is); (case z0 => k_is); (case z1 => k_is); (case z2 => k_is); (case z3 => k_is)
    (case z4 => k_is); (case z5 => k_is); (case z6 => k_is); (case z7 => k_is); (case z8 => k_is); (case z9 => k_is)
end
