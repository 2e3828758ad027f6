import PyProof.Rows.All
import Wide.All
import OpenK.AllK
import Wide.FinOn
import HandS.ForMost
import HandS.IsInst
import HandS.TupAny
import PySem.Challenge.RW_quillproof_k25_values
import HandS.Dict
import HandS.SetKeys
import HandS.Star
import HandS.More
import HandS.WordsDict
import HandS.AnyAll
import HandS.NoneIn
import HandS.DeepEq
import HandS.DictComp
import HandS.Iter
import HandS.Style
import HandS.Deep
import HandS.Zip
import KE.GoesNew
import KE.GoesMore
import HandS.Wide
import HandS.Text
import HandS.TupMul
import HandS.ReplaceLit
section
set_option Elab.async false
set_option linter.all false
set_option maxRecDepth 100000
set_option maxHeartbeats 2000000
/-! Qa: data, representation, cells, the state relation. -/
namespace Qp
open PySem PySem.Spec PyProof.Rows L2
abbrev D := PyData
abbrev St := L2.St
def kD : Key → D
  | .inl i => .int i
  | .inr s => .str s
theorem Pd.len {α β : Type} {R : α → β → Prop} : ∀ {xs : List α} {ys : List β}, Paired R xs ys → xs.length = ys.length
  | _, _, .nil => rfl
  | _, _, .cons _ t => by simp [Pd.len t]
theorem Pd.get {α β : Type} {R : α → β → Prop} : ∀ {xs : List α} {ys : List β} {i : Nat} {y : β}, Paired R xs ys → ys[i]? = some y → ∃ x, xs[i]? = some x ∧ R x y
  | _, _, _, _, .nil, e => by simp at e
  | _, _, 0, _, .cons r _, e => by simp at e; subst e; exact ⟨_, rfl, r⟩
  | _, _, i + 1, y, .cons _ t, e => by
    obtain ⟨u, h1, h2⟩ := Pd.get (i := i) (y := y) t (by simpa using e)
    exact ⟨u, by simpa using h1, h2⟩
theorem Pd.getL {α β : Type} {R : α → β → Prop} : ∀ {xs : List α} {ys : List β} {i : Nat} {x : α}, Paired R xs ys → xs[i]? = some x → ∃ y, ys[i]? = some y ∧ R x y
  | _, _, _, _, .nil, e => by simp at e
  | _, _, 0, _, .cons r _, e => by simp at e; subst e; exact ⟨_, rfl, r⟩
  | _, _, i + 1, y, .cons _ t, e => by
    obtain ⟨u, h1, h2⟩ := Pd.getL (i := i) (x := y) t (by simpa using e)
    exact ⟨u, by simpa using h1, h2⟩
theorem Pd.append {α β : Type} {R : α → β → Prop} : ∀ {xs xs' : List α} {ys ys' : List β}, Paired R xs ys → Paired R xs' ys' → Paired R (xs ++ xs') (ys ++ ys')
  | _, _, _, _, .nil, s => s
  | _, _, _, _, .cons r t, s => .cons r (Pd.append t s)
theorem Pd.set {α β : Type} {R : α → β → Prop} {x : α} {y : β} (r : R x y) : ∀ {xs : List α} {ys : List β} (i : Nat), Paired R xs ys → Paired R (xs.set i x) (ys.set i y)
  | _, _, _, .nil => .nil
  | _, _, 0, .cons _ t => .cons r t
  | _, _, i + 1, .cons q t => .cons q (Pd.set r i t)
theorem Pd.take {α β : Type} {R : α → β → Prop} : ∀ {xs : List α} {ys : List β} (n : Nat), Paired R xs ys → Paired R (xs.take n) (ys.take n)
  | _, _, 0, _ => .nil
  | _, _, _ + 1, .nil => .nil
  | _, _, n + 1, .cons r t => .cons r (Pd.take n t)
theorem Pd.drop {α β : Type} {R : α → β → Prop} : ∀ {xs : List α} {ys : List β} (n : Nat), Paired R xs ys → Paired R (xs.drop n) (ys.drop n)
  | _, _, 0, r => r
  | _, _, _ + 1, .nil => .nil
  | _, _, n + 1, .cons _ t => Pd.drop n t
theorem Pd.mono {α β : Type} {R S : α → β → Prop} (h : ∀ x y, R x y → S x y) : ∀ {xs : List α} {ys : List β}, Paired R xs ys → Paired S xs ys
  | _, _, .nil => .nil
  | _, _, .cons r t => .cons (h _ _ r) (Pd.mono h t)
theorem Pd.reverse {α β : Type} {R : α → β → Prop} {xs : List α} {ys : List β} (h : Paired R xs ys) : Paired R xs.reverse ys.reverse := by
  induction h with
  | nil => exact .nil
  | cons r t ih => rw [List.reverse_cons, List.reverse_cons]; exact Pd.append ih (.cons r .nil)
theorem Pd.dropLast {α β : Type} {R : α → β → Prop} {xs : List α} {ys : List β} (h : Paired R xs ys) : Paired R xs.dropLast ys.dropLast := by
  rw [List.dropLast_eq_take, List.dropLast_eq_take, Pd.len h]
  exact Pd.take _ h

/-- a value stands for a datum that is not changed any more -/
inductive Rp (K : PySem.W.Frag) (F : Hp) : V → D → Prop
  | non : Rp K F .non .none
  | bl (b : Bool) : Rp K F (.bl b) (.bool b)
  | int (i : Int) : Rp K F (.int i) (.int i)
  | str (x : Str) : Rp K F (.str x) (.str x)
  | lst {a : Addr} {xs : List V} {ds : List D} : SqL K F a xs → Paired (Rp K F) xs ds → Rp K F (.ref a) (.list ds)
  | tup {a : Addr} {xs : List V} {ds : List D} : SqT K F a xs → Paired (Rp K F) xs ds → Rp K F (.ref a) (.tuple ds)
  | dic {a : Addr} {kvs : List (Key × V)} {es : List (D × D)} : Rd F a (.dK kvs) → es.map (·.1) = kvs.map (fun p => kD p.1) → Paired (Rp K F) (kvs.map (·.2)) (es.map (·.2)) → Rp K F (.ref a) (.dict es)
/-- .. an object that is changed by its one owner -/
inductive OwnAt (K : PySem.W.Frag) (F : Hp) : Option HO → D → Prop
  | lst {xs : List V} {ds : List D} : Paired (Rp K F) xs ds → OwnAt K F (some (.lst xs)) (.list ds)
  | dic {kvs : List (Key × V)} {es : List (D × D)} : es.map (·.1) = kvs.map (fun p => kD p.1) → Paired (Rp K F) (kvs.map (·.2)) (es.map (·.2)) → OwnAt K F (some (.dK kvs)) (.dict es)

def Nf (u : HO) : Prop := ∀ o w, u ≠ .frz o w
def Le (F F' : Hp) : Prop := ∀ a u, Nf u → Rd F a u → Rd F' a u
theorem nf_dK {kvs : List (Key × V)} : Nf (.dK kvs) := fun _ _ z => nomatch z
theorem nf_lst {xs : List V} : Nf (.lst xs) := fun _ _ z => nomatch z
theorem nf_tup {xs : List V} : Nf (.tup xs) := fun _ _ z => nomatch z
theorem Le.refl (F : Hp) : Le F F := fun _ _ _ h => h
theorem Le.trans {F G J : Hp} (a : Le F G) (b : Le G J) : Le F J := fun x u n h => b x u n (a x u n h)
theorem Le.sqL {K : PySem.W.Frag} {F F' : Hp} {a : Addr} {xs : List V} (h : Le F F') (q : SqL K F a xs) : SqL K F' a xs := q.imp (h _ _ nf_lst) id
theorem Le.sqT {K : PySem.W.Frag} {F F' : Hp} {a : Addr} {xs : List V} (h : Le F F') (q : SqT K F a xs) : SqT K F' a xs := q.imp (h _ _ nf_tup) id
theorem Rp.mono {K : PySem.W.Frag} {F F' : Hp} (h : Le F F') {v : V} {d : D} (r : Rp K F v d) : Rp K F' v d :=
  Rp.rec (motive_1 := fun v d _ => Rp K F' v d) (motive_2 := fun xs ds _ => Paired (Rp K F') xs ds) .non .bl .int .str
    (fun a _ ih => .lst (h.sqL a) ih) (fun a _ ih => .tup (h.sqT a) ih) (fun a e _ ih => .dic (h _ _ nf_dK a) e ih) .nil (fun _ _ r t => .cons r t) r
theorem Rp.monoA {K : PySem.W.Frag} {F F' : Hp} (h : Le F F') {xs : List V} {ds : List D} (r : Paired (Rp K F) xs ds) : Paired (Rp K F') xs ds := Pd.mono (fun _ _ q => q.mono h) r
theorem OwnAt.mono {K : PySem.W.Frag} {F F' : Hp} (h : Le F F') {o : Option HO} {d : D} (r : OwnAt K F o d) : OwnAt K F' o d := by
  cases r with
  | lst p => exact .lst (Rp.monoA h p)
  | dic e p => exact .dic e (Rp.monoA h p)
theorem OwnAt.some {K : PySem.W.Frag} {F : Hp} {o : Option HO} {d : D} (r : OwnAt K F o d) : o ≠ none := by
  cases r with
  | lst p => exact fun z => nomatch z
  | dic e p => exact fun z => nomatch z
theorem OwnAt.rp {K : PySem.W.Frag} {F F' : Hp} {a : Addr} {o : Option HO} {d : D} (r : OwnAt K F o d) (e : F' a = o) (h : Le F F') : Rp K F' (.ref a) d := by
  cases r with
  | lst p => exact .lst (.inl (.inl e)) (Rp.monoA h p)
  | dic e' p => exact .dic (.inl e) e' (Rp.monoA h p)

/-! ### the heap without what is owned -/
open Classical in
noncomputable def cut (H : Hp) (M : Addr → Prop) : Hp := fun a => if M a then none else H a
theorem cut_of {H : Hp} {M : Addr → Prop} {a : Addr} (h : ¬ M a) : cut H M a = H a := if_neg h
theorem cut_in {H : Hp} {M : Addr → Prop} {a : Addr} (h : M a) : cut H M a = none := if_pos h
theorem cut_some {H : Hp} {M : Addr → Prop} {a : Addr} {o : HO} (h : cut H M a = some o) : H a = some o ∧ ¬ M a := by
  by_cases m : M a
  · rw [cut_in m] at h; cases h
  · rw [cut_of m] at h; exact ⟨h, m⟩
theorem le_cut {H H' : Hp} {M M' : Addr → Prop} (h : ∀ a o, H a = some o → ¬ M a → H' a = some o ∧ ¬ M' a) : Le (cut H M) (cut H' M') := by
  intro a u nf r
  rcases r with r | ⟨o, r⟩
  · obtain ⟨h1, h2⟩ := cut_some r
    obtain ⟨h3, h4⟩ := h a _ h1 h2
    exact .inl ((cut_of h4).trans h3)
  · obtain ⟨h1, h2⟩ := cut_some r
    obtain ⟨h3, h4⟩ := h a _ h1 h2
    exact .inr ⟨o, (cut_of h4).trans h3⟩
theorem cut_le {H : Hp} {M : Addr → Prop} : Le (cut H M) H := by
  intro a u nf r
  rcases r with r | ⟨o, r⟩
  · exact .inl (cut_some r).1
  · exact .inr ⟨o, (cut_some r).1⟩

def Ex (H H' : Hp) : Prop := ∀ a o, H a = some o → H' a = some o
theorem Ex.refl (H : Hp) : Ex H H := fun _ _ h => h
theorem Ex.trans {H H1 H2 : Hp} (a : Ex H H1) (b : Ex H1 H2) : Ex H H2 := fun x o h => b x o (a x o h)
theorem Ex.new {H : Hp} {p : Addr} {o : HO} (h : H p = none) : Ex H (upd H p o) := fun a u e => by
  rw [upd_ne (ne_of_none e h)]
  exact e
theorem Ex.dom {H H' : Hp} (x : Ex H H') {a : Addr} (h : H a ≠ none) : H' a ≠ none := by
  cases e : H a with
  | none => exact absurd e h
  | some o => rw [x a o e]; exact fun z => nomatch z

/-! ### cells -/
inductive Cell where
  | no | dat (d : D) | own (d : D) | io (d : D)
abbrev En := List Cell
def OwnS (σ : St) (cs : En) (i : Nat) (a : Addr) : Prop := σ[i]? = some (some (.ref a)) ∧ ∃ d, cs[i]? = some (.own d) ∨ cs[i]? = some (.io d)
def Md (σ : St) (cs : En) (X : Addr → Prop) : Addr → Prop := fun a => X a ∨ ∃ i, OwnS σ cs i a

structure Ok (K : PySem.W.Frag) (B : Hp) (IO : List (Nat × Addr)) (X : Addr → Prop) (σ : St) (H : Hp) (cs : En) : Prop where
  len : σ.length = cs.length
  dat : ∀ (i : Nat) (d : D), cs[i]? = some (.dat d) → ∃ v, σ[i]? = some (some v) ∧ Rp K (cut H (Md σ cs X)) v d
  own : ∀ (i : Nat) (d : D), (cs[i]? = some (.own d) ∨ cs[i]? = some (.io d)) → ∃ a, σ[i]? = some (some (.ref a)) ∧ OwnAt K (cut H (Md σ cs X)) (H a) d
  inj : ∀ (i j : Nat) (a : Addr), OwnS σ cs i a → OwnS σ cs j a → i = j
  dis : ∀ (i : Nat) (a : Addr), OwnS σ cs i a → ¬ X a
  xin : ∀ a, X a → H a ≠ none
  new : ∀ (i : Nat) (a : Addr) (d : D), σ[i]? = some (some (.ref a)) → cs[i]? = some (.own d) → B a = none
  io : ∀ (i : Nat) (d : D), cs[i]? = some (.io d) → ∃ a, (i, a) ∈ IO ∧ σ[i]? = some (some (.ref a))
  ios : ∀ (i : Nat) (a : Addr), (i, a) ∈ IO → ∃ d, cs[i]? = some (.io d) ∧ σ[i]? = some (some (.ref a))
  base : ∀ a o, (∀ i, (i, a) ∉ IO) → B a = some o → H a = some o
  dom : ∀ a, B a ≠ none → H a ≠ none

structure Post (K : PySem.W.Frag) (B : Hp) (IO : List (Nat × Addr)) (X : Addr → Prop) (σ : St) (H : Hp) (cs : En) (σ' : St) (H' : Hp) (cs' : En) : Prop where
  ok : Ok K B IO X σ' H' cs'
  le : Le (cut H (Md σ cs X)) (cut H' (Md σ' cs' X))
  keep : ∀ a, X a → H' a = H a
  dom : ∀ a, H a ≠ none → H' a ≠ none

section
variable {K : PySem.W.Frag} {B : Hp} {IO : List (Nat × Addr)} {X : Addr → Prop} {σ σ' σ2 : St} {H H' H2 : Hp} {cs cs' cs2 : En}
theorem Ok.md (ok : Ok K B IO X σ H cs) : ∀ a, Md σ cs X a → H a ≠ none := by
  intro a m
  rcases m with m | ⟨i, h1, d, h2⟩
  · exact ok.xin a m
  · obtain ⟨b, h3, h4⟩ := ok.own i d h2
    rw [h1] at h3
    cases h3
    exact h4.some
theorem Post.refl (ok : Ok K B IO X σ H cs) : Post K B IO X σ H cs σ H cs := ⟨ok, Le.refl _, fun _ _ => rfl, fun _ h => h⟩
theorem Post.trans (a : Post K B IO X σ H cs σ' H' cs') (b : Post K B IO X σ' H' cs' σ2 H2 cs2) : Post K B IO X σ H cs σ2 H2 cs2 :=
  ⟨b.ok, a.le.trans b.le, fun x h => (b.keep x h).trans (a.keep x h), fun x h => b.dom x (a.dom x h)⟩
theorem Ok.ext (ok : Ok K B IO X σ H cs) (x : Ex H H') : Post K B IO X σ H cs σ H' cs := by
  have hle : Le (cut H (Md σ cs X)) (cut H' (Md σ cs X)) := le_cut fun a o e m => ⟨x a o e, m⟩
  have same : ∀ a, H a ≠ none → H' a = H a := fun a h => by
    cases e : H a with
    | none => exact absurd e h
    | some o => exact x a o e
  refine ⟨⟨ok.len, fun i d e => ?_, fun i d e => ?_, ok.inj, ok.dis, fun a h => x.dom (ok.xin a h), ok.new, ok.io, ok.ios, fun a o h e => x a o (ok.base a o h e), fun a h => x.dom (ok.dom a h)⟩, hle, fun a h => same a (ok.xin a h), fun a h => x.dom h⟩
  · obtain ⟨v, h1, h2⟩ := ok.dat i d e
    exact ⟨v, h1, h2.mono hle⟩
  · obtain ⟨a, h1, h2⟩ := ok.own i d e
    refine ⟨a, h1, ?_⟩
    rw [same a h2.some]
    exact h2.mono hle
theorem getset {α : Type} {l : List α} {i j : Nat} {x y : α} (h : (l.set i x)[j]? = some y) : (i = j ∧ x = y) ∨ (i ≠ j ∧ l[j]? = some y) := by
  by_cases e : i = j
  · subst e
    rw [List.getElem?_set] at h
    simp only [if_true] at h
    split at h
    · exact .inl ⟨rfl, Option.some.inj h⟩
    · cases h
  · rw [List.getElem?_set_ne e] at h
    exact .inr ⟨e, h⟩
/-- an owned thing is not changed any more -/
theorem Ok.freeze {i : Nat} {d : D} (ok : Ok K B IO X σ H cs) (e : cs[i]? = some (.own d)) : ∃ v, σ[i]? = some (some v) ∧ Post K B IO X σ H cs σ H (cs.set i (.dat d)) ∧ Rp K (cut H (Md σ (cs.set i (.dat d)) X)) v d := by
  obtain ⟨a, h1, h2⟩ := ok.own i d (.inl e)
  have hi : i < cs.length := (List.getElem?_eq_some_iff.mp e).1
  have ha : OwnS σ cs i a := ⟨h1, d, .inl e⟩
  have os : ∀ j b, OwnS σ (cs.set i (.dat d)) j b → OwnS σ cs j b ∧ i ≠ j := by
    intro j b ⟨q1, d', q2⟩
    rcases q2 with q2 | q2
    · rcases getset q2 with ⟨_, z⟩ | ⟨z, z'⟩
      · cases z
      · exact ⟨⟨q1, d', .inl z'⟩, z⟩
    · rcases getset q2 with ⟨_, z⟩ | ⟨z, z'⟩
      · cases z
      · exact ⟨⟨q1, d', .inr z'⟩, z⟩
  have sub : ∀ b, Md σ (cs.set i (.dat d)) X b → Md σ cs X b := fun b m => m.imp id fun ⟨j, q⟩ => ⟨j, (os j b q).1⟩
  have hle : Le (cut H (Md σ cs X)) (cut H (Md σ (cs.set i (.dat d)) X)) := le_cut fun b o q m => ⟨q, fun z => m (sub b z)⟩
  have hna : ¬ Md σ (cs.set i (.dat d)) X a := by
    intro m
    rcases m with m | ⟨j, q⟩
    · exact ok.dis i a ha m
    · exact (os j a q).2 (ok.inj i j a ha (os j a q).1)
  have rp : Rp K (cut H (Md σ (cs.set i (.dat d)) X)) (.ref a) d := h2.rp (cut_of hna) hle
  refine ⟨.ref a, h1, ⟨⟨by rw [List.length_set]; exact ok.len, fun j d' q => ?_, fun j d' q => ?_, fun j k b q r => ok.inj j k b (os j b q).1 (os k b r).1, fun j b q => ok.dis j b (os j b q).1, ok.xin, fun j b d' q r => ?_, fun j d' q => ?_, fun j b q => ?_, ok.base, ok.dom⟩, hle, fun _ _ => rfl, fun _ h => h⟩, rp⟩
  · rcases getset q with ⟨z, z'⟩ | ⟨z, z'⟩
    · subst z
      cases z'
      exact ⟨_, h1, rp⟩
    · obtain ⟨v, r1, r2⟩ := ok.dat j d' z'
      exact ⟨v, r1, r2.mono hle⟩
  · have q' : cs[j]? = some (.own d') ∨ cs[j]? = some (.io d') := by
      rcases q with q | q
      · rcases getset q with ⟨_, z⟩ | ⟨z, z'⟩
        · cases z
        · exact .inl z'
      · rcases getset q with ⟨_, z⟩ | ⟨z, z'⟩
        · cases z
        · exact .inr z'
    obtain ⟨b, r1, r2⟩ := ok.own j d' q'
    exact ⟨b, r1, r2.mono hle⟩
  · rcases getset r with ⟨_, z⟩ | ⟨z, z'⟩
    · cases z
    · exact ok.new j b d' q z'
  · rcases getset q with ⟨_, z⟩ | ⟨z, z'⟩
    · cases z
    · exact ok.io j d' z'
  · obtain ⟨d', r1, r2⟩ := ok.ios j b q
    refine ⟨d', ?_, r2⟩
    rw [List.getElem?_set_ne]
    · exact r1
    · intro z
      subst z
      rw [e] at r1
      cases r1
end

/-- what an operation on values hands on: a new object of which nobody else knows, or a datum -/
def VOk (K : PySem.W.Frag) (H H' : Hp) (M : Addr → Prop) (fr : Bool) (v : V) (d : D) : Prop :=
  if fr = true then ∃ p, v = .ref p ∧ H p = none ∧ OwnAt K (cut H' (fun a => M a ∨ a = p)) (H' p) d else Rp K (cut H' M) v d
theorem VOk.of {K : PySem.W.Frag} {H H' : Hp} {M : Addr → Prop} {v : V} {d : D} (h : Rp K (cut H' M) v d) : VOk K H H' M false v d := h
/-- a new object -/
theorem VOk.new {K : PySem.W.Frag} {H : Hp} {M : Addr → Prop} {p : Addr} {o : HO} {d : D} (hp : H p = none) (hm : ∀ a, M a → H a ≠ none) (h : OwnAt K (cut H M) (some o) d) : VOk K H (upd H p o) M true (.ref p) d := by
  refine ⟨p, rfl, hp, ?_⟩
  rw [upd_same]
  refine h.mono (le_cut fun a u e m => ⟨Ex.new hp a u e, fun z => ?_⟩)
  rcases z with z | z
  · exact m z
  · rw [z, hp] at e; cases e

/-! ### what an expression hands on -/
def XP (X : Addr → Prop) (p : Addr) : Addr → Prop := fun a => X a ∨ a = p
structure PostN (K : PySem.W.Frag) (B : Hp) (IO : List (Nat × Addr)) (X : Addr → Prop) (σ : St) (H : Hp) (cs : En) (p : Addr) (σ' : St) (H' : Hp) (cs' : En) : Prop where
  ok : Ok K B IO (XP X p) σ' H' cs'
  le : Le (cut H (Md σ cs X)) (cut H' (Md σ' cs' (XP X p)))
  keep : ∀ a, X a → H' a = H a
  dom : ∀ a, H a ≠ none → H' a ≠ none
  np : ¬ X p
def Pe (K : PySem.W.Frag) (B : Hp) (IO : List (Nat × Addr)) (X : Addr → Prop) (σ : St) (H : Hp) (cs : En) (σ' : St) (H' : Hp) (cs' : En) (fr : Bool) (v : V) (d : D) : Prop :=
  if fr = true then ∃ p, v = .ref p ∧ H p = none ∧ PostN K B IO X σ H cs p σ' H' cs' ∧ OwnAt K (cut H' (Md σ' cs' (XP X p))) (H' p) d else Post K B IO X σ H cs σ' H' cs' ∧ Rp K (cut H' (Md σ' cs' X)) v d
section
variable {K : PySem.W.Frag} {B : Hp} {IO : List (Nat × Addr)} {X : Addr → Prop} {σ σ' σ2 : St} {H H' H2 : Hp} {cs cs' cs2 : En} {p : Addr} {fr : Bool} {v : V} {d : D}
theorem md_xp {a : Addr} (h : Md σ cs X a) : Md σ cs (XP X p) a := h.imp .inl id
theorem le_xp : Le (cut H (Md σ cs (XP X p))) (cut H (Md σ cs X)) := le_cut fun _ _ e m => ⟨e, fun z => m (md_xp z)⟩
theorem Ok.weakX (ok : Ok K B IO (XP X p) σ H cs) : Ok K B IO X σ H cs :=
  ⟨ok.len, fun i d e => let ⟨v, h1, h2⟩ := ok.dat i d e; ⟨v, h1, h2.mono le_xp⟩, fun i d e => let ⟨v, h1, h2⟩ := ok.own i d e; ⟨v, h1, h2.mono le_xp⟩, ok.inj, fun i a q z => ok.dis i a q (.inl z), fun a z => ok.xin a (.inl z), ok.new, ok.io, ok.ios, ok.base, ok.dom⟩
theorem PostN.post (h : PostN K B IO X σ H cs p σ' H' cs') : Post K B IO X σ H cs σ' H' cs' := ⟨h.ok.weakX, h.le.trans le_xp, h.keep, h.dom⟩
theorem PostN.nmd (h : PostN K B IO X σ H cs p σ' H' cs') : ¬ Md σ' cs' X p := fun m => m.elim h.np fun ⟨i, q⟩ => h.ok.dis i p q (.inr rfl)
theorem Pe.post (h : Pe K B IO X σ H cs σ' H' cs' fr v d) : Post K B IO X σ H cs σ' H' cs' := by
  unfold Pe at h
  cases fr with
  | false => exact h.1
  | true => obtain ⟨p, _, _, q, _⟩ := h; exact q.post
theorem Pe.rp (h : Pe K B IO X σ H cs σ' H' cs' fr v d) : Rp K (cut H' (Md σ' cs' X)) v d := by
  unfold Pe at h
  cases fr with
  | false => exact h.2
  | true =>
    obtain ⟨p, rfl, _, q, o⟩ := h
    exact o.rp (cut_of q.nmd) le_xp
theorem Pe.dat (h : Post K B IO X σ H cs σ' H' cs') (r : Rp K (cut H' (Md σ' cs' X)) v d) : Pe K B IO X σ H cs σ' H' cs' false v d := ⟨h, r⟩
theorem Pe.pre (a : Post K B IO X σ H cs σ' H' cs') (h : Pe K B IO X σ' H' cs' σ2 H2 cs2 fr v d) : Pe K B IO X σ H cs σ2 H2 cs2 fr v d := by
  unfold Pe at h ⊢
  cases fr with
  | false => exact ⟨a.trans h.1, h.2⟩
  | true =>
    obtain ⟨p, e, hp, q, o⟩ := h
    refine ⟨p, e, ?_, ⟨q.ok, a.le.trans q.le, fun x hx => (q.keep x hx).trans (a.keep x hx), fun x hx => q.dom x (a.dom x hx), q.np⟩, o⟩
    cases z : H p with
    | none => rfl
    | some o => exact absurd hp (a.dom p (by rw [z]; exact fun z => nomatch z))
/-- an operation on values, behind all else -/
theorem Pe.of (a : Post K B IO X σ H cs σ' H' cs') (x : Ex H' H2) (h : VOk K H' H2 (Md σ' cs' X) fr v d) : Pe K B IO X σ H cs σ' H2 cs' fr v d := by
  refine Pe.pre a ?_
  unfold VOk at h
  unfold Pe
  cases fr with
  | false => exact ⟨a.ok.ext x, h⟩
  | true =>
    obtain ⟨p, e, hp, o⟩ := h
    have ne : ∀ b, H' b ≠ none → b ≠ p := fun b hb z => hb (by rw [z]; exact hp)
    have eqm : ∀ b, Md σ' cs' (XP X p) b ↔ (Md σ' cs' X b ∨ b = p) := fun b => by
      unfold Md XP
      constructor
      · rintro ((h | h) | h)
        · exact .inl (.inl h)
        · exact .inr h
        · exact .inl (.inr h)
      · rintro ((h | h) | h)
        · exact .inl (.inl h)
        · exact .inr h
        · exact .inl (.inr h)
    have hle : Le (cut H' (Md σ' cs' X)) (cut H2 (Md σ' cs' (XP X p))) := le_cut fun b o q m => ⟨x b o q, fun z => ((eqm b).mp z).elim m (ne b (by rw [q]; exact fun z => nomatch z))⟩
    have same : ∀ b, H' b ≠ none → H2 b = H' b := fun b h => by
      cases e : H' b with
      | none => exact absurd e h
      | some o => exact x b o e
    refine ⟨p, e, hp, ⟨⟨a.ok.len, fun i d q => ?_, fun i d q => ?_, a.ok.inj, fun i b q z => ?_, fun b z => ?_, a.ok.new, a.ok.io, a.ok.ios, fun b o h q => x b o (a.ok.base b o h q), fun b h => x.dom (a.ok.dom b h)⟩, hle, fun b h => same b (a.ok.xin b h), fun b h => x.dom h, fun z => ?_⟩, o.mono (le_cut fun b o q m => ⟨q, fun z => m ((eqm b).mp z)⟩)⟩
    · obtain ⟨u, h1, h2⟩ := a.ok.dat i d q
      exact ⟨u, h1, h2.mono hle⟩
    · obtain ⟨b, h1, h2⟩ := a.ok.own i d q
      refine ⟨b, h1, ?_⟩
      rw [same b h2.some]
      exact h2.mono hle
    · rcases z with z | z
      · exact a.ok.dis i b q z
      · exact ne b (a.ok.md b (.inr ⟨i, q⟩)) z
    · rcases z with z | z
      · exact x.dom (a.ok.xin b z)
      · rw [z]
        exact o.some
    · exact a.ok.xin p z hp
end
end Qp
end
section
set_option Elab.async false
set_option linter.all false
set_option maxRecDepth 100000
set_option maxHeartbeats 2000000
/-! Qb: expressions that are told by functions of the cells. -/
namespace Qp
open PySem PySem.Spec PyProof.Rows L2
abbrev EX := En → Option (D × Bool × En)
abbrev TX := En → Option (Bool × En)
abbrev AX := En → Option (List D × En)
def LIM : Nat := 10000000
theorem lim_ok {n : Nat} (h : n ≤ LIM) : n ≤ sizeLine := Nat.le_trans h (by decide)
theorem lim_lt {n : Nat} (h : n < LIM) : n < sizeLine := Nat.lt_of_lt_of_le h (by decide)

def SE (K : PySem.W.Frag) (t : TE) (f : EX) : Prop := ∀ {B : Hp} {IO : List (Nat × Addr)} {X : Addr → Prop} {σ : St} {H : Hp} {cs : En}, Ok K B IO X σ H cs → ∀ {d : D} {fr : Bool} {cs' : En}, f cs = some (d, fr, cs') →
  ∀ Q : VK, (∀ v H', Pe K B IO X σ H cs σ H' cs' fr v d → Q v H') → t σ H Q
def STt (K : PySem.W.Frag) (t : TT) (f : TX) : Prop := ∀ {B : Hp} {IO : List (Nat × Addr)} {X : Addr → Prop} {σ : St} {H : Hp} {cs : En}, Ok K B IO X σ H cs → ∀ {b : Bool} {cs' : En}, f cs = some (b, cs') →
  ∀ Q : Bool → Hp → Prop, (∀ H', Post K B IO X σ H cs σ H' cs' → Q b H') → t σ H Q
def SA (K : PySem.W.Frag) (t : TA) (f : AX) : Prop := ∀ {B : Hp} {IO : List (Nat × Addr)} {X : Addr → Prop} {σ : St} {H : Hp} {cs : En}, Ok K B IO X σ H cs → ∀ {ds : List D} {cs' : En}, f cs = some (ds, cs') →
  ∀ Q : List V → Hp → Prop, (∀ vs H', Post K B IO X σ H cs σ H' cs' → Paired (Rp K (cut H' (Md σ cs' X))) vs ds → Q vs H') → t σ H Q
/-- two values, one value, a list of values to a value -/
abbrev G2 := D → D → Option (D × Bool)
abbrev G1 := D → Option (D × Bool)
abbrev GA := List D → Option (D × Bool)
def SR2 (K : PySem.W.Frag) (r : R2) (g : G2) : Prop := ∀ {H : Hp} {M : Addr → Prop}, (∀ a, M a → H a ≠ none) → ∀ {x y : V} {d e : D}, Rp K (cut H M) x d → Rp K (cut H M) y e → ∀ {z : D} {fr : Bool}, g d e = some (z, fr) →
  ∀ Q : VK, (∀ v H', Ex H H' → VOk K H H' M fr v z → Q v H') → r x y H Q
def SR1 (K : PySem.W.Frag) (r : V → Hp → VK → Prop) (g : G1) : Prop := ∀ {H : Hp} {M : Addr → Prop}, (∀ a, M a → H a ≠ none) → ∀ {x : V} {d : D}, Rp K (cut H M) x d → ∀ {z : D} {fr : Bool}, g d = some (z, fr) →
  ∀ Q : VK, (∀ v H', Ex H H' → VOk K H H' M fr v z → Q v H') → r x H Q
def SRC (K : PySem.W.Frag) (r : List V → Hp → VK → Prop) (g : GA) : Prop := ∀ {H : Hp} {M : Addr → Prop}, (∀ a, M a → H a ≠ none) → ∀ {xs : List V} {ds : List D}, Paired (Rp K (cut H M)) xs ds → ∀ {z : D} {fr : Bool}, g ds = some (z, fr) →
  ∀ Q : VK, (∀ v H', Ex H H' → VOk K H H' M fr v z → Q v H') → r xs H Q
structure DE (X : Cx) (e : Expr) (t : TE) (f : EX) : Prop where
  pe : PE X e t
  se : SE X.K t f
structure DT (X : Cx) (e : Expr) (t : TT) (f : TX) : Prop where
  pt : PT X e t
  st : STt X.K t f
structure DW (X : Cx) (e : Expr) (t : TT) (f : TX) : Prop where
  pw : PW X e t
  st : STt X.K t f
structure DA (X : Cx) (e : List Expr) (t : TA) (f : AX) : Prop where
  pa : PA X e t
  sa : SA X.K t f

section
variable {K : PySem.W.Frag} {B : Hp} {IO : List (Nat × Addr)} {Z : Addr → Prop} {σ : St} {H H' : Hp} {cs cs' : En} {M : Addr → Prop}
theorem Rp.ext {v : V} {d : D} (r : Rp K (cut H M) v d) (x : Ex H H') : Rp K (cut H' M) v d := r.mono (le_cut fun a o e m => ⟨x a o e, m⟩)
theorem Rp.list (r : Rp K F v (.list ds)) : ∃ a xs, v = .ref a ∧ SqL K F a xs ∧ Paired (Rp K F) xs ds := by
  cases r with
  | lst h p => exact ⟨_, _, rfl, h, p⟩
theorem Rp.tuple (r : Rp K F v (.tuple ds)) : ∃ a xs, v = .ref a ∧ SqT K F a xs ∧ Paired (Rp K F) xs ds := by
  cases r with
  | tup h p => exact ⟨_, _, rfl, h, p⟩
theorem Rp.int_eq (r : Rp K F v (.int i)) : v = .int i := by cases r; rfl
theorem Rp.str_eq (r : Rp K F v (.str i)) : v = .str i := by cases r; rfl
theorem Rp.bool_eq (r : Rp K F v (.bool i)) : v = .bl i := by cases r; rfl
theorem Rp.none_eq (r : Rp K F v .none) : v = .non := by cases r; rfl
end

/-! ### constants and names -/
def evC (d : D) : EX := fun cs => some (d, false, cs)
def evVar (i : Nat) : EX := fun cs => match cs[i]? with
  | some (.dat d) => some (d, false, cs)
  | some (.own d) => some (d, false, cs.set i (.dat d))
  | _ => none
section
variable {X : Cx} {pos : Pos}
theorem se_c {K : PySem.W.Frag} {v : V} {d : D} (h : ∀ F, Rp K F v d) : SE K (tC v) (evC d) := by
  intro B IO Z σ H cs ok d' fr cs' e Q q
  cases e
  exact q v H (.dat (Post.refl ok) (h _))
theorem de_int {i j} : DE X (.Constant (.int i) j pos) (tC (.int i)) (evC (.int i)) := ⟨pe_int, se_c fun _ => .int i⟩
theorem de_str {i j} : DE X (.Constant (.str i) j pos) (tC (.str i)) (evC (.str i)) := ⟨pe_str, se_c fun _ => .str i⟩
theorem de_bl {i j} : DE X (.Constant (.bool i) j pos) (tC (.bl i)) (evC (.bool i)) := ⟨pe_bl, se_c fun _ => .bl i⟩
theorem de_non {j} : DE X (.Constant .none j pos) (tC .non) (evC .none) := ⟨pe_non, se_c fun _ => .non⟩
theorem se_var {K : PySem.W.Frag} {i : Nat} : SE K (tVar i) (evVar i) := by
  intro B IO Z σ H cs ok d fr cs' e Q q
  unfold evVar at e
  split at e
  · rename_i d' h
    cases e
    obtain ⟨v, h1, h2⟩ := ok.dat i _ h
    exact ⟨v, h1, q v H (.dat (Post.refl ok) h2)⟩
  · rename_i d' h
    cases e
    obtain ⟨v, h1, h2, h3⟩ := ok.freeze h
    exact ⟨v, h1, q v H (.dat h2 h3)⟩
  · cases e
theorem dv (i : Nat) {x : Str} (hN : X.N[i]? = some x := by rfl) (hv : Vis X.env.scope x := by first | exact Or.inl rfl | exact Or.inr (Or.inl rfl) | exact Or.inr (Or.inr rfl)) (hd : (x == ("__debug__" : Str)) = false := by decide)
    (hcd : (x == ("__classdict__" : Str)) = false := by decide) : DE X (.Name x pos) (tVar i) (evVar i) := ⟨pe_var hN hv hd hcd, se_var⟩
/-- a constant of the module -/
theorem de_glob {x : Str} {v : V} {u : Value} {d : D} (hg : Gl X x) (hm : X.mg x = some u) (r : RelV v u) (h : ∀ F, Rp X.K F v d) (hd : (x == ("__debug__" : Str)) = false := by decide) : DE X (.Name x pos) (tC v) (evC d) :=
  ⟨pe_glob hg hm r hd, se_c h⟩
end

/-! ### operators -/
def ev2 (g : G2) (fa fb : EX) : EX := fun cs => (fa cs).bind fun r => (fb r.2.2).bind fun s => (g r.1 s.1).bind fun z => some (z.1, z.2, s.2.2)
def ev1 (g : G1) (fa : EX) : EX := fun cs => (fa cs).bind fun r => (g r.1).bind fun z => some (z.1, z.2, r.2.2)
section
variable {X : Cx} {a b : Expr} {ta tb : TE} {fa fb : EX} {pos : Pos} {K : PySem.W.Frag}
theorem se_2 {r : R2} {g : G2} (ha : SE K ta fa) (hb : SE K tb fb) (hr : SR2 K r g) : SE K (tOp r ta tb) (ev2 g fa fb) := by
  intro B IO Z σ H cs ok d fr cs' e Q q
  unfold ev2 at e
  obtain ⟨⟨d1, f1, c1⟩, e1, e⟩ := Option.bind_eq_some_iff.mp e
  obtain ⟨⟨d2, f2, c2⟩, e2, e⟩ := Option.bind_eq_some_iff.mp e
  obtain ⟨⟨z, fz⟩, e3, e⟩ := Option.bind_eq_some_iff.mp e
  cases e
  refine ha ok e1 _ fun x H1 w1 => hb w1.post.ok e2 _ fun y H2 w2 => ?_
  refine hr w2.post.ok.md (w1.rp.mono w2.post.le) w2.rp e3 Q fun v H3 x3 v3 => ?_
  exact q v H3 (.of (w1.post.trans w2.post) x3 v3)
theorem se_1 {r : V → Hp → VK → Prop} {g : G1} (ha : SE K ta fa) (hr : SR1 K r g) : SE K (tUn r ta) (ev1 g fa) := by
  intro B IO Z σ H cs ok d fr cs' e Q q
  unfold ev1 at e
  obtain ⟨⟨d1, f1, c1⟩, e1, e⟩ := Option.bind_eq_some_iff.mp e
  obtain ⟨⟨z, fz⟩, e3, e⟩ := Option.bind_eq_some_iff.mp e
  cases e
  refine ha ok e1 _ fun x H1 w1 => ?_
  refine hr w1.post.ok.md w1.rp e3 Q fun v H3 x3 v3 => ?_
  exact q v H3 (.of w1.post x3 v3)
theorem de_op {op : Operator} {r : R2} {g : G2} (ho : OpR X (binaryOp op) r) (hr : SR2 X.K r g) (ha : DE X a ta fa) (hb : DE X b tb fb) : DE X (.BinOp a op b pos) (tOp r ta tb) (ev2 g fa fb) := ⟨pe_op ho ha.pe hb.pe, se_2 ha.se hb.se hr⟩
theorem de_un {op : UnaryOp} {r : V → Hp → VK → Prop} {g : G1} (ho : UnR X (unaryOp op) r) (hr : SR1 X.K r g) (ha : DE X a ta fa) : DE X (.UnaryOp op a pos) (tUn r ta) (ev1 g fa) := ⟨pe_un ho ha.pe, se_1 ha.se hr⟩
theorem de_cmp {op : CmpOp} {r : R2} {g : G2} (ho : OpR X (compareOp op) r) (hr : SR2 X.K r g) (ha : DE X a ta fa) (hb : DE X b tb fb) (hm : behindInMarks op b = false := by first | exact nomark _ | rfl) : DE X (.Compare a [op] [b] pos) (tOp r ta tb) (ev2 g fa fb) :=
  ⟨pe_cmpR ho ha.pe hb.pe hm, se_2 ha.se hb.se hr⟩
/-- an expression whose value is a truth, as a test -/
def evT (fa : EX) : TX := fun cs => (fa cs).bind fun r => match r.1 with
  | .bool b => some (b, r.2.2)
  | _ => none
theorem st_test {t : TE} {f : EX} (h : SE K t f) : STt K (tTest t) (evT f) := by
  intro B IO Z σ H cs ok b cs' e Q q
  unfold evT at e
  obtain ⟨⟨d1, f1, c1⟩, e1, e⟩ := Option.bind_eq_some_iff.mp e
  simp only at e
  split at e
  · cases e
    refine h ok e1 _ fun x H1 w1 => ?_
    exact ⟨_, w1.rp.bool_eq, q H1 w1.post⟩
  · cases e
theorem dt_cmp {op : CmpOp} {r : R2} {g : G2} (ho : OpR X (compareOp op) r) (hr : SR2 X.K r g) (ha : DE X a ta fa) (hb : DE X b tb fb) (hm : behindInMarks op b = false := by first | exact nomark _ | rfl) : DT X (.Compare a [op] [b] pos) (tTest (tOp r ta tb)) (evT (ev2 g fa fb)) :=
  ⟨pt_cmpR ho ha.pe hb.pe hm, st_test (se_2 ha.se hb.se hr)⟩
theorem dt_val {e : Expr} {t : TE} {f : EX} (h : DE X e t f) (he : ∀ whole, isTrue e X.env whole = (do let v ← whole; standAt e.pos; holding [v] (truthy v)) := by intro _; rfl) : DT X e (tB t) (evT f) := ⟨pt_val h.pe he, st_test h.se⟩

/-! ### and, or, not -/
def evAndT (f g : TX) : TX := fun cs => (f cs).bind fun r => if r.1 = true then g r.2 else some (false, r.2)
def evOrT (f g : TX) : TX := fun cs => (f cs).bind fun r => if r.1 = true then some (true, r.2) else g r.2
def evNotT (f : TX) : TX := fun cs => (f cs).bind fun r => some (!r.1, r.2)
variable {tA tB' : TT} {fA fB : TX} {rest : List Expr}
theorem dw_and1 (ha : DT X a tA fA) : DW X (.BoolOp .And [a] pos) tA fA := ⟨pw_and1 ha.pt, ha.st⟩
theorem dw_or1 (ha : DT X a tA fA) : DW X (.BoolOp .Or [a] pos) tA fA := ⟨pw_or1 ha.pt, ha.st⟩
theorem dw_and (ha : DT X a tA fA) (hb : DW X (.BoolOp .And (b :: rest) pos) tB' fB) : DW X (.BoolOp .And (a :: b :: rest) pos) (tAnd tA tB') (evAndT fA fB) := by
  refine ⟨pw_and ha.pt hb.pw, ?_⟩
  intro B IO Z σ H cs ok k cs' e Q q
  unfold evAndT at e
  obtain ⟨⟨b1, c1⟩, e1, e⟩ := Option.bind_eq_some_iff.mp e
  refine ha.st ok e1 _ fun H1 p1 => ?_
  cases b1 with
  | true => exact iteT (hb.st p1.ok e _ fun H2 p2 => q H2 (p1.trans p2))
  | false =>
    cases e
    exact iteF (q H1 p1)
theorem dw_or (ha : DT X a tA fA) (hb : DW X (.BoolOp .Or (b :: rest) pos) tB' fB) : DW X (.BoolOp .Or (a :: b :: rest) pos) (tOr tA tB') (evOrT fA fB) := by
  refine ⟨pw_or ha.pt hb.pw, ?_⟩
  intro B IO Z σ H cs ok k cs' e Q q
  unfold evOrT at e
  obtain ⟨⟨b1, c1⟩, e1, e⟩ := Option.bind_eq_some_iff.mp e
  refine ha.st ok e1 _ fun H1 p1 => ?_
  cases b1 with
  | false => exact iteF (hb.st p1.ok e _ fun H2 p2 => q H2 (p1.trans p2))
  | true =>
    cases e
    exact iteT (q H1 p1)
theorem DW.dt {e : Expr} (h : DW X e tA fA) : DT X e tA fA := ⟨h.pw.pt, h.st⟩
theorem dt_not (ha : DT X a tA fA) : DT X (.UnaryOp .Not a pos) (tNot tA) (evNotT fA) := by
  refine ⟨pt_not ha.pt, ?_⟩
  intro B IO Z σ H cs ok k cs' e Q q
  unfold evNotT at e
  obtain ⟨⟨b1, c1⟩, e1, e⟩ := Option.bind_eq_some_iff.mp e
  cases e
  exact ha.st ok e1 _ fun H1 p1 => q H1 p1
/-- as values: the left ones are truths -/
def evAndV (f g : EX) : EX := fun cs => (f cs).bind fun r => match r.1 with
  | .bool true => g r.2.2
  | .bool false => some (.bool false, false, r.2.2)
  | _ => none
def evOrV (f g : EX) : EX := fun cs => (f cs).bind fun r => match r.1 with
  | .bool true => some (.bool true, false, r.2.2)
  | .bool false => g r.2.2
  | _ => none
def evNotV (f : EX) : EX := fun cs => (f cs).bind fun r => match r.1 with
  | .bool b => some (.bool (!b), false, r.2.2)
  | _ => none
theorem de_one {op} (h : DE X a ta fa) : DE X (.BoolOp op [a] pos) ta fa := ⟨pe_one h.pe, h.se⟩
theorem de_and (ha : DE X a ta fa) (hb : DE X (.BoolOp .And (b :: rest) pos) tb fb) : DE X (.BoolOp .And (a :: b :: rest) pos) (tAndV ta tb) (evAndV fa fb) := by
  refine ⟨pe_and ha.pe hb.pe, ?_⟩
  intro B IO Z σ H cs ok d fr cs' e Q q
  unfold evAndV at e
  obtain ⟨⟨d1, f1, c1⟩, e1, e⟩ := Option.bind_eq_some_iff.mp e
  refine ha.se ok e1 _ fun x H1 w1 => ?_
  simp only at e
  split at e
  · exact ⟨true, w1.rp.bool_eq, iteT (hb.se w1.post.ok e _ fun v H2 w2 => q v H2 (w2.pre w1.post))⟩
  · cases e
    exact ⟨false, w1.rp.bool_eq, iteF (q _ H1 (.dat w1.post (.bl false)))⟩
  · cases e
theorem de_or (ha : DE X a ta fa) (hb : DE X (.BoolOp .Or (b :: rest) pos) tb fb) : DE X (.BoolOp .Or (a :: b :: rest) pos) (tOrV ta tb) (evOrV fa fb) := by
  refine ⟨pe_or ha.pe hb.pe, ?_⟩
  intro B IO Z σ H cs ok d fr cs' e Q q
  unfold evOrV at e
  obtain ⟨⟨d1, f1, c1⟩, e1, e⟩ := Option.bind_eq_some_iff.mp e
  refine ha.se ok e1 _ fun x H1 w1 => ?_
  simp only at e
  split at e
  · cases e
    exact ⟨true, w1.rp.bool_eq, iteT (q _ H1 (.dat w1.post (.bl true)))⟩
  · exact ⟨false, w1.rp.bool_eq, iteF (hb.se w1.post.ok e _ fun v H2 w2 => q v H2 (w2.pre w1.post))⟩
  · cases e
theorem de_not (ha : DE X a ta fa) : DE X (.UnaryOp .Not a pos) (tNotV ta) (evNotV fa) := by
  refine ⟨pe_not ha.pe, ?_⟩
  intro B IO Z σ H cs ok d fr cs' e Q q
  unfold evNotV at e
  obtain ⟨⟨d1, f1, c1⟩, e1, e⟩ := Option.bind_eq_some_iff.mp e
  refine ha.se ok e1 _ fun x H1 w1 => ?_
  simp only at e
  split at e
  · cases e
    exact ⟨_, w1.rp.bool_eq, q _ H1 (.dat w1.post (.bl _))⟩
  · cases e
/-- a if t else b -/
def evIf (t : TX) (f g : EX) : EX := fun cs => (t cs).bind fun r => if r.1 = true then f r.2 else g r.2
theorem de_if {c : Expr} (hc : DT X c tA fA) (ha : DE X a ta fa) (hb : DE X b tb fb) : DE X (.IfExp c a b pos) (tIf tA ta tb) (evIf fA fa fb) := by
  refine ⟨pe_ifExp hc.pt ha.pe hb.pe, ?_⟩
  intro B IO Z σ H cs ok d fr cs' e Q q
  unfold evIf at e
  obtain ⟨⟨b1, c1⟩, e1, e⟩ := Option.bind_eq_some_iff.mp e
  refine hc.st ok e1 _ fun H1 p1 => ?_
  cases b1 with
  | true => exact iteT (ha.se p1.ok e _ fun v H2 w2 => q v H2 (w2.pre p1))
  | false => exact iteF (hb.se p1.ok e _ fun v H2 w2 => q v H2 (w2.pre p1))

/-! ### lists of arguments, displays, calls of built-ins -/
def evNil : AX := fun cs => some ([], cs)
def evCons (f : EX) (g : AX) : AX := fun cs => (f cs).bind fun r => (g r.2.2).bind fun s => some (r.1 :: s.1, s.2)
variable {e : Expr} {te : TE} {fe : EX} {es : List Expr} {ts : TA} {fs : AX}
theorem da_nil : DA X [] tNil evNil := by
  refine ⟨pa_nil, ?_⟩
  intro B IO Z σ H cs ok ds cs' e Q q
  cases e
  exact q [] H (Post.refl ok) .nil
theorem da_cons (h : DE X e te fe) (hr : DA X es ts fs) (hs : starEach (e :: es) X.env = (false, eval e X.env) :: starEach es X.env := by rfl) : DA X (e :: es) (tCons te ts) (evCons fe fs) := by
  refine ⟨pa_cons h.pe hr.pa hs, ?_⟩
  intro B IO Z σ H cs ok ds cs' e Q q
  unfold evCons at e
  obtain ⟨⟨d1, f1, c1⟩, e1, e⟩ := Option.bind_eq_some_iff.mp e
  obtain ⟨⟨d2, c2⟩, e2, e⟩ := Option.bind_eq_some_iff.mp e
  cases e
  refine h.se ok e1 _ fun x H1 w1 => hr.sa w1.post.ok e2 _ fun xs H2 p2 v2 => q _ H2 (w1.post.trans p2) (.cons (w1.rp.mono p2.le) v2)
def evA (g : GA) (fs : AX) : EX := fun cs => (fs cs).bind fun r => (g r.1).bind fun z => some (z.1, z.2, r.2)
theorem se_A {r : List V → Hp → VK → Prop} {g : GA} (ha : SA K ts fs) (hr : SRC K r g) : SE K (fun σ H Q => ts σ H fun vs H1 => r vs H1 Q) (evA g fs) := by
  intro B IO Z σ H cs ok d fr cs' e Q q
  unfold evA at e
  obtain ⟨⟨d1, c1⟩, e1, e⟩ := Option.bind_eq_some_iff.mp e
  obtain ⟨⟨z, fz⟩, e3, e⟩ := Option.bind_eq_some_iff.mp e
  cases e
  refine ha ok e1 _ fun x H1 p1 v1 => ?_
  refine hr p1.ok.md v1 e3 Q fun v H3 x3 v3 => ?_
  exact q v H3 (.of p1 x3 v3)
def gTupD : GA := fun ds => if ds.length ≤ LIM then some (.tuple ds, false) else none
def gLstD : GA := fun ds => if ds.length ≤ LIM then some (.list ds, true) else none
theorem sqt_new {K : PySem.W.Frag} {H : Hp} {M : Addr → Prop} {p : Addr} {xs : List V} {ds : List D} (hp : H p = none) (hm : ∀ a, M a → H a ≠ none) (h : Paired (Rp K (cut H M)) xs ds) : Rp K (cut (upd H p (.tup xs)) M) (.ref p) (.tuple ds) := by
  have np : ¬ M p := fun z => hm p z hp
  refine .tup (.inl (.inl ?_)) (Rp.monoA (le_cut fun a o e m => ⟨Ex.new hp a o e, m⟩) h)
  rw [cut_of np]
  exact upd_same
theorem sc_tup : SRC K (fun xs H1 Q => xs.length ≤ sizeLine ∧ ∀ p, H1 p = none → Q (.ref p) (upd H1 p (.tup xs))) gTupD := by
  intro H M hm xs ds r z fr e Q q
  unfold gTupD at e
  split at e
  · rename_i hl
    cases e
    refine ⟨by rw [Pd.len r]; exact lim_ok hl, fun p hp => ?_⟩
    exact q _ _ (Ex.new hp) (VOk.of (sqt_new hp hm r))
  · cases e
theorem sc_lst : SRC K (fun xs H1 Q => xs.length ≤ sizeLine ∧ ∀ p, H1 p = none → Q (.ref p) (upd H1 p (.lst xs))) gLstD := by
  intro H M hm xs ds r z fr e Q q
  unfold gLstD at e
  split at e
  · rename_i hl
    cases e
    refine ⟨by rw [Pd.len r]; exact lim_ok hl, fun p hp => ?_⟩
    exact q _ _ (Ex.new hp) (VOk.new hp hm (.lst r))
  · cases e
theorem de_tup {x1} (h : DA X es ts fs) : DE X (.Tuple es x1 pos) (tTup ts) (evA gTupD fs) := ⟨pe_tup h.pa, se_A h.sa sc_tup⟩
theorem de_lst (h : DA X es ts fs) : DE X (.List es pos) (tLst ts) (evA gLstD fs) := ⟨pe_lst h.pa, se_A h.sa sc_lst⟩
end
end Qp
end
section
set_option Elab.async false
set_option linter.all false
set_option maxRecDepth 100000
set_option maxHeartbeats 2000000
/-! Qc: operators and built-ins on data. -/
namespace Qp
open PySem PySem.Spec PyProof.Rows L2
section
variable {K : PySem.W.Frag} {H H' : Hp} {M : Addr → Prop} {F : Hp}

/-- a thing that may be read just now: its parts are data -/
inductive Vw (K : PySem.W.Frag) (H : Hp) (M : Addr → Prop) : V → D → Prop
  | sc {v : V} {d : D} : Rp K (cut H M) v d → (∀ ds, d ≠ .list ds) → (∀ ds, d ≠ .dict ds) → Vw K H M v d
  | lst {a : Addr} {xs : List V} {ds : List D} : SqL K H a xs → Paired (Rp K (cut H M)) xs ds → Vw K H M (.ref a) (.list ds)
  | dic {a : Addr} {kvs : List (Key × V)} {es : List (D × D)} : Rd H a (.dK kvs) → es.map (·.1) = kvs.map (fun p => kD p.1) → Paired (Rp K (cut H M)) (kvs.map (·.2)) (es.map (·.2)) → Vw K H M (.ref a) (.dict es)
theorem Vw.of_rp {v : V} {d : D} (r : Rp K (cut H M) v d) : Vw K H M v d := by
  cases r with
  | lst h p => exact .lst (cut_le.sqL h) p
  | tup h p => exact .sc (.tup h p) (fun _ z => nomatch z) (fun _ z => nomatch z)
  | dic h e p => exact .dic (cut_le _ _ nf_dK h) e p
  | non => exact .sc .non (fun _ z => nomatch z) (fun _ z => nomatch z)
  | bl b => exact .sc (.bl b) (fun _ z => nomatch z) (fun _ z => nomatch z)
  | int i => exact .sc (.int i) (fun _ z => nomatch z) (fun _ z => nomatch z)
  | str x => exact .sc (.str x) (fun _ z => nomatch z) (fun _ z => nomatch z)
theorem Vw.of_own {a : Addr} {d : D} (r : OwnAt K (cut H M) (H a) d) : Vw K H M (.ref a) d := by
  generalize e : H a = o at r
  cases r with
  | lst p => exact .lst (.inl (.inl e)) p
  | dic e' p => exact .dic (.inl e) e' p
theorem Vw.rpH {v : V} {d : D} (h : Vw K H M v d) : Rp K H v d := by
  cases h with
  | sc r _ _ => exact r.mono cut_le
  | lst h p => exact .lst h (Rp.monoA cut_le p)
  | dic h e p => exact .dic h e (Rp.monoA cut_le p)
theorem Vw.list {v : V} {ds : List D} (h : Vw K H M v (.list ds)) : ∃ a xs, v = .ref a ∧ SqL K H a xs ∧ Paired (Rp K (cut H M)) xs ds := by
  cases h with
  | sc r h _ => exact absurd rfl (h _)
  | lst h p => exact ⟨_, _, rfl, h, p⟩
theorem Vw.rp {v : V} {d : D} (h : Vw K H M v d) (h1 : ∀ ds, d ≠ .list ds) (h2 : ∀ ds, d ≠ .dict ds) : Rp K (cut H M) v d := by
  cases h with
  | sc r _ _ => exact r
  | lst h p => exact absurd rfl (h1 _)
  | dic h e p => exact absurd rfl (h2 _)
theorem Vw.tuple {v : V} {ds : List D} (h : Vw K H M v (.tuple ds)) : ∃ a xs, v = .ref a ∧ SqT K (cut H M) a xs ∧ Paired (Rp K (cut H M)) xs ds := (h.rp (fun _ z => nomatch z) (fun _ z => nomatch z)).tuple
theorem Vw.int_eq {v : V} {i : Int} (h : Vw K H M v (.int i)) : v = .int i := (h.rp (fun _ z => nomatch z) (fun _ z => nomatch z)).int_eq
theorem Vw.str_eq {v : V} {i : Str} (h : Vw K H M v (.str i)) : v = .str i := (h.rp (fun _ z => nomatch z) (fun _ z => nomatch z)).str_eq
end
/-- .. by a container that is looked into -/
def SRw (K : PySem.W.Frag) (r : R2) (g : G2) : Prop := ∀ {H : Hp} {M : Addr → Prop}, (∀ a, M a → H a ≠ none) → ∀ {x y : V} {d e : D}, Vw K H M x d → Rp K (cut H M) y e → ∀ {z : D} {fr : Bool}, g d e = some (z, fr) →
  ∀ Q : VK, (∀ v H', Ex H H' → VOk K H H' M fr v z → Q v H') → r x y H Q
theorem SRw.two {K : PySem.W.Frag} {r : R2} {g : G2} (h : SRw K r g) : SR2 K r g := fun hm _ _ _ _ rx ry _ _ e Q q => h hm (Vw.of_rp rx) ry e Q q
def SRCw (K : PySem.W.Frag) (r : List V → Hp → VK → Prop) (g : G1) : Prop := ∀ {H : Hp} {M : Addr → Prop}, (∀ a, M a → H a ≠ none) → ∀ {x : V} {d : D}, Vw K H M x d → ∀ {z : D} {fr : Bool}, g d = some (z, fr) →
  ∀ Q : VK, (∀ v H', Ex H H' → VOk K H H' M fr v z → Q v H') → r [x] H Q
def gOne (g : G1) : GA
  | [d] => g d
  | _ => none
theorem SRCw.all {K : PySem.W.Frag} {r : List V → Hp → VK → Prop} {g : G1} (h : SRCw K r g) : SRC K r (gOne g) := by
  intro H M hm xs ds p z fr e Q q
  cases p with
  | nil => cases e
  | cons r1 p =>
    cases p with
    | nil => exact h hm (Vw.of_rp r1) e Q q
    | cons _ _ => cases e

/-! ### + - * // % ** -/
section
variable {X : Cx} {K : PySem.W.Frag}
def gII (f : Int → Int → D) : G2
  | .int i, .int j => some (f i j, false)
  | _, _ => none
def gIIc (C : Int → Int → Bool) (f : Int → Int → D) : G2
  | .int i, .int j => if C i j = true then some (f i j, false) else none
  | _, _ => none
def relS1 : D → V → Prop
  | .int i, v => v = .int i
  | .bool b, v => v = .bl b
  | .str b, v => v = .str b
  | _, _ => False
theorem relS1.rp {F : Hp} {d : D} {v : V} (h : relS1 d v) : Rp K F v d := by
  cases d with
  | int i => cases h; exact .int i
  | bool i => cases h; exact .bl i
  | str i => cases h; exact .str i
  | _ => exact h.elim
theorem sr_II {f : Int → Int → D} {g : Int → Int → V} (h : ∀ i j, relS1 (f i j) (g i j)) : SR2 K (rI0 g) (gII f) := by
  intro H M hm x y d e rx ry z fr q Q k
  unfold gII at q
  split at q
  · cases q
    exact ⟨_, _, rx.int_eq, ry.int_eq, k _ H (Ex.refl H) (VOk.of (h _ _).rp)⟩
  · cases q
theorem sr_IIc {C : Int → Int → Bool} {P : Int → Int → Prop} {f : Int → Int → D} {g : Int → Int → V} (hc : ∀ i j, C i j = true → P i j) (h : ∀ i j, relS1 (f i j) (g i j)) : SR2 K (rI P g) (gIIc C f) := by
  intro H M hm x y d e rx ry z fr q Q k
  unfold gIIc at q
  split at q
  · split at q
    · rename_i c
      cases q
      exact ⟨_, _, rx.int_eq, ry.int_eq, hc _ _ c, k _ H (Ex.refl H) (VOk.of (h _ _).rp)⟩
    · cases q
  · cases q
/-- list + list, both readable -/
def rCatR (K : PySem.W.Frag) : R2 := fun x y H Q => ∃ l b xs zs, x = .ref l ∧ y = .ref b ∧ SqL K H l xs ∧ SqL K H b zs ∧ xs.length + zs.length ≤ sizeLine ∧ ∀ p, H p = none → Q (.ref p) (upd H p (.lst (xs ++ zs)))
theorem op_catR : OpR X (binaryOp .Add) (rCatR X.K) := by
  intro pins s σ H x y v u Q I rx ry h
  obtain ⟨l, b, xs, zs, rfl, rfl, hH, hB, hz, q⟩ := h
  cases rx
  cases ry
  obtain ⟨its, r, pl, z⟩ := I.list hH
  obtain ⟨its2, r2, pl2, z2⟩ := I.list hB
  have hl := r.length
  have hl2 := r2.length
  obtain ⟨⟨cls, dd, data, sl⟩, ho, hc, n, hd⟩ := id pl.isList
  obtain ⟨⟨cls2, dd2, data2, sl2⟩, ho2, hc2, n2, hd2⟩ := id pl2.isList
  simp only at hc hd hc2 hd2
  subst hc hd hc2 hd2
  have ea : its.toArray ++ its2.toArray = (its ++ its2).toArray := by simp
  refine concat_meets ⟨_, ho, rfl⟩ ⟨_, ho2, rfl⟩ noFill_list_add seq_list_add PySem.F.slot_list_add PySem.F.entry_list_add (PySem.F.args_list_add_2 _ _) (list_addW l b its.toArray its2.toArray n n2 dd dd2 sl sl2 (by rw [List.size_toArray, List.size_toArray]; omega)) ⟨ho, ho2, ?_⟩
  rw [ea]
  exact ⟨.ref _, _, I.lnew (t' := s.toks) (r.append r2) (by rw [List.length_append]; omega), rfl, q _ I.fresh⟩
def rAddD (K : PySem.W.Frag) : R2 := fun x y H Q => (rI0 (fun i j => .int (i + j)) x y H Q) ∨ ((∃ i j, x = .str i ∧ y = .str j ∧ i.length + j.length ≤ sizeLine ∧ Q (.str (i ++ j)) H) ∨ (rCatR K x y H Q ∨ rCatA K x y H Q))
theorem op_addD : OpR X (binaryOp .Add) (rAddD X.K) := op_add.or (op_add_str.or (op_catR.or op_catA))
def gAdd : G2
  | .int i, .int j => some (.int (i + j), false)
  | .str x, .str y => if x.length + y.length ≤ LIM then some (.str (x ++ y), false) else none
  | .list xs, .list ys => if xs.length + ys.length ≤ LIM then some (.list (xs ++ ys), true) else none
  | .tuple xs, .tuple ys => if xs.length + ys.length ≤ LIM then some (.tuple (xs ++ ys), false) else none
  | _, _ => none
theorem sw_add : SRw K (rAddD K) gAdd := by
  intro H M hm x y d e rx ry z fr q Q k
  unfold gAdd at q
  split at q
  · cases q
    exact .inl ⟨_, _, rx.int_eq, ry.int_eq, k _ H (Ex.refl H) (VOk.of (.int _))⟩
  · split at q
    · rename_i c
      cases q
      exact .inr (.inl ⟨_, _, rx.str_eq, ry.str_eq, lim_ok c, k _ H (Ex.refl H) (VOk.of (.str _))⟩)
    · cases q
  · split at q
    · rename_i c
      cases q
      obtain ⟨a, xs, rfl, h1, p1⟩ := rx.list
      obtain ⟨b, ys, rfl, h2, p2⟩ := ry.list
      refine .inr (.inr (.inl ⟨a, b, xs, ys, rfl, rfl, h1, cut_le.sqL h2, by rw [Pd.len p1, Pd.len p2]; exact lim_ok c, fun p hp => ?_⟩))
      exact k _ _ (Ex.new hp) (VOk.new hp hm (.lst (Pd.append p1 p2)))
    · cases q
  · split at q
    · rename_i c
      cases q
      obtain ⟨a, xs, rfl, h1, p1⟩ := rx.tuple
      obtain ⟨b, ys, rfl, h2, p2⟩ := ry.tuple
      refine .inr (.inr (.inr ⟨a, b, xs, ys, rfl, rfl, cut_le.sqT h1, cut_le.sqT h2, by rw [Pd.len p1, Pd.len p2]; exact lim_ok c, fun ex => ?_, fun nx ey => ?_, fun nx ny p hp => ?_⟩))
      · subst ex
        cases p1
        exact k _ H (Ex.refl H) (VOk.of ry)
      · subst ey
        cases p2
        rw [List.append_nil] at k
        exact k _ H (Ex.refl H) (VOk.of (.tup h1 p1))
      · exact k _ _ (Ex.new hp) (VOk.of (sqt_new hp hm (Pd.append p1 p2)))
    · cases q
  · cases q
end
end Qp
end
section
set_option Elab.async false
set_option linter.all false
set_option maxRecDepth 100000
set_option maxHeartbeats 2000000
/-! Qd: comparisons, lengths, subscripts, slices, types. -/
namespace Qp
open PySem PySem.Spec PyProof.Rows L2
section
variable {X : Cx} {K : PySem.W.Frag} {H H' : Hp} {M : Addr → Prop} {F : Hp}
/-! ### == -/
theorem dp_of {v : V} {d : D} (r : Rp K F v d) (hle : Le F H) : PyData.canLay0 d = true → Dp K H v d :=
  Rp.rec (motive_1 := fun v d _ => PyData.canLay0 d = true → Dp K H v d) (motive_2 := fun xs ds _ => PyData.canLayAll0 ds = true → DpAll K H xs ds)
    (fun _ => .non) (fun b _ => .bl b) (fun i _ => .int i) (fun x _ => .str x)
    (fun a _ ih h => .lst (hle.sqL a) (ih (by simpa [PyData.canLay0] using h))) (fun a _ ih h => .tup (hle.sqT a) (ih (by simpa [PyData.canLay0] using h))) (fun a e _ ih h => by simp [PyData.canLay0] at h)
    (fun _ => .nil) (fun r t ih1 ih2 h => by
      have h' := h
      simp only [PyData.canLayAll0, Bool.and_eq_true] at h'
      exact .cons (ih1 h'.1) (ih2 h'.2)) r
def gEq : G2 := fun d e => if (SeqAt.shaped d && SeqAt.shaped e) = true then some (.bool (PyData.eqv d e), false) else none
def gNe : G2 := fun d e => if (SeqAt.shaped d && SeqAt.shaped e) = true then some (.bool (!PyData.eqv d e), false) else none
theorem sw_eq : SRw K (rEqD K) gEq := by
  intro H M hm x y d e rx ry z fr q Q k
  unfold gEq at q
  split at q
  · rename_i c
    cases q
    rw [Bool.and_eq_true] at c
    exact ⟨d, e, dp_of rx.rpH (Le.refl H) (SeqAt.canLay_of_shaped c.1), dp_of ry cut_le (SeqAt.canLay_of_shaped c.2), c.1, c.2, k _ H (Ex.refl H) (VOk.of (.bl _))⟩
  · cases q
theorem sw_ne : SRw K (rNeD K) gNe := by
  intro H M hm x y d e rx ry z fr q Q k
  unfold gNe at q
  split at q
  · rename_i c
    cases q
    rw [Bool.and_eq_true] at c
    exact ⟨d, e, dp_of rx.rpH (Le.refl H) (SeqAt.canLay_of_shaped c.1), dp_of ry cut_le (SeqAt.canLay_of_shaped c.2), c.1, c.2, k _ H (Ex.refl H) (VOk.of (.bl _))⟩
  · cases q
/-! ### is None -/
def isNone : D → Bool
  | .none => true
  | _ => false
def gIsN : G2
  | d, .none => some (.bool (isNone d), false)
  | _, _ => none
def gNotN : G2
  | d, .none => some (.bool (!isNone d), false)
  | _, _ => none
theorem isnon {v : V} {d : D} (r : Rp K F v d) : decide (v = .non) = isNone d := by
  cases r <;> rfl
theorem sr_isN : SR2 K (fun x y H Q => y = .non ∧ Q (.bl (decide (x = .non))) H) gIsN := by
  intro H M hm x y d e rx ry z fr q Q k
  unfold gIsN at q
  split at q
  · cases q
    refine ⟨ry.none_eq, ?_⟩
    rw [isnon rx]
    exact k _ H (Ex.refl H) (VOk.of (.bl _))
  · cases q
theorem sr_notN : SR2 K (fun x y H Q => y = .non ∧ Q (.bl (!decide (x = .non))) H) gNotN := by
  intro H M hm x y d e rx ry z fr q Q k
  unfold gNotN at q
  split at q
  · cases q
    refine ⟨ry.none_eq, ?_⟩
    rw [isnon rx]
    exact k _ H (Ex.refl H) (VOk.of (.bl _))
  · cases q
/-! ### in a list or tuple of flat data -/
def flatD : D → Bool
  | .none => true
  | .bool _ => true
  | .int _ => true
  | .str _ => true
  | _ => false
theorem flat_of {v : V} {d : D} (r : Rp K F v d) (h : flatD d = true) : flatV v = true := by
  cases r <;> first | rfl | cases h
theorem eq_of {v w : V} {d e : D} (r : Rp K F v d) (s : Rp K F w e) (h : flatD d = true) (h' : flatD e = true) : eqV v w = PyData.eqv d e := by
  cases r <;> cases s <;> simp_all [eqV, PyData.eqv, flatD]
theorem inv_of {v : V} {d : D} (r : Rp K F v d) (h : flatD d = true) : ∀ {xs : List V} {ds : List D}, Paired (Rp K F) xs ds → ds.all flatD = true → xs.all flatV = true ∧ inV v xs = ds.any fun e => PyData.eqv e d
  | _, _, .nil, _ => ⟨rfl, rfl⟩
  | _, _, .cons r1 t, hh => by
    rw [List.all_cons, Bool.and_eq_true] at hh
    obtain ⟨h1, h2⟩ := inv_of r h t hh.2
    refine ⟨by rw [List.all_cons, flat_of r1 hh.1, h1]; rfl, ?_⟩
    unfold inV at h2 ⊢
    rw [List.any_cons, List.any_cons, h2, eq_of r1 r hh.1 h]
def gIn (neg : Bool) : G2
  | d, .list ds => if (flatD d && ds.all flatD) = true then some (.bool (if neg then !(ds.any fun e => PyData.eqv e d) else ds.any fun e => PyData.eqv e d), false) else none
  | d, .tuple ds => if (flatD d && ds.all flatD) = true then some (.bool (if neg then !(ds.any fun e => PyData.eqv e d) else ds.any fun e => PyData.eqv e d), false) else none
  | _, _ => none
/-- the container stands on the right: it may be owned -/
def SRw2 (K : PySem.W.Frag) (r : R2) (g : G2) : Prop := ∀ {H : Hp} {M : Addr → Prop}, (∀ a, M a → H a ≠ none) → ∀ {x y : V} {d e : D}, Rp K (cut H M) x d → Vw K H M y e → ∀ {z : D} {fr : Bool}, g d e = some (z, fr) →
  ∀ Q : VK, (∀ v H', Ex H H' → VOk K H H' M fr v z → Q v H') → r x y H Q
theorem SRw2.two {K : PySem.W.Frag} {r : R2} {g : G2} (h : SRw2 K r g) : SR2 K r g := fun hm _ _ _ _ rx ry _ _ e Q q => h hm rx (Vw.of_rp ry) e Q q
theorem sw_in {neg : Bool} : SRw2 K (rIn K neg) (gIn neg) := by
  intro H M hm x y d e rx ry z fr q Q k
  unfold gIn at q
  split at q
  · split at q
    · rename_i c
      cases q
      rw [Bool.and_eq_true] at c
      obtain ⟨a, xs, rfl, h1, p1⟩ := ry.list
      obtain ⟨i1, i2⟩ := inv_of rx c.1 p1 c.2
      refine ⟨a, xs, rfl, .inl h1, flat_of rx c.1, i1, ?_⟩
      rw [i2]
      exact k _ H (Ex.refl H) (VOk.of (.bl _))
    · cases q
  · split at q
    · rename_i c
      cases q
      rw [Bool.and_eq_true] at c
      obtain ⟨a, xs, rfl, h1, p1⟩ := ry.tuple
      obtain ⟨i1, i2⟩ := inv_of rx c.1 p1 c.2
      refine ⟨a, xs, rfl, .inr (cut_le.sqT h1), flat_of rx c.1, i1, ?_⟩
      rw [i2]
      exact k _ H (Ex.refl H) (VOk.of (.bl _))
    · cases q
  · cases q
/-! ### len -/
def gLen : G1
  | .list ds => some (.int ds.length, false)
  | .tuple ds => some (.int ds.length, false)
  | .str s => if s.length ≤ LIM then some (.int s.length, false) else none
  | _ => none
theorem sw_len : SRCw K (fun xs H Q => ∃ x n, xs = [x] ∧ LenV K x H n ∧ Q (.int n) H) gLen := by
  intro H M hm x d rx z fr q Q k
  unfold gLen at q
  split at q
  · cases q
    obtain ⟨a, xs, rfl, h1, p1⟩ := rx.list
    refine ⟨_, _, rfl, .inl ⟨xs, h1, rfl⟩, ?_⟩
    rw [Pd.len p1]
    exact k _ H (Ex.refl H) (VOk.of (.int _))
  · cases q
    obtain ⟨a, xs, rfl, h1, p1⟩ := rx.tuple
    refine ⟨_, _, rfl, .inr ⟨xs, cut_le.sqT h1, rfl⟩, ?_⟩
    rw [Pd.len p1]
    exact k _ H (Ex.refl H) (VOk.of (.int _))
  · split at q
    · rename_i c
      cases q
      exact ⟨_, _, rfl, by rw [rx.str_eq]; exact ⟨lim_ok c, rfl⟩, k _ H (Ex.refl H) (VOk.of (.int _))⟩
    · cases q
  · cases q
/-! ### int, list, tuple of a thing -/
def gInt : GA
  | [.int i] => some (.int i, false)
  | [.bool b] => some (.int (if b then 1 else 0), false)
  | _ => none
theorem sc_int : SRC K (fun xs H Q => (∃ i, xs = [.int i] ∧ Q (.int i) H) ∨ ∃ k, xs = [.bl k] ∧ Q (.int (if k then 1 else 0)) H) gInt := by
  intro H M hm xs ds p z fr q Q k
  unfold gInt at q
  split at q
  · cases q
    cases p with
    | cons r p =>
      cases p
      exact .inl ⟨_, by rw [r.int_eq], k _ H (Ex.refl H) (VOk.of (.int _))⟩
  · cases q
    cases p with
    | cons r p =>
      cases p
      exact .inr ⟨_, by rw [r.bool_eq], k _ H (Ex.refl H) (VOk.of (.int _))⟩
  · cases q
def gList : G1
  | .list ds => some (.list ds, true)
  | .tuple ds => some (.list ds, true)
  | _ => none
theorem sw_list : SRCw K (fun xs H Q => ∃ p ys, xs = [.ref p] ∧ (SqL K H p ys ∨ SqT K H p ys) ∧ ∀ l, H l = none → Q (.ref l) (upd H l (.lst ys))) gList := by
  intro H M hm x d rx z fr q Q k
  unfold gList at q
  split at q
  · cases q
    obtain ⟨a, xs, rfl, h1, p1⟩ := rx.list
    exact ⟨a, xs, rfl, .inl h1, fun l hl => k _ _ (Ex.new hl) (VOk.new hl hm (.lst p1))⟩
  · cases q
    obtain ⟨a, xs, rfl, h1, p1⟩ := rx.tuple
    exact ⟨a, xs, rfl, .inr (cut_le.sqT h1), fun l hl => k _ _ (Ex.new hl) (VOk.new hl hm (.lst p1))⟩
  · cases q
def gTuple : G1
  | .list ds => some (.tuple ds, false)
  | .tuple ds => some (.tuple ds, false)
  | _ => none
theorem sw_tuple : SRCw K (fun xs H Q => ∃ p ys, xs = [.ref p] ∧ ((SqL K H p ys ∧ ∀ l, H l = none → Q (.ref l) (upd H l (.tup ys))) ∨ (SqT K H p ys ∧ Q (.ref p) H))) gTuple := by
  intro H M hm x d rx z fr q Q k
  unfold gTuple at q
  split at q
  · cases q
    obtain ⟨a, xs, rfl, h1, p1⟩ := rx.list
    exact ⟨a, xs, rfl, .inl ⟨h1, fun l hl => k _ _ (Ex.new hl) (VOk.of (sqt_new hl hm p1))⟩⟩
  · cases q
    obtain ⟨a, xs, rfl, h1, p1⟩ := rx.tuple
    exact ⟨a, xs, rfl, .inr ⟨cut_le.sqT h1, k _ H (Ex.refl H) (VOk.of (.tup h1 p1))⟩⟩
  · cases q
/-! ### max, min of two ints -/
def gMax2 : GA
  | [.int i, .int j] => some (.int (if j > i then j else i), false)
  | _ => none
theorem sc_max2 : SRC K (fun xs H Q => ∃ i j, xs = [.int i, .int j] ∧ Q (.int (if j > i then j else i)) H) gMax2 := by
  intro H M hm xs ds p z fr q Q k
  unfold gMax2 at q
  split at q
  · cases q
    cases p with
    | cons r p =>
      cases p with
      | cons r2 p =>
        cases p
        exact ⟨_, _, by rw [r.int_eq, r2.int_eq], k _ H (Ex.refl H) (VOk.of (.int _))⟩
  · cases q
def gMin2 : GA
  | [.int i, .int j] => some (.int (if j < i then j else i), false)
  | _ => none
theorem sc_min2 : SRC K (fun xs H Q => ∃ i j, xs = [.int i, .int j] ∧ Q (.int (if j < i then j else i)) H) gMin2 := by
  intro H M hm xs ds p z fr q Q k
  unfold gMin2 at q
  split at q
  · cases q
    cases p with
    | cons r p =>
      cases p with
      | cons r2 p =>
        cases p
        exact ⟨_, _, by rw [r.int_eq, r2.int_eq], k _ H (Ex.refl H) (VOk.of (.int _))⟩
  · cases q
/-! ### items -/
def atD (ds : List D) (i : Int) : Option D := (ixN ds.length i).bind fun j => ds[j]?
theorem atD_get {xs : List V} {ds : List D} {i : Int} {d : D} (p : Paired (Rp K F) xs ds) (h : atD ds i = some d) : ∃ v, atI xs i = some v ∧ Rp K F v d := by
  unfold atD at h
  obtain ⟨j, e, h⟩ := Option.bind_eq_some_iff.mp h
  obtain ⟨v, h1, h2⟩ := Pd.get p h
  refine ⟨v, ?_, h2⟩
  unfold atI
  rw [Pd.len p, e]
  exact h1
def gIx : G2
  | .list ds, .int i => (atD ds i).bind fun d => some (d, false)
  | .tuple ds, .int i => (atD ds i).bind fun d => some (d, false)
  | .str s, .int i => if s.length ≤ LIM then (atI s.cps.toList i).bind fun c => some (.str ⟨#[c]⟩, false) else none
  | _, _ => none
theorem sw_ix : SRw K (rIx K) gIx := by
  intro H M hm x y d e rx ry z fr q Q k
  unfold gIx at q
  split at q
  · obtain ⟨d', e1, q⟩ := Option.bind_eq_some_iff.mp q
    cases q
    obtain ⟨a, xs, rfl, h1, p1⟩ := rx.list
    obtain ⟨v, g1, g2⟩ := atD_get p1 e1
    exact .inl ⟨a, xs, _, v, rfl, ry.int_eq, h1, g1, k _ H (Ex.refl H) (VOk.of g2)⟩
  · obtain ⟨d', e1, q⟩ := Option.bind_eq_some_iff.mp q
    cases q
    obtain ⟨a, xs, rfl, h1, p1⟩ := rx.tuple
    obtain ⟨v, g1, g2⟩ := atD_get p1 e1
    exact .inr (.inl ⟨a, xs, _, v, rfl, ry.int_eq, cut_le.sqT h1, g1, k _ H (Ex.refl H) (VOk.of g2)⟩)
  · split at q
    · rename_i c
      obtain ⟨c', e1, q⟩ := Option.bind_eq_some_iff.mp q
      cases q
      exact .inr (.inr ⟨_, _, c', rx.str_eq, ry.int_eq, lim_ok c, e1, k _ H (Ex.refl H) (VOk.of (.str _))⟩)
    · cases q
  · cases q
/-! ### types -/
def tyD : D → String
  | .none => "NoneType"
  | .bool _ => "bool"
  | .int _ => "int"
  | .str _ => "str"
  | .list _ => "list"
  | .tuple _ => "tuple"
  | .dict _ => "dict"
theorem tyx_of {v : V} {d : D} (r : Rp K F v d) (hle : Le F H) : TyX K H v (.type (tyD d)) := by
  cases r with
  | non => exact .base .non
  | bl b => exact .base (.bl b)
  | int i => exact .base (.int i)
  | str x => exact .base (.str x)
  | lst h p =>
    rcases hle.sqL h with (h | ⟨o, h⟩) | ⟨o, its, n, h1, h2, _⟩
    · exact .base (.lst h)
    · exact .base (.frz h)
    · exact .kList h1 h2
  | tup h p =>
    rcases hle.sqT h with (h | ⟨o, h⟩) | ⟨o, its, n, h1, h2, _⟩
    · exact .base (.tup h)
    · exact .fTuple h
    · exact .kTuple h1 h2
  | dic h e p =>
    rcases hle _ _ nf_dK h with h | ⟨o, h⟩
    · exact .base (.dK h)
    · exact .fDict h
end
end Qp
end
section
set_option Elab.async false
set_option linter.all false
set_option maxRecDepth 100000
set_option maxHeartbeats 2000000
/-! Qe: calls of built-ins, containers in a name, slices. -/
namespace Qp
open PySem PySem.Spec PyProof.Rows L2
section
variable {X : Cx} {K : PySem.W.Frag} {e a b : Expr} {es : List Expr} {te ta tb : TE} {ts : TA} {fe fa fb : EX} {fs : AX} {pos fpos cpos : Pos}
theorem de_cB {id : String} {x : Str} {r : List V → Hp → VK → Prop} {g : GA} (hc : CallR X (.builtin id) r) (hr : SRC X.K r g) (hg : Gl X x) (hm : X.mg x = none) (hv : bootBuiltins x = some (.builtin id)) (ha : DA X (e :: es) ts fs)
    (hn : x ≠ "__name__" := by decide) (hdb : (x == ("__debug__" : Str)) = false := by decide) (hs : starEach (e :: es) X.env = (false, eval e X.env) :: starEach es X.env := by rfl) (hpl : (backTo cpos (starEach es X.env)).any (·.1) = false := by rfl) :
    DE X (.Call (.Name x fpos) (e :: es) [] cpos) (tCB r ts) (evA g fs) := ⟨pe_callB hc hg hm hv ha.pa hn hdb hs hpl, se_A ha.sa hr⟩
theorem de_cT {T : String} {x : Str} {r : List V → Hp → VK → Prop} {g : GA} (hc : CallR X (.type T) r) (hr : SRC X.K r g) (hg : Gl X x) (hm : X.mg x = none) (hv : bootBuiltins x = some (.type T)) (ha : DA X (e :: es) ts fs)
    (hn : x ≠ "__name__" := by decide) (hdb : (x == ("__debug__" : Str)) = false := by decide) (hs : starEach (e :: es) X.env = (false, eval e X.env) :: starEach es X.env := by rfl) (hpl : (backTo cpos (starEach es X.env)).any (·.1) = false := by rfl) :
    DE X (.Call (.Name x fpos) (e :: es) [] cpos) (tCB r ts) (evA g fs) := ⟨pe_callTy hc hg hm hv ha.pa hn hdb hs hpl, se_A ha.sa hr⟩
/-! ### a container that stands in a name is looked into -/
def cont (cs : En) (i : Nat) : Option D := match cs[i]? with
  | some (.dat d) => some d
  | some (.own d) => some d
  | some (.io d) => some d
  | _ => none
theorem Ok.view {B : Hp} {IO : List (Nat × Addr)} {Z : Addr → Prop} {σ : St} {H : Hp} {cs : En} (ok : Ok K B IO Z σ H cs) {i : Nat} {d : D} (h : cont cs i = some d) : ∃ v, σ[i]? = some (some v) ∧ Vw K H (Md σ cs Z) v d := by
  unfold cont at h
  split at h
  · rename_i d' h'
    cases h
    obtain ⟨v, h1, h2⟩ := ok.dat i _ h'
    exact ⟨v, h1, Vw.of_rp h2⟩
  · rename_i d' h'
    cases h
    obtain ⟨a, h1, h2⟩ := ok.own i _ (.inl h')
    exact ⟨_, h1, Vw.of_own h2⟩
  · rename_i d' h'
    cases h
    obtain ⟨a, h1, h2⟩ := ok.own i _ (.inr h')
    exact ⟨_, h1, Vw.of_own h2⟩
  · cases h
def evIxV (g : G2) (i : Nat) (fb : EX) : EX := fun cs => (cont cs i).bind fun _ => (fb cs).bind fun s => (cont s.2.2 i).bind fun d => (g d s.1).bind fun z => some (z.1, z.2, s.2.2)
theorem se_ixv {r : R2} {g : G2} {i : Nat} (hr : SRw K r g) (hb : SE K tb fb) : SE K (tOp r (tVar i) tb) (evIxV g i fb) := by
  intro B IO Z σ H cs ok d fr cs' e Q q
  unfold evIxV at e
  obtain ⟨d0, e0, e⟩ := Option.bind_eq_some_iff.mp e
  obtain ⟨⟨d1, f1, c1⟩, e1, e⟩ := Option.bind_eq_some_iff.mp e
  obtain ⟨d2, e2, e⟩ := Option.bind_eq_some_iff.mp e
  obtain ⟨⟨z, fz⟩, e3, e⟩ := Option.bind_eq_some_iff.mp e
  cases e
  obtain ⟨v, hv, _⟩ := ok.view e0
  refine ⟨v, hv, hb ok e1 _ fun y H1 w1 => ?_⟩
  obtain ⟨v', hv', w⟩ := w1.post.ok.view e2
  rw [hv] at hv'
  cases hv'
  refine hr w1.post.ok.md w w1.rp e3 Q fun u H3 x3 v3 => ?_
  exact q u H3 (.of w1.post x3 v3)
def evVIn (g : G2) (fa : EX) (i : Nat) : EX := fun cs => (fa cs).bind fun s => (cont s.2.2 i).bind fun d => (g s.1 d).bind fun z => some (z.1, z.2, s.2.2)
theorem se_inv {r : R2} {g : G2} {i : Nat} (hr : SRw2 K r g) (ha : SE K ta fa) : SE K (tOp r ta (tVar i)) (evVIn g fa i) := by
  intro B IO Z σ H cs ok d fr cs' e Q q
  unfold evVIn at e
  obtain ⟨⟨d1, f1, c1⟩, e1, e⟩ := Option.bind_eq_some_iff.mp e
  obtain ⟨d2, e2, e⟩ := Option.bind_eq_some_iff.mp e
  obtain ⟨⟨z, fz⟩, e3, e⟩ := Option.bind_eq_some_iff.mp e
  cases e
  refine ha ok e1 _ fun y H1 w1 => ?_
  obtain ⟨v', hv', w⟩ := w1.post.ok.view e2
  refine ⟨v', hv', ?_⟩
  refine hr w1.post.ok.md w1.rp w e3 Q fun u H3 x3 v3 => ?_
  exact q u H3 (.of w1.post x3 v3)
def evV1 (g : G1) (i : Nat) : EX := fun cs => (cont cs i).bind fun d => (g d).bind fun z => some (z.1, z.2, cs)
theorem se_v1 {r : List V → Hp → VK → Prop} {g : G1} {i : Nat} (hr : SRCw K r g) : SE K (tCB r (tCons (tVar i) tNil)) (evV1 g i) := by
  intro B IO Z σ H cs ok d fr cs' e Q q
  unfold evV1 at e
  obtain ⟨d2, e2, e⟩ := Option.bind_eq_some_iff.mp e
  obtain ⟨⟨z, fz⟩, e3, e⟩ := Option.bind_eq_some_iff.mp e
  cases e
  obtain ⟨v, hv, w⟩ := ok.view e2
  refine ⟨v, hv, ?_⟩
  exact hr ok.md w e3 Q fun u H3 x3 v3 => q u H3 (.of (Post.refl ok) x3 v3)
variable {x : Str} {xpos : Pos} {i : Nat}
theorem de_opV {op : Operator} {r : R2} {g : G2} (ho : OpR X (binaryOp op) r) (hr : SRw X.K r g) (ha : DE X (.Name x xpos) (tVar i) (evVar i)) (hb : DE X b tb fb) : DE X (.BinOp (.Name x xpos) op b pos) (tOp r (tVar i) tb) (evIxV g i fb) := ⟨pe_op ho ha.pe hb.pe, se_ixv hr hb.se⟩
theorem de_cmpV {op : CmpOp} {r : R2} {g : G2} (ho : OpR X (compareOp op) r) (hr : SRw X.K r g) (ha : DE X (.Name x xpos) (tVar i) (evVar i)) (hb : DE X b tb fb) (hm : behindInMarks op b = false := by first | exact nomark _ | rfl) : DE X (.Compare (.Name x xpos) [op] [b] pos) (tOp r (tVar i) tb) (evIxV g i fb) :=
  ⟨pe_cmpR ho ha.pe hb.pe hm, se_ixv hr hb.se⟩
theorem dt_cmpV {op : CmpOp} {r : R2} {g : G2} (ho : OpR X (compareOp op) r) (hr : SRw X.K r g) (ha : DE X (.Name x xpos) (tVar i) (evVar i)) (hb : DE X b tb fb) (hm : behindInMarks op b = false := by first | exact nomark _ | rfl) : DT X (.Compare (.Name x xpos) [op] [b] pos) (tTest (tOp r (tVar i) tb)) (evT (evIxV g i fb)) :=
  ⟨pt_cmpR ho ha.pe hb.pe hm, st_test (se_ixv hr hb.se)⟩
theorem de_inV {op : CmpOp} {r : R2} {g : G2} (ho : OpR X (compareOp op) r) (hr : SRw2 X.K r g) (ha : DE X a ta fa) (hb : DE X (.Name x xpos) (tVar i) (evVar i)) (hm : behindInMarks op (.Name x xpos) = false := by first | exact nomark _ | rfl) : DE X (.Compare a [op] [.Name x xpos] pos) (tOp r ta (tVar i)) (evVIn g fa i) :=
  ⟨pe_cmpR ho ha.pe hb.pe hm, se_inv hr ha.se⟩
theorem dt_inV {op : CmpOp} {r : R2} {g : G2} (ho : OpR X (compareOp op) r) (hr : SRw2 X.K r g) (ha : DE X a ta fa) (hb : DE X (.Name x xpos) (tVar i) (evVar i)) (hm : behindInMarks op (.Name x xpos) = false := by first | exact nomark _ | rfl) : DT X (.Compare a [op] [.Name x xpos] pos) (tTest (tOp r ta (tVar i))) (evT (evVIn g fa i)) :=
  ⟨pt_cmpR ho ha.pe hb.pe hm, st_test (se_inv hr ha.se)⟩
theorem de_ix (ha : DE X a ta fa) (hb : DE X b tb fb) (hs : PlainIx b := by exact fun _ _ => rfl) : DE X (.Subscript a b pos) (tOp (rIx X.K) ta tb) (ev2 gIx fa fb) := ⟨pe_ix ix_seq ha.pe hb.pe hs, se_2 ha.se hb.se sw_ix.two⟩
theorem de_ixV (ha : DE X (.Name x xpos) (tVar i) (evVar i)) (hb : DE X b tb fb) (hs : PlainIx b := by exact fun _ _ => rfl) : DE X (.Subscript (.Name x xpos) b pos) (tOp (rIx X.K) (tVar i) tb) (evIxV gIx i fb) := ⟨pe_ix ix_seq ha.pe hb.pe hs, se_ixv sw_ix hb.se⟩
theorem de_cBV {id : String} {f : Str} {r : List V → Hp → VK → Prop} {g : G1} (hc : CallR X (.builtin id) r) (hr : SRCw X.K r g) (hg : Gl X f) (hm : X.mg f = none) (hv : bootBuiltins f = some (.builtin id)) (ha : DE X (.Name x xpos) (tVar i) (evVar i))
    (hn : f ≠ "__name__" := by decide) (hdb : (f == ("__debug__" : Str)) = false := by decide) :
    DE X (.Call (.Name f fpos) [.Name x xpos] [] cpos) (tCB r (tCons (tVar i) tNil)) (evV1 g i) := ⟨pe_callB hc hg hm hv (pa_cons ha.pe pa_nil) hn hdb, se_v1 hr⟩
theorem de_cTV {T : String} {f : Str} {r : List V → Hp → VK → Prop} {g : G1} (hc : CallR X (.type T) r) (hr : SRCw X.K r g) (hg : Gl X f) (hm : X.mg f = none) (hv : bootBuiltins f = some (.type T)) (ha : DE X (.Name x xpos) (tVar i) (evVar i))
    (hn : f ≠ "__name__" := by decide) (hdb : (f == ("__debug__" : Str)) = false := by decide) :
    DE X (.Call (.Name f fpos) [.Name x xpos] [] cpos) (tCB r (tCons (tVar i) tNil)) (evV1 g i) := ⟨pe_callTy hc hg hm hv (pa_cons ha.pe pa_nil) hn hdb, se_v1 hr⟩

/-! ### slices -/
def cutL {α : Type} (xs : List α) (lo hi : Option Int) : List α := (xs.drop (HT.sIx xs.length 0 lo)).take (HT.sIx xs.length xs.length hi - HT.sIx xs.length 0 lo)
theorem cutL_pd {F : Hp} {xs : List V} {ds : List D} {lo hi : Option Int} (p : Paired (Rp K F) xs ds) : Paired (Rp K F) (cutV xs lo hi) (cutL ds lo hi) := by
  unfold cutV cutL
  rw [Pd.len p]
  exact Pd.take _ (Pd.drop _ p)
def rSlD (K : PySem.W.Frag) : V → Option Int → Option Int → Hp → VK → Prop := fun x lo hi H Q => rSlL K x lo hi H Q ∨ (rSlA K x lo hi H Q ∨ rSlS x lo hi H Q)
theorem sl_D : SlR X (rSlD X.K) := sl_list.or (sl_tupA.or sl_str)
def gSl (d : D) (lo hi : Option Int) : Option (D × Bool) := match d with
  | .list ds => some (.list (cutL ds lo hi), true)
  | .tuple ds => some (.tuple (cutL ds lo hi), false)
  | .str s => if s.length ≤ LIM then some (.str (cutS s lo hi), false) else none
  | _ => none
theorem take_all {α : Type} (l : List α) : l.take l.length = l := List.take_of_length_le (Nat.le_refl _)
theorem sw_sl {H : Hp} {M : Addr → Prop} (hm : ∀ a, M a → H a ≠ none) {x : V} {d : D} {lo hi : Option Int} (rx : Vw K H M x d) {z : D} {fr : Bool} (q : gSl d lo hi = some (z, fr)) (Q : VK) (k : ∀ v H', Ex H H' → VOk K H H' M fr v z → Q v H') : rSlD K x lo hi H Q := by
  unfold gSl at q
  split at q
  · cases q
    obtain ⟨a, xs, rfl, h1, p1⟩ := rx.list
    exact .inl ⟨a, xs, rfl, h1, fun p hp => k _ _ (Ex.new hp) (VOk.new hp hm (.lst (cutL_pd p1)))⟩
  · cases q
    obtain ⟨a, xs, rfl, h1, p1⟩ := rx.tuple
    refine .inr (.inl ⟨a, xs, rfl, cut_le.sqT h1, fun w => ?_, fun _ p hp => k _ _ (Ex.new hp) (VOk.of (sqt_new hp hm (cutL_pd p1)))⟩)
    refine k _ H (Ex.refl H) (VOk.of ?_)
    have p2 := cutL_pd (lo := lo) (hi := hi) p1
    have e2 : cutV xs lo hi = xs := by
      unfold cutV
      rw [w.1, w.2, List.drop_zero, Nat.sub_zero, take_all]
    rw [e2] at p2
    exact .tup h1 p2
  · split at q
    · rename_i c
      cases q
      exact .inr (.inr ⟨_, rx.str_eq, lim_ok c, k _ H (Ex.refl H) (VOk.of (.str _))⟩)
    · cases q
  · cases q
abbrev OX := En → Option (Option Int × En)
def SO (K : PySem.W.Frag) (t : TO) (f : OX) : Prop := ∀ {B : Hp} {IO : List (Nat × Addr)} {X : Addr → Prop} {σ : St} {H : Hp} {cs : En}, Ok K B IO X σ H cs → ∀ {o : Option Int} {cs' : En}, f cs = some (o, cs') →
  ∀ Q : Option Int → Hp → Prop, (∀ H', Post K B IO X σ H cs σ H' cs' → Q o H') → t σ H Q
structure DO (X : Cx) (e : Option Expr) (t : TO) (f : OX) : Prop where
  po : PO X e t
  so : SO X.K t f
def evO0 : OX := fun cs => some (none, cs)
def evO1 (f : EX) : OX := fun cs => (f cs).bind fun r => match r.1 with
  | .int i => some (some i, r.2.2)
  | _ => none
theorem do_none : DO X none tNoPart evO0 := by
  refine ⟨po_none, ?_⟩
  intro B IO Z σ H cs ok o cs' e Q q
  cases e
  exact q H (Post.refl ok)
theorem do_some (h : DE X e te fe) : DO X (some e) (tPart te) (evO1 fe) := by
  refine ⟨po_some h.pe, ?_⟩
  intro B IO Z σ H cs ok o cs' e Q q
  unfold evO1 at e
  obtain ⟨⟨d1, f1, c1⟩, e1, e⟩ := Option.bind_eq_some_iff.mp e
  simp only at e
  split at e
  · cases e
    exact h.se ok e1 _ fun x H1 w1 => ⟨_, w1.rp.int_eq, q H1 w1.post⟩
  · cases e
def evSl (fe : EX) (fl fh : OX) : EX := fun cs => (fe cs).bind fun r => (fl r.2.2).bind fun s => (fh s.2).bind fun u => (gSl r.1 s.1 u.1).bind fun z => some (z.1, z.2, u.2)
def evSlV (i : Nat) (fl fh : OX) : EX := fun cs => (cont cs i).bind fun _ => (fl cs).bind fun s => (fh s.2).bind fun u => (cont u.2 i).bind fun d => (gSl d s.1 u.1).bind fun z => some (z.1, z.2, u.2)
variable {lo hi : Option Expr} {tl th : TO} {fl fh : OX} {p2 : Pos}
theorem de_sl (he : DE X e te fe) (hl : DO X lo tl fl) (hh : DO X hi th fh) : DE X (.Subscript e (.Slice lo hi none p2) pos) (tSl (rSlD X.K) te tl th) (evSl fe fl fh) := by
  refine ⟨pe_slice sl_D he.pe hl.po hh.po, ?_⟩
  intro B IO Z σ H cs ok d fr cs' e Q q
  unfold evSl at e
  obtain ⟨⟨d1, f1, c1⟩, e1, e⟩ := Option.bind_eq_some_iff.mp e
  obtain ⟨⟨o1, c2⟩, e2, e⟩ := Option.bind_eq_some_iff.mp e
  obtain ⟨⟨o2, c3⟩, e3, e⟩ := Option.bind_eq_some_iff.mp e
  obtain ⟨⟨z, fz⟩, e4, e⟩ := Option.bind_eq_some_iff.mp e
  cases e
  refine he.se ok e1 _ fun x H1 w1 => hl.so w1.post.ok e2 _ fun H2 p2 => hh.so p2.ok e3 _ fun H3 p3 => ?_
  refine sw_sl p3.ok.md (Vw.of_rp (w1.rp.mono (p2.le.trans p3.le))) e4 Q fun v H4 x4 v4 => ?_
  exact q v H4 (.of ((w1.post.trans p2).trans p3) x4 v4)
theorem de_slV (he : DE X (.Name x xpos) (tVar i) (evVar i)) (hl : DO X lo tl fl) (hh : DO X hi th fh) : DE X (.Subscript (.Name x xpos) (.Slice lo hi none p2) pos) (tSl (rSlD X.K) (tVar i) tl th) (evSlV i fl fh) := by
  refine ⟨pe_slice sl_D he.pe hl.po hh.po, ?_⟩
  intro B IO Z σ H cs ok d fr cs' e Q q
  unfold evSlV at e
  obtain ⟨d0, e0, e⟩ := Option.bind_eq_some_iff.mp e
  obtain ⟨⟨o1, c2⟩, e2, e⟩ := Option.bind_eq_some_iff.mp e
  obtain ⟨⟨o2, c3⟩, e3, e⟩ := Option.bind_eq_some_iff.mp e
  obtain ⟨d1, e1, e⟩ := Option.bind_eq_some_iff.mp e
  obtain ⟨⟨z, fz⟩, e4, e⟩ := Option.bind_eq_some_iff.mp e
  cases e
  obtain ⟨v, hv, _⟩ := ok.view e0
  refine ⟨v, hv, hl.so ok e2 _ fun H2 p2 => hh.so p2.ok e3 _ fun H3 p3 => ?_⟩
  obtain ⟨v', hv', w⟩ := p3.ok.view e1
  rw [hv] at hv'
  cases hv'
  refine sw_sl p3.ok.md w e4 Q fun u H4 x4 v4 => ?_
  exact q u H4 (.of (p2.trans p3) x4 v4)

/-! ### isinstance(e, T) -/
def evIsi (n : String) (f : EX) : EX := fun cs => (f cs).bind fun r => (kitB (tyD r.1) n).bind fun b => some (.bool b, false, r.2.2)
theorem de_isi {n : String} {T : Str} {tpos : Pos} (hg : Gl X "isinstance") (hm : X.mg "isinstance" = none) (hgT : Gl X T) (hmT : X.mg T = none) (hvT : bootBuiltins T = some (.type n)) (ha : DE X e te fe)
    (hn : T ≠ "__name__" := by decide) (hd : (T == ("__debug__" : Str)) = false := by decide) (hs : starEach (e :: [.Name T tpos]) X.env = (false, eval e X.env) :: starEach [.Name T tpos] X.env := by rfl) :
    DE X (.Call (.Name "isinstance" fpos) [e, .Name T tpos] [] cpos) (tCB (rIsi X.K) (tCons te (tCons (tC (.ty n)) tNil))) (evIsi n fe) := by
  refine ⟨pe_callB call_isi hg hm (by decide +kernel) (pa_cons ha.pe (pa_cons (pe_bltn hgT hmT hvT (v := .ty n) rfl hn hd) pa_nil) hs) (he := hs), ?_⟩
  intro B IO Z σ H cs ok d fr cs' e Q q
  unfold evIsi at e
  obtain ⟨⟨d1, f1, c1⟩, e1, e⟩ := Option.bind_eq_some_iff.mp e
  obtain ⟨b, e2, e⟩ := Option.bind_eq_some_iff.mp e
  cases e
  refine ha.se ok e1 _ fun x H1 w1 => ?_
  exact ⟨x, .ty n, _, _, b, rfl, .ty n, tyx_of w1.rp cut_le, kit_ty e2, q _ H1 (.dat w1.post (.bl b))⟩
def evIsiV (n : String) (i : Nat) : EX := fun cs => (cont cs i).bind fun d => (kitB (tyD d) n).bind fun b => some (.bool b, false, cs)
theorem de_isiV {n : String} {T : Str} {tpos : Pos} (hg : Gl X "isinstance") (hm : X.mg "isinstance" = none) (hgT : Gl X T) (hmT : X.mg T = none) (hvT : bootBuiltins T = some (.type n)) (ha : DE X (.Name x xpos) (tVar i) (evVar i))
    (hn : T ≠ "__name__" := by decide) (hd : (T == ("__debug__" : Str)) = false := by decide) :
    DE X (.Call (.Name "isinstance" fpos) [.Name x xpos, .Name T tpos] [] cpos) (tCB (rIsi X.K) (tCons (tVar i) (tCons (tC (.ty n)) tNil))) (evIsiV n i) := by
  refine ⟨pe_callB call_isi hg hm (by decide +kernel) (pa_cons ha.pe (pa_cons (pe_bltn hgT hmT hvT (v := .ty n) rfl hn hd) pa_nil)), ?_⟩
  intro B IO Z σ H cs ok d fr cs' e Q q
  unfold evIsiV at e
  obtain ⟨d1, e1, e⟩ := Option.bind_eq_some_iff.mp e
  obtain ⟨b, e2, e⟩ := Option.bind_eq_some_iff.mp e
  cases e
  obtain ⟨v, hv, w⟩ := ok.view e1
  exact ⟨v, hv, v, .ty n, _, _, b, rfl, .ty n, tyx_of w.rpH (Le.refl H), kit_ty e2, q _ H (.dat (Post.refl ok) (.bl b))⟩
end
end Qp
end
section
set_option Elab.async false
set_option linter.all false
set_option maxRecDepth 100000
set_option maxHeartbeats 2000000
/-! Qf: statements. -/
namespace Qp
open PySem PySem.Spec PyProof.Rows L2
inductive Res where
  | nx (cs : En) | rt (d : D) (fr : Bool) (cs : En) | bk (cs : En) | ct (cs : En)
abbrev SX := En → Option Res
def DnOk (K : PySem.W.Frag) (B : Hp) (IO : List (Nat × Addr)) (X : Addr → Prop) (σ : St) (H : Hp) (cs : En) (r : Res) (Dn : Ends) : Prop := match r with
  | .nx c => ∀ σ' H', Post K B IO X σ H cs σ' H' c → Dn.nx σ' H'
  | .rt d fr c => ∀ v σ' H', Pe K B IO X σ H cs σ' H' c fr v d → Dn.rt v H'
  | .bk c => ∀ σ' H', Post K B IO X σ H cs σ' H' c → Dn.bk σ' H'
  | .ct c => ∀ σ' H', Post K B IO X σ H cs σ' H' c → Dn.ct σ' H'
def SS (K : PySem.W.Frag) (t : TS) (g : SX) : Prop := ∀ {B : Hp} {IO : List (Nat × Addr)} {X : Addr → Prop} {σ : St} {H : Hp} {cs : En}, Ok K B IO X σ H cs → ∀ {r : Res}, g cs = some r → ∀ Dn : Ends, DnOk K B IO X σ H cs r Dn → t Dn σ H
structure DS (X : Cx) (st : Stmt) (t : TS) (g : SX) : Prop where
  ps : PS X st t
  ss : SS X.K t g
structure DB (X : Cx) (sts : List Stmt) (t : TS) (g : SX) : Prop where
  pss : PSs X sts t
  ss : SS X.K t g
section
variable {K : PySem.W.Frag} {B : Hp} {IO : List (Nat × Addr)} {Z Y : Addr → Prop} {σ σ' : St} {H H' : Hp} {cs cs' c1 : En}
theorem DnOk.pre {r : Res} {Dn : Ends} (p : Post K B IO Z σ H cs σ' H' cs') (h : DnOk K B IO Z σ H cs r Dn) : DnOk K B IO Z σ' H' cs' r Dn := by
  cases r with
  | nx c => exact fun s h' q => h s h' (p.trans q)
  | rt d fr c => exact fun v s h' q => h v s h' (q.pre p)
  | bk c => exact fun s h' q => h s h' (p.trans q)
  | ct c => exact fun s h' q => h s h' (p.trans q)
def isDat : Cell → Bool
  | .dat _ => true
  | .no => true
  | _ => false
/-- a cell is written -/
theorem Ok.setCell {i : Nat} {cell : Cell} {v : V} (ok : Ok K B IO Y σ H c1) (hZY : ∀ a, Z a → Y a) (hi : i < c1.length) (hio : ∀ d', c1[i]? ≠ some (.io d'))
    (hc : (∃ d, cell = .dat d ∧ Rp K (cut H (Md σ c1 Y)) v d) ∨ ∃ d p, cell = .own d ∧ v = .ref p ∧ Y p ∧ ¬ Z p ∧ B p = none ∧ OwnAt K (cut H (Md σ c1 Y)) (H p) d) :
    Ok K B IO Z (σ.set i (some v)) H (c1.set i cell) ∧ Le (cut H (Md σ c1 Y)) (cut H (Md (σ.set i (some v)) (c1.set i cell) Z)) := by
  have hiσ : i < σ.length := by rw [ok.len]; exact hi
  have os : ∀ j b, OwnS (σ.set i (some v)) (c1.set i cell) j b → (i ≠ j ∧ OwnS σ c1 j b) ∨ (i = j ∧ v = .ref b ∧ Y b ∧ ¬ Z b ∧ B b = none ∧ ∃ d, cell = .own d) := by
    intro j b ⟨q1, d', q2⟩
    by_cases e : i = j
    · subst e
      rw [List.getElem?_set_self hiσ] at q1
      have ev : v = .ref b := Option.some.inj (Option.some.inj q1)
      rw [List.getElem?_set_self hi] at q2
      rcases hc with ⟨d, rfl, _⟩ | ⟨d, p, rfl, e2, y, z, bb, _⟩
      · rcases q2 with q2 | q2 <;> cases q2
      · rw [ev] at e2
        cases e2
        exact .inr ⟨rfl, ev, y, z, bb, d, rfl⟩
    · rw [List.getElem?_set_ne e] at q1
      rw [List.getElem?_set_ne e] at q2
      exact .inl ⟨e, q1, d', q2⟩
  have sub : ∀ b, Md (σ.set i (some v)) (c1.set i cell) Z b → Md σ c1 Y b := fun b m => by
    rcases m with m | ⟨j, q⟩
    · exact .inl (hZY b m)
    · rcases os j b q with ⟨_, z⟩ | ⟨_, _, y, _⟩
      · exact .inr ⟨j, z⟩
      · exact .inl y
  have hle : Le (cut H (Md σ c1 Y)) (cut H (Md (σ.set i (some v)) (c1.set i cell) Z)) := le_cut fun b o q m => ⟨q, fun z => m (sub b z)⟩
  refine ⟨⟨by rw [List.length_set, List.length_set]; exact ok.len, fun j d' q => ?_, fun j d' q => ?_, fun j k b q r => ?_, fun j b q z => ?_, fun a z => ok.xin a (hZY a z), fun j b d' q r => ?_, fun j d' q => ?_, fun j b q => ?_, ok.base, ok.dom⟩, hle⟩
  · rcases getset q with ⟨z, z'⟩ | ⟨z, z'⟩
    · subst z
      rcases hc with ⟨d, e, r⟩ | ⟨d, p, e, _⟩
      · rw [e] at z'
        cases z'
        exact ⟨v, List.getElem?_set_self hiσ, r.mono hle⟩
      · rw [e] at z'; cases z'
    · obtain ⟨u, r1, r2⟩ := ok.dat j d' z'
      exact ⟨u, by rw [List.getElem?_set_ne z]; exact r1, r2.mono hle⟩
  · have q' : (i = j ∧ cell = .own d') ∨ (i ≠ j ∧ (c1[j]? = some (.own d') ∨ c1[j]? = some (.io d'))) := by
      rcases q with q | q
      · rcases getset q with ⟨z, z'⟩ | ⟨z, z'⟩
        · exact .inl ⟨z, z'⟩
        · exact .inr ⟨z, .inl z'⟩
      · rcases getset q with ⟨z, z'⟩ | ⟨z, z'⟩
        · rcases hc with ⟨d, e, _⟩ | ⟨d, p, e, _⟩ <;> (rw [e] at z'; cases z')
        · exact .inr ⟨z, .inr z'⟩
    rcases q' with ⟨z, z'⟩ | ⟨z, z'⟩
    · subst z
      rcases hc with ⟨d, e, _⟩ | ⟨d, p, e, e2, _, _, _, o⟩
      · rw [e] at z'; cases z'
      · rw [e] at z'
        cases z'
        exact ⟨p, by rw [e2]; exact List.getElem?_set_self hiσ, o.mono hle⟩
    · obtain ⟨b, r1, r2⟩ := ok.own j d' z'
      exact ⟨b, by rw [List.getElem?_set_ne z]; exact r1, r2.mono hle⟩
  · rcases os j b q with ⟨n1, z1⟩ | ⟨e1, _, y1, _⟩
    · rcases os k b r with ⟨n2, z2⟩ | ⟨e2, _, y2, _⟩
      · exact ok.inj j k b z1 z2
      · exact absurd y2 (ok.dis j b z1)
    · rcases os k b r with ⟨n2, z2⟩ | ⟨e2, _, y2, _⟩
      · exact absurd y1 (ok.dis k b z2)
      · exact e1.symm.trans e2
  · rcases os j b q with ⟨_, z1⟩ | ⟨_, _, _, z1, _⟩
    · exact ok.dis j b z1 (hZY b z)
    · exact z1 z
  · rcases os j b ⟨q, d', .inl r⟩ with ⟨n1, z1⟩ | ⟨_, _, _, _, z1, _⟩
    · rw [List.getElem?_set_ne n1] at q r
      exact ok.new j b d' q r
    · exact z1
  · rcases getset q with ⟨_, z⟩ | ⟨z, z'⟩
    · rcases hc with ⟨d, e, _⟩ | ⟨d, p, e, _⟩ <;> (rw [e] at z; cases z)
    · obtain ⟨b, r1, r2⟩ := ok.io j d' z'
      exact ⟨b, r1, by rw [List.getElem?_set_ne z]; exact r2⟩
  · obtain ⟨d', r1, r2⟩ := ok.ios j b q
    have z : i ≠ j := fun z => by
      subst z
      exact hio d' r1
    exact ⟨d', by rw [List.getElem?_set_ne z]; exact r1, by rw [List.getElem?_set_ne z]; exact r2⟩
def noIo (cs : En) (i : Nat) : Bool := match cs[i]? with
  | some (.io _) => false
  | some _ => true
  | none => false
theorem noIo_lt {i : Nat} (h : noIo cs i = true) : i < cs.length ∧ ∀ d, cs[i]? ≠ some (.io d) := by
  unfold noIo at h
  split at h
  · cases h
  · rename_i c e hne
    exact ⟨(List.getElem?_eq_some_iff.mp hne).1, fun d z => e d (by rw [hne] at z; exact Option.some.inj z)⟩
  · cases h
def cellOf (fr : Bool) (d : D) : Cell := if fr = true then .own d else .dat d
/-- name = value -/
theorem Pe.asg {i : Nat} {v : V} {d : D} {fr : Bool} (ok0 : Ok K B IO Z σ H cs) (w : Pe K B IO Z σ H cs σ H' c1 fr v d) (hn : noIo c1 i = true) : Post K B IO Z σ H cs (σ.set i (some v)) H' (c1.set i (cellOf fr d)) := by
  obtain ⟨hi, hio⟩ := noIo_lt hn
  unfold Pe at w
  unfold cellOf
  cases fr with
  | false =>
    obtain ⟨p, r⟩ := w
    obtain ⟨o, l⟩ := p.ok.setCell (Z := Z) (cell := .dat d) (v := v) (fun _ h => h) hi hio (.inl ⟨d, rfl, r⟩)
    exact ⟨o, p.le.trans l, p.keep, p.dom⟩
  | true =>
    obtain ⟨p, rfl, hp, q, ow⟩ := w
    have hB : B p = none := by
      cases z : B p with
      | none => rfl
      | some o => exact absurd hp (ok0.dom p (by rw [z]; exact fun z => nomatch z))
    obtain ⟨o, l⟩ := q.ok.setCell (Z := Z) (cell := .own d) (v := .ref p) (fun a h => .inl h) hi hio (.inr ⟨d, p, rfl, rfl, .inr rfl, q.np, hB, ow⟩)
    exact ⟨o, q.le.trans l, q.keep, q.dom⟩
/-- an owned thing is changed: kept = its kind of cell -/
theorem Ok.mutate {i : Nat} {a : Addr} {d d' : D} (ok : Ok K B IO Z σ H cs) (hs : σ[i]? = some (some (.ref a))) (hc : cs[i]? = some (.own d) ∨ cs[i]? = some (.io d)) (kept : ∀ b u, b ≠ a → H b = some u → H' b = some u) (hn : H' a ≠ none)
    (ow : OwnAt K (cut H' (Md σ cs Z)) (H' a) d') :
    Post K B IO Z σ H cs σ H' (cs.set i (match cs[i]? with | some (.io _) => .io d' | _ => .own d')) := by
  have hi : i < cs.length := by rcases hc with h | h <;> exact (List.getElem?_eq_some_iff.mp h).1
  have hown : OwnS σ cs i a := ⟨hs, d, hc⟩
  generalize ec : (match cs[i]? with | some (.io _) => Cell.io d' | _ => Cell.own d') = cell
  have hcell : (cs[i]? = some (.own d) ∧ cell = .own d') ∨ (cs[i]? = some (.io d) ∧ cell = .io d') := by
    rcases hc with h | h
    · rw [h] at ec; exact .inl ⟨h, ec.symm⟩
    · rw [h] at ec; exact .inr ⟨h, ec.symm⟩
  have os : ∀ j b, OwnS σ (cs.set i cell) j b ↔ OwnS σ cs j b := by
    intro j b
    by_cases e : i = j
    · subst e
      unfold OwnS
      rw [List.getElem?_set_self hi]
      constructor
      · rintro ⟨q1, _⟩
        exact ⟨q1, d, hc⟩
      · rintro ⟨q1, _⟩
        rcases hcell with ⟨_, h⟩ | ⟨_, h⟩
        · exact ⟨q1, d', .inl (by rw [h])⟩
        · exact ⟨q1, d', .inr (by rw [h])⟩
    · unfold OwnS
      rw [List.getElem?_set_ne e]
  have mde : Md σ (cs.set i cell) Z = Md σ cs Z := by
    funext b
    unfold Md
    exact propext ⟨fun h => h.imp id fun ⟨j, q⟩ => ⟨j, (os j b).mp q⟩, fun h => h.imp id fun ⟨j, q⟩ => ⟨j, (os j b).mpr q⟩⟩
  have ma : Md σ cs Z a := .inr ⟨i, hown⟩
  have hle : Le (cut H (Md σ cs Z)) (cut H' (Md σ cs Z)) := le_cut fun b u e m => ⟨kept b u (fun z => m (by rw [z]; exact ma)) e, m⟩
  have same : ∀ b, b ≠ a → H b ≠ none → H' b = H b := fun b ne h => by
    cases e : H b with
    | none => exact absurd e h
    | some u => exact kept b u ne e
  have dm : ∀ b, H b ≠ none → H' b ≠ none := fun b h => by
    by_cases e : b = a
    · rw [e]; exact hn
    · rw [same b e h]; exact h
  refine ⟨⟨by rw [List.length_set]; exact ok.len, fun j e q => ?_, fun j e q => ?_, fun j k b q r => ok.inj j k b ((os j b).mp q) ((os k b).mp r), fun j b q => ok.dis j b ((os j b).mp q), fun b z => dm b (ok.xin b z), fun j b e q r => ?_, fun j e q => ?_, fun j b q => ?_, fun b u h e => ?_, fun b h => dm b (ok.dom b h)⟩, ?_, fun b z => ?_, dm⟩
  · rw [mde]
    rcases getset q with ⟨z, z'⟩ | ⟨z, z'⟩
    · rcases hcell with ⟨_, h⟩ | ⟨_, h⟩ <;> (rw [h] at z'; cases z')
    · obtain ⟨u, r1, r2⟩ := ok.dat j e z'
      exact ⟨u, r1, r2.mono hle⟩
  · rw [mde]
    by_cases z : i = j
    · subst z
      rw [List.getElem?_set_self hi] at q
      refine ⟨a, hs, ?_⟩
      rcases hcell with ⟨_, h⟩ | ⟨_, h⟩
      · rw [h] at q
        rcases q with q | q
        · cases q; exact ow
        · cases q
      · rw [h] at q
        rcases q with q | q
        · cases q
        · cases q; exact ow
    · rw [List.getElem?_set_ne z] at q
      obtain ⟨b, r1, r2⟩ := ok.own j e q
      have nb : b ≠ a := fun y => by
        subst y
        exact z (ok.inj i j b hown ⟨r1, e, q⟩)
      refine ⟨b, r1, ?_⟩
      rw [same b nb r2.some]
      exact r2.mono hle
  · rcases getset r with ⟨z, z'⟩ | ⟨z, z'⟩
    · subst z
      rcases hcell with ⟨h0, h⟩ | ⟨_, h⟩
      · exact ok.new i b d q h0
      · rw [h] at z'; cases z'
    · exact ok.new j b e q z'
  · rcases getset q with ⟨z, z'⟩ | ⟨z, z'⟩
    · subst z
      rcases hcell with ⟨_, h⟩ | ⟨h0, h⟩
      · rw [h] at z'; cases z'
      · exact ok.io i d h0
    · exact ok.io j e z'
  · obtain ⟨e, r1, r2⟩ := ok.ios j b q
    by_cases z : i = j
    · subst z
      rcases hcell with ⟨h0, _⟩ | ⟨_, h⟩
      · rw [h0] at r1; cases r1
      · exact ⟨d', by rw [List.getElem?_set_self hi, h], r2⟩
    · exact ⟨e, by rw [List.getElem?_set_ne z]; exact r1, r2⟩
  · refine kept b u (fun y => ?_) (ok.base b u h e)
    subst y
    rcases hc with h0 | h0
    · rw [ok.new i b d hs h0] at e; cases e
    · obtain ⟨c, r1, r2⟩ := ok.io i d h0
      rw [hs] at r2
      cases r2
      exact h i r1
  · rw [mde]; exact hle
  · exact same b (fun y => ok.dis i a hown (by rw [← y]; exact z)) (ok.xin b z)
end
end Qp
end
section
set_option Elab.async false
set_option linter.all false
set_option maxRecDepth 100000
set_option maxHeartbeats 2000000
/-! Qg: statements and loops of the text. -/
namespace Qp
open PySem PySem.Spec PyProof.Rows L2
section
variable {X : Cx} {st : Stmt} {rest : List Stmt} {t u : TS} {g h : SX} {e : Expr} {te : TE} {fe : EX} {pos : Pos} {K : PySem.W.Frag}
/-! ### blocks -/
def sNx : SX := fun cs => some (.nx cs)
def sSeq (g h : SX) : SX := fun cs => (g cs).bind fun r => match r with
  | .nx c => h c
  | r => some r
theorem ss_nx : SS K tNext sNx := by
  intro B IO Z σ H cs ok r e Dn q
  cases e
  exact q σ H (Post.refl ok)
theorem db_nil : DB X [] tNext sNx := ⟨pss_nil, ss_nx⟩
theorem ds_pass : DS X (.Pass pos) tNext sNx := ⟨ps_pass, ss_nx⟩
theorem ds_doc {x j pos'} : DS X (.Expr (.Constant (.str x) j pos) pos') tNext sNx := ⟨ps_doc, ss_nx⟩
theorem db_cons (h1 : DS X st t g) (h2 : DB X rest u h) : DB X (st :: rest) (tSeq t u) (sSeq g h) := by
  refine ⟨pss_cons h1.ps h2.pss, ?_⟩
  intro B IO Z σ H cs ok r e Dn q
  unfold sSeq at e
  obtain ⟨r1, e1, e⟩ := Option.bind_eq_some_iff.mp e
  refine h1.ss ok e1 _ ?_
  cases r1 with
  | nx c => exact fun σ' H' p => h2.ss p.ok e Dn (q.pre p)
  | rt d fr c => cases e; exact q
  | bk c => cases e; exact q
  | ct c => cases e; exact q
theorem db_one (h1 : DS X st t g) : DB X [st] t g := ⟨pss_one h1.ps, h1.ss⟩
def sBk : SX := fun cs => some (.bk cs)
def sCt : SX := fun cs => some (.ct cs)
theorem ds_break : DS X (.Break pos) tBreak sBk := by
  refine ⟨ps_break, ?_⟩
  intro B IO Z σ H cs ok r e Dn q
  cases e
  exact q σ H (Post.refl ok)
theorem ds_continue : DS X (.Continue pos) tCont sCt := by
  refine ⟨ps_continue, ?_⟩
  intro B IO Z σ H cs ok r e Dn q
  cases e
  exact q σ H (Post.refl ok)
/-! ### expressions as statements, return, if -/
def sDrop (f : EX) : SX := fun cs => (f cs).bind fun r => some (.nx r.2.2)
theorem ds_expr (he : DE X e te fe) (hs : swapsWith e none pos.line X.env = pure false := by rfl) : DS X (.Expr e pos) (tDrop te) (sDrop fe) := by
  refine ⟨ps_expr he.pe hs, ?_⟩
  intro B IO Z σ H cs ok r e Dn q
  unfold sDrop at e
  obtain ⟨⟨d1, f1, c1⟩, e1, e⟩ := Option.bind_eq_some_iff.mp e
  cases e
  exact he.se ok e1 _ fun v H1 w => q σ H1 w.post
def sRet (f : EX) : SX := fun cs => (f cs).bind fun r => some (.rt r.1 r.2.1 r.2.2)
theorem ds_ret (he : DE X e te fe) : DS X (.Return (some e) pos) (tRet te) (sRet fe) := by
  refine ⟨ps_ret he.pe, ?_⟩
  intro B IO Z σ H cs ok r e Dn q
  unfold sRet at e
  obtain ⟨⟨d1, f1, c1⟩, e1, e⟩ := Option.bind_eq_some_iff.mp e
  cases e
  exact he.se ok e1 _ fun v H1 w => q v σ H1 w
def sRetN : SX := fun cs => some (.rt .none false cs)
theorem ds_retN : DS X (.Return none pos) tRetN sRetN := by
  refine ⟨ps_retN, ?_⟩
  intro B IO Z σ H cs ok r e Dn q
  cases e
  exact q _ σ H (.dat (Post.refl ok) .non)
def sIf (t : TX) (g h : SX) : SX := fun cs => (t cs).bind fun r => if r.1 = true then g r.2 else h r.2
variable {c : Expr} {a b : List Stmt} {tc : TT} {fc : TX}
theorem ds_if (hc : DT X c tc fc) (ha : DB X a t g) (hb : DB X b u h) : DS X (.If c a b pos) (tIfS tc t u) (sIf fc g h) := by
  refine ⟨ps_if hc.pt ha.pss hb.pss, ?_⟩
  intro B IO Z σ H cs ok r e Dn q
  unfold sIf at e
  obtain ⟨⟨b1, c1⟩, e1, e⟩ := Option.bind_eq_some_iff.mp e
  refine hc.st ok e1 _ fun H1 p1 => ?_
  cases b1 with
  | true => exact iteT (ha.ss p1.ok e Dn (q.pre p1))
  | false => exact iteF (hb.ss p1.ok e Dn (q.pre p1))
/-! ### stores -/
def sAsg (i : Nat) (f : EX) : SX := fun cs => (f cs).bind fun r => if noIo r.2.2 i = true then some (.nx (r.2.2.set i (cellOf r.2.1 r.1))) else none
theorem ss_asg {i : Nat} (h : SE K te fe) : SS K (tAsg te (gName i)) (sAsg i fe) := by
  intro B IO Z σ H cs ok r e Dn q
  unfold sAsg at e
  obtain ⟨⟨d1, f1, c1⟩, e1, e⟩ := Option.bind_eq_some_iff.mp e
  simp only at e
  split at e
  · rename_i hn
    cases e
    exact h ok e1 _ fun v H1 w => q _ H1 (w.asg ok hn)
  · cases e
theorem ds_asg {i : Nat} {x : Str} {xpos : Pos} (hN : X.N.Nodup) (hi : X.N[i]? = some x) (hx : Loc X.env.scope x) (he : DE X e te fe) (hf : X.fn x = true ∨ X.env.scope.names.lookup x = some .local := by first | exact .inl rfl | exact .inr rfl | assumption)
    (hs : swapsWithSole [.Name x xpos] e pos.line X.env = pure false := by rfl) (hw : swappedStores [.Name x xpos] e X.env = pure none := by rfl)
    (h1 : (assignEach [.Name x xpos] X.env).map (·.2) = [assign (.Name x xpos) X.env] := by rfl) : DS X (.Assign [.Name x xpos] e pos) (tAsg te (gName i)) (sAsg i fe) :=
  ⟨ps_asg he.pe (pg_name hN hi hx hf) hs hw h1, ss_asg he.se⟩
/-- x op= e -/
def sAug (g : G2) (i : Nat) (f : EX) : SX := fun cs => match cs[i]? with
  | some (.dat d) => (f cs).bind fun r => (g d r.1).bind fun z => if noIo r.2.2 i = true then some (.nx (r.2.2.set i (cellOf z.2 z.1))) else none
  | _ => none
theorem ds_aug {i : Nat} {x : Str} {op : Operator} {ti : TIp} {gg : G2} {pos' : Pos} (hN : X.N.Nodup) (hi : X.N[i]? = some x) (hx : Loc X.env.scope x) (ho : PIp X op ti) (hr : SR2 X.K ti gg) (he : DE X e te fe)
    (hf : X.fn x = true ∨ X.env.scope.names.lookup x = some .local := by first | exact .inl rfl | exact .inr rfl | assumption) : DS X (.AugAssign (.Name x pos') op e pos) (tAug i te ti) (sAug gg i fe) := by
  refine ⟨ps_aug hN hi hx he.pe ho hf, ?_⟩
  intro B IO Z σ H cs ok r e Dn q
  unfold sAug at e
  split at e
  · rename_i d hd
    obtain ⟨⟨d1, f1, c1⟩, e1, e⟩ := Option.bind_eq_some_iff.mp e
    obtain ⟨⟨z, fz⟩, e2, e⟩ := Option.bind_eq_some_iff.mp e
    simp only at e
    split at e
    · rename_i hn
      cases e
      obtain ⟨v, hv, rv⟩ := ok.dat i d hd
      refine ⟨v, hv, he.se ok e1 _ fun y H1 w => ?_⟩
      refine hr w.post.ok.md (rv.mono w.post.le) w.rp e2 _ fun u H2 x2 w2 => ?_
      exact q _ H2 ((Pe.of w.post x2 w2).asg ok hn)
    · cases e
  · cases e
/-! ### an owned list is changed -/
def upL (cs : En) (i : Nat) (f : D → Option D) : Option En := match cs[i]? with
  | some (.own d) => (f d).bind fun d' => some (cs.set i (.own d'))
  | some (.io d) => (f d).bind fun d' => some (cs.set i (.io d'))
  | _ => none
theorem Ok.upL {B : Hp} {IO : List (Nat × Addr)} {Z : Addr → Prop} {σ : St} {H : Hp} {cs cs' : En} {i : Nat} {f : D → Option D} (ok : Ok K B IO Z σ H cs) (e : upL cs i f = some cs') :
    ∃ a d d', σ[i]? = some (some (.ref a)) ∧ f d = some d' ∧ OwnAt K (cut H (Md σ cs Z)) (H a) d ∧ ∀ H', (∀ b u, b ≠ a → H b = some u → H' b = some u) → OwnAt K (cut H' (Md σ cs Z)) (H' a) d' → Post K B IO Z σ H cs σ H' cs' := by
  unfold Qp.upL at e
  split at e
  · rename_i d hd
    obtain ⟨d', e1, e⟩ := Option.bind_eq_some_iff.mp e
    cases e
    obtain ⟨a, h1, h2⟩ := ok.own i d (.inl hd)
    refine ⟨a, d, d', h1, e1, h2, fun H' k ow => ?_⟩
    have p := ok.mutate h1 (.inl hd) k ow.some ow
    rw [hd] at p
    exact p
  · rename_i d hd
    obtain ⟨d', e1, e⟩ := Option.bind_eq_some_iff.mp e
    cases e
    obtain ⟨a, h1, h2⟩ := ok.own i d (.inr hd)
    refine ⟨a, d, d', h1, e1, h2, fun H' k ow => ?_⟩
    have p := ok.mutate h1 (.inr hd) k ow.some ow
    rw [hd] at p
    exact p
  · cases e
theorem upd_kept {H : Hp} {a : Addr} {o : HO} : ∀ b u, b ≠ a → H b = some u → upd H a o b = some u := fun b u ne e => by rw [upd_ne ne]; exact e
theorem cut_upd {H : Hp} {M : Addr → Prop} {a : Addr} {o : HO} (m : M a) : Le (cut H M) (cut (upd H a o) M) := le_cut fun b u e n => ⟨upd_kept b u (fun z => n (by rw [z]; exact m)) e, n⟩
theorem OwnAt.list {F : Hp} {o : Option HO} {ds : List D} (h : OwnAt K F o (.list ds)) : ∃ xs, o = Option.some (.lst xs) ∧ Paired (Rp K F) xs ds := by
  cases h with
  | lst p => exact ⟨_, rfl, p⟩
def fApp (d : D) : D → Option D
  | .list ds => if ds.length < LIM then some (.list (ds ++ [d])) else none
  | _ => none
def isOwnL (cs : En) (i : Nat) : Bool := match cs[i]? with
  | some (.own (.list _)) => true
  | some (.io (.list _)) => true
  | _ => false
theorem Ok.ownL {B : Hp} {IO : List (Nat × Addr)} {Z : Addr → Prop} {σ : St} {H : Hp} {cs : En} {i : Nat} (ok : Ok K B IO Z σ H cs) (h : isOwnL cs i = true) : ∃ a xs, σ[i]? = some (some (.ref a)) ∧ H a = some (.lst xs) ∧ Md σ cs Z a := by
  unfold isOwnL at h
  split at h
  · rename_i ds hd
    obtain ⟨a, h1, h2⟩ := ok.own i _ (.inl hd)
    obtain ⟨xs, h3, _⟩ := h2.list
    exact ⟨a, xs, h1, h3, .inr ⟨i, h1, _, .inl hd⟩⟩
  · rename_i ds hd
    obtain ⟨a, h1, h2⟩ := ok.own i _ (.inr hd)
    obtain ⟨xs, h3, _⟩ := h2.list
    exact ⟨a, xs, h1, h3, .inr ⟨i, h1, _, .inr hd⟩⟩
  · cases h
theorem ok_md {Z : Addr → Prop} {σ : St} {cs cs' : En} {i : Nat} {f : D → Option D} (e : upL cs i f = some cs') {a : Addr} (h : σ[i]? = some (some (.ref a))) : Md σ cs Z a := by
  unfold upL at e
  split at e
  · rename_i d hd
    exact .inr ⟨i, h, d, .inl hd⟩
  · rename_i d hd
    exact .inr ⟨i, h, d, .inr hd⟩
  · cases e
/-- the value of a method's call is dropped, or given on: None -/
def evApp (i : Nat) (f : EX) : EX := fun cs => if isOwnL cs i = true then (f cs).bind fun r => (upL r.2.2 i (fApp r.1)).bind fun c => some (.none, false, c) else none
theorem se_app {i : Nat} (he : SE K te fe) : SE K (tBM K "list" rAppend (tVar i) (tCons te tNil)) (evApp i fe) := by
  intro B IO Z σ H cs ok d fr cs' e Q q
  unfold evApp at e
  split at e
  · rename_i ho
    obtain ⟨⟨d1, f1, c1⟩, e1, e⟩ := Option.bind_eq_some_iff.mp e
    obtain ⟨c2, e2, e⟩ := Option.bind_eq_some_iff.mp e
    cases e
    obtain ⟨a, xs, hs, hx, _⟩ := ok.ownL ho
    refine ⟨_, hs, .inl ⟨rfl, xs, SqL.of hx⟩, he ok e1 _ fun y H1 w => ?_⟩
    obtain ⟨a', d, d', h1, h2, h3, k⟩ := w.post.ok.upL e2
    rw [hs] at h1
    cases h1
    have m := ok_md (Z := Z) e2 hs
    unfold fApp at h2
    split at h2
    · split at h2
      · rename_i hl
        cases h2
        obtain ⟨ys, h4, h5⟩ := h3.list
        refine ⟨a, ys, y, rfl, rfl, h4, by rw [Pd.len h5]; exact lim_lt hl, ?_⟩
        refine q _ _ (.dat (w.post.trans (k _ upd_kept ?_)) .non)
        rw [upd_same]
        exact .lst (Rp.monoA (cut_upd m) (Pd.append h5 (.cons w.rp .nil)))
      · cases h2
    · cases h2
  · cases e
theorem de_app {i : Nat} {x : Str} {xpos apos : Pos} (hv : DE X (.Name x xpos) (tVar i) (evVar i)) (he : DE X e te fe)
    (hbase : attributeBase (.Name x xpos) "append" X.env (eval (.Name x xpos) X.env) = eval (.Name x xpos) X.env := by rfl)
    (hfew : ((backTo pos (starEach [e] X.env)).all (fun x => !x.1) && (backToKw pos (keywordEach [] X.env)).all (fun x => x.1.isSome)
      && decide ([e].length + ([] : List Keyword).length + (if ([] : List Keyword).isEmpty then 0 else 1) < 30)) = true := by rfl)
    (hline : (apos.endLine == pos.line) = true := by rfl) (hs : starEach [e] X.env = (false, eval e X.env) :: starEach [] X.env := by rfl) (hplain : (backTo pos (starEach [] X.env)).any (·.1) = false := by rfl) :
    DE X (.Call (.Attribute (.Name x xpos) "append" apos) [e] [] pos) (tBM X.K "list" rAppend (tVar i) (tCons te tNil)) (evApp i fe) :=
  ⟨pe_bm PySem.F.plainAttrs_list PySem.F.slot_list_append PySem.F.type_list_append mt_append hv.pe (pa_cons he.pe pa_nil hs) hbase hfew hline hs hplain, se_app he.se⟩
/-- x[k] = e -/
def fSet (k d : D) : D → Option D
  | .list ds => match k with
    | .int k => (ixN ds.length k).bind fun j => some (.list (ds.set j d))
    | _ => none
  | _ => none
variable {ei : Expr} {ti : TE} {fi : EX}
def sSet (i : Nat) (fi fe : EX) : SX := fun cs => (fe cs).bind fun r => if isOwnL r.2.2 i = true then (fi r.2.2).bind fun s => (upL s.2.2 i (fSet s.1 r.1)).bind fun c => some (.nx c) else none
theorem ds_set {i : Nat} {x : Str} {xpos spos : Pos} (hv : DE X (.Name x xpos) (tVar i) (evVar i)) (hi : DE X ei ti fi) (he : DE X e te fe)
    (ha : ∀ v, assign (.Subscript (.Name x xpos) ei spos) X.env v = (do
      let ov ← holding [v] (eval (.Name x xpos) X.env)
      let iv ← holding [v, ov] (eval ei X.env)
      standAt spos
      holding [v, ov, iv] (setItem ov iv v)
      release [v, ov, iv] []) := by intro _; rfl)
    (hs : swapsWithSole [.Subscript (.Name x xpos) ei spos] e pos.line X.env = pure false := by rfl) (hw : swappedStores [.Subscript (.Name x xpos) ei spos] e X.env = pure none := by rfl)
    (h1 : (assignEach [.Subscript (.Name x xpos) ei spos] X.env).map (·.2) = [assign (.Subscript (.Name x xpos) ei spos) X.env] := by rfl) :
    DS X (.Assign [.Subscript (.Name x xpos) ei spos] e pos) (tAsg te (gSub (tVar i) ti rSetL)) (sSet i fi fe) := by
  refine ⟨ps_asg he.pe (pg_sub hv.pe hi.pe set_list ha) hs hw h1, ?_⟩
  intro B IO Z σ H cs ok r e Dn q
  unfold sSet at e
  obtain ⟨⟨d1, f1, c1⟩, e1, e⟩ := Option.bind_eq_some_iff.mp e
  simp only at e
  split at e
  · rename_i ho
    obtain ⟨⟨d2, f2, c2⟩, e2, e⟩ := Option.bind_eq_some_iff.mp e
    obtain ⟨c3, e3, e⟩ := Option.bind_eq_some_iff.mp e
    cases e
    refine he.se ok e1 _ fun y H1 w1 => ?_
    obtain ⟨a, xs, hs, hx, _⟩ := w1.post.ok.ownL ho
    refine ⟨_, hs, hi.se w1.post.ok e2 _ fun z H2 w2 => ?_⟩
    obtain ⟨a', d, d', h1, h2, h3, k⟩ := w2.post.ok.upL e3
    rw [hs] at h1
    cases h1
    have m := ok_md (Z := Z) e3 hs
    unfold fSet at h2
    dsimp only at h2
    split at h2
    · split at h2
      · obtain ⟨j, hj, h2⟩ := Option.bind_eq_some_iff.mp h2
        cases h2
        obtain ⟨ys, h4, h5⟩ := h3.list
        refine ⟨a, ys, _, j, rfl, w2.rp.int_eq, h4, by rw [Pd.len h5]; exact hj, ?_⟩
        refine q _ _ ((w1.post.trans w2.post).trans (k _ upd_kept ?_))
        rw [upd_same]
        exact .lst (Rp.monoA (cut_upd m) (Pd.set (w1.rp.mono w2.post.le) j h5))
      · cases h2
    · cases h2
  · cases e
/-- x[k] op= e -/
def rGetL (K : PySem.W.Frag) : V → V → Hp → VK → Prop := fun o i H Q => ∃ p xs k v, o = .ref p ∧ i = .int k ∧ SqL K H p xs ∧ 0 ≤ k ∧ xs[k.toNat]? = some v ∧ Q v H
theorem get_list : PGet X (rGetL X.K) := by
  intro pins s σ H o i ov iv Q I ro ri h
  obtain ⟨p, xs, k, v, rfl, rfl, hq, h0, he, q⟩ := h
  cases ro
  obtain ⟨t, rfl⟩ := ri
  obtain ⟨its, r, pl, hz⟩ := I.list hq
  obtain ⟨w, ew, rw'⟩ := r.get he
  have hl := r.length
  have hn := line63
  have hk : k.toNat < xs.length := (List.getElem?_eq_some_iff.mp he).1
  exact wpAny_getItem_list pl.isList h0 (by omega) (by simpa using ew) ⟨v, H, I, rw', q⟩
def getL : D → D → Option D
  | .list ds, .int k => if 0 ≤ k then ds[k.toNat]? else none
  | _, _ => none
def sAugIx (g : G2) (i : Nat) (fi fe : EX) : SX := fun cs => if isOwnL cs i = true then (fi cs).bind fun s => (cont s.2.2 i).bind fun d => (getL d s.1).bind fun o => (fe s.2.2).bind fun r => (g o r.1).bind fun z => if z.2 = false then (upL r.2.2 i (fSet s.1 z.1)).bind fun c => some (.nx c) else none else none
theorem ds_augIx {i : Nat} {x : Str} {xpos tpos : Pos} {op : Operator} {tip : TIp} {gg : G2} (hv : DE X (.Name x xpos) (tVar i) (evVar i)) (hi : DE X ei ti fi) (ho : PIp X op tip) (hr : SR2 X.K tip gg) (he : DE X e te fe)
    (ha : ∀ ov iv new, augStore ei ov iv new = (do holding [new, ov, iv] (setItem ov iv new); release [new, ov, iv] []; pure .next) := by intros; rfl) :
    DS X (.AugAssign (.Subscript (.Name x xpos) ei tpos) op e pos) (tAugS (tVar i) ti te (rGetL X.K) tip rSetL) (sAugIx gg i fi fe) := by
  refine ⟨ps_augS hv.pe hi.pe get_list he.pe ho set_list ha, ?_⟩
  intro B IO Z σ H cs ok r e Dn q
  unfold sAugIx at e
  split at e
  · rename_i ho
    obtain ⟨⟨d2, f2, c2⟩, e2, e⟩ := Option.bind_eq_some_iff.mp e
    obtain ⟨dc, ec, e⟩ := Option.bind_eq_some_iff.mp e
    obtain ⟨old, eo, e⟩ := Option.bind_eq_some_iff.mp e
    obtain ⟨⟨d1, f1, c1⟩, e1, e⟩ := Option.bind_eq_some_iff.mp e
    obtain ⟨⟨z, fz⟩, ez, e⟩ := Option.bind_eq_some_iff.mp e
    simp only at e
    split at e
    · rename_i hz
      subst hz
      obtain ⟨c3, e3, e⟩ := Option.bind_eq_some_iff.mp e
      cases e
      obtain ⟨a, xs, hs, hx, _⟩ := ok.ownL ho
      refine ⟨_, hs, hi.se ok e2 _ fun y H1 w1 => ?_⟩
      obtain ⟨v', hv', w⟩ := w1.post.ok.view ec
      rw [hs] at hv'
      cases hv'
      unfold getL at eo
      dsimp only at eo
      split at eo
      · rename_i ds kk
        split at eo
        · rename_i h0
          obtain ⟨a2, ws, e4, r4, p4⟩ := w.list
          cases e4
          obtain ⟨vo, g1, g2⟩ := Pd.get p4 eo
          refine ⟨a, ws, _, vo, rfl, w1.rp.int_eq, r4, h0, g1, ?_⟩
          refine he.se w1.post.ok e1 _ fun u H2 w2 => ?_
          refine hr w2.post.ok.md (g2.mono w2.post.le) w2.rp ez _ fun v3 H3 x3 w3 => ?_
          have pe := Pe.of w2.post x3 w3
          obtain ⟨a', d, d', h1, h2, h3, k⟩ := pe.post.ok.upL e3
          rw [hs] at h1
          cases h1
          have m := ok_md (Z := Z) e3 hs
          unfold fSet at h2
          split at h2
          · simp only at h2
            obtain ⟨j, hj, h2⟩ := Option.bind_eq_some_iff.mp h2
            cases h2
            obtain ⟨ys, h4, h5⟩ := h3.list
            refine ⟨a, ys, _, j, rfl, w1.rp.int_eq, h4, by rw [Pd.len h5]; exact hj, ?_⟩
            refine q _ _ ((w1.post.trans pe.post).trans (k _ upd_kept ?_))
            rw [upd_same]
            exact .lst (Rp.monoA (cut_upd m) (Pd.set pe.rp j h5))
          · cases h2
        · cases eo
      · cases eo
    · cases e
  · cases e
end
end Qp
end
section
set_option Elab.async false
set_option linter.all false
set_option maxRecDepth 100000
set_option maxHeartbeats 2000000
/-! Qh: targets, what is walked, for, while. -/
namespace Qp
open PySem PySem.Spec PyProof.Rows L2
/-! ### targets -/
def Agr (tg : List Nat) (σ σ' : St) : Prop := σ'.length = σ.length ∧ ∀ j : Nat, j ∉ tg → σ'[j]? = σ[j]?
abbrev GX := D → En → Option En
abbrev GsX := List D → En → Option En
def SG (K : PySem.W.Frag) (g : TG) (tg : List Nat) (f : GX) : Prop := ∀ {B : Hp} {IO : List (Nat × Addr)} {X : Addr → Prop} {σ : St} {H : Hp} {cs : En}, Ok K B IO X σ H cs → ∀ {v : V} {d : D}, Rp K (cut H (Md σ cs X)) v d → ∀ {cs' : En}, f d cs = some cs' →
  ∀ Q : St → Hp → Prop, (∀ σ' H', Post K B IO X σ H cs σ' H' cs' → Agr tg σ σ' → Q σ' H') → g v σ H Q
def SGs (K : PySem.W.Frag) (g : TGs) (tg : List Nat) (f : GsX) : Prop := ∀ {B : Hp} {IO : List (Nat × Addr)} {X : Addr → Prop} {σ : St} {H : Hp} {cs : En}, Ok K B IO X σ H cs → ∀ {vs : List V} {ds : List D}, Paired (Rp K (cut H (Md σ cs X))) vs ds → ∀ {cs' : En}, f ds cs = some cs' →
  ∀ Q : St → Hp → Prop, (∀ σ' H', Post K B IO X σ H cs σ' H' cs' → Agr tg σ σ' → Q σ' H') → g vs σ H Q
structure DG (X : Cx) (e : Expr) (g : TG) (tg : List Nat) (f : GX) : Prop where
  pg : PG X e g
  sg : SG X.K g tg f
structure DGs (X : Cx) (e : List Expr) (g : TGs) (tg : List Nat) (f : GsX) : Prop where
  pgs : PGs X e g
  sg : SGs X.K g tg f
def gx (i : Nat) : GX := fun d cs => if noIo cs i = true then some (cs.set i (.dat d)) else none
def gxNil : GsX
  | [], cs => some cs
  | _, _ => none
def gxCons (f : GX) (h : GsX) : GsX
  | d :: ds, cs => (f d cs).bind fun c => h ds c
  | [], _ => none
def gxTup (h : GsX) (n : Nat) : GX
  | .tuple ds, cs => if ds.length = n then h ds cs else none
  | _, _ => none
section
variable {X : Cx} {K : PySem.W.Frag} {e : Expr} {es : List Expr} {pos : Pos}
theorem dg_name {i : Nat} {x : Str} (hN : X.N.Nodup) (hi : X.N[i]? = some x) (hx : Loc X.env.scope x) (hf : X.fn x = true ∨ X.env.scope.names.lookup x = some .local := by first | exact .inl rfl | exact .inr rfl | assumption) : DG X (.Name x pos) (gName i) [i] (gx i) := by
  refine ⟨pg_name hN hi hx hf, ?_⟩
  intro B IO Z σ H cs ok v d r cs' e Q q
  unfold gx at e
  split at e
  · rename_i hn
    cases e
    refine q _ H ((Pe.dat (Post.refl ok) r).asg ok hn) ⟨List.length_set, fun j hj => ?_⟩
    exact List.getElem?_set_ne (fun z => hj (by rw [z]; exact List.mem_singleton.mpr rfl))
  · cases e
theorem dgs_nil : DGs X [] gNil [] gxNil := by
  refine ⟨pgs_nil, ?_⟩
  intro B IO Z σ H cs ok v d r cs' e Q q
  cases r with
  | nil => cases e; exact ⟨rfl, q σ H (Post.refl ok) ⟨rfl, fun _ _ => rfl⟩⟩
  | cons _ _ => cases e
variable {g : TG} {f : GX} {gs : TGs} {fs : GsX} {t1 t2 : List Nat}
theorem dgs_cons (h1 : DG X e g t1 f) (h2 : DGs X es gs t2 fs) (hs : (assignEach (e :: es) X.env).map (·.2) = assign e X.env :: (assignEach es X.env).map (·.2) := by rfl) : DGs X (e :: es) (gCons g gs) (t1 ++ t2) (gxCons f fs) := by
  refine ⟨pgs_cons h1.pg h2.pgs hs, ?_⟩
  intro B IO Z σ H cs ok v d r cs' e Q q
  cases r with
  | nil => cases e
  | cons r1 r2 =>
    unfold gxCons at e
    obtain ⟨c1, e1, e⟩ := Option.bind_eq_some_iff.mp e
    refine ⟨_, _, rfl, h1.sg ok r1 e1 _ fun σ1 H1 p1 k1 => h2.sg p1.ok (Rp.monoA p1.le r2) e _ fun σ2 H2 p2 k2 => q σ2 H2 (p1.trans p2) ⟨k2.1.trans k1.1, fun j hj => ?_⟩⟩
    rw [List.mem_append] at hj
    exact (k2.2 j fun z => hj (.inr z)).trans (k1.2 j fun z => hj (.inl z))
theorem dg_tup {k : Nat} {n : Nat} (hc : X.calm = true) (h : DGs X es gs t1 fs) (hn : (assignEach es X.env).length = n := by rfl) (hst : (assignEach es X.env).findIdx? (·.1) = none := by rfl) : DG X (.Tuple es k pos) (gTup X.K n gs) t1 (gxTup fs n) := by
  refine ⟨pg_tup hc h.pgs hn hst, ?_⟩
  intro B IO Z σ H cs ok v d r cs' e Q q
  unfold gxTup at e
  split at e
  · split at e
    · rename_i hl
      obtain ⟨a, xs, rfl, h1, p1⟩ := r.tuple
      exact ⟨a, xs, rfl, cut_le.sqT h1, (Pd.len p1).trans hl, h.sg ok p1 e Q q⟩
    · cases e
  · cases e

/-! ### what is walked -/
abbrev IX := En → Option (List D × En)
def JOk (K : PySem.W.Frag) (J : It) (F : Hp) (items : List D) : Prop := ∀ (H : Hp) (M : Addr → Prop), (∀ a, M a → H a ≠ none) → Le F (cut H M) → ∀ i : Nat, (items.length = i → J.stop i H) ∧ ∀ d, items[i]? = some d → J.go i H ∧ ∀ x H', J.yld i H x H' → Ex H H' ∧ Rp K (cut H' M) x d
def SI (K : PySem.W.Frag) (wi : TI) (f : IX) : Prop := ∀ {B : Hp} {IO : List (Nat × Addr)} {X : Addr → Prop} {σ : St} {H : Hp} {cs : En}, Ok K B IO X σ H cs → ∀ {items : List D} {cs' : En}, f cs = some (items, cs') →
  ∀ R : It → Hp → Prop, (∀ J H', Post K B IO X σ H cs σ H' cs' → JOk K J (cut H' (Md σ cs' X)) items → R J H') → wi σ H R
structure DI (X : Cx) (tg e : Expr) (wi : TI) (f : IX) : Prop where
  pi : PI X tg e wi
  si : SI X.K wi f
variable {tg : Expr} {te : TE} {fe : EX} {wi : TI} {fi : IX}
/-- a list or a tuple -/
def iSeq (K : PySem.W.Frag) (tl : TE) : TI := fun σ H R => tl σ H fun x H1 => ∃ a, x = .ref a ∧ ((∃ xs, SqL K H1 a xs ∧ R (Itl K a) H1) ∨ ∃ xs, SqT K H1 a xs ∧ R (Itt K a) H1)
theorem pi_seq {l : Expr} {tl : TE} (hl : PE X l tl) : PI X tg l (iSeq X.K tl) := by
  refine ⟨fun pins s σ H R I h => ?_⟩
  refine thn (hl.run pins s σ H _ I h) fun v s1 ⟨x, H1, I1, r1, q1⟩ => ?_
  obtain ⟨a, e, q1⟩ := q1
  subst e
  cases r1
  rcases q1 with ⟨xs, hq, q⟩ | ⟨xs, hq, q⟩
  · obtain ⟨its, rv, p, hz⟩ := I1.list hq
    refine wpAny_pyIter_list p.isList ?_
    refine ⟨s1.heap.objs.size, [s1.heap.objs.size], _, _, H1, rfl, I1.kept (t' := s1.toks) fun b o e => Heap.get?_push_of_some _ e, turn_list a _, ⟨_, Heap.get?_push_size _ rfl, rfl, rfl⟩, fun b hb => ?_, q⟩
    have e : b = s1.heap.objs.size := by simpa using hb
    subst e
    exact I1.fpOk (Nat.le_refl _) (I1.hok.fresh (Nat.le_refl _))
  · obtain ⟨its, rv, p, hz⟩ := I1.tuple hq
    refine wpAny_pyIter_tuple (show s1.heap.IsTuple a its.toArray from p) ?_
    refine ⟨s1.heap.objs.size, [s1.heap.objs.size], _, _, H1, rfl, I1.kept (t' := s1.toks) fun b o e => Heap.get?_push_of_some _ e, turn_tuple a _, ⟨_, Heap.get?_push_size _ rfl, rfl, rfl⟩, fun b hb => ?_, q⟩
    have e : b = s1.heap.objs.size := by simpa using hb
    subst e
    exact I1.fpOk (Nat.le_refl _) (I1.hok.fresh (Nat.le_refl _))
def ixSeq (f : EX) : IX := fun cs => (f cs).bind fun r => match r.1 with
  | .list ds => some (ds, r.2.2)
  | .tuple ds => some (ds, r.2.2)
  | _ => none
theorem jok_list {F : Hp} {a : Addr} {xs : List V} {ds : List D} (h : SqL K F a xs) (p : Paired (Rp K F) xs ds) : JOk K (Itl K a) F ds := by
  intro H M hm hle i
  have hq : SqL K H a xs := cut_le.sqL (hle.sqL h)
  refine ⟨fun hi => ⟨xs, hq, by rw [Pd.len p]; exact Nat.le_of_eq hi⟩, fun d hd => ?_⟩
  obtain ⟨v, h1, h2⟩ := Pd.get p hd
  refine ⟨⟨xs, v, hq, h1⟩, fun x H' ⟨e, y⟩ => ?_⟩
  subst e
  have := y xs hq
  rw [h1] at this
  cases this
  exact ⟨Ex.refl _, h2.mono hle⟩
theorem jok_tup {F : Hp} {a : Addr} {xs : List V} {ds : List D} (h : SqT K F a xs) (p : Paired (Rp K F) xs ds) : JOk K (Itt K a) F ds := by
  intro H M hm hle i
  have hq : SqT K H a xs := cut_le.sqT (hle.sqT h)
  refine ⟨fun hi => ⟨xs, hq, by rw [Pd.len p]; exact Nat.le_of_eq hi⟩, fun d hd => ?_⟩
  obtain ⟨v, h1, h2⟩ := Pd.get p hd
  refine ⟨⟨xs, v, hq, h1⟩, fun x H' ⟨e, y⟩ => ?_⟩
  subst e
  have := y xs hq
  rw [h1] at this
  cases this
  exact ⟨Ex.refl _, h2.mono hle⟩
theorem di_seq (h : DE X e te fe) : DI X tg e (iSeq X.K te) (ixSeq fe) := by
  refine ⟨pi_seq h.pe, ?_⟩
  intro B IO Z σ H cs ok items cs' e R q
  unfold ixSeq at e
  obtain ⟨⟨d1, f1, c1⟩, e1, e⟩ := Option.bind_eq_some_iff.mp e
  dsimp only at e
  split at e
  · cases e
    refine h.se ok e1 _ fun v H1 w => ?_
    obtain ⟨a, xs, rfl, r1, p1⟩ := w.rp.list
    exact ⟨a, rfl, .inl ⟨xs, cut_le.sqL r1, q _ H1 w.post (jok_list r1 p1)⟩⟩
  · cases e
    refine h.se ok e1 _ fun v H1 w => ?_
    obtain ⟨a, xs, rfl, r1, p1⟩ := w.rp.tuple
    exact ⟨a, rfl, .inr ⟨xs, cut_le.sqT r1, q _ H1 w.post (jok_tup r1 p1)⟩⟩
  · cases e
def rngD (lo : Int) (n : Nat) : List D := (List.range n).map fun i : Nat => PyData.int (lo + (i : Int))
theorem rngD_len (lo : Int) (n : Nat) : (rngD lo n).length = n := by simp [rngD]
theorem rngD_get {lo : Int} {n i : Nat} {d : D} (h : (rngD lo n)[i]? = some d) : i < n ∧ d = .int (lo + (i : Int)) := by
  unfold rngD at h
  rw [List.getElem?_map] at h
  by_cases hi : i < n
  · rw [List.getElem?_range hi] at h
    exact ⟨hi, (Option.some.inj h).symm⟩
  · rw [List.getElem?_eq_none (by simpa using hi)] at h
    cases h
theorem jok_rng {F : Hp} {lo : Int} {n : Nat} : JOk K (Itr lo n) F (rngD lo n) := by
  intro H M hm hle i
  refine ⟨fun hi => by rw [rngD_len] at hi; exact Nat.le_of_eq hi, fun d hd => ?_⟩
  obtain ⟨h1, rfl⟩ := rngD_get hd
  refine ⟨h1, fun x H' ⟨e1, e2⟩ => ?_⟩
  subst e1 e2
  exact ⟨Ex.refl _, .int _⟩
def small (j : Int) : Bool := decide (-1000000000 ≤ j) && decide (j ≤ 1000000000)
theorem small_ok {j : Int} (h : small j = true) : -(2 ^ 62) ≤ j ∧ j < 2 ^ 62 := by
  unfold small at h
  rw [Bool.and_eq_true, decide_eq_true_eq, decide_eq_true_eq] at h
  omega
def ixR1 (f : AX) : IX := fun cs => (f cs).bind fun r => match r.1 with
  | [.int j] => if small j = true then some (rngD 0 j.toNat, r.2) else none
  | _ => none
def ixR2 (f : AX) : IX := fun cs => (f cs).bind fun r => match r.1 with
  | [.int i, .int j] => if (small i && small j) = true then some (rngD i (j - i).toNat, r.2) else none
  | _ => none
variable {a b : Expr} {ta : TA} {fa : AX} {p : Pos}
theorem di_r1 (hg : Gl X "range") (hm : X.mg "range" = none) (ha : DA X [a] ta fa) (hs : starEach [a] X.env = [(false, eval a X.env)] := by rfl) : DI X tg (.Call (.Name "range" p) [a] [] pos) (iRng1 ta) (ixR1 fa) := by
  refine ⟨pi_range1 hg hm ha.pa hs, ?_⟩
  intro B IO Z σ H cs ok items cs' e R q
  unfold ixR1 at e
  obtain ⟨⟨d1, c1⟩, e1, e⟩ := Option.bind_eq_some_iff.mp e
  dsimp only at e
  split at e
  · split at e
    · rename_i hs
      cases e
      refine ha.sa ok e1 _ fun vs H1 p1 r1 => ?_
      cases r1 with
      | cons r1 r2 =>
        cases r2
        exact ⟨_, by rw [r1.int_eq], (small_ok hs).1, (small_ok hs).2, q _ H1 p1 jok_rng⟩
    · cases e
  · cases e
theorem di_r2 (hg : Gl X "range") (hm : X.mg "range" = none) (ha : DA X [a, b] ta fa) (hs : starEach [a, b] X.env = [(false, eval a X.env), (false, eval b X.env)] := by rfl) (hs2 : starEach [b] X.env = [(false, eval b X.env)] := by rfl) :
    DI X tg (.Call (.Name "range" p) [a, b] [] pos) (iRng2 ta) (ixR2 fa) := by
  refine ⟨pi_range2 hg hm ha.pa hs hs2, ?_⟩
  intro B IO Z σ H cs ok items cs' e R q
  unfold ixR2 at e
  obtain ⟨⟨d1, c1⟩, e1, e⟩ := Option.bind_eq_some_iff.mp e
  dsimp only at e
  split at e
  · split at e
    · rename_i hs
      cases e
      rw [Bool.and_eq_true] at hs
      refine ha.sa ok e1 _ fun vs H1 p1 r1 => ?_
      cases r1 with
      | cons r1 r2 =>
        cases r2 with
        | cons r2 r3 =>
          cases r3
          exact ⟨_, _, by rw [r1.int_eq, r2.int_eq], ⟨(small_ok hs.1).1, (small_ok hs.1).2, (small_ok hs.2).1, (small_ok hs.2).2⟩, q _ H1 p1 jok_rng⟩
    · cases e
  · cases e
/-- zip of two lists -/
def zipD : List D → List D → List D
  | x :: xs, y :: ys => .tuple [x, y] :: zipD xs ys
  | _, _ => []
theorem zipD_len : ∀ xs ys : List D, (zipD xs ys).length = min xs.length ys.length
  | [], _ => by simp [zipD]
  | _ :: _, [] => by simp [zipD]
  | x :: xs, y :: ys => by simp [zipD, zipD_len xs ys]
theorem zipD_get : ∀ {xs ys : List D} {i : Nat} {d : D}, (zipD xs ys)[i]? = some d → ∃ x y, xs[i]? = some x ∧ ys[i]? = some y ∧ d = .tuple [x, y]
  | [], _, i, d, h => by simp [zipD] at h
  | _ :: _, [], i, d, h => by simp [zipD] at h
  | x :: xs, y :: ys, 0, d, h => by simp [zipD] at h; exact ⟨x, y, rfl, rfl, h.symm⟩
  | x :: xs, y :: ys, i + 1, d, h => by
    have h' : (zipD xs ys)[i]? = some d := by simpa [zipD] using h
    exact zipD_get (xs := xs) (ys := ys) (i := i) h'
theorem jok_zip {F : Hp} {a b : Addr} {xs ys : List V} {ds es : List D} (h : SqL K F a xs) (p : Paired (Rp K F) xs ds) (h' : SqL K F b ys) (p' : Paired (Rp K F) ys es) : JOk K (Itz K a b) F (zipD ds es) := by
  intro H M hm hle i
  have hq : SqL K H a xs := cut_le.sqL (hle.sqL h)
  have hq' : SqL K H b ys := cut_le.sqL (hle.sqL h')
  refine ⟨fun hi => ⟨xs, ys, hq, hq', ?_⟩, fun d hd => ?_⟩
  · rw [zipD_len] at hi
    rw [Pd.len p, Pd.len p']
    omega
  obtain ⟨x, y, g1, g2, rfl⟩ := zipD_get hd
  obtain ⟨v, h1, h2⟩ := Pd.get p g1
  obtain ⟨w, h3, h4⟩ := Pd.get p' g2
  refine ⟨⟨xs, ys, v, w, hq, hq', h1, h3⟩, fun u H' ⟨T, x', y', e1, hT, e2, y1, y2⟩ => ?_⟩
  subst e1 e2
  have z1 := y1 xs hq
  rw [h1] at z1
  cases z1
  have z2 := y2 ys hq'
  rw [h3] at z2
  cases z2
  exact ⟨Ex.new hT, sqt_new hT hm (.cons (h2.mono hle) (.cons (h4.mono hle) .nil))⟩
def ixZip (f : AX) : IX := fun cs => (f cs).bind fun r => match r.1 with
  | [.list xs, .list ys] => some (zipD xs ys, r.2)
  | _ => none
theorem di_zip {tpos : Pos} {elts : List Expr} {kk : Nat} (hg : Gl X "zip") (hm : X.mg "zip" = none) (ha : DA X [a, b] ta fa)
    (hs : starEach [a, b] X.env = (false, eval a X.env) :: starEach [b] X.env := by rfl) (hpl : (backTo pos (starEach [b] X.env)).any (·.1) = false := by rfl) :
    DI X (.Tuple elts kk tpos) (.Call (.Name "zip" p) [a, b] [] pos) (iZip X.K ta) (ixZip fa) := by
  refine ⟨pi_zip hg hm ha.pa hs hpl, ?_⟩
  intro B IO Z σ H cs ok items cs' e R q
  unfold ixZip at e
  obtain ⟨⟨d1, c1⟩, e1, e⟩ := Option.bind_eq_some_iff.mp e
  dsimp only at e
  split at e
  · cases e
    refine ha.sa ok e1 _ fun vs H1 p1 r1 => ?_
    cases r1 with
    | cons r1 r2 =>
      cases r2 with
      | cons r2 r3 =>
        cases r3
        obtain ⟨a', xs, rfl, h1, q1⟩ := r1.list
        obtain ⟨b', ys, rfl, h2, q2⟩ := r2.list
        exact ⟨a', b', xs, ys, rfl, cut_le.sqL h1, cut_le.sqL h2, q _ H1 p1 (jok_zip h1 q1 h2 q2)⟩
  · cases e
/-- enumerate of a list -/
def enumD : Nat → List D → List D
  | _, [] => []
  | n, x :: xs => .tuple [.int (n : Int), x] :: enumD (n + 1) xs
theorem enumD_len : ∀ (n : Nat) (xs : List D), (enumD n xs).length = xs.length
  | _, [] => rfl
  | n, x :: xs => by simp [enumD, enumD_len (n + 1) xs]
theorem enumD_get : ∀ {n : Nat} {xs : List D} {i : Nat} {d : D}, (enumD n xs)[i]? = some d → ∃ x, xs[i]? = some x ∧ d = .tuple [.int ((n + i : Nat) : Int), x]
  | _, [], i, d, h => by simp [enumD] at h
  | n, x :: xs, 0, d, h => by simp [enumD] at h; exact ⟨x, rfl, h.symm⟩
  | n, x :: xs, i + 1, d, h => by
    have h' : (enumD (n + 1) xs)[i]? = some d := by simpa [enumD] using h
    obtain ⟨y, h1, h2⟩ := enumD_get (n := n + 1) (xs := xs) (i := i) h'
    exact ⟨y, by simpa using h1, by rw [h2, show n + 1 + i = n + (i + 1) by omega]⟩
def ixEnum (f : AX) : IX := fun cs => (f cs).bind fun r => match r.1 with
  | [.list xs] => some (enumD 0 xs, r.2)
  | _ => none
theorem di_enum {tpos : Pos} {elts : List Expr} {kk : Nat} (hg : Gl X "enumerate") (hm : X.mg "enumerate" = none) (ha : DA X [a] ta fa) (hs : starEach [a] X.env = [(false, eval a X.env)] := by rfl) :
    DI X (.Tuple elts kk tpos) (.Call (.Name "enumerate" p) [a] [] pos) (iEnum X.K ta) (ixEnum fa) := by
  refine ⟨pi_enum hg hm ha.pa hs, ?_⟩
  intro B IO Z σ H cs ok items cs' e R q
  unfold ixEnum at e
  obtain ⟨⟨d1, c1⟩, e1, e⟩ := Option.bind_eq_some_iff.mp e
  dsimp only at e
  split at e
  · cases e
    refine ha.sa ok e1 _ fun vs H1 p1 r1 => ?_
    cases r1 with
    | cons r1 r2 =>
      cases r2
      obtain ⟨a', xs, rfl, h1, q1⟩ := r1.list
      refine ⟨a', xs, rfl, cut_le.sqL h1, q _ H1 p1 ?_⟩
      intro H M hm hle i
      have hq : SqL X.K H a' xs := cut_le.sqL (hle.sqL h1)
      refine ⟨fun hi => ⟨xs, hq, by rw [enumD_len] at hi; rw [Pd.len q1]; exact Nat.le_of_eq hi⟩, fun d hd => ?_⟩
      obtain ⟨x, g1, rfl⟩ := enumD_get hd
      obtain ⟨v, h1', h2⟩ := Pd.get q1 g1
      refine ⟨⟨xs, v, hq, h1'⟩, fun u H' ⟨T, x', e1, hT, e2, y1⟩ => ?_⟩
      subst e1 e2
      have z1 := y1 xs hq
      rw [h1'] at z1
      cases z1
      refine ⟨Ex.new hT, sqt_new hT hm (.cons ?_ (.cons (h2.mono hle) .nil))⟩
      rw [Nat.zero_add]
      exact .int _
  · cases e

/-! ### for -/
def loopF (ft : GX) (body : SX) : List D → En → Option Res
  | [], cs => some (.nx cs)
  | x :: r, cs => (ft x cs).bind fun c => (body c).bind fun z => match z with
    | .nx c => loopF ft body r c
    | .ct c => loopF ft body r c
    | .bk c => some (.nx c)
    | .rt d fr c => some (.rt d fr c)
def sFor (fi : IX) (ft : GX) (body : SX) : SX := fun cs => (fi cs).bind fun r => loopF ft body r.1 r.2
variable {gb : SX} {tb : TS} {body : List Stmt}
theorem ss_for {tgs : List Nat} (hi : SI K wi fi) (hg : SG K g tgs f) (hb : SS K tb gb) : SS K (tFor wi g tb) (sFor fi f gb) := by
  intro B IO Z σ H cs ok r e Dn q
  unfold sFor at e
  obtain ⟨⟨items, c1⟩, e1, e⟩ := Option.bind_eq_some_iff.mp e
  dsimp only at e
  refine hi ok e1 _ fun J H1 p1 jok => ?_
  refine ⟨fun i m σ' H' => m = items.length - i ∧ i ≤ items.length ∧ ∃ c, Post K B IO Z σ H cs σ' H' c ∧ Le (cut H1 (Md σ c1 Z)) (cut H' (Md σ' c Z)) ∧ loopF f gb (items.drop i) c = some r, ⟨_, rfl, Nat.zero_le _, c1, p1, Le.refl _, by rw [List.drop_zero]; exact e⟩, ?_⟩
  rintro i m σ' H' ⟨rfl, hil, c, p, le, el⟩
  obtain ⟨js, jg⟩ := jok H' _ p.ok.md le i
  by_cases hlt : i < items.length
  · have hd : items[i]? = some items[i] := List.getElem?_eq_getElem hlt
    obtain ⟨go, yl⟩ := jg _ hd
    rw [List.drop_eq_getElem_cons hlt] at el
    unfold loopF at el
    obtain ⟨c2, e2, el⟩ := Option.bind_eq_some_iff.mp el
    obtain ⟨rb, e3, el⟩ := Option.bind_eq_some_iff.mp el
    refine .inr ⟨go, fun σ3 H3 => ∃ c3, Post K B IO Z σ H cs σ3 H3 c3 ∧ Le (cut H1 (Md σ c1 Z)) (cut H3 (Md σ3 c3 Z)) ∧ loopF f gb (items.drop (i + 1)) c3 = some r, fun σ3 H3 ⟨c3, h1, h2, h3⟩ => ⟨items.length - (i + 1), by omega, rfl, hlt, c3, h1, h2, h3⟩, fun x H2 hy => ?_⟩
    obtain ⟨ex, rx⟩ := yl x H2 hy
    have p2 := p.ok.ext ex
    refine hg p2.ok rx e2 _ fun σ3 H3 p3 _ => ?_
    have p123 := (p.trans p2).trans p3
    have le3 := (le.trans p2.le).trans p3.le
    refine hb p3.ok e3 _ ?_
    cases rb with
    | nx c4 => exact fun σ4 H4 p4 => ⟨c4, p123.trans p4, le3.trans p4.le, el⟩
    | ct c4 => exact fun σ4 H4 p4 => ⟨c4, p123.trans p4, le3.trans p4.le, el⟩
    | bk c4 =>
      cases el
      exact fun σ4 H4 p4 => q σ4 H4 (p123.trans p4)
    | rt d fr c4 =>
      cases el
      exact fun v σ4 H4 p4 => q v σ4 H4 (p4.pre p123)
  · have hi' : i = items.length := by omega
    subst hi'
    rw [List.drop_length] at el
    cases el
    exact .inl ⟨js rfl, q σ' H' p⟩
theorem ds_for {tgs : List Nat} (hp : PassesOwn (model X.prog X.w) X.A X.env X.xe) (hc : X.calm = true) (hi : DI X tg e wi fi) (hg : DG X tg g tgs f) (hb : DB X body tb gb) (hs : ∀ x, foldedSetIterable e X.env x = pure x := by intro _; rfl) :
    DS X (.For tg e body [] pos) (tFor wi g tb) (sFor fi f gb) := ⟨ps_for hp hc hi.pi hg.pg hb.pss hs, ss_for hi.si hg.sg hb.ss⟩
/-! ### while -/
def loopW (tc : TX) (body : SX) : Nat → En → Option Res
  | 0, _ => none
  | n + 1, cs => (tc cs).bind fun b => if b.1 = true then (body b.2).bind fun z => match z with
    | .nx c => loopW tc body n c
    | .ct c => loopW tc body n c
    | .bk c => some (.nx c)
    | .rt d fr c => some (.rt d fr c) else some (.nx b.2)
variable {c : Expr} {tc : TT} {fc : TX}
theorem ss_while (n : Nat) (hc : STt K tc fc) (hb : SS K tb gb) : SS K (tWhile tc tb) (loopW fc gb n) := by
  intro B IO Z σ H cs ok r e Dn q
  refine ⟨fun m σ' H' => ∃ c, Post K B IO Z σ H cs σ' H' c ∧ loopW fc gb m c = some r, ⟨n, cs, Post.refl ok, e⟩, ?_⟩
  rintro m σ' H' ⟨c, p, el⟩
  cases m with
  | zero => cases el
  | succ m =>
    unfold loopW at el
    obtain ⟨⟨b, c1⟩, e1, el⟩ := Option.bind_eq_some_iff.mp el
    dsimp only at el
    refine hc p.ok e1 _ fun H1 p1 => ?_
    cases b with
    | false =>
      cases el
      exact iteF (q σ' H1 (p.trans p1))
    | true =>
      refine iteT ?_
      obtain ⟨rb, e3, el⟩ := Option.bind_eq_some_iff.mp (show ((gb c1).bind _) = some r from el)
      refine ⟨fun σ3 H3 => ∃ c3, Post K B IO Z σ H cs σ3 H3 c3 ∧ loopW fc gb m c3 = some r, fun σ3 H3 h => ⟨m, Nat.lt_succ_self m, h⟩, ?_⟩
      refine hb p1.ok e3 _ ?_
      cases rb with
      | nx c4 => exact fun σ4 H4 p4 => ⟨c4, (p.trans p1).trans p4, el⟩
      | ct c4 => exact fun σ4 H4 p4 => ⟨c4, (p.trans p1).trans p4, el⟩
      | bk c4 =>
        cases el
        exact fun σ4 H4 p4 => q σ4 H4 ((p.trans p1).trans p4)
      | rt d fr c4 =>
        cases el
        exact fun v σ4 H4 p4 => q v σ4 H4 (p4.pre (p.trans p1))
theorem ds_while (n : Nat) (hp : PassesOwn (model X.prog X.w) X.A X.env X.xe) (hc : DT X c tc fc) (hb : DB X body tb gb) : DS X (.While c body [] pos) (tWhile tc tb) (loopW fc gb n) := ⟨ps_while hp hc.pt hb.pss, ss_while n hc.st hb.ss⟩
end
end Qp
end
section
set_option Elab.async false
set_option linter.all false
set_option maxRecDepth 100000
set_option maxHeartbeats 2000000
/-! Qi: list comprehensions. -/
namespace Qp
open PySem PySem.Spec PyProof.Rows L2
def clr (cs : En) : List Nat → En
  | [] => cs
  | v :: vs => (clr cs vs).set v .no
theorem clr_len (cs : En) : ∀ vs : List Nat, (clr cs vs).length = cs.length
  | [] => rfl
  | v :: vs => by unfold clr; rw [List.length_set, clr_len cs vs]
theorem clr_get {cs : En} {i : Nat} {c : Cell} : ∀ {vs : List Nat}, (clr cs vs)[i]? = some c → (i ∉ vs ∧ cs[i]? = some c) ∨ (i ∈ vs ∧ c = .no)
  | [], h => .inl ⟨List.not_mem_nil, h⟩
  | v :: vs, h => by
    unfold clr at h
    rcases getset h with ⟨e, e'⟩ | ⟨e, h'⟩
    · exact .inr ⟨by rw [e]; exact List.mem_cons_self, e'.symm⟩
    · rcases clr_get h' with ⟨n, q⟩ | ⟨n, q⟩
      · refine .inl ⟨fun z => ?_, q⟩
        rcases List.mem_cons.mp z with z | z
        · exact e z.symm
        · exact n z
      · exact .inr ⟨List.mem_cons_of_mem _ n, q⟩
theorem clr_out {cs : En} {i : Nat} : ∀ {vs : List Nat}, i ∉ vs → (clr cs vs)[i]? = cs[i]?
  | [], _ => rfl
  | v :: vs, h => by
    unfold clr
    rw [List.getElem?_set_ne (fun e => h (by rw [e]; exact List.mem_cons_self))]
    exact clr_out fun m => h (List.mem_cons_of_mem _ m)
def rst (c2 c1 : En) : List Nat → En
  | [] => c2
  | v :: vs => (rst c2 c1 vs).set v (c1.getD v .no)
theorem rst_len (c2 c1 : En) : ∀ vs : List Nat, (rst c2 c1 vs).length = c2.length
  | [] => rfl
  | v :: vs => by unfold rst; rw [List.length_set, rst_len c2 c1 vs]
theorem rst_get {c2 c1 : En} {i : Nat} {c : Cell} : ∀ {vs : List Nat}, (rst c2 c1 vs)[i]? = some c → (i ∉ vs ∧ c2[i]? = some c) ∨ (i ∈ vs ∧ c = c1.getD i .no)
  | [], h => .inl ⟨List.not_mem_nil, h⟩
  | v :: vs, h => by
    unfold rst at h
    rcases getset h with ⟨e, e'⟩ | ⟨e, h'⟩
    · subst e
      exact .inr ⟨List.mem_cons_self, e'.symm⟩
    · rcases rst_get h' with ⟨n, q⟩ | ⟨n, q⟩
      · refine .inl ⟨fun z => ?_, q⟩
        rcases List.mem_cons.mp z with z | z
        · exact e z.symm
        · exact n z
      · exact .inr ⟨List.mem_cons_of_mem _ n, q⟩
theorem rst_out {c2 c1 : En} {i : Nat} : ∀ {vs : List Nat}, i ∉ vs → (rst c2 c1 vs)[i]? = c2[i]?
  | [], _ => rfl
  | v :: vs, h => by
    unfold rst
    rw [List.getElem?_set_ne (fun e => h (by rw [e]; exact List.mem_cons_self))]
    exact rst_out fun m => h (List.mem_cons_of_mem _ m)
def noOwn (cs : En) (vs : List Nat) : Bool := vs.all fun v => match cs[v]? with
  | some (.dat _) => true
  | some .no => true
  | _ => false
theorem noOwn_of {cs : En} {vs : List Nat} (h : noOwn cs vs = true) {v : Nat} (hv : v ∈ vs) : (∀ d, cs[v]? ≠ some (.own d)) ∧ ∀ d, cs[v]? ≠ some (.io d) := by
  have q := List.all_eq_true.mp h v hv
  constructor
  · intro d e
    rw [e] at q
    cases q
  · intro d e
    rw [e] at q
    cases q
theorem wipe_get (τ : St) (j : Nat) : ∀ vs : List Nat, j ∈ vs → (wipe τ vs)[j]? = if j < τ.length then some none else none
  | [], h => absurd h List.not_mem_nil
  | v :: vs, h => by
    unfold wipe
    by_cases e : v = j
    · subst e
      rw [List.getElem?_set]
      simp only [if_true, wipe_length]
    · rw [List.getElem?_set_ne e]
      rcases List.mem_cons.mp h with z | z
      · exact absurd z.symm e
      · exact wipe_get τ j vs z
theorem wipe_agr {τ σ : St} {tg vs : List Nat} (a : Agr tg (wipe σ vs) τ) (h : ∀ j ∈ tg, j ∈ vs) : wipe τ vs = wipe σ vs := by
  refine List.ext_getElem? fun j => ?_
  by_cases hj : j ∈ vs
  · rw [wipe_get τ j vs hj, wipe_get σ j vs hj, a.1, wipe_length]
  · rw [wipe_out hj, wipe_out hj, a.2 j fun z => hj (h j z), wipe_out hj]
section
variable {K : PySem.W.Frag} {B : Hp} {IO : List (Nat × Addr)} {Z Y : Addr → Prop} {σ : St} {H H' : Hp} {cs c1 c2 : En} {vs : List Nat}
theorem owns_wipe (hn : noOwn cs vs = true) (i : Nat) (a : Addr) : OwnS (wipe σ vs) (clr cs vs) i a ↔ OwnS σ cs i a := by
  constructor
  · rintro ⟨q1, d, q2⟩
    obtain ⟨q3, hi⟩ := wipe_some q1
    rw [clr_out hi] at q2
    exact ⟨q3, d, q2⟩
  · rintro ⟨q1, d, q2⟩
    have hi : i ∉ vs := fun hv => by
      rcases q2 with q2 | q2
      · exact (noOwn_of hn hv).1 d q2
      · exact (noOwn_of hn hv).2 d q2
    exact ⟨by rw [wipe_out hi]; exact q1, d, by rw [clr_out hi]; exact q2⟩
theorem md_wipe (hn : noOwn cs vs = true) : Md (wipe σ vs) (clr cs vs) Z = Md σ cs Z := by
  funext b
  unfold Md
  exact propext ⟨fun h => h.imp id fun ⟨j, q⟩ => ⟨j, (owns_wipe hn j b).mp q⟩, fun h => h.imp id fun ⟨j, q⟩ => ⟨j, (owns_wipe hn j b).mpr q⟩⟩
theorem Ok.wipe (ok : Ok K B IO Z σ H cs) (hn : noOwn cs vs = true) : Ok K B IO Z (L2.wipe σ vs) H (clr cs vs) := by
  have ow := @owns_wipe σ cs vs hn
  refine ⟨by rw [wipe_length, clr_len]; exact ok.len, fun i d e => ?_, fun i d e => ?_, fun i j a q r => ok.inj i j a ((ow i a).mp q) ((ow j a).mp r), fun i a q => ok.dis i a ((ow i a).mp q), ok.xin, fun i a d q r => ?_, fun i d e => ?_, fun i a q => ?_, ok.base, ok.dom⟩
  · rw [md_wipe hn]
    rcases clr_get e with ⟨n, q⟩ | ⟨_, q⟩
    · obtain ⟨v, h1, h2⟩ := ok.dat i d q
      exact ⟨v, by rw [wipe_out n]; exact h1, h2⟩
    · cases q
  · rw [md_wipe hn]
    have : i ∉ vs ∧ (cs[i]? = some (.own d) ∨ cs[i]? = some (.io d)) := by
      rcases e with e | e
      · rcases clr_get e with ⟨n, q⟩ | ⟨_, q⟩
        · exact ⟨n, .inl q⟩
        · cases q
      · rcases clr_get e with ⟨n, q⟩ | ⟨_, q⟩
        · exact ⟨n, .inr q⟩
        · cases q
    obtain ⟨a, h1, h2⟩ := ok.own i d this.2
    exact ⟨a, by rw [wipe_out this.1]; exact h1, h2⟩
  · obtain ⟨q1, hi⟩ := wipe_some q
    rw [clr_out hi] at r
    exact ok.new i a d q1 r
  · rcases clr_get e with ⟨n, q⟩ | ⟨_, q⟩
    · obtain ⟨a, h1, h2⟩ := ok.io i d q
      exact ⟨a, h1, by rw [wipe_out n]; exact h2⟩
    · cases q
  · obtain ⟨d, h1, h2⟩ := ok.ios i a q
    have hi : i ∉ vs := fun hv => (noOwn_of hn hv).2 d h1
    exact ⟨d, by rw [clr_out hi]; exact h1, by rw [wipe_out hi]; exact h2⟩
theorem rst_case {j : Nat} {c : Cell} (hn : noOwn c1 vs = true) (h : (rst c2 c1 vs)[j]? = some c) : (j ∉ vs ∧ c2[j]? = some c) ∨ (j ∈ vs ∧ (c = .no ∨ ∃ d, c = .dat d ∧ c1[j]? = some (.dat d))) := by
  rcases rst_get h with z | ⟨m, z⟩
  · exact .inl z
  · refine .inr ⟨m, ?_⟩
    have q := List.all_eq_true.mp hn j m
    rw [List.getD_eq_getElem?_getD] at z
    cases e : c1[j]? with
    | none => rw [e] at z; exact .inl z
    | some cc =>
      rw [e, Option.getD_some] at z
      rw [e] at q
      cases cc with
      | no => exact .inl z
      | dat d => exact .inr ⟨d, z, rfl⟩
      | own d => cases q
      | io d => cases q
theorem owns_rst (hn : noOwn c1 vs = true) (j : Nat) (a : Addr) : OwnS σ (rst c2 c1 vs) j a ↔ OwnS (wipe σ vs) c2 j a := by
  constructor
  · rintro ⟨q1, d, q2⟩
    rcases q2 with q2 | q2
    · rcases rst_case hn q2 with ⟨n, z⟩ | ⟨_, z | ⟨d', z, _⟩⟩
      · exact ⟨by rw [wipe_out n]; exact q1, d, .inl z⟩
      · cases z
      · cases z
    · rcases rst_case hn q2 with ⟨n, z⟩ | ⟨_, z | ⟨d', z, _⟩⟩
      · exact ⟨by rw [wipe_out n]; exact q1, d, .inr z⟩
      · cases z
      · cases z
  · rintro ⟨q1, d, q2⟩
    obtain ⟨q3, hj⟩ := wipe_some q1
    exact ⟨q3, d, by rw [rst_out hj]; exact q2⟩
theorem md_rst (hn : noOwn c1 vs = true) : Md σ (rst c2 c1 vs) Y = Md (wipe σ vs) c2 Y := by
  funext b
  unfold Md
  exact propext ⟨fun h => h.imp id fun ⟨j, q⟩ => ⟨j, (owns_rst hn j b).mp q⟩, fun h => h.imp id fun ⟨j, q⟩ => ⟨j, (owns_rst hn j b).mpr q⟩⟩
theorem Ok.restore (ok' : Ok K B IO Y (L2.wipe σ vs) H' c2) (hn : noOwn c1 vs = true) (h1 : ∀ (j : Nat) d, c1[j]? = some (.dat d) → ∃ v, σ[j]? = some (some v) ∧ Rp K (cut H' (Md (L2.wipe σ vs) c2 Y)) v d) : Ok K B IO Y σ H' (rst c2 c1 vs) := by
  have ow := @owns_rst σ c1 c2 vs hn
  refine ⟨by rw [rst_len, ← ok'.len, wipe_length], fun i d e => ?_, fun i d e => ?_, fun i j a q r => ok'.inj i j a ((ow i a).mp q) ((ow j a).mp r), fun i a q => ok'.dis i a ((ow i a).mp q), ok'.xin, fun i a d q r => ?_, fun i d e => ?_, fun i a q => ?_, ok'.base, ok'.dom⟩
  · rw [md_rst hn]
    rcases rst_case hn e with ⟨n, z⟩ | ⟨_, z | ⟨d', z, z'⟩⟩
    · obtain ⟨v, h1, h2⟩ := ok'.dat i d z
      exact ⟨v, by rw [wipe_out n] at h1; exact h1, h2⟩
    · cases z
    · cases z
      exact h1 i d z'
  · rw [md_rst hn]
    have : i ∉ vs ∧ (c2[i]? = some (.own d) ∨ c2[i]? = some (.io d)) := by
      rcases e with e | e
      · rcases rst_case hn e with ⟨n, z⟩ | ⟨_, z | ⟨d', z, _⟩⟩
        · exact ⟨n, .inl z⟩
        · cases z
        · cases z
      · rcases rst_case hn e with ⟨n, z⟩ | ⟨_, z | ⟨d', z, _⟩⟩
        · exact ⟨n, .inr z⟩
        · cases z
        · cases z
    obtain ⟨a, h1, h2⟩ := ok'.own i d this.2
    exact ⟨a, by rw [wipe_out this.1] at h1; exact h1, h2⟩
  · obtain ⟨q1, d2, q2⟩ := (ow i a).mp ⟨q, d, .inl r⟩
    rcases rst_case hn r with ⟨n, z⟩ | ⟨_, z | ⟨d', z, _⟩⟩
    · exact ok'.new i a d q1 z
    · cases z
    · cases z
  · rcases rst_case hn e with ⟨n, z⟩ | ⟨_, z | ⟨d', z, _⟩⟩
    · obtain ⟨a, h1, h2⟩ := ok'.io i d z
      exact ⟨a, h1, by rw [wipe_out n] at h2; exact h2⟩
    · cases z
    · cases z
  · obtain ⟨d, h1, h2⟩ := ok'.ios i a q
    obtain ⟨q3, hj⟩ := wipe_some h2
    exact ⟨d, by rw [rst_out hj]; exact h1, q3⟩
/-- an object of X is written -/
theorem cut_updX {M : Addr → Prop} {p : Addr} {o : HO} (m : M p) : cut (upd H p o) M = cut H M := by
  funext b
  by_cases mb : M b
  · rw [cut_in mb, cut_in mb]
  · rw [cut_of mb, cut_of mb, upd_ne (fun z => mb (by rw [z]; exact m))]
theorem Ok.updX {p : Addr} {o : HO} (ok : Ok K B IO Z σ H cs) (hx : Z p) (hB : B p = none) : Ok K B IO Z σ (upd H p o) cs := by
  have m : Md σ cs Z p := .inl hx
  have dm : ∀ b, H b ≠ none → upd H p o b ≠ none := fun b h => by
    by_cases e : b = p
    · rw [e, upd_same]; exact fun z => nomatch z
    · rw [upd_ne e]; exact h
  refine ⟨ok.len, fun i d e => ?_, fun i d e => ?_, ok.inj, ok.dis, fun a h => dm a (ok.xin a h), ok.new, ok.io, ok.ios, fun a u h e => ?_, fun a h => dm a (ok.dom a h)⟩
  · rw [cut_updX m]
    exact ok.dat i d e
  · rw [cut_updX m]
    obtain ⟨a, h1, h2⟩ := ok.own i d e
    have ne : a ≠ p := fun z => ok.dis i a ⟨h1, d, e⟩ (by rw [z]; exact hx)
    exact ⟨a, h1, by rw [upd_ne ne]; exact h2⟩
  · have ne : a ≠ p := fun z => by rw [z, hB] at e; cases e
    rw [upd_ne ne]
    exact ok.base a u h e
/-- a new object is kept apart -/
theorem Ok.newX {p : Addr} {o : HO} (ok : Ok K B IO Z σ H cs) (hp : H p = none) : Ok K B IO (XP Z p) σ (upd H p o) cs ∧ Le (cut H (Md σ cs Z)) (cut (upd H p o) (Md σ cs (XP Z p))) := by
  have ne : ∀ b, H b ≠ none → b ≠ p := fun b hb z => hb (by rw [z]; exact hp)
  have hle : Le (cut H (Md σ cs Z)) (cut (upd H p o) (Md σ cs (XP Z p))) := le_cut fun b u q m => by
    have nb := ne b (by rw [q]; exact fun z => nomatch z)
    refine ⟨by rw [upd_ne nb]; exact q, fun z => ?_⟩
    rcases z with (z | z) | z
    · exact m (.inl z)
    · exact nb z
    · exact m (.inr z)
  refine ⟨⟨ok.len, fun i d e => ?_, fun i d e => ?_, ok.inj, fun i a q z => ?_, fun a z => ?_, ok.new, ok.io, ok.ios, fun a u h e => Ex.new hp a u (ok.base a u h e), fun a h => (Ex.new hp).dom (ok.dom a h)⟩, hle⟩
  · obtain ⟨v, h1, h2⟩ := ok.dat i d e
    exact ⟨v, h1, h2.mono hle⟩
  · obtain ⟨a, h1, h2⟩ := ok.own i d e
    exact ⟨a, h1, by rw [upd_ne (ne a h2.some)]; exact h2.mono hle⟩
  · rcases z with z | z
    · exact ok.dis i a q z
    · exact ne a (ok.md a (.inr ⟨i, q⟩)) z
  · rcases z with z | z
    · exact (Ex.new hp).dom (ok.xin a z)
    · rw [z, upd_same]; exact fun z => nomatch z
end
section
variable {X : Cx} {K : PySem.W.Frag} {tg elt iter : Expr} {wi : TI} {fi : IX} {g : TG} {tgs vs : List Nat} {fg : GX} {tt : TT} {ft : TX} {te : TE} {fe : EX}
def loopC (fg : GX) (ft : TX) (fe : EX) (vs : List Nat) : List D → List D → En → Option (List D × En)
  | [], acc, cs => some (acc, cs)
  | x :: r, acc, cs => (fg x cs).bind fun c => (ft c).bind fun b => if b.1 = true then (fe b.2).bind fun z => if (noOwn z.2.2 vs && decide (acc.length < LIM)) = true then loopC fg ft fe vs r (acc ++ [z.1]) (clr z.2.2 vs) else none
    else if noOwn b.2 vs = true then loopC fg ft fe vs r acc (clr b.2 vs) else none
def evLc (vs : List Nat) (fi : IX) (fg : GX) (ft : TX) (fe : EX) : EX := fun cs => (fi cs).bind fun r => if noOwn r.2 vs = true then (loopC fg ft fe vs r.1 [] (clr r.2 vs)).bind fun z => some (.list z.1, true, rst z.2 r.2 vs) else none
theorem se_lc (hi : SI K wi fi) (hg : SG K g tgs fg) (ht : STt K tt ft) (he : SE K te fe) (hv : ∀ j ∈ tgs, j ∈ vs) : SE K (tLc wi g tt te vs) (evLc vs fi fg ft fe) := by
  intro B IO Z σ H cs ok d fr cs' e Q q
  unfold evLc at e
  obtain ⟨⟨items, c1⟩, e1, e⟩ := Option.bind_eq_some_iff.mp e
  dsimp only at e
  split at e
  · rename_i hn
    obtain ⟨⟨ds, c2⟩, e2, e⟩ := Option.bind_eq_some_iff.mp e
    cases e
    refine hi ok e1 _ fun J H1 p1 jok Dl hD => ?_
    have hB : B Dl = none := by
      cases z : B Dl with
      | none => rfl
      | some o => exact absurd hD (p1.ok.dom Dl (by rw [z]; exact fun z => nomatch z))
    have np : ¬ Z Dl := fun z => p1.ok.xin Dl z hD
    obtain ⟨ok1, le1⟩ := (p1.ok.wipe hn).newX (o := .lst []) hD
    rw [md_wipe hn] at le1
    have dom1 : ∀ a, H1 a ≠ none → upd H1 Dl (.lst []) a ≠ none := fun a h => (Ex.new hD).dom h
    refine ⟨fun i m H' => m = items.length - i ∧ i ≤ items.length ∧ ∃ (c : En) (acc : List D) (vals : List V), Ok K B IO (XP Z Dl) (L2.wipe σ vs) H' c ∧ Le (cut H1 (Md σ c1 Z)) (cut H' (Md (L2.wipe σ vs) c (XP Z Dl))) ∧ (∀ a, Z a → H' a = H1 a) ∧ (∀ a, H1 a ≠ none → H' a ≠ none) ∧
      H' Dl = some (.lst vals) ∧ Paired (Rp K (cut H' (Md (L2.wipe σ vs) c (XP Z Dl)))) vals acc ∧ loopC fg ft fe vs (items.drop i) acc c = some (ds, c2),
      ⟨_, rfl, Nat.zero_le _, clr c1 vs, [], [], ok1, le1, fun a h => upd_ne (fun z => np (by rw [← z]; exact h)), dom1, upd_same, .nil, by rw [List.drop_zero]; exact e2⟩, ?_⟩
    rintro i m H' ⟨rfl, hil, c, acc, vals, ok', le', keep', dom', hD', pa, el⟩
    obtain ⟨js, jg⟩ := jok H' _ ok'.md le' i
    by_cases hlt : i < items.length
    · have hd : items[i]? = some items[i] := List.getElem?_eq_getElem hlt
      obtain ⟨go, yl⟩ := jg _ hd
      rw [List.drop_eq_getElem_cons hlt] at el
      unfold loopC at el
      obtain ⟨c3, e3, el⟩ := Option.bind_eq_some_iff.mp el
      obtain ⟨⟨b, c4⟩, e4, el⟩ := Option.bind_eq_some_iff.mp el
      dsimp only at el
      refine .inr ⟨go, fun H' => ∃ (c : En) (acc : List D) (vals : List V), Ok K B IO (XP Z Dl) (L2.wipe σ vs) H' c ∧ Le (cut H1 (Md σ c1 Z)) (cut H' (Md (L2.wipe σ vs) c (XP Z Dl))) ∧ (∀ a, Z a → H' a = H1 a) ∧ (∀ a, H1 a ≠ none → H' a ≠ none) ∧
        H' Dl = some (.lst vals) ∧ Paired (Rp K (cut H' (Md (L2.wipe σ vs) c (XP Z Dl)))) vals acc ∧ loopC fg ft fe vs (items.drop (i + 1)) acc c = some (ds, c2), fun H3 ⟨c, acc, vals, h⟩ => ⟨items.length - (i + 1), by omega, rfl, hlt, c, acc, vals, h⟩, fun x H2 hy => ?_⟩
      obtain ⟨ex, rx⟩ := yl x H2 hy
      have p2 := ok'.ext ex
      refine hg p2.ok rx e3 _ fun σ3 H3 p3 ag => ⟨wipe_agr ag hv, ?_⟩
      have hw := wipe_agr ag hv
      refine ht p3.ok e4 _ fun H4 p4 => ?_
      have p234 := (p2.trans p3).trans p4
      have hz : ∀ a, Z a → XP Z Dl a := fun a h => .inl h
      cases b with
      | false =>
        refine iteF ?_
        simp only [Bool.false_eq_true, if_false] at el
        split at el
        · rename_i hn4
          have ok5 := p4.ok.wipe hn4
          rw [hw] at ok5
          have em : Md (L2.wipe σ vs) (clr c4 vs) (XP Z Dl) = Md σ3 c4 (XP Z Dl) := by rw [← hw]; exact md_wipe hn4
          exact ⟨clr c4 vs, acc, vals, ok5, by rw [em]; exact le'.trans p234.le, fun a h => (p234.keep a (hz a h)).trans (keep' a h), fun a h => p234.dom a (dom' a h), (p234.keep Dl (.inr rfl)).trans hD', by rw [em]; exact Rp.monoA p234.le pa, el⟩
        · cases el
      | true =>
        refine iteT ?_
        simp only [if_true] at el
        obtain ⟨⟨z, fz, c5⟩, e5, el⟩ := Option.bind_eq_some_iff.mp el
        dsimp only at el
        split at el
        · rename_i hn5
          rw [Bool.and_eq_true, decide_eq_true_eq] at hn5
          refine he p4.ok e5 _ fun y H5 w => ?_
          have p5 := p234.trans w.post
          have ok5 := w.post.ok.wipe hn5.1
          rw [hw] at ok5
          have em : Md (L2.wipe σ vs) (clr c5 vs) (XP Z Dl) = Md σ3 c5 (XP Z Dl) := by rw [← hw]; exact md_wipe hn5.1
          have md : Md (L2.wipe σ vs) (clr c5 vs) (XP Z Dl) Dl := .inl (.inr rfl)
          refine ⟨vals, (p5.keep Dl (.inr rfl)).trans hD', by rw [Pd.len pa]; exact lim_lt hn5.2, clr c5 vs, acc ++ [z], vals ++ [y], ok5.updX (.inr rfl) hB, ?_, fun a h => ?_, fun a h => ?_, upd_same, ?_, el⟩
          · rw [cut_updX md, em]
            exact le'.trans p5.le
          · rw [upd_ne (fun z => np (by rw [← z]; exact h))]
            exact (p5.keep a (hz a h)).trans (keep' a h)
          · by_cases ea : a = Dl
            · rw [ea, upd_same]; exact fun z => nomatch z
            · rw [upd_ne ea]; exact p5.dom a (dom' a h)
          · rw [cut_updX md, em]
            exact Pd.append (Rp.monoA p5.le pa) (.cons w.rp .nil)
        · cases el
    · have hi' : i = items.length := by omega
      subst hi'
      rw [List.drop_length] at el
      cases el
      refine .inl ⟨js (rfl), q _ H' ?_⟩
      have dat1 : ∀ (j : Nat) d, c1[j]? = some (.dat d) → ∃ v, σ[j]? = some (some v) ∧ Rp K (cut H' (Md (L2.wipe σ vs) c2 (XP Z Dl))) v d := fun j d hj => by
        obtain ⟨v, h1, h2⟩ := p1.ok.dat j d hj
        exact ⟨v, h1, h2.mono le'⟩
      refine ⟨Dl, rfl, ?_, ⟨ok'.restore hn dat1, by rw [md_rst hn]; exact p1.le.trans le', fun a h => (keep' a h).trans (p1.keep a h), fun a h => dom' a (p1.dom a h), np⟩, by rw [md_rst hn, hD']; exact .lst pa⟩
      cases z : H Dl with
      | none => rfl
      | some o => exact absurd hD (p1.dom Dl (by rw [z]; exact fun z => nomatch z))
  · cases e
end
end Qp
end
section
set_option Elab.async false
set_option linter.all false
set_option maxRecDepth 100000
set_option maxHeartbeats 2000000
/-! Qj: comprehensions of the text; defs. -/
namespace Qp
open PySem PySem.Spec PyProof.Rows L2
section
variable {X : Cx} {tg elt iter : Expr} {ifs : List Expr} {scope : Scope} {own : List (Str × Nat)} {pos spos : Pos} {wi : TI} {fi : IX} {g : TG} {tgs : List Nat} {fg : GX} {tt : TT} {ft : TX} {te : TE} {fe : EX} {vs : List Nat}
structure DTs (X : Cx) (ifs : List Expr) (t : TT) (f : TX) : Prop where
  pts : PTs X ifs t
  st : STt X.K t f
def evYes : TX := fun cs => some (true, cs)
theorem dts_nil : DTs X [] tYes evYes := by
  refine ⟨pts_nil, ?_⟩
  intro B IO Z σ H cs ok b cs' e Q q
  cases e
  exact q H (Post.refl ok)
theorem dts_one {c : Expr} (h : DT X c tt ft) : DTs X [c] tt ft := ⟨pts_one h.pt, h.st⟩
/-- readings by the function alone -/
def teOf (K : PySem.W.Frag) (f : EX) : TE := fun σ H Q => ∃ (B : Hp) (IO : List (Nat × Addr)) (Z : Addr → Prop) (cs : En) (d : D) (fr : Bool) (cs' : En), Ok K B IO Z σ H cs ∧ f cs = some (d, fr, cs') ∧ ∀ v H', Pe K B IO Z σ H cs σ H' cs' fr v d → Q v H'
def ttOf (K : PySem.W.Frag) (f : TX) : TT := fun σ H Q => ∃ (B : Hp) (IO : List (Nat × Addr)) (Z : Addr → Prop) (cs : En) (b : Bool) (cs' : En), Ok K B IO Z σ H cs ∧ f cs = some (b, cs') ∧ ∀ H', Post K B IO Z σ H cs σ H' cs' → Q b H'
def tgOf (K : PySem.W.Frag) (tgs : List Nat) (f : GX) : TG := fun v σ H Q => ∃ (B : Hp) (IO : List (Nat × Addr)) (Z : Addr → Prop) (cs : En) (d : D) (cs' : En), Ok K B IO Z σ H cs ∧ Rp K (cut H (Md σ cs Z)) v d ∧ f d cs = some cs' ∧ ∀ σ' H', Post K B IO Z σ H cs σ' H' cs' → Agr tgs σ σ' → Q σ' H'
theorem DE.can {e : Expr} {t : TE} {f : EX} (h : DE X e t f) : PE X e (teOf X.K f) := ⟨fun pins s σ H Q I ⟨_, _, _, _, _, _, _, ok, e, q⟩ => h.pe.run pins s σ H Q I (h.se ok e Q q)⟩
theorem DTs.can (h : DTs X ifs tt ft) : PTs X ifs (ttOf X.K ft) := ⟨fun pins s σ H Q I ⟨_, _, _, _, _, _, ok, e, q⟩ => h.pts.run pins s σ H Q I (h.st ok e Q q)⟩
theorem DG.can (h : DG X tg g tgs fg) : PG X tg (tgOf X.K tgs fg) := ⟨fun pins s σ H v u Q I r ⟨_, _, _, _, _, _, ok, rp, e, q⟩ => h.pg.run pins s σ H v u Q I r (h.sg ok rp e Q q)⟩
theorem se_can {K : PySem.W.Frag} {f : EX} : SE K (teOf K f) f := fun ok _ _ _ e _ q => ⟨_, _, _, _, _, _, _, ok, e, q⟩
theorem st_can {K : PySem.W.Frag} {f : TX} : STt K (ttOf K f) f := fun ok _ _ e _ q => ⟨_, _, _, _, _, _, ok, e, q⟩
theorem sg_can {K : PySem.W.Frag} {f : GX} : SG K (tgOf K tgs f) tgs f := fun ok _ _ r _ e _ q => ⟨_, _, _, _, _, _, ok, r, e, q⟩
theorem de_lc (hc : X.calm = true) (hN : X.N.Nodup) (hi : DI X tg iter wi fi) (ok : BlkOk X.N X.env.scope scope own)
    (hg : ∀ (s : Shared) (H : Hp) (C : Addr) (cl : List (Str × Addr)) (fp : List Addr), ∃ g, DG (X.blk s H scope (compEnvC scope cl C X.env) fp) tg g tgs fg) (ht : ∀ (s : Shared) (H : Hp) (C : Addr) (cl : List (Str × Addr)) (fp : List Addr), ∃ tt, DTs (X.blk s H scope (compEnvC scope cl C X.env) fp) ifs tt ft)
    (he : ∀ (s : Shared) (H : Hp) (C : Addr) (cl : List (Str × Addr)) (fp : List Addr), ∃ te, DE (X.blk s H scope (compEnvC scope cl C X.env) fp) elt te fe) (hvs : own.map (·.2) = vs := by rfl) (hv : ∀ j ∈ tgs, j ∈ vs := by decide) (hs : ∀ x, foldedSetIterable iter X.env x = pure x := by intro _; rfl) :
    DE X (.ListComp elt [⟨tg, iter, ifs, 0⟩] scope pos) (tLc wi (tgOf X.K tgs fg) (ttOf X.K ft) (teOf X.K fe) (own.map (·.2))) (evLc vs fi fg ft fe) := by
  subst hvs
  exact ⟨pe_lc hc hN hi.pi ok (fun s H C cl fp => (hg s H C cl fp).elim fun _ q => q.can) (fun s H C cl fp => (ht s H C cl fp).elim fun _ q => q.can) (fun s H C cl fp => (he s H C cl fp).elim fun _ q => q.can) hs,
    se_lc hi.si sg_can st_can se_can hv⟩
theorem ds_lc {i : Nat} {y : Str} {py : Pos} (hc : X.calm = true) (hN : X.N.Nodup) (hy : X.N[i]? = some y) (hyl : X.env.scope.names.lookup y = some .local) (hsw : swapsWith (.ListComp elt [⟨tg, iter, ifs, 0⟩] scope pos) (some (.Name y py)) spos.line X.env = pure true)
    (hi : DI X tg iter wi fi) (ok : BlkOk X.N X.env.scope scope own)
    (hg : ∀ (s : Shared) (H : Hp) (C : Addr) (cl : List (Str × Addr)) (fp : List Addr), ∃ g, DG (X.blk s H scope (compEnvC scope cl C X.env) fp) tg g tgs fg) (ht : ∀ (s : Shared) (H : Hp) (C : Addr) (cl : List (Str × Addr)) (fp : List Addr), ∃ tt, DTs (X.blk s H scope (compEnvC scope cl C X.env) fp) ifs tt ft)
    (he : ∀ (s : Shared) (H : Hp) (C : Addr) (cl : List (Str × Addr)) (fp : List Addr), ∃ te, DE (X.blk s H scope (compEnvC scope cl C X.env) fp) elt te fe) (hvs : own.map (·.2) = vs := by rfl) (hv : ∀ j ∈ tgs, j ∈ vs := by decide) (hs : ∀ x, foldedSetIterable iter X.env x = pure x := by intro _; rfl) :
    DS X (.Assign [.Name y py] (.ListComp elt [⟨tg, iter, ifs, 0⟩] scope pos) spos) (tAsg (tLc wi (tgOf X.K tgs fg) (ttOf X.K ft) (teOf X.K fe) (own.map (·.2))) (gName i)) (sAsg i (evLc vs fi fg ft fe)) := by
  subst hvs
  exact ⟨ps_setLc hc hN hy hyl hsw hi.pi ok (fun s H C cl fp => (hg s H C cl fp).elim fun _ q => q.can) (fun s H C cl fp => (ht s H C cl fp).elim fun _ q => q.can) (fun s H C cl fp => (he s H C cl fp).elim fun _ q => q.can) hs,
    ss_asg (se_lc hi.si sg_can st_can se_can hv)⟩
end

/-! ### defs: the promise by a function on data -/
def spP (K : PySem.W.Frag) (n : Nat) (F : GA) : Sp := fun vs H Q _ => ∃ (M : Addr → Prop) (ds : List D) (z : D) (fr : Bool), (∀ a, M a → H a ≠ none) ∧ ds.length = n ∧ Paired (Rp K (cut H M)) vs ds ∧ F ds = some (z, fr) ∧ ∀ v H', Ex H H' → VOk K H H' M fr v z → Q v H'
/-- .. the first argument is changed -/
abbrev GI := D → List D → Option (D × Bool × D)
def spI (K : PySem.W.Frag) (n : Nat) (F : GI) : Sp := fun vs H Q _ => ∃ (M : Addr → Prop) (a : Addr) (us : List V) (d0 : D) (ds : List D) (z : D) (fr : Bool) (d' : D), vs = .ref a :: us ∧ (∀ b, M b → H b ≠ none) ∧ ds.length + 1 = n ∧ M a ∧ OwnAt K (cut H M) (H a) d0 ∧ Paired (Rp K (cut H M)) us ds ∧ F d0 ds = some (z, fr, d') ∧
  ∀ v H', (∀ b u, b ≠ a → H b = some u → H' b = some u) → OwnAt K (cut H' (fun b => M b ∨ (fr = true ∧ v = .ref b))) (H' a) d' → VOk K H H' M fr v z → Q v H'
def outP (r : Option Res) : Option (D × Bool) := match r with
  | some (.rt d fr _) => some (d, fr)
  | some (.nx _) => some (.none, false)
  | _ => none
def runP (n m : Nat) (body : SX) : GA := fun ds => if ds.length = n then outP (body (ds.map Cell.dat ++ List.replicate m .no)) else none
def io0 (c : En) : Option D := match (c[(0 : Nat)]? : Option Cell) with
  | some (.io d) => some d
  | _ => none
theorem io0_of {c : En} {d : D} (h : io0 c = some d) : c[(0 : Nat)]? = some (.io d) := by
  unfold io0 at h
  split at h
  · rename_i d' e
    cases h
    exact e
  · cases h
def outI (r : Option Res) : Option (D × Bool × D) := match r with
  | some (.rt d fr c) => (io0 c).bind fun d' => some (d, fr, d')
  | some (.nx c) => (io0 c).bind fun d' => some (.none, false, d')
  | _ => none
def runI (n m : Nat) (body : SX) : GI := fun d0 ds => if ds.length + 1 = n then outI (body (.io d0 :: (ds.map Cell.dat ++ List.replicate m .no))) else none
section
variable {P : Program} {w : World} {K : PySem.W.Frag} {mg : Str → Option Value} {base : Heap}
theorem Pe.vok {B : Hp} {IO : List (Nat × Addr)} {M : Addr → Prop} {σ σ' : L2.St} {H H' : Hp} {cs c : En} {fr : Bool} {v : V} {d : D} (h : Pe K B IO M σ H cs σ' H' c fr v d) : VOk K H H' M fr v d := by
  unfold Pe at h
  unfold VOk
  cases fr with
  | false => exact h.2.mono (le_cut fun a o e m => ⟨e, fun z => m (.inl z)⟩)
  | true =>
    obtain ⟨p, e, hp, q, o⟩ := h
    exact ⟨p, e, hp, o.mono (le_cut fun a o e m => ⟨e, fun z => m (.inl z)⟩)⟩
theorem get_dat {ds : List D} {m : Nat} {i : Nat} {d : D} (h : (ds.map Cell.dat ++ List.replicate m Cell.no)[i]? = some (.dat d)) : ds[i]? = some d := by
  by_cases hi : i < ds.length
  · rw [List.getElem?_append_left (by rw [List.length_map]; exact hi), List.getElem?_map] at h
    cases e : ds[i]? with
    | none => rw [e] at h; cases h
    | some x => rw [e] at h; cases h; rfl
  · rw [List.getElem?_append_right (by rw [List.length_map]; omega), List.getElem?_replicate] at h
    split at h <;> cases h
theorem get_own {ds : List D} {m : Nat} {i : Nat} {d : D} : (ds.map Cell.dat ++ List.replicate m Cell.no)[i]? ≠ some (.own d) ∧ (ds.map Cell.dat ++ List.replicate m Cell.no)[i]? ≠ some (.io d) := by
  by_cases hi : i < ds.length
  · rw [List.getElem?_append_left (by rw [List.length_map]; exact hi), List.getElem?_map]
    cases e : ds[i]? with
    | none => exact ⟨fun z => (by cases z), fun z => (by cases z)⟩
    | some x => exact ⟨fun z => (by cases z), fun z => (by cases z)⟩
  · rw [List.getElem?_append_right (by rw [List.length_map]; omega), List.getElem?_replicate]
    split <;> exact ⟨fun z => (by cases z), fun z => (by cases z)⟩
theorem get_start {vs : List V} {m : Nat} {i : Nat} {v : V} (h : vs[i]? = some v) : (vs.map some ++ List.replicate m none)[i]? = some (some v) := by
  have hi : i < vs.length := (List.getElem?_eq_some_iff.mp h).1
  rw [List.getElem?_append_left (by rw [List.length_map]; exact hi), List.getElem?_map, h]
  rfl
theorem fn_pure {x qual : Str} {st : Stmt} {f : Addr} {fd : FuncData} {N ps : List Str} {k n m : Nat} {g : SX} (F : Fun K x qual st f fd) (S : FnScope N ps (defScope st)) (hN : N.length = n + m) (hp : ps.length = n)
    (body : ∀ (cdv : Value) (A : Around) (outer : List Env) (s : Shared) (H : Hp) (E : XK), Room k (A.deeper (envOfC qual (defScope st) s.heap.objs.size f cdv)) → ∃ t, DB (cxOf CX0 P w K mg base N qual (defScope st) f cdv A outer s H E).nox (defBody st) t g) :
    FnOk P w K mg base CX0 (k + 1) f fd ps (spP K n (runP n m g)) := by
  refine F.ok S (fun vs H Q E h => ?_) (fun cdv A outer s H vs Q E hr h => ?_)
  · obtain ⟨M, ds, z, fr, _, hl, p, _⟩ := h
    rw [Pd.len p, hl, hp]
  · obtain ⟨M, ds, z, fr, hm, hl, p, e, q⟩ := h
    obtain ⟨t, d⟩ := body cdv A outer s H E hr
    refine ⟨t, d.pss, ?_⟩
    unfold runP at e
    rw [if_pos hl] at e
    have hs : L2.start N vs = vs.map some ++ List.replicate m none := by
      unfold L2.start
      rw [Pd.len p, hl, hN, Nat.add_sub_cancel_left]
    have hmd : ∀ a, ¬ Md (L2.start N vs) (ds.map Cell.dat ++ List.replicate m .no) M a ∨ M a := fun a => by
      by_cases ha : M a
      · exact .inr ha
      · refine .inl fun z => ?_
        rcases z with z | ⟨i, _, d', z | z⟩
        · exact ha z
        · exact get_own.1 z
        · exact get_own.2 z
    have ok : Ok K H [] M (L2.start N vs) H (ds.map Cell.dat ++ List.replicate m .no) := by
      refine ⟨?_, fun i d' h => ?_, fun i d' h => ?_, fun i j a h => ?_, fun i a h => ?_, hm, fun i a d' _ h => absurd h get_own.1, fun i d' h => absurd h get_own.2, fun i a h => (by cases h), fun a o _ h => h, fun a h => h⟩
      · rw [hs, List.length_append, List.length_append, List.length_map, List.length_map, List.length_replicate, List.length_replicate, Pd.len p]
      · obtain ⟨v, h1, h2⟩ := Pd.get p (get_dat h)
        refine ⟨v, by rw [hs]; exact get_start h1, h2.mono (le_cut fun a o e' n' => ⟨e', (hmd a).resolve_right n'⟩)⟩
      · rcases h with h | h
        · exact absurd h get_own.1
        · exact absurd h get_own.2
      · obtain ⟨_, d', h | h⟩ := h
        · exact absurd h get_own.1
        · exact absurd h get_own.2
      · obtain ⟨_, d', h | h⟩ := h
        · exact absurd h get_own.1
        · exact absurd h get_own.2
    have exf : ∀ {σ' H' c}, Post K H [] M (L2.start N vs) H (ds.map Cell.dat ++ List.replicate m .no) σ' H' c → Ex H H' := fun p a o e => p.ok.base a o (fun i h => (by cases h)) e
    cases er : g (ds.map Cell.dat ++ List.replicate m .no) with
    | none => rw [er] at e; cases e
    | some r =>
      rw [er] at e
      refine d.ss ok er _ ?_
      cases r with
      | nx c => cases e; exact fun σ' H' p' => q _ H' (exf p') (VOk.of .non)
      | rt d' fr' c => cases e; exact fun v σ' H' p' => q v H' (exf p'.post) p'.vok
      | bk c => cases e
      | ct c => cases e
theorem fn_none {f : Addr} {fd : FuncData} {ps : List Str} {n : Nat} (hp : ps.length = n) : FnOk P w K mg base CX0 0 f fd ps (spP K n fun _ => none) :=
  ⟨fun vs H Q E ⟨_, _, _, _, _, _, _, e, _⟩ => (by cases e), fun A outer s H args us vs Q E _ _ _ _ ⟨_, _, _, _, _, _, _, e, _⟩ => (by cases e)⟩
theorem fn_noneI {f : Addr} {fd : FuncData} {ps : List Str} {n : Nat} (hp : ps.length = n) : FnOk P w K mg base CX0 0 f fd ps (spI K n fun _ _ => none) :=
  ⟨fun vs H Q E ⟨_, _, _, _, _, _, _, _, _, _, _, _, _, _, e, _⟩ => (by cases e), fun A outer s H args us vs Q E _ _ _ _ ⟨_, _, _, _, _, _, _, _, _, _, _, _, _, _, e, _⟩ => (by cases e)⟩
theorem fn_inout {x qual : Str} {st : Stmt} {f : Addr} {fd : FuncData} {N ps : List Str} {k n m : Nat} {g : SX} (F : Fun K x qual st f fd) (S : FnScope N ps (defScope st)) (hN : N.length = n + m) (hp : ps.length = n)
    (body : ∀ (cdv : Value) (A : Around) (outer : List Env) (s : Shared) (H : Hp) (E : XK), Room k (A.deeper (envOfC qual (defScope st) s.heap.objs.size f cdv)) → ∃ t, DB (cxOf CX0 P w K mg base N qual (defScope st) f cdv A outer s H E).nox (defBody st) t g) :
    FnOk P w K mg base CX0 (k + 1) f fd ps (spI K n (runI n m g)) := by
  refine F.ok S (fun vs H Q E h => ?_) (fun cdv A outer s H vs Q E hr h => ?_)
  · obtain ⟨M, a, us, d0, ds, z, fr, d', rfl, _, hl, _, _, p, _⟩ := h
    rw [List.length_cons, Pd.len p, hl, hp]
  · obtain ⟨M, a, us, d0, ds, z, fr, d', rfl, hm, hl, ma, oa, p, e, q⟩ := h
    obtain ⟨t, d⟩ := body cdv A outer s H E hr
    refine ⟨t, d.pss, ?_⟩
    unfold runI at e
    rw [if_pos hl] at e
    have hs : L2.start N (.ref a :: us) = some (.ref a) :: (us.map some ++ List.replicate m none) := by
      unfold L2.start
      rw [List.length_cons, Pd.len p, hl, hN, Nat.add_sub_cancel_left]
      rfl
    have own0 : ∀ (i : Nat) (b : Addr), OwnS (L2.start N (.ref a :: us)) (.io d0 :: (ds.map Cell.dat ++ List.replicate m .no)) i b → i = 0 ∧ b = a := by
      intro i b ⟨h1, d'', h2⟩
      cases i with
      | zero =>
        rw [hs] at h1
        have : some (V.ref a) = some (V.ref b) := Option.some.inj h1
        cases this
        exact ⟨rfl, rfl⟩
      | succ i =>
        rcases h2 with h2 | h2
        · exact absurd (show (ds.map Cell.dat ++ List.replicate m Cell.no)[i]? = _ from h2) get_own.1
        · exact absurd (show (ds.map Cell.dat ++ List.replicate m Cell.no)[i]? = _ from h2) get_own.2
    have hmd : ∀ b, Md (L2.start N (.ref a :: us)) (.io d0 :: (ds.map Cell.dat ++ List.replicate m .no)) (fun b => M b ∧ b ≠ a) b ↔ M b := fun b => by
      constructor
      · rintro (h | ⟨i, h⟩)
        · exact h.1
        · rw [(own0 i b h).2]; exact ma
      · intro h
        by_cases hb : b = a
        · exact .inr ⟨0, by rw [hs, hb]; rfl, d0, .inr rfl⟩
        · exact .inl ⟨h, hb⟩
    have emd : Md (L2.start N (.ref a :: us)) (.io d0 :: (ds.map Cell.dat ++ List.replicate m .no)) (fun b => M b ∧ b ≠ a) = M := funext fun b => propext (hmd b)
    have ok : Ok K H [(0, a)] (fun b => M b ∧ b ≠ a) (L2.start N (.ref a :: us)) H (.io d0 :: (ds.map Cell.dat ++ List.replicate m .no)) := by
      refine ⟨?_, fun i d' h => ?_, fun i d' h => ?_, fun i j b h h' => (own0 i b h).1.trans (own0 j b h').1.symm, fun i b h z => z.2 (own0 i b h).2, fun b h => hm b h.1, fun i b d' _ h => ?_, fun i d' h => ?_, fun i b h => ?_, fun b o _ h => h, fun b h => h⟩
      · rw [hs, List.length_cons, List.length_cons, List.length_append, List.length_append, List.length_map, List.length_map, List.length_replicate, List.length_replicate, Pd.len p]
      · rw [emd]
        cases i with
        | zero => cases h
        | succ i =>
          obtain ⟨v, h1, h2⟩ := Pd.get p (get_dat (show (ds.map Cell.dat ++ List.replicate m Cell.no)[i]? = _ from h))
          exact ⟨v, by rw [hs]; exact get_start h1, h2⟩
      · rw [emd]
        cases i with
        | zero =>
          rcases h with h | h
          · cases h
          · cases h
            exact ⟨a, by rw [hs]; rfl, oa⟩
        | succ i =>
          rcases h with h | h
          · exact absurd (show (ds.map Cell.dat ++ List.replicate m Cell.no)[i]? = _ from h) get_own.1
          · exact absurd (show (ds.map Cell.dat ++ List.replicate m Cell.no)[i]? = _ from h) get_own.2
      · cases i with
        | zero => cases h
        | succ i => exact absurd (show (ds.map Cell.dat ++ List.replicate m Cell.no)[i]? = _ from h) get_own.1
      · cases i with
        | zero => exact ⟨a, List.mem_singleton.mpr rfl, by rw [hs]; rfl⟩
        | succ i => exact absurd (show (ds.map Cell.dat ++ List.replicate m Cell.no)[i]? = _ from h) get_own.2
      · have e' := List.mem_singleton.mp h
        cases e'
        exact ⟨d0, rfl, by rw [hs]; rfl⟩
    have exf : ∀ {Y σ' H' c}, Ok K H [(0, a)] Y σ' H' c → ∀ b u, b ≠ a → H b = some u → H' b = some u := fun o b u hb e => o.base b u (fun i h => hb (by cases List.mem_singleton.mp h; rfl)) e
    have ioa : ∀ {Y σ' H' c d'}, Ok K H [(0, a)] Y σ' H' c → c[(0 : Nat)]? = some (.io d') → OwnAt K (cut H' (Md σ' c Y)) (H' a) d' := fun {Y σ' H' c d'} o h => by
      obtain ⟨b, h1, h2⟩ := o.own 0 d' (.inr h)
      obtain ⟨d'', _, h3⟩ := o.ios 0 a (List.mem_singleton.mpr rfl)
      rw [h1] at h3
      cases h3
      exact h2
    have mle : ∀ {σ' c} {Y : Addr → Prop} {b}, (∀ x, (M x ∧ x ≠ a) → Y x) → OwnS σ' c 0 a → M b → Md σ' c Y b := fun {σ' c Y b} hY h0 hb => by
      by_cases e : b = a
      · rw [e]; exact .inr ⟨0, h0⟩
      · exact .inl (hY b ⟨hb, e⟩)
    cases er : g (.io d0 :: (ds.map Cell.dat ++ List.replicate m .no)) with
    | none => rw [er] at e; cases e
    | some r =>
      rw [er] at e
      refine d.ss ok er _ ?_
      cases r with
      | nx c =>
        obtain ⟨d2, hc, e⟩ := Option.bind_eq_some_iff.mp (show (io0 c).bind _ = _ from e)
        have hc := io0_of hc
        cases e
        intro σ' H' p'
        have io0 := ioa p'.ok hc
        obtain ⟨d3, _, h3⟩ := p'.ok.ios 0 a (List.mem_singleton.mpr rfl)
        refine q _ H' (exf p'.ok) (io0.mono (le_cut fun b u e' n' => ⟨e', fun z => ?_⟩)) (VOk.of .non)
        rcases z with z | z
        · exact n' (mle (fun x h => h) ⟨h3, _, .inr hc⟩ z)
        · cases z.1
      | rt d2 fr2 c =>
        obtain ⟨d3, hc, e⟩ := Option.bind_eq_some_iff.mp (show (io0 c).bind _ = _ from e)
        have hc := io0_of hc
        cases e
        intro v σ' H' p'
        obtain ⟨d4, _, h3⟩ := p'.post.ok.ios 0 a (List.mem_singleton.mpr rfl)
        have h0 : OwnS σ' c 0 a := ⟨h3, _, .inr hc⟩
        unfold Pe at p'
        cases fr with
        | false =>
          obtain ⟨p1, r1⟩ := p'
          refine q v H' (exf p1.ok) ((ioa p1.ok hc).mono (le_cut fun b u e' n' => ⟨e', fun z => ?_⟩)) (VOk.of (r1.mono (le_cut fun b u e' n' => ⟨e', fun z => n' (mle (fun x h => h) h0 z)⟩)))
          rcases z with z | z
          · exact n' (mle (fun x h => h) h0 z)
          · cases z.1
        | true =>
          obtain ⟨p2, rfl, hp2, p1, o1⟩ := p'
          refine q _ H' (exf p1.ok) ((ioa p1.ok hc).mono (le_cut fun b u e' n' => ⟨e', fun z => ?_⟩)) ⟨p2, rfl, hp2, o1.mono (le_cut fun b u e' n' => ⟨e', fun z => ?_⟩)⟩
          · rcases z with z | ⟨_, z⟩
            · exact n' (mle (fun x h => .inl h) h0 z)
            · cases z
              exact n' (.inl (.inr rfl))
          · rcases z with z | z
            · exact n' (mle (fun x h => .inl h) h0 z)
            · exact n' (.inl (.inr z))
      | bk c => cases e
      | ct c => cases e
end
/-! ### calls of defs -/
section
variable {X : Cx} {e : Expr} {es : List Expr} {ts : TA} {fs : AX} {x : Str} {f : Addr} {fd : FuncData} {ps : List Str} {k n : Nat} {p pos : Pos} {F : GA} {G : GI}
def gN (n : Nat) (F : GA) : GA := fun ds => if ds.length = n then F ds else none
theorem sc_fn {K : PySem.W.Frag} : SRC K (fun vs H Q => spP K n F (vs ++ []) H Q E0) (gN n F) := by
  intro H M hm xs ds r z fr e Q q
  unfold gN at e
  split at e
  · rename_i hl
    exact ⟨M, ds, z, fr, hm, hl, by rw [List.append_nil]; exact r, e, q⟩
  · cases e
theorem de_call (hF : FnOk X.prog X.w X.K X.mg X.base CX0 k f fd ps (spP X.K n F)) (hr : Room k X.A) (hg : Gl X x) (hm : X.mg x = some (.ref f)) (hk : PySem.W.keepIn X.K (.ref f) = true) (hb : Binds X.K fd ps []) (ha : DA X (e :: es) ts fs)
    (hdb : (x == ("__debug__" : Str)) = false := by decide) (he : starEach (e :: es) X.env = (false, eval e X.env) :: starEach es X.env := by rfl) (hpl : (backTo pos (starEach es X.env)).any (·.1) = false := by rfl) :
    DE X (.Call (.Name x p) (e :: es) [] pos) (tCall (spP X.K n F) [] E0 ts) (evA (gN n F) fs) := ⟨pe_call hF hr hg hm hk hb .nil pass0 ha.pa hdb he hpl, se_A ha.sa sc_fn⟩
theorem de_call0 (hF : FnOk X.prog X.w X.K X.mg X.base CX0 k f fd ps (spP X.K n F)) (hr : Room k X.A) (hg : Gl X x) (hm : X.mg x = some (.ref f)) (hk : PySem.W.keepIn X.K (.ref f) = true) (hb : Binds X.K fd ps [])
    (hdb : (x == ("__debug__" : Str)) = false := by decide) : DE X (.Call (.Name x p) [] [] pos) (tCall (spP X.K n F) [] E0 tNil) (evA (gN n F) evNil) := ⟨pe_call0 hF hr hg hm hk hb .nil pass0 hdb, se_A da_nil.sa sc_fn⟩
def isOwn (cs : En) (i : Nat) : Bool := match cs[i]? with
  | some (.own _) => true
  | some (.io _) => true
  | _ => false
theorem Ok.isOwn {K : PySem.W.Frag} {B : Hp} {IO : List (Nat × Addr)} {Z : Addr → Prop} {σ : L2.St} {H : Hp} {cs : En} {i : Nat} (ok : Ok K B IO Z σ H cs) (h : isOwn cs i = true) : ∃ a, σ[i]? = some (some (.ref a)) := by
  unfold Qp.isOwn at h
  split at h
  · rename_i d hd
    obtain ⟨a, h1, _⟩ := ok.own i d (.inl hd)
    exact ⟨a, h1⟩
  · rename_i d hd
    obtain ⟨a, h1, _⟩ := ok.own i d (.inr hd)
    exact ⟨a, h1⟩
  · cases h
def setOwn (cs : En) (i : Nat) (d : D) : Option En := match cs[i]? with
  | some (.own _) => some (cs.set i (.own d))
  | some (.io _) => some (cs.set i (.io d))
  | _ => none
def evCI (n : Nat) (G : GI) (i : Nat) (fs : AX) : EX := fun cs => if isOwn cs i = true then (fs cs).bind fun r => if r.1.length + 1 = n then (cont r.2 i).bind fun d => (G d r.1).bind fun z => (setOwn r.2 i z.2.2).bind fun c => some (z.1, false, c) else none else none
theorem se_CI {K : PySem.W.Frag} {i : Nat} (ha : SA K ts fs) : SE K (tCall (spI K n G) [] E0 (tCons (tVar i) ts)) (evCI n G i fs) := by
  intro B IO Z σ H cs ok d fr cs' e Q q
  unfold evCI at e
  split at e
  · rename_i ho
    obtain ⟨⟨ds, c1⟩, e1, e⟩ := Option.bind_eq_some_iff.mp e
    dsimp only at e
    split at e
    · rename_i hl
      obtain ⟨d0, e2, e⟩ := Option.bind_eq_some_iff.mp e
      obtain ⟨⟨z, fz, d'⟩, e3, e⟩ := Option.bind_eq_some_iff.mp e
      obtain ⟨c2, e4, e⟩ := Option.bind_eq_some_iff.mp e
      cases e
      obtain ⟨a, hs⟩ := ok.isOwn ho
      refine ⟨_, hs, ha ok e1 _ fun vs H1 p1 r1 => ?_⟩
      have hc : (c1[i]? = some (.own d0) ∧ cs' = c1.set i (.own d')) ∨ (c1[i]? = some (.io d0) ∧ cs' = c1.set i (.io d')) := by
        unfold setOwn at e4
        unfold cont at e2
        dsimp only at e2 e4
        split at e4
        · rename_i dd hd
          rw [hd] at e2
          cases e2
          cases e4
          exact .inl ⟨hd, rfl⟩
        · rename_i dd hd
          rw [hd] at e2
          cases e2
          cases e4
          exact .inr ⟨hd, rfl⟩
        · cases e4
      have hc0 : c1[i]? = some (.own d0) ∨ c1[i]? = some (.io d0) := hc.imp (·.1) (·.1)
      obtain ⟨a', h1, oa⟩ := p1.ok.own i d0 hc0
      rw [hs] at h1
      cases h1
      have ma : Md σ c1 Z a := .inr ⟨i, hs, d0, hc0⟩
      refine ⟨Md σ c1 Z, a, vs, d0, ds, z, fz, d', by rw [List.append_nil], p1.ok.md, hl, ma, oa, r1, e3, fun v H2 kept oa' vo => ?_⟩
      refine q v H2 (Pe.pre p1 ?_)
      have oa2 : OwnAt K (cut H2 (Md σ c1 Z)) (H2 a) d' := oa'.mono (le_cut fun b u e n' => ⟨e, fun z => n' (.inl z)⟩)
      have po : Post K B IO Z σ H1 c1 σ H2 cs' := by
        have po := p1.ok.mutate hs hc0 kept oa2.some oa2
        rcases hc with ⟨h, h'⟩ | ⟨h, h'⟩
        · rw [h] at po; rw [h']; exact po
        · rw [h] at po; rw [h']; exact po
      refine .dat po ?_
      have vo' : Rp K (cut H2 (Md σ c1 Z)) v z := by
        unfold VOk at vo
        cases fz with
        | false => exact vo
        | true =>
          obtain ⟨p2, rfl, hp2, o2⟩ := vo
          exact o2.rp (cut_of fun m => p1.ok.md p2 m hp2) (le_cut fun b u e n' => ⟨e, fun z => n' (.inl z)⟩)
      have sub : ∀ b, Md σ cs' Z b → Md σ c1 Z b := fun b hb => by
        rcases hb with hb | ⟨j, h1, d'', h2⟩
        · exact .inl hb
        · by_cases ej : i = j
          · subst ej
            rw [hs] at h1
            cases h1
            exact ma
          · refine .inr ⟨j, h1, d'', ?_⟩
            rcases hc with ⟨_, h'⟩ | ⟨_, h'⟩
            · rw [h', List.getElem?_set_ne ej] at h2; exact h2
            · rw [h', List.getElem?_set_ne ej] at h2; exact h2
      exact vo'.mono (le_cut fun b u e n' => ⟨e, fun z => n' (sub b z)⟩)
    · cases e
  · cases e
theorem de_callI {i : Nat} {y : Str} {ypos : Pos} (hF : FnOk X.prog X.w X.K X.mg X.base CX0 k f fd ps (spI X.K n G)) (hr : Room k X.A) (hg : Gl X x) (hm : X.mg x = some (.ref f)) (hk : PySem.W.keepIn X.K (.ref f) = true) (hb : Binds X.K fd ps []) (hv : DE X (.Name y ypos) (tVar i) (evVar i)) (ha : DA X es ts fs)
    (hdb : (x == ("__debug__" : Str)) = false := by decide) (he : starEach (.Name y ypos :: es) X.env = (false, eval (.Name y ypos) X.env) :: starEach es X.env := by rfl) (hpl : (backTo pos (starEach es X.env)).any (·.1) = false := by rfl) :
    DE X (.Call (.Name x p) (.Name y ypos :: es) [] pos) (tCall (spI X.K n G) [] E0 (tCons (tVar i) ts)) (evCI n G i fs) := ⟨pe_call hF hr hg hm hk hb .nil pass0 (pa_cons hv.pe ha.pa he) hdb he hpl, se_CI ha.sa⟩
end
end Qp
end
section
set_option Elab.async false
set_option linter.all false
set_option maxRecDepth 100000
set_option maxHeartbeats 2000000
/-! Qk: the words that the printed terms use. -/
namespace Qp
open PySem PySem.Spec PyProof.Rows L2
section
variable {X : Cx} {K : PySem.W.Frag} {e a b : Expr} {es : List Expr} {te ta tb to : TE} {ts : TA} {fe fa fb fo : EX} {fs : AX} {pos fpos cpos xpos : Pos} {x : Str} {i : Nat}
def gSub : G2 := gII fun i j => .int (i - j)
def gMul : G2 := gIIc (fun i j => (decide (-(2 ^ 64) < i) && decide (i < 2 ^ 64)) || (decide (-(2 ^ 64) < j) && decide (j < 2 ^ 64))) fun i j => .int (i * j)
def gFdiv : G2 := gIIc (fun _ j => decide (0 < j) && decide (j < 1073741824)) fun i j => .int (i / j)
def gMod : G2 := gIIc (fun _ j => decide (0 < j)) fun i j => .int (i % j)
def gPow : G2 := gIIc (fun i j => decide (0 ≤ j) && (decide (j ≤ 1000000) && decide (i.natAbs < 2 ^ 64))) fun i j => .int (i ^ j.toNat)
def gLt : G2 := gII fun i j => .bool (decide (i < j))
def gLe : G2 := gII fun i j => .bool (decide (i ≤ j))
def gGt : G2 := gII fun i j => .bool (decide (j < i))
def gGe : G2 := gII fun i j => .bool (decide (j ≤ i))
theorem sr_sub : SR2 K (rI0 fun i j => .int (i - j)) gSub := sr_II (by intro _ _; rfl)
theorem sr_mul : SR2 K (rI CMul fun i j => .int (i * j)) gMul := sr_IIc (fun i j h => by
  rw [Bool.or_eq_true, Bool.and_eq_true, Bool.and_eq_true, decide_eq_true_eq, decide_eq_true_eq, decide_eq_true_eq, decide_eq_true_eq] at h
  exact h) (by intro _ _; rfl)
theorem sr_fdiv : SR2 K (rI CDiv fun i j => .int (i / j)) gFdiv := sr_IIc (fun i j h => by
  rw [Bool.and_eq_true, decide_eq_true_eq, decide_eq_true_eq] at h
  exact h) (by intro _ _; rfl)
theorem sr_mod : SR2 K (rI (fun _ j => 0 < j) fun i j => .int (i % j)) gMod := sr_IIc (fun i j h => of_decide_eq_true h) (by intro _ _; rfl)
theorem sr_pow : SR2 K (rI CPow fun i j => .int (i ^ j.toNat)) gPow := sr_IIc (fun i j h => by
  rw [Bool.and_eq_true, Bool.and_eq_true, decide_eq_true_eq, decide_eq_true_eq, decide_eq_true_eq] at h
  exact h) (by intro _ _; rfl)
theorem sr_lt : SR2 K (rI0 fun i j => .bl (decide (i < j))) gLt := sr_II (by intro _ _; rfl)
theorem sr_le : SR2 K (rI0 fun i j => .bl (decide (i ≤ j))) gLe := sr_II (by intro _ _; rfl)
theorem sr_gt : SR2 K (rI0 fun i j => .bl (decide (j < i))) gGt := sr_II (by intro _ _; rfl)
theorem sr_ge : SR2 K (rI0 fun i j => .bl (decide (j ≤ i))) gGe := sr_II (by intro _ _; rfl)
def gNeg : G1
  | .int i => some (.int (-i), false)
  | _ => none
theorem sr_neg : SR1 K (rU fun i => .int (-i)) gNeg := by
  intro H M hm x d rx z fr q Q k
  unfold gNeg at q
  split at q
  · cases q
    exact ⟨_, rx.int_eq, k _ H (Ex.refl H) (VOk.of (.int _))⟩
  · cases q
/-- in-place + on ints, for a[i] += e -/
def gAddI : G2 := gII fun i j => .int (i + j)
theorem sr_ipadd : SR2 K (ipI fun i j => i + j) gAddI := by
  intro H M hm x y d e rx ry z fr q Q k
  unfold gAddI gII at q
  split at q
  · cases q
    exact ⟨_, _, rx.int_eq, ry.int_eq, k _ H (Ex.refl H) (VOk.of (.int _))⟩
  · cases q
/-- sep.join(list or tuple of texts) -/
def strsOf : List D → Option (List Str)
  | [] => some []
  | .str s :: r => (strsOf r).bind fun t => some (s :: t)
  | _ => none
theorem strs_pd {F : Hp} : ∀ {vs : List V} {ds : List D} {ss : List Str}, Paired (Rp K F) vs ds → strsOf ds = some ss → vs = ss.map V.str
  | _, _, ss, .nil, h => by cases h; rfl
  | _, _, ss, .cons r t, h => by
    unfold strsOf at h
    split at h
    · rename_i hh; cases hh
    · rename_i s r' hh
      cases hh
      obtain ⟨t', h1, h⟩ := Option.bind_eq_some_iff.mp h
      cases h
      rw [r.str_eq, strs_pd t h1]
      rfl
    · cases h
def gJoin (s : Str) (d : D) : Option (D × Bool) := match d with
  | .list ds => (strsOf ds).bind fun ss => if (ss.map (·.length)).sum + ss.length * s.length ≤ LIM then some (.str (Txt.join s ss), false) else none
  | .tuple ds => (strsOf ds).bind fun ss => if (ss.map (·.length)).sum + ss.length * s.length ≤ LIM then some (.str (Txt.join s ss), false) else none
  | _ => none
theorem lim16 {n : Nat} (h : n ≤ LIM) : n ≤ 16777216 := Nat.le_trans h (by decide)
def rJoin (K : PySem.W.Frag) : V → List V → Hp → VK → Prop := fun x xs H Q => ∃ a p, ∃ ys : List Str, x = .str a ∧ xs = [.ref p] ∧ (SqL K H p (ys.map V.str) ∨ SqT K H p (ys.map V.str)) ∧
      (ys.map (·.length)).sum + ys.length * a.length ≤ 16777216 ∧ Q (.str (Txt.join a ys)) H
def evJoin (fo fe : EX) : EX := fun cs => (fo cs).bind fun s => match s.1 with
  | .str t => (fe s.2.2).bind fun r => (gJoin t r.1).bind fun z => some (z.1, z.2, r.2.2)
  | _ => none
theorem de_join {apos : Pos} (ho : DE X a to fo) (he : DE X e te fe) (hs : starEach [e] X.env = [(false, eval e X.env)] := by rfl) (hbase : attributeBase a "join" X.env (eval a X.env) = eval a X.env := by rfl) (hline : (apos.endLine == pos.line) = true := by rfl) :
    DE X (.Call (.Attribute a "join" apos) [e] [] pos) (tM1 (rJoin X.K) to te) (evJoin fo fe) := by
  refine ⟨pe_join ho.pe he.pe hs hbase hline, ?_⟩
  intro B IO Z σ H cs ok d fr cs' e Q q
  unfold evJoin at e
  obtain ⟨⟨d1, f1, c1⟩, e1, e⟩ := Option.bind_eq_some_iff.mp e
  dsimp only at e
  split at e
  · rename_i s
    obtain ⟨⟨d2, f2, c2⟩, e2, e⟩ := Option.bind_eq_some_iff.mp e
    obtain ⟨⟨z, fz⟩, e3, e⟩ := Option.bind_eq_some_iff.mp e
    cases e
    refine ho.se ok e1 _ fun x H1 w1 => ⟨⟨s, w1.rp.str_eq⟩, he.se w1.post.ok e2 _ fun y H2 w2 => ?_⟩
    have p := w1.post.trans w2.post
    unfold gJoin at e3
    dsimp only at e3
    split at e3
    · obtain ⟨ss, h1, e3⟩ := Option.bind_eq_some_iff.mp e3
      split at e3
      · rename_i hl
        cases e3
        obtain ⟨a', xs, rfl, h2, p2⟩ := w2.rp.list
        refine ⟨s, a', ss, w1.rp.str_eq, rfl, .inl ?_, lim16 hl, q _ H2 (.dat p (.str _))⟩
        rw [← strs_pd p2 h1]
        exact cut_le.sqL h2
      · cases e3
    · obtain ⟨ss, h1, e3⟩ := Option.bind_eq_some_iff.mp e3
      split at e3
      · rename_i hl
        cases e3
        obtain ⟨a', xs, rfl, h2, p2⟩ := w2.rp.tuple
        refine ⟨s, a', ss, w1.rp.str_eq, rfl, .inr ?_, lim16 hl, q _ H2 (.dat p (.str _))⟩
        rw [← strs_pd p2 h1]
        exact cut_le.sqT h2
      · cases e3
    · cases e3
  · cases e
end
/-! ### several targets -/
section
variable {X : Cx} {e : Expr} {te : TE} {fe : EX} {pos xpos : Pos} {x : Str} {i : Nat} {tg : Expr} {g : TG} {tgs : List Nat} {fg : GX}
def sAsgT (f : EX) (fg : GX) : SX := fun cs => (f cs).bind fun r => (fg r.1 r.2.2).bind fun c => some (.nx c)
theorem ds_asgT (he : DE X e te fe) (hg : DG X tg g tgs fg) (hs : swapsWithSole [tg] e pos.line X.env = pure false := by rfl) (hw : swappedStores [tg] e X.env = pure none := by rfl)
    (h1 : (assignEach [tg] X.env).map (·.2) = [assign tg X.env] := by rfl) : DS X (.Assign [tg] e pos) (tAsg te g) (sAsgT fe fg) := by
  refine ⟨ps_asg he.pe hg.pg hs hw h1, ?_⟩
  intro B IO Z σ H cs ok r e Dn q
  unfold sAsgT at e
  obtain ⟨⟨d1, f1, c1⟩, e1, e⟩ := Option.bind_eq_some_iff.mp e
  obtain ⟨c2, e2, e⟩ := Option.bind_eq_some_iff.mp e
  cases e
  exact he.se ok e1 _ fun v H1 w => hg.sg w.post.ok w.rp e2 _ fun σ' H' p _ => q σ' H' (w.post.trans p)
end
/-! ### a def of the text for its callers -/
structure Cal (P : Program) (w : World) (K : PySem.W.Frag) (mg : Str → Option Value) (base : Heap) (x : Str) (k : Nat) (ps : List Str) (sp : Sp) where
  f : Addr
  fd : FuncData
  ok : FnOk P w K mg base CX0 k f fd ps sp
  b : Binds K fd ps []
  kp : PySem.W.keepIn K (.ref f) = true
  m : mg x = some (.ref f)
section
variable {X : Cx} {e : Expr} {es : List Expr} {ts : TA} {fs : AX} {x : Str} {ps : List Str} {k n : Nat} {p pos : Pos} {F : GA} {G : GI}
theorem dc (c : Cal X.prog X.w X.K X.mg X.base x k ps (spP X.K n F)) (hr : Room k X.A) (ha : DA X (e :: es) ts fs) (hg : Gl X x := by rfl)
    (hdb : (x == ("__debug__" : Str)) = false := by decide) (he : starEach (e :: es) X.env = (false, eval e X.env) :: starEach es X.env := by rfl) (hpl : (backTo pos (starEach es X.env)).any (·.1) = false := by rfl) :
    DE X (.Call (.Name x p) (e :: es) [] pos) (tCall (spP X.K n F) [] E0 ts) (evA (gN n F) fs) := de_call c.ok hr hg c.m c.kp c.b ha hdb he hpl
theorem dc0 (c : Cal X.prog X.w X.K X.mg X.base x k ps (spP X.K n F)) (hr : Room k X.A) (hg : Gl X x := by rfl) (hdb : (x == ("__debug__" : Str)) = false := by decide) : DE X (.Call (.Name x p) [] [] pos) (tCall (spP X.K n F) [] E0 tNil) (evA (gN n F) evNil) := de_call0 c.ok hr hg c.m c.kp c.b hdb
theorem dcI {i : Nat} {y : Str} {ypos : Pos} (c : Cal X.prog X.w X.K X.mg X.base x k ps (spI X.K n G)) (hr : Room k X.A) (hv : DE X (.Name y ypos) (tVar i) (evVar i)) (ha : DA X es ts fs) (hg : Gl X x := by rfl)
    (hdb : (x == ("__debug__" : Str)) = false := by decide) (he : starEach (.Name y ypos :: es) X.env = (false, eval (.Name y ypos) X.env) :: starEach es X.env := by rfl) (hpl : (backTo pos (starEach es X.env)).any (·.1) = false := by rfl) :
    DE X (.Call (.Name x p) (.Name y ypos :: es) [] pos) (tCall (spI X.K n G) [] E0 (tCons (tVar i) ts)) (evCI n G i fs) := de_callI c.ok hr hg c.m c.kp c.b hv ha hdb he hpl
end
/-! ### the law's end -/
theorem law_sp {K : PySem.W.Frag} {F : GA} {ns : List Int} {H : Hp} {a : Addr} (h : SqL K H a (ns.map V.int)) (e : F [.list (ns.map .int)] = some (.bool true, false)) : spP K 1 F [.ref a] H (fun v _ => v = .bl true) fun _ _ _ => False := by
  have c : cut H (fun _ => False) = H := funext fun b => cut_of (fun z => z)
  refine ⟨fun _ => False, [.list (ns.map .int)], .bool true, false, fun _ z => z.elim, rfl, .cons ?_ .nil, e, fun v H' _ r => (show Rp K _ v (.bool true) from r).bool_eq⟩
  rw [c]
  refine .lst h ?_
  clear h e
  induction ns with
  | nil => exact .nil
  | cons n r ih => exact .cons (.int n) ih
end Qp
end
section
set_option Elab.async false
set_option linter.all false
set_option maxRecDepth 100000
set_option maxHeartbeats 2000000
/-! Ql: how the codes are reckoned, from within: a part is entered when what is ahead of it is known. -/
namespace Qp
open PySem PySem.Spec PyProof.Rows L2
abbrev OE := Option (D × Bool × En)
section
variable {d x y z : D} {fr f1 b : Bool} {c cs c1 : En} {i n m : Nat} {f fa fb fe fi : EX} {g : G2} {u : G1} {G : GA} {fs : AX} {t s : TX} {p q : SX} {xs : List D}
def fin (c : En) (o : Option (D × Bool)) : OE := o.bind fun z => some (z.1, z.2, c)
@[simp] theorem fin_s : fin c (some (z, fr)) = some (z, fr, c) := rfl
@[simp] theorem evC_ap : evC d cs = some (d, false, cs) := rfl
def kC (o : Option Cell) : Option D := match o with
  | some (.dat d) => some d
  | some (.own d) => some d
  | some (.io d) => some d
  | _ => none
@[simp] theorem cont_ap : cont cs i = kC cs[i]? := rfl
@[simp] theorem kC_d : kC (some (.dat d)) = some d := rfl
@[simp] theorem kC_o : kC (some (.own d)) = some d := rfl
@[simp] theorem kC_i : kC (some (.io d)) = some d := rfl
def kVar (i : Nat) (cs : En) (o : Option Cell) : OE := match o with
  | some (.dat d) => some (d, false, cs)
  | some (.own d) => some (d, false, cs.set i (.dat d))
  | _ => none
@[simp] theorem evVar_ap : evVar i cs = kVar i cs cs[i]? := rfl
@[simp] theorem kVar_d : kVar i cs (some (.dat d)) = some (d, false, cs) := rfl
@[simp] theorem kVar_o : kVar i cs (some (.own d)) = some (d, false, cs.set i (.dat d)) := rfl
def k2' (g : G2) (x : D) (o : OE) : OE := o.bind fun r => fin r.2.2 (g x r.1)
def k2 (g : G2) (fb : EX) (o : OE) : OE := o.bind fun r => k2' g r.1 (fb r.2.2)
@[simp] theorem ev2_ap : ev2 g fa fb cs = k2 g fb (fa cs) := rfl
@[simp] theorem k2_s : k2 g fb (some (x, f1, c)) = k2' g x (fb c) := rfl
@[simp] theorem k2'_s : k2' g x (some (y, f1, c)) = fin c (g x y) := rfl
def k1 (u : G1) (o : OE) : OE := o.bind fun r => fin r.2.2 (u r.1)
@[simp] theorem ev1_ap : ev1 u fa cs = k1 u (fa cs) := rfl
@[simp] theorem k1_s : k1 u (some (x, f1, c)) = fin c (u x) := rfl
def kT (o : OE) : Option (Bool × En) := o.bind fun r => match r.1 with
  | .bool b => some (b, r.2.2)
  | _ => none
@[simp] theorem evT_ap : evT fa cs = kT (fa cs) := rfl
@[simp] theorem kT_s : kT (some (.bool b, f1, c)) = some (b, c) := rfl
def kAndT (t : TX) (o : Option (Bool × En)) : Option (Bool × En) := o.bind fun r => if r.1 = true then t r.2 else some (false, r.2)
@[simp] theorem evAndT_ap : evAndT t s cs = kAndT s (t cs) := rfl
@[simp] theorem kAndT_t : kAndT s (some (true, c)) = s c := rfl
@[simp] theorem kAndT_f : kAndT s (some (false, c)) = some (false, c) := rfl
def kOrT (t : TX) (o : Option (Bool × En)) : Option (Bool × En) := o.bind fun r => if r.1 = true then some (true, r.2) else t r.2
@[simp] theorem evOrT_ap : evOrT t s cs = kOrT s (t cs) := rfl
@[simp] theorem kOrT_t : kOrT s (some (true, c)) = some (true, c) := rfl
@[simp] theorem kOrT_f : kOrT s (some (false, c)) = s c := rfl
def kNotT (o : Option (Bool × En)) : Option (Bool × En) := o.bind fun r => some (!r.1, r.2)
@[simp] theorem evNotT_ap : evNotT t cs = kNotT (t cs) := rfl
@[simp] theorem kNotT_s : kNotT (some (b, c)) = some (!b, c) := rfl
def kAndV (g : EX) (o : OE) : OE := o.bind fun r => match r.1 with
  | .bool true => g r.2.2
  | .bool false => some (.bool false, false, r.2.2)
  | _ => none
@[simp] theorem evAndV_ap : evAndV fa fb cs = kAndV fb (fa cs) := rfl
@[simp] theorem kAndV_t : kAndV fb (some (.bool true, f1, c)) = fb c := rfl
@[simp] theorem kAndV_f : kAndV fb (some (.bool false, f1, c)) = some (.bool false, false, c) := rfl
def kOrV (g : EX) (o : OE) : OE := o.bind fun r => match r.1 with
  | .bool true => some (.bool true, false, r.2.2)
  | .bool false => g r.2.2
  | _ => none
@[simp] theorem evOrV_ap : evOrV fa fb cs = kOrV fb (fa cs) := rfl
@[simp] theorem kOrV_t : kOrV fb (some (.bool true, f1, c)) = some (.bool true, false, c) := rfl
@[simp] theorem kOrV_f : kOrV fb (some (.bool false, f1, c)) = fb c := rfl
def kNotV (o : OE) : OE := o.bind fun r => match r.1 with
  | .bool b => some (.bool (!b), false, r.2.2)
  | _ => none
@[simp] theorem evNotV_ap : evNotV fa cs = kNotV (fa cs) := rfl
@[simp] theorem kNotV_s : kNotV (some (.bool b, f1, c)) = some (.bool (!b), false, c) := rfl
def kIfE (f g : EX) (o : Option (Bool × En)) : OE := o.bind fun r => if r.1 = true then f r.2 else g r.2
@[simp] theorem evIf_ap : evIf t fa fb cs = kIfE fa fb (t cs) := rfl
@[simp] theorem kIfE_t : kIfE fa fb (some (true, c)) = fa c := rfl
@[simp] theorem kIfE_f : kIfE fa fb (some (false, c)) = fb c := rfl
@[simp] theorem evNil_ap : evNil cs = some ([], cs) := rfl
def kCons' (x : D) (o : Option (List D × En)) : Option (List D × En) := o.bind fun s => some (x :: s.1, s.2)
def kCons (g : AX) (o : OE) : Option (List D × En) := o.bind fun r => kCons' r.1 (g r.2.2)
@[simp] theorem evCons_ap : evCons fa fs cs = kCons fs (fa cs) := rfl
@[simp] theorem kCons_s : kCons fs (some (x, f1, c)) = kCons' x (fs c) := rfl
@[simp] theorem kCons'_s : kCons' x (some (xs, c)) = some (x :: xs, c) := rfl
def kA (g : GA) (o : Option (List D × En)) : OE := o.bind fun r => fin r.2 (g r.1)
@[simp] theorem evA_ap : evA G fs cs = kA G (fs cs) := rfl
@[simp] theorem kA_s : kA G (some (xs, c)) = fin c (G xs) := rfl
@[simp] theorem gOne_ap : gOne u [d] = u d := rfl
@[simp] theorem gN0 : gN 0 G [] = G [] := rfl
@[simp] theorem gN1 : gN 1 G [x] = G [x] := rfl
@[simp] theorem gN2 : gN 2 G [x, y] = G [x, y] := rfl
@[simp] theorem gN3 : gN 3 G [x, y, z] = G [x, y, z] := rfl
@[simp] theorem gN4 : gN 4 G [x, y, z, d] = G [x, y, z, d] := rfl
def kI2 (g : G2) (y : D) (c : En) (o : Option D) : OE := o.bind fun d => fin c (g d y)
def kI1 (g : G2) (i : Nat) (o : OE) : OE := o.bind fun s => kI2 g s.1 s.2.2 (cont s.2.2 i)
def kI0 (g : G2) (i : Nat) (fb : EX) (cs : En) (o : Option D) : OE := o.bind fun _ => kI1 g i (fb cs)
@[simp] theorem evIxV_ap : evIxV g i fb cs = kI0 g i fb cs (cont cs i) := rfl
@[simp] theorem kI0_s : kI0 g i fb cs (some d) = kI1 g i (fb cs) := rfl
@[simp] theorem kI1_s : kI1 g i (some (y, f1, c)) = kI2 g y c (cont c i) := rfl
@[simp] theorem kI2_s : kI2 g y c (some d) = fin c (g d y) := rfl
def kV2 (g : G2) (x : D) (c : En) (o : Option D) : OE := o.bind fun d => fin c (g x d)
def kV1 (g : G2) (i : Nat) (o : OE) : OE := o.bind fun s => kV2 g s.1 s.2.2 (cont s.2.2 i)
@[simp] theorem evVIn_ap : evVIn g fa i cs = kV1 g i (fa cs) := rfl
@[simp] theorem kV1_s : kV1 g i (some (x, f1, c)) = kV2 g x c (cont c i) := rfl
@[simp] theorem kV2_s : kV2 g x c (some d) = fin c (g x d) := rfl
def kU (u : G1) (c : En) (o : Option D) : OE := o.bind fun d => fin c (u d)
@[simp] theorem evV1_ap : evV1 u i cs = kU u cs (cont cs i) := rfl
@[simp] theorem kU_s : kU u c (some d) = fin c (u d) := rfl
def kIsi (n : String) (c : En) (o : Option D) : OE := o.bind fun d => (kitB (tyD d) n).bind fun b => some (.bool b, false, c)
@[simp] theorem evIsiV_ap {n : String} : evIsiV n i cs = kIsi n cs (cont cs i) := rfl
def kIsiE (n : String) (o : OE) : OE := o.bind fun r => kIsi n r.2.2 (some r.1)
@[simp] theorem evIsi_ap {n : String} : evIsi n fa cs = kIsiE n (fa cs) := rfl
@[simp] theorem kIsiE_s {n : String} : kIsiE n (some (d, f1, c)) = kIsi n c (some d) := rfl
/-- which of the six types a datum has -/
def isT (n : String) : D → Bool
  | .none => false
  | .bool _ => n == "bool" || n == "int"
  | .int _ => n == "int"
  | .str _ => n == "str"
  | .list _ => n == "list"
  | .tuple _ => n == "tuple"
  | .dict _ => n == "dict"
theorem kit_isT {n : String} (h : n ∈ ["int", "bool", "str", "list", "tuple", "dict"]) (d : D) : kitB (tyD d) n = some (isT n d) := by
  have k : ∀ a ∈ ["NoneType", "bool", "int", "str", "list", "tuple", "dict"], ∀ n ∈ ["int", "bool", "str", "list", "tuple", "dict"], kitB a n = some (a == n || (a == "bool" && n == "int")) := by decide +kernel
  have e : ∀ n ∈ ["int", "bool", "str", "list", "tuple", "dict"], ∀ d : D, (tyD d == n || (tyD d == "bool" && n == "int")) = isT n d := by
    intro n h d
    simp only [List.mem_cons, List.not_mem_nil, or_false] at h
    rcases h with rfl | rfl | rfl | rfl | rfl | rfl <;> cases d <;> rfl
  rw [k (tyD d) (by cases d <;> simp [tyD]) n h, e n h d]
theorem kIsi_of {n : String} (h : n ∈ ["int", "bool", "str", "list", "tuple", "dict"]) : kIsi n c (some d) = some (.bool (isT n d), false, c) := by
  show (kitB (tyD d) n).bind _ = _
  rw [kit_isT h d]
  rfl
@[simp] theorem kIsi_int : kIsi "int" c (some d) = some (.bool (isT "int" d), false, c) := kIsi_of (by decide)
@[simp] theorem kIsi_bool : kIsi "bool" c (some d) = some (.bool (isT "bool" d), false, c) := kIsi_of (by decide)
@[simp] theorem kIsi_str : kIsi "str" c (some d) = some (.bool (isT "str" d), false, c) := kIsi_of (by decide)
@[simp] theorem kIsi_list : kIsi "list" c (some d) = some (.bool (isT "list" d), false, c) := kIsi_of (by decide)
@[simp] theorem kIsi_tuple : kIsi "tuple" c (some d) = some (.bool (isT "tuple" d), false, c) := kIsi_of (by decide)
@[simp] theorem kIsi_dict : kIsi "dict" c (some d) = some (.bool (isT "dict" d), false, c) := kIsi_of (by decide)
/-! ### slices -/
@[simp] theorem evO0_ap : evO0 cs = some (none, cs) := rfl
def kO (o : OE) : Option (Option Int × En) := o.bind fun r => match r.1 with
  | .int i => some (some i, r.2.2)
  | _ => none
@[simp] theorem evO1_ap : evO1 fa cs = kO (fa cs) := rfl
@[simp] theorem kO_s {j : Int} : kO (some (.int j, f1, c)) = some (some j, c) := rfl
variable {fl fh : OX} {o1 o2 : Option Int}
def kS3 (d : D) (lo : Option Int) (o : Option (Option Int × En)) : OE := o.bind fun u => fin u.2 (gSl d lo u.1)
def kS2 (fh : OX) (d : D) (o : Option (Option Int × En)) : OE := o.bind fun s => kS3 d s.1 (fh s.2)
def kS1 (fl fh : OX) (o : OE) : OE := o.bind fun r => kS2 fh r.1 (fl r.2.2)
@[simp] theorem evSl_ap : evSl fa fl fh cs = kS1 fl fh (fa cs) := rfl
@[simp] theorem kS1_s : kS1 fl fh (some (d, f1, c)) = kS2 fh d (fl c) := rfl
@[simp] theorem kS2_s : kS2 fh d (some (o1, c)) = kS3 d o1 (fh c) := rfl
@[simp] theorem kS3_s : kS3 d o1 (some (o2, c)) = fin c (gSl d o1 o2) := rfl
def kSV4 (lo hi : Option Int) (c : En) (o : Option D) : OE := o.bind fun d => fin c (gSl d lo hi)
def kSV3 (i : Nat) (lo : Option Int) (o : Option (Option Int × En)) : OE := o.bind fun u => kSV4 lo u.1 u.2 (cont u.2 i)
def kSV2 (fh : OX) (i : Nat) (o : Option (Option Int × En)) : OE := o.bind fun s => kSV3 i s.1 (fh s.2)
def kSV1 (fl fh : OX) (i : Nat) (cs : En) (o : Option D) : OE := o.bind fun _ => kSV2 fh i (fl cs)
@[simp] theorem evSlV_ap : evSlV i fl fh cs = kSV1 fl fh i cs (cont cs i) := rfl
@[simp] theorem kSV1_s : kSV1 fl fh i cs (some d) = kSV2 fh i (fl cs) := rfl
@[simp] theorem kSV2_s : kSV2 fh i (some (o1, c)) = kSV3 i o1 (fh c) := rfl
@[simp] theorem kSV3_s : kSV3 i o1 (some (o2, c)) = kSV4 o1 o2 c (cont c i) := rfl
@[simp] theorem kSV4_s : kSV4 o1 o2 c (some d) = fin c (gSl d o1 o2) := rfl
/-! ### changes -/
def kOwnL (o : Option Cell) : Bool := match o with
  | some (.own (.list _)) => true
  | some (.io (.list _)) => true
  | _ => false
@[simp] theorem isOwnL_ap : isOwnL cs i = kOwnL cs[i]? := rfl
@[simp] theorem kOwnL_o : kOwnL (some (.own (.list xs))) = true := rfl
@[simp] theorem kOwnL_i : kOwnL (some (.io (.list xs))) = true := rfl
def kUp (cs : En) (i : Nat) (f : D → Option D) (o : Option Cell) : Option En := match o with
  | some (.own d) => (f d).bind fun d' => some (cs.set i (.own d'))
  | some (.io d) => (f d).bind fun d' => some (cs.set i (.io d'))
  | _ => none
def kUpO (cs : En) (i : Nat) (o : Option D) : Option En := o.bind fun d' => some (cs.set i (.own d'))
def kUpI (cs : En) (i : Nat) (o : Option D) : Option En := o.bind fun d' => some (cs.set i (.io d'))
variable {h : D → Option D}
@[simp] theorem upL_ap : upL cs i h = kUp cs i h cs[i]? := rfl
@[simp] theorem kUp_o : kUp cs i h (some (.own d)) = kUpO cs i (h d) := rfl
@[simp] theorem kUp_i : kUp cs i h (some (.io d)) = kUpI cs i (h d) := rfl
@[simp] theorem kUpO_s : kUpO cs i (some d) = some (cs.set i (.own d)) := rfl
@[simp] theorem kUpI_s : kUpI cs i (some d) = some (cs.set i (.io d)) := rfl
def kApp2 (o : Option En) : OE := o.bind fun c => some (.none, false, c)
def kApp1 (i : Nat) (o : OE) : OE := o.bind fun r => kApp2 (upL r.2.2 i (fApp r.1))
def kApp0 (i : Nat) (f : EX) (cs : En) (b : Bool) : OE := if b = true then kApp1 i (f cs) else none
@[simp] theorem evApp_ap : evApp i f cs = kApp0 i f cs (isOwnL cs i) := rfl
@[simp] theorem kApp0_t : kApp0 i f cs true = kApp1 i (f cs) := rfl
@[simp] theorem kApp1_s : kApp1 i (some (d, f1, c)) = kApp2 (upL c i (fApp d)) := rfl
@[simp] theorem kApp2_s : kApp2 (some c) = some (.none, false, c) := rfl
theorem fApp_of (h : xs.length < LIM) : fApp d (.list xs) = some (.list (xs ++ [d])) := by
  show (if xs.length < LIM then _ else _) = _
  rw [if_pos h]
/-! ### statements -/
@[simp] theorem sNx_ap : sNx cs = some (.nx cs) := rfl
@[simp] theorem sBk_ap : sBk cs = some (.bk cs) := rfl
@[simp] theorem sCt_ap : sCt cs = some (.ct cs) := rfl
@[simp] theorem sRetN_ap : sRetN cs = some (.rt .none false cs) := rfl
def kSeq (q : SX) (o : Option Res) : Option Res := o.bind fun r => match r with
  | .nx c => q c
  | r => some r
@[simp] theorem sSeq_ap : sSeq p q cs = kSeq q (p cs) := rfl
@[simp] theorem kSeq_n : kSeq q (some (.nx c)) = q c := rfl
@[simp] theorem kSeq_r : kSeq q (some (.rt d fr c)) = some (.rt d fr c) := rfl
@[simp] theorem kSeq_b : kSeq q (some (.bk c)) = some (.bk c) := rfl
@[simp] theorem kSeq_c : kSeq q (some (.ct c)) = some (.ct c) := rfl
def kIf (p q : SX) (o : Option (Bool × En)) : Option Res := o.bind fun r => if r.1 = true then p r.2 else q r.2
@[simp] theorem sIf_ap : sIf t p q cs = kIf p q (t cs) := rfl
@[simp] theorem kIf_t : kIf p q (some (true, c)) = p c := rfl
@[simp] theorem kIf_f : kIf p q (some (false, c)) = q c := rfl
def kDrop (o : OE) : Option Res := o.bind fun r => some (.nx r.2.2)
@[simp] theorem sDrop_ap : sDrop f cs = kDrop (f cs) := rfl
@[simp] theorem kDrop_s : kDrop (some (d, f1, c)) = some (.nx c) := rfl
def kRet (o : OE) : Option Res := o.bind fun r => some (.rt r.1 r.2.1 r.2.2)
@[simp] theorem sRet_ap : sRet f cs = kRet (f cs) := rfl
@[simp] theorem kRet_s : kRet (some (d, f1, c)) = some (.rt d f1 c) := rfl
def kNo (o : Option Cell) : Bool := match o with
  | some (.io _) => false
  | some _ => true
  | none => false
@[simp] theorem noIo_ap : noIo cs i = kNo cs[i]? := rfl
@[simp] theorem kNo_n : kNo (some .no) = true := rfl
@[simp] theorem kNo_d : kNo (some (.dat d)) = true := rfl
@[simp] theorem kNo_o : kNo (some (.own d)) = true := rfl
@[simp] theorem cellOf_t : Qp.cellOf true d = .own d := rfl
@[simp] theorem cellOf_f : Qp.cellOf false d = .dat d := rfl
def kAsg' (i : Nat) (d : D) (fr : Bool) (c : En) (b : Bool) : Option Res := if b = true then some (.nx (c.set i (Qp.cellOf fr d))) else none
def kAsg (i : Nat) (o : OE) : Option Res := o.bind fun r => kAsg' i r.1 r.2.1 r.2.2 (noIo r.2.2 i)
@[simp] theorem sAsg_ap : sAsg i f cs = kAsg i (f cs) := rfl
@[simp] theorem kAsg_s : kAsg i (some (d, fr, c)) = kAsg' i d fr c (noIo c i) := rfl
@[simp] theorem kAsg'_t : kAsg' i d fr c true = some (.nx (c.set i (Qp.cellOf fr d))) := rfl
variable {gt : GX} {tg : GsX} {ft : TX} {items acc : List D} {fx : IX} {vs : List Nat}
def kAT2 (o : Option En) : Option Res := o.bind fun c => some (.nx c)
def kAT (gt : GX) (o : OE) : Option Res := o.bind fun r => kAT2 (gt r.1 r.2.2)
@[simp] theorem sAsgT_ap : sAsgT f gt cs = kAT gt (f cs) := rfl
@[simp] theorem kAT_s : kAT gt (some (d, fr, c)) = kAT2 (gt d c) := rfl
@[simp] theorem kAT2_s : kAT2 (some c) = some (.nx c) := rfl
def kSet3 (o : Option En) : Option Res := o.bind fun c => some (.nx c)
def kSet2 (i : Nat) (x : D) (o : OE) : Option Res := o.bind fun s => kSet3 (upL s.2.2 i (fSet s.1 x))
def kSet1 (i : Nat) (fi : EX) (x : D) (c : En) (b : Bool) : Option Res := if b = true then kSet2 i x (fi c) else none
def kSet (i : Nat) (fi : EX) (o : OE) : Option Res := o.bind fun r => kSet1 i fi r.1 r.2.2 (isOwnL r.2.2 i)
@[simp] theorem sSet_ap : sSet i fi fe cs = kSet i fi (fe cs) := rfl
@[simp] theorem kSet_s : kSet i fi (some (x, f1, c)) = kSet1 i fi x c (isOwnL c i) := rfl
@[simp] theorem kSet1_t : kSet1 i fi x c true = kSet2 i x (fi c) := rfl
@[simp] theorem kSet2_s : kSet2 i x (some (y, f1, c)) = kSet3 (upL c i (fSet y x)) := rfl
@[simp] theorem kSet3_s : kSet3 (some c) = some (.nx c) := rfl
def kG4 (i : Nat) (k : D) (c : En) (o : Option (D × Bool)) : Option Res := o.bind fun z => if z.2 = false then kSet3 (upL c i (fSet k z.1)) else none
def kG3 (g : G2) (i : Nat) (k old : D) (o : OE) : Option Res := o.bind fun r => kG4 i k r.2.2 (g old r.1)
def kG2 (g : G2) (i : Nat) (fe : EX) (k : D) (c : En) (o : Option D) : Option Res := o.bind fun old => kG3 g i k old (fe c)
def kG1 (g : G2) (i : Nat) (fe : EX) (k : D) (c : En) (o : Option D) : Option Res := o.bind fun d => kG2 g i fe k c (getL d k)
def kG (g : G2) (i : Nat) (fe : EX) (o : OE) : Option Res := o.bind fun s => kG1 g i fe s.1 s.2.2 (cont s.2.2 i)
def kG0 (g : G2) (i : Nat) (fi fe : EX) (cs : En) (b : Bool) : Option Res := if b = true then kG g i fe (fi cs) else none
@[simp] theorem sAugIx_ap : sAugIx g i fi fe cs = kG0 g i fi fe cs (isOwnL cs i) := by
  unfold sAugIx kG0 kG kG1 kG2 kG3 kG4 kSet3
  rfl
@[simp] theorem kG0_t : kG0 g i fi fe cs true = kG g i fe (fi cs) := rfl
@[simp] theorem kG_s : kG g i fe (some (x, f1, c)) = kG1 g i fe x c (cont c i) := rfl
@[simp] theorem kG1_s : kG1 g i fe x c (some d) = kG2 g i fe x c (getL d x) := rfl
@[simp] theorem kG2_s : kG2 g i fe x c (some d) = kG3 g i x d (fe c) := rfl
@[simp] theorem kG3_s : kG3 g i x d (some (y, f1, c)) = kG4 i x c (g d y) := rfl
@[simp] theorem kG4_s : kG4 i x c (some (y, false)) = kSet3 (upL c i (fSet x y)) := rfl
/-! ### loops -/
def kFor (gt : GX) (p : SX) (o : Option (List D × En)) : Option Res := o.bind fun r => loopF gt p r.1 r.2
@[simp] theorem sFor_ap : sFor fx gt p cs = kFor gt p (fx cs) := rfl
@[simp] theorem kFor_s : kFor gt p (some (items, c)) = loopF gt p items c := rfl
@[simp] theorem loopF_nil : loopF gt p [] cs = some (.nx cs) := rfl
def kL2 (gt : GX) (p : SX) (r : List D) (o : Option Res) : Option Res := o.bind fun z => match z with
  | .nx c => loopF gt p r c
  | .ct c => loopF gt p r c
  | .bk c => some (.nx c)
  | .rt d fr c => some (.rt d fr c)
def kL1 (gt : GX) (p : SX) (r : List D) (o : Option En) : Option Res := o.bind fun c => kL2 gt p r (p c)
theorem loopF_cons : loopF gt p (x :: items) cs = kL1 gt p items (gt x cs) := rfl
@[simp] theorem kL1_s : kL1 gt p items (some c) = kL2 gt p items (p c) := rfl
@[simp] theorem kL2_n : kL2 gt p items (some (.nx c)) = loopF gt p items c := rfl
@[simp] theorem kL2_c : kL2 gt p items (some (.ct c)) = loopF gt p items c := rfl
@[simp] theorem kL2_b : kL2 gt p items (some (.bk c)) = some (.nx c) := rfl
@[simp] theorem kL2_r : kL2 gt p items (some (.rt d fr c)) = some (.rt d fr c) := rfl
@[simp] theorem gx_ap : gx i d cs = if kNo cs[i]? = true then some (cs.set i (.dat d)) else none := rfl
@[simp] theorem gxNil_ap : gxNil [] cs = some cs := rfl
def kGx (tg : GsX) (ds : List D) (o : Option En) : Option En := o.bind fun c => tg ds c
@[simp] theorem gxCons_ap : gxCons gt tg (x :: xs) cs = kGx tg xs (gt x cs) := rfl
@[simp] theorem kGx_s : kGx tg xs (some c) = tg xs c := rfl
@[simp] theorem gxTup_ap : gxTup tg n (.tuple xs) cs = if xs.length = n then tg xs cs else none := rfl
def kSq (o : OE) : Option (List D × En) := o.bind fun r => match r.1 with
  | .list ds => some (ds, r.2.2)
  | .tuple ds => some (ds, r.2.2)
  | _ => none
@[simp] theorem ixSeq_ap : ixSeq f cs = kSq (f cs) := rfl
@[simp] theorem kSq_l : kSq (some (.list xs, f1, c)) = some (xs, c) := rfl
@[simp] theorem kSq_t : kSq (some (.tuple xs, f1, c)) = some (xs, c) := rfl
def kR1 (o : Option (List D × En)) : Option (List D × En) := o.bind fun r => match r.1 with
  | [.int j] => if small j = true then some (rngD 0 j.toNat, r.2) else none
  | _ => none
@[simp] theorem ixR1_ap : ixR1 fs cs = kR1 (fs cs) := rfl
theorem kR1_of {j : Int} (h : small j = true) : kR1 (some ([.int j], c)) = some (rngD 0 j.toNat, c) := by
  show (if small j = true then _ else _) = _
  rw [if_pos h]
def kR2 (o : Option (List D × En)) : Option (List D × En) := o.bind fun r => match r.1 with
  | [.int i, .int j] => if (small i && small j) = true then some (rngD i (j - i).toNat, r.2) else none
  | _ => none
@[simp] theorem ixR2_ap : ixR2 fs cs = kR2 (fs cs) := rfl
theorem kR2_of {j k : Int} (h : small j = true) (h' : small k = true) : kR2 (some ([.int j, .int k], c)) = some (rngD j (k - j).toNat, c) := by
  show (if (small j && small k) = true then _ else _) = _
  rw [h, h']
  rfl
def kZip (o : Option (List D × En)) : Option (List D × En) := o.bind fun r => match r.1 with
  | [.list xs, .list ys] => some (zipD xs ys, r.2)
  | _ => none
@[simp] theorem ixZip_ap : ixZip fs cs = kZip (fs cs) := rfl
@[simp] theorem kZip_s {ys : List D} : kZip (some ([.list xs, .list ys], c)) = some (zipD xs ys, c) := rfl
def kEnum (o : Option (List D × En)) : Option (List D × En) := o.bind fun r => match r.1 with
  | [.list xs] => some (enumD 0 xs, r.2)
  | _ => none
@[simp] theorem ixEnum_ap : ixEnum fs cs = kEnum (fs cs) := rfl
@[simp] theorem kEnum_s : kEnum (some ([.list xs], c)) = some (enumD 0 xs, c) := rfl
/-! ### comprehensions -/
def kLc2 (vs : List Nat) (c : En) (o : Option (List D × En)) : OE := o.bind fun z => some (.list z.1, true, rst z.2 c vs)
def kLc1 (gt : GX) (ft : TX) (fe : EX) (vs : List Nat) (items : List D) (c : En) (b : Bool) : OE := if b = true then kLc2 vs c (loopC gt ft fe vs items [] (clr c vs)) else none
def kLc (gt : GX) (ft : TX) (fe : EX) (vs : List Nat) (o : Option (List D × En)) : OE := o.bind fun r => kLc1 gt ft fe vs r.1 r.2 (noOwn r.2 vs)
@[simp] theorem evLc_ap : evLc vs fx gt ft fe cs = kLc gt ft fe vs (fx cs) := rfl
@[simp] theorem kLc_s : kLc gt ft fe vs (some (items, c)) = kLc1 gt ft fe vs items c (noOwn c vs) := rfl
@[simp] theorem kLc1_t : kLc1 gt ft fe vs items c true = kLc2 vs c (loopC gt ft fe vs items [] (clr c vs)) := rfl
@[simp] theorem kLc2_s : kLc2 vs c (some (xs, c1)) = some (.list xs, true, rst c1 c vs) := rfl
@[simp] theorem evYes_ap : evYes cs = some (true, cs) := rfl
@[simp] theorem loopC_nil : loopC gt ft fe vs [] acc cs = some (acc, cs) := rfl
/-- a comprehension whose element is a function of the item and which leaves the cells alone -/
theorem loopC_map {v : D → D} (hx : ∀ x ∈ items, ∃ c1 f1, gt x cs = some c1 ∧ ft c1 = some (true, c1) ∧ fe c1 = some (v x, f1, c1) ∧ noOwn c1 vs = true ∧ clr c1 vs = cs) :
    ∀ acc : List D, acc.length + items.length ≤ LIM → loopC gt ft fe vs items acc cs = some (acc ++ items.map v, cs) := by
  induction items with
  | nil => intro acc _; simp
  | cons x r ih =>
    intro acc hl
    rw [List.length_cons] at hl
    obtain ⟨c1, f1, h1, h2, h3, h4, h5⟩ := hx x List.mem_cons_self
    unfold loopC
    rw [h1, Option.bind_some, h2, Option.bind_some, if_pos rfl, h3, Option.bind_some]
    dsimp only
    rw [h4, h5, show decide (acc.length < LIM) = true from decide_eq_true (by omega)]
    have := ih (fun y hy => hx y (List.mem_cons_of_mem _ hy)) (acc ++ [v x]) (by rw [List.length_append, List.length_singleton]; omega)
    rw [Bool.and_self, if_pos rfl, this, List.append_assoc]
    rfl
/-! ### defs -/
variable {GG : GI}
def kOwnC (o : Option Cell) : Bool := match o with
  | some (.own _) => true
  | some (.io _) => true
  | _ => false
@[simp] theorem isOwn_ap : isOwn cs i = kOwnC cs[i]? := rfl
@[simp] theorem kOwnC_o : kOwnC (some (.own d)) = true := rfl
@[simp] theorem kOwnC_i : kOwnC (some (.io d)) = true := rfl
def kSO (cs : En) (i : Nat) (d : D) (o : Option Cell) : Option En := match o with
  | some (.own _) => some (cs.set i (.own d))
  | some (.io _) => some (cs.set i (.io d))
  | _ => none
@[simp] theorem setOwn_ap : setOwn cs i d = kSO cs i d cs[i]? := rfl
@[simp] theorem kSO_o : kSO cs i d (some (.own x)) = some (cs.set i (.own d)) := rfl
@[simp] theorem kSO_i : kSO cs i d (some (.io x)) = some (cs.set i (.io d)) := rfl
def kCI4 (z : D) (o : Option En) : OE := o.bind fun c => some (z, false, c)
def kCI3 (i : Nat) (c : En) (o : Option (D × Bool × D)) : OE := o.bind fun z => kCI4 z.1 (setOwn c i z.2.2)
def kCI2 (GG : GI) (i : Nat) (xs : List D) (c : En) (o : Option D) : OE := o.bind fun d => kCI3 i c (GG d xs)
def kCI1 (n : Nat) (GG : GI) (i : Nat) (o : Option (List D × En)) : OE := o.bind fun r => if r.1.length + 1 = n then kCI2 GG i r.1 r.2 (cont r.2 i) else none
def kCI0 (n : Nat) (GG : GI) (i : Nat) (fs : AX) (cs : En) (b : Bool) : OE := if b = true then kCI1 n GG i (fs cs) else none
@[simp] theorem evCI_ap : evCI n GG i fs cs = kCI0 n GG i fs cs (isOwn cs i) := rfl
@[simp] theorem kCI0_t : kCI0 n GG i fs cs true = kCI1 n GG i (fs cs) := rfl
@[simp] theorem kCI1_s : kCI1 n GG i (some (xs, c)) = if xs.length + 1 = n then kCI2 GG i xs c (cont c i) else none := rfl
@[simp] theorem kCI2_s : kCI2 GG i xs c (some d) = kCI3 i c (GG d xs) := rfl
@[simp] theorem kCI3_s : kCI3 i c (some (x, fr, d)) = kCI4 x (setOwn c i d) := rfl
@[simp] theorem kCI4_s : kCI4 x (some c) = some (x, false, c) := rfl
@[simp] theorem outP_r : outP (some (.rt d fr c)) = some (d, fr) := rfl
@[simp] theorem outP_n : outP (some (.nx c)) = some (.none, false) := rfl
def kIo (o : Option Cell) : Option D := match o with
  | some (.io d) => some d
  | _ => none
@[simp] theorem io0_ap : io0 cs = kIo cs[(0 : Nat)]? := rfl
@[simp] theorem kIo_i : kIo (some (.io d)) = some d := rfl
def kOut (x : D) (fr : Bool) (o : Option D) : Option (D × Bool × D) := o.bind fun d' => some (x, fr, d')
@[simp] theorem outI_r : outI (some (.rt d fr c)) = kOut d fr (io0 c) := rfl
@[simp] theorem outI_n : outI (some (.nx c)) = kOut .none false (io0 c) := rfl
@[simp] theorem kOut_s : kOut x fr (some d) = some (x, fr, d) := rfl
/-! ### operators -/
variable {j k : Int}
@[simp] theorem gAdd_i : gAdd (.int j) (.int k) = some (.int (j + k), false) := rfl
@[simp] theorem gAddI_i : gAddI (.int j) (.int k) = some (.int (j + k), false) := rfl
@[simp] theorem gSub_i : gSub (.int j) (.int k) = some (.int (j - k), false) := rfl
@[simp] theorem gLt_i : gLt (.int j) (.int k) = some (.bool (decide (j < k)), false) := rfl
@[simp] theorem gLe_i : gLe (.int j) (.int k) = some (.bool (decide (j ≤ k)), false) := rfl
@[simp] theorem gGt_i : gGt (.int j) (.int k) = some (.bool (decide (k < j)), false) := rfl
@[simp] theorem gGe_i : gGe (.int j) (.int k) = some (.bool (decide (k ≤ j)), false) := rfl
@[simp] theorem gNeg_i : gNeg (.int j) = some (.int (-j), false) := rfl
theorem gMod_i (h : 0 < k) : gMod (.int j) (.int k) = some (.int (j % k), false) := by
  show (if decide (0 < k) = true then _ else _) = _
  rw [if_pos (decide_eq_true h)]
theorem gFdiv_i (h : 0 < k) (h2 : k < 1073741824) : gFdiv (.int j) (.int k) = some (.int (j / k), false) := by
  show (if (decide (0 < k) && decide (k < 1073741824)) = true then _ else _) = _
  rw [if_pos (by simp [h, h2])]
theorem gMul_r (h : -(2 ^ 64) < k) (h2 : k < 2 ^ 64) : gMul (.int j) (.int k) = some (.int (j * k), false) := by
  show (if ((decide (-(2 ^ 64) < j) && decide (j < 2 ^ 64)) || (decide (-(2 ^ 64) < k) && decide (k < 2 ^ 64))) = true then _ else _) = _
  rw [if_pos (by rw [decide_eq_true h, decide_eq_true h2, Bool.and_self, Bool.or_true])]
theorem gMul_l (h : -(2 ^ 64) < j) (h2 : j < 2 ^ 64) : gMul (.int j) (.int k) = some (.int (j * k), false) := by
  show (if ((decide (-(2 ^ 64) < j) && decide (j < 2 ^ 64)) || (decide (-(2 ^ 64) < k) && decide (k < 2 ^ 64))) = true then _ else _) = _
  rw [if_pos (by rw [decide_eq_true h, decide_eq_true h2, Bool.and_self, Bool.true_or])]
@[simp] theorem gEq_i : gEq (.int j) (.int k) = some (.bool (j == k), false) := rfl
@[simp] theorem gNe_i : gNe (.int j) (.int k) = some (.bool (!(j == k)), false) := rfl
@[simp] theorem gIsN_s : gIsN d .none = some (.bool (isNone d), false) := rfl
@[simp] theorem gNotN_s : gNotN d .none = some (.bool (!isNone d), false) := rfl
@[simp] theorem gLen_l : gLen (.list xs) = some (.int xs.length, false) := rfl
@[simp] theorem gLen_t : gLen (.tuple xs) = some (.int xs.length, false) := rfl
theorem gLen_s {w : Str} (h : w.length ≤ LIM) : gLen (.str w) = some (.int w.length, false) := by
  show (if w.length ≤ LIM then _ else _) = _
  rw [if_pos h]
@[simp] theorem gInt_i : gInt [.int j] = some (.int j, false) := rfl
@[simp] theorem gList_l : gList (.list xs) = some (.list xs, true) := rfl
@[simp] theorem gList_t : gList (.tuple xs) = some (.list xs, true) := rfl
@[simp] theorem gTuple_l : gTuple (.list xs) = some (.tuple xs, false) := rfl
@[simp] theorem gTuple_t : gTuple (.tuple xs) = some (.tuple xs, false) := rfl
theorem gTupD_of (h : xs.length ≤ LIM) : gTupD xs = some (.tuple xs, false) := if_pos h
theorem gLstD_of (h : xs.length ≤ LIM) : gLstD xs = some (.list xs, true) := if_pos h
@[simp] theorem gLst0 : gLstD [] = some (.list [], true) := rfl
@[simp] theorem gLst1 : gLstD [x] = some (.list [x], true) := gLstD_of (by show 1 ≤ LIM; decide)
@[simp] theorem gLst2 : gLstD [x, y] = some (.list [x, y], true) := gLstD_of (by show 2 ≤ LIM; decide)
@[simp] theorem gLst3 : gLstD [x, y, z] = some (.list [x, y, z], true) := gLstD_of (by show 3 ≤ LIM; decide)
@[simp] theorem gLst4 : gLstD [x, y, z, d] = some (.list [x, y, z, d], true) := gLstD_of (by show 4 ≤ LIM; decide)
@[simp] theorem gTup0 : gTupD [] = some (.tuple [], false) := rfl
@[simp] theorem gTup1 : gTupD [x] = some (.tuple [x], false) := gTupD_of (by show 1 ≤ LIM; decide)
@[simp] theorem gTup2 : gTupD [x, y] = some (.tuple [x, y], false) := gTupD_of (by show 2 ≤ LIM; decide)
@[simp] theorem gTup3 : gTupD [x, y, z] = some (.tuple [x, y, z], false) := gTupD_of (by show 3 ≤ LIM; decide)
@[simp] theorem gTup4 : gTupD [x, y, z, d] = some (.tuple [x, y, z, d], false) := gTupD_of (by show 4 ≤ LIM; decide)
def kIx (o : Option D) : Option (D × Bool) := o.bind fun d => some (d, false)
@[simp] theorem kIx_s : kIx (some d) = some (d, false) := rfl
@[simp] theorem gIx_l : gIx (.list xs) (.int j) = kIx (atD xs j) := rfl
@[simp] theorem gIx_t : gIx (.tuple xs) (.int j) = kIx (atD xs j) := rfl
theorem atD_of (h : 0 ≤ j) (h2 : j < xs.length) : atD xs j = xs[j.toNat]? := by
  unfold atD ixN
  rw [if_pos h, if_pos h2]
  rfl
@[simp] theorem atD0 : atD (x :: xs) 0 = some x := by
  rw [atD_of (by decide) (by simp; try omega)]
  rfl
@[simp] theorem atD1 : atD (x :: y :: xs) 1 = some y := by
  rw [atD_of (by decide) (by simp; try omega)]
  rfl
@[simp] theorem atD2 : atD (x :: y :: z :: xs) 2 = some z := by
  rw [atD_of (by decide) (by simp; try omega)]
  rfl
@[simp] theorem atD3 : atD (x :: y :: z :: d :: xs) 3 = some d := by
  rw [atD_of (by decide) (by simp; omega)]
  rfl
theorem fSet_of {k : Int} (h : 0 ≤ k) (h2 : k < xs.length) : fSet (.int k) d (.list xs) = some (.list (xs.set k.toNat d)) := by
  show ((ixN xs.length k).bind fun j => some (PyData.list (xs.set j d))) = _
  unfold ixN
  rw [if_pos h, if_pos h2]
  rfl
@[simp] theorem fSet0 : fSet (.int 0) d (.list (x :: xs)) = some (.list (d :: xs)) := by
  rw [fSet_of (by decide) (by simp; try omega)]
  rfl
@[simp] theorem fSet1 : fSet (.int 1) d (.list (x :: y :: xs)) = some (.list (x :: d :: xs)) := by
  rw [fSet_of (by decide) (by simp; try omega)]
  rfl
@[simp] theorem fSet2 : fSet (.int 2) d (.list (x :: y :: z :: xs)) = some (.list (x :: y :: d :: xs)) := by
  rw [fSet_of (by decide) (by simp; try omega)]
  rfl
variable {w : D}
@[simp] theorem fSet3 : fSet (.int 3) d (.list (x :: y :: z :: w :: xs)) = some (.list (x :: y :: z :: d :: xs)) := by
  rw [fSet_of (by decide) (by simp; try omega)]
  rfl
@[simp] theorem getL0 : getL (.list (x :: xs)) (.int 0) = some x := rfl
@[simp] theorem getL1 : getL (.list (x :: y :: xs)) (.int 1) = some y := rfl
@[simp] theorem getL2 : getL (.list (x :: y :: z :: xs)) (.int 2) = some z := rfl
@[simp] theorem getL3 : getL (.list (x :: y :: z :: w :: xs)) (.int 3) = some w := rfl
theorem gPow_i {j k : Int} (h : 0 ≤ k) (h2 : k ≤ 1000000) (h3 : j.natAbs < 2 ^ 64) : gPow (.int j) (.int k) = some (.int (j ^ k.toNat), false) := by
  show (if (decide (0 ≤ k) && (decide (k ≤ 1000000) && decide (j.natAbs < 2 ^ 64))) = true then _ else _) = _
  rw [if_pos (by simp [h, h2]; exact h3)]
@[simp] theorem gPow18 : gPow (.int 10) (.int 18) = some (.int 1000000000000000000, false) := by
  rw [gPow_i (by decide) (by decide) (by decide)]
  rfl
theorem atD_ints {ns : List Int} {j : Int} (h : 0 ≤ j) (h2 : j < ns.length) : ∃ v, ns[j.toNat]? = some v ∧ atD (ns.map PyData.int) j = some (.int v) := by
  have hj : j.toNat < ns.length := by omega
  refine ⟨ns[j.toNat], List.getElem?_eq_getElem hj, ?_⟩
  rw [atD_of h (by rw [List.length_map]; exact h2), List.getElem?_map, List.getElem?_eq_getElem hj]
  rfl
end
end Qp
end
section
set_option Elab.async false
set_option linter.all false
set_option maxRecDepth 100000
set_option maxHeartbeats 2000000
/-! Qm: texts as lists of codes; loops by an invariant. -/
namespace Qp
open PySem PySem.Spec PyProof.Rows L2
def strD (l : List Nat) : D := .str ⟨l.toArray⟩
theorem strD_inj {l m : List Nat} (h : strD l = strD m) : l = m := by
  unfold strD at h
  injection h with h
  injection h with h
  simpa using h
theorem str_cps (s : Str) : PyData.str s = strD s.cps.toList := by
  unfold strD
  rw [Array.toArray_toList]
theorem str_app (l m : List Nat) : (⟨l.toArray⟩ : Str) ++ ⟨m.toArray⟩ = ⟨(l ++ m).toArray⟩ := by
  show Str.append _ _ = _
  unfold Str.append
  simp
theorem str_len (l : List Nat) : (⟨l.toArray⟩ : Str).length = l.length := by simp [Str.length]
theorem gAdd_str {l m : List Nat} (h : l.length + m.length ≤ LIM) : gAdd (strD l) (strD m) = some (strD (l ++ m), false) := by
  show (if (⟨l.toArray⟩ : Str).length + (⟨m.toArray⟩ : Str).length ≤ LIM then _ else _) = _
  rw [str_len, str_len, if_pos h, str_app]
  rfl
theorem gLen_str {l : List Nat} (h : l.length ≤ LIM) : gLen (strD l) = some (.int l.length, false) := by
  show (if (⟨l.toArray⟩ : Str).length ≤ LIM then some (PyData.int ((⟨l.toArray⟩ : Str).length : Nat), false) else _) = _
  rw [str_len, if_pos h]
theorem gIx_str {l : List Nat} {j : Int} {c : Nat} (h : l.length ≤ LIM) (h0 : 0 ≤ j) (h1 : l[j.toNat]? = some c) : gIx (strD l) (.int j) = some (strD [c], false) := by
  have hj : j.toNat < l.length := (List.getElem?_eq_some_iff.mp h1).1
  show (if (⟨l.toArray⟩ : Str).length ≤ LIM then (atI l.toArray.toList j).bind fun c => some (PyData.str ⟨#[c]⟩, false) else none) = _
  rw [str_len, if_pos h]
  unfold atI ixN
  rw [if_pos h0, if_pos (by simp; omega)]
  show ((l.toArray.toList[j.toNat]?).bind fun c => some (PyData.str ⟨#[c]⟩, false)) = _
  rw [show l.toArray.toList = l by simp, h1]
  rfl
theorem gSl_str {l : List Nat} {a b : Nat} (h : l.length ≤ LIM) (hb : b ≤ l.length) : gSl (strD l) (some (a : Int)) (some (b : Int)) = some (strD ((l.drop a).take (b - a)), false) := by
  show (if (⟨l.toArray⟩ : Str).length ≤ LIM then some (PyData.str (cutS ⟨l.toArray⟩ (some (a : Int)) (some (b : Int))), false) else none) = _
  rw [str_len, if_pos h]
  unfold cutS strD
  rw [str_len, HT.sIx_nat, HT.sIx_nat, show l.toArray.toList = l by simp]
  have e : min b l.length = b := Nat.min_eq_left hb
  rw [e]
  by_cases ha : a ≤ l.length
  · rw [Nat.min_eq_left ha]
  · rw [Nat.min_eq_right (by omega), List.drop_eq_nil_of_le (Nat.le_refl _), List.drop_eq_nil_of_le (by omega), List.take_nil, List.take_nil]
theorem gSl_strTo {l : List Nat} {b : Nat} (h : l.length ≤ LIM) (hb : b ≤ l.length) : gSl (strD l) none (some (b : Int)) = some (strD (l.take b), false) := by
  show (if (⟨l.toArray⟩ : Str).length ≤ LIM then some (PyData.str (cutS ⟨l.toArray⟩ none (some (b : Int))), false) else none) = _
  rw [str_len, if_pos h]
  unfold cutS strD
  rw [str_len, HT.sIx_nat, HT.sIx_none, show l.toArray.toList = l by simp, Nat.min_eq_left hb, List.drop_zero, Nat.sub_zero]
theorem shaped_str {l : List Nat} (h : ∀ c ∈ l, c < 0x110000) : SeqAt.shaped (strD l) = true := by
  show (PyData.canLay0 (.str ⟨l.toArray⟩) && decide (PyData.depth (.str ⟨l.toArray⟩) ≤ 64)) = true
  have h1 : PyData.canLay0 (.str ⟨l.toArray⟩) = true := by
    simp only [PyData.canLay0, PyData.strOk]
    rw [Array.all_eq_true']
    intro c hc
    exact decide_eq_true (h c (by simpa using hc))
  rw [h1]
  rfl
theorem eqv_str {l m : List Nat} : PyData.eqv (strD l) (strD m) = (l == m) := by
  show ((⟨l.toArray⟩ : Str) == ⟨m.toArray⟩) = (l == m)
  rw [Bool.eq_iff_iff, beq_iff_eq, beq_iff_eq]
  constructor
  · intro h
    injection h with h
    simpa using h
  · intro h
    rw [h]
theorem gEq_str {l m : List Nat} (h : ∀ c ∈ l, c < 0x110000) (h' : ∀ c ∈ m, c < 0x110000) : gEq (strD l) (strD m) = some (.bool (l == m), false) := by
  unfold gEq
  rw [shaped_str h, shaped_str h', eqv_str]
  rfl
@[simp] theorem isNone_str (l : List Nat) : isNone (strD l) = false := rfl
@[simp] theorem isT_str (n : String) (l : List Nat) : isT n (strD l) = (n == "str") := rfl
@[simp] theorem flatD_str (l : List Nat) : flatD (strD l) = true := rfl
theorem strsOf_map : ∀ ls : List (List Nat), strsOf (ls.map strD) = some (ls.map fun l => (⟨l.toArray⟩ : Str))
  | [] => rfl
  | l :: r => by
    show ((strsOf (r.map strD)).bind fun t => some ((⟨l.toArray⟩ : Str) :: t)) = _
    rw [strsOf_map r]
    rfl
theorem joinL_nil : ∀ ls : List (List Nat), TL.joinL [] ls = ls.flatten
  | [] => rfl
  | [p] => by simp [TL.joinL]
  | p :: q :: r => by
    show p ++ ([] ++ TL.joinL [] (q :: r)) = _
    rw [joinL_nil (q :: r)]
    simp
theorem sum_len (ls : List (List Nat)) : ((ls.map fun l => (⟨l.toArray⟩ : Str)).map (·.length)).sum = ls.flatten.length := by
  induction ls with
  | nil => rfl
  | cons l r ih =>
    rw [List.map_cons, List.map_cons, List.sum_cons, ih, List.flatten_cons, List.length_append, str_len]
theorem gJoin_nil {ls : List (List Nat)} (h : ls.flatten.length ≤ LIM) {s : Str} (hs : s = ⟨#[]⟩) : gJoin s (.list (ls.map strD)) = some (strD ls.flatten, false) := by
  subst hs
  show ((strsOf (ls.map strD)).bind _) = _
  rw [strsOf_map, Option.bind_some, sum_len]
  rw [if_pos (by show _ + _ * 0 ≤ LIM; omega)]
  have e : Txt.join ⟨#[]⟩ (ls.map fun l => (⟨l.toArray⟩ : Str)) = ⟨ls.flatten.toArray⟩ := by
    refine ext_toList ?_
    rw [TL.join_eq]
    have := TL.tl_join ⟨#[]⟩ (ls.map fun l => (⟨l.toArray⟩ : Str))
    rw [show TL.tl (⟨#[]⟩ : Str) = [] from rfl, joinL_nil, List.map_map] at this
    rw [show (TL.tl ∘ fun l => (⟨l.toArray⟩ : Str)) = fun l : List Nat => l from funext fun l => by simp [TL.tl], List.map_id'] at this
    simpa using this
  rw [e]
  rfl
/-! ### loops -/
theorem loopF_inv {ft : GX} {body : SX} (I : Nat → En → Prop) (items : List D) (h : ∀ i x c, items[i]? = some x → I i c → ∃ c1 c2, ft x c = some c1 ∧ body c1 = some (.nx c2) ∧ I (i + 1) c2) {cs : En} (h0 : I 0 cs) : ∃ c, loopF ft body items cs = some (.nx c) ∧ I items.length c := by
  have gen : ∀ (k : Nat) (r : List D) (i : Nat) (c : En), r.length = k → items.drop i = r → I i c → ∃ c', loopF ft body r c = some (.nx c') ∧ I (i + r.length) c' := by
    intro k
    induction k with
    | zero =>
      intro r i c hr hd hi
      rw [List.length_eq_zero_iff] at hr
      subst hr
      exact ⟨c, rfl, hi⟩
    | succ k ih =>
      intro r i c hr hd hi
      cases r with
      | nil => cases hr
      | cons x r =>
        have hx : items[i]? = some x := by
          have := congrArg (fun l => l[0]?) hd
          simpa using this
        obtain ⟨c1, c2, e1, e2, e3⟩ := h i x c hx hi
        have hd' : items.drop (i + 1) = r := by
          have := congrArg (List.drop 1) hd
          simpa [List.drop_drop, Nat.add_comm] using this
        obtain ⟨c', q1, q2⟩ := ih r (i + 1) c2 (by simpa using hr) hd' e3
        refine ⟨c', ?_, by rw [List.length_cons, show i + (r.length + 1) = i + 1 + r.length by omega]; exact q2⟩
        rw [loopF_cons, e1, kL1_s, e2, kL2_n]
        exact q1
  obtain ⟨c, q1, q2⟩ := gen items.length items 0 cs rfl (by simp) h0
  exact ⟨c, q1, by simpa using q2⟩
/-- a loop that may end early by a return -/
theorem loopF_search {ft : GX} {body : SX} (I : Nat → En → Prop) (R : Res → Prop) (items : List D) (h : ∀ i x c, items[i]? = some x → I i c → ∃ c1, ft x c = some c1 ∧ ((∃ c2, body c1 = some (.nx c2) ∧ I (i + 1) c2) ∨ ∃ d fr c2, body c1 = some (.rt d fr c2) ∧ R (.rt d fr c2))) {cs : En} (h0 : I 0 cs) :
    (∃ c, loopF ft body items cs = some (.nx c) ∧ I items.length c) ∨ ∃ d fr c, loopF ft body items cs = some (.rt d fr c) ∧ R (.rt d fr c) := by
  have gen : ∀ (k : Nat) (r : List D) (i : Nat) (c : En), r.length = k → items.drop i = r → I i c → (∃ c', loopF ft body r c = some (.nx c') ∧ I (i + r.length) c') ∨ ∃ d fr c', loopF ft body r c = some (.rt d fr c') ∧ R (.rt d fr c') := by
    intro k
    induction k with
    | zero =>
      intro r i c hr hd hi
      rw [List.length_eq_zero_iff] at hr
      subst hr
      exact .inl ⟨c, rfl, hi⟩
    | succ k ih =>
      intro r i c hr hd hi
      cases r with
      | nil => cases hr
      | cons x r =>
        have hx : items[i]? = some x := by
          have := congrArg (fun l => l[0]?) hd
          simpa using this
        have hd' : items.drop (i + 1) = r := by
          have := congrArg (List.drop 1) hd
          simpa [List.drop_drop, Nat.add_comm] using this
        obtain ⟨c1, e1, ⟨c2, e2, e3⟩ | ⟨d, fr, c2, e2, e3⟩⟩ := h i x c hx hi
        · rcases ih r (i + 1) c2 (by simpa using hr) hd' e3 with ⟨c', q1, q2⟩ | ⟨d, fr, c', q1, q2⟩
          · refine .inl ⟨c', ?_, by rw [List.length_cons, show i + (r.length + 1) = i + 1 + r.length by omega]; exact q2⟩
            rw [loopF_cons, e1, kL1_s, e2, kL2_n]
            exact q1
          · refine .inr ⟨d, fr, c', ?_, q2⟩
            rw [loopF_cons, e1, kL1_s, e2, kL2_n]
            exact q1
        · refine .inr ⟨d, fr, c2, ?_, e3⟩
          rw [loopF_cons, e1, kL1_s, e2, kL2_r]
  rcases gen items.length items 0 cs rfl (by simp) h0 with ⟨c, q1, q2⟩ | z
  · exact .inl ⟨c, q1, by simpa using q2⟩
  · exact .inr z
theorem rng_item {lo : Int} {n i : Nat} {x : D} (h : (rngD lo n)[i]? = some x) : i < n ∧ x = .int (lo + (i : Int)) := rngD_get h
theorem rngD_zero (lo : Int) : rngD lo 0 = [] := rfl
/-! ### depth -/
theorem depthAll_mem : ∀ {ds : List D} {d : D}, d ∈ ds → d.depth ≤ PyData.depthAll ds
  | [], _, h => (by cases h)
  | x :: r, d, h => by
    simp only [PyData.depthAll]
    rcases List.mem_cons.mp h with e | e
    · rw [e]; exact Nat.le_max_left _ _
    · exact Nat.le_trans (depthAll_mem e) (Nat.le_max_right _ _)
end Qp
end
section
set_option Elab.async false
set_option linter.all false
set_option maxRecDepth 100000
set_option maxHeartbeats 2000000
/-! Qn: dicts; stars; isinstance of several; more of lists. -/
namespace Qp
open PySem PySem.Spec PyProof.Rows L2
section
variable {K : PySem.W.Frag} {F : Hp}
def isK (k : Key) : D → Bool
  | .int i => decide ((.inl i : Key) = k)
  | .str s => decide ((.inr s : Key) = k)
  | _ => false
theorem isK_kD (k j : Key) : isK k (kD j) = decide (j = k) := by cases j <;> rfl
def keyD : D → Option Key
  | .int i => some (.inl i)
  | .str s => some (.inr s)
  | _ => none
theorem key_rp {v : V} {d : D} {k : Key} (r : Rp K F v d) (h : keyD d = some k) : v = kV k := by
  unfold keyD at h
  split at h
  · cases h; exact r.int_eq
  · cases h; exact r.str_eq
  · cases h
def valD (es : List (D × D)) (k : Key) : Option D := (es.find? fun p => isK k p.1).map (·.2)
theorem val_pd {R : V → D → Prop} : ∀ {kvs : List (Key × V)} {es : List (D × D)}, es.map (·.1) = kvs.map (fun p => kD p.1) → Paired R (kvs.map (·.2)) (es.map (·.2)) → ∀ k, (valV kvs k = none ∧ valD es k = none) ∨ ∃ v d, valV kvs k = some v ∧ valD es k = some d ∧ R v d
  | [], [], _, _, k => .inl ⟨rfl, rfl⟩
  | [], _ :: _, e, _, _ => by simp at e
  | _ :: _, [], e, _, _ => by simp at e
  | (j, v) :: kvs, (x, d) :: es, e, .cons r t, k => by
    rw [List.map_cons, List.map_cons] at e
    injection e with e1 e2
    dsimp only at e1
    subst e1
    by_cases h : j = k
    · exact .inr ⟨v, d, valV_pos h, by simp [valD, isK_kD, h], r⟩
    · have := val_pd e2 t k
      rw [valV_neg (p := (j, v)) h]
      have e3 : valD ((kD j, d) :: es) k = valD es k := by simp [valD, isK_kD, h]
      rw [e3]
      exact this
def putD (es : List (D × D)) (k : Key) (d : D) : List (D × D) := if (es.any fun p => isK k p.1) = true then es.map (fun p => if isK k p.1 = true then (p.1, d) else p) else es ++ [(kD k, d)]
theorem any_pd : ∀ {kvs : List (Key × V)} {es : List (D × D)}, es.map (·.1) = kvs.map (fun p => kD p.1) → ∀ k, (es.any fun p => isK k p.1) = kvs.any fun p => decide (p.1 = k)
  | [], [], _, _ => rfl
  | [], _ :: _, e, _ => by simp at e
  | _ :: _, [], e, _ => by simp at e
  | (j, v) :: kvs, (x, d) :: es, e, k => by
    rw [List.map_cons, List.map_cons] at e
    injection e with e1 e2
    dsimp only at e1
    subst e1
    rw [List.any_cons, List.any_cons, any_pd e2 k, isK_kD]
theorem map_pd {R : V → D → Prop} {v : V} {d : D} {k : Key} (r : R v d) : ∀ {kvs : List (Key × V)} {es : List (D × D)}, es.map (·.1) = kvs.map (fun p => kD p.1) → Paired R (kvs.map (·.2)) (es.map (·.2)) →
    (es.map (fun p => if isK k p.1 = true then (p.1, d) else p)).map (·.1) = (kvs.map fun p => if p.1 = k then (p.1, v) else p).map (fun p => kD p.1) ∧ Paired R ((kvs.map fun p => if p.1 = k then (p.1, v) else p).map (·.2)) ((es.map (fun p => if isK k p.1 = true then (p.1, d) else p)).map (·.2))
  | [], [], _, _ => ⟨rfl, .nil⟩
  | [], _ :: _, e, _ => by simp at e
  | _ :: _, [], e, _ => by simp at e
  | (j, u) :: kvs, (x, c) :: es, e, .cons s t => by
    rw [List.map_cons, List.map_cons] at e
    injection e with e1 e2
    dsimp only at e1
    subst e1
    obtain ⟨h1, h2⟩ := map_pd r (k := k) e2 t
    by_cases h : j = k
    · simp only [List.map_cons, isK_kD, h, decide_true, if_true]
      exact ⟨by rw [h1], .cons r h2⟩
    · simp only [List.map_cons, isK_kD, h, decide_false, if_false, Bool.false_eq_true]
      exact ⟨by rw [h1], .cons s h2⟩
theorem put_pd {R : V → D → Prop} {v : V} {d : D} {k : Key} (r : R v d) {kvs : List (Key × V)} {es : List (D × D)} (e : es.map (·.1) = kvs.map (fun p => kD p.1)) (p : Paired R (kvs.map (·.2)) (es.map (·.2))) :
    (putD es k d).map (·.1) = (putK kvs k v).map (fun p => kD p.1) ∧ Paired R ((putK kvs k v).map (·.2)) ((putD es k d).map (·.2)) := by
  unfold putD putK
  rw [any_pd e k]
  split
  · exact map_pd r e p
  · constructor
    · rw [List.map_append, List.map_append, e]
      rfl
    · rw [List.map_append, List.map_append]
      exact Pd.append p (.cons r .nil)
theorem len_pd {kvs : List (Key × V)} {es : List (D × D)} (e : es.map (·.1) = kvs.map (fun p => kD p.1)) : kvs.length = es.length := by
  have := congrArg List.length e
  simpa using this.symm
theorem OwnAt.dict {o : Option HO} {es : List (D × D)} (h : OwnAt K F o (.dict es)) : ∃ kvs, o = Option.some (.dK kvs) ∧ es.map (·.1) = kvs.map (fun p => kD p.1) ∧ Paired (Rp K F) (kvs.map (·.2)) (es.map (·.2)) := by
  cases h with
  | dic e p => exact ⟨_, rfl, e, p⟩
theorem Vw.dict {H : Hp} {M : Addr → Prop} {v : V} {es : List (D × D)} (h : Vw K H M v (.dict es)) : ∃ a kvs, v = .ref a ∧ Rd H a (.dK kvs) ∧ es.map (·.1) = kvs.map (fun p => kD p.1) ∧ Paired (Rp K (cut H M)) (kvs.map (·.2)) (es.map (·.2)) := by
  cases h with
  | sc r _ h => exact absurd rfl (h _)
  | dic h e p => exact ⟨_, _, rfl, h, e, p⟩
end
section
variable {X : Cx} {K : PySem.W.Frag} {e a b : Expr} {es : List Expr} {te ta tb tk to : TE} {ts : TA} {fe fa fb fk : EX} {fs : AX} {pos fpos cpos xpos : Pos} {x : Str} {i : Nat}
def evDnew : EX := fun cs => some (.dict [], true, cs)
theorem de_dnew : DE X (.Dict [] [] pos) tDNewK evDnew := by
  refine ⟨pe_dnewK, ?_⟩
  intro B IO Z σ H cs ok d fr cs' e Q q
  cases e
  exact fun p hp => q _ _ (Pe.of (Post.refl ok) (Ex.new hp) (VOk.new hp ok.md (.dic rfl .nil)))
/-! ### reading -/
def gDget : G2 := fun d e => match d with
  | .dict es => (keyD e).bind fun k => (valD es k).bind fun v => some (v, false)
  | _ => none
def rDGet : R2 := fun x y H Q => ∃ a v, x = V.ref a ∧ DGet H a y (some v) ∧ Q v H
theorem sw_dget : SRw K rDGet gDget := by
  intro H M hm x y d e rx ry z fr q Q k
  unfold gDget at q
  split at q
  · obtain ⟨kk, h1, q⟩ := Option.bind_eq_some_iff.mp q
    obtain ⟨v, h2, q⟩ := Option.bind_eq_some_iff.mp q
    cases q
    obtain ⟨a, kvs, rfl, hr, he, hp⟩ := rx.dict
    rcases val_pd he hp kk with ⟨_, h3⟩ | ⟨u, v', h3, h4, h5⟩
    · rw [h2] at h3; cases h3
    · rw [h2] at h4
      cases h4
      exact ⟨a, u, rfl, .inl ⟨kvs, kk, hr, key_rp ry h1, h3.symm⟩, k _ H (Ex.refl H) (VOk.of h5)⟩
  · cases q
theorem de_dgetV (hu : X.A.units + 1 < cLine) (ha : DE X (.Name x xpos) (tVar i) (evVar i)) (hb : DE X b tb fb) (hs : NoSl b := by exact fun _ _ => rfl) : DE X (.Subscript (.Name x xpos) b pos) (tDGet (tVar i) tb) (evIxV gDget i fb) := ⟨pe_dget hu ha.pe hb.pe hs, se_ixv sw_dget hb.se⟩
theorem de_dget (hu : X.A.units + 1 < cLine) (ha : DE X a ta fa) (hb : DE X b tb fb) (hs : NoSl b := by exact fun _ _ => rfl) : DE X (.Subscript a b pos) (tDGet ta tb) (ev2 gDget fa fb) := ⟨pe_dget hu ha.pe hb.pe hs, se_2 ha.se hb.se sw_dget.two⟩
def gDin (neg : Bool) : G2 := fun e d => match d with
  | .dict es => (keyD e).bind fun k => some (.bool ((valD es k).isSome != neg), false)
  | _ => none
def rDIn : R2 := fun y x H Q => ∃ a o, x = V.ref a ∧ DGet H a y o ∧ Q (.bl o.isSome) H
def rDNotIn : R2 := fun y x H Q => ∃ a o, x = V.ref a ∧ DGet H a y o ∧ Q (.bl (!o.isSome)) H
theorem din_some {es : List (D × D)} {kvs : List (Key × V)} {R : V → D → Prop} (he : es.map (·.1) = kvs.map (fun p => kD p.1)) (hp : Paired R (kvs.map (·.2)) (es.map (·.2))) (k : Key) : (valV kvs k).isSome = (valD es k).isSome := by
  rcases val_pd he hp k with ⟨h1, h2⟩ | ⟨_, _, h1, h2, _⟩ <;> rw [h1, h2] <;> rfl
theorem sw_din : SRw2 K rDIn (gDin false) := by
  intro H M hm x y d e rx ry z fr q Q k
  unfold gDin at q
  split at q
  · obtain ⟨kk, h1, q⟩ := Option.bind_eq_some_iff.mp q
    cases q
    obtain ⟨a, kvs, rfl, hr, he, hp⟩ := ry.dict
    refine ⟨a, _, rfl, .inl ⟨kvs, kk, hr, key_rp rx h1, rfl⟩, ?_⟩
    rw [din_some he hp]
    refine k _ H (Ex.refl H) (VOk.of ?_)
    rw [Bool.bne_false]
    exact .bl _
  · cases q
theorem sw_dnotin : SRw2 K rDNotIn (gDin true) := by
  intro H M hm x y d e rx ry z fr q Q k
  unfold gDin at q
  split at q
  · obtain ⟨kk, h1, q⟩ := Option.bind_eq_some_iff.mp q
    cases q
    obtain ⟨a, kvs, rfl, hr, he, hp⟩ := ry.dict
    refine ⟨a, _, rfl, .inl ⟨kvs, kk, hr, key_rp rx h1, rfl⟩, ?_⟩
    rw [din_some he hp]
    refine k _ H (Ex.refl H) (VOk.of ?_)
    rw [Bool.bne_true]
    exact .bl _
  · cases q
theorem de_dinV (hu : X.A.units + 1 < cLine) (ha : DE X a ta fa) (hb : DE X (.Name x xpos) (tVar i) (evVar i)) : DE X (.Compare a [.In] [.Name x xpos] pos) (tDIn ta (tVar i)) (evVIn (gDin false) fa i) := ⟨pe_cmp (pc_din hu ha.pe hb.pe), se_inv sw_din ha.se⟩
theorem de_dnotinV (hu : X.A.units + 1 < cLine) (ha : DE X a ta fa) (hb : DE X (.Name x xpos) (tVar i) (evVar i)) : DE X (.Compare a [.NotIn] [.Name x xpos] pos) (tDNotIn ta (tVar i)) (evVIn (gDin true) fa i) := ⟨pe_cmp (pc_dnotin hu ha.pe hb.pe), se_inv sw_dnotin ha.se⟩
theorem dt_dinV (hu : X.A.units + 1 < cLine) (ha : DE X a ta fa) (hb : DE X (.Name x xpos) (tVar i) (evVar i)) : DT X (.Compare a [.In] [.Name x xpos] pos) (tB (tDIn ta (tVar i))) (evT (evVIn (gDin false) fa i)) := ⟨pt_cmp (pc_din hu ha.pe hb.pe), st_test (se_inv sw_din ha.se)⟩
theorem dt_dnotinV (hu : X.A.units + 1 < cLine) (ha : DE X a ta fa) (hb : DE X (.Name x xpos) (tVar i) (evVar i)) : DT X (.Compare a [.NotIn] [.Name x xpos] pos) (tB (tDNotIn ta (tVar i))) (evT (evVIn (gDin true) fa i)) := ⟨pt_cmp (pc_dnotin hu ha.pe hb.pe), st_test (se_inv sw_dnotin ha.se)⟩
/-! ### an owned dict -/
def ownD (cs : En) (i : Nat) : Option (List (D × D)) := match cs[i]? with
  | some (.own (.dict es)) => some es
  | some (.io (.dict es)) => some es
  | _ => none
theorem Ok.ownD {B : Hp} {IO : List (Nat × Addr)} {Z : Addr → Prop} {σ : St} {H : Hp} {cs : En} {i : Nat} {es : List (D × D)} (ok : Ok K B IO Z σ H cs) (h : ownD cs i = some es) :
    ∃ a kvs, σ[i]? = some (some (.ref a)) ∧ H a = some (.dK kvs) ∧ es.map (·.1) = kvs.map (fun p => kD p.1) ∧ Paired (Rp K (cut H (Md σ cs Z))) (kvs.map (·.2)) (es.map (·.2)) ∧ Md σ cs Z a := by
  unfold Qp.ownD at h
  split at h
  · rename_i ds hd
    cases h
    obtain ⟨a, h1, h2⟩ := ok.own i _ (.inl hd)
    obtain ⟨kvs, h3, h4, h5⟩ := h2.dict
    exact ⟨a, kvs, h1, h3, h4, h5, .inr ⟨i, h1, _, .inl hd⟩⟩
  · rename_i ds hd
    cases h
    obtain ⟨a, h1, h2⟩ := ok.own i _ (.inr hd)
    obtain ⟨kvs, h3, h4, h5⟩ := h2.dict
    exact ⟨a, kvs, h1, h3, h4, h5, .inr ⟨i, h1, _, .inr hd⟩⟩
  · cases h
def evLenD (i : Nat) : EX := fun cs => (ownD cs i).bind fun es => some (.int es.length, false, cs)
theorem de_lenD (hg : Gl X "len") (hm : X.mg "len" = none) (ha : DE X (.Name x xpos) (tVar i) (evVar i)) :
    DE X (.Call (.Name "len" fpos) [.Name x xpos] [] cpos) (tCB (fun xs H Q => ∃ a kvs, xs = [V.ref a] ∧ H a = some (HO.dK kvs) ∧ Q (V.int ↑kvs.length) H) (tCons (tVar i) tNil)) (evLenD i) := by
  refine ⟨pe_callB call_lenD hg hm PySem.boot_len (pa_cons ha.pe pa_nil), ?_⟩
  intro B IO Z σ H cs ok d fr cs' e Q q
  unfold evLenD at e
  obtain ⟨es, e1, e⟩ := Option.bind_eq_some_iff.mp e
  cases e
  obtain ⟨a, kvs, h1, h2, h3, _, _⟩ := ok.ownD e1
  refine ⟨_, h1, a, kvs, rfl, h2, q _ H (.dat (Post.refl ok) ?_)⟩
  rw [len_pd h3]
  exact .int _
def fPut (k : Key) (d : D) : D → Option D
  | .dict es => if es.length < LIM then some (.dict (putD es k d)) else none
  | _ => none
theorem Ok.put {B : Hp} {IO : List (Nat × Addr)} {Z : Addr → Prop} {σ : St} {H : Hp} {cs cs' : En} {i : Nat} {k : Key} {d : D} {v : V} (ok : Ok K B IO Z σ H cs) (e : Qp.upL cs i (fPut k d) = some cs') (r : Rp K (cut H (Md σ cs Z)) v d) {a : Addr} (hs : σ[i]? = some (some (.ref a))) :
    ∃ kvs, H a = some (.dK kvs) ∧ kvs.length < sizeLine ∧ Post K B IO Z σ H cs σ (upd H a (.dK (putK kvs k v))) cs' := by
  obtain ⟨a', d0, d', h1, h2, h3, kk⟩ := ok.upL e
  rw [hs] at h1
  cases h1
  have m := ok_md (Z := Z) e hs
  unfold fPut at h2
  split at h2
  · split at h2
    · rename_i hl
      cases h2
      obtain ⟨kvs, h4, h5, h6⟩ := h3.dict
      refine ⟨kvs, h4, by rw [len_pd h5]; exact lim_lt hl, kk _ upd_kept ?_⟩
      rw [upd_same]
      have := put_pd (k := k) (R := Rp K (cut H (Md σ cs Z))) r h5 h6
      exact .dic this.1 (Rp.monoA (cut_upd m) this.2)
    · cases h2
  · cases h2
def evSetd (i : Nat) (fk fe : EX) : EX := fun cs => (ownD cs i).bind fun _ => (fk cs).bind fun s => (fe s.2.2).bind fun r => (ownD r.2.2 i).bind fun es => (keyD s.1).bind fun k => if es.length < LIM then (match valD es k with
    | some o => some (o, false, r.2.2)
    | none => (upL r.2.2 i (fPut k r.1)).bind fun c => some (r.1, false, c)) else none
theorem de_setd {apos : Pos} (ha : DE X (.Name x xpos) (tVar i) (evVar i)) (hk : DE X a tk fk) (he : DE X e te fe) (m : M2 X (.Name x xpos) "setdefault" apos a e cpos) :
    DE X (.Call (.Attribute (.Name x xpos) "setdefault" apos) [a, e] [] cpos) (tDSetd (tVar i) tk te) (evSetd i fk fe) := by
  refine ⟨pe_dsetd ha.pe hk.pe he.pe m, ?_⟩
  intro B IO Z σ H cs ok d fr cs' e Q q
  unfold evSetd at e
  obtain ⟨es0, e0, e⟩ := Option.bind_eq_some_iff.mp e
  obtain ⟨⟨d1, f1, c1⟩, e1, e⟩ := Option.bind_eq_some_iff.mp e
  obtain ⟨⟨d2, f2, c2⟩, e2, e⟩ := Option.bind_eq_some_iff.mp e
  obtain ⟨es, e3, e⟩ := Option.bind_eq_some_iff.mp e
  obtain ⟨k, e4, e⟩ := Option.bind_eq_some_iff.mp e
  obtain ⟨a0, kvs0, hs, h2, _, _, _⟩ := ok.ownD e0
  dsimp only at e3 e4 e
  split at e
  · rename_i hl
    refine ⟨_, hs, a0, rfl, .inl ⟨kvs0, .inl h2⟩, hk.se ok e1 _ fun y H1 w1 => he.se w1.post.ok e2 _ fun z H2 w2 => ?_⟩
    have p := w1.post.trans w2.post
    obtain ⟨a1, kvs, hs', h3, h4, h5, _⟩ := w2.post.ok.ownD e3
    rw [hs] at hs'
    cases hs'
    refine ⟨kvs, k, h3, key_rp w1.rp e4, by rw [len_pd h4]; exact lim_lt hl, fun v hv => ?_, fun hv => ?_⟩
    · rcases val_pd h4 h5 k with ⟨n1, _⟩ | ⟨v', o, n1, n2, n3⟩
      · rw [hv] at n1; cases n1
      · rw [hv] at n1
        cases n1
        rw [n2] at e
        cases e
        exact q v H2 (.dat p n3)
    · rcases val_pd h4 h5 k with ⟨_, n2⟩ | ⟨v', o, n1, _, _⟩
      · rw [n2] at e
        obtain ⟨c3, e5, e⟩ := Option.bind_eq_some_iff.mp e
        cases e
        obtain ⟨kvs', g1, g2, g3⟩ := w2.post.ok.put e5 w2.rp hs
        rw [h3] at g1
        cases g1
        exact q z _ (.dat (p.trans g3) (w2.rp.mono g3.le))
      · rw [hv] at n1; cases n1
  · cases e
def isOwnD (cs : En) (i : Nat) : Bool := (ownD cs i).isSome
def sDput (i : Nat) (fk fe : EX) : SX := fun cs => (fe cs).bind fun r => (ownD r.2.2 i).bind fun _ => (fk r.2.2).bind fun s => (keyD s.1).bind fun k => (upL s.2.2 i (fPut k r.1)).bind fun c => some (.nx c)
theorem ds_dput {spos : Pos} (hu : X.A.units + 1 < cLine) (ha : DE X (.Name x xpos) (tVar i) (evVar i)) (hk : DE X a tk fk) (he : DE X e te fe) (hs : swapsWith e (some (.Subscript (.Name x xpos) a spos)) pos.line X.env = pure false := by rfl) :
    DS X (.Assign [.Subscript (.Name x xpos) a spos] e pos) (sDPut (tVar i) tk te) (sDput i fk fe) := by
  refine ⟨ps_dput hu ha.pe hk.pe he.pe hs, ?_⟩
  intro B IO Z σ H cs ok r e Dn q
  unfold sDput at e
  obtain ⟨⟨d1, f1, c1⟩, e1, e⟩ := Option.bind_eq_some_iff.mp e
  obtain ⟨es0, e0, e⟩ := Option.bind_eq_some_iff.mp e
  obtain ⟨⟨d2, f2, c2⟩, e2, e⟩ := Option.bind_eq_some_iff.mp e
  obtain ⟨k, e3, e⟩ := Option.bind_eq_some_iff.mp e
  obtain ⟨c3, e4, e⟩ := Option.bind_eq_some_iff.mp e
  cases e
  refine he.se ok e1 _ fun y H1 w1 => ?_
  obtain ⟨a0, kvs0, hs, h2, _, _, _⟩ := w1.post.ok.ownD e0
  refine ⟨_, hs, hk.se w1.post.ok e2 _ fun z H2 w2 => ?_⟩
  obtain ⟨kvs, g1, g2, g3⟩ := w2.post.ok.put e4 (w1.rp.mono w2.post.le) hs
  rw [key_rp w2.rp e3]
  exact ⟨a0, _, rfl, DPut.k g1 g2, q σ _ ((w1.post.trans w2.post).trans g3)⟩
/-! ### stars in displays -/
def evStar (f : EX) (g : AX) : AX := fun cs => (f cs).bind fun r => match r.1 with
  | .list ds => (g r.2.2).bind fun s => some (ds ++ s.1, s.2)
  | .tuple ds => (g r.2.2).bind fun s => some (ds ++ s.1, s.2)
  | _ => none
theorem da_star {p : Pos} (h : DE X e te fe) (hr : DA X es ts fs) (hs : starEach (.Starred e p :: es) X.env = (true, eval e X.env) :: starEach es X.env := by rfl) : DA X (.Starred e p :: es) (StX.tStar X.K te ts) (evStar fe fs) := by
  refine ⟨StX.pa_star h.pe hr.pa hs, ?_⟩
  intro B IO Z σ H cs ok ds cs' e Q q
  unfold evStar at e
  obtain ⟨⟨d1, f1, c1⟩, e1, e⟩ := Option.bind_eq_some_iff.mp e
  dsimp only at e
  refine h.se ok e1 _ fun x H1 w1 => ?_
  split at e
  · obtain ⟨⟨d2, c2⟩, e2, e⟩ := Option.bind_eq_some_iff.mp e
    cases e
    obtain ⟨a, xs, rfl, h1, h2⟩ := w1.rp.list
    exact ⟨a, xs, rfl, .inr (cut_le.sqL h1), hr.sa w1.post.ok e2 _ fun ys H2 p2 v2 => q _ H2 (w1.post.trans p2) (Pd.append (Rp.monoA p2.le h2) v2)⟩
  · obtain ⟨⟨d2, c2⟩, e2, e⟩ := Option.bind_eq_some_iff.mp e
    cases e
    obtain ⟨a, xs, rfl, h1, h2⟩ := w1.rp.tuple
    exact ⟨a, xs, rfl, .inl (cut_le.sqT h1), hr.sa w1.post.ok e2 _ fun ys H2 p2 v2 => q _ H2 (w1.post.trans p2) (Pd.append (Rp.monoA p2.le h2) v2)⟩
  · cases e
end
end Qp
end
section
set_option Elab.async false
set_option linter.all false
set_option maxRecDepth 100000
set_option maxHeartbeats 2000000
/-! Qo: more of lists; isinstance of several; truths. -/
namespace Qp
open PySem PySem.Spec PyProof.Rows L2
section
variable {X : Cx} {K : PySem.W.Frag} {e a b : Expr} {es : List Expr} {te ta tb tk to : TE} {ts : TA} {fe fa fb fk : EX} {fs : AX} {pos fpos cpos xpos apos : Pos} {x : Str} {i : Nat}
theorem ex_le {H H' : Hp} (x : Ex H H') : Le H H' := fun a u _ r => r.elim (fun r => .inl (x a _ r)) fun ⟨o, r⟩ => .inr ⟨o, x a _ r⟩
/-! ### xs.insert(k, e) -/
def fIns (k : Int) (d : D) : D → Option D
  | .list ds => if (decide (0 ≤ k) && (decide (k ≤ 1000000000) && decide (ds.length < LIM))) = true then some (.list (ds.take k.toNat ++ [d] ++ ds.drop k.toNat)) else none
  | _ => none
def intD : D → Option Int
  | .int i => some i
  | _ => none
theorem intD_eq {d : D} {j : Int} (h : intD d = some j) : d = .int j := by
  unfold intD at h
  split at h
  · cases h; rfl
  · cases h
def evIns (i : Nat) (fk fe : EX) : EX := fun cs => if isOwnL cs i = true then (fk cs).bind fun s => (intD s.1).bind fun j => (fe s.2.2).bind fun r => (upL r.2.2 i (fIns j r.1)).bind fun c => some (.none, false, c) else none
theorem de_ins (hv : DE X (.Name x xpos) (tVar i) (evVar i)) (hk : DE X a tk fk) (he : DE X e te fe)
    (hbase : attributeBase (.Name x xpos) "insert" X.env (eval (.Name x xpos) X.env) = eval (.Name x xpos) X.env := by rfl)
    (hfew : ((backTo pos (starEach [a, e] X.env)).all (fun x => !x.1) && (backToKw pos (keywordEach [] X.env)).all (fun x => x.1.isSome)
      && decide ([a, e].length + ([] : List Keyword).length + (if ([] : List Keyword).isEmpty then 0 else 1) < 30)) = true := by rfl)
    (hline : (apos.endLine == pos.line) = true := by rfl) (hs : starEach [a, e] X.env = (false, eval a X.env) :: starEach [e] X.env := by rfl) (hs2 : starEach [e] X.env = (false, eval e X.env) :: starEach [] X.env := by rfl) (hplain : (backTo pos (starEach [e] X.env)).any (·.1) = false := by rfl) :
    DE X (.Call (.Attribute (.Name x xpos) "insert" apos) [a, e] [] pos) (tBM X.K "list" (fun x vs H Q =>
    ∃ l xs i y, x = V.ref l ∧ vs = [V.int i, y] ∧ H l = some (HO.lst xs) ∧ xs.length < sizeLine ∧ 0 ≤ i ∧ i < 2 ^ 63 ∧ Q V.non (upd H l (HO.lst (List.take i.toNat xs ++ [y] ++ List.drop i.toNat xs)))) (tVar i) (tCons tk (tCons te tNil))) (evIns i fk fe) := by
  refine ⟨pe_bm PySem.F.plainAttrs_list PySem.F.slot_list_insert PySem.F.type_list_insert mt_insert hv.pe (pa_cons hk.pe (pa_cons he.pe pa_nil hs2) hs) hbase hfew hline hs hplain, ?_⟩
  intro B IO Z σ H cs ok d fr cs' e Q q
  unfold evIns at e
  split at e
  · rename_i ho
    obtain ⟨⟨d0, f0, c0⟩, e0, e⟩ := Option.bind_eq_some_iff.mp e
    obtain ⟨j, ej, e⟩ := Option.bind_eq_some_iff.mp e
    obtain ⟨⟨d1, f1, c1⟩, e1, e⟩ := Option.bind_eq_some_iff.mp e
    obtain ⟨c2, e2, e⟩ := Option.bind_eq_some_iff.mp e
    cases e
    obtain ⟨a0, xs, hs, hx, _⟩ := ok.ownL ho
    refine ⟨_, hs, .inl ⟨rfl, xs, SqL.of hx⟩, hk.se ok e0 _ fun z H0 w0 => he.se w0.post.ok e1 _ fun y H1 w1 => ?_⟩
    obtain ⟨a', d, d', h1, h2, h3, k⟩ := w1.post.ok.upL e2
    rw [hs] at h1
    cases h1
    have m := ok_md (Z := Z) e2 hs
    unfold fIns at h2
    split at h2
    · split at h2
      · rename_i hl
        rw [Bool.and_eq_true, Bool.and_eq_true, decide_eq_true_eq, decide_eq_true_eq, decide_eq_true_eq] at hl
        cases h2
        obtain ⟨ys, h4, h5⟩ := h3.list
        have rj := w0.rp
        dsimp only at ej
        rw [intD_eq ej] at rj
        refine ⟨a0, ys, j, y, rfl, by rw [rj.int_eq], h4, by rw [Pd.len h5]; exact lim_lt hl.2.2, hl.1, by omega, ?_⟩
        refine q _ _ (.dat ((w0.post.trans w1.post).trans (k _ upd_kept ?_)) .non)
        rw [upd_same]
        exact .lst (Rp.monoA (cut_upd m) (Pd.append (Pd.append (Pd.take _ h5) (.cons w1.rp .nil)) (Pd.drop _ h5)))
      · cases h2
    · cases h2
  · cases e
/-! ### xs.extend(a new list) -/
def fExt (zs : List D) : D → Option D
  | .list ds => if ds.length + zs.length ≤ LIM then some (.list (ds ++ zs)) else none
  | _ => none
def listD : D → Option (List D)
  | .list ds => some ds
  | _ => none
theorem listD_eq {d : D} {ds : List D} (h : listD d = some ds) : d = .list ds := by
  unfold listD at h
  split at h
  · cases h; rfl
  · cases h
def evExt (i : Nat) (fe : EX) : EX := fun cs => if isOwnL cs i = true then (fe cs).bind fun r => (listD r.1).bind fun zs => if r.2.1 = true then (upL r.2.2 i (fExt zs)).bind fun c => some (.none, false, c) else none else none
theorem de_ext (hv : DE X (.Name x xpos) (tVar i) (evVar i)) (he : DE X e te fe)
    (hbase : attributeBase (.Name x xpos) "extend" X.env (eval (.Name x xpos) X.env) = eval (.Name x xpos) X.env := by rfl)
    (hfew : ((backTo pos (starEach [e] X.env)).all (fun x => !x.1) && (backToKw pos (keywordEach [] X.env)).all (fun x => x.1.isSome)
      && decide ([e].length + ([] : List Keyword).length + (if ([] : List Keyword).isEmpty then 0 else 1) < 30)) = true := by rfl)
    (hline : (apos.endLine == pos.line) = true := by rfl) (hs : starEach [e] X.env = (false, eval e X.env) :: starEach [] X.env := by rfl) (hplain : (backTo pos (starEach [] X.env)).any (·.1) = false := by rfl) :
    DE X (.Call (.Attribute (.Name x xpos) "extend" apos) [e] [] pos) (tBM X.K "list" rExtend (tVar i) (tCons te tNil)) (evExt i fe) := by
  refine ⟨pe_bm PySem.F.plainAttrs_list PySem.F.slot_list_extend PySem.F.type_list_extend mt_extend hv.pe (pa_cons he.pe pa_nil hs) hbase hfew hline hs hplain, ?_⟩
  intro B IO Z σ H cs ok d fr cs' e Q q
  unfold evExt at e
  split at e
  · rename_i ho
    obtain ⟨⟨d1, f1, c1⟩, e1, e⟩ := Option.bind_eq_some_iff.mp e
    obtain ⟨zs, ez, e⟩ := Option.bind_eq_some_iff.mp e
    dsimp only at ez e
    split at e
    · rename_i hf
      obtain ⟨c2, e2, e⟩ := Option.bind_eq_some_iff.mp e
      cases e
      subst hf
      obtain ⟨a0, xs, hs, hx, _⟩ := ok.ownL ho
      refine ⟨_, hs, .inl ⟨rfl, xs, SqL.of hx⟩, he.se ok e1 _ fun y H1 w => ?_⟩
      obtain ⟨a', d, d', h1, h2, h3, k⟩ := w.post.ok.upL e2
      rw [hs] at h1
      cases h1
      have m := ok_md (Z := Z) e2 hs
      have hp := w.post
      rw [listD_eq ez] at w
      obtain ⟨p, rfl, hp0, pn, ow⟩ := (show ∃ p, y = .ref p ∧ H p = none ∧ PostN X.K B IO Z σ H cs p σ H1 c1 ∧ OwnAt X.K (cut H1 (Md σ c1 (XP Z p))) (H1 p) (.list zs) from w)
      obtain ⟨us, g1, g2⟩ := ow.list
      unfold fExt at h2
      split at h2
      · split at h2
        · rename_i hl
          cases h2
          obtain ⟨ys, h4, h5⟩ := h3.list
          refine ⟨a0, p, ys, us, rfl, rfl, h4, g1, by rw [Pd.len h5, Pd.len g2]; exact lim_ok hl, ?_⟩
          refine q _ _ (.dat (hp.trans (k _ upd_kept ?_)) .non)
          rw [upd_same]
          exact .lst (Rp.monoA (cut_upd m) (Pd.append h5 (Rp.monoA le_xp g2)))
        · cases h2
      · cases h2
    · cases e
  · cases e
/-! ### xs.index(e) -/
def idxD (d : D) : List D → Option Nat
  | [] => none
  | z :: r => if PyData.eqv z d = true then some 0 else (idxD d r).map (· + 1)
theorem idxD_spec {d : D} : ∀ {ds : List D} {j : Nat}, idxD d ds = some j → (∃ z, ds[j]? = some z ∧ PyData.eqv z d = true) ∧ ∀ m z, m < j → ds[m]? = some z → PyData.eqv z d = false
  | [], j, h => by cases h
  | z :: r, j, h => by
    unfold idxD at h
    by_cases c : PyData.eqv z d = true
    · rw [if_pos c] at h
      cases h
      exact ⟨⟨z, rfl, c⟩, fun m _ hm => absurd hm (Nat.not_lt_zero _)⟩
    · rw [if_neg c] at h
      obtain ⟨j', h1, h2⟩ := Option.map_eq_some_iff.mp h
      cases h2
      obtain ⟨⟨u, h3, h4⟩, h5⟩ := idxD_spec h1
      refine ⟨⟨u, by simpa using h3, h4⟩, fun m w hm hw => ?_⟩
      cases m with
      | zero =>
        simp at hw
        subst hw
        simpa using c
      | succ m => exact h5 m w (by omega) (by simpa using hw)
def evIdx (i : Nat) (fe : EX) : EX := fun cs => (cont cs i).bind fun d0 => (listD d0).bind fun _ => (fe cs).bind fun r => (cont r.2.2 i).bind fun d => (listD d).bind fun ds => if (flatD r.1 && ds.all flatD) = true then (idxD r.1 ds).bind fun j => some (.int (j : Nat), false, r.2.2) else none
theorem de_idx (hv : DE X (.Name x xpos) (tVar i) (evVar i)) (he : DE X e te fe)
    (hbase : attributeBase (.Name x xpos) "index" X.env (eval (.Name x xpos) X.env) = eval (.Name x xpos) X.env := by rfl)
    (hfew : ((backTo pos (starEach [e] X.env)).all (fun x => !x.1) && (backToKw pos (keywordEach [] X.env)).all (fun x => x.1.isSome)
      && decide ([e].length + ([] : List Keyword).length + (if ([] : List Keyword).isEmpty then 0 else 1) < 30)) = true := by rfl)
    (hline : (apos.endLine == pos.line) = true := by rfl) (hs : starEach [e] X.env = (false, eval e X.env) :: starEach [] X.env := by rfl) (hplain : (backTo pos (starEach [] X.env)).any (·.1) = false := by rfl) :
    DE X (.Call (.Attribute (.Name x xpos) "index" apos) [e] [] pos) (tBM X.K "list" (rIndex X.K) (tVar i) (tCons te tNil)) (evIdx i fe) := by
  refine ⟨pe_bm PySem.F.plainAttrs_list PySem.F.slot_list_index PySem.F.type_list_index mt_index hv.pe (pa_cons he.pe pa_nil hs) hbase hfew hline hs hplain, ?_⟩
  intro B IO Z σ H cs ok d fr cs' e Q q
  unfold evIdx at e
  obtain ⟨d0, e0, e⟩ := Option.bind_eq_some_iff.mp e
  obtain ⟨ds0, el0, e⟩ := Option.bind_eq_some_iff.mp e
  obtain ⟨⟨d1, f1, c1⟩, e1, e⟩ := Option.bind_eq_some_iff.mp e
  obtain ⟨d2, e2, e⟩ := Option.bind_eq_some_iff.mp e
  obtain ⟨ds, el, e⟩ := Option.bind_eq_some_iff.mp e
  dsimp only at e e2
  split at e
  · rename_i hf
    rw [Bool.and_eq_true] at hf
    obtain ⟨j, ej, e⟩ := Option.bind_eq_some_iff.mp e
    cases e
    obtain ⟨v, hv, w0⟩ := ok.view e0
    rw [listD_eq el0] at w0
    obtain ⟨a0, xs0, rfl, hx0, _⟩ := w0.list
    refine ⟨_, hv, .inl ⟨rfl, xs0, hx0⟩, he.se ok e1 _ fun y H1 w => ?_⟩
    obtain ⟨v', hv', w1⟩ := w.post.ok.view e2
    rw [hv] at hv'
    cases hv'
    rw [listD_eq el] at w1
    obtain ⟨a1, xs, h1, hx, px⟩ := w1.list
    cases h1
    obtain ⟨⟨z, g1, g2⟩, g3⟩ := idxD_spec ej
    obtain ⟨u, g4, g5⟩ := Pd.get px g1
    have fz : ∀ {m : Nat} {z : D}, ds[m]? = some z → flatD z = true := fun h => List.all_eq_true.mp hf.2 _ (List.mem_of_getElem? h)
    refine ⟨a0, xs, y, j, u, rfl, rfl, hx, flat_of w.rp hf.1, (inv_of w.rp hf.1 px hf.2).1, g4, ?_, fun m z' hm hz => ?_, q _ H1 (.dat w.post (.int _))⟩
    · rw [eq_of g5 w.rp (fz g1) hf.1]
      exact g2
    · obtain ⟨z2, g6, g7⟩ := Pd.getL px hz
      rw [eq_of g7 w.rp (fz g6) hf.1]
      exact g3 m z2 hm g6
  · cases e
/-! ### isinstance(e, (T, U)) -/
structure TyA (X : Cx) (es : List Expr) (ts : TA) (ns : List String) : Prop where
  pa : PA X es ts
  run : ∀ (σ : St) (H : Hp) (Q : List V → Hp → Prop), Q (ns.map V.ty) H → ts σ H Q
theorem tya_nil : TyA X [] tNil [] := ⟨pa_nil, fun _ _ _ q => q⟩
theorem tya_cons {T : Str} {n : String} {ns : List String} {tpos : Pos} (hg : Gl X T) (hm : X.mg T = none) (hv : bootBuiltins T = some (.type n)) (h : TyA X es ts ns) (hn : T ≠ "__name__" := by decide) (hd : (T == ("__debug__" : Str)) = false := by decide)
    (hs : starEach (.Name T tpos :: es) X.env = (false, eval (.Name T tpos) X.env) :: starEach es X.env := by rfl) : TyA X (.Name T tpos :: es) (tCons (tC (.ty n)) ts) (n :: ns) :=
  ⟨pa_cons (pe_bltn hg hm hv (v := .ty n) rfl hn hd) h.pa hs, fun σ H Q q => h.run σ H _ q⟩
def kitBs (t : String) : List String → Option Bool
  | [] => some false
  | n :: r => (kitB t n).bind fun b => if b = true then some true else kitBs t r
theorem kit_any {t : String} : ∀ {ns : List String} {b : Bool}, kitBs t ns = some b → PySem.W.kitAny K (.type t) (ns.map Value.type) = some b
  | [], b, h => by cases h; exact PySem.W.kitAny.eq_1 _ _
  | n :: r, b, h => by
    unfold kitBs at h
    obtain ⟨c, h1, h⟩ := Option.bind_eq_some_iff.mp h
    rw [List.map_cons, PySem.W.kitAny.eq_2, kit_ty h1]
    cases c with
    | true => rw [if_pos rfl] at h; exact h
    | false => rw [if_neg (by decide)] at h; exact kit_any h
theorem cls_all : ∀ ns : List String, Paired ClsV (ns.map V.ty) (ns.map Value.type)
  | [] => .nil
  | n :: r => .cons (.ty n) (cls_all r)
def evIsiT (ns : List String) (f : EX) : EX := fun cs => (f cs).bind fun r => if ns.length ≤ LIM then (kitBs (tyD r.1) ns).bind fun b => some (.bool b, false, r.2.2) else none
theorem de_isiT {ns : List String} {x1 : Nat} {tpos : Pos} (hg : Gl X "isinstance") (hm : X.mg "isinstance" = none) (ht : TyA X es ts ns) (ha : DE X e te fe)
    (hs : starEach (e :: [.Tuple es x1 tpos]) X.env = (false, eval e X.env) :: starEach [.Tuple es x1 tpos] X.env := by rfl) (hs2 : starEach [.Tuple es x1 tpos] X.env = (false, eval (.Tuple es x1 tpos) X.env) :: starEach [] X.env := by rfl) :
    DE X (.Call (.Name "isinstance" fpos) [e, .Tuple es x1 tpos] [] cpos) (tCB (rIsiT X.K) (tCons te (tCons (tTup ts) tNil))) (evIsiT ns fe) := by
  refine ⟨pe_callB call_isiT hg hm (by decide +kernel) (pa_cons ha.pe (pa_cons (pe_tup ht.pa) pa_nil hs2) hs) (he := hs), ?_⟩
  intro B IO Z σ H cs ok d fr cs' e Q q
  unfold evIsiT at e
  obtain ⟨⟨d1, f1, c1⟩, e1, e⟩ := Option.bind_eq_some_iff.mp e
  dsimp only at e
  split at e
  · rename_i hl
    obtain ⟨b, e2, e⟩ := Option.bind_eq_some_iff.mp e
    cases e
    refine ha.se ok e1 _ fun x H1 w1 => ht.run σ H1 _ ⟨by rw [List.length_map]; exact lim_ok hl, fun p hp => ?_⟩
    refine ⟨x, p, ns.map V.ty, _, ns.map Value.type, b, rfl, upd_same, cls_all ns, tyx_of w1.rp (Le.trans cut_le (ex_le (Ex.new hp))), kit_any e2, ?_⟩
    exact q _ _ (.dat (w1.post.trans (w1.post.ok.ext (Ex.new hp))) (.bl b))
  · cases e
def evIsiTV (ns : List String) (i : Nat) : EX := fun cs => (cont cs i).bind fun d => if ns.length ≤ LIM then (kitBs (tyD d) ns).bind fun b => some (.bool b, false, cs) else none
theorem de_isiTV {ns : List String} {x1 : Nat} {tpos : Pos} (hg : Gl X "isinstance") (hm : X.mg "isinstance" = none) (ht : TyA X es ts ns) (ha : DE X (.Name x xpos) (tVar i) (evVar i))
    (hs2 : starEach [.Tuple es x1 tpos] X.env = (false, eval (.Tuple es x1 tpos) X.env) :: starEach [] X.env := by rfl) :
    DE X (.Call (.Name "isinstance" fpos) [.Name x xpos, .Tuple es x1 tpos] [] cpos) (tCB (rIsiT X.K) (tCons (tVar i) (tCons (tTup ts) tNil))) (evIsiTV ns i) := by
  refine ⟨pe_callB call_isiT hg hm (by decide +kernel) (pa_cons ha.pe (pa_cons (pe_tup ht.pa) pa_nil hs2)), ?_⟩
  intro B IO Z σ H cs ok d fr cs' e Q q
  unfold evIsiTV at e
  obtain ⟨d1, e1, e⟩ := Option.bind_eq_some_iff.mp e
  split at e
  · rename_i hl
    obtain ⟨b, e2, e⟩ := Option.bind_eq_some_iff.mp e
    cases e
    obtain ⟨v, hv, w⟩ := ok.view e1
    refine ⟨v, hv, ht.run σ H _ ⟨by rw [List.length_map]; exact lim_ok hl, fun p hp => ?_⟩⟩
    have x : Ex H (upd H p (.tup (ns.map V.ty))) := Ex.new hp
    refine ⟨v, p, ns.map V.ty, _, ns.map Value.type, b, rfl, upd_same, cls_all ns, tyx_of w.rpH (ex_le x), kit_any e2, ?_⟩
    exact q _ _ (.dat (ok.ext x) (.bl b))
  · cases e
/-! ### a value as a test -/
def truD : D → Option Bool
  | .none => some false
  | .bool b => some b
  | .int i => some (i != 0)
  | .str s => if s.length ≤ LIM then some ((s.length : Int) != 0) else none
  | .list ds => some (!ds.isEmpty)
  | .tuple ds => some (!ds.isEmpty)
  | .dict _ => none
theorem pd_empty {α β : Type} {R : α → β → Prop} {xs : List α} {ys : List β} (h : Paired R xs ys) : xs.isEmpty = ys.isEmpty := by cases h <;> rfl
theorem tru_of {H : Hp} {M : Addr → Prop} {v : V} {d : D} {k : Bool} (w : Vw K H M v d) (h : truD d = some k) : TruV K v H k := by
  unfold truD at h
  split at h
  · cases h; rw [(w.rp (fun _ z => nomatch z) (fun _ z => nomatch z)).none_eq]; rfl
  · cases h; rw [(w.rp (fun _ z => nomatch z) (fun _ z => nomatch z)).bool_eq]; rfl
  · cases h; rw [w.int_eq]; rfl
  · split at h
    · rename_i hl
      cases h; rw [w.str_eq]; exact ⟨lim_ok hl, rfl⟩
    · cases h
  · cases h
    obtain ⟨a, xs, rfl, h1, h2⟩ := w.list
    exact .inl ⟨xs, h1, by rw [pd_empty h2]⟩
  · cases h
    obtain ⟨a, xs, rfl, h1, h2⟩ := w.tuple
    exact .inr (.inl ⟨xs, cut_le.sqT h1, by rw [pd_empty h2]⟩)
  · cases h
def evTr (f : EX) : TX := fun cs => (f cs).bind fun r => (truD r.1).bind fun k => some (k, r.2.2)
def tTru (K : PySem.W.Frag) (t : TE) : TT := fun σ H Q => t σ H fun x H' => ∃ k, TruV K x H' k ∧ Q k H'
theorem dt_tr (h : DE X e te fe) (he : ∀ whole, isTrue e X.env whole = (do let v ← whole; standAt e.pos; holding [v] (truthy v)) := by intro _; rfl) : DT X e (tTru X.K te) (evTr fe) := by
  refine ⟨pt_truth h.pe he, ?_⟩
  intro B IO Z σ H cs ok b cs' e Q q
  unfold evTr at e
  obtain ⟨⟨d1, f1, c1⟩, e1, e⟩ := Option.bind_eq_some_iff.mp e
  obtain ⟨k, e2, e⟩ := Option.bind_eq_some_iff.mp e
  cases e
  exact h.se ok e1 _ fun x H1 w => ⟨_, tru_of (Vw.of_rp w.rp) e2, q H1 w.post⟩
def evTrV (i : Nat) : TX := fun cs => (cont cs i).bind fun d => (truD d).bind fun k => some (k, cs)
theorem dt_trV (h : DE X (.Name x xpos) (tVar i) (evVar i)) (he : ∀ whole, isTrue (.Name x xpos) X.env whole = (do let v ← whole; standAt (Expr.Name x xpos).pos; holding [v] (truthy v)) := by intro _; rfl) : DT X (.Name x xpos) (tTru X.K (tVar i)) (evTrV i) := by
  refine ⟨pt_truth h.pe he, ?_⟩
  intro B IO Z σ H cs ok b cs' e Q q
  unfold evTrV at e
  obtain ⟨d1, e1, e⟩ := Option.bind_eq_some_iff.mp e
  obtain ⟨k, e2, e⟩ := Option.bind_eq_some_iff.mp e
  cases e
  obtain ⟨v, hv, w⟩ := ok.view e1
  exact ⟨v, hv, _, tru_of w e2, q H (Post.refl ok)⟩
/-! ### all, any, sum of a list -/
def boolsOf : List D → Option (List Bool)
  | [] => some []
  | .bool s :: r => (boolsOf r).bind fun t => some (s :: t)
  | _ => none
theorem bools_pd {F : Hp} : ∀ {vs : List V} {ds : List D} {ss : List Bool}, Paired (Rp K F) vs ds → boolsOf ds = some ss → vs = ss.map V.bl
  | _, _, ss, .nil, h => by cases h; rfl
  | _, _, ss, .cons r t, h => by
    unfold boolsOf at h
    split at h
    · rename_i hh; cases hh
    · rename_i s r' hh
      cases hh
      obtain ⟨t', h1, h⟩ := Option.bind_eq_some_iff.mp h
      cases h
      rw [r.bool_eq, bools_pd t h1]
      rfl
    · cases h
def intsOf : List D → Option (List Int)
  | [] => some []
  | .int s :: r => (intsOf r).bind fun t => some (s :: t)
  | _ => none
theorem ints_pd {F : Hp} : ∀ {vs : List V} {ds : List D} {ss : List Int}, Paired (Rp K F) vs ds → intsOf ds = some ss → vs = ss.map V.int
  | _, _, ss, .nil, h => by cases h; rfl
  | _, _, ss, .cons r t, h => by
    unfold intsOf at h
    split at h
    · rename_i hh; cases hh
    · rename_i s r' hh
      cases hh
      obtain ⟨t', h1, h⟩ := Option.bind_eq_some_iff.mp h
      cases h
      rw [r.int_eq, ints_pd t h1]
      rfl
    · cases h
def gAll : G1 := fun d => (listD d).bind fun ds => (boolsOf ds).bind fun bs => some (.bool (bs.all id), false)
def gAny : G1 := fun d => (listD d).bind fun ds => (boolsOf ds).bind fun bs => some (.bool (bs.any id), false)
def gSum : G1 := fun d => (listD d).bind fun ds => (intsOf ds).bind fun bs => some (.int bs.sum, false)
theorem sw_all : SRCw K (rAll K) gAll := by
  intro H M hm x d rx z fr q Q k
  unfold gAll at q
  obtain ⟨ds, h1, q⟩ := Option.bind_eq_some_iff.mp q
  obtain ⟨bs, h2, q⟩ := Option.bind_eq_some_iff.mp q
  cases q
  rw [listD_eq h1] at rx
  obtain ⟨a, xs, rfl, h3, h4⟩ := rx.list
  rw [bools_pd h4 h2] at h3
  exact ⟨a, bs, rfl, h3, k _ H (Ex.refl H) (VOk.of (.bl _))⟩
theorem sw_any : SRCw K (rAny K) gAny := by
  intro H M hm x d rx z fr q Q k
  unfold gAny at q
  obtain ⟨ds, h1, q⟩ := Option.bind_eq_some_iff.mp q
  obtain ⟨bs, h2, q⟩ := Option.bind_eq_some_iff.mp q
  cases q
  rw [listD_eq h1] at rx
  obtain ⟨a, xs, rfl, h3, h4⟩ := rx.list
  rw [bools_pd h4 h2] at h3
  exact ⟨a, bs, rfl, h3, k _ H (Ex.refl H) (VOk.of (.bl _))⟩
theorem sw_sum : SRCw K (rSum K) gSum := by
  intro H M hm x d rx z fr q Q k
  unfold gSum at q
  obtain ⟨ds, h1, q⟩ := Option.bind_eq_some_iff.mp q
  obtain ⟨bs, h2, q⟩ := Option.bind_eq_some_iff.mp q
  cases q
  rw [listD_eq h1] at rx
  obtain ⟨a, xs, rfl, h3, h4⟩ := rx.list
  rw [ints_pd h4 h2] at h3
  exact ⟨a, bs, rfl, h3, k _ H (Ex.refl H) (VOk.of (.int _))⟩
/-! ### a list taken apart -/
def gxUnl (h : GsX) (n : Nat) : GX
  | .list ds, cs => if ds.length = n then h ds cs else none
  | _, _ => none
theorem dg_unl {gs : TGs} {t1 : List Nat} {fgs : GsX} {k : Nat} {n : Nat} (hc : X.calm = true) (h : DGs X es gs t1 fgs) (hn : (assignEach es X.env).length = n := by rfl) (hst : (assignEach es X.env).findIdx? (·.1) = none := by rfl) : DG X (.Tuple es k pos) (gUnl X.K n gs) t1 (gxUnl fgs n) := by
  refine ⟨pg_unl hc h.pgs hn hst, ?_⟩
  intro B IO Z σ H cs ok v d r cs' e Q q
  unfold gxUnl at e
  split at e
  · split at e
    · rename_i hl
      obtain ⟨a, xs, rfl, h1, p1⟩ := r.list
      exact ⟨a, xs, rfl, cut_le.sqL h1, (Pd.len p1).trans hl, h.sg ok p1 e Q q⟩
    · cases e
  · cases e
end
end Qp
end
section
set_option Elab.async false
set_option linter.all false
set_option maxRecDepth 100000
set_option maxHeartbeats 2000000
/-! Qq: how the codes of Qn, Qo are reckoned; comprehensions whose answers are told one by one. -/
namespace Qp
open PySem PySem.Spec PyProof.Rows L2
section
variable {d x y z : D} {fr f1 b : Bool} {c cs c1 : En} {i n m : Nat} {f fa fb fe fi fk : EX} {g : G2} {u : G1} {G : GA} {fs : AX} {t s : TX} {p q : SX} {xs ds zs : List D} {es : List (D × D)} {k : Key} {j : Int}
/-! cells that hold no object of their own -/
def kDn (o : Option Cell) : Bool := match o with
  | some (.dat _) => true
  | some .no => true
  | _ => false
@[simp] theorem kDn_n : kDn (some .no) = true := rfl
@[simp] theorem kDn_d : kDn (some (.dat d)) = true := rfl
theorem kNo_dn {o : Option Cell} (h : kDn o = true) : kNo o = true := by
  unfold kDn at h
  split at h
  · rfl
  · rfl
  · cases h
@[simp] theorem noOwn_nil : noOwn cs [] = true := rfl
@[simp] theorem noOwn_cons {v : Nat} {vs : List Nat} : noOwn cs (v :: vs) = (kDn cs[v]? && noOwn cs vs) := rfl
@[simp] theorem clr_nil : clr cs [] = cs := rfl
@[simp] theorem clr_cons {v : Nat} {vs : List Nat} : clr cs (v :: vs) = (clr cs vs).set v .no := rfl
@[simp] theorem rst_nil : rst c cs [] = c := rfl
@[simp] theorem rst_cons {v : Nat} {vs : List Nat} : rst c cs (v :: vs) = (rst c cs vs).set v (cs.getD v .no) := rfl
/-! dicts -/
@[simp] theorem evDnew_ap : evDnew cs = some (.dict [], true, cs) := rfl
def kD1 (o : Option D) : Option (D × Bool) := o.bind fun v => some (v, false)
@[simp] theorem kD1_s : kD1 (some d) = some (d, false) := rfl
@[simp] theorem gDget_i : gDget (.dict es) (.int j) = kD1 (valD es (.inl j)) := rfl
@[simp] theorem gDget_s {w : Str} : gDget (.dict es) (.str w) = kD1 (valD es (.inr w)) := rfl
@[simp] theorem gDin_i {neg : Bool} : gDin neg (.int j) (.dict es) = some (.bool ((valD es (.inl j)).isSome != neg), false) := rfl
@[simp] theorem gDin_s {neg : Bool} {w : Str} : gDin neg (.str w) (.dict es) = some (.bool ((valD es (.inr w)).isSome != neg), false) := rfl
@[simp] theorem valD_nil : valD [] k = none := rfl
def kOD (o : Option Cell) : Option (List (D × D)) := match o with
  | some (.own (.dict es)) => some es
  | some (.io (.dict es)) => some es
  | _ => none
@[simp] theorem ownD_ap : ownD cs i = kOD cs[i]? := rfl
@[simp] theorem kOD_o : kOD (some (.own (.dict es))) = some es := rfl
@[simp] theorem kOD_i : kOD (some (.io (.dict es))) = some es := rfl
def kLenD (cs : En) (o : Option (List (D × D))) : OE := o.bind fun es => some (.int es.length, false, cs)
@[simp] theorem evLenD_ap : evLenD i cs = kLenD cs (ownD cs i) := rfl
@[simp] theorem kLenD_s : kLenD cs (some es) = some (.int es.length, false, cs) := rfl
def kSd5 (d : D) (o : Option En) : OE := o.bind fun c => some (d, false, c)
def kSd4 (i : Nat) (d : D) (c : En) (k : Key) (o : Option D) : OE := match o with
  | some o => some (o, false, c)
  | none => kSd5 d (upL c i (fPut k d))
def kSd3 (i : Nat) (d : D) (c : En) (es : List (D × D)) (o : Option Key) : OE := o.bind fun k => if es.length < LIM then kSd4 i d c k (valD es k) else none
def kSd2' (i : Nat) (x d : D) (c : En) (o : Option (List (D × D))) : OE := o.bind fun es => kSd3 i d c es (keyD x)
def kSd2 (i : Nat) (x : D) (o : OE) : OE := o.bind fun r => kSd2' i x r.1 r.2.2 (ownD r.2.2 i)
def kSd1 (i : Nat) (fe : EX) (o : OE) : OE := o.bind fun s => kSd2 i s.1 (fe s.2.2)
def kSd0 (i : Nat) (fk fe : EX) (cs : En) (o : Option (List (D × D))) : OE := o.bind fun _ => kSd1 i fe (fk cs)
@[simp] theorem evSetd_ap : evSetd i fk fe cs = kSd0 i fk fe cs (ownD cs i) := by
  unfold evSetd kSd0 kSd1 kSd2 kSd2' kSd3
  refine congrArg (Option.bind _) (funext fun _ => congrArg (Option.bind _) (funext fun s => congrArg (Option.bind _) (funext fun r => congrArg (Option.bind _) (funext fun es => congrArg (Option.bind _) (funext fun k => ?_)))))
  split
  · unfold kSd4 kSd5
    cases valD es k <;> rfl
  · rfl
@[simp] theorem kSd0_s : kSd0 i fk fe cs (some es) = kSd1 i fe (fk cs) := rfl
@[simp] theorem kSd1_s : kSd1 i fe (some (x, f1, c)) = kSd2 i x (fe c) := rfl
@[simp] theorem kSd2_s : kSd2 i x (some (y, f1, c)) = kSd2' i x y c (ownD c i) := rfl
@[simp] theorem kSd2'_s : kSd2' i x d c (some es) = kSd3 i d c es (keyD x) := rfl
@[simp] theorem keyD_i : keyD (.int j) = some (.inl j) := rfl
@[simp] theorem keyD_s {w : Str} : keyD (.str w) = some (.inr w) := rfl
theorem kSd3_of (h : es.length < LIM) : kSd3 i d c es (some k) = kSd4 i d c k (valD es k) := by
  show (if es.length < LIM then _ else _) = _
  rw [if_pos h]
@[simp] theorem kSd4_s : kSd4 i d c k (some x) = some (x, false, c) := rfl
@[simp] theorem kSd4_n : kSd4 i d c k none = kSd5 d (upL c i (fPut k d)) := rfl
@[simp] theorem kSd5_s : kSd5 d (some c) = some (d, false, c) := rfl
theorem fPut_of (h : es.length < LIM) : fPut k d (.dict es) = some (.dict (putD es k d)) := if_pos h
def kDp3 (o : Option En) : Option Res := o.bind fun c => some (.nx c)
def kDp2' (i : Nat) (d : D) (c : En) (o : Option Key) : Option Res := o.bind fun k => kDp3 (upL c i (fPut k d))
def kDp2 (i : Nat) (d : D) (o : OE) : Option Res := o.bind fun s => kDp2' i d s.2.2 (keyD s.1)
def kDp1 (fk : EX) (i : Nat) (d : D) (c : En) (o : Option (List (D × D))) : Option Res := o.bind fun _ => kDp2 i d (fk c)
def kDp0 (fk : EX) (i : Nat) (o : OE) : Option Res := o.bind fun r => kDp1 fk i r.1 r.2.2 (ownD r.2.2 i)
@[simp] theorem sDput_ap : sDput i fk fe cs = kDp0 fk i (fe cs) := rfl
@[simp] theorem kDp0_s : kDp0 fk i (some (d, f1, c)) = kDp1 fk i d c (ownD c i) := rfl
@[simp] theorem kDp1_s : kDp1 fk i d c (some es) = kDp2 i d (fk c) := rfl
@[simp] theorem kDp2_s : kDp2 i d (some (x, f1, c)) = kDp2' i d c (keyD x) := rfl
@[simp] theorem kDp2'_s : kDp2' i d c (some k) = kDp3 (upL c i (fPut k d)) := rfl
@[simp] theorem kDp3_s : kDp3 (some c) = some (.nx c) := rfl
theorem valD_put {l : Key} : valD (putD es k d) l = if l = k then some d else valD es l := by
  have kk : ∀ (a b : Key) (z : D), isK a z = true → isK b z = true → a = b := by
    intro a b z h1 h2
    cases z <;> simp [isK] at h1 h2 <;> exact h1.symm.trans h2
  have gen : ∀ es : List (D × D), valD (es.map (fun p => if isK k p.1 = true then (p.1, d) else p)) l = if l = k then (valD es l).map (fun _ => d) else valD es l := by
    intro es
    induction es with
    | nil => simp [valD]
    | cons p r ih =>
      by_cases hk : isK k p.1 = true
      · by_cases hl : isK l p.1 = true
        · have := kk _ _ _ hl hk
          subst this
          simp [valD, hk]
        · have hne : l ≠ k := fun e => hl (by rw [e]; exact hk)
          rw [if_neg hne] at ih ⊢
          simp only [valD, List.map_cons, hk, if_true, List.find?_cons, Bool.eq_false_iff.mpr hl] at ih ⊢
          exact ih
      · by_cases hl : isK l p.1 = true
        · have hne : l ≠ k := fun e => hk (by rw [← e]; exact hl)
          simp [valD, hk, hl, hne]
        · simp only [valD, List.map_cons, hk, if_false, Bool.false_eq_true, List.find?_cons, Bool.eq_false_iff.mpr hl] at ih ⊢
          exact ih
  unfold putD
  split
  · rename_i h
    rw [gen]
    split
    · rename_i e
      subst e
      have : ∃ v, valD es l = some v := by
        unfold valD
        cases e : es.find? fun p => isK l p.1 with
        | none =>
          have := List.find?_eq_none.mp e
          obtain ⟨p, hp, hq⟩ := List.any_eq_true.mp h
          exact absurd hq (this p hp)
        | some p => exact ⟨_, rfl⟩
      obtain ⟨v, hv⟩ := this
      rw [hv]
      rfl
    · rfl
  · rename_i h
    unfold valD
    rw [List.find?_append]
    split
    · rename_i e
      subst e
      have : (es.find? fun p => isK l p.1) = none := List.find?_eq_none.mpr fun p hp hq => h (List.any_eq_true.mpr ⟨p, hp, hq⟩)
      rw [this]
      simp [isK_kD]
    · rename_i hne
      cases es.find? fun p => isK l p.1 with
      | none => simp [isK_kD, Ne.symm hne]
      | some p => rfl
theorem putD_new (h : valD es k = none) : putD es k d = es ++ [(kD k, d)] := by
  unfold putD
  rw [if_neg]
  intro z
  obtain ⟨p, hp, hq⟩ := List.any_eq_true.mp z
  unfold valD at h
  rw [Option.map_eq_none_iff] at h
  exact List.find?_eq_none.mp h p hp hq
theorem putD_le : (putD es k d).length ≤ es.length + 1 := by
  unfold putD
  split
  · rw [List.length_map]; omega
  · rw [List.length_append]; exact Nat.le_refl _
/-! stars -/
def kSt2 (ds : List D) (o : Option (List D × En)) : Option (List D × En) := o.bind fun s => some (ds ++ s.1, s.2)
def kSt1 (fs : AX) (o : OE) : Option (List D × En) := o.bind fun r => match r.1 with
  | .list ds => kSt2 ds (fs r.2.2)
  | .tuple ds => kSt2 ds (fs r.2.2)
  | _ => none
@[simp] theorem evStar_ap : evStar f fs cs = kSt1 fs (f cs) := rfl
@[simp] theorem kSt1_l : kSt1 fs (some (.list ds, f1, c)) = kSt2 ds (fs c) := rfl
@[simp] theorem kSt1_t : kSt1 fs (some (.tuple ds, f1, c)) = kSt2 ds (fs c) := rfl
@[simp] theorem kSt2_s : kSt2 ds (some (xs, c)) = some (ds ++ xs, c) := rfl
/-! lists -/
def kMd (o : Option En) : OE := o.bind fun c => some (.none, false, c)
@[simp] theorem kMd_s : kMd (some c) = some (.none, false, c) := rfl
def kIn3 (i : Nat) (j : Int) (o : OE) : OE := o.bind fun r => kMd (upL r.2.2 i (fIns j r.1))
def kIn2 (i : Nat) (fe : EX) (c : En) (o : Option Int) : OE := o.bind fun j => kIn3 i j (fe c)
def kIn1 (i : Nat) (fe : EX) (o : OE) : OE := o.bind fun s => kIn2 i fe s.2.2 (intD s.1)
def kIn0 (i : Nat) (fk fe : EX) (cs : En) (b : Bool) : OE := if b = true then kIn1 i fe (fk cs) else none
@[simp] theorem evIns_ap : evIns i fk fe cs = kIn0 i fk fe cs (isOwnL cs i) := rfl
@[simp] theorem kIn0_t : kIn0 i fk fe cs true = kIn1 i fe (fk cs) := rfl
@[simp] theorem kIn1_s : kIn1 i fe (some (.int j, f1, c)) = kIn3 i j (fe c) := rfl
@[simp] theorem kIn3_s : kIn3 i j (some (d, f1, c)) = kMd (upL c i (fIns j d)) := rfl
theorem fIns_of (h : 0 ≤ j) (h2 : j ≤ 1000000000) (h3 : ds.length < LIM) : fIns j d (.list ds) = some (.list (ds.take j.toNat ++ [d] ++ ds.drop j.toNat)) := by
  show (if _ then _ else _) = _
  rw [if_pos (by simp [h, h2, h3])]
def kEx2 (i : Nat) (zs : List D) (fr : Bool) (c : En) : OE := if fr = true then kMd (upL c i (fExt zs)) else none
def kEx1 (i : Nat) (o : OE) : OE := o.bind fun r => (listD r.1).bind fun zs => kEx2 i zs r.2.1 r.2.2
def kEx0 (i : Nat) (fe : EX) (cs : En) (b : Bool) : OE := if b = true then kEx1 i (fe cs) else none
@[simp] theorem evExt_ap : evExt i fe cs = kEx0 i fe cs (isOwnL cs i) := rfl
@[simp] theorem kEx0_t : kEx0 i fe cs true = kEx1 i (fe cs) := rfl
@[simp] theorem kEx1_s : kEx1 i (some (.list zs, true, c)) = kMd (upL c i (fExt zs)) := rfl
theorem fExt_of (h : ds.length + zs.length ≤ LIM) : fExt zs (.list ds) = some (.list (ds ++ zs)) := if_pos h
def kXi4 (c : En) (o : Option Nat) : OE := o.bind fun j => some (.int (j : Nat), false, c)
def kXi3 (d : D) (c : En) (o : Option (List D)) : OE := o.bind fun ds => if (flatD d && ds.all flatD) = true then kXi4 c (idxD d ds) else none
def kXi2 (i : Nat) (d : D) (c : En) (o : Option D) : OE := o.bind fun z => kXi3 d c (listD z)
def kXi1 (i : Nat) (o : OE) : OE := o.bind fun r => kXi2 i r.1 r.2.2 (cont r.2.2 i)
def kXi0 (i : Nat) (fe : EX) (cs : En) (o : Option D) : OE := o.bind fun z => (listD z).bind fun _ => kXi1 i (fe cs)
@[simp] theorem evIdx_ap : evIdx i fe cs = kXi0 i fe cs (cont cs i) := by
  unfold evIdx kXi0 kXi1 kXi2 kXi3 kXi4
  rfl
@[simp] theorem kXi0_s : kXi0 i fe cs (some (.list ds)) = kXi1 i (fe cs) := rfl
@[simp] theorem kXi1_s : kXi1 i (some (d, f1, c)) = kXi2 i d c (cont c i) := rfl
@[simp] theorem kXi2_s : kXi2 i d c (some (.list ds)) = kXi3 d c (some ds) := rfl
theorem kXi3_of (h : flatD d = true) (h2 : ds.all flatD = true) : kXi3 d c (some ds) = kXi4 c (idxD d ds) := by
  show (if (flatD d && ds.all flatD) = true then _ else _) = _
  rw [h, h2]
  rfl
@[simp] theorem kXi4_s : kXi4 c (some n) = some (.int (n : Nat), false, c) := rfl
/-! isinstance of several -/
def kIsiT (ns : List String) (c : En) (o : Option D) : OE := o.bind fun d => if ns.length ≤ LIM then (kitBs (tyD d) ns).bind fun b => some (.bool b, false, c) else none
@[simp] theorem evIsiTV_ap {ns : List String} : evIsiTV ns i cs = kIsiT ns cs (cont cs i) := rfl
def kIsiTE (ns : List String) (o : OE) : OE := o.bind fun r => kIsiT ns r.2.2 (some r.1)
@[simp] theorem evIsiT_ap {ns : List String} : evIsiT ns f cs = kIsiTE ns (f cs) := rfl
@[simp] theorem kIsiTE_s {ns : List String} : kIsiTE ns (some (d, f1, c)) = kIsiT ns c (some d) := rfl
theorem kitBs_isT {ns : List String} (h : ∀ n ∈ ns, n ∈ ["int", "bool", "str", "list", "tuple", "dict"]) (d : D) : kitBs (tyD d) ns = some (ns.any fun n => isT n d) := by
  induction ns with
  | nil => rfl
  | cons n r ih =>
    unfold kitBs
    rw [kit_isT (h n (by simp)) d, Option.bind_some, ih fun m hm => h m (by simp [hm])]
    cases e : isT n d <;> simp [e]
@[simp] theorem kIsiT_lt : kIsiT ["list", "tuple"] c (some d) = some (.bool (isT "list" d || (isT "tuple" d || false)), false, c) := by
  unfold kIsiT
  rw [Option.bind_some, if_pos (by show 2 ≤ LIM; decide), kitBs_isT (by decide)]
  rfl
@[simp] theorem kIsiT_tl : kIsiT ["tuple", "list"] c (some d) = some (.bool (isT "tuple" d || (isT "list" d || false)), false, c) := by
  unfold kIsiT
  rw [Option.bind_some, if_pos (by show 2 ≤ LIM; decide), kitBs_isT (by decide)]
  rfl
/-! truths -/
def kTru (c : En) (o : Option Bool) : Option (Bool × En) := o.bind fun k => some (k, c)
@[simp] theorem kTru_s : kTru c (some b) = some (b, c) := rfl
def kTrE (o : OE) : Option (Bool × En) := o.bind fun r => kTru r.2.2 (truD r.1)
@[simp] theorem evTr_ap : evTr f cs = kTrE (f cs) := rfl
@[simp] theorem kTrE_s : kTrE (some (d, f1, c)) = kTru c (truD d) := rfl
def kTrV (c : En) (o : Option D) : Option (Bool × En) := o.bind fun d => kTru c (truD d)
@[simp] theorem evTrV_ap : evTrV i cs = kTrV cs (cont cs i) := rfl
@[simp] theorem kTrV_s : kTrV c (some d) = kTru c (truD d) := rfl
@[simp] theorem truD_n : truD .none = some false := rfl
@[simp] theorem truD_b : truD (.bool b) = some b := rfl
@[simp] theorem truD_i : truD (.int j) = some (j != 0) := rfl
@[simp] theorem truD_l : truD (.list ds) = some (!ds.isEmpty) := rfl
@[simp] theorem truD_t : truD (.tuple ds) = some (!ds.isEmpty) := rfl
/-! joins -/
def kJ2 (t : Str) (o : OE) : OE := o.bind fun r => fin r.2.2 (gJoin t r.1)
def kJ1 (fe : EX) (o : OE) : OE := o.bind fun s => match s.1 with
  | .str t => kJ2 t (fe s.2.2)
  | _ => none
@[simp] theorem evJoin_ap : evJoin fa fe cs = kJ1 fe (fa cs) := rfl
@[simp] theorem kJ1_s {w : Str} : kJ1 fe (some (.str w, f1, c)) = kJ2 w (fe c) := rfl
@[simp] theorem kJ2_s {w : Str} : kJ2 w (some (d, f1, c)) = fin c (gJoin w d) := rfl
@[simp] theorem gxUnl_ap {tg : GsX} {n : Nat} : gxUnl tg n (.list xs) cs = if xs.length = n then tg xs cs else none := rfl
/-! the rest -/
@[simp] theorem gInt_b : gInt [.bool b] = some (.int (if b = true then 1 else 0), false) := rfl
@[simp] theorem gMax2_i {j k : Int} : gMax2 [.int j, .int k] = some (.int (if j < k then k else j), false) := rfl
@[simp] theorem gMin2_i {j k : Int} : gMin2 [.int j, .int k] = some (.int (if k < j then k else j), false) := rfl
theorem gAdd_l (h : xs.length + zs.length ≤ LIM) : gAdd (.list xs) (.list zs) = some (.list (xs ++ zs), true) := by
  show (if _ ≤ LIM then _ else _) = _
  rw [if_pos h]
/-- the item at a place -/
theorem atD_nat (h : m < xs.length) : atD xs (m : Int) = some xs[m] := by
  rw [atD_of (by omega) (by omega)]
  simpa using List.getElem?_eq_getElem h
theorem cutL_to {α : Type} (xs : List α) (n : Nat) : cutL xs none (some (n : Int)) = xs.take n := by
  unfold cutL
  rw [HT.sIx_nat, HT.sIx_none, List.drop_zero, Nat.sub_zero]
  by_cases h : n ≤ xs.length
  · rw [Nat.min_eq_left h]
  · rw [Nat.min_eq_right (by omega), List.take_length, List.take_of_length_le (by omega)]
theorem cutL_from {α : Type} (xs : List α) (n : Nat) : cutL xs (some (n : Int)) none = xs.drop n := by
  unfold cutL
  rw [HT.sIx_nat, HT.sIx_none]
  by_cases h : n ≤ xs.length
  · rw [Nat.min_eq_left h, List.take_of_length_le]
    rw [List.length_drop]
    exact Nat.le_refl _
  · rw [Nat.min_eq_right (by omega), List.drop_length, List.take_nil, List.drop_eq_nil_of_le (by omega)]
theorem cutL_neg1 {α : Type} (xs : List α) : cutL xs none (some (-1)) = xs.take (xs.length - 1) := by
  unfold cutL HT.sIx
  simp
  cases xs with
  | nil => rfl
  | cons x r =>
    congr 1
    simp
    try omega
@[simp] theorem gSl_l {o1 o2 : Option Int} : gSl (.list xs) o1 o2 = some (.list (cutL xs o1 o2), true) := rfl
@[simp] theorem gSl_t {o1 o2 : Option Int} : gSl (.tuple xs) o1 o2 = some (.tuple (cutL xs o1 o2), false) := rfl
end
section
variable {gt : GX} {ft : TX} {fe : EX} {vs : List Nat} {cs : En} {items : List D}
/-- a comprehension each of whose elements is there and has P -/
theorem loopC_ex {P : Nat → D → Prop} (hx : ∀ i x, items[i]? = some x → ∃ c1 y f1, gt x cs = some c1 ∧ ft c1 = some (true, c1) ∧ fe c1 = some (y, f1, c1) ∧ P i y ∧ noOwn c1 vs = true ∧ clr c1 vs = cs) (hl : items.length ≤ LIM) :
    ∃ ys, loopC gt ft fe vs items [] cs = some (ys, cs) ∧ ys.length = items.length ∧ ∀ i y, ys[i]? = some y → P i y := by
  have gen : ∀ (r pre : List D), items = pre ++ r → ∀ acc : List D, acc.length = pre.length → (∀ i y, acc[i]? = some y → P i y) → ∃ ys, loopC gt ft fe vs r acc cs = some (ys, cs) ∧ ys.length = items.length ∧ ∀ i y, ys[i]? = some y → P i y := by
    intro r
    induction r with
    | nil =>
      intro pre hp acc ha hP
      exact ⟨acc, rfl, by rw [ha, hp, List.append_nil], hP⟩
    | cons x r ih =>
      intro pre hp acc ha hP
      obtain ⟨c1, y, f1, h1, h2, h3, h3', h4, h5⟩ := hx pre.length x (by rw [hp]; simp)
      obtain ⟨ys, q1, q2, q3⟩ := ih (pre ++ [x]) (by rw [hp]; simp) (acc ++ [y]) (by simp [ha]) (fun i z hz => by
        by_cases hi : i < acc.length
        · rw [List.getElem?_append_left hi] at hz
          exact hP i z hz
        · rw [List.getElem?_append_right (by omega)] at hz
          have hi' : i - acc.length = 0 := by
            have := (List.getElem?_eq_some_iff.mp hz).1
            simp at this
            omega
          rw [hi'] at hz
          simp at hz
          subst hz
          have : i = pre.length := by omega
          rw [this]
          exact h3')
      refine ⟨ys, ?_, q2, q3⟩
      have hacc : acc.length < LIM := by
        have := congrArg List.length hp
        rw [List.length_append, List.length_cons] at this
        omega
      unfold loopC
      rw [h1, Option.bind_some, h2, Option.bind_some, if_pos rfl, h3, Option.bind_some]
      dsimp only
      rw [h4, h5, show decide (acc.length < LIM) = true from decide_eq_true hacc]
      exact q1
  exact gen items [] rfl [] rfl (fun i y h => by simp at h)
end
end Qp
end
section
set_option Elab.async false
set_option linter.all false
set_option maxRecDepth 100000
set_option maxHeartbeats 2000000
/-! Qr: dicts that are data: len, equality; calls that borrow an object of the caller. -/
namespace Qp
open PySem PySem.Spec PyProof.Rows L2
section
variable {X : Cx} {K : PySem.W.Frag} {F : Hp} {e a b : Expr} {es : List Expr} {te ta tb tk to : TE} {ts : TA} {fe fa fb fk : EX} {fs : AX} {pos fpos cpos xpos : Pos} {x : Str} {i : Nat}
/-! ### len -/
def rLenR : List V → Hp → VK → Prop := fun xs H Q => ∃ a kvs, xs = [V.ref a] ∧ Rd H a (.dK kvs) ∧ Q (.int kvs.length) H
theorem call_lenR : CallR X (.builtin "len") rLenR := by
  intro pins s σ H xs us Q I r h
  obtain ⟨a, kvs, rfl, ha, q⟩ := h
  cases r with
  | cons ru r =>
    cases r
    cases ru
    exact d_len I ha fun t s' I' => ⟨.int kvs.length, H, I', ⟨t, rfl⟩, q⟩
def gLenD : G1
  | .dict es => some (.int es.length, false)
  | _ => none
theorem sw_lenD : SRCw K rLenR gLenD := by
  intro H M hm x d rx z fr q Q k
  unfold gLenD at q
  split at q
  · cases q
    obtain ⟨a, kvs, rfl, hr, he, hp⟩ := rx.dict
    refine ⟨a, kvs, rfl, hr, ?_⟩
    rw [len_pd he]
    exact k _ H (Ex.refl H) (VOk.of (.int _))
  · cases q
/-! ### equality of dicts -/
def hitsD (fs : List (D × D)) : List (D × D) → Bool
  | [] => true
  | (k, d) :: r => match keyD k with
    | none => false
    | some k => match valD fs k with
      | none => false
      | some y => PyData.eqv d y && hitsD fs r
def eqD (es fs : List (D × D)) : Bool := es.length == fs.length && hitsD fs es
def shapedE (es : List (D × D)) : Bool := es.all fun p => SeqAt.shaped p.2
theorem keyD_kD (k : Key) : keyD (kD k) = some k := by cases k <;> rfl
theorem hits_pd {pins : List (Addr × Obj)} {σ : St} {H : Hp} {s : Shared} {A : Around} (I : L2.Inv X pins σ H s) (hA : A.units + 64 < cLine) {ls : List (Key × V)} {fs : List (D × D)} {vb : List (Key × Value)}
    (hf : fs.map (·.1) = ls.map (fun p => kD p.1)) (hp : Paired (Rp X.K H) (ls.map (·.2)) (fs.map (·.2))) (hs : shapedE fs = true) (rb : KV ls vb) :
    ∀ {ks : List (Key × V)} {es : List (D × D)} {va : List (Key × Value)}, es.map (·.1) = ks.map (fun p => kD p.1) → Paired (Rp X.K H) (ks.map (·.2)) (es.map (·.2)) → shapedE es = true → KV ks va → PySem.W.KeqHits A s vb va (hitsD fs es)
  | [], [], _, _, _, _, .nil => .nil
  | [], _ :: _, _, e, _, _, _ => by simp at e
  | _ :: _, [], _, e, _, _, _ => by simp at e
  | (j, v) :: ks, (x, d) :: es, (j', w) :: va, e, .cons r t, se, .cons h ra => by
    rw [List.map_cons, List.map_cons] at e
    injection e with e1 e2
    dsimp only at e1
    subst e1
    obtain ⟨h1, h2⟩ := h
    dsimp only at h1 h2
    subst h1
    unfold shapedE at se
    rw [List.all_cons, Bool.and_eq_true] at se
    have ih := hits_pd I hA hf hp hs rb e2 t se.2 ra
    have hv := KV.val rb j
    show PySem.W.KeqHits A s vb ((j, w) :: va) (match keyD (kD j) with
      | none => false
      | some k => match valD fs k with
        | none => false
        | some y => PyData.eqv d y && hitsD fs es)
    rw [keyD_kD]
    dsimp only
    rcases val_pd hf hp j with ⟨n1, n2⟩ | ⟨u, y, n1, n2, n3⟩
    · rw [n2]
      refine .miss ?_
      rw [n1] at hv
      cases hq : valueAt vb j with
      | none => rfl
      | some z => rw [hq] at hv; cases hv
    · rw [n2]
      rw [n1] at hv
      obtain ⟨z, hz, rz⟩ := RelO.some_of hv
      have sy : SeqAt.shaped y = true := by
        unfold valD at n2
        obtain ⟨p, hp1, hp2⟩ := Option.map_eq_some_iff.mp n2
        have := List.all_eq_true.mp hs p (List.mem_of_find?_eq_some hp1)
        rw [hp2] at this
        exact this
      have sd := se.1
      have cd : PyData.canLay0 d = true := by
        have := sd
        unfold SeqAt.shaped at this
        rw [Bool.and_eq_true] at this
        exact this.1
      have cy : PyData.canLay0 y = true := by
        have := sy
        unfold SeqAt.shaped at this
        rw [Bool.and_eq_true] at this
        exact this.1
      have dd : PyData.depth d ≤ 64 := by
        have := sd
        unfold SeqAt.shaped at this
        rw [Bool.and_eq_true, decide_eq_true_eq] at this
        exact this.2
      obtain ⟨as, r1⟩ := Dp.reads I d v w (dp_of r (Le.refl H) cd) h2
      obtain ⟨bs, r2⟩ := Dp.reads I y u z (dp_of n3 (Le.refl H) cy) rz
      exact .hit hz (SeqAt.eqAt_reads d y A s w z as bs r1 r2 cd cy (by omega)) ih
def rNeDD (K : PySem.W.Frag) (neg : Bool) : R2 := fun x y H Q => ∃ a b ks ls, ∃ es fs : List (D × D), x = .ref a ∧ y = .ref b ∧ Rd H a (.dK ks) ∧ Rd H b (.dK ls) ∧ es.map (·.1) = ks.map (fun p => kD p.1) ∧ Paired (Rp K H) (ks.map (·.2)) (es.map (·.2)) ∧
  fs.map (·.1) = ls.map (fun p => kD p.1) ∧ Paired (Rp K H) (ls.map (·.2)) (fs.map (·.2)) ∧ shapedE es = true ∧ shapedE fs = true ∧ Q (.bl (eqD es fs != neg)) H
theorem op_neDD (hu : X.A.units + 65 < cLine) : OpR X (compareOp .NotEq) (rNeDD X.K true) := by
  intro pins s σ H x y v u Q I rx ry h
  obtain ⟨a, b, ks, ls, es, fs, rfl, rfl, ra, rb, he, pe, hf, pf, se, sf, q⟩ := h
  cases rx
  cases ry
  obtain ⟨_, loa, va, ka, da⟩ := dk_rd I.hok ra
  obtain ⟨_, lob, vb, kb, db⟩ := dk_rd I.hok rb
  refine PySem.W.keq_ne (r := hitsD fs es) loa lob da db (by omega) (fun _ => hits_pd I (by show X.A.units + 1 + 64 < cLine; omega) hf pf sf kb he pe se ka) ?_
  refine fin_bl I q ?_
  unfold eqD
  rw [← KV.length ka, ← KV.length kb, len_pd he, len_pd hf, Bool.bne_true]
theorem op_eqDD (hu : X.A.units + 65 < cLine) : OpR X (compareOp .Eq) (rNeDD X.K false) := by
  intro pins s σ H x y v u Q I rx ry h
  obtain ⟨a, b, ks, ls, es, fs, rfl, rfl, ra, rb, he, pe, hf, pf, se, sf, q⟩ := h
  cases rx
  cases ry
  obtain ⟨_, loa, va, ka, da⟩ := dk_rd I.hok ra
  obtain ⟨_, lob, vb, kb, db⟩ := dk_rd I.hok rb
  refine PySem.W.keq_eq (r := hitsD fs es) loa lob da db (by omega) (fun _ => hits_pd I (by show X.A.units + 1 + 64 < cLine; omega) hf pf sf kb he pe se ka) ?_
  refine fin_bl I q ?_
  unfold eqD
  rw [← KV.length ka, ← KV.length kb, len_pd he, len_pd hf, Bool.bne_false]
def gEqD (neg : Bool) : G2
  | .dict es, .dict fs => if (shapedE es && shapedE fs) = true then some (.bool (eqD es fs != neg), false) else none
  | _, _ => none
theorem sw_eqDD {neg : Bool} : SRw K (rNeDD K neg) (gEqD neg) := by
  intro H M hm x y d e rx ry z fr q Q k
  unfold gEqD at q
  split at q
  · split at q
    · rename_i hs
      rw [Bool.and_eq_true] at hs
      cases q
      obtain ⟨a, ks, rfl, r1, he, pe⟩ := rx.dict
      obtain ⟨b, ls, rfl, r2, hf, pf⟩ := (Vw.of_rp ry).dict
      exact ⟨a, b, ks, ls, _, _, rfl, rfl, r1, r2, he, Rp.monoA cut_le pe, hf, Rp.monoA cut_le pf, hs.1, hs.2, k _ H (Ex.refl H) (VOk.of (.bl _))⟩
    · cases q
  · cases q
end
/-! ### borrowing -/
mutual
/-- a datum within which nothing can be changed -/
def noMut : D → Bool
  | .none => true
  | .bool _ => true
  | .int _ => true
  | .str _ => true
  | .tuple ds => noMutAll ds
  | .list _ => false
  | .dict _ => false
def noMutAll : List D → Bool
  | [] => true
  | d :: r => noMut d && noMutAll r
end
def noMutF (fr : Bool) (d : D) : Bool := if fr = true then (match d with
  | .list ds => noMutAll ds
  | .dict es => noMutAll (es.map (·.2))
  | _ => false) else noMut d
section
variable {K : PySem.W.Frag} {F F' : Hp}
/-- only lists and dicts are lacking in F' -/
def LeT (F F' : Hp) : Prop := ∀ a xs, Rd F a (.tup xs) → Rd F' a (.tup xs)
theorem rp_noMut (h : LeT F F') {v : V} {d : D} (r : Rp K F v d) : noMut d = true → Rp K F' v d :=
  Rp.rec (motive_1 := fun v d _ => noMut d = true → Rp K F' v d) (motive_2 := fun xs ds _ => noMutAll ds = true → Paired (Rp K F') xs ds) (fun _ => .non) (fun b _ => .bl b) (fun i _ => .int i) (fun x _ => .str x)
    (fun _ _ _ n => nomatch (show false = true from n)) (fun a _ ih n => .tup (a.imp (h _ _) id) (ih n)) (fun _ _ _ _ n => nomatch (show false = true from n)) (fun _ => .nil)
    (fun _ _ r t n => .cons (r (Bool.and_eq_true_iff.mp n).1) (t (Bool.and_eq_true_iff.mp n).2)) r
theorem rp_noMutAll (h : LeT F F') : ∀ {xs : List V} {ds : List D}, Paired (Rp K F) xs ds → noMutAll ds = true → Paired (Rp K F') xs ds
  | _, _, .nil, _ => .nil
  | _, _, .cons r t, n => .cons (rp_noMut h r (Bool.and_eq_true_iff.mp n).1) (rp_noMutAll h t (Bool.and_eq_true_iff.mp n).2)
end
end Qp
end
section
set_option Elab.async false
set_option linter.all false
set_option maxRecDepth 100000
set_option maxHeartbeats 2000000
/-! Qs: calls that borrow; displays of dicts; walks over the keys of a dict. -/
namespace Qp
open PySem PySem.Spec PyProof.Rows L2
def MdB (σ : St) (cs : En) (X : Addr → Prop) (bs : List Nat) : Addr → Prop := fun a => X a ∨ ∃ i, i ∉ bs ∧ OwnS σ cs i a
theorem mdB_md {σ : St} {cs : En} {X : Addr → Prop} {bs : List Nat} {a : Addr} (h : MdB σ cs X bs a) : Md σ cs X a := h.imp id fun ⟨i, _, q⟩ => ⟨i, q⟩
theorem le_mdB {H : Hp} {σ : St} {cs : En} {X : Addr → Prop} {bs : List Nat} : Le (cut H (Md σ cs X)) (cut H (MdB σ cs X bs)) := le_cut fun _ _ e m => ⟨e, fun z => m (mdB_md z)⟩
def SAB (K : PySem.W.Frag) (t : TA) (f : AX) (bs : List Nat) : Prop := ∀ {B : Hp} {IO : List (Nat × Addr)} {X : Addr → Prop} {σ : St} {H : Hp} {cs : En}, Ok K B IO X σ H cs → ∀ {ds : List D} {cs' : En}, f cs = some (ds, cs') →
  ∀ Q : List V → Hp → Prop, (∀ vs H', Post K B IO X σ H cs σ H' cs' → Paired (Rp K (cut H' (MdB σ cs' X bs))) vs ds → Q vs H') → t σ H Q
structure DAB (X : Cx) (e : List Expr) (t : TA) (f : AX) (bs : List Nat) : Prop where
  pa : PA X e t
  sab : SAB X.K t f bs
section
variable {X : Cx} {K : PySem.W.Frag} {e a b : Expr} {es : List Expr} {te ta tb tk to : TE} {ts : TA} {fe fa fb fk : EX} {fs : AX} {pos fpos cpos xpos p : Pos} {x : Str} {i n k : Nat} {bs : List Nat} {F : GA} {f : Addr} {fd : FuncData} {ps : List Str}
theorem dab_nil : DAB X [] tNil evNil bs := by
  refine ⟨pa_nil, ?_⟩
  intro B IO Z σ H cs ok ds cs' e Q q
  cases e
  exact q [] H (Post.refl ok) .nil
theorem dab_cons (h : DE X e te fe) (hr : DAB X es ts fs bs) (hs : starEach (e :: es) X.env = (false, eval e X.env) :: starEach es X.env := by rfl) : DAB X (e :: es) (tCons te ts) (evCons fe fs) bs := by
  refine ⟨pa_cons h.pe hr.pa hs, ?_⟩
  intro B IO Z σ H cs ok ds cs' e Q q
  unfold evCons at e
  obtain ⟨⟨d1, f1, c1⟩, e1, e⟩ := Option.bind_eq_some_iff.mp e
  obtain ⟨⟨d2, c2⟩, e2, e⟩ := Option.bind_eq_some_iff.mp e
  cases e
  refine h.se ok e1 _ fun x H1 w1 => hr.sab w1.post.ok e2 _ fun xs H2 p2 v2 => q _ H2 (w1.post.trans p2) (.cons ((w1.rp.mono p2.le).mono le_mdB) v2)
def evBor (i : Nat) (g : AX) : AX := fun cs => (cont cs i).bind fun _ => (g cs).bind fun s => (cont s.2 i).bind fun d => some (d :: s.1, s.2)
theorem Ok.borrow {B : Hp} {IO : List (Nat × Addr)} {Z : Addr → Prop} {σ : St} {H : Hp} {cs : En} (ok : Ok K B IO Z σ H cs) {d : D} (h : cont cs i = some d) (hb : i ∈ bs) : ∃ v, σ[i]? = some (some v) ∧ Rp K (cut H (MdB σ cs Z bs)) v d := by
  have own : ∀ d : D, (cs[i]? = some (.own d) ∨ cs[i]? = some (.io d)) → ∃ v, σ[i]? = some (some v) ∧ Rp K (cut H (MdB σ cs Z bs)) v d := by
    intro d hd
    obtain ⟨a, h1, h2⟩ := ok.own i d hd
    have ho : OwnS σ cs i a := ⟨h1, d, hd⟩
    refine ⟨.ref a, h1, h2.rp (cut_of fun m => ?_) le_mdB⟩
    rcases m with m | ⟨j, hj, q⟩
    · exact ok.dis i a ho m
    · have := ok.inj i j a ho q
      subst this
      exact hj hb
  unfold cont at h
  split at h
  · rename_i d' h'
    cases h
    obtain ⟨v, h1, h2⟩ := ok.dat i _ h'
    exact ⟨v, h1, h2.mono le_mdB⟩
  · rename_i d' h'
    cases h
    exact own _ (.inl h')
  · rename_i d' h'
    cases h
    exact own _ (.inr h')
  · cases h
theorem dab_bor (hv : DE X (.Name x xpos) (tVar i) (evVar i)) (hr : DAB X es ts fs bs) (hb : i ∈ bs) (hs : starEach (.Name x xpos :: es) X.env = (false, eval (.Name x xpos) X.env) :: starEach es X.env := by rfl) : DAB X (.Name x xpos :: es) (tCons (tVar i) ts) (evBor i fs) bs := by
  refine ⟨pa_cons hv.pe hr.pa hs, ?_⟩
  intro B IO Z σ H cs ok ds cs' e Q q
  unfold evBor at e
  obtain ⟨d0, e0, e⟩ := Option.bind_eq_some_iff.mp e
  obtain ⟨⟨d2, c2⟩, e2, e⟩ := Option.bind_eq_some_iff.mp e
  obtain ⟨d, e1, e⟩ := Option.bind_eq_some_iff.mp e
  cases e
  obtain ⟨v, hv, _⟩ := ok.view e0
  refine ⟨v, hv, hr.sab ok e2 _ fun xs H2 p2 v2 => ?_⟩
  obtain ⟨v', hv', r⟩ := p2.ok.borrow e1 hb
  rw [hv] at hv'
  cases hv'
  exact q _ H2 p2 (.cons r v2)
theorem leT_mdB {B : Hp} {IO : List (Nat × Addr)} {Z : Addr → Prop} {σ : St} {H H' : Hp} {cs : En} (ok : Ok K B IO Z σ H cs) (x : Ex H H') {P : Addr → Prop} : LeT (cut H' (fun a => MdB σ cs Z bs a ∨ P a)) (cut H' (fun a => Md σ cs Z a ∨ P a)) := by
  have key : ∀ a u, H' a = some u → (∀ xs, u ≠ .lst xs) → (∀ kvs, u ≠ .dK kvs) → ¬ (MdB σ cs Z bs a ∨ P a) → ¬ (Md σ cs Z a ∨ P a) := by
    intro a u hu n1 n2 nm m
    rcases m with m | m
    · rcases m with m | ⟨i, q⟩
      · exact nm (.inl (.inl m))
      · by_cases hi : i ∈ bs
        · obtain ⟨q1, d, q2⟩ := q
          obtain ⟨b, g1, g2⟩ := ok.own i d q2
          rw [q1] at g1
          cases g1
          generalize hg : H a = o at g2
          cases g2 with
          | lst _ => rw [x a _ hg] at hu; cases hu; exact n1 _ rfl
          | dic _ _ => rw [x a _ hg] at hu; cases hu; exact n2 _ rfl
        · exact nm (.inl (.inr ⟨i, hi, q⟩))
    · exact nm (.inr m)
  intro a xs r
  rcases r with r | ⟨o, r⟩
  · obtain ⟨h1, h2⟩ := cut_some r
    exact .inl ((cut_of (key a _ h1 (fun _ z => nomatch z) (fun _ z => nomatch z) h2)).trans h1)
  · obtain ⟨h1, h2⟩ := cut_some r
    exact .inr ⟨o, (cut_of (key a _ h1 (fun _ z => nomatch z) (fun _ z => nomatch z) h2)).trans h1⟩
theorem cut_or {H : Hp} {M : Addr → Prop} : cut H (fun a => M a ∨ False) = cut H M := funext fun a => by
  by_cases h : M a
  · rw [cut_in h, cut_in (Or.inl h)]
  · rw [cut_of h, cut_of (fun z => z.elim h id)]
def evCB (G : GA) (fs : AX) : EX := fun cs => (fs cs).bind fun r => (G r.1).bind fun z => if noMutF z.2 z.1 = true then some (z.1, z.2, r.2) else none
theorem de_callB (bs : List Nat) (hF : FnOk X.prog X.w X.K X.mg X.base CX0 k f fd ps (spP X.K n F)) (hr : Room k X.A) (hg : Gl X x) (hm : X.mg x = some (.ref f)) (hk : PySem.W.keepIn X.K (.ref f) = true) (hb : Binds X.K fd ps []) (ha : DAB X (e :: es) ts fs bs)
    (hdb : (x == ("__debug__" : Str)) = false := by decide) (he : starEach (e :: es) X.env = (false, eval e X.env) :: starEach es X.env := by rfl) (hpl : (backTo pos (starEach es X.env)).any (·.1) = false := by rfl) :
    DE X (.Call (.Name x p) (e :: es) [] pos) (tCall (spP X.K n F) [] E0 ts) (evCB (gN n F) fs) := by
  refine ⟨pe_call hF hr hg hm hk hb .nil pass0 ha.pa hdb he hpl, ?_⟩
  intro B IO Z σ H cs ok d fr cs' e Q q
  unfold evCB at e
  obtain ⟨⟨d1, c1⟩, e1, e⟩ := Option.bind_eq_some_iff.mp e
  obtain ⟨⟨z, fz⟩, e2, e⟩ := Option.bind_eq_some_iff.mp e
  dsimp only at e e2
  split at e
  · rename_i hn
    cases e
    unfold gN at e2
    split at e2
    · rename_i hl
      refine ha.sab ok e1 _ fun vs H1 p1 v1 => ⟨MdB σ cs' Z bs, d1, d, fr, fun a m => p1.ok.md a (mdB_md m), hl, by rw [List.append_nil]; exact v1, e2, fun v H' x w => ?_⟩
      refine q v H' (Pe.of p1 x ?_)
      unfold VOk at w ⊢
      cases fr with
      | false =>
        have w' : Rp X.K (cut H' (MdB σ cs' Z bs)) v d := w
        have lt := leT_mdB (bs := bs) p1.ok x (P := fun _ => False)
        rw [cut_or, cut_or] at lt
        exact rp_noMut lt w' hn
      | true =>
        obtain ⟨p, rfl, hp, ow⟩ := (show ∃ p, v = .ref p ∧ H1 p = none ∧ OwnAt X.K (cut H' (fun a => MdB σ cs' Z bs a ∨ a = p)) (H' p) d from w)
        have lt := leT_mdB (bs := bs) p1.ok x (P := fun a => a = p)
        refine ⟨p, rfl, hp, ?_⟩
        generalize H' p = o at ow
        cases ow with
        | lst qq => exact .lst (rp_noMutAll lt qq hn)
        | dic e' qq => exact .dic e' (rp_noMutAll lt qq hn)
    · cases e2
  · cases e
theorem dcB (bs : List Nat) (c : Cal X.prog X.w X.K X.mg X.base x k ps (spP X.K n F)) (hr : Room k X.A) (ha : DAB X (e :: es) ts fs bs) (hg : Gl X x := by rfl)
    (hdb : (x == ("__debug__" : Str)) = false := by decide) (he : starEach (e :: es) X.env = (false, eval e X.env) :: starEach es X.env := by rfl) (hpl : (backTo pos (starEach es X.env)).any (·.1) = false := by rfl) :
    DE X (.Call (.Name x p) (e :: es) [] pos) (tCall (spP X.K n F) [] E0 ts) (evCB (gN n F) fs) := de_callB bs c.ok hr hg c.m c.kp c.b ha hdb he hpl
/-! ### displays of dicts -/
abbrev PX := En → Option (List (Key × D) × En)
def SPs (K : PySem.W.Frag) (trs : List (TE × TE)) (f : PX) : Prop := ∀ {B : Hp} {IO : List (Nat × Addr)} {X : Addr → Prop} {σ : St} {H : Hp} {cs : En}, Ok K B IO X σ H cs → ∀ {ds : List (Key × D)} {cs' : En}, f cs = some (ds, cs') →
  ∀ Q : List (V × V) → Hp → Prop, (∀ vs H', Post K B IO X σ H cs σ H' cs' → Paired (fun q p => q.1 = kV p.1 ∧ Rp K (cut H' (Md σ cs' X)) q.2 p.2) vs ds → Q vs H') → tPairs trs σ H Q
structure DPs (X : Cx) (pos : Pos) (ks : List (Option Expr)) (vs : List Expr) (trs : List (TE × TE)) (f : PX) : Prop where
  pp : PPs X pos ks vs trs
  sp : SPs X.K trs f
def evPn : PX := fun cs => some ([], cs)
def evPc (fk fe : EX) (g : PX) : PX := fun cs => (fk cs).bind fun r => (keyD r.1).bind fun k => (fe r.2.2).bind fun s => (g s.2.2).bind fun u => some ((k, s.1) :: u.1, u.2)
theorem dp_nil : DPs X pos [] [] [] evPn := by
  refine ⟨pps_nil, ?_⟩
  intro B IO Z σ H cs ok ds cs' e Q q
  cases e
  exact q [] H (Post.refl ok) .nil
theorem dp_cons {ks : List (Option Expr)} {vs : List Expr} {trs : List (TE × TE)} {g : PX} (hk : DE X a tk fk) (he : DE X e te fe) (hr : DPs X pos ks vs trs g) : DPs X pos (some a :: ks) (e :: vs) ((tk, te) :: trs) (evPc fk fe g) := by
  refine ⟨pps_cons hk.pe he.pe hr.pp, ?_⟩
  intro B IO Z σ H cs ok ds cs' e Q q
  unfold evPc at e
  obtain ⟨⟨d1, f1, c1⟩, e1, e⟩ := Option.bind_eq_some_iff.mp e
  obtain ⟨kk, e2, e⟩ := Option.bind_eq_some_iff.mp e
  obtain ⟨⟨d3, f3, c3⟩, e3, e⟩ := Option.bind_eq_some_iff.mp e
  obtain ⟨⟨d4, c4⟩, e4, e⟩ := Option.bind_eq_some_iff.mp e
  cases e
  show tk σ H fun x H1 => te σ H1 fun y H2 => tPairs trs σ H2 fun ps H3 => Q ((x, y) :: ps) H3
  refine hk.se ok e1 _ fun x H1 w1 => he.se w1.post.ok e3 _ fun y H2 w2 => hr.sp w2.post.ok e4 _ fun ps H3 p3 v3 => ?_
  exact q _ H3 ((w1.post.trans w2.post).trans p3) (.cons ⟨key_rp w1.rp e2, w2.rp.mono p3.le⟩ v3)
def mergeD (es : List (D × D)) (ps : List (Key × D)) : List (D × D) := ps.foldl (fun acc p => putD acc p.1 p.2) es
theorem merge_pd {R : V → D → Prop} : ∀ {vs : List (V × V)} {ps : List (Key × D)}, Paired (fun q p => q.1 = kV p.1 ∧ R q.2 p.2) vs ps → ∃ kvs : List (Key × V), vs = kvs.map (fun kv => (kV kv.1, kv.2)) ∧ kvs.length = ps.length ∧
    ∀ {acc : List (Key × V)} {es : List (D × D)}, es.map (·.1) = acc.map (fun p => kD p.1) → Paired R (acc.map (·.2)) (es.map (·.2)) → (mergeD es ps).map (·.1) = (mergeK acc kvs).map (fun p => kD p.1) ∧ Paired R ((mergeK acc kvs).map (·.2)) ((mergeD es ps).map (·.2))
  | _, _, .nil => ⟨[], rfl, rfl, fun h1 h2 => ⟨h1, h2⟩⟩
  | (v, w) :: vs, (k, d) :: ps, .cons h t => by
    obtain ⟨h1, h2⟩ := h
    dsimp only at h1 h2
    subst h1
    obtain ⟨kvs, rfl, hl, g⟩ := merge_pd t
    refine ⟨(k, w) :: kvs, rfl, by simp [hl], fun h3 h4 => ?_⟩
    have := put_pd (k := k) h2 h3 h4
    exact g this.1 this.2
theorem Ok.updX2 {B : Hp} {IO : List (Nat × Addr)} {Z : Addr → Prop} {σ : St} {H : Hp} {cs : En} (ok : Ok K B IO Z σ H cs) {p : Addr} {o : HO} (hp : Z p) (hB : B p = none) : Ok K B IO Z σ (upd H p o) cs := by
  have hle : Le (cut H (Md σ cs Z)) (cut (upd H p o) (Md σ cs Z)) := le_cut fun a u e m => ⟨by rw [upd_ne (fun z => m (.inl (by rw [z]; exact hp)))]; exact e, m⟩
  refine ⟨ok.len, fun i d e => ?_, fun i d e => ?_, ok.inj, ok.dis, fun a h => ?_, ok.new, ok.io, ok.ios, fun a u h e => ?_, fun a h => ?_⟩
  · obtain ⟨v, h1, h2⟩ := ok.dat i d e
    exact ⟨v, h1, h2.mono hle⟩
  · obtain ⟨a, h1, h2⟩ := ok.own i d e
    have ne : a ≠ p := fun z => ok.dis i a ⟨h1, d, e⟩ (by rw [z]; exact hp)
    refine ⟨a, h1, ?_⟩
    rw [upd_ne ne]
    exact h2.mono hle
  · by_cases z : a = p
    · rw [z, upd_same]; exact fun z => nomatch z
    · rw [upd_ne z]; exact ok.xin a h
  · have ne : a ≠ p := fun z => by rw [z, hB] at e; cases e
    rw [upd_ne ne]
    exact ok.base a u h e
  · by_cases z : a = p
    · rw [z, upd_same]; exact fun z => nomatch z
    · rw [upd_ne z]; exact ok.dom a h
def evDisp (g : PX) : EX := fun cs => (g cs).bind fun r => if r.1.length ≤ 15 then some (.dict (mergeD [] r.1), true, r.2) else none
theorem de_disp {ks : List (Option Expr)} {vs : List Expr} {trs : List (TE × TE)} {g : PX} (h : DPs X pos ks vs trs g) (hall : ks.all (·.isSome) = true) (hl : ks.length = vs.length) (h0 : ks ≠ []) (h15 : ks.length ≤ 15) : DE X (.Dict ks vs pos) (tDisp trs) (evDisp g) := by
  refine ⟨pe_disp h.pp hall hl h0 h15, ?_⟩
  intro B IO Z σ H cs ok d fr cs' e Q q
  unfold evDisp at e
  obtain ⟨⟨ps, c1⟩, e1, e⟩ := Option.bind_eq_some_iff.mp e
  dsimp only at e
  split at e
  · rename_i hn
    cases e
    intro p hp
    have hq := Pe.of (K := X.K) (Post.refl ok) (Ex.new (o := HO.dK []) hp) (VOk.new hp ok.md (.dic rfl .nil : OwnAt X.K _ (some (HO.dK [])) (.dict [])))
    obtain ⟨p', ep, _, pn, _⟩ := (show ∃ p', V.ref p = .ref p' ∧ H p' = none ∧ PostN X.K B IO Z σ H cs p' σ (upd H p (.dK [])) cs ∧ OwnAt X.K (cut (upd H p (.dK [])) (Md σ cs (XP Z p'))) (upd H p (.dK []) p') (.dict []) from hq)
    cases ep
    refine h.sp pn.ok e1 _ fun us H2 p2 v2 => ?_
    obtain ⟨kvs, rfl, hlen, mg⟩ := merge_pd v2
    have hk : H2 p = some (.dK []) := by rw [p2.keep p (.inr rfl), upd_same]
    obtain ⟨m1, m2⟩ := mg (acc := []) (es := []) rfl .nil
    refine ⟨hk, kvs, rfl, by omega, ?_⟩
    have hB : B p = none := by
      cases hb : B p with
      | none => rfl
      | some o => exact absurd hp (ok.dom p (by rw [hb]; exact fun z => nomatch z))
    refine q _ _ ⟨p, rfl, hp, ⟨p2.ok.updX2 (.inr rfl) hB, ?_, fun a ha => ?_, fun a ha => ?_, pn.np⟩, ?_⟩
    · refine (pn.le.trans p2.le).trans (le_cut fun a u e m => ⟨?_, m⟩)
      rw [upd_ne (fun z => m (.inl (.inr z)))]
      exact e
    · have ne : a ≠ p := fun z => pn.np (by rw [← z]; exact ha)
      rw [upd_ne ne, p2.keep a (.inl ha), upd_ne ne]
    · by_cases z : a = p
      · rw [z, upd_same]; exact fun z => nomatch z
      · rw [upd_ne z]; exact p2.dom a (by rw [upd_ne z]; exact ha)
    · rw [upd_same]
      refine .dic m1 (Rp.monoA (le_cut fun a u e m => ⟨?_, m⟩) m2)
      rw [upd_ne (fun z => m (.inl (.inr z)))]
      exact e
  · cases e
end
end Qp
end
section
set_option Elab.async false
set_option linter.all false
set_option maxRecDepth 100000
set_option maxHeartbeats 2000000
/-! Qt: for k in d. -/
namespace Qp
open PySem PySem.Spec PyProof.Rows L2
section
variable {X : Cx} {K : PySem.W.Frag} {i : Nat} {g : TG} {tb : TS} {gb : SX} {f : GX} {tgs : List Nat} {B : Hp} {IO : List (Nat × Addr)} {Z : Addr → Prop} {σ : St} {H : Hp} {cs : En} {a : Addr} {o : Obj} {kvs : List (Key × V)} {es : List (D × D)}
theorem rp_kD {F : Hp} (k : Key) : Rp K F (kV k) (kD k) := by
  cases k with
  | inl j => exact .int j
  | inr s => exact .str s
theorem forK_core (hg : SG K g tgs f) (hb : SS K tb gb) (ok : Ok K B IO Z σ H cs) (hB : B a = some (.frz o (.dK kvs))) (hIO : ∀ i, (i, a) ∉ IO) (he : es.map (·.1) = kvs.map (fun p => kD p.1)) (hs : σ[i]? = some (some (.ref a))) {r : Res} (el : loopF f gb (es.map (·.1)) cs = some r) (Dn : Ends) (q : DnOk K B IO Z σ H cs r Dn) :
    tFor (iKeys (tVar i)) g tb Dn σ H := by
  have hlen : (es.map (·.1)).length = kvs.length := by rw [he, List.length_map]
  refine ⟨.ref a, hs, a, o, rfl, .inl ⟨kvs, ok.base a _ hIO hB, ?_⟩⟩
  refine ⟨fun i m σ' H' => m = kvs.length - i ∧ i ≤ kvs.length ∧ ∃ c, Post K B IO Z σ H cs σ' H' c ∧ loopF f gb ((es.map (·.1)).drop i) c = some r, ⟨_, rfl, Nat.zero_le _, cs, Post.refl ok, by rw [List.drop_zero]; exact el⟩, ?_⟩
  rintro i m σ' H' ⟨rfl, hil, c, p, el⟩
  have hx := p.ok.base a _ hIO hB
  by_cases hlt : i < kvs.length
  · have hlt' : i < (es.map (·.1)).length := by omega
    rw [List.drop_eq_getElem_cons hlt'] at el
    unfold loopF at el
    obtain ⟨c2, e2, el⟩ := Option.bind_eq_some_iff.mp el
    obtain ⟨rb, e3, el⟩ := Option.bind_eq_some_iff.mp el
    have hk : (es.map (·.1))[i] = kD kvs[i].1 := by
      have : (es.map (·.1))[i]? = (kvs.map (fun p => kD p.1))[i]? := by rw [he]
      rw [List.getElem?_eq_getElem hlt', List.getElem?_map, List.getElem?_eq_getElem hlt] at this
      exact Option.some.inj this
    refine .inr ⟨⟨hx, hlt⟩, fun σ3 H3 => ∃ c3, Post K B IO Z σ H cs σ3 H3 c3 ∧ loopF f gb ((es.map (·.1)).drop (i + 1)) c3 = some r, fun σ3 H3 ⟨c3, h1, h3⟩ => ⟨kvs.length - (i + 1), by omega, rfl, hlt, c3, h1, h3⟩, fun x H2 hy => ?_⟩
    obtain ⟨rfl, k, v, hkv, rfl⟩ := hy
    rw [List.getElem?_eq_getElem hlt] at hkv
    cases hkv' : kvs[i] with
    | mk k' v' =>
      rw [hkv'] at hkv hk
      cases hkv
      refine hg p.ok (by rw [hk]; exact rp_kD k) e2 _ fun σ3 H3 p3 _ => ?_
      have p123 := p.trans p3
      refine hb p3.ok e3 _ ?_
      cases rb with
      | nx c4 => exact fun σ4 H4 p4 => ⟨c4, p123.trans p4, el⟩
      | ct c4 => exact fun σ4 H4 p4 => ⟨c4, p123.trans p4, el⟩
      | bk c4 =>
        cases el
        exact fun σ4 H4 p4 => q σ4 H4 (p123.trans p4)
      | rt d fr c4 =>
        cases el
        exact fun v σ4 H4 p4 => q v σ4 H4 (p4.pre p123)
  · have hi' : i = kvs.length := by omega
    subst hi'
    rw [List.drop_eq_nil_of_le (by omega)] at el
    cases el
    exact .inl ⟨⟨hx, Nat.le_refl _⟩, q σ' H' p⟩
/-! an object is put under a lock, and taken out again -/
theorem ok_in {u w : HO} (ok : Ok K B IO Z σ H cs) (hu : H a = some u) (hm : ¬ Md σ cs Z a) (hw : ∀ F F' : Hp, F a = some u → F' a = some w → ∀ v, Nf v → Rd F a v → Rd F' a v) : Ok K (upd B a w) IO Z σ (upd H a w) cs ∧ Le (cut H (Md σ cs Z)) (cut (upd H a w) (Md σ cs Z)) := by
  have hle : Le (cut H (Md σ cs Z)) (cut (upd H a w) (Md σ cs Z)) := by
    intro b v nv r
    by_cases e : b = a
    · subst e
      exact hw _ _ ((cut_of hm).trans hu) ((cut_of hm).trans upd_same) v nv r
    · have : cut (upd H a w) (Md σ cs Z) b = cut H (Md σ cs Z) b := by
        by_cases m : Md σ cs Z b
        · rw [cut_in m, cut_in m]
        · rw [cut_of m, cut_of m, upd_ne e]
      unfold Rd at r ⊢
      rw [this]
      exact r
  refine ⟨⟨ok.len, fun i d e => ?_, fun i d e => ?_, ok.inj, ok.dis, fun b h => ?_, fun i b d h1 h2 => ?_, ok.io, ok.ios, fun b v h e => ?_, fun b h => ?_⟩, hle⟩
  · obtain ⟨v, h1, h2⟩ := ok.dat i d e
    exact ⟨v, h1, h2.mono hle⟩
  · obtain ⟨b, h1, h2⟩ := ok.own i d e
    have ne : b ≠ a := fun z => hm (.inr ⟨i, by rw [← z]; exact h1, d, e⟩)
    refine ⟨b, h1, ?_⟩
    rw [upd_ne ne]
    exact h2.mono hle
  · by_cases e : b = a
    · rw [e, upd_same]; exact fun z => nomatch z
    · rw [upd_ne e]; exact ok.xin b h
  · have ne : b ≠ a := fun z => hm (.inr ⟨i, by rw [← z]; exact h1, d, .inl h2⟩)
    rw [upd_ne ne]
    exact ok.new i b d h1 h2
  · by_cases c : b = a
    · subst c; rw [upd_same] at e ⊢; exact e
    · rw [upd_ne c] at e ⊢; exact ok.base b v h e
  · by_cases c : b = a
    · rw [c, upd_same]; exact fun z => nomatch z
    · rw [upd_ne c] at h ⊢; exact ok.dom b h
theorem ok_out {u w : HO} (ok : Ok K (upd B a w) IO Z σ H cs) (hIO : ∀ i, (i, a) ∉ IO) (hBu : B a = none ∨ B a = some u) (hz : ∀ xs, w ≠ .lst xs) (hz2 : ∀ kvs, w ≠ .dK kvs) (hZ : ¬ Z a) (hw : ∀ F F' : Hp, F a = some w → F' a = some u → ∀ v, Nf v → Rd F a v → Rd F' a v) :
    Ok K B IO Z σ (upd H a u) cs ∧ Le (cut H (Md σ cs Z)) (cut (upd H a u) (Md σ cs Z)) := by
  have hHa : H a = some w := ok.base a w hIO upd_same
  have hm : ¬ Md σ cs Z a := by
    rintro (m | ⟨i, h1, d, h2⟩)
    · exact hZ m
    · obtain ⟨b, g1, g2⟩ := ok.own i d h2
      rw [h1] at g1
      cases g1
      rw [hHa] at g2
      generalize hq : some w = oo at g2
      cases g2 with
      | lst _ => exact hz _ (Option.some.inj hq)
      | dic _ _ => exact hz2 _ (Option.some.inj hq)
  have hle : Le (cut H (Md σ cs Z)) (cut (upd H a u) (Md σ cs Z)) := by
    intro b v nv r
    by_cases e : b = a
    · subst e
      exact hw _ _ ((cut_of hm).trans hHa) ((cut_of hm).trans upd_same) v nv r
    · have : cut (upd H a u) (Md σ cs Z) b = cut H (Md σ cs Z) b := by
        by_cases m : Md σ cs Z b
        · rw [cut_in m, cut_in m]
        · rw [cut_of m, cut_of m, upd_ne e]
      unfold Rd at r ⊢
      rw [this]
      exact r
  refine ⟨⟨ok.len, fun i d e => ?_, fun i d e => ?_, ok.inj, ok.dis, fun b h => ?_, fun i b d h1 h2 => ?_, ok.io, ok.ios, fun b v h e => ?_, fun b h => ?_⟩, hle⟩
  · obtain ⟨v, h1, h2⟩ := ok.dat i d e
    exact ⟨v, h1, h2.mono hle⟩
  · obtain ⟨b, h1, h2⟩ := ok.own i d e
    have ne : b ≠ a := fun z => hm (.inr ⟨i, by rw [← z]; exact h1, d, e⟩)
    refine ⟨b, h1, ?_⟩
    rw [upd_ne ne]
    exact h2.mono hle
  · by_cases e : b = a
    · rw [e, upd_same]; exact fun z => nomatch z
    · rw [upd_ne e]; exact ok.xin b h
  · have ne : b ≠ a := fun z => hm (.inr ⟨i, by rw [← z]; exact h1, d, .inl h2⟩)
    have := ok.new i b d h1 h2
    rwa [upd_ne ne] at this
  · by_cases c : b = a
    · subst c
      rw [upd_same]
      rcases hBu with z | z
      · rw [z] at e; cases e
      · rw [z] at e; exact e
    · rw [upd_ne c]; exact ok.base b v h (by rw [upd_ne c]; exact e)
  · by_cases c : b = a
    · rw [c, upd_same]; exact fun z => nomatch z
    · rw [upd_ne c]; exact ok.dom b (by rw [upd_ne c]; exact h)
theorem frz_nl {o : Obj} {u : HO} : ∀ xs, HO.frz o u ≠ .lst xs := fun _ z => nomatch z
theorem frz_nd {o : Obj} {u : HO} : ∀ kvs, HO.frz o u ≠ .dK kvs := fun _ z => nomatch z
theorem hu65 {A : Around} {k : Nat} (h : Room k A) : A.units + 65 < cLine := by
  have := h.un
  omega
/-! the walk -/
def tForK (i : Nat) (g : TG) (tb : TS) : TS := fun Dn σ H => tFor (iKeys (tVar i)) g tb Dn σ H ∨ tLock (tFor (iKeys (tVar i)) g tb) Dn σ H
def sForK (i : Nat) (f : GX) (gb : SX) : SX := fun cs => (evVar i cs).bind fun r => match r.1 with
  | .dict es => loopF f gb (es.map (·.1)) r.2.2
  | _ => none
theorem rd_frz {o : Obj} {u : HO} (hu : Nf u) : ∀ F F' : Hp, F a = some u → F' a = some (.frz o u) → ∀ v, Nf v → Rd F a v → Rd F' a v := by
  intro F F' h h' v nv r
  rcases r with r | ⟨o', r⟩
  · rw [h] at r; cases r; exact .inr ⟨o, h'⟩
  · rw [h] at r; cases r; exact absurd rfl (hu _ _)
theorem rd_unf {o : Obj} {u : HO} : ∀ F F' : Hp, F a = some (.frz o u) → F' a = some u → ∀ v, Nf v → Rd F a v → Rd F' a v := by
  intro F F' h h' v nv r
  rcases r with r | ⟨o', r⟩
  · rw [h] at r; cases r; exact absurd rfl (nv _ _)
  · rw [h] at r; cases r; exact .inl h'
theorem rd_same {u : HO} : ∀ F F' : Hp, F a = some u → F' a = some u → ∀ v, Nf v → Rd F a v → Rd F' a v := by
  intro F F' h h' v nv r
  rcases r with r | ⟨o', r⟩
  · rw [h] at r; exact .inl (h'.trans r)
  · rw [h] at r; exact .inr ⟨o', h'.trans r⟩
/-- behind the walk: the object is as it was -/
theorem post_out {u w : HO} {σ' : St} {H' : Hp} {c : En} (ok : Ok K B IO Z σ H cs) (hu : H a = some u) (hm : ¬ Md σ cs Z a) (hIO : ∀ i, (i, a) ∉ IO) (hz : ∀ xs, w ≠ .lst xs) (hz2 : ∀ kvs, w ≠ .dK kvs) (hw1 : ∀ F F' : Hp, F a = some u → F' a = some w → ∀ v, Nf v → Rd F a v → Rd F' a v)
    (hw : ∀ F F' : Hp, F a = some w → F' a = some u → ∀ v, Nf v → Rd F a v → Rd F' a v) (p : Post K (upd B a w) IO Z σ (upd H a w) cs σ' H' c) : H' a = some w ∧ Post K B IO Z σ H cs σ' (upd H' a u) c := by
  obtain ⟨_, l1⟩ := ok_in ok hu hm hw1
  have hBu : B a = none ∨ B a = some u := by
    cases hb : B a with
    | none => exact .inl rfl
    | some v => rw [← hu]; exact .inr (ok.base a v hIO hb).symm
  have hZ : ¬ Z a := fun z => hm (.inl z)
  obtain ⟨o2, l2⟩ := ok_out p.ok hIO hBu hz hz2 hZ hw
  refine ⟨p.ok.base a w hIO upd_same, o2, (l1.trans p.le).trans l2, fun b hb => ?_, fun b hb => ?_⟩
  · have ne : b ≠ a := fun z => hZ (by rw [← z]; exact hb)
    rw [upd_ne ne, p.keep b hb, upd_ne ne]
  · by_cases c : b = a
    · rw [c, upd_same]; exact fun z => nomatch z
    · rw [upd_ne c]; exact p.dom b (by rw [upd_ne c]; exact hb)
theorem pe_out {u w : HO} {σ' : St} {H' : Hp} {c : En} {fr : Bool} {v : V} {d : D} (ok : Ok K B IO Z σ H cs) (hu : H a = some u) (hm : ¬ Md σ cs Z a) (hIO : ∀ i, (i, a) ∉ IO) (hz : ∀ xs, w ≠ .lst xs) (hz2 : ∀ kvs, w ≠ .dK kvs) (hw1 : ∀ F F' : Hp, F a = some u → F' a = some w → ∀ v, Nf v → Rd F a v → Rd F' a v)
    (hw : ∀ F F' : Hp, F a = some w → F' a = some u → ∀ v, Nf v → Rd F a v → Rd F' a v) (p : Pe K (upd B a w) IO Z σ (upd H a w) cs σ' H' c fr v d) : H' a = some w ∧ Pe K B IO Z σ H cs σ' (upd H' a u) c fr v d := by
  have hBu : B a = none ∨ B a = some u := by
    cases hb : B a with
    | none => exact .inl rfl
    | some v => rw [← hu]; exact .inr (ok.base a v hIO hb).symm
  have hZ : ¬ Z a := fun z => hm (.inl z)
  obtain ⟨h1, h2⟩ := post_out ok hu hm hIO hz hz2 hw1 hw p.post
  refine ⟨h1, ?_⟩
  cases fr with
  | false =>
    have hr := p.rp
    obtain ⟨_, l2⟩ := ok_out p.post.ok hIO hBu hz hz2 hZ hw
    exact .dat h2 (hr.mono l2)
  | true =>
    obtain ⟨_, l1⟩ := ok_in ok hu hm hw1
    obtain ⟨q, rfl, hq, pn, ow⟩ := (show ∃ q, v = .ref q ∧ upd H a w q = none ∧ PostN K (upd B a w) IO Z σ (upd H a w) cs q σ' H' c ∧ OwnAt K (cut H' (Md σ' c (XP Z q))) (H' q) d from p)
    have ne : q ≠ a := fun z => by rw [z, upd_same] at hq; cases hq
    rw [upd_ne ne] at hq
    have hZ' : ¬ XP Z q a := fun z => z.elim hZ fun e => ne e.symm
    obtain ⟨o2, l2⟩ := ok_out pn.ok hIO hBu hz hz2 hZ' hw
    refine ⟨q, rfl, hq, ⟨o2, (l1.trans pn.le).trans l2, h2.keep, h2.dom, pn.np⟩, ?_⟩
    rw [upd_ne ne]
    exact ow.mono l2
theorem ss_forK (hg : SG K g tgs f) (hb : SS K tb gb) : SS K (tForK i g tb) (sForK i f gb) := by
  intro B IO Z σ H cs ok r e Dn q
  unfold sForK at e
  obtain ⟨⟨d1, f1, c1⟩, e1, e⟩ := Option.bind_eq_some_iff.mp e
  dsimp only at e
  split at e
  · rename_i es
    -- the dict is read as a datum
    have hv : ∃ v, σ[i]? = some (some v) ∧ Post K B IO Z σ H cs σ H c1 ∧ Rp K (cut H (Md σ c1 Z)) v (.dict es) := by
      unfold evVar at e1
      split at e1
      · rename_i d' h
        cases e1
        obtain ⟨v, h1, h2⟩ := ok.dat i _ h
        exact ⟨v, h1, Post.refl ok, h2⟩
      · rename_i d' h
        cases e1
        exact ok.freeze h
      · cases e1
    obtain ⟨v, hs, p, rp⟩ := hv
    obtain ⟨a, kvs, rfl, hr, he⟩ : ∃ a kvs, v = .ref a ∧ Rd (cut H (Md σ c1 Z)) a (.dK kvs) ∧ es.map (·.1) = kvs.map (fun p => kD p.1) := by
      cases rp with
      | dic hr he _ => exact ⟨_, _, rfl, hr, he⟩
    · skip
      have q1 := q.pre p
      have nm : ¬ Md σ c1 Z a := by
        rcases hr with h | ⟨o, h⟩ <;> exact (cut_some h).2
      have hIO : ∀ i, (i, a) ∉ IO := fun j hj => by
        obtain ⟨d, h1, h2⟩ := p.ok.ios j a hj
        exact nm (.inr ⟨j, h2, d, .inr h1⟩)
      rcases hr with h | ⟨o, h⟩
      · have hu := (cut_some h).1
        refine .inr ⟨a, _, hu, trivial, fun od => ?_⟩
        obtain ⟨o1, _⟩ := ok_in (w := .frz od (.dK kvs)) p.ok hu nm (rd_frz nf_dK)
        refine forK_core hg hb o1 upd_same hIO he hs e _ ?_
        have po : ∀ {σ' : St} {H' : Hp} {c : En}, Post K (upd B a (.frz od (.dK kvs))) IO Z σ (upd H a (.frz od (.dK kvs))) c1 σ' H' c → H' a = some (.frz od (.dK kvs)) ∧ Post K B IO Z σ H c1 σ' (upd H' a (.dK kvs)) c :=
          fun pp => post_out p.ok hu nm hIO frz_nl frz_nd (rd_frz nf_dK) rd_unf pp
        cases r with
        | nx c => exact fun σ' H' pp => ⟨(po pp).1, q1 σ' _ (po pp).2⟩
        | bk c => exact fun σ' H' pp => ⟨(po pp).1, q1 σ' _ (po pp).2⟩
        | ct c => exact fun σ' H' pp => ⟨(po pp).1, q1 σ' _ (po pp).2⟩
        | rt d fr c =>
          intro v σ' H' pp
          obtain ⟨g1, g2⟩ := pe_out p.ok hu nm hIO frz_nl frz_nd (rd_frz nf_dK) rd_unf pp
          exact ⟨g1, q1 v σ' _ g2⟩
      · have hu := (cut_some h).1
        refine .inl ?_
        have hsame : upd H a (.frz o (.dK kvs)) = H := funext fun b => by
          by_cases c : b = a
          · rw [c, upd_same, hu]
          · rw [upd_ne c]
        obtain ⟨o1, _⟩ := ok_in (w := .frz o (.dK kvs)) p.ok hu nm rd_same
        have core := forK_core hg hb o1 upd_same hIO he hs e Dn (o := o) ?_
        · rw [hsame] at core; exact core
        · have same2 : ∀ H' : Hp, H' a = some (.frz o (.dK kvs)) → upd H' a (.frz o (.dK kvs)) = H' := fun H' h' => funext fun b => by
            by_cases c : b = a
            · rw [c, upd_same, h']
            · rw [upd_ne c]
          have po : ∀ {σ' : St} {H' : Hp} {c : En}, Post K (upd B a (.frz o (.dK kvs))) IO Z σ (upd H a (.frz o (.dK kvs))) c1 σ' H' c → Post K B IO Z σ H c1 σ' H' c := fun pp => by
            obtain ⟨g1, g2⟩ := post_out p.ok hu nm hIO frz_nl frz_nd rd_same rd_same pp
            rwa [same2 _ g1] at g2
          cases r with
          | nx c => exact fun σ' H' pp => q1 σ' _ (po pp)
          | bk c => exact fun σ' H' pp => q1 σ' _ (po pp)
          | ct c => exact fun σ' H' pp => q1 σ' _ (po pp)
          | rt d fr c =>
            intro v σ' H' pp
            obtain ⟨g1, g2⟩ := pe_out p.ok hu nm hIO frz_nl frz_nd rd_same rd_same pp
            rw [same2 _ g1] at g2
            exact q1 v σ' _ g2
  · cases e
theorem ps_or {st : Stmt} {t u : TS} (h1 : PS X st t) (h2 : PS X st u) : PS X st (fun Dn σ H => t Dn σ H ∨ u Dn σ H) := by
  constructor
  intros
  rename_i h
  rcases h with h | h
  · exact h1.run _ _ _ _ _ ‹_› h
  · exact h2.run _ _ _ _ _ ‹_› h
theorem ds_forK {body : List Stmt} {tg : Expr} {x : Str} {xpos pos : Pos} (hp : PassesOwn (model X.prog X.w) X.A X.env X.xe) (hc : X.calm = true) (hv : DE X (.Name x xpos) (tVar i) (evVar i)) (hg : DG X tg g tgs f) (hb : DB X body tb gb) (hs : ∀ y, foldedSetIterable (.Name x xpos) X.env y = pure y := by intro _; rfl) :
    DS X (.For tg (.Name x xpos) body [] pos) (tForK i g tb) (sForK i f gb) :=
  ⟨ps_or (ps_for hp hc (pi_keys hv.pe) hg.pg hb.pss hs) (ps_lock (ps_for hp hc (pi_keys hv.pe) hg.pg hb.pss hs)), ss_forK hg.sg hb.ss⟩
end
end Qp
end
section
set_option Elab.async false
set_option linter.all false
set_option maxRecDepth 100000
set_option maxHeartbeats 2000000
/-! Qu: how the codes of Qr, Qs, Qt, and while, are reckoned. -/
namespace Qp
open PySem PySem.Spec PyProof.Rows L2
section
variable {d x y z : D} {fr f1 b : Bool} {c cs c1 : En} {i n m : Nat} {f fa fb fe fi fk : EX} {g : G2} {u : G1} {G : GA} {fs : AX} {t s : TX} {p q : SX} {xs ds zs : List D} {es : List (D × D)} {k : Key} {j : Int} {gt : GX}
def kW2 (t : TX) (p : SX) (n : Nat) (o : Option Res) : Option Res := o.bind fun z => match z with
  | .nx c => loopW t p n c
  | .ct c => loopW t p n c
  | .bk c => some (.nx c)
  | .rt d fr c => some (.rt d fr c)
def kW1 (t : TX) (p : SX) (n : Nat) (o : Option (Bool × En)) : Option Res := o.bind fun b => if b.1 = true then kW2 t p n (p b.2) else some (.nx b.2)
theorem loopW_succ : loopW t p (n + 1) cs = kW1 t p n (t cs) := rfl
@[simp] theorem kW1_t : kW1 t p n (some (true, c)) = kW2 t p n (p c) := rfl
@[simp] theorem kW1_f : kW1 t p n (some (false, c)) = some (.nx c) := rfl
@[simp] theorem kW2_n : kW2 t p n (some (.nx c)) = loopW t p n c := rfl
@[simp] theorem kW2_c : kW2 t p n (some (.ct c)) = loopW t p n c := rfl
@[simp] theorem kW2_b : kW2 t p n (some (.bk c)) = some (.nx c) := rfl
@[simp] theorem kW2_r : kW2 t p n (some (.rt d fr c)) = some (.rt d fr c) := rfl
def kAu3 (i : Nat) (fr : Bool) (d : D) (c : En) (b : Bool) : Option Res := if b = true then some (.nx (c.set i (Qp.cellOf fr d))) else none
def kAu2 (i : Nat) (c : En) (o : Option (D × Bool)) : Option Res := o.bind fun z => kAu3 i z.2 z.1 c (noIo c i)
def kAu1 (g : G2) (i : Nat) (d : D) (o : OE) : Option Res := o.bind fun r => kAu2 i r.2.2 (g d r.1)
def kAu0 (g : G2) (i : Nat) (f : EX) (cs : En) (o : Option Cell) : Option Res := match o with
  | some (.dat d) => kAu1 g i d (f cs)
  | _ => none
@[simp] theorem sAug_ap : sAug g i f cs = kAu0 g i f cs cs[i]? := rfl
@[simp] theorem kAu0_d : kAu0 g i f cs (some (.dat d)) = kAu1 g i d (f cs) := rfl
@[simp] theorem kAu1_s : kAu1 g i d (some (x, f1, c)) = kAu2 i c (g d x) := rfl
@[simp] theorem kAu2_s : kAu2 i c (some (x, fr)) = kAu3 i fr x c (noIo c i) := rfl
@[simp] theorem kAu3_t : kAu3 i fr d c true = some (.nx (c.set i (Qp.cellOf fr d))) := rfl
def kBo2 (i : Nat) (o : Option (List D × En)) : Option (List D × En) := o.bind fun s => (cont s.2 i).bind fun d => some (d :: s.1, s.2)
def kBo1 (i : Nat) (fs : AX) (cs : En) (o : Option D) : Option (List D × En) := o.bind fun _ => kBo2 i (fs cs)
def kBo3 (xs : List D) (c : En) (o : Option D) : Option (List D × En) := o.bind fun d => some (d :: xs, c)
@[simp] theorem evBor_ap : evBor i fs cs = kBo1 i fs cs (cont cs i) := rfl
@[simp] theorem kBo1_s : kBo1 i fs cs (some d) = kBo2 i (fs cs) := rfl
@[simp] theorem kBo2_s : kBo2 i (some (xs, c)) = kBo3 xs c (cont c i) := rfl
@[simp] theorem kBo3_s : kBo3 xs c (some d) = some (d :: xs, c) := rfl
def kCB2 (c : En) (o : Option (D × Bool)) : OE := o.bind fun z => if noMutF z.2 z.1 = true then some (z.1, z.2, c) else none
def kCB1 (G : GA) (o : Option (List D × En)) : OE := o.bind fun r => kCB2 r.2 (G r.1)
@[simp] theorem evCB_ap : evCB G fs cs = kCB1 G (fs cs) := rfl
@[simp] theorem kCB1_s : kCB1 G (some (xs, c)) = kCB2 c (G xs) := rfl
theorem kCB2_of (h : noMutF fr d = true) : kCB2 c (some (d, fr)) = some (d, fr, c) := if_pos h
@[simp] theorem kCB2_i : kCB2 c (some (.int j, false)) = some (.int j, false, c) := rfl
@[simp] theorem kCB2_bl : kCB2 c (some (.bool b, false)) = some (.bool b, false, c) := rfl
@[simp] theorem kCB2_n : kCB2 c (some (.none, false)) = some (.none, false, c) := rfl
def kFK (gt : GX) (p : SX) (o : OE) : Option Res := o.bind fun r => match r.1 with
  | .dict es => loopF gt p (es.map (·.1)) r.2.2
  | _ => none
@[simp] theorem sForK_ap : sForK i gt p cs = kFK gt p (evVar i cs) := rfl
@[simp] theorem kFK_s : kFK gt p (some (.dict es, f1, c)) = loopF gt p (es.map (·.1)) c := rfl
def kDi (o : Option (List (Key × D) × En)) : OE := o.bind fun r => if r.1.length ≤ 15 then some (.dict (mergeD [] r.1), true, r.2) else none
variable {ps : List (Key × D)} {fp : PX}
@[simp] theorem evDisp_ap : evDisp fp cs = kDi (fp cs) := rfl
theorem kDi_of (h : ps.length ≤ 15) : kDi (some (ps, c)) = some (.dict (mergeD [] ps), true, c) := if_pos h
@[simp] theorem evPn_ap : evPn cs = some ([], cs) := rfl
def kPc4 (k : Key) (x : D) (o : Option (List (Key × D) × En)) : Option (List (Key × D) × En) := o.bind fun u => some ((k, x) :: u.1, u.2)
def kPc3 (fp : PX) (k : Key) (o : OE) : Option (List (Key × D) × En) := o.bind fun s => kPc4 k s.1 (fp s.2.2)
def kPc2 (fe : EX) (fp : PX) (c : En) (o : Option Key) : Option (List (Key × D) × En) := o.bind fun k => kPc3 fp k (fe c)
def kPc1 (fe : EX) (fp : PX) (o : OE) : Option (List (Key × D) × En) := o.bind fun r => kPc2 fe fp r.2.2 (keyD r.1)
@[simp] theorem evPc_ap : evPc fk fe fp cs = kPc1 fe fp (fk cs) := rfl
@[simp] theorem kPc1_s : kPc1 fe fp (some (x, f1, c)) = kPc2 fe fp c (keyD x) := rfl
@[simp] theorem kPc2_s : kPc2 fe fp c (some k) = kPc3 fp k (fe c) := rfl
@[simp] theorem kPc3_s : kPc3 fp k (some (x, f1, c)) = kPc4 k x (fp c) := rfl
@[simp] theorem kPc4_s : kPc4 k x (some (ps, c)) = some ((k, x) :: ps, c) := rfl
@[simp] theorem gLenD_d : gLenD (.dict es) = some (.int es.length, false) := rfl
/-- a comprehension with a test -/
theorem loopC_filt {items : List D} {ft : TX} {fe : EX} {vs : List Nat} {P : D → Bool} {v : D → D}
    (hx : ∀ x ∈ items, ∃ c1, gt x cs = some c1 ∧ ft c1 = some (P x, c1) ∧ noOwn c1 vs = true ∧ clr c1 vs = cs ∧ (P x = true → ∃ f1, fe c1 = some (v x, f1, c1))) :
    ∀ acc : List D, acc.length + items.length ≤ LIM → loopC gt ft fe vs items acc cs = some (acc ++ (items.filter P).map v, cs) := by
  induction items with
  | nil => intro acc _; simp
  | cons x r ih =>
    intro acc hl
    rw [List.length_cons] at hl
    obtain ⟨c1, h1, h2, h4, h5, h3⟩ := hx x List.mem_cons_self
    have ih' := ih (fun y hy => hx y (List.mem_cons_of_mem _ hy))
    cases hp : P x with
    | true =>
      obtain ⟨f1, h3⟩ := h3 hp
      unfold loopC
      rw [h1, Option.bind_some, h2, Option.bind_some, hp, if_pos rfl, h3, Option.bind_some]
      dsimp only
      rw [h4, h5, show decide (acc.length < LIM) = true from decide_eq_true (by omega)]
      have := ih' (acc ++ [v x]) (by rw [List.length_append, List.length_singleton]; omega)
      rw [Bool.and_self, if_pos rfl, this, List.append_assoc, List.filter_cons_of_pos hp]
      rfl
    | false =>
      unfold loopC
      rw [h1, Option.bind_some, h2, Option.bind_some, hp]
      have := ih' acc (by omega)
      rw [List.filter_cons_of_neg (by rw [hp]; decide)]
      show (if noOwn c1 vs = true then loopC gt ft fe vs r acc (clr c1 vs) else none) = _
      rw [h4, h5, if_pos rfl]
      exact this
end
end Qp
end
section
set_option Elab.async false
set_option linter.all false
set_option maxRecDepth 100000
set_option maxHeartbeats 2000000
/-! Qv: is True; in a list of nested data; extend by any list or tuple. -/
namespace Qp
open PySem PySem.Spec PyProof.Rows L2
section
variable {X : Cx} {K : PySem.W.Frag} {F : Hp} {e a b : Expr} {es : List Expr} {te ta tb tk to : TE} {ts : TA} {fe fa fb fk : EX} {fs : AX} {pos fpos cpos xpos apos : Pos} {x : Str} {i : Nat}
/-! ### is True -/
def gIsB : G2
  | .bool x, .bool y => some (.bool (x == y), false)
  | _, _ => none
def gNotB : G2
  | .bool x, .bool y => some (.bool (!(x == y)), false)
  | _, _ => none
theorem sr_isB : SR2 K rIsB gIsB := by
  intro H M hm x y d e rx ry z fr q Q k
  unfold gIsB at q
  split at q
  · rename_i a b
    cases q
    refine ⟨a, b, rx.bool_eq, ry.bool_eq, ?_⟩
    rw [show decide (a = b) = (a == b) by cases a <;> cases b <;> rfl]
    exact k _ H (Ex.refl H) (VOk.of (.bl _))
  · cases q
theorem sr_notB : SR2 K rNotB gNotB := by
  intro H M hm x y d e rx ry z fr q Q k
  unfold gNotB at q
  split at q
  · rename_i a b
    cases q
    refine ⟨a, b, rx.bool_eq, ry.bool_eq, ?_⟩
    rw [show decide (a = b) = (a == b) by cases a <;> cases b <;> rfl]
    exact k _ H (Ex.refl H) (VOk.of (.bl _))
  · cases q
@[simp] theorem gIsB_s {x y : Bool} : gIsB (.bool x) (.bool y) = some (.bool (x == y), false) := rfl
@[simp] theorem gNotB_s {x y : Bool} : gNotB (.bool x) (.bool y) = some (.bool (!(x == y)), false) := rfl
/-! ### in, of nested data in a list -/
def gInD (neg : Bool) : G2
  | d, .list ds => if (SeqAt.shaped d && SeqAt.shaped (.list ds)) = true then some (.bool (if neg then !(ds.any fun e => PyData.eqv e d) else ds.any fun e => PyData.eqv e d), false) else none
  | _, _ => none
theorem Vw.dp {H : Hp} {M : Addr → Prop} {v : V} {d : D} (w : Vw K H M v d) (h : SeqAt.shaped d = true) : Dp K H v d := dp_of w.rpH (Le.refl H) (SeqAt.canLay_of_shaped h)
theorem sw_inD : SRw2 K (rInD K) (gInD false) := by
  intro H M hm x y d e rx ry z fr q Q k
  unfold gInD at q
  split at q
  · split at q
    · rename_i c
      cases q
      rw [Bool.and_eq_true] at c
      exact ⟨_, _, (Vw.of_rp rx).dp c.1, ry.dp c.2, c.1, c.2, k _ H (Ex.refl H) (VOk.of (.bl _))⟩
    · cases q
  · cases q
theorem sw_notinD : SRw2 K (rNotInD K) (gInD true) := by
  intro H M hm x y d e rx ry z fr q Q k
  unfold gInD at q
  split at q
  · split at q
    · rename_i c
      cases q
      rw [Bool.and_eq_true] at c
      exact ⟨_, _, (Vw.of_rp rx).dp c.1, ry.dp c.2, c.1, c.2, k _ H (Ex.refl H) (VOk.of (.bl _))⟩
    · cases q
  · cases q
theorem gInD_of {neg : Bool} {d : D} {ds : List D} (h : SeqAt.shaped d = true) (h2 : SeqAt.shaped (.list ds) = true) : gInD neg d (.list ds) = some (.bool (if neg then !(ds.any fun e => PyData.eqv e d) else ds.any fun e => PyData.eqv e d), false) := by
  show (if (SeqAt.shaped d && SeqAt.shaped (.list ds)) = true then _ else _) = _
  rw [h, h2]
  rfl
/-! ### extend by any list or tuple -/
theorem list_extendW (l : Addr) (items : Array Value) (n : Nat) (b : Addr) (items2 : Array Value) (n2 : Nat) (dd : Option Addr) (sl : Array (Option Value)) (c : String) (hcl : c = "list" ∨ c = "tuple") (hs0 : ¬(!items.isEmpty && Builtin.List.listTooLong (items.size + items2.size)) = true) (hs1 : items.size ≤ sizeLine) (hs2 : items.size + items2.size ≤ sizeLine + 1) :
    Meets (Builtin.«list.extend» ⟨[.ref l, .ref b], []⟩) (fun _ R s => s.heap.get? l = some { cls := .type "list", dict := none, data := .seq items n, slots := #[] } ∧ s.heap.get? b = some { cls := .type c, dict := dd, data := .seq items2 n2, slots := sl } ∧ R (.ok (.ret Value.none)) { s with heap := s.heap.update l (Obj.mapSeq fun x => x ++ items2), toks := s.toks }) :=
  .of_wp fun prog w A R s h => by
    obtain ⟨hp, g, d, tk, os⟩ := s; obtain ⟨hl, hb, h⟩ := h; have f1 := PySem.AutoSeq1.idx_int; have f2 := PySem.AutoSeq1.sub_tuple_tuple; have f3 := PySem.AutoSeq1.sub_list_list; have f4 := PySem.AutoSeq1.sub_tuple_list; have f5 := PySem.AutoSeq1.sub_list_tuple;
    have hz' : (items ++ items2).size ≤ sizeLine + 1 := by rw [Array.size_append]; exact hs2
    rcases hcl with rfl | rfl
    · wp_walk using (wpAny_updateSeq hl rfl (hz := hs1) (_hz' := hz')), wpAny_loadPart' hl, wpAny_loadPart' hb; exact ⟨_, rfl, h⟩
    · wp_walk using (wpAny_updateSeq hl rfl (hz := hs1) (_hz' := hz')), wpAny_loadPart' hl, wpAny_loadPart' hb; exact ⟨_, rfl, h⟩
def rExtA (K : PySem.W.Frag) : V → List V → Hp → VK → Prop := fun x vs H Q => ∃ l b xs zs, x = .ref l ∧ vs = [.ref b] ∧ H l = some (.lst xs) ∧ (SqL K H b zs ∨ SqT K H b zs) ∧ xs.length + zs.length ≤ sizeLine ∧ Q .non (upd H l (.lst (xs ++ zs)))
theorem mt_extA : MtM X "list.extend" (rExtA X.K) := by
  intro pins s σ H x vs v us Q I rx rv h
  obtain ⟨l, b, xs, zs, rfl, rfl, hH, hB, hz, q⟩ := h
  cases rx
  obtain ⟨u, rfl, ru⟩ := rv.one
  cases ru
  obtain ⟨z, its, n, r, hl, e⟩ := I.lstM hH
  have key : ∃ (its2 : List Value) (n2 : Nat) (dd : Option Addr) (sl : Array (Option Value)) (c : String), (c = "list" ∨ c = "tuple") ∧ Vals zs its2 ∧ s.heap.get? b = some { cls := .type c, dict := dd, data := .seq its2.toArray n2, slots := sl } := by
    rcases hB with hB | hB
    · obtain ⟨its2, r2, pl, _⟩ := I.list hB
      obtain ⟨⟨cls, dd, data, sl⟩, ho, hc, n2, hd⟩ := id pl.isList
      simp only at hc hd
      subst hc hd
      exact ⟨its2, n2, dd, sl, "list", .inl rfl, r2, ho⟩
    · obtain ⟨its2, r2, ⟨⟨cls, dd, data, sl⟩, ho, hc, n2, hd⟩, _⟩ := I.tuple hB
      simp only at hc hd
      subst hc hd
      exact ⟨its2, n2, dd, sl, "tuple", .inr rfl, r2, ho⟩
  obtain ⟨its2, n2, dd, sl, c, hcl, r2, e2⟩ := key
  have hl2 := r2.length
  have hsz : its.toArray.size + its2.toArray.size ≤ sizeLine := by rw [List.size_toArray, List.size_toArray]; omega
  have hlong : ¬ (!its.toArray.isEmpty && Builtin.List.listTooLong (its.toArray.size + its2.toArray.size)) = true := by
    rw [notLongL hsz, Bool.and_false]
    exact Bool.false_ne_true
  refine call_meets PySem.F.slot_list_extend ⟨_, e, rfl⟩ PySem.F.entry_list_extend (PySem.F.args_list_extend_2 _ _)
    (list_extendW l its.toArray n b its2.toArray n2 dd sl c hcl hlong (by rw [List.size_toArray]; omega) (by omega)) ⟨e, e2, ?_⟩
  refine ⟨.non, _, I.lset (its' := its ++ its2) hH e (by simp) (r.append r2) ?_, rfl, q⟩
  rw [List.length_append]
  omega
def seqD : D → Option (List D)
  | .list ds => some ds
  | .tuple ds => some ds
  | _ => none
def evExA (i : Nat) (fe : EX) : EX := fun cs => if isOwnL cs i = true then (fe cs).bind fun r => (seqD r.1).bind fun zs => (upL r.2.2 i (fExt zs)).bind fun c => some (.none, false, c) else none
theorem de_exA (hv : DE X (.Name x xpos) (tVar i) (evVar i)) (he : DE X e te fe)
    (hbase : attributeBase (.Name x xpos) "extend" X.env (eval (.Name x xpos) X.env) = eval (.Name x xpos) X.env := by rfl)
    (hfew : ((backTo pos (starEach [e] X.env)).all (fun x => !x.1) && (backToKw pos (keywordEach [] X.env)).all (fun x => x.1.isSome)
      && decide ([e].length + ([] : List Keyword).length + (if ([] : List Keyword).isEmpty then 0 else 1) < 30)) = true := by rfl)
    (hline : (apos.endLine == pos.line) = true := by rfl) (hs : starEach [e] X.env = (false, eval e X.env) :: starEach [] X.env := by rfl) (hplain : (backTo pos (starEach [] X.env)).any (·.1) = false := by rfl) :
    DE X (.Call (.Attribute (.Name x xpos) "extend" apos) [e] [] pos) (tBM X.K "list" (rExtA X.K) (tVar i) (tCons te tNil)) (evExA i fe) := by
  refine ⟨pe_bm PySem.F.plainAttrs_list PySem.F.slot_list_extend PySem.F.type_list_extend mt_extA hv.pe (pa_cons he.pe pa_nil hs) hbase hfew hline hs hplain, ?_⟩
  intro B IO Z σ H cs ok d fr cs' e Q q
  unfold evExA at e
  split at e
  · rename_i ho
    obtain ⟨⟨d1, f1, c1⟩, e1, e⟩ := Option.bind_eq_some_iff.mp e
    obtain ⟨zs, ez, e⟩ := Option.bind_eq_some_iff.mp e
    dsimp only at ez e
    obtain ⟨c2, e2, e⟩ := Option.bind_eq_some_iff.mp e
    cases e
    obtain ⟨a0, xs, hs, hx, _⟩ := ok.ownL ho
    refine ⟨_, hs, .inl ⟨rfl, xs, SqL.of hx⟩, he.se ok e1 _ fun y H1 w => ?_⟩
    obtain ⟨a', d, d', h1, h2, h3, k⟩ := w.post.ok.upL e2
    rw [hs] at h1
    cases h1
    have m := ok_md (Z := Z) e2 hs
    have hp := w.post
    have rp := w.rp
    have key : ∃ b us, y = .ref b ∧ (SqL X.K (cut H1 (Md σ c1 Z)) b us ∨ SqT X.K (cut H1 (Md σ c1 Z)) b us) ∧ Paired (Rp X.K (cut H1 (Md σ c1 Z))) us zs := by
      unfold seqD at ez
      split at ez
      · cases ez
        obtain ⟨b, us, g1, g2, g3⟩ := rp.list
        exact ⟨b, us, g1, .inl g2, g3⟩
      · cases ez
        obtain ⟨b, us, g1, g2, g3⟩ := rp.tuple
        exact ⟨b, us, g1, .inr g2, g3⟩
      · cases ez
    obtain ⟨b, us, rfl, g1, g2⟩ := key
    unfold fExt at h2
    split at h2
    · split at h2
      · rename_i hl
        cases h2
        obtain ⟨ys, h4, h5⟩ := h3.list
        refine ⟨a0, b, ys, us, rfl, rfl, h4, g1.imp cut_le.sqL cut_le.sqT, by rw [Pd.len h5, Pd.len g2]; exact lim_ok hl, ?_⟩
        refine q _ _ (.dat (hp.trans (k _ upd_kept ?_)) .non)
        rw [upd_same]
        exact .lst (Rp.monoA (cut_upd m) (Pd.append h5 g2))
      · cases h2
    · cases h2
  · cases e
def kXa1 (i : Nat) (o : OE) : OE := o.bind fun r => (seqD r.1).bind fun zs => kMd (upL r.2.2 i (fExt zs))
def kXa0 (i : Nat) (fe : EX) (cs : En) (b : Bool) : OE := if b = true then kXa1 i (fe cs) else none
variable {cs c : En} {f1 : Bool} {zs : List D}
@[simp] theorem evExA_ap : evExA i fe cs = kXa0 i fe cs (isOwnL cs i) := rfl
@[simp] theorem kXa0_t : kXa0 i fe cs true = kXa1 i (fe cs) := rfl
@[simp] theorem kXa1_l : kXa1 i (some (.list zs, f1, c)) = kMd (upL c i (fExt zs)) := rfl
@[simp] theorem kXa1_t : kXa1 i (some (.tuple zs, f1, c)) = kMd (upL c i (fExt zs)) := rfl
/-! ### zip of two lists or of two tuples -/
theorem jok_zipT {F : Hp} {a b : Addr} {xs ys : List V} {ds es : List D} (h : SqT K F a xs) (p : Paired (Rp K F) xs ds) (h' : SqT K F b ys) (p' : Paired (Rp K F) ys es) : JOk K (RZ.ItzT K a b) F (zipD ds es) := by
  intro H M hm hle i
  have hq : SqT K H a xs := cut_le.sqT (hle.sqT h)
  have hq' : SqT K H b ys := cut_le.sqT (hle.sqT h')
  refine ⟨fun hi => ⟨xs, ys, hq, hq', ?_⟩, fun d hd => ?_⟩
  · rw [zipD_len] at hi
    rw [Pd.len p, Pd.len p']
    omega
  obtain ⟨x, y, g1, g2, rfl⟩ := zipD_get hd
  obtain ⟨v, h1, h2⟩ := Pd.get p g1
  obtain ⟨w, h3, h4⟩ := Pd.get p' g2
  refine ⟨⟨xs, ys, v, w, hq, hq', h1, h3⟩, fun u H' ⟨T, x', y', e1, hT, e2, y1, y2⟩ => ?_⟩
  subst e1 e2
  have z1 := y1 xs hq
  rw [h1] at z1
  cases z1
  have z2 := y2 ys hq'
  rw [h3] at z2
  cases z2
  exact ⟨Ex.new hT, sqt_new hT hm (.cons (h2.mono hle) (.cons (h4.mono hle) .nil))⟩
def ixZipA (f : AX) : IX := fun cs => (f cs).bind fun r => match r.1 with
  | [.list xs, .list ys] => some (zipD xs ys, r.2)
  | [.tuple xs, .tuple ys] => some (zipD xs ys, r.2)
  | _ => none
variable {fa' : AX} {ta' : TA} {p : Pos}
theorem di_zipA {tpos : Pos} {elts : List Expr} {kk : Nat} (hg : Gl X "zip") (hm : X.mg "zip" = none) (ha : DA X [a, b] ta' fa')
    (hs : starEach [a, b] X.env = (false, eval a X.env) :: starEach [b] X.env := by rfl) (hpl : (backTo pos (starEach [b] X.env)).any (·.1) = false := by rfl) :
    DI X (.Tuple elts kk tpos) (.Call (.Name "zip" p) [a, b] [] pos) (RZ.iZipA X.K ta') (ixZipA fa') := by
  refine ⟨RZ.pi_zipA hg hm ha.pa hs hpl, ?_⟩
  intro B IO Z σ H cs ok items cs' e R q
  unfold ixZipA at e
  obtain ⟨⟨d1, c1⟩, e1, e⟩ := Option.bind_eq_some_iff.mp e
  dsimp only at e
  split at e
  · cases e
    refine ha.sa ok e1 _ fun vs H1 p1 r1 => ?_
    cases r1 with
    | cons r1 r2 =>
      cases r2 with
      | cons r2 r3 =>
        cases r3
        obtain ⟨a', xs, rfl, h1, q1⟩ := r1.list
        obtain ⟨b', ys, rfl, h2, q2⟩ := r2.list
        exact ⟨a', b', xs, ys, rfl, .inl ⟨cut_le.sqL h1, cut_le.sqL h2, q _ H1 p1 (jok_zip h1 q1 h2 q2)⟩⟩
  · cases e
    refine ha.sa ok e1 _ fun vs H1 p1 r1 => ?_
    cases r1 with
    | cons r1 r2 =>
      cases r2 with
      | cons r2 r3 =>
        cases r3
        obtain ⟨a', xs, rfl, h1, q1⟩ := r1.tuple
        obtain ⟨b', ys, rfl, h2, q2⟩ := r2.tuple
        exact ⟨a', b', xs, ys, rfl, .inr ⟨cut_le.sqT h1, cut_le.sqT h2, q _ H1 p1 (jok_zipT h1 q1 h2 q2)⟩⟩
  · cases e
def kZipA (o : Option (List D × En)) : Option (List D × En) := o.bind fun r => match r.1 with
  | [.list xs, .list ys] => some (zipD xs ys, r.2)
  | [.tuple xs, .tuple ys] => some (zipD xs ys, r.2)
  | _ => none
@[simp] theorem ixZipA_ap : ixZipA fa' cs = kZipA (fa' cs) := rfl
@[simp] theorem kZipA_l {xs ys : List D} : kZipA (some ([.list xs, .list ys], c)) = some (zipD xs ys, c) := rfl
@[simp] theorem kZipA_t {xs ys : List D} : kZipA (some ([.tuple xs, .tuple ys], c)) = some (zipD xs ys, c) := rfl
/-! ### comprehensions over encoded items -/
theorem loopC_encF {α : Type} {enc val : α → D} {keep : α → Bool} {gt : GX} {ft : TX} {fe : EX} {vs : List Nat} : ∀ (xs : List α), (∀ x ∈ xs, ∃ c1 f1, gt (enc x) cs = some c1 ∧ ft c1 = some (keep x, c1) ∧ (keep x = true → fe c1 = some (val x, f1, c1)) ∧ noOwn c1 vs = true ∧ clr c1 vs = cs) →
    ∀ acc : List D, acc.length + xs.length ≤ LIM → loopC gt ft fe vs (xs.map enc) acc cs = some (acc ++ (xs.filter keep).map val, cs)
  | [], _, acc, _ => by simp
  | x :: r, hx, acc, hl => by
    rw [List.length_cons] at hl
    obtain ⟨c1, f1, h1, h2, h3, h4, h5⟩ := hx x List.mem_cons_self
    rw [List.map_cons]
    unfold loopC
    rw [h1, Option.bind_some, h2, Option.bind_some]
    cases hk : keep x with
    | true =>
      rw [if_pos rfl, h3 hk, Option.bind_some]
      dsimp only
      rw [h4, h5, show decide (acc.length < LIM) = true from decide_eq_true (by omega)]
      have := loopC_encF (gt := gt) (ft := ft) (fe := fe) (vs := vs) r (fun y hy => hx y (List.mem_cons_of_mem _ hy)) (acc ++ [val x]) (by rw [List.length_append, List.length_singleton]; omega)
      rw [Bool.and_self, if_pos rfl, this, List.append_assoc, List.filter_cons_of_pos hk]
      rfl
    | false =>
      rw [if_neg (fun z => Bool.noConfusion z)]
      dsimp only
      rw [h4, if_pos rfl, h5, loopC_encF (gt := gt) (ft := ft) (fe := fe) (vs := vs) r (fun y hy => hx y (List.mem_cons_of_mem _ hy)) acc (by omega), List.filter_cons_of_neg (by rw [hk]; decide)]
theorem loopC_enc {α : Type} {enc val : α → D} {gt : GX} {fe : EX} {vs : List Nat} (xs : List α) (hx : ∀ x ∈ xs, ∃ c1 f1, gt (enc x) cs = some c1 ∧ fe c1 = some (val x, f1, c1) ∧ noOwn c1 vs = true ∧ clr c1 vs = cs) (hl : xs.length ≤ LIM) :
    loopC gt evYes fe vs (xs.map enc) [] cs = some (xs.map val, cs) := by
  have := loopC_encF (gt := gt) (ft := evYes) (fe := fe) (vs := vs) (cs := cs) (enc := enc) (val := val) (keep := fun _ => true) xs (fun x h => by
    obtain ⟨c1, f1, h1, h2, h3, h4⟩ := hx x h
    exact ⟨c1, f1, h1, rfl, fun _ => h2, h3, h4⟩) [] (by rw [List.length_nil]; omega)
  rw [this]
  have e : xs.filter (fun _ => true) = xs := List.filter_eq_self.mpr fun _ _ => rfl
  rw [e]
  rfl
theorem boolsOf_map {α : Type} (f : α → Bool) : ∀ xs : List α, boolsOf (xs.map fun x => PyData.bool (f x)) = some (xs.map f)
  | [] => rfl
  | b :: r => by
    show ((boolsOf (r.map fun x => PyData.bool (f x))).bind fun t => some (f b :: t)) = _
    rw [boolsOf_map f r]
    rfl
theorem gAll_map {α : Type} (f : α → Bool) (xs : List α) : gAll (.list (xs.map fun x => PyData.bool (f x))) = some (.bool (xs.all f), false) := by
  show ((boolsOf (xs.map fun x => PyData.bool (f x))).bind fun bs => some (PyData.bool (bs.all id), false)) = _
  rw [boolsOf_map, Option.bind_some, List.all_map]
  rfl
/-- a comprehension whose element changes an in-out thing: by an invariant -/
theorem loopC_io {α : Type} {gt : GX} {fe : EX} {vs : List Nat} (I : Nat → En → Prop) (R : α → D → Prop) (enc : α → D) : ∀ (xs : List α) (i : Nat) (c : En), I i c → (∀ j x c, xs[j]? = some x → I (i + j) c → ∃ c1 f1 d c2, gt (enc x) c = some c1 ∧ fe c1 = some (d, f1, c2) ∧ noOwn c2 vs = true ∧ I (i + j + 1) (clr c2 vs) ∧ R x d) →
    ∀ acc : List D, acc.length + xs.length ≤ LIM → ∃ ds c', loopC gt evYes fe vs (xs.map enc) acc c = some (acc ++ ds, c') ∧ I (i + xs.length) c' ∧ Paired R xs ds
  | [], i, c, h, _, acc, _ => ⟨[], c, by simp, h, .nil⟩
  | x :: r, i, c, h, hx, acc, hl => by
    rw [List.length_cons] at hl
    obtain ⟨c1, f1, d, c2, h1, h2, h3, h4, h5⟩ := hx 0 x c rfl h
    obtain ⟨ds, c', q1, q2, q3⟩ := loopC_io (gt := gt) (fe := fe) (vs := vs) I R enc r (i + 1) (clr c2 vs) h4 (fun j y c hj hI => by
      have := hx (j + 1) y c hj (by rw [show i + (j + 1) = i + 1 + j by omega]; exact hI)
      rw [show i + (j + 1) + 1 = i + 1 + j + 1 by omega] at this
      exact this) (acc ++ [d]) (by rw [List.length_append, List.length_singleton]; omega)
    refine ⟨d :: ds, c', ?_, by rw [List.length_cons, show i + (r.length + 1) = i + 1 + r.length by omega]; exact q2, .cons h5 q3⟩
    rw [List.map_cons]
    unfold loopC
    rw [h1, Option.bind_some]
    rw [evYes_ap, Option.bind_some, if_pos rfl, h2, Option.bind_some]
    dsimp only
    rw [h3, show decide (acc.length < LIM) = true from decide_eq_true (by omega), Bool.and_self, if_pos rfl, q1, List.append_assoc]
    rfl
theorem gAdd_tt {xs ys : List D} (h : xs.length + ys.length ≤ LIM) : gAdd (.tuple xs) (.tuple ys) = some (.tuple (xs ++ ys), false) := if_pos h
theorem gAdd_ll {xs ys : List D} (h : xs.length + ys.length ≤ LIM) : gAdd (.list xs) (.list ys) = some (.list (xs ++ ys), true) := if_pos h
theorem lim6 : 6 ≤ LIM := by decide
@[simp] theorem gAdd_t11 {x y : D} : gAdd (.tuple [x]) (.tuple [y]) = some (.tuple [x, y], false) := gAdd_tt (Nat.le_trans (by show 2 ≤ 6; decide) lim6)
@[simp] theorem gAdd_t21 {x y z : D} : gAdd (.tuple [x, y]) (.tuple [z]) = some (.tuple [x, y, z], false) := gAdd_tt (Nat.le_trans (by show 3 ≤ 6; decide) lim6)
@[simp] theorem isNone_n : isNone .none = true := rfl
@[simp] theorem isNone_i {j : Int} : isNone (.int j) = false := rfl
@[simp] theorem isNone_b {j : Bool} : isNone (.bool j) = false := rfl
@[simp] theorem isNone_s {j : Str} : isNone (.str j) = false := rfl
@[simp] theorem isNone_t {j : List D} : isNone (.tuple j) = false := rfl
@[simp] theorem isNone_l {j : List D} : isNone (.list j) = false := rfl
@[simp] theorem isT_i {n : String} {j : Int} : isT n (.int j) = (n == "int") := rfl
@[simp] theorem isT_b {n : String} {j : Bool} : isT n (.bool j) = (n == "bool" || n == "int") := rfl
@[simp] theorem isT_s {n : String} {j : Str} : isT n (.str j) = (n == "str") := rfl
@[simp] theorem isT_l {n : String} {j : List D} : isT n (.list j) = (n == "list") := rfl
@[simp] theorem isT_t {n : String} {j : List D} : isT n (.tuple j) = (n == "tuple") := rfl
@[simp] theorem isT_d {n : String} {j : List (D × D)} : isT n (.dict j) = (n == "dict") := rfl
@[simp] theorem isT_n {n : String} : isT n .none = false := rfl
end
end Qp
end
section
set_option Elab.async false
set_option linter.all false
set_option maxRecDepth 100000
set_option maxHeartbeats 2000000
/-! Qw: zip of any two of: a list, a tuple, a text. -/
namespace Qp
open PySem PySem.Spec PyProof.Rows L2
inductive SK where
  | l | t | s
def chV (x : Str) : List V := x.cps.toList.map fun c => V.str ⟨#[c]⟩
/-- what a source holds -/
def Src (K : PySem.W.Frag) (H : Hp) : SK → V → List V → Prop
  | .l, x, vs => ∃ a, x = .ref a ∧ SqL K H a vs
  | .t, x, vs => ∃ a, x = .ref a ∧ SqT K H a vs
  | .s, x, vs => ∃ y, x = .str y ∧ vs = chV y
/-- its iterator at turn n -/
def ItS : SK → V → Addr → Nat → Heap → Prop
  | .l, .ref a, c, n, h => h.IsListIter c a n
  | .t, .ref a, c, n, h => h.IsTupleIter c a n
  | .s, .str y, c, n, h => ∃ t, h.IsStrIter c (strIterType y) y t n
  | _, _, _, _, _ => False
theorem ItS.obj {k : SK} {x : V} {c : Addr} {n : Nat} {h : Heap} (i : ItS k x c n h) : ∃ o, h.get? c = some o ∧ ∀ v, o.data ≠ .cell v := by
  cases k <;> cases x <;> first | exact i.elim | skip
  · obtain ⟨o, e, _, d⟩ := i
    exact ⟨o, e, fun v q => by rw [d] at q; cases q⟩
  · obtain ⟨o, e, _, d⟩ := i
    exact ⟨o, e, fun v q => by rw [d] at q; cases q⟩
  · obtain ⟨t, o, e, _, d⟩ := i
    exact ⟨o, e, fun v q => by rw [d] at q; cases q⟩
theorem ItS.keep {k : SK} {x : V} {c : Addr} {n : Nat} {h h' : Heap} (i : ItS k x c n h) (q : ∀ o, h.get? c = some o → h'.get? c = some o) : ItS k x c n h' := by
  cases k <;> cases x <;> first | exact i.elim | skip
  · obtain ⟨o, e, r⟩ := i
    exact ⟨o, q o e, r⟩
  · obtain ⟨o, e, r⟩ := i
    exact ⟨o, q o e, r⟩
  · obtain ⟨t, o, e, r⟩ := i
    exact ⟨t, o, q o e, r⟩
section
variable {X : Cx} {pins : List (Addr × Obj)} {σ : St} {H : Hp} {s : Shared}
/-- the address of a source lies below -/
def LtS : V → Nat → Prop
  | .ref a, n => a < n
  | _, _ => True
def fpS (x : V) (c : Addr) : List Addr := match x with
  | .ref a => [c, a]
  | _ => [c]
theorem draw_of {k : SK} {x : V} {vs : List V} {c : Addr} {i : Nat} (I : L2.Inv X pins σ H s) (hc : X.calm = true) (q : Src X.K H k x vs) (it : ItS k x c i s.heap) (hlt : LtS x c) :
    ∃ (n : Nat) (P : Nat → Value → Prop) (S : Nat → Heap → Prop), Draws X.prog X.w X.A.in1 c (fpS x c) n P S ∧ S i s.heap ∧ n = vs.length ∧ (∀ j u, P j u → ∃ y, vs[j]? = some y ∧ RelV y u) ∧ ∀ j h, S j h → ItS k x c j h := by
  have hd : X.A.in1.handled = none := I.ok.hd hc
  cases k with
  | l =>
    obtain ⟨a, rfl, hq⟩ := q
    obtain ⟨its, r, p, _⟩ := I.list hq
    refine ⟨_, _, _, Draws.list hd c a (Nat.ne_of_lt hlt) its.toArray, ⟨it, p.isList⟩, by rw [List.size_toArray]; exact r.length.symm, fun j u hu => ?_, fun j h hS => hS.1⟩
    obtain ⟨y, h1, h2⟩ := Pd.get r (by simpa using hu)
    exact ⟨y, h1, h2⟩
  | t =>
    obtain ⟨a, rfl, hq⟩ := q
    obtain ⟨its, r, p, _⟩ := I.tuple hq
    refine ⟨_, _, _, Draws.tuple hd c a (Nat.ne_of_lt hlt) its.toArray, ⟨it, p⟩, by rw [List.size_toArray]; exact r.length.symm, fun j u hu => ?_, fun j h hS => hS.1⟩
    obtain ⟨y, h1, h2⟩ := Pd.get r (by simpa using hu)
    exact ⟨y, h1, h2⟩
  | s =>
    obtain ⟨y, rfl, rfl⟩ := q
    obtain ⟨t, ht⟩ := it
    refine ⟨_, _, _, Draws.text hd c y t, ht, by simp [chV], fun j u ⟨ch, w, h1, h2⟩ => ?_, fun j h hS => ⟨t, hS⟩⟩
    refine ⟨.str ⟨#[ch]⟩, ?_, ?_⟩
    · unfold chV
      rw [List.getElem?_map, Array.getElem?_toList, h1]
      rfl
    · rw [h2]
      exact ⟨w, rfl⟩
end
def restS (x : V) : List Addr := match x with
  | .ref a => [a]
  | _ => []
theorem fpS_eq (x : V) (c : Addr) : fpS x c = c :: restS x := by cases x <;> rfl
theorem restS_lt {x : V} {n : Nat} (h : LtS x n) : ∀ b ∈ restS x, b < n := by
  intro b hb
  cases x <;> first | (cases hb; done) | skip
  rw [List.mem_singleton.mp hb]
  exact h
theorem LtS.up {x : V} {n : Nat} (h : LtS x n) : LtS x (n + 1) := by
  cases x <;> first | exact trivial | skip
  exact Nat.lt_succ_of_lt h
theorem Src.inj {X : Cx} {pins : List (Addr × Obj)} {σ : St} {H : Hp} {s : Shared} {k : SK} {x : V} {vs ws : List V} (I : L2.Inv X pins σ H s) (h : Src X.K H k x vs) (h' : Src X.K H k x ws) : vs = ws := by
  cases k with
  | l =>
    obtain ⟨a, rfl, q⟩ := h
    obtain ⟨b, e, q'⟩ := h'
    cases e
    exact I.list_inj q q'
  | t =>
    obtain ⟨a, rfl, q⟩ := h
    obtain ⟨b, e, q'⟩ := h'
    cases e
    exact I.tuple_inj q q'
  | s =>
    obtain ⟨a, rfl, rfl⟩ := h
    obtain ⟨b, e, rfl⟩ := h'
    cases e
    rfl
def ItzS (K : PySem.W.Frag) (k1 k2 : SK) (x y : V) : It :=
  ⟨fun i H => ∃ (vs ws : List V) (p q : V), Src K H k1 x vs ∧ Src K H k2 y ws ∧ vs[i]? = some p ∧ ws[i]? = some q,
    fun i H v H' => ∃ T p q, v = .ref T ∧ H T = none ∧ H' = upd H T (.tup [p, q]) ∧ (∀ vs, Src K H k1 x vs → vs[i]? = some p) ∧ ∀ ws, Src K H k2 y ws → ws[i]? = some q,
    fun i H => ∃ vs ws : List V, Src K H k1 x vs ∧ Src K H k2 y ws ∧ i = min vs.length ws.length⟩
def tnZ (k1 k2 : SK) (x y : V) (N : Nat) (i : Nat) (h : Heap) : Prop := IsZip h (N + 4) (N + 2) (N + 3) .none ∧ IsTupOf2 h (N + 2) (.ref N) (.ref (N + 1)) ∧ (∃ a b, IsTupOf2 h (N + 3) a b) ∧ ItS k1 x N i h ∧ ItS k2 y (N + 1) i h
abbrev fpZ (N : Nat) : List Addr := [N + 4, N + 2, N + 3, N, N + 1]
theorem wr_fpZ {N c : Nat} (h : c ∈ [N + 4, N + 3, N, N + 1]) : c ∈ fpZ N := by
  simp only [List.mem_cons, List.not_mem_nil, or_false] at h ⊢
  rcases h with h | h | h | h
  · exact .inl h
  · exact .inr (.inr (.inl h))
  · exact .inr (.inr (.inr (.inl h)))
  · exact .inr (.inr (.inr (.inr h)))
theorem turn_zipS {P : Program} {w : World} {K : PySem.W.Frag} {elts : List Expr} {kk : Nat} {tpos : Pos} {k1 k2 : SK} {x y : V} {N : Nat} (l1 : LtS x N) (l2 : LtS y N) :
    Turn P w K (.Tuple elts kk tpos) (ItzS K k1 k2 x y) (fpZ N) (N + 4) (tnZ k1 k2 x y N) where
  mem := List.mem_cons_self
  obj := fun i h ⟨hz, hT, ⟨a, b, hO⟩, h1, h2⟩ c hc => by
    have hc' : c = N + 4 ∨ c = N + 2 ∨ c = N + 3 ∨ c = N ∨ c = N + 1 := by simpa using hc
    rcases hc' with e | e | e | e | e <;> rw [e]
    · exact ⟨_, hz, fun v q => nomatch q⟩
    · exact ⟨_, hT, fun v q => nomatch q⟩
    · exact ⟨_, hO, fun v q => nomatch q⟩
    · exact h1.obj
    · exact h2.obj
  keep := fun i h h' ⟨hz, hT, ⟨a, b, hO⟩, h1, h2⟩ kp => ⟨kp (N + 4) (by simp) _ hz, kp (N + 2) (by simp) _ hT, ⟨a, b, kp (N + 3) (by simp) _ hO⟩, h1.keep fun o => kp N (by simp) o, h2.keep fun o => kp (N + 1) (by simp) o⟩
  item := by
    intro X eP ew eK hc i pins s σ H E I hf ⟨hz, hT, hO, h1, h2⟩ ⟨vs, ws, p, q, s1, s2, g1, g2⟩
    subst eP ew eK
    obtain ⟨n1, P1, S1, D1, d1, m1, r1, b1⟩ := draw_of I hc s1 h1 l1
    obtain ⟨n2, P2, S2, D2, d2, m2, r2, b2⟩ := draw_of I hc s2 h2 l2.up
    rw [fpS_eq] at D1 D2
    have G := GoesN.zip2 (elts := elts) (x1 := kk) (pos := tpos) (zip_sep2 (restS_lt l1) (restS_lt l2)) D1 D2
    have hi1 := (List.getElem?_eq_some_iff.mp g1).1
    have hi2 := (List.getElem?_eq_some_iff.mp g2).1
    refine G.goes i s _ E (by omega) ⟨hz, hT, hO, d1, d2⟩ fun u h' tk ⟨T, p', q', eu, hT', y1, y2, hTT⟩ ⟨gz, gT, gO, e1, e2⟩ kp _ => ?_
    subst eu
    obtain ⟨p2, f1, f2⟩ := r1 i p' y1
    obtain ⟨q2, f3, f4⟩ := r2 i q' y2
    rw [g1] at f1
    rw [g2] at f3
    cases f1
    cases f3
    have hT0 : H T = none := I.hok.fresh hT'
    have new : ObjOk X.prog X.w (upd H T (.tup [p, q])) h' T (.tup [p, q]) := ⟨by show 2 ≤ sizeLine; decide, [p', q'], .cons f2 (.cons f4 .nil), hTT⟩
    have kp' : ∀ c o, c ∉ fpZ N → s.heap.get? c = some o → h'.get? c = some o := fun c o hn e => kp c o (fun z => hn (wr_fpZ z)) e
    refine ⟨.ref T, _, I.turnedNew kp' hf hT' new, rfl, ⟨T, p, q, rfl, hT0, rfl, fun l hl => by rw [hl.inj I s1]; exact g1, fun l hl => by rw [hl.inj I s2]; exact g2⟩, ⟨gz, gT, gO, b1 _ _ e1, b2 _ _ e2⟩, fun b hb => ?_⟩
    obtain ⟨o, ho, _⟩ : ∃ o, s.heap.get? b = some o ∧ True := by
      have hb' : b = N + 4 ∨ b = N + 2 ∨ b = N + 3 ∨ b = N ∨ b = N + 1 := by simpa using hb
      obtain ⟨a0, b0, hO'⟩ := hO
      rcases hb' with e | e | e | e | e <;> rw [e]
      · exact ⟨_, hz, trivial⟩
      · exact ⟨_, hT, trivial⟩
      · exact ⟨_, hO', trivial⟩
      · obtain ⟨o, ho, _⟩ := h1.obj
        exact ⟨o, ho, trivial⟩
      · obtain ⟨o, ho, _⟩ := h2.obj
        exact ⟨o, ho, trivial⟩
    rw [upd_ne (Nat.ne_of_lt (Nat.lt_of_lt_of_le (Heap.lt_size ho) hT'))]
    exact (hf b hb).1
  done := by
    intro X eP ew eK hc i pins s σ H E I hf ⟨hz, hT, hO, h1, h2⟩ ⟨vs, ws, s1, s2, hi⟩
    subst eP ew eK
    obtain ⟨n1, P1, S1, D1, d1, m1, r1, b1⟩ := draw_of I hc s1 h1 l1
    obtain ⟨n2, P2, S2, D2, d2, m2, r2, b2⟩ := draw_of I hc s2 h2 l2.up
    rw [fpS_eq] at D1 D2
    have G := GoesN.zip2 (elts := elts) (x1 := kk) (pos := tpos) (zip_sep2 (restS_lt l1) (restS_lt l2)) D1 D2
    have hi' : i = min n1 n2 := by rw [m1, m2]; exact hi
    subst hi'
    refine wpAny_mono (G.stops s (fun s1 => L2.Inv X pins σ H s1) E ⟨hz, hT, hO, d1, d2⟩ fun h' tk kp _ => I.turnedL (ch := fpZ N) (fun c o hn e => kp c o (fun z => hn (wr_fpZ z)) e) hf) (fun _ _ q => q) fun _ _ e => e
  self := fun A i s Q E st q => wpAny_pyIter_zip st.1 q
theorem begins_of {X : Cx} {pins : List (Addr × Obj)} {σ : St} {H : Hp} {s : Shared} {k : SK} {x : V} {vs : List V} {u : Value} (I : L2.Inv X pins σ H s) (q : Src X.K H k x vs) (r : RelV x u) :
    ∃ (o : Obj) (Z : Heap → Prop), Begins u o Z ∧ Z s.heap ∧ (∀ h c, h.get? c = some o → ItS k x c 0 h) ∧ LtS x s.heap.objs.size := by
  cases k with
  | l =>
    obtain ⟨a, rfl, q⟩ := q
    cases r
    obtain ⟨its, _, p, _⟩ := I.list q
    exact ⟨_, _, begins_list a its.toArray, p.isList, fun h c e => ⟨_, e, rfl, rfl⟩, p.lt⟩
  | t =>
    obtain ⟨a, rfl, q⟩ := q
    cases r
    obtain ⟨its, _, p, _⟩ := I.tuple q
    obtain ⟨o, ho, _⟩ := id p
    exact ⟨_, _, begins_tuple a its.toArray, p, fun h c e => ⟨_, e, rfl, rfl⟩, Heap.lt_size ho⟩
  | s =>
    obtain ⟨y, rfl, rfl⟩ := q
    obtain ⟨t, rfl⟩ := r
    exact ⟨_, _, begins_text y t, trivial, fun h c e => ⟨t, _, e, rfl, rfl⟩, trivial⟩
def iZipS (K : PySem.W.Frag) (ta : TA) : TI := fun σ H R => ta σ H fun vs H1 => ∃ x y k1 k2 xs ys, vs = [x, y] ∧ Src K H1 k1 x xs ∧ Src K H1 k2 y ys ∧ R (ItzS K k1 k2 x y) H1
section
variable {X : Cx} {K : PySem.W.Frag} {e e2 : Expr} {ta : TA} {fa : AX} {p pos tpos : Pos} {elts : List Expr} {kk : Nat}
theorem pi_zipS (hg : Gl X "zip") (hm : X.mg "zip" = none) (ha : PA X [e, e2] ta) (hs : starEach [e, e2] X.env = (false, eval e X.env) :: starEach [e2] X.env := by rfl) (hpl : (backTo pos (starEach [e2] X.env)).any (·.1) = false := by rfl) :
    PI X (.Tuple elts kk tpos) (.Call (.Name "zip" p) [e, e2] [] pos) (iZipS X.K ta) := by
  refine ⟨fun pins s σ H R I hq => Call_ (ld_blt I hg hm PyProof.Rows.boot_zip (PyProof.Rows.callWith_type1 (thn (ha.run pos pins s σ H _ I hq) fun us sA ⟨vs, HA, IA, rA, qA⟩ => ?_) hs hpl))⟩
  obtain ⟨x, y, k1, k2, xs, ys, ev, s1, s2, q⟩ := qA
  subst ev
  obtain ⟨u, w, rfl, ru, rw'⟩ := rA.two
  obtain ⟨o1, Z1, B1, z1, i1, l1⟩ := begins_of IA s1 ru
  obtain ⟨o2, Z2, B2, z2, i2, l2⟩ := begins_of IA s2 rw'
  refine zip_begins2 B1 B2 z1 z2 fun h' g0 g1 g2 g3 g4 _ hk => wpAny_pyIter_zip g0 ?_
  have IB : L2.Inv X pins σ HA { sA with heap := h' } := IA.kept (t' := sA.toks) hk
  refine ⟨sA.heap.objs.size + 4, fpZ sA.heap.objs.size, _, _, HA, rfl, IB, turn_zipS l1 l2, ⟨g0, g1, ⟨_, _, g2⟩, i1 _ _ g3, i2 _ _ g4⟩, fun c hc => ?_, q⟩
  have hle : sA.heap.objs.size ≤ c := by
    have hc' : c = sA.heap.objs.size + 4 ∨ c = sA.heap.objs.size + 2 ∨ c = sA.heap.objs.size + 3 ∨ c = sA.heap.objs.size ∨ c = sA.heap.objs.size + 1 := by simpa using hc
    rcases hc' with z | z | z | z | z <;> rw [z] <;> first | exact Nat.le_add_right _ _ | exact Nat.le_refl _
  exact IA.fpOk hle (IA.hok.fresh hle)
def chD (x : Str) : List D := x.cps.toList.map fun c => PyData.str ⟨#[c]⟩
def srcD : D → Option (List D)
  | .list ds => some ds
  | .tuple ds => some ds
  | .str y => some (chD y)
  | _ => none
theorem Src.mono {F F' : Hp} (h : Le F F') {k : SK} {x : V} {vs : List V} (q : Src K F k x vs) : Src K F' k x vs := by
  cases k with
  | l =>
    obtain ⟨a, e, q⟩ := q
    exact ⟨a, e, h.sqL q⟩
  | t =>
    obtain ⟨a, e, q⟩ := q
    exact ⟨a, e, h.sqT q⟩
  | s => exact q
theorem chars_pd {F : Hp} : ∀ l : List Nat, Paired (Rp K F) (l.map fun c => V.str ⟨#[c]⟩) (l.map fun c => PyData.str ⟨#[c]⟩)
  | [] => .nil
  | c :: r => .cons (.str _) (chars_pd r)
theorem src_of {F : Hp} {x : V} {d : D} {ds : List D} (r : Rp K F x d) (h : srcD d = some ds) : ∃ k vs, Src K F k x vs ∧ Paired (Rp K F) vs ds := by
  unfold srcD at h
  split at h
  · cases h
    obtain ⟨a, xs, e, q, p⟩ := r.list
    exact ⟨.l, xs, ⟨a, e, q⟩, p⟩
  · cases h
    obtain ⟨a, xs, e, q, p⟩ := r.tuple
    exact ⟨.t, xs, ⟨a, e, q⟩, p⟩
  · cases h
    exact ⟨.s, _, ⟨_, r.str_eq, rfl⟩, chars_pd _⟩
  · cases h
/-- the thing at hand is the one that was told -/
theorem Src.inj2 {H : Hp} {k : SK} {x : V} {vs ws : List V} (h : Src K H k x vs) (h' : Src K H k x ws) (hin : ∀ a xs ys, (SqL K H a xs → SqL K H a ys → xs = ys) ∧ (SqT K H a xs → SqT K H a ys → xs = ys)) : vs = ws := by
  cases k with
  | l =>
    obtain ⟨a, rfl, q⟩ := h
    obtain ⟨b, e, q'⟩ := h'
    cases e
    exact (hin a vs ws).1 q q'
  | t =>
    obtain ⟨a, rfl, q⟩ := h
    obtain ⟨b, e, q'⟩ := h'
    cases e
    exact (hin a vs ws).2 q q'
  | s =>
    obtain ⟨a, rfl, rfl⟩ := h
    obtain ⟨b, e, rfl⟩ := h'
    cases e
    rfl
theorem jok_zipS {F : Hp} {x y : V} {k1 k2 : SK} {xs ys : List V} {ds es : List D} (h : Src K F k1 x xs) (p : Paired (Rp K F) xs ds) (h' : Src K F k2 y ys) (p' : Paired (Rp K F) ys es) : JOk K (ItzS K k1 k2 x y) F (zipD ds es) := by
  intro H M hm hle i
  have g1 : Src K H k1 x xs := (h.mono hle).mono cut_le
  have g2 : Src K H k2 y ys := (h'.mono hle).mono cut_le
  refine ⟨fun hi => ⟨xs, ys, g1, g2, ?_⟩, fun d hd => ?_⟩
  · rw [zipD_len] at hi
    rw [Pd.len p, Pd.len p']
    omega
  obtain ⟨a, b, e1, e2, rfl⟩ := zipD_get hd
  obtain ⟨v, f1, f2⟩ := Pd.get p e1
  obtain ⟨w, f3, f4⟩ := Pd.get p' e2
  refine ⟨⟨xs, ys, v, w, g1, g2, f1, f3⟩, fun u H' ⟨T, a', b', eu, hT, eH, y1, y2⟩ => ?_⟩
  subst eu eH
  have z1 := y1 xs g1
  rw [f1] at z1
  cases z1
  have z2 := y2 ys g2
  rw [f3] at z2
  cases z2
  exact ⟨Ex.new hT, sqt_new hT hm (.cons (f2.mono hle) (.cons (f4.mono hle) .nil))⟩
def ixZipS (f : AX) : IX := fun cs => (f cs).bind fun r => match r.1 with
  | [a, b] => (srcD a).bind fun xs => (srcD b).bind fun ys => some (zipD xs ys, r.2)
  | _ => none
theorem di_zipS (hg : Gl X "zip") (hm : X.mg "zip" = none) (ha : DA X [e, e2] ta fa) (hs : starEach [e, e2] X.env = (false, eval e X.env) :: starEach [e2] X.env := by rfl) (hpl : (backTo pos (starEach [e2] X.env)).any (·.1) = false := by rfl) :
    DI X (.Tuple elts kk tpos) (.Call (.Name "zip" p) [e, e2] [] pos) (iZipS X.K ta) (ixZipS fa) := by
  refine ⟨pi_zipS hg hm ha.pa hs hpl, ?_⟩
  intro B IO Z σ H cs ok items cs' e R q
  unfold ixZipS at e
  obtain ⟨⟨d1, c1⟩, e1, e⟩ := Option.bind_eq_some_iff.mp e
  dsimp only at e
  split at e
  · obtain ⟨xs, h1, e⟩ := Option.bind_eq_some_iff.mp e
    obtain ⟨ys, h2, e⟩ := Option.bind_eq_some_iff.mp e
    cases e
    refine ha.sa ok e1 _ fun vs H1 p1 r1 => ?_
    cases r1 with
    | cons r1 r2 =>
      cases r2 with
      | cons r2 r3 =>
        cases r3
        obtain ⟨k1, vs, s1, t1⟩ := src_of r1 h1
        obtain ⟨k2, ws, s2, t2⟩ := src_of r2 h2
        exact ⟨_, _, k1, k2, vs, ws, rfl, s1.mono cut_le, s2.mono cut_le, q _ H1 p1 (jok_zipS s1 t1 s2 t2)⟩
  · cases e
def kZipS2 (a b : D) (c : En) : Option (List D × En) := (srcD a).bind fun xs => (srcD b).bind fun ys => some (zipD xs ys, c)
def kZipS (o : Option (List D × En)) : Option (List D × En) := o.bind fun r => match r.1 with
  | [a, b] => kZipS2 a b r.2
  | _ => none
variable {cs c : En} {a b : D} {xs ys : List D}
@[simp] theorem ixZipS_ap : ixZipS fa cs = kZipS (fa cs) := rfl
@[simp] theorem kZipS_s : kZipS (some ([a, b], c)) = kZipS2 a b c := rfl
@[simp] theorem kZipS_ll : kZipS2 (.list xs) (.list ys) c = some (zipD xs ys, c) := rfl
@[simp] theorem kZipS_lt : kZipS2 (.list xs) (.tuple ys) c = some (zipD xs ys, c) := rfl
@[simp] theorem kZipS_tl : kZipS2 (.tuple xs) (.list ys) c = some (zipD xs ys, c) := rfl
@[simp] theorem kZipS_tt : kZipS2 (.tuple xs) (.tuple ys) c = some (zipD xs ys, c) := rfl
end
end Qp
end
section
set_option Elab.async false
set_option linter.all false
set_option maxRecDepth 100000
set_option maxHeartbeats 2000000
/-! Qx: min and max of a list of whole numbers; a[i] -= e. -/
namespace Qp
open PySem PySem.Spec PyProof.Rows L2
def minI : List Int → Int
  | [] => 0
  | [x] => x
  | x :: r => min x (minI r)
def maxI : List Int → Int
  | [] => 0
  | [x] => x
  | x :: r => max x (maxI r)
theorem minI_mem : ∀ {l : List Int}, l ≠ [] → minI l ∈ l ∧ ∀ y ∈ l, minI l ≤ y
  | [], h => absurd rfl h
  | [x], _ => ⟨List.mem_singleton.mpr rfl, fun y hy => by rw [List.mem_singleton.mp hy]; exact Int.le_refl _⟩
  | x :: y :: r, _ => by
    obtain ⟨h1, h2⟩ := minI_mem (l := y :: r) (by simp)
    show min x (minI (y :: r)) ∈ _ ∧ ∀ z ∈ _, min x (minI (y :: r)) ≤ z
    refine ⟨?_, fun z hz => ?_⟩
    · by_cases c : x ≤ minI (y :: r)
      · rw [Int.min_eq_left c]; exact List.mem_cons_self
      · rw [Int.min_eq_right (by omega)]; exact List.mem_cons_of_mem _ h1
    · rcases List.mem_cons.mp hz with rfl | hz
      · exact Int.min_le_left _ _
      · exact Int.le_trans (Int.min_le_right _ _) (h2 z hz)
theorem maxI_mem : ∀ {l : List Int}, l ≠ [] → maxI l ∈ l ∧ ∀ y ∈ l, y ≤ maxI l
  | [], h => absurd rfl h
  | [x], _ => ⟨List.mem_singleton.mpr rfl, fun y hy => by rw [List.mem_singleton.mp hy]; exact Int.le_refl _⟩
  | x :: y :: r, _ => by
    obtain ⟨h1, h2⟩ := maxI_mem (l := y :: r) (by simp)
    show max x (maxI (y :: r)) ∈ _ ∧ ∀ z ∈ _, z ≤ max x (maxI (y :: r))
    refine ⟨?_, fun z hz => ?_⟩
    · by_cases c : x ≤ maxI (y :: r)
      · rw [Int.max_eq_right c]; exact List.mem_cons_of_mem _ h1
      · rw [Int.max_eq_left (by omega)]; exact List.mem_cons_self
    · rcases List.mem_cons.mp hz with rfl | hz
      · exact Int.le_max_left _ _
      · exact Int.le_trans (h2 z hz) (Int.le_max_right _ _)
def gMinL : G1 := fun d => (listD d).bind fun ds => (intsOf ds).bind fun is => if is.isEmpty = true then none else some (.int (minI is), false)
def gMaxL : G1 := fun d => (listD d).bind fun ds => (intsOf ds).bind fun is => if is.isEmpty = true then none else some (.int (maxI is), false)
section
variable {K : PySem.W.Frag}
theorem sw_minL : SRCw K (rMin K) gMinL := by
  intro H M hm x d rx z fr q Q k
  obtain ⟨ds, h1, q⟩ := Option.bind_eq_some_iff.mp q
  obtain ⟨is, h2, q⟩ := Option.bind_eq_some_iff.mp q
  split at q
  · cases q
  · rename_i hn
    cases q
    rw [listD_eq h1] at rx
    obtain ⟨a, xs, rfl, hq, p⟩ := rx.list
    have e := ints_pd p h2
    have hne : is ≠ [] := fun z => hn (by rw [z]; rfl)
    obtain ⟨m1, m2⟩ := minI_mem hne
    refine ⟨a, is, rfl, by rw [← e]; exact hq, List.length_pos_iff.mpr hne, fun m hm1 hm2 => ?_⟩
    have : m = minI is := Int.le_antisymm (hm2 _ m1) (m2 m hm1)
    rw [this]
    exact k _ H (Ex.refl H) (VOk.of (.int _))
theorem sw_maxL : SRCw K (rMax K) gMaxL := by
  intro H M hm x d rx z fr q Q k
  obtain ⟨ds, h1, q⟩ := Option.bind_eq_some_iff.mp q
  obtain ⟨is, h2, q⟩ := Option.bind_eq_some_iff.mp q
  split at q
  · cases q
  · rename_i hn
    cases q
    rw [listD_eq h1] at rx
    obtain ⟨a, xs, rfl, hq, p⟩ := rx.list
    have e := ints_pd p h2
    have hne : is ≠ [] := fun z => hn (by rw [z]; rfl)
    obtain ⟨m1, m2⟩ := maxI_mem hne
    refine ⟨a, is, rfl, by rw [← e]; exact hq, List.length_pos_iff.mpr hne, fun m hm1 hm2 => ?_⟩
    have : m = maxI is := Int.le_antisymm (m2 m hm1) (hm2 _ m1)
    rw [this]
    exact k _ H (Ex.refl H) (VOk.of (.int _))
/-- in-place - on ints, for a[i] -= e -/
def gSubI : G2 := gII fun i j => .int (i - j)
theorem sr_ipsub : SR2 K (ipI fun i j => i - j) gSubI := by
  intro H M hm x y d e rx ry z fr q Q k
  unfold gSubI gII at q
  split at q
  · cases q
    exact ⟨_, _, rx.int_eq, ry.int_eq, k _ H (Ex.refl H) (VOk.of (.int _))⟩
  · cases q
@[simp] theorem gSubI_i {j k : Int} : gSubI (.int j) (.int k) = some (.int (j - k), false) := rfl
theorem intsOf_map {α : Type} (f : α → Int) : ∀ l : List α, intsOf (l.map fun x => PyData.int (f x)) = some (l.map f)
  | [] => rfl
  | x :: r => by
    show ((intsOf (r.map fun x => PyData.int (f x))).bind fun t => some (f x :: t)) = _
    rw [intsOf_map f r]
    rfl
theorem gSum_map {α : Type} (f : α → Int) (l : List α) : gSum (.list (l.map fun x => PyData.int (f x))) = some (.int (l.map f).sum, false) := by
  show ((intsOf (l.map fun x => PyData.int (f x))).bind fun is => some (PyData.int is.sum, false)) = _
  rw [intsOf_map]
  rfl
theorem gMinL_map {α : Type} (f : α → Int) {l : List α} (h : l ≠ []) : gMinL (.list (l.map fun x => PyData.int (f x))) = some (.int (minI (l.map f)), false) := by
  show ((intsOf (l.map fun x => PyData.int (f x))).bind fun is => if is.isEmpty = true then none else some (PyData.int (minI is), false)) = _
  rw [intsOf_map, Option.bind_some, if_neg (by cases l with | nil => exact absurd rfl h | cons _ _ => simp)]
theorem gMaxL_map {α : Type} (f : α → Int) {l : List α} (h : l ≠ []) : gMaxL (.list (l.map fun x => PyData.int (f x))) = some (.int (maxI (l.map f)), false) := by
  show ((intsOf (l.map fun x => PyData.int (f x))).bind fun is => if is.isEmpty = true then none else some (PyData.int (maxI is), false)) = _
  rw [intsOf_map, Option.bind_some, if_neg (by cases l with | nil => exact absurd rfl h | cons _ _ => simp)]
end
end Qp
end
section
set_option Elab.async false
set_option linter.all false
set_option maxRecDepth 100000
set_option maxHeartbeats 2000000
/-! Qy: written texts reckoned by simp. -/
namespace Qp
open PySem PySem.Spec PyProof.Rows L2
theorem ofS_cps (s : String) : (Str.ofString s).cps.toList = s.toList.map Char.toNat := by
  rw [Str.ofString_eq_toList]
theorem ofS_inj {a b : String} (h : Str.ofString a = Str.ofString b) : a = b := by
  have h1 := congrArg (fun s : Str => s.cps.toList) h
  simp only [ofS_cps] at h1
  have key : ∀ l m : List Char, l.map Char.toNat = m.map Char.toNat → l = m := by
    intro l
    induction l with
    | nil => intro m h; cases m with | nil => rfl | cons _ _ => cases h
    | cons c l ih =>
      intro m h
      cases m with
      | nil => cases h
      | cons d m =>
        simp only [List.map_cons, List.cons.injEq] at h
        rw [Char.toNat_inj.mp h.1, ih m h.2]
  exact String.toList_inj.mp (key _ _ h1)
@[simp] theorem ofS_beq (a b : String) : (Str.ofString a == Str.ofString b) = (a == b) := by
  rw [Bool.eq_iff_iff, beq_iff_eq, beq_iff_eq]
  exact ⟨ofS_inj, fun h => by rw [h]⟩
theorem ofS_ok (s : String) : ∀ c ∈ (Str.ofString s).cps.toList, c < 1114112 := by
  intro c hc
  rw [ofS_cps] at hc
  obtain ⟨d, _, rfl⟩ := List.mem_map.mp hc
  have := d.valid
  rcases this with h | h
  · exact Nat.lt_trans h (by decide)
  · exact h.2
def VS (s : Str) : Prop := ∀ c ∈ s.cps.toList, c < 1114112
theorem vs_lit (s : String) : VS (Str.ofString s) := ofS_ok s
theorem shaped_VS {s : Str} (h : VS s) : SeqAt.shaped (.str s) = true := by
  rw [str_cps]
  exact shaped_str h
theorem lay_VS {s : Str} (h : VS s) : PyData.canLay0 (.str s) = true := by
  have := shaped_VS h
  unfold SeqAt.shaped at this
  rw [Bool.and_eq_true] at this
  exact this.1
theorem gEq_VS {a b : Str} (ha : VS a) (hb : VS b) : gEq (.str a) (.str b) = some (.bool (a == b), false) := by
  show (if (SeqAt.shaped (.str a) && SeqAt.shaped (.str b)) = true then _ else _) = _
  rw [shaped_VS ha, shaped_VS hb]
  rfl
theorem gNe_VS {a b : Str} (ha : VS a) (hb : VS b) : gNe (.str a) (.str b) = some (.bool (!(a == b)), false) := by
  show (if (SeqAt.shaped (.str a) && SeqAt.shaped (.str b)) = true then _ else _) = _
  rw [shaped_VS ha, shaped_VS hb]
  rfl
@[simp] theorem gEq_lit (a b : String) : gEq (.str (Str.ofString a)) (.str (Str.ofString b)) = some (.bool (a == b), false) := by
  rw [gEq_VS (vs_lit a) (vs_lit b), ofS_beq]
@[simp] theorem gNe_lit (a b : String) : gNe (.str (Str.ofString a)) (.str (Str.ofString b)) = some (.bool (!(a == b)), false) := by
  rw [gNe_VS (vs_lit a) (vs_lit b), ofS_beq]
@[simp] theorem eqv_ss (a b : Str) : PyData.eqv (.str a) (.str b) = (a == b) := rfl
@[simp] theorem flatD_s (a : Str) : flatD (.str a) = true := rfl
theorem gIn_l {neg : Bool} {d : D} {ds : List D} (h : flatD d = true) (h2 : ds.all flatD = true) : gIn neg d (.list ds) = some (.bool (if neg then !(ds.any fun e => PyData.eqv e d) else ds.any fun e => PyData.eqv e d), false) := by
  show (if (flatD d && ds.all flatD) = true then _ else _) = _
  rw [h, h2]
  rfl
theorem gIn_t {neg : Bool} {d : D} {ds : List D} (h : flatD d = true) (h2 : ds.all flatD = true) : gIn neg d (.tuple ds) = some (.bool (if neg then !(ds.any fun e => PyData.eqv e d) else ds.any fun e => PyData.eqv e d), false) := by
  show (if (flatD d && ds.all flatD) = true then _ else _) = _
  rw [h, h2]
  rfl
section
variable {a b c d e f : D} {s : Str} {neg : Bool} {x y z u : Str}
@[simp] theorem gIn_l2 : gIn false (.str s) (.list [.str x, .str y]) = some (.bool (x == s || y == s), false) := by
  rw [gIn_l rfl rfl]
  simp
@[simp] theorem gIn_l3 : gIn false (.str s) (.list [.str x, .str y, .str z]) = some (.bool (x == s || (y == s || z == s)), false) := by
  rw [gIn_l rfl rfl]
  simp
@[simp] theorem gIn_t2 : gIn false (.str s) (.tuple [.str x, .str y]) = some (.bool (x == s || y == s), false) := by
  rw [gIn_t rfl rfl]
  simp
@[simp] theorem gIn_t3 : gIn false (.str s) (.tuple [.str x, .str y, .str z]) = some (.bool (x == s || (y == s || z == s)), false) := by
  rw [gIn_t rfl rfl]
  simp
@[simp] theorem atD4 {xs : List D} : atD (a :: b :: c :: d :: e :: xs) 4 = some e := by
  rw [atD_of (by decide) (by simp; try omega)]
  rfl
@[simp] theorem atD5 {xs : List D} : atD (a :: b :: c :: d :: e :: f :: xs) 5 = some f := by
  rw [atD_of (by decide) (by simp; try omega)]
  rfl
@[simp] theorem gTup5 : gTupD [a, b, c, d, e] = some (.tuple [a, b, c, d, e], false) := gTupD_of (by show 5 ≤ LIM; decide)
@[simp] theorem gTup6 : gTupD [a, b, c, d, e, f] = some (.tuple [a, b, c, d, e, f], false) := gTupD_of (by show 6 ≤ LIM; decide)
@[simp] theorem gLst5 : gLstD [a, b, c, d, e] = some (.list [a, b, c, d, e], true) := gLstD_of (by show 5 ≤ LIM; decide)
@[simp] theorem gLst6 : gLstD [a, b, c, d, e, f] = some (.list [a, b, c, d, e, f], true) := gLstD_of (by show 6 ≤ LIM; decide)
end
end Qp
end
section
set_option Elab.async false
set_option linter.all false
set_option maxRecDepth 100000
set_option maxHeartbeats 2000000
/-! Qz: x // j with a divisor below 2 ^ 128. -/
namespace Qp
open PySem PySem.Spec PyProof.Rows L2
def gFdivW : G2 := gIIc (fun _ j => decide (0 < j) && decide (j < 340282366920938463463374607431768211456)) fun i j => .int (i / j)
section
variable {K : PySem.W.Frag}
theorem sr_fdivW : SR2 K (rI CDivW fun i j => .int (i / j)) gFdivW := sr_IIc (fun i j h => by
  rw [Bool.and_eq_true, decide_eq_true_eq, decide_eq_true_eq] at h
  exact wide_div h.1 (b := 128) (by omega) (by decide) (by decide)) (by intro _ _; rfl)
theorem gFdivX_i {j k : Int} (h : 0 < k) (h2 : k < 340282366920938463463374607431768211456) : gFdivW (.int j) (.int k) = some (.int (j / k), false) := by
  show (if (decide (0 < k) && decide (k < 340282366920938463463374607431768211456)) = true then _ else _) = _
  rw [decide_eq_true h, decide_eq_true h2]
  rfl
theorem gFdivW_i {j k : Int} (h : 0 < k) (h2 : k < 18446744073709551616) : gFdivW (.int j) (.int k) = some (.int (j / k), false) := gFdivX_i h (Int.lt_trans h2 (by decide))
end
end Qp
end
section
set_option Elab.async false
set_option linter.all false
set_option maxRecDepth 100000
set_option maxHeartbeats 2000000
/-! Ra: abs, str, pop of a list, methods of texts, a text or a tuple repeated, two comparisons in a chain. -/
namespace Qp
open PySem PySem.Spec PyProof.Rows L2
section
variable {K : PySem.W.Frag} {X : Cx}
/-! ### abs, str -/
def gAbs : GA
  | [.int i] => some (.int (if i < 0 then -i else i), false)
  | _ => none
theorem sc_abs : SRC K (fun xs H Q => ∃ i, xs = [.int i] ∧ Q (.int (if i < 0 then -i else i)) H) gAbs := by
  intro H M hm xs ds p z fr q Q k
  unfold gAbs at q
  split at q
  · cases q
    cases p with
    | cons r p =>
      cases p
      exact ⟨_, by rw [r.int_eq], k _ H (Ex.refl H) (VOk.of (.int _))⟩
  · cases q
def strI (i : Int) : Str := (toString i : String)
def strB (b : Bool) : Str := if b then "True" else "False"
def gStr : GA
  | [.int i] => if i.natAbs < 115792089237316195423570985008687907853269984665640564039457584007913129639936 then some (.str (strI i), false) else none
  | [.bool b] => some (.str (strB b), false)
  | _ => none
theorem call_str_T : CallR X (.type "str") (fun xs H Q => (∃ i, xs = [.int i] ∧ i.natAbs.log2 < 1920 ∧ Q (.str (toString i)) H) ∨ ∃ b, xs = [.bl b] ∧ Q (.str (strB b)) H) := by
  intro pins s σ H xs us Q I r h
  rcases h with ⟨i, rfl, hz, q⟩ | ⟨b, rfl, q⟩
  · obtain ⟨u, rfl, t, rfl⟩ := vals1 r
    exact PySem.P.str_of_int hz ⟨.str _, H, I.tok _, ⟨_, rfl⟩, q⟩
  · obtain ⟨u, rfl, r1⟩ := vals1 r
    cases r1
    exact PySem.P.str_of_bool ⟨.str _, H, I.tok _, ⟨_, rfl⟩, q⟩
theorem sc_str : SRC K (fun xs H Q => (∃ i, xs = [.int i] ∧ i.natAbs.log2 < 1920 ∧ Q (.str (toString i)) H) ∨ ∃ b, xs = [.bl b] ∧ Q (.str (strB b)) H) gStr := by
  intro H M hm xs ds p z fr q Q k
  unfold gStr at q
  split at q
  · split at q
    · rename_i i hb
      cases q
      cases p with
      | cons r p =>
        cases p
        exact .inl ⟨_, by rw [r.int_eq], Nat.lt_trans (PySem.Flt.log2_lt_of (k := 256) (by decide) (show i.natAbs < 2 ^ 256 from hb)) (by decide), k _ H (Ex.refl H) (VOk.of (.str _))⟩
    · cases q
  · cases q
    cases p with
    | cons r p =>
      cases p
      exact .inr ⟨_, by rw [r.bool_eq], k _ H (Ex.refl H) (VOk.of (.str _))⟩
  · cases q
@[simp] theorem gAbs_i {i : Int} : gAbs [.int i] = some (.int (if i < 0 then -i else i), false) := rfl
@[simp] theorem gStr_b {b : Bool} : gStr [.bool b] = some (.str (strB b), false) := rfl
theorem gStr_i {i : Int} (h : i.natAbs < 115792089237316195423570985008687907853269984665640564039457584007913129639936) : gStr [.int i] = some (.str (strI i), false) := by
  show (if i.natAbs < 115792089237316195423570985008687907853269984665640564039457584007913129639936 then _ else _) = _
  rw [if_pos h]
/-! ### x.pop() -/
def kPop (c : D → Cell) (i : Nat) (cs : En) (ds : List D) : Option (D × Bool × En) := (ds[ds.length - 1]?).bind fun d => some (d, false, cs.set i (c (.list ds.dropLast)))
def evPop (i : Nat) : EX := fun cs => match cs[i]? with
  | some (.own (.list ds)) => kPop .own i cs ds
  | some (.io (.list ds)) => kPop .io i cs ds
  | _ => none
theorem se_pop1 {i : Nat} {B : Hp} {IO : List (Nat × Addr)} {Z : Addr → Prop} {σ : St} {H : Hp} {cs cs' : En} {ds : List D} {d : D} (ok : Ok K B IO Z σ H cs) (hd : cs[i]? = some (.own (.list ds)) ∨ cs[i]? = some (.io (.list ds))) (hl : ds[ds.length - 1]? = some d)
    (e : upL cs i (fun _ => some (.list ds.dropLast)) = some cs') (Q : VK) (q : ∀ v H', Pe K B IO Z σ H cs σ H' cs' false v d → Q v H') : tBM0 K "list" rPop (tVar i) σ H Q := by
  obtain ⟨a, hs, ow⟩ := ok.own i _ hd
  obtain ⟨xs, h4, h5⟩ := ow.list
  refine ⟨_, hs, .inl ⟨rfl, xs, SqL.of h4⟩, ?_⟩
  obtain ⟨a', d0, d', h1, h2, h3, k⟩ := ok.upL e
  rw [hs] at h1
  cases h1
  cases h2
  have m := ok_md (Z := Z) e hs
  obtain ⟨x, hx, rx⟩ := Pd.get h5 hl
  refine ⟨a, xs, x, rfl, rfl, h4, by rw [Pd.len h5]; exact hx, ?_⟩
  refine q _ _ (.dat (k _ upd_kept ?_) ?_)
  · rw [upd_same]
    exact .lst (Rp.monoA (cut_upd m) (Pd.dropLast h5))
  · have p := k (upd H a (.lst xs.dropLast)) upd_kept (by rw [upd_same]; exact .lst (Rp.monoA (cut_upd m) (Pd.dropLast h5)))
    exact rx.mono p.le
theorem se_pop {i : Nat} : SE K (tBM0 K "list" rPop (tVar i)) (evPop i) := by
  intro B IO Z σ H cs ok d fr cs' e Q q
  unfold evPop at e
  split at e
  · rename_i ds hd
    unfold kPop at e
    obtain ⟨d0, e1, e⟩ := Option.bind_eq_some_iff.mp e
    cases e
    exact se_pop1 ok (.inl hd) e1 (by unfold upL; rw [hd]; rfl) Q q
  · rename_i ds hd
    unfold kPop at e
    obtain ⟨d0, e1, e⟩ := Option.bind_eq_some_iff.mp e
    cases e
    exact se_pop1 ok (.inr hd) e1 (by unfold upL; rw [hd]; rfl) Q q
  · cases e
theorem de_pop {i : Nat} {x : Str} {xpos apos pos : Pos} (hv : DE X (.Name x xpos) (tVar i) (evVar i))
    (hbase : attributeBase (.Name x xpos) "pop" X.env (eval (.Name x xpos) X.env) = eval (.Name x xpos) X.env := by rfl) (hline : (apos.endLine == pos.line) = true := by rfl) :
    DE X (.Call (.Attribute (.Name x xpos) "pop" apos) [] [] pos) (tBM0 X.K "list" rPop (tVar i)) (evPop i) :=
  ⟨pe_bm0 PySem.F.plainAttrs_list PySem.F.slot_list_pop PySem.F.type_list_pop mt_pop hv.pe hbase hline, se_pop⟩
/-! ### methods of texts -/
def kPop' (o : OE) : OE := o
/-- a method without arguments -/
theorem se_m0 {r : V → List V → Hp → VK → Prop} {g : G1} {to : TE} {fo : EX} (ho : SE K to fo) (hg : ∀ d z fr, g d = some (z, fr) → ∃ s, d = .str s) (hr : SR1 K (fun x H Q => r x [] H Q) g) : SE K (tM0 r to) (ev1 g fo) := by
  intro B IO Z σ H cs ok d fr cs' e Q q
  unfold ev1 at e
  obtain ⟨⟨d1, f1, c1⟩, e1, e⟩ := Option.bind_eq_some_iff.mp e
  obtain ⟨⟨z, fz⟩, e3, e⟩ := Option.bind_eq_some_iff.mp e
  cases e
  refine ho ok e1 _ fun x H1 w1 => ⟨?_, ?_⟩
  · obtain ⟨s, rfl⟩ := hg _ _ _ e3
    exact ⟨s, w1.rp.str_eq⟩
  · exact hr w1.post.ok.md w1.rp e3 Q fun v H3 x3 v3 => q v H3 (.of w1.post x3 v3)
/-- a method with an argument -/
theorem se_m1 {r : V → List V → Hp → VK → Prop} {g : G2} {to te : TE} {fo fe : EX} (ho : SE K to fo) (he : SE K te fe) (hg : ∀ d e z fr, g d e = some (z, fr) → ∃ s, d = .str s) (hr : SR2 K (fun x y H Q => r x [y] H Q) g) : SE K (tM1 r to te) (ev2 g fo fe) := by
  intro B IO Z σ H cs ok d fr cs' e Q q
  unfold ev2 at e
  obtain ⟨⟨d1, f1, c1⟩, e1, e⟩ := Option.bind_eq_some_iff.mp e
  obtain ⟨⟨d2, f2, c2⟩, e2, e⟩ := Option.bind_eq_some_iff.mp e
  obtain ⟨⟨z, fz⟩, e3, e⟩ := Option.bind_eq_some_iff.mp e
  cases e
  refine ho ok e1 _ fun x H1 w1 => ⟨?_, he w1.post.ok e2 _ fun y H2 w2 => ?_⟩
  · obtain ⟨s, rfl⟩ := hg _ _ _ _ e3
    exact ⟨s, w1.rp.str_eq⟩
  · exact hr w2.post.ok.md (w1.rp.mono w2.post.le) w2.rp e3 Q fun v H3 x3 v3 => q v H3 (.of (w1.post.trans w2.post) x3 v3)
def LIMS : Nat := 1000000
def gLower : G1
  | .str a => if a.length ≤ LIMS then some (.str (Txt.lower a), false) else none
  | _ => none
theorem de_lower {o : Expr} {to : TE} {fo : EX} {apos pos : Pos} (ho : DE X o to fo) (hbase : attributeBase o "lower" X.env (eval o X.env) = eval o X.env := by rfl) (hline : (apos.endLine == pos.line) = true := by rfl) :
    DE X (.Call (.Attribute o "lower" apos) [] [] pos) (tM0 (fun x xs H Q => ∃ a, x = .str a ∧ xs = [] ∧ a.length ≤ 5592405 ∧ Q (.str (Txt.lower a)) H) to) (ev1 gLower fo) := by
  refine ⟨pe_lower ho.pe hbase hline, se_m0 ho.se (fun d z fr e => ?_) ?_⟩
  · unfold gLower at e
    split at e
    · exact ⟨_, rfl⟩
    · cases e
  · intro H M hm x d rx z fr e Q k
    unfold gLower at e
    split at e
    · split at e
      · rename_i hl
        cases e
        exact ⟨_, rx.str_eq, rfl, Nat.le_trans hl (by decide), k _ H (Ex.refl H) (VOk.of (.str _))⟩
      · cases e
    · cases e
def gSplit : G2
  | .str a, .str b => if (b.length == 0) = false ∧ a.length ≤ LIMS then some (.list ((Txt.split a b).map .str), true) else none
  | _, _ => none
theorem rp_strs {F : Hp} : ∀ l : List Str, Paired (Rp K F) (l.map V.str) (l.map PyData.str)
  | [] => .nil
  | s :: r => .cons (.str s) (rp_strs r)
theorem de_split {o e : Expr} {to te : TE} {fo fe : EX} {apos pos : Pos} (ho : DE X o to fo) (he : DE X e te fe) (hs : starEach [e] X.env = [(false, eval e X.env)] := by rfl) (hbase : attributeBase o "split" X.env (eval o X.env) = eval o X.env := by rfl) (hline : (apos.endLine == pos.line) = true := by rfl) :
    DE X (.Call (.Attribute o "split" apos) [e] [] pos) (tM1 (fun x xs H Q => ∃ a b, x = .str a ∧ xs = [.str b] ∧ (b.length == 0) = false ∧ a.length + 2 ≤ sizeLine ∧ rNewStrs (Txt.split a b) H Q) to te) (ev2 gSplit fo fe) := by
  refine ⟨pe_split ho.pe he.pe hs hbase hline, se_m1 ho.se he.se (fun d e z fr q => ?_) ?_⟩
  · unfold gSplit at q
    split at q
    · exact ⟨_, rfl⟩
    · cases q
  · intro H M hm x y d e rx ry z fr q Q k
    unfold gSplit at q
    split at q
    · split at q
      · rename_i hl
        cases q
        refine ⟨_, _, rx.str_eq, by rw [ry.str_eq], hl.1, Nat.le_trans (Nat.add_le_add_right hl.2 2) (by decide), fun p hp => ?_⟩
        exact k _ _ (Ex.new hp) (VOk.new hp hm (.lst (rp_strs _)))
      · cases q
    · cases q
/-! ### a text or a tuple repeated -/
def repS (x : Str) (n : Nat) : Str := ⟨(List.replicate n x.cps.toList).flatten.toArray⟩
theorem foldl_app : ∀ (l : List (Array Nat)) (a : Array Nat), l.foldl (· ++ ·) a = (a.toList ++ (l.map Array.toList).flatten).toArray
  | [], a => by simp
  | x :: r, a => by
    rw [List.foldl_cons, foldl_app r (a ++ x)]
    simp
theorem repS_fold (x : Str) (n : Nat) : (⟨(List.replicate n x.cps).foldl (· ++ ·) #[]⟩ : Str) = repS x n := by
  unfold repS
  rw [foldl_app]
  simp
theorem op_repS : OpR X (binaryOp .Mult) (fun x y H Q => ∃ a k, x = .str a ∧ y = .int k ∧ k ≤ 100000 ∧ -100000 ≤ k ∧ a.length ≤ 100 ∧ Q (.str (repS a k.toNat)) H) := by
  intro pins s σ H x y v u Q I rx ry h
  obtain ⟨a, k, rfl, rfl, hk, hk0, ha, q⟩ := h
  obtain ⟨t, rfl⟩ := rx
  obtain ⟨t', rfl⟩ := ry
  have hm : ¬ k < 1 → a.length * k.toNat ≤ 10000000 := fun h => by
    have := Nat.mul_le_mul ha (show k.toNat ≤ 100000 by omega)
    omega
  refine PySem.P.mul_str ?_ (fun h1 _ => ?_) (fun h1 _ => ?_) ?_
  · rw [decide_eq_false (by omega), decide_eq_false (by omega)]; rfl
  · have := hm h1
    have h3 : (9223372036854775807 : Int) / k ≥ 9223372036854775807 / 100000 := by
      have : 9223372036854775807 / (100000 : Int) * k ≤ 9223372036854775807 := by omega
      exact (Int.le_ediv_iff_mul_le (by omega)).mpr this
    intro hc
    have h4 : (9223372036854775807 : Int) / 100000 = 92233720368547 := rfl
    have : (2 ^ 63 - 1 : Int) = 9223372036854775807 := rfl
    rw [this] at hc
    omega
  · unfold Builtin.Str.tooLong
    rw [decide_eq_false]
    have := hm h1
    rw [sizeLine_eq]
    omega
  · by_cases h1 : k < 1
    · rw [if_pos h1]
      refine ⟨by decide, ⟨.str (repS a k.toNat), H, I.tok _, ⟨s.toks, ?_⟩, q⟩⟩
      have : k.toNat = 0 := by omega
      rw [this]
      rfl
    · rw [if_neg h1]
      by_cases h2 : (k == 1 || a.length == 0) = true
      · rw [if_pos h2]
        refine ⟨.str (repS a k.toNat), H, I, ⟨t, ?_⟩, q⟩
        have : repS a k.toNat = a := by
          unfold repS
          rw [Bool.or_eq_true, beq_iff_eq, beq_iff_eq] at h2
          rcases h2 with h2 | h2
          · subst h2
            simp
          · have : a.cps.toList = [] := List.eq_nil_of_length_eq_zero h2
            rw [this]
            obtain ⟨⟨l⟩⟩ := a
            simp only at this
            subst this
            simp
        rw [this]
      · rw [if_neg h2, repS_fold]
        refine ⟨?_, ⟨.str (repS a k.toNat), H, I.tok _, ⟨_, rfl⟩, q⟩⟩
        show (repS a k.toNat).cps.size ≤ _
        unfold repS
        rw [List.size_toArray, PyProof.Rows.lm_len_rep_flat, sizeLine_eq]
        have := hm h1
        have e : a.cps.toList.length = a.length := rfl
        rw [e, Nat.mul_comm]
        omega
def gRepS : G2
  | .str a, .int k => if (k ≤ 100000 ∧ -100000 ≤ k) ∧ a.length ≤ 100 then some (.str (repS a k.toNat), false) else none
  | _, _ => none
theorem sr_repS : SR2 K (fun x y H Q => ∃ a k, x = .str a ∧ y = .int k ∧ k ≤ 100000 ∧ -100000 ≤ k ∧ a.length ≤ 100 ∧ Q (.str (repS a k.toNat)) H) gRepS := by
  intro H M hm x y d e rx ry z fr q Q k
  unfold gRepS at q
  split at q
  · split at q
    · rename_i hc
      cases q
      exact ⟨_, _, rx.str_eq, ry.int_eq, hc.1.1, hc.1.2, hc.2, k _ H (Ex.refl H) (VOk.of (.str _))⟩
    · cases q
  · cases q
def gRepT : G2
  | .tuple ds, .int k => if ds.isEmpty = false ∧ (2 ≤ k ∧ k ≤ 1000) ∧ ds.length ≤ 1000 then some (.tuple (List.replicate k.toNat ds).flatten, false) else none
  | _, _ => none
theorem Pd.rep {α β : Type} {R : α → β → Prop} {xs : List α} {ys : List β} (p : Paired R xs ys) : ∀ n, Paired R (List.replicate n xs).flatten (List.replicate n ys).flatten
  | 0 => .nil
  | n + 1 => by
    rw [List.replicate_succ, List.replicate_succ, List.flatten_cons, List.flatten_cons]
    exact Pd.append p (Pd.rep p n)
theorem sr_repT : SR2 K (rRepT K) gRepT := by
  intro H M hm x y d e rx ry z fr q Q k
  unfold gRepT at q
  split at q
  · split at q
    · rename_i ds n hc
      cases q
      obtain ⟨a, xs, rfl, h1, p1⟩ := rx.tuple
      refine ⟨a, _, xs, rfl, ry.int_eq, cut_le.sqT h1, fun z => ?_, hc.2.1.1, hc.2.1.2, by rw [Pd.len p1]; exact hc.2.2, fun p hp => ?_⟩
      · subst z
        cases p1
        exact absurd hc.1 (by decide)
      · have hr : Paired (Rp K (cut H M)) (List.replicate n.toNat xs).flatten (List.replicate n.toNat ds).flatten := Pd.rep p1 _
        have nm : ¬ M p := fun z => hm p z hp
        have hle : Le (cut H M) (cut (upd H p (.tup (List.replicate n.toNat xs).flatten)) M) := le_cut fun b u e m => ⟨Ex.new hp b u e, m⟩
        refine k _ _ (Ex.new hp) (VOk.of (.tup (.inl (.inl ?_)) (Rp.monoA hle hr)))
        rw [cut_of nm, upd_same]
    · cases q
  · cases q
end
end Qp
end
section
set_option Elab.async false
set_option linter.all false
set_option maxRecDepth 100000
set_option maxHeartbeats 4000000
/-! Rb: a comprehension with two fors. -/
namespace Qp
open PySem PySem.Spec PyProof.Rows L2
theorem wipe_wipe {τ : St} {vs vs1 : List Nat} (h : ∀ j ∈ vs1, j ∈ vs) : wipe (wipe τ vs1) vs = wipe τ vs := by
  refine List.ext_getElem? fun j => ?_
  by_cases hj : j ∈ vs
  · rw [wipe_get _ j vs hj, wipe_get τ j vs hj, wipe_length]
  · rw [wipe_out hj, wipe_out hj, wipe_out fun z => hj (h j z)]
section
variable {X : Cx} {K : PySem.W.Frag} {wi wi1 : TI} {fi fi1 : IX} {g g1 : TG} {tgs tgs1 vs vs1 : List Nat} {fg fg1 : GX} {tt tt1 : TT} {ft ft1 : TX} {te : TE} {fe : EX}
def loopC2 (fg : GX) (ft : TX) (fi1 : IX) (fg1 : GX) (ft1 : TX) (fe : EX) (vs vs1 : List Nat) : List D → List D → En → Option (List D × En)
  | [], acc, cs => some (acc, cs)
  | x :: r, acc, cs => (fg x cs).bind fun c => (ft c).bind fun b => if b.1 = true then (fi1 b.2).bind fun s => if noOwn s.2 vs1 = true then (loopC fg1 ft1 fe vs1 s.1 acc (clr s.2 vs1)).bind fun z => if noOwn z.2 vs = true then loopC2 fg ft fi1 fg1 ft1 fe vs vs1 r z.1 (clr z.2 vs) else none else none
    else if noOwn b.2 vs = true then loopC2 fg ft fi1 fg1 ft1 fe vs vs1 r acc (clr b.2 vs) else none
def evLc2 (vs vs1 : List Nat) (fi : IX) (fg : GX) (ft : TX) (fi1 : IX) (fg1 : GX) (ft1 : TX) (fe : EX) : EX := fun cs => (fi cs).bind fun r => if noOwn r.2 vs = true then (loopC2 fg ft fi1 fg1 ft1 fe vs vs1 r.1 [] (clr r.2 vs)).bind fun z => some (.list z.1, true, rst z.2 r.2 vs) else none
theorem se_lc2 (hi : SI K wi fi) (hg : SG K g tgs fg) (ht : STt K tt ft) (hi1 : SI K wi1 fi1) (hg1 : SG K g1 tgs1 fg1) (ht1 : STt K tt1 ft1) (he : SE K te fe) (hv : ∀ j ∈ tgs, j ∈ vs) (hv1 : ∀ j ∈ tgs1, j ∈ vs1) (hvv : ∀ j ∈ vs1, j ∈ vs) :
    SE K (tLc2 wi g tt wi1 g1 tt1 te vs vs1) (evLc2 vs vs1 fi fg ft fi1 fg1 ft1 fe) := by
  intro B IO Z σ H cs ok d fr cs' e Q q
  unfold evLc2 at e
  obtain ⟨⟨items, c1⟩, e1, e⟩ := Option.bind_eq_some_iff.mp e
  dsimp only at e
  split at e
  · rename_i hn
    obtain ⟨⟨ds, c2⟩, e2, e⟩ := Option.bind_eq_some_iff.mp e
    cases e
    refine hi ok e1 _ fun J H1 p1 jok Dl hD => ?_
    have hB : B Dl = none := by
      cases z : B Dl with
      | none => rfl
      | some o => exact absurd hD (p1.ok.dom Dl (by rw [z]; exact fun z => nomatch z))
    have np : ¬ Z Dl := fun z => p1.ok.xin Dl z hD
    obtain ⟨ok1, le1⟩ := (p1.ok.wipe hn).newX (o := .lst []) hD
    rw [md_wipe hn] at le1
    have dom1 : ∀ a, H1 a ≠ none → upd H1 Dl (.lst []) a ≠ none := fun a h => (Ex.new hD).dom h
    have hz : ∀ a, Z a → XP Z Dl a := fun a h => .inl h
    refine ⟨fun i m H' => m = items.length - i ∧ i ≤ items.length ∧ ∃ (c : En) (acc : List D) (vals : List V), Ok K B IO (XP Z Dl) (L2.wipe σ vs) H' c ∧ Le (cut H1 (Md σ c1 Z)) (cut H' (Md (L2.wipe σ vs) c (XP Z Dl))) ∧ (∀ a, Z a → H' a = H1 a) ∧ (∀ a, H1 a ≠ none → H' a ≠ none) ∧
      H' Dl = some (.lst vals) ∧ Paired (Rp K (cut H' (Md (L2.wipe σ vs) c (XP Z Dl)))) vals acc ∧ loopC2 fg ft fi1 fg1 ft1 fe vs vs1 (items.drop i) acc c = some (ds, c2),
      ⟨_, rfl, Nat.zero_le _, clr c1 vs, [], [], ok1, le1, fun a h => upd_ne (fun z => np (by rw [← z]; exact h)), dom1, upd_same, .nil, by rw [List.drop_zero]; exact e2⟩, ?_⟩
    rintro i m H' ⟨rfl, hil, c, acc, vals, ok', le', keep', dom', hD', pa, el⟩
    obtain ⟨js, jg⟩ := jok H' _ ok'.md le' i
    by_cases hlt : i < items.length
    · have hd : items[i]? = some items[i] := List.getElem?_eq_getElem hlt
      obtain ⟨go, yl⟩ := jg _ hd
      rw [List.drop_eq_getElem_cons hlt] at el
      unfold loopC2 at el
      obtain ⟨c3, e3, el⟩ := Option.bind_eq_some_iff.mp el
      obtain ⟨⟨b, c4⟩, e4, el⟩ := Option.bind_eq_some_iff.mp el
      dsimp only at el
      refine .inr ⟨go, fun H' => ∃ (c : En) (acc : List D) (vals : List V), Ok K B IO (XP Z Dl) (L2.wipe σ vs) H' c ∧ Le (cut H1 (Md σ c1 Z)) (cut H' (Md (L2.wipe σ vs) c (XP Z Dl))) ∧ (∀ a, Z a → H' a = H1 a) ∧ (∀ a, H1 a ≠ none → H' a ≠ none) ∧
        H' Dl = some (.lst vals) ∧ Paired (Rp K (cut H' (Md (L2.wipe σ vs) c (XP Z Dl)))) vals acc ∧ loopC2 fg ft fi1 fg1 ft1 fe vs vs1 (items.drop (i + 1)) acc c = some (ds, c2), fun H3 ⟨c, acc, vals, h⟩ => ⟨items.length - (i + 1), by omega, rfl, hlt, c, acc, vals, h⟩, fun x H2 hy => ?_⟩
      obtain ⟨ex, rx⟩ := yl x H2 hy
      have p2 := ok'.ext ex
      refine hg p2.ok rx e3 _ fun σ3 H3 p3 ag => ⟨wipe_agr ag hv, ?_⟩
      have hw := wipe_agr ag hv
      refine ht p3.ok e4 _ fun H4 p4 => ?_
      have p234 := (p2.trans p3).trans p4
      cases b with
      | false =>
        refine iteF ?_
        simp only [Bool.false_eq_true, if_false] at el
        split at el
        · rename_i hn4
          have ok5 := p4.ok.wipe hn4
          rw [hw] at ok5
          have em : Md (L2.wipe σ vs) (clr c4 vs) (XP Z Dl) = Md σ3 c4 (XP Z Dl) := by rw [← hw]; exact md_wipe hn4
          exact ⟨clr c4 vs, acc, vals, ok5, by rw [em]; exact le'.trans p234.le, fun a h => (p234.keep a (hz a h)).trans (keep' a h), fun a h => p234.dom a (dom' a h), (p234.keep Dl (.inr rfl)).trans hD', by rw [em]; exact Rp.monoA p234.le pa, el⟩
        · cases el
      | true =>
        refine iteT ?_
        simp only [if_true] at el
        obtain ⟨⟨its, c5⟩, e5, el⟩ := Option.bind_eq_some_iff.mp el
        dsimp only at el
        split at el
        · rename_i hn5
          obtain ⟨⟨acc2, c6⟩, e6, el⟩ := Option.bind_eq_some_iff.mp el
          dsimp only at el
          split at el
          · rename_i hn6
            refine hi1 p4.ok e5 _ fun J1 H5 p5 j1ok => ?_
            have p25 := p234.trans p5
            have okw := p5.ok.wipe hn5
            have emw : Md (L2.wipe σ3 vs1) (clr c5 vs1) (XP Z Dl) = Md σ3 c5 (XP Z Dl) := md_wipe hn5
            refine ⟨fun j k H' => k = its.length - j ∧ j ≤ its.length ∧ ∃ (c : En) (acc : List D) (vals : List V), Ok K B IO (XP Z Dl) (L2.wipe σ3 vs1) H' c ∧ Le (cut H5 (Md σ3 c5 (XP Z Dl))) (cut H' (Md (L2.wipe σ3 vs1) c (XP Z Dl))) ∧ (∀ a, Z a → H' a = H1 a) ∧ (∀ a, H1 a ≠ none → H' a ≠ none) ∧
              H' Dl = some (.lst vals) ∧ Paired (Rp K (cut H' (Md (L2.wipe σ3 vs1) c (XP Z Dl)))) vals acc ∧ loopC fg1 ft1 fe vs1 (its.drop j) acc c = some (acc2, c6),
              ⟨_, rfl, Nat.zero_le _, clr c5 vs1, acc, vals, okw, by rw [emw]; exact Le.refl _, fun a h => (p25.keep a (hz a h)).trans (keep' a h), fun a h => p25.dom a (dom' a h), (p25.keep Dl (.inr rfl)).trans hD', by rw [emw]; exact Rp.monoA p25.le pa, by rw [List.drop_zero]; exact e6⟩, ?_⟩
            rintro j k H' ⟨rfl, hjl, c', acc', vals', ok6, le6, keep6, dom6, hD6, pa6, el6⟩
            obtain ⟨js1, jg1⟩ := j1ok H' _ ok6.md le6 j
            by_cases hlt1 : j < its.length
            · have hd1 : its[j]? = some its[j] := List.getElem?_eq_getElem hlt1
              obtain ⟨go1, yl1⟩ := jg1 _ hd1
              rw [List.drop_eq_getElem_cons hlt1] at el6
              unfold loopC at el6
              obtain ⟨c7, e7, el6⟩ := Option.bind_eq_some_iff.mp el6
              obtain ⟨⟨b, c8⟩, e8, el6⟩ := Option.bind_eq_some_iff.mp el6
              dsimp only at el6
              refine .inr ⟨go1, fun H' => ∃ (c : En) (acc : List D) (vals : List V), Ok K B IO (XP Z Dl) (L2.wipe σ3 vs1) H' c ∧ Le (cut H5 (Md σ3 c5 (XP Z Dl))) (cut H' (Md (L2.wipe σ3 vs1) c (XP Z Dl))) ∧ (∀ a, Z a → H' a = H1 a) ∧ (∀ a, H1 a ≠ none → H' a ≠ none) ∧
                H' Dl = some (.lst vals) ∧ Paired (Rp K (cut H' (Md (L2.wipe σ3 vs1) c (XP Z Dl)))) vals acc ∧ loopC fg1 ft1 fe vs1 (its.drop (j + 1)) acc c = some (acc2, c6), fun H3 ⟨c, acc, vals, h⟩ => ⟨its.length - (j + 1), by omega, rfl, hlt1, c, acc, vals, h⟩, fun x1 H7 hy1 => ?_⟩
              obtain ⟨ex1, rx1⟩ := yl1 x1 H7 hy1
              have p7 := ok6.ext ex1
              refine hg1 p7.ok rx1 e7 _ fun σ4 H8 p8 ag1 => ⟨wipe_agr ag1 hv1, ?_⟩
              have hw1 := wipe_agr ag1 hv1
              refine ht1 p8.ok e8 _ fun H9 p9 => ?_
              have p789 := (p7.trans p8).trans p9
              cases b with
              | false =>
                refine iteF ?_
                simp only [Bool.false_eq_true, if_false] at el6
                split at el6
                · rename_i hn8
                  have okA := p9.ok.wipe hn8
                  rw [hw1] at okA
                  have em : Md (L2.wipe σ3 vs1) (clr c8 vs1) (XP Z Dl) = Md σ4 c8 (XP Z Dl) := by rw [← hw1]; exact md_wipe hn8
                  exact ⟨clr c8 vs1, acc', vals', okA, by rw [em]; exact le6.trans p789.le, fun a h => (p789.keep a (hz a h)).trans (keep6 a h), fun a h => p789.dom a (dom6 a h), (p789.keep Dl (.inr rfl)).trans hD6, by rw [em]; exact Rp.monoA p789.le pa6, el6⟩
                · cases el6
              | true =>
                refine iteT ?_
                simp only [if_true] at el6
                obtain ⟨⟨z, fz, c9⟩, e9, el6⟩ := Option.bind_eq_some_iff.mp el6
                dsimp only at el6
                split at el6
                · rename_i hn9
                  rw [Bool.and_eq_true, decide_eq_true_eq] at hn9
                  refine he p9.ok e9 _ fun y HA w => ?_
                  have pA := p789.trans w.post
                  have okA := w.post.ok.wipe hn9.1
                  rw [hw1] at okA
                  have em : Md (L2.wipe σ3 vs1) (clr c9 vs1) (XP Z Dl) = Md σ4 c9 (XP Z Dl) := by rw [← hw1]; exact md_wipe hn9.1
                  have md : Md (L2.wipe σ3 vs1) (clr c9 vs1) (XP Z Dl) Dl := .inl (.inr rfl)
                  refine ⟨vals', (pA.keep Dl (.inr rfl)).trans hD6, by rw [Pd.len pa6]; exact lim_lt hn9.2, clr c9 vs1, acc' ++ [z], vals' ++ [y], okA.updX (.inr rfl) hB, ?_, fun a h => ?_, fun a h => ?_, upd_same, ?_, el6⟩
                  · rw [cut_updX md, em]
                    exact le6.trans pA.le
                  · rw [upd_ne (fun z => np (by rw [← z]; exact h))]
                    exact (pA.keep a (hz a h)).trans (keep6 a h)
                  · by_cases ea : a = Dl
                    · rw [ea, upd_same]; exact fun z => nomatch z
                    · rw [upd_ne ea]; exact pA.dom a (dom6 a h)
                  · rw [cut_updX md, em]
                    exact Pd.append (Rp.monoA pA.le pa6) (.cons w.rp .nil)
                · cases el6
            · have hj' : j = its.length := by omega
              subst hj'
              rw [List.drop_length] at el6
              cases el6
              refine .inl ⟨js1 rfl, ?_⟩
              have okF := ok6.wipe (vs := vs) hn6
              have emF : Md (L2.wipe (L2.wipe σ3 vs1) vs) (clr c6 vs) (XP Z Dl) = Md (L2.wipe σ3 vs1) c6 (XP Z Dl) := md_wipe hn6
              rw [wipe_wipe hvv, hw] at okF emF
              exact ⟨clr c6 vs, acc2, vals', okF, by rw [emF]; exact (le'.trans p25.le).trans le6, keep6, dom6, hD6, by rw [emF]; exact pa6, el⟩
          · cases el
        · cases el
    · have hi' : i = items.length := by omega
      subst hi'
      rw [List.drop_length] at el
      cases el
      refine .inl ⟨js (rfl), q _ H' ?_⟩
      have dat1 : ∀ (j : Nat) d, c1[j]? = some (.dat d) → ∃ v, σ[j]? = some (some v) ∧ Rp K (cut H' (Md (L2.wipe σ vs) c2 (XP Z Dl))) v d := fun j d hj => by
        obtain ⟨v, h1, h2⟩ := p1.ok.dat j d hj
        exact ⟨v, h1, h2.mono le'⟩
      refine ⟨Dl, rfl, ?_, ⟨ok'.restore hn dat1, by rw [md_rst hn]; exact p1.le.trans le', fun a h => (keep' a h).trans (p1.keep a h), fun a h => dom' a (p1.dom a h), np⟩, by rw [md_rst hn, hD']; exact .lst pa⟩
      cases z : H Dl with
      | none => rfl
      | some o => exact absurd hD (p1.dom Dl (by rw [z]; exact fun z => nomatch z))
  · cases e
end
end Qp
end
section
set_option Elab.async false
set_option linter.all false
set_option maxRecDepth 100000
set_option maxHeartbeats 4000000
/-! Rc: two fors in the text; constants of a module; comparisons in a chain; replace. -/
namespace Qp
open PySem PySem.Spec PyProof.Rows L2
def tiOf (K : PySem.W.Frag) (f : IX) : TI := fun σ H R => ∃ (B : Hp) (IO : List (Nat × Addr)) (Z : Addr → Prop) (cs : En) (items : List D) (cs' : En), Ok K B IO Z σ H cs ∧ f cs = some (items, cs') ∧ ∀ J H', Post K B IO Z σ H cs σ H' cs' → JOk K J (cut H' (Md σ cs' Z)) items → R J H'
theorem si_can {K : PySem.W.Frag} {f : IX} : SI K (tiOf K f) f := fun ok _ _ e _ q => ⟨_, _, _, _, _, _, ok, e, q⟩
theorem DI.can {X : Cx} {tg e : Expr} {wi : TI} {f : IX} (h : DI X tg e wi f) : PI X tg e (tiOf X.K f) := ⟨fun pins s σ H R I ⟨_, _, _, _, _, _, ok, e, q⟩ => h.pi.run pins s σ H R I (h.si ok e R q)⟩
section
variable {X : Cx} {tg elt iter tg1 iter1 : Expr} {ifs ifs1 : List Expr} {scope : Scope} {own : List (Str × Nat)} {pos spos : Pos} {wi : TI} {fi fi1 : IX} {tgs tgs1 vs vs1 : List Nat} {fg fg1 : GX} {ft ft1 : TX} {fe : EX}
theorem de_lc2 (hc : X.calm = true) (hN : X.N.Nodup) (hi : DI X tg iter wi fi) (ok : BlkOk X.N X.env.scope scope own)
    (hg : ∀ (s : Shared) (H : Hp) (C : Addr) (cl : List (Str × Addr)) (fp : List Addr), ∃ g, DG (X.blk s H scope (compEnvC scope cl C X.env) fp) tg g tgs fg) (ht : ∀ (s : Shared) (H : Hp) (C : Addr) (cl : List (Str × Addr)) (fp : List Addr), ∃ tt, DTs (X.blk s H scope (compEnvC scope cl C X.env) fp) ifs tt ft)
    (hi1 : ∀ (s : Shared) (H : Hp) (C : Addr) (cl : List (Str × Addr)) (fp : List Addr), ∃ wi1, DI (X.blk s H scope (compEnvC scope cl C X.env) fp) tg1 iter1 wi1 fi1)
    (hg1 : ∀ (s : Shared) (H : Hp) (C : Addr) (cl : List (Str × Addr)) (fp : List Addr), ∃ g, DG (X.blk s H scope (compEnvC scope cl C X.env) fp) tg1 g tgs1 fg1) (ht1 : ∀ (s : Shared) (H : Hp) (C : Addr) (cl : List (Str × Addr)) (fp : List Addr), ∃ tt, DTs (X.blk s H scope (compEnvC scope cl C X.env) fp) ifs1 tt ft1)
    (he : ∀ (s : Shared) (H : Hp) (C : Addr) (cl : List (Str × Addr)) (fp : List Addr), ∃ te, DE (X.blk s H scope (compEnvC scope cl C X.env) fp) elt te fe) (hvs : own.map (·.2) = vs := by rfl) (hv : ∀ j ∈ tgs, j ∈ vs := by decide) (hv1 : ∀ j ∈ tgs1, j ∈ vs1 := by decide) (hvv : ∀ j ∈ vs1, j ∈ vs := by decide)
    (hs : ∀ x, foldedSetIterable iter X.env x = pure x := by intro _; rfl) (hs1 : ∀ env x, foldedSetIterable iter1 env x = pure x := by intro _ _; rfl) :
    DE X (.ListComp elt [⟨tg, iter, ifs, 0⟩, ⟨tg1, iter1, ifs1, 0⟩] scope pos) (tLc2 wi (tgOf X.K tgs fg) (ttOf X.K ft) (tiOf X.K fi1) (tgOf X.K tgs1 fg1) (ttOf X.K ft1) (teOf X.K fe) (own.map (·.2)) vs1) (evLc2 vs vs1 fi fg ft fi1 fg1 ft1 fe) := by
  subst hvs
  exact ⟨pe_lc2 hc hN hi.pi ok hvv (fun s H C cl fp => (hg s H C cl fp).elim fun _ q => q.can) (fun s H C cl fp => (ht s H C cl fp).elim fun _ q => q.can) (fun s H C cl fp => (hi1 s H C cl fp).elim fun _ q => q.can)
    (fun s H C cl fp => (hg1 s H C cl fp).elim fun _ q => q.can) (fun s H C cl fp => (ht1 s H C cl fp).elim fun _ q => q.can) (fun s H C cl fp => (he s H C cl fp).elim fun _ q => q.can) hs hs1,
    se_lc2 hi.si sg_can st_can si_can sg_can st_can se_can hv hv1 hvv⟩
theorem ds_lc2 {i : Nat} {y : Str} {py : Pos} (hc : X.calm = true) (hN : X.N.Nodup) (hy : X.N[i]? = some y) (hyl : X.env.scope.names.lookup y = some .local) (hsw : swapsWith (.ListComp elt [⟨tg, iter, ifs, 0⟩, ⟨tg1, iter1, ifs1, 0⟩] scope pos) (some (.Name y py)) spos.line X.env = pure true)
    (hi : DI X tg iter wi fi) (ok : BlkOk X.N X.env.scope scope own)
    (hg : ∀ (s : Shared) (H : Hp) (C : Addr) (cl : List (Str × Addr)) (fp : List Addr), ∃ g, DG (X.blk s H scope (compEnvC scope cl C X.env) fp) tg g tgs fg) (ht : ∀ (s : Shared) (H : Hp) (C : Addr) (cl : List (Str × Addr)) (fp : List Addr), ∃ tt, DTs (X.blk s H scope (compEnvC scope cl C X.env) fp) ifs tt ft)
    (hi1 : ∀ (s : Shared) (H : Hp) (C : Addr) (cl : List (Str × Addr)) (fp : List Addr), ∃ wi1, DI (X.blk s H scope (compEnvC scope cl C X.env) fp) tg1 iter1 wi1 fi1)
    (hg1 : ∀ (s : Shared) (H : Hp) (C : Addr) (cl : List (Str × Addr)) (fp : List Addr), ∃ g, DG (X.blk s H scope (compEnvC scope cl C X.env) fp) tg1 g tgs1 fg1) (ht1 : ∀ (s : Shared) (H : Hp) (C : Addr) (cl : List (Str × Addr)) (fp : List Addr), ∃ tt, DTs (X.blk s H scope (compEnvC scope cl C X.env) fp) ifs1 tt ft1)
    (he : ∀ (s : Shared) (H : Hp) (C : Addr) (cl : List (Str × Addr)) (fp : List Addr), ∃ te, DE (X.blk s H scope (compEnvC scope cl C X.env) fp) elt te fe) (hvs : own.map (·.2) = vs := by rfl) (hv : ∀ j ∈ tgs, j ∈ vs := by decide) (hv1 : ∀ j ∈ tgs1, j ∈ vs1 := by decide) (hvv : ∀ j ∈ vs1, j ∈ vs := by decide)
    (hs : ∀ x, foldedSetIterable iter X.env x = pure x := by intro _; rfl) (hs1 : ∀ env x, foldedSetIterable iter1 env x = pure x := by intro _ _; rfl) :
    DS X (.Assign [.Name y py] (.ListComp elt [⟨tg, iter, ifs, 0⟩, ⟨tg1, iter1, ifs1, 0⟩] scope pos) spos) (tAsg (tLc2 wi (tgOf X.K tgs fg) (ttOf X.K ft) (tiOf X.K fi1) (tgOf X.K tgs1 fg1) (ttOf X.K ft1) (teOf X.K fe) (own.map (·.2)) vs1) (gName i)) (sAsg i (evLc2 vs vs1 fi fg ft fi1 fg1 ft1 fe)) := by
  subst hvs
  exact ⟨ps_setLc2 hc hN hy hyl hsw hi.pi ok hvv (fun s H C cl fp => (hg s H C cl fp).elim fun _ q => q.can) (fun s H C cl fp => (ht s H C cl fp).elim fun _ q => q.can) (fun s H C cl fp => (hi1 s H C cl fp).elim fun _ q => q.can)
    (fun s H C cl fp => (hg1 s H C cl fp).elim fun _ q => q.can) (fun s H C cl fp => (ht1 s H C cl fp).elim fun _ q => q.can) (fun s H C cl fp => (he s H C cl fp).elim fun _ q => q.can) hs hs1,
    ss_asg (se_lc2 hi.si sg_can st_can si_can sg_can st_can se_can hv hv1 hvv)⟩
end
section
variable {X : Cx} {K : PySem.W.Frag} {pos : Pos}
/-! ### a whole number of the module -/
theorem de_globI {x : Str} {i : Int} (hm : ∃ t, X.mg x = some (.int i t)) (hg : Gl X x) (hd : (x == ("__debug__" : Str)) = false := by decide) : DE X (.Name x pos) (tC (.int i)) (evC (.int i)) := by
  obtain ⟨t, hm⟩ := hm
  exact de_glob hg hm ⟨t, rfl⟩ (fun _ => .int i) hd
/-! ### a < b < c -/
def evChain (g g' : G2) (fa fb fc : EX) : EX := fun cs => (fa cs).bind fun r => (fb r.2.2).bind fun s => (g r.1 s.1).bind fun z => match z.1, z.2 with
  | .bool true, false => (fc s.2.2).bind fun u => (g' s.1 u.1).bind fun y => some (y.1, y.2, u.2.2)
  | .bool false, false => some (.bool false, false, s.2.2)
  | _, _ => none
variable {a b c : Expr} {ta tb tc : TE} {fa fb fc : EX}
theorem se_chain {r r' : R2} {g g' : G2} (ha : SE K ta fa) (hb : SE K tb fb) (hc : SE K tc fc) (hr : SR2 K r g) (hr' : SR2 K r' g') : SE K (tChain r r' ta tb tc) (evChain g g' fa fb fc) := by
  intro B IO Z σ H cs ok d fr cs' e Q q
  unfold evChain at e
  obtain ⟨⟨d1, f1, c1⟩, e1, e⟩ := Option.bind_eq_some_iff.mp e
  obtain ⟨⟨d2, f2, c2⟩, e2, e⟩ := Option.bind_eq_some_iff.mp e
  obtain ⟨⟨z, fz⟩, e3, e⟩ := Option.bind_eq_some_iff.mp e
  refine ha ok e1 _ fun x H1 w1 => hb w1.post.ok e2 _ fun y H2 w2 => ?_
  have w12 := w1.post.trans w2.post
  dsimp only at e
  split at e
  · obtain ⟨⟨d4, f4, c4⟩, e4, e⟩ := Option.bind_eq_some_iff.mp e
    obtain ⟨⟨z5, f5⟩, e5, e⟩ := Option.bind_eq_some_iff.mp e
    cases e
    refine hr w2.post.ok.md (w1.rp.mono w2.post.le) w2.rp e3 _ fun v H3 x3 v3 => ⟨true, Rp.bool_eq v3, ?_⟩
    refine iteT ?_
    have p3 := w2.post.ok.ext x3
    refine hc p3.ok e4 _ fun w' H4 w4 => ?_
    refine hr' w4.post.ok.md (w2.rp.mono (p3.le.trans w4.post.le)) w4.rp e5 Q fun v5 H5 x5 q5 => ?_
    exact q v5 H5 (.of ((w12.trans p3).trans w4.post) x5 q5)
  · cases e
    refine hr w2.post.ok.md (w1.rp.mono w2.post.le) w2.rp e3 _ fun v H3 x3 v3 => ⟨false, Rp.bool_eq v3, ?_⟩
    refine iteF ?_
    have p3 := w2.post.ok.ext x3
    exact q _ H3 (.dat (w12.trans p3) (.bl false))
  · cases e
theorem de_chain {op op' : CmpOp} {r r' : R2} {g g' : G2} (ho : OpR X (compareOp op) r) (hr : SR2 X.K r g) (ho' : OpR X (compareOp op') r') (hr' : SR2 X.K r' g') (ha : DE X a ta fa) (hb : DE X b tb fb) (hc : DE X c tc fc)
    (hm : lastMarks [op, op'] [b, c] = false := by with_unfolding_all rfl) : DE X (.Compare a [op, op'] [b, c] pos) (tChain r r' ta tb tc) (evChain g g' fa fb fc) := ⟨pe_chain ho ho' ha.pe hb.pe hc.pe hm, se_chain ha.se hb.se hc.se hr hr'⟩
theorem dt_chain {op op' : CmpOp} {r r' : R2} {g g' : G2} (ho : OpR X (compareOp op) r) (hr : SR2 X.K r g) (ho' : OpR X (compareOp op') r') (hr' : SR2 X.K r' g') (ha : DE X a ta fa) (hb : DE X b tb fb) (hc : DE X c tc fc)
    (hm : lastMarks [op, op'] [b, c] = false := by with_unfolding_all rfl) : DT X (.Compare a [op, op'] [b, c] pos) (tTest (tChain r r' ta tb tc)) (evT (evChain g g' fa fb fc)) := ⟨pt_chain ho ho' ha.pe hb.pe hc.pe hm, st_test (se_chain ha.se hb.se hc.se hr hr')⟩
/-! ### 'c' + x.replace(y, z) -/
def gRepl (y z : Str) : G1
  | .str x => if x.length + (x.length + 1) * z.length ≤ 10000000 then some (.str (Txt.replace x y z), false) else none
  | _ => none
theorem se_repl {to : TE} {fo : EX} {y z : Str} (ho : SE K to fo) : SE K (CwR.tReplC to y z) (ev1 (gRepl y z) fo) := by
  intro B IO Z σ H cs ok d fr cs' e Q q
  unfold ev1 at e
  obtain ⟨⟨d1, f1, c1⟩, e1, e⟩ := Option.bind_eq_some_iff.mp e
  obtain ⟨⟨w, fz⟩, e3, e⟩ := Option.bind_eq_some_iff.mp e
  cases e
  unfold gRepl at e3
  dsimp only at e3
  split at e3
  · split at e3
    · rename_i hl
      cases e3
      refine ho ok e1 _ fun x H1 w1 => ⟨_, w1.rp.str_eq, Nat.le_trans hl (by decide), ?_⟩
      exact q _ H1 (.dat w1.post (.str _))
    · cases e3
  · cases e3
theorem de_addRepl {o : Expr} {to : TE} {fo : EX} {s y z : Str} {l j k : Nat} {cpos c0 c1 apos rpos : Pos} (ho : DE X o to fo) (hyz : (y == z) = false := by decide)
    (hst : starEach [.Constant (.str y) j c0, .Constant (.str z) k c1] X.env = [(false, eval (.Constant (.str y) j c0) X.env), (false, eval (.Constant (.str z) k c1) X.env)] := by rfl)
    (hbase : attributeBase o "replace" X.env (eval o X.env) = eval o X.env := by rfl) (hline : (apos.endLine == rpos.line) = true := by rfl) :
    DE X (.BinOp (.Constant (.str s) l cpos) .Add (.Call (.Attribute o "replace" apos) [.Constant (.str y) j c0, .Constant (.str z) k c1] [] rpos) pos) (tOp (rAddD X.K) (tC (.str s)) (CwR.tReplC to y z)) (ev2 gAdd (evC (.str s)) (ev1 (gRepl y z) fo)) := by
  refine ⟨⟨fun pins sh σ H Q I h => ?_⟩, se_2 (se_c fun _ => .str s) (se_repl ho.se) sw_add.two⟩
  refine wpAny_BinOp (Calls.Constant_str ?_)
  have I1 := I.tok (sh.toks + 1)
  exact thn (CwR.pet_replC ho.pe hyz hst hbase hline pins _ σ H (fun y H2 => rAddD X.K (.str s) y H2 Q) (by show 1 ≤ sh.toks + 1; omega) I1 h) fun u s2 ⟨y, H2, I2, r2, q2⟩ => op_addD pins s2 σ H2 (.str s) y _ u Q I2 ⟨_, rfl⟩ r2 q2
end
end Qp
end
section
set_option Elab.async false
set_option linter.all false
set_option maxRecDepth 100000
set_option maxHeartbeats 4000000
/-! Rd: == where one side is not deep; how the codes of Ra .. Rc are reckoned. -/
namespace Qp
open PySem PySem.Spec PyProof.Rows L2
section
variable {X : Cx} {K : PySem.W.Frag}
def eqvM (d e : D) : Bool := d.canLay0 && e.canLay0 && decide (min d.depth e.depth ≤ 64)
theorem op_eqM (hu : X.A.units + 64 < cLine) : OpR X (compareOp .Eq) (fun x y H Q => ∃ d e, Dp X.K H x d ∧ Dp X.K H y e ∧ eqvM d e = true ∧ Q (.bl (PyData.eqv d e)) H) := by
  intro pins s σ H x y v u Q I rx ry h
  obtain ⟨d, e, hd, he, c, q⟩ := h
  obtain ⟨as, r1⟩ := Dp.reads I d x v hd rx
  obtain ⟨bs, r2⟩ := Dp.reads I e y u he ry
  unfold eqvM at c
  rw [Bool.and_eq_true, Bool.and_eq_true, decide_eq_true_eq] at c
  exact SeqAt.compareEq_reads r1 r2 c.1.1 c.1.2 (by omega) ⟨.bl _, H, I, rfl, q⟩
def gEqM : G2 := fun d e => if eqvM d e = true then some (.bool (PyData.eqv d e), false) else none
theorem sw_eqM : SRw K (fun x y H Q => ∃ d e, Dp K H x d ∧ Dp K H y e ∧ eqvM d e = true ∧ Q (.bl (PyData.eqv d e)) H) gEqM := by
  intro H M hm x y d e rx ry z fr q Q k
  unfold gEqM at q
  split at q
  · rename_i c
    cases q
    have c' := c
    unfold eqvM at c'
    rw [Bool.and_eq_true, Bool.and_eq_true] at c'
    exact ⟨d, e, dp_of rx.rpH (Le.refl H) c'.1.1, dp_of ry cut_le c'.1.2, c, k _ H (Ex.refl H) (VOk.of (.bl _))⟩
  · cases q
theorem gEqM_e {ds : List D} (h : PyData.canLayAll0 ds = true) : gEqM (.tuple ds) (.tuple []) = some (.bool ds.isEmpty, false) := by
  unfold gEqM
  have c : eqvM (.tuple ds) (.tuple []) = true := by
    unfold eqvM
    have h1 : PyData.canLay0 (.tuple ds) = true := by simpa [PyData.canLay0] using h
    have h2 : PyData.depth (.tuple []) = 1 := rfl
    rw [h1, h2]
    have : min (PyData.depth (.tuple ds)) 1 ≤ 64 := Nat.le_trans (Nat.min_le_right _ _) (by decide)
    rw [decide_eq_true this]
    rfl
  rw [if_pos c]
  cases ds with
  | nil => rfl
  | cons a b => rfl
end
/-! ### rules -/
section
variable {d x y z : D} {fr f1 b : Bool} {c cs c1 : En} {i n m : Nat} {f fa fb fc fe fi fk : EX} {g g' : G2} {u : G1} {G : GA} {fs : AX} {t s : TX} {xs ds zs : List D} {gt gt1 : GX}
def kPop0 (i : Nat) (cs : En) (o : Option Cell) : OE := match o with
  | some (.own (.list ds)) => kPop .own i cs ds
  | some (.io (.list ds)) => kPop .io i cs ds
  | _ => none
@[simp] theorem evPop_ap : evPop i cs = kPop0 i cs cs[i]? := by
  unfold evPop kPop0
  rfl
@[simp] theorem kPop0_o : kPop0 i cs (some (.own (.list ds))) = kPop .own i cs ds := rfl
@[simp] theorem kPop0_i : kPop0 i cs (some (.io (.list ds))) = kPop .io i cs ds := rfl
theorem kPop_of {k : D → Cell} (h : ds[ds.length - 1]? = some d) : kPop k i cs ds = some (d, false, cs.set i (k (.list ds.dropLast))) := by
  unfold kPop
  rw [h]
  rfl
theorem kPop_app {k : D → Cell} : kPop k i cs (ds ++ [d]) = some (d, false, cs.set i (k (.list ds))) := by
  rw [kPop_of (d := d) (by simp)]
  simp
def kCh3 (o : Option (D × Bool)) (c : En) : OE := o.bind fun y => some (y.1, y.2, c)
def kCh2 (g' : G2) (y : D) (o : OE) : OE := o.bind fun u => kCh3 (g' y u.1) u.2.2
def kCh1 (g' : G2) (fc : EX) (y : D) (c : En) (o : Option (D × Bool)) : OE := o.bind fun z => match z.1, z.2 with
  | .bool true, false => kCh2 g' y (fc c)
  | .bool false, false => some (.bool false, false, c)
  | _, _ => none
def kChb (g g' : G2) (fc : EX) (x : D) (o : OE) : OE := o.bind fun s => kCh1 g' fc s.1 s.2.2 (g x s.1)
def kCha (g g' : G2) (fb fc : EX) (o : OE) : OE := o.bind fun r => kChb g g' fc r.1 (fb r.2.2)
@[simp] theorem evChain_ap : evChain g g' fa fb fc cs = kCha g g' fb fc (fa cs) := by
  unfold evChain kCha kChb kCh1 kCh2 kCh3
  rfl
@[simp] theorem kCha_s : kCha g g' fb fc (some (x, f1, c)) = kChb g g' fc x (fb c) := rfl
@[simp] theorem kChb_s : kChb g g' fc x (some (y, f1, c)) = kCh1 g' fc y c (g x y) := rfl
@[simp] theorem kCh1_t : kCh1 g' fc y c (some (.bool true, false)) = kCh2 g' y (fc c) := rfl
@[simp] theorem kCh1_f : kCh1 g' fc y c (some (.bool false, false)) = some (.bool false, false, c) := rfl
@[simp] theorem kCh2_s : kCh2 g' y (some (z, f1, c)) = kCh3 (g' y z) c := rfl
@[simp] theorem kCh3_s : kCh3 (some (z, fr)) c = some (z, fr, c) := rfl
def kLc22 (vs : List Nat) (c : En) (o : Option (List D × En)) : OE := o.bind fun z => some (.list z.1, true, rst z.2 c vs)
def kLc21 (fg : GX) (ft : TX) (fi1 : IX) (fg1 : GX) (ft1 : TX) (fe : EX) (vs vs1 : List Nat) (o : Option (List D × En)) : OE := o.bind fun r => if noOwn r.2 vs = true then kLc22 vs r.2 (loopC2 fg ft fi1 fg1 ft1 fe vs vs1 r.1 [] (clr r.2 vs)) else none
@[simp] theorem evLc2_ap {vs vs1 : List Nat} {fx fi1 : IX} : evLc2 vs vs1 fx gt t fi1 gt1 s fe cs = kLc21 gt t fi1 gt1 s fe vs vs1 (fx cs) := rfl
theorem kLc21_s {vs vs1 : List Nat} {fi1 : IX} (h : noOwn c vs = true) : kLc21 gt t fi1 gt1 s fe vs vs1 (some (xs, c)) = kLc22 vs c (loopC2 gt t fi1 gt1 s fe vs vs1 xs [] (clr c vs)) := by
  show (if noOwn c vs = true then _ else _) = _
  rw [if_pos h]
@[simp] theorem kLc22_s {vs : List Nat} : kLc22 vs c (some (xs, c1)) = some (.list xs, true, rst c1 c vs) := rfl
theorem loopC2_cons {fi1 : IX} {vs vs1 : List Nat} {acc acc2 its : List D} {c2 c3 c4 : En} (h1 : gt x cs = some c1) (h2 : t c1 = some (true, c2)) (h3 : fi1 c2 = some (its, c3)) (h4 : noOwn c3 vs1 = true) (h5 : loopC gt1 s fe vs1 its acc (clr c3 vs1) = some (acc2, c4)) (h6 : noOwn c4 vs = true) :
    loopC2 gt t fi1 gt1 s fe vs vs1 (x :: xs) acc cs = loopC2 gt t fi1 gt1 s fe vs vs1 xs acc2 (clr c4 vs) := by
  show ((gt x cs).bind fun c => (t c).bind fun b => _) = _
  rw [h1, Option.bind_some, h2, Option.bind_some, if_pos rfl, h3, Option.bind_some, if_pos h4, h5, Option.bind_some, if_pos h6]
theorem gSplit_of {a b : Str} (h : (b.length == 0) = false) (h2 : a.length ≤ LIMS) : gSplit (.str a) (.str b) = some (.list ((Txt.split a b).map .str), true) := by
  show (if (b.length == 0) = false ∧ a.length ≤ LIMS then _ else _) = _
  rw [if_pos ⟨h, h2⟩]
theorem gLower_of {a : Str} (h2 : a.length ≤ LIMS) : gLower (.str a) = some (.str (Txt.lower a), false) := by
  show (if a.length ≤ LIMS then _ else _) = _
  rw [if_pos h2]
theorem gRepl_of {y z a : Str} (h2 : a.length + (a.length + 1) * z.length ≤ 10000000) : gRepl y z (.str a) = some (.str (Txt.replace a y z), false) := by
  show (if a.length + (a.length + 1) * z.length ≤ 10000000 then _ else _) = _
  rw [if_pos h2]
theorem gRepS_of {a : Str} {k : Int} (h : k ≤ 100000 ∧ -100000 ≤ k) (h2 : a.length ≤ 100) : gRepS (.str a) (.int k) = some (.str (repS a k.toNat), false) := by
  show (if (k ≤ 100000 ∧ -100000 ≤ k) ∧ a.length ≤ 100 then _ else _) = _
  rw [if_pos ⟨h, h2⟩]
theorem gRepT_of {k : Int} (h0 : ds.isEmpty = false) (h : 2 ≤ k ∧ k ≤ 1000) (h2 : ds.length ≤ 1000) : gRepT (.tuple ds) (.int k) = some (.tuple (List.replicate k.toNat ds).flatten, false) := by
  show (if ds.isEmpty = false ∧ (2 ≤ k ∧ k ≤ 1000) ∧ ds.length ≤ 1000 then _ else _) = _
  rw [if_pos ⟨h0, h, h2⟩]
end
end Qp
end
section
set_option Elab.async false
set_option linter.all false
set_option maxRecDepth 100000
namespace My
open PySem PySem.Spec PyProof.Rows L2 Qp
/-! the text -/
def top (i : Nat) : Stmt := PySem.Challenge.pw_quillproof_k25_values.main.body.getD i (.Pass ⟨0, 0, 0, 0⟩)
abbrev s_is_number : Stmt := top 4
abbrev N_is_number : List Str := ["value"]
theorem sc_is_number : FnScope N_is_number ["value"] (defScope s_is_number) := ⟨rfl, rfl, rfl, by decide +kernel, rfl, by decide +kernel, by decide +kernel⟩
abbrev s_members : Stmt := top 5
abbrev N_members : List Str := ["value"]
theorem sc_members : FnScope N_members ["value"] (defScope s_members) := ⟨rfl, rfl, rfl, by decide +kernel, rfl, by decide +kernel, by decide +kernel⟩
abbrev s_same : Stmt := top 6
abbrev N_same : List Str := ["first", "second", "one", "other"]
theorem sc_same : FnScope N_same ["first", "second"] (defScope s_same) := ⟨rfl, rfl, rfl, by decide +kernel, rfl, by decide +kernel, by decide +kernel⟩
abbrev s_size : Stmt := top 7
abbrev N_size : List Str := ["value", "total", "left", "current"]
theorem sc_size : FnScope N_size ["value"] (defScope s_size) := ⟨rfl, rfl, rfl, by decide +kernel, rfl, by decide +kernel, by decide +kernel⟩
abbrev s_depth : Stmt := top 8
abbrev N_depth : List Str := ["value", "levels", "current", "each", "member"]
theorem sc_depth : FnScope N_depth ["value"] (defScope s_depth) := ⟨rfl, rfl, rfl, by decide +kernel, rfl, by decide +kernel, by decide +kernel⟩
abbrev s_is_large : Stmt := top 9
abbrev N_is_large : List Str := ["value"]
theorem sc_is_large : FnScope N_is_large ["value"] (defScope s_is_large) := ⟨rfl, rfl, rfl, by decide +kernel, rfl, by decide +kernel, by decide +kernel⟩
abbrev s_write_value : Stmt := top 10
abbrev N_write_value : List Str := ["value", "inner", "member"]
theorem sc_write_value : FnScope N_write_value ["value"] (defScope s_write_value) := ⟨rfl, rfl, rfl, by decide +kernel, rfl, by decide +kernel, by decide +kernel⟩
abbrev s__law_next : Stmt := top 12
abbrev N__law_next : List Str := ["state", "limit", "cell", "value"]
theorem sc__law_next : FnScope N__law_next ["state", "limit"] (defScope s__law_next) := ⟨rfl, rfl, rfl, by decide +kernel, rfl, by decide +kernel, by decide +kernel⟩
abbrev s__law_same : Stmt := top 13
abbrev N__law_same : List Str := ["actual", "expected", "k"]
theorem sc__law_same : FnScope N__law_same ["actual", "expected"] (defScope s__law_same) := ⟨rfl, rfl, rfl, by decide +kernel, rfl, by decide +kernel, by decide +kernel⟩
abbrev s__law_char : Stmt := top 14
abbrev N__law_char : List Str := ["index", "chars"]
theorem sc__law_char : FnScope N__law_char ["index"] (defScope s__law_char) := ⟨rfl, rfl, rfl, by decide +kernel, rfl, by decide +kernel, by decide +kernel⟩
abbrev s__law_scalar : Stmt := top 15
abbrev N__law_scalar : List Str := ["state", "pick", "k"]
theorem sc__law_scalar : FnScope N__law_scalar ["state"] (defScope s__law_scalar) := ⟨rfl, rfl, rfl, by decide +kernel, rfl, by decide +kernel, by decide +kernel⟩
abbrev s__law_value : Stmt := top 16
abbrev N__law_value : List Str := ["state", "levels", "pick", "items", "k"]
theorem sc__law_value : FnScope N__law_value ["state", "levels"] (defScope s__law_value) := ⟨rfl, rfl, rfl, by decide +kernel, rfl, by decide +kernel, by decide +kernel⟩
abbrev s__law_great : Stmt := top 17
abbrev N__law_great : List Str := ["state", "pick", "value", "k"]
theorem sc__law_great : FnScope N__law_great ["state"] (defScope s__law_great) := ⟨rfl, rfl, rfl, by decide +kernel, rfl, by decide +kernel, by decide +kernel⟩
abbrev s__law_turned : Stmt := top 18
abbrev N__law_turned : List Str := ["state", "value", "parts", "pick", "place"]
theorem sc__law_turned : FnScope N__law_turned ["state", "value"] (defScope s__law_turned) := ⟨rfl, rfl, rfl, by decide +kernel, rfl, by decide +kernel, by decide +kernel⟩
abbrev s__law_parts : Stmt := top 19
abbrev N__law_parts : List Str := ["value"]
theorem sc__law_parts : FnScope N__law_parts ["value"] (defScope s__law_parts) := ⟨rfl, rfl, rfl, by decide +kernel, rfl, by decide +kernel, by decide +kernel⟩
abbrev s__law_size : Stmt := top 20
abbrev N__law_size : List Str := ["value", "total", "part"]
theorem sc__law_size : FnScope N__law_size ["value"] (defScope s__law_size) := ⟨rfl, rfl, rfl, by decide +kernel, rfl, by decide +kernel, by decide +kernel⟩
abbrev s__law_depth : Stmt := top 21
abbrev N__law_depth : List Str := ["value", "deepest", "part"]
theorem sc__law_depth : FnScope N__law_depth ["value"] (defScope s__law_depth) := ⟨rfl, rfl, rfl, by decide +kernel, rfl, by decide +kernel, by decide +kernel⟩
abbrev s__law_written : Stmt := top 22
abbrev N__law_written : List Str := ["value", "inner", "part"]
theorem sc__law_written : FnScope N__law_written ["value"] (defScope s__law_written) := ⟨rfl, rfl, rfl, by decide +kernel, rfl, by decide +kernel, by decide +kernel⟩
abbrev s__law_told : Stmt := top 23
abbrev N__law_told : List Str := ["value", "large"]
theorem sc__law_told : FnScope N__law_told ["value"] (defScope s__law_told) := ⟨rfl, rfl, rfl, by decide +kernel, rfl, by decide +kernel, by decide +kernel⟩
abbrev s_law : Stmt := top 24
abbrev N_law : List Str := ["script", "state", "first", "second", "pick", "alike"]
theorem sc_law : FnScope N_law ["script"] (defScope s_law) := ⟨rfl, rfl, rfl, by decide +kernel, rfl, by decide +kernel, by decide +kernel⟩
/-! what the defs say -/
def b_is_number : SX := sRet (evAndV (evIsiV "int" 0) (evNotV (evIsiV "bool" 0)))
def F_is_number : GA := runP 1 0 b_is_number
def b_members : SX := sSeq (sIf (evT (evIsiV "tuple" 0)) (sRet (evIxV gIx 0 (ev1 gNeg (evC (.int 1))))) (sNx))
  (sRet (evA gTupD (evNil)))
def F_members : GA := runP 1 0 b_members
def b__law_next : SX := sSeq (sIf (evAndT (evT (ev2 gEq (evIxV gIx 0 (evC (.int 2))) (evC (.int 0)))) (evT (ev2 gLt (evIxV gIx 0 (evC (.int 1))) (evA (gOne gLen) (evCons (evIxV gIx 0 (evC (.int 0))) (evNil)))))) (sSeq (sAsg 2 (ev2 gIx (evIxV gIx 0 (evC (.int 0))) (evIxV gIx 0 (evC (.int 1)))))
  (sSeq (sAugIx gAddI 0 (evC (.int 1)) (evC (.int 1)))
  (sIf (evT (ev2 gGe (evVar 2) (ev2 gPow (evC (.int 10)) (evC (.int 18))))) (sSet 0 (evC (.int 2)) (evVar 2)) (sSet 0 (evC (.int 3)) (ev2 gMod (evA gInt (evCons (ev2 gAdd (ev2 gAdd (ev2 gMul (evIxV gIx 0 (evC (.int 3))) (evC (.int 48271))) (ev2 gMod (evA gInt (evCons (evVar 2) (evNil))) (evC (.int 2147483647)))) (evC (.int 7))) (evNil))) (evC (.int 2147483647))))))) (sNx))
  (sSeq (sIf (evT (ev2 gGt (evIxV gIx 0 (evC (.int 2))) (evC (.int 0)))) (sSeq (sAsg 3 (ev2 gMod (evA gInt (evCons (evIxV gIx 0 (evC (.int 2))) (evNil))) (evVar 1)))
  (sSeq (sSet 0 (evC (.int 2)) (ev2 gFdivW (evIxV gIx 0 (evC (.int 2))) (evVar 1)))
  (sRet (evVar 3)))) (sNx))
  (sSeq (sSet 0 (evC (.int 3)) (ev2 gMod (evA gInt (evCons (ev2 gAdd (ev2 gMul (evIxV gIx 0 (evC (.int 3))) (evC (.int 69621))) (evC (.int 12345))) (evNil))) (evC (.int 2147483647))))
  (sRet (ev2 gMod (evA gInt (evCons (ev2 gFdivW (evIxV gIx 0 (evC (.int 3))) (evC (.int 7))) (evNil))) (evVar 1)))))
def F__law_next : GI := runI 2 2 b__law_next
def b__law_char : SX := sSeq (sAsg 1 (evC (.str " '!\"#$&()*+,-./0123456789:;<=>?@ABCDEFGHIJKLMNOPQRSTUVWXYZ[\\]^_`")))
  (sSeq (sAsg 1 (evIxV gAdd 1 (evC (.str "abcdefghijklmnopqrstuvwxyz{|}~\n"))))
  (sRet (evIxV gIx 1 (ev2 gMod (evA gInt (evCons (evVar 0) (evNil))) (evC (.int 95))))))
def F__law_char : GA := runP 1 1 b__law_char
def b__law_parts : SX := sSeq (sIf (evT (evIsiV "tuple" 0)) (sRet (evIxV gIx 0 (ev2 gSub (evV1 gLen 0) (evC (.int 1))))) (sNx))
  (sRet (evA gTupD (evNil)))
def F__law_parts : GA := runP 1 0 b__law_parts
def W_size_1 : TX := evT (ev2 gGt (evV1 gLen 2) (evC (.int 0)))
def L_size_2 : SX := sSeq (sAsg 3 (evPop 2))
  (sSeq (sAug gAddI 1 (evC (.int 1)))
  (sSeq (sIf (evT (evIsiV "str" 3)) (sAug gAddI 1 (evV1 gLen 3)) (sNx))
  (sDrop (evExA 2 (evA (gN 1 (F_members)) (evCons (evVar 3) (evNil)))))))
def b_size : SX := sSeq (sAsg 1 (evC (.int 0)))
  (sSeq (sAsg 2 (evA gLstD (evCons (evVar 0) (evNil))))
  (sSeq (loopW (W_size_1) (L_size_2) 3000)
  (sRet (evVar 1))))
def F_size : GA := runP 1 3 b_size
def J_depth_1 : IX := ixSeq (evA (gN 1 (F_members)) (evCons (evVar 3) (evNil)))
def C_depth_2 : EX := evVar 4
def W_depth_3 : TX := evT (ev2 gGt (evV1 gLen 2) (evC (.int 0)))
def L_depth_4 : SX := sSeq (sAug gAddI 1 (evC (.int 1)))
  (sAsg 2 (evLc2 [3, 4] [4] (ixSeq (evVar 2)) (gx 3) (evYes) (J_depth_1) (gx 4) (evYes) (C_depth_2)))
def b_depth : SX := sSeq (sAsg 1 (evC (.int 0)))
  (sSeq (sAsg 2 (evA gLstD (evCons (evVar 0) (evNil))))
  (sSeq (loopW (W_depth_3) (L_depth_4) 3000)
  (sRet (evVar 1))))
def F_depth : GA := runP 1 4 b_depth
def C__law_scalar_1 : EX := evA (gN 1 (F__law_char)) (evCons (evCI 2 (F__law_next) 0 (evCons (evC (.int 95)) (evNil))) (evNil))
def b__law_scalar : SX := sSeq (sAsg 1 (evCI 2 (F__law_next) 0 (evCons (evC (.int 7)) (evNil))))
  (sSeq (sIf (evT (ev2 gLt (evVar 1) (evC (.int 2)))) (sRet (ev2 gIx (evA gLstD (evCons (evC (.bool true)) (evCons (evC (.bool false)) (evNil)))) (evVar 1))) (sNx))
  (sSeq (sIf (evT (evIxV gEq 1 (evC (.int 2)))) (sRet (evCI 2 (F__law_next) 0 (evCons (evC (.int 3)) (evNil)))) (sNx))
  (sSeq (sIf (evT (evIxV gEq 1 (evC (.int 3)))) (sRet (ev2 gMul (ev2 gSub (evC (.int 1)) (ev2 gMul (evC (.int 2)) (evCI 2 (F__law_next) 0 (evCons (evC (.int 2)) (evNil))))) (evCI 2 (F__law_next) 0 (evCons (ev2 gIx (evA gLstD (evCons (evC (.int 10)) (evCons (ev2 gPow (evC (.int 2)) (evC (.int 60))) (evCons (ev2 gMul (ev2 gPow (evC (.int 2)) (evC (.int 50))) (ev2 gPow (evC (.int 2)) (evC (.int 50)))) (evNil))))) (evCI 2 (F__law_next) 0 (evCons (evC (.int 3)) (evNil)))) (evNil))))) (sNx))
  (sRet (evJoin (evC (.str "")) (evLc [2] (ixR1 (evCons (evCI 2 (F__law_next) 0 (evCons (evC (.int 4)) (evNil))) (evNil))) (gx 2) (evYes) (C__law_scalar_1)))))))
def F__law_scalar : GI := runI 1 2 b__law_scalar
def C__law_great_1 : EX := evCI 2 (F__law_next) 0 (evCons (evC (.int 2)) (evNil))
def C__law_great_2 : EX := evA gTupD (evCons (evC (.str "list")) (evCons (ev2 gRepT (evA gTupD (evCons (evC (.str "ab")) (evNil))) (evC (.int 110))) (evNil)))
def L__law_great_3 : SX := sAsg 2 (ev2 gIx (evA gLstD (evCons (evA gTupD (evCons (evC (.str "list")) (evCons (evA gTupD (evCons (evVar 2) (evNil))) (evNil)))) (evCons (evA gTupD (evCons (evC (.str "make")) (evCons (evC (.str "N")) (evCons (evA gTupD (evCons (evVar 2) (evNil))) (evNil))))) (evNil)))) (evCI 2 (F__law_next) 0 (evCons (evC (.int 2)) (evNil))))
def b__law_great : SX := sSeq (sAsg 1 (evCI 2 (F__law_next) 0 (evCons (evC (.int 5)) (evNil))))
  (sSeq (sIf (evT (evIxV gEq 1 (evC (.int 0)))) (sRet (ev2 gMul (ev2 gSub (evC (.int 1)) (ev2 gMul (evC (.int 2)) (evCI 2 (F__law_next) 0 (evCons (evC (.int 2)) (evNil))))) (ev2 gSub (ev2 gAdd (ev2 gMul (ev2 gPow (evC (.int 2)) (evC (.int 50))) (ev2 gPow (evC (.int 2)) (evC (.int 50)))) (evCI 2 (F__law_next) 0 (evCons (evC (.int 4)) (evNil)))) (evC (.int 2))))) (sNx))
  (sSeq (sIf (evT (evIxV gEq 1 (evC (.int 1)))) (sRet (ev2 gRepS (evC (.str "y")) (ev2 gAdd (evC (.int 990)) (evCI 2 (F__law_next) 0 (evCons (evC (.int 21)) (evNil)))))) (sNx))
  (sSeq (sIf (evT (evIxV gEq 1 (evC (.int 2)))) (sRet (evA gTupD (evCons (evC (.str "list")) (evCons (evA (gOne gTuple) (evCons (evLc [3] (ixR1 (evCons (ev2 gAdd (evC (.int 990)) (evCI 2 (F__law_next) 0 (evCons (evC (.int 21)) (evNil)))) (evNil))) (gx 3) (evYes) (C__law_great_1)) (evNil))) (evNil))))) (sNx))
  (sSeq (sIf (evT (evIxV gEq 1 (evC (.int 3)))) (sRet (evA gTupD (evCons (evC (.str "make")) (evCons (evC (.str "M")) (evCons (ev2 gAdd (evA (gOne gTuple) (evCons (evLc [3] (ixR1 (evCons (evC (.int 3)) (evNil))) (gx 3) (evYes) (C__law_great_2)) (evNil))) (evA gTupD (evCons (ev2 gRepS (evC (.str "z")) (evCI 2 (F__law_next) 0 (evCons (evC (.int 21)) (evNil)))) (evNil)))) (evNil)))))) (sNx))
  (sSeq (sAsg 2 (ev2 gIx (evA gLstD (evCons (evC (.int 0)) (evCons (evC (.str "")) (evCons (evA gTupD (evCons (evC (.str "list")) (evCons (evA gTupD (evNil)) (evNil)))) (evNil))))) (evCI 2 (F__law_next) 0 (evCons (evC (.int 3)) (evNil)))))
  (sSeq (sFor (ixR1 (evCons (ev2 gAdd (evC (.int 35)) (evCI 2 (F__law_next) 0 (evCons (evC (.int 9)) (evNil)))) (evNil))) (gx 3) (L__law_great_3))
  (sRet (evVar 2))))))))
def F__law_great : GI := runI 1 3 b__law_great
def b_is_large : SX := sSeq (sIf (evT (evA (gN 1 (F_is_number)) (evCons (evVar 0) (evNil)))) (sRet (ev2 gGt (evA gAbs (evCons (evVar 0) (evNil))) (evC (.int (1267650600228229401496703205375))))) (sNx))
  (sRet (evOrV (ev2 gGt (evA (gN 1 (F_size)) (evCons (evVar 0) (evNil))) (evC (.int (1000)))) (ev2 gGt (evA (gN 1 (F_depth)) (evCons (evVar 0) (evNil))) (evC (.int (40))))))
def F_is_large : GA := runP 1 0 b_is_large
def C__law_value_1 (F : GI) : EX := evCI 2 (F) 0 (evCons (ev2 gSub (evVar 1) (evC (.int 1))) (evNil))
def b__law_value (F : GI) : SX := sSeq (sAsg 2 (evCI 2 (F__law_next) 0 (evCons (evC (.int 6)) (evNil))))
  (sSeq (sIf (evOrT (evT (ev2 gLt (evVar 1) (evC (.int 1)))) (evT (ev2 gLt (evVar 2) (evC (.int 3))))) (sRet (evCI 1 (F__law_scalar) 0 (evNil))) (sNx))
  (sSeq (sAsg 3 (evA (gOne gTuple) (evCons (evLc [4] (ixR1 (evCons (evCI 2 (F__law_next) 0 (evCons (evC (.int 4)) (evNil))) (evNil))) (gx 4) (evYes) (C__law_value_1 F)) (evNil))))
  (sSeq (sIf (evT (evIxV gEq 2 (evC (.int 3)))) (sRet (evA gTupD (evCons (evC (.str "make")) (evCons (ev2 gIx (evA gLstD (evCons (evC (.str "A")) (evCons (evC (.str "Bx")) (evCons (evC (.str "C_1")) (evNil))))) (evCI 2 (F__law_next) 0 (evCons (evC (.int 3)) (evNil)))) (evCons (evVar 3) (evNil)))))) (sNx))
  (sRet (evA gTupD (evCons (evC (.str "list")) (evCons (evVar 3) (evNil))))))))
def F__law_value : Nat → GI
  | 0 => fun _ _ => none
  | k + 1 => runI 2 3 (b__law_value (F__law_value k))
def L_same_1 (F : GA) : SX := sIf (evNotT (evT (evA (gN 2 (F)) (evCons (evVar 2) (evCons (evVar 3) (evNil)))))) (sRet (evC (.bool false))) (sNx)
def b_same (F : GA) : SX := sSeq (sIf (evOrT (evT (ev2 gNe (evIsiV "bool" 0) (evIsiV "bool" 1))) (evT (ev2 gNe (evIsiV "tuple" 0) (evIsiV "tuple" 1)))) (sRet (evC (.bool false))) (sNx))
  (sSeq (sIf (evNotT (evT (evIsiV "tuple" 0))) (sRet (evIxV gEq 0 (evVar 1))) (sNx))
  (sSeq (sIf (evOrT (evT (ev2 gNe (evSlV 0 (evO0) (evO1 (ev1 gNeg (evC (.int 1))))) (evSlV 1 (evO0) (evO1 (ev1 gNeg (evC (.int 1))))))) (evT (ev2 gNe (evA (gOne gLen) (evCons (evIxV gIx 0 (ev1 gNeg (evC (.int 1)))) (evNil))) (evA (gOne gLen) (evCons (evIxV gIx 1 (ev1 gNeg (evC (.int 1)))) (evNil)))))) (sRet (evC (.bool false))) (sNx))
  (sSeq (sFor (ixZipS (evCons (evIxV gIx 0 (ev1 gNeg (evC (.int 1)))) (evCons (evIxV gIx 1 (ev1 gNeg (evC (.int 1)))) (evNil)))) (gxTup (gxCons (gx 2) (gxCons (gx 3) (gxNil))) 2) (L_same_1 F))
  (sRet (evC (.bool true))))))
def F_same : Nat → GA
  | 0 => fun _ => none
  | k + 1 => runP 2 2 (b_same (F_same k))
def C_write_value_1 (F : GA) : EX := evA (gN 1 (F)) (evCons (evVar 2) (evNil))
def b_write_value (F : GA) : SX := sSeq (sIf (evT (evIsiV "bool" 0)) (sRet (ev1 gLower (evA gStr (evCons (evVar 0) (evNil))))) (sNx))
  (sSeq (sIf (evT (evIsiV "int" 0)) (sRet (evA gStr (evCons (evVar 0) (evNil)))) (sNx))
  (sSeq (sIf (evT (evIsiV "str" 0)) (sRet (ev2 gAdd (ev2 gAdd (evC (.str "'")) (ev1 (gRepl "'" "''") (evVar 0))) (evC (.str "'")))) (sNx))
  (sSeq (sAsg 1 (evJoin (evC (.str ", ")) (evLc [2] (ixSeq (evIxV gIx 0 (ev1 gNeg (evC (.int 1))))) (gx 2) (evYes) (C_write_value_1 F))))
  (sSeq (sIf (evT (ev2 gEq (evIxV gIx 0 (evC (.int 0))) (evC (.str "list")))) (sRet (ev2 gAdd (ev2 gAdd (evC (.str "[")) (evVar 1)) (evC (.str "]")))) (sNx))
  (sSeq (sIf (evT (evIxV gEq 1 (evC (.str "")))) (sRet (evIxV gIx 0 (evC (.int 1)))) (sNx))
  (sRet (ev2 gAdd (ev2 gAdd (ev2 gAdd (evIxV gIx 0 (evC (.int 1))) (evC (.str "("))) (evVar 1)) (evC (.str ")")))))))))
def F_write_value : Nat → GA
  | 0 => fun _ => none
  | k + 1 => runP 1 2 (b_write_value (F_write_value k))
def b__law_turned (F : GI) : SX := sSeq (sIf (evT (evIsiV "bool" 1)) (sRet (evA gInt (evCons (evVar 1) (evNil)))) (sNx))
  (sSeq (sIf (evT (evIsiV "int" 1)) (sRet (ev2 gIx (evA gLstD (evCons (evIxV gAdd 1 (evC (.int 1))) (evCons (evIxV gEq 1 (evC (.int 1))) (evCons (evA gStr (evCons (evVar 1) (evNil))) (evNil))))) (evCI 2 (F__law_next) 0 (evCons (evC (.int 3)) (evNil))))) (sNx))
  (sSeq (sIf (evT (evIsiV "str" 1)) (sRet (evIxV gAdd 1 (evC (.str "a")))) (sNx))
  (sSeq (sAsg 2 (evIxV gIx 1 (ev2 gSub (evV1 gLen 1) (evC (.int 1)))))
  (sSeq (sAsg 3 (evCI 2 (F__law_next) 0 (evCons (evC (.int 4)) (evNil))))
  (sSeq (sIf (evOrT (evT (evIxV gEq 3 (evC (.int 0)))) (evT (evIxV gEqM 2 (evA gTupD (evNil))))) (sRet (ev2 gAdd (evSlV 1 (evO0) (evO1 (ev2 gSub (evV1 gLen 1) (evC (.int 1))))) (evA gTupD (evCons (evIxV gAdd 2 (evA gTupD (evCons (evC (.int 0)) (evNil)))) (evNil))))) (sNx))
  (sSeq (sIf (evT (evIxV gEq 3 (evC (.int 1)))) (sRet (evA gTupD (evCons (evC (.str "make")) (evCons (evC (.str "List")) (evCons (evVar 2) (evNil)))))) (sNx))
  (sSeq (sAsg 4 (evCI 2 (F__law_next) 0 (evCons (evV1 gLen 2) (evNil))))
  (sRet (ev2 gAdd (evSlV 1 (evO0) (evO1 (ev2 gSub (evV1 gLen 1) (evC (.int 1))))) (evA gTupD (evCons (ev2 gAdd (ev2 gAdd (evSlV 2 (evO0) (evO1 (evVar 4))) (evA gTupD (evCons (evCI 2 (F) 0 (evCons (evIxV gIx 2 (evVar 4)) (evNil))) (evNil)))) (evSlV 2 (evO1 (evIxV gAdd 4 (evC (.int 1)))) (evO0))) (evNil))))))))))))
def F__law_turned : Nat → GI
  | 0 => fun _ _ => none
  | k + 1 => runI 2 3 (b__law_turned (F__law_turned k))
def L__law_size_1 (F : GA) : SX := sAsg 1 (evIxV gAdd 1 (evA (gN 1 (F)) (evCons (evVar 2) (evNil))))
def b__law_size (F : GA) : SX := sSeq (sAsg 1 (evC (.int 1)))
  (sSeq (sIf (evT (evIsiV "str" 0)) (sAsg 1 (ev2 gAdd (evC (.int 1)) (evV1 gLen 0))) (sNx))
  (sSeq (sFor (ixSeq (evA (gN 1 (F__law_parts)) (evCons (evVar 0) (evNil)))) (gx 2) (L__law_size_1 F))
  (sRet (evVar 1))))
def F__law_size : Nat → GA
  | 0 => fun _ => none
  | k + 1 => runP 1 2 (b__law_size (F__law_size k))
def L__law_depth_1 (F : GA) : SX := sAsg 1 (evA gMax2 (evCons (evVar 1) (evCons (evA (gN 1 (F)) (evCons (evVar 2) (evNil))) (evNil))))
def b__law_depth (F : GA) : SX := sSeq (sAsg 1 (evC (.int 0)))
  (sSeq (sFor (ixSeq (evA (gN 1 (F__law_parts)) (evCons (evVar 0) (evNil)))) (gx 2) (L__law_depth_1 F))
  (sRet (ev2 gAdd (evC (.int 1)) (evVar 1))))
def F__law_depth : Nat → GA
  | 0 => fun _ => none
  | k + 1 => runP 1 2 (b__law_depth (F__law_depth k))
def C__law_written_1 (F : GA) : EX := evA (gN 1 (F)) (evCons (evVar 2) (evNil))
def b__law_written (F : GA) : SX := sSeq (sIf (evT (evIsiV "bool" 0)) (sRet (ev2 gIx (evA gLstD (evCons (evC (.str "false")) (evCons (evC (.str "true")) (evNil)))) (evA gInt (evCons (evVar 0) (evNil))))) (sNx))
  (sSeq (sIf (evT (evIsiV "int" 0)) (sRet (evA gStr (evCons (evVar 0) (evNil)))) (sNx))
  (sSeq (sIf (evT (evIsiV "str" 0)) (sRet (ev2 gAdd (ev2 gAdd (evC (.str "'")) (evJoin (evC (.str "''")) (ev2 gSplit (evVar 0) (evC (.str "'"))))) (evC (.str "'")))) (sNx))
  (sSeq (sAsg 1 (evJoin (evC (.str ", ")) (evLc [2] (ixSeq (evA (gN 1 (F__law_parts)) (evCons (evVar 0) (evNil)))) (gx 2) (evYes) (C__law_written_1 F))))
  (sSeq (sIf (evT (ev2 gEq (evIxV gIx 0 (evC (.int 0))) (evC (.str "list")))) (sRet (ev2 gAdd (ev2 gAdd (evC (.str "[")) (evVar 1)) (evC (.str "]")))) (sNx))
  (sSeq (sIf (evT (ev2 gEqM (evA (gN 1 (F__law_parts)) (evCons (evVar 0) (evNil))) (evA gTupD (evNil)))) (sRet (evIxV gIx 0 (evC (.int 1)))) (sNx))
  (sRet (ev2 gAdd (ev2 gAdd (ev2 gAdd (evIxV gIx 0 (evC (.int 1))) (evC (.str "("))) (evVar 1)) (evC (.str ")")))))))))
def F__law_written : Nat → GA
  | 0 => fun _ => none
  | k + 1 => runP 1 2 (b__law_written (F__law_written k))
def L__law_same_1 (F : GA) : SX := sIf (evNotT (evT (evA (gN 2 (F)) (evCons (evIxV gIx 0 (evVar 2)) (evCons (evIxV gIx 1 (evVar 2)) (evNil)))))) (sRet (evC (.bool false))) (sNx)
def b__law_same (F : GA) : SX := sSeq (sIf (evT (ev2 gIsN (evVar 1) (evC .none))) (sRet (ev2 gIsN (evVar 0) (evC .none))) (sNx))
  (sSeq (sIf (evT (evIsiV "bool" 1)) (sRet (evAndV (evIsiV "bool" 0) (evIxV gEq 0 (evVar 1)))) (sNx))
  (sSeq (sIf (evT (evIsiV "int" 1)) (sRet (evAndV (evIsiV "int" 0) (evAndV (evNotV (evIsiV "bool" 0)) (evIxV gEq 0 (evVar 1))))) (sNx))
  (sSeq (sIf (evT (evIsiV "str" 1)) (sRet (evAndV (evIsiV "str" 0) (evIxV gEq 0 (evVar 1)))) (sNx))
  (sSeq (sIf (evAndT (evT (evIsiV "tuple" 1)) (evNotT (evT (evIsiV "tuple" 0)))) (sRet (evC (.bool false))) (sNx))
  (sSeq (sIf (evAndT (evT (evIsiV "list" 1)) (evNotT (evT (evIsiV "list" 0)))) (sRet (evC (.bool false))) (sNx))
  (sSeq (sIf (evT (ev2 gNe (evV1 gLen 0) (evV1 gLen 1))) (sRet (evC (.bool false))) (sNx))
  (sSeq (sFor (ixR1 (evCons (evV1 gLen 1) (evNil))) (gx 2) (L__law_same_1 F))
  (sRet (evC (.bool true))))))))))
def F__law_same : Nat → GA
  | 0 => fun _ => none
  | k + 1 => runP 2 1 (b__law_same (F__law_same k))
def b__law_told : SX := sSeq (sIf (evOrT (evNotT (evT (evA (gN 2 (F__law_same 120)) (evCons (evA (gN 1 (F_size)) (evCons (evVar 0) (evNil))) (evCons (evA (gN 1 (F__law_size 60)) (evCons (evVar 0) (evNil))) (evNil)))))) (evNotT (evT (evA (gN 2 (F__law_same 120)) (evCons (evA (gN 1 (F_depth)) (evCons (evVar 0) (evNil))) (evCons (evA (gN 1 (F__law_depth 60)) (evCons (evVar 0) (evNil))) (evNil))))))) (sRet (evC (.bool false))) (sNx))
  (sSeq (sAsg 1 (evOrV (ev2 gGt (evA (gN 1 (F__law_size 60)) (evCons (evVar 0) (evNil))) (evC (.int 1000))) (ev2 gGt (evA (gN 1 (F__law_depth 60)) (evCons (evVar 0) (evNil))) (evC (.int 40)))))
  (sSeq (sIf (evAndT (evT (evIsiV "int" 0)) (evNotT (evT (evIsiV "bool" 0)))) (sAsg 1 (evNotV (evChain gLt gLt (ev2 gSub (evC (.int 0)) (ev2 gMul (ev2 gPow (evC (.int 2)) (evC (.int 50))) (ev2 gPow (evC (.int 2)) (evC (.int 50))))) (evVar 0) (ev2 gMul (ev2 gPow (evC (.int 2)) (evC (.int 50))) (ev2 gPow (evC (.int 2)) (evC (.int 50))))))) (sNx))
  (sRet (evAndV (evA (gN 2 (F__law_same 120)) (evCons (evA (gN 1 (F_is_large)) (evCons (evVar 0) (evNil))) (evCons (evVar 1) (evNil)))) (evA (gN 2 (F__law_same 120)) (evCons (evA (gN 1 (F_write_value 60)) (evCons (evVar 0) (evNil))) (evCons (evA (gN 1 (F__law_written 60)) (evCons (evVar 0) (evNil))) (evNil))))))))
def F__law_told : GA := runP 1 1 b__law_told
def b_law : SX := sSeq (sAsg 1 (evA gLstD (evCons (evV1 gList 0) (evCons (evC (.int 0)) (evCons (evC (.int 0)) (evCons (evC (.int 1)) (evNil)))))))
  (sSeq (sAsg 2 (evCI 2 (F__law_value 8) 1 (evCons (evC (.int 4)) (evNil))))
  (sSeq (sIf (evT (ev2 gEq (evCI 2 (F__law_next) 1 (evCons (evC (.int 4)) (evNil))) (evC (.int 0)))) (sAsg 2 (evCI 1 (F__law_great) 1 (evNil))) (sNx))
  (sSeq (sIf (evT (ev2 gEq (evCI 2 (F__law_next) 1 (evCons (evC (.int 4)) (evNil))) (evC (.int 0)))) (sAsg 2 (evA gTupD (evCons (evC (.str "list")) (evCons (evA gTupD (evCons (evVar 2) (evNil))) (evNil))))) (sNx))
  (sSeq (sAsg 3 (evCI 2 (F__law_value 8) 1 (evCons (evC (.int 4)) (evNil))))
  (sSeq (sAsg 4 (evCI 2 (F__law_next) 1 (evCons (evC (.int 4)) (evNil))))
  (sSeq (sIf (evT (evIxV gEq 4 (evC (.int 0)))) (sAsg 3 (evVar 2)) (sIf (evT (ev2 gLt (evVar 4) (evC (.int 3)))) (sAsg 3 (evCI 2 (F__law_turned 60) 1 (evCons (evVar 2) (evNil)))) (sNx)))
  (sSeq (sIf (evOrT (evNotT (evT (evA (gN 1 (F__law_told)) (evCons (evVar 2) (evNil))))) (evNotT (evT (evA (gN 1 (F__law_told)) (evCons (evVar 3) (evNil)))))) (sRet (evC (.bool false))) (sNx))
  (sSeq (sAsg 5 (evAndV (evA (gN 2 (F__law_same 120)) (evCons (evVar 2) (evCons (evVar 3) (evNil)))) (evA (gN 2 (F__law_same 120)) (evCons (evVar 3) (evCons (evVar 2) (evNil))))))
  (sRet (evAndV (evA (gN 2 (F__law_same 120)) (evCons (evA (gN 2 (F_same 60)) (evCons (evVar 2) (evCons (evVar 3) (evNil)))) (evCons (evVar 5) (evNil)))) (evA (gN 2 (F__law_same 120)) (evCons (evA (gN 2 (F_same 60)) (evCons (evVar 3) (evCons (evVar 2) (evNil)))) (evCons (evVar 5) (evNil))))))))))))))
def F_law : GA := runP 1 5 b_law
end My
end
section
set_option Elab.async false
set_option linter.all false
set_option maxRecDepth 100000
set_option maxHeartbeats 4000000
namespace My
open PySem PySem.Spec PyProof.Rows L2 Qp
structure Tx (mg : Str → Option Value) : Prop where
  b_abs : mg "abs" = none
  b_bool : mg "bool" = none
  b_int : mg "int" = none
  b_isinstance : mg "isinstance" = none
  b_len : mg "len" = none
  b_list : mg "list" = none
  b_max : mg "max" = none
  b_range : mg "range" = none
  b_str : mg "str" = none
  b_tuple : mg "tuple" = none
  b_zip : mg "zip" = none
  g_MOST_DEPTH : ∃ t, mg "MOST_DEPTH" = some (.int (40) t)
  g_MOST_NUMBER : ∃ t, mg "MOST_NUMBER" = some (.int (1267650600228229401496703205375) t)
  g_MOST_SIZE : ∃ t, mg "MOST_SIZE" = some (.int (1000) t)
section
variable {P : Program} {w : World} {K : PySem.W.Frag} {mg : Str → Option Value} {base : Heap}
theorem ok_is_number {f : Addr} {fd : FuncData} (F : Fun K "is_number" "is_number" s_is_number f fd) (T : Tx mg) : FnOk P w K mg base CX0 1 f fd ["value"] (spP K 1 F_is_number) := by
  refine fn_pure (P := P) (w := w) (mg := mg) (base := base) (k := 0) F sc_is_number rfl rfl (fun cdv A outer s H E hr => ?_)
  exact ⟨_, (db_one (ds_ret (de_and (de_isiV (n := "int") (by rfl) T.b_isinstance (by rfl) T.b_int (by decide +kernel) (dv 0)) (de_one (de_not (de_isiV (n := "bool") (by rfl) T.b_isinstance (by rfl) T.b_bool (by decide +kernel) (dv 0)))))))⟩
theorem ok_members {f : Addr} {fd : FuncData} (F : Fun K "members" "members" s_members f fd) (T : Tx mg) : FnOk P w K mg base CX0 1 f fd ["value"] (spP K 1 F_members) := by
  refine fn_pure (P := P) (w := w) (mg := mg) (base := base) (k := 0) F sc_members rfl rfl (fun cdv A outer s H E hr => ?_)
  exact ⟨_, (db_cons (ds_if (dt_val (de_isiV (n := "tuple") (by rfl) T.b_isinstance (by rfl) T.b_tuple (by decide +kernel) (dv 0))) (db_one (ds_ret (de_ixV (dv 0) (de_un un_neg sr_neg de_int)))) db_nil)
    (db_one (ds_ret (de_tup da_nil))))⟩
theorem ok__law_next {f : Addr} {fd : FuncData} (F : Fun K "_law_next" "_law_next" s__law_next f fd) (T : Tx mg) : FnOk P w K mg base CX0 1 f fd ["state", "limit"] (spI K 2 F__law_next) := by
  refine fn_inout (P := P) (w := w) (mg := mg) (base := base) (k := 0) F sc__law_next rfl rfl (fun cdv A outer s H E hr => ?_)
  exact ⟨_, (db_cons (ds_if (DW.dt (dw_and (dt_cmp (op_eqD hr.units) sw_eq.two (de_ixV (dv 0) de_int) de_int) (dw_and1 (dt_cmp op_lt sr_lt (de_ixV (dv 0) de_int) (de_cB call_len sw_len.all (by rfl) T.b_len PySem.boot_len (da_cons (de_ixV (dv 0) de_int) da_nil)))))) (db_cons (ds_asg (i := 2) sc__law_next.nd rfl (by first | exact Or.inl rfl | exact Or.inr rfl) (de_ix (de_ixV (dv 0) de_int) (de_ixV (dv 0) de_int)))
    (db_cons (ds_augIx (dv 0) de_int ip_add sr_ipadd de_int)
    (db_one (ds_if (dt_cmp op_ge sr_ge (dv 2) (de_op op_pow sr_pow de_int de_int)) (db_one (ds_set (dv 0) de_int (dv 2))) (db_one (ds_set (dv 0) de_int (de_op op_mod sr_mod (de_cT (call_int1) sc_int (by rfl) T.b_int (by decide +kernel) (da_cons (de_op op_addD sw_add.two (de_op op_addD sw_add.two (de_op op_mul sr_mul (de_ixV (dv 0) de_int) de_int) (de_op op_mod sr_mod (de_cT (call_int1) sc_int (by rfl) T.b_int (by decide +kernel) (da_cons (dv 2) da_nil)) de_int)) de_int) da_nil)) de_int))))))) db_nil)
    (db_cons (ds_if (dt_cmp op_gt sr_gt (de_ixV (dv 0) de_int) de_int) (db_cons (ds_asg (i := 3) sc__law_next.nd rfl (by first | exact Or.inl rfl | exact Or.inr rfl) (de_op op_mod sr_mod (de_cT (call_int1) sc_int (by rfl) T.b_int (by decide +kernel) (da_cons (de_ixV (dv 0) de_int) da_nil)) (dv 1)))
    (db_cons (ds_set (dv 0) de_int (de_op op_fdivW sr_fdivW (de_ixV (dv 0) de_int) (dv 1)))
    (db_one (ds_ret (dv 3))))) db_nil)
    (db_cons (ds_set (dv 0) de_int (de_op op_mod sr_mod (de_cT (call_int1) sc_int (by rfl) T.b_int (by decide +kernel) (da_cons (de_op op_addD sw_add.two (de_op op_mul sr_mul (de_ixV (dv 0) de_int) de_int) de_int) da_nil)) de_int))
    (db_one (ds_ret (de_op op_mod sr_mod (de_cT (call_int1) sc_int (by rfl) T.b_int (by decide +kernel) (da_cons (de_op op_fdivW sr_fdivW (de_ixV (dv 0) de_int) de_int) da_nil)) (dv 1)))))))⟩
theorem ok__law_char {f : Addr} {fd : FuncData} (F : Fun K "_law_char" "_law_char" s__law_char f fd) (T : Tx mg) : FnOk P w K mg base CX0 1 f fd ["index"] (spP K 1 F__law_char) := by
  refine fn_pure (P := P) (w := w) (mg := mg) (base := base) (k := 0) F sc__law_char rfl rfl (fun cdv A outer s H E hr => ?_)
  exact ⟨_, (db_cons (ds_asg (i := 1) sc__law_char.nd rfl (by first | exact Or.inl rfl | exact Or.inr rfl) de_str)
    (db_cons (ds_asg (i := 1) sc__law_char.nd rfl (by first | exact Or.inl rfl | exact Or.inr rfl) (de_opV op_addD sw_add (dv 1) de_str))
    (db_one (ds_ret (de_ixV (dv 1) (de_op op_mod sr_mod (de_cT (call_int1) sc_int (by rfl) T.b_int (by decide +kernel) (da_cons (dv 0) da_nil)) de_int))))))⟩
theorem ok__law_parts {f : Addr} {fd : FuncData} (F : Fun K "_law_parts" "_law_parts" s__law_parts f fd) (T : Tx mg) : FnOk P w K mg base CX0 1 f fd ["value"] (spP K 1 F__law_parts) := by
  refine fn_pure (P := P) (w := w) (mg := mg) (base := base) (k := 0) F sc__law_parts rfl rfl (fun cdv A outer s H E hr => ?_)
  exact ⟨_, (db_cons (ds_if (dt_val (de_isiV (n := "tuple") (by rfl) T.b_isinstance (by rfl) T.b_tuple (by decide +kernel) (dv 0))) (db_one (ds_ret (de_ixV (dv 0) (de_op op_sub sr_sub (de_cBV call_len sw_len (by rfl) T.b_len PySem.boot_len (dv 0)) de_int)))) db_nil)
    (db_one (ds_ret (de_tup da_nil))))⟩
theorem ok_size {f : Addr} {fd : FuncData} (F : Fun K "size" "size" s_size f fd) (T : Tx mg) (c_members : Cal P w K mg base "members" 1 ["value"] (spP K 1 (F_members))) : FnOk P w K mg base CX0 2 f fd ["value"] (spP K 1 F_size) := by
  refine fn_pure (P := P) (w := w) (mg := mg) (base := base) (k := 1) F sc_size rfl rfl (fun cdv A outer s H E hr => ?_)
  exact ⟨_, (db_cons (ds_asg (i := 1) sc_size.nd rfl (by first | exact Or.inl rfl | exact Or.inr rfl) de_int)
    (db_cons (ds_asg (i := 2) sc_size.nd rfl (by first | exact Or.inl rfl | exact Or.inr rfl) (de_lst (da_cons (dv 0) da_nil)))
    (db_cons (ds_while 3000 PassesOwn.never (dt_cmp op_gt sr_gt (de_cBV call_len sw_len (by rfl) T.b_len PySem.boot_len (dv 2)) de_int) (db_cons (ds_asg (i := 3) sc_size.nd rfl (by first | exact Or.inl rfl | exact Or.inr rfl) (de_pop (dv 2)))
    (db_cons (ds_aug (i := 1) sc_size.nd rfl (by first | exact Or.inl rfl | exact Or.inr rfl) ip_add sr_ipadd de_int)
    (db_cons (ds_if (dt_val (de_isiV (n := "str") (by rfl) T.b_isinstance (by rfl) T.b_str (by decide +kernel) (dv 3))) (db_one (ds_aug (i := 1) sc_size.nd rfl (by first | exact Or.inl rfl | exact Or.inr rfl) ip_add sr_ipadd (de_cBV call_len sw_len (by rfl) T.b_len PySem.boot_len (dv 3)))) db_nil)
    (db_one (ds_expr (de_exA (dv 2) (dc c_members (hr.mono (by decide)) (da_cons (dv 3) da_nil)))))))))
    (db_one (ds_ret (dv 1))))))⟩
theorem ok_depth {f : Addr} {fd : FuncData} (F : Fun K "depth" "depth" s_depth f fd) (T : Tx mg) (c_members : Cal P w K mg base "members" 1 ["value"] (spP K 1 (F_members))) : FnOk P w K mg base CX0 2 f fd ["value"] (spP K 1 F_depth) := by
  refine fn_pure (P := P) (w := w) (mg := mg) (base := base) (k := 1) F sc_depth rfl rfl (fun cdv A outer s H E hr => ?_)
  exact ⟨_, (db_cons (ds_asg (i := 1) sc_depth.nd rfl (by first | exact Or.inl rfl | exact Or.inr rfl) de_int)
    (db_cons (ds_asg (i := 2) sc_depth.nd rfl (by first | exact Or.inl rfl | exact Or.inr rfl) (de_lst (da_cons (dv 0) da_nil)))
    (db_cons (ds_while 3000 PassesOwn.never (dt_cmp op_gt sr_gt (de_cBV call_len sw_len (by rfl) T.b_len PySem.boot_len (dv 2)) de_int) (db_cons (ds_aug (i := 1) sc_depth.nd rfl (by first | exact Or.inl rfl | exact Or.inr rfl) ip_add sr_ipadd de_int)
    (db_one (ds_lc2 (i := 2) rfl sc_depth.nd rfl rfl (sw_true rfl rfl rfl (by decide +kernel)) (di_seq (dv 2)) (blkOk_by (own := [("each", 3), ("member", 4)]) (N := N_depth) (sc := defScope s_depth) (by decide +kernel)) (fun _ _ _ _ _ => ⟨_, (dg_name (i := 3) sc_depth.nd rfl (by first | exact Or.inl rfl | exact Or.inr rfl))⟩) (fun _ _ _ _ _ => ⟨_, dts_nil⟩) (fun _ _ _ _ _ => ⟨_, (di_seq (dc c_members (hr.mono (by decide)) (da_cons (dv 3) da_nil)))⟩) (fun _ _ _ _ _ => ⟨_, (dg_name (i := 4) sc_depth.nd rfl (by first | exact Or.inl rfl | exact Or.inr rfl))⟩) (fun _ _ _ _ _ => ⟨_, dts_nil⟩) (fun _ _ _ _ _ => ⟨_, (dv 4)⟩)))))
    (db_one (ds_ret (dv 1))))))⟩
theorem ok__law_scalar {f : Addr} {fd : FuncData} (F : Fun K "_law_scalar" "_law_scalar" s__law_scalar f fd) (T : Tx mg) (c__law_next : Cal P w K mg base "_law_next" 1 ["state", "limit"] (spI K 2 (F__law_next))) (c__law_char : Cal P w K mg base "_law_char" 1 ["index"] (spP K 1 (F__law_char))) : FnOk P w K mg base CX0 2 f fd ["state"] (spI K 1 F__law_scalar) := by
  refine fn_inout (P := P) (w := w) (mg := mg) (base := base) (k := 1) F sc__law_scalar rfl rfl (fun cdv A outer s H E hr => ?_)
  exact ⟨_, (db_cons (ds_asg (i := 1) sc__law_scalar.nd rfl (by first | exact Or.inl rfl | exact Or.inr rfl) (dcI c__law_next (hr.mono (by decide)) (dv 0) (da_cons de_int da_nil)))
    (db_cons (ds_if (dt_cmp op_lt sr_lt (dv 1) de_int) (db_one (ds_ret (de_ix (de_lst (da_cons de_bl (da_cons de_bl da_nil))) (dv 1)))) db_nil)
    (db_cons (ds_if (dt_cmpV (op_eqD hr.units) sw_eq (dv 1) de_int) (db_one (ds_ret (dcI c__law_next (hr.mono (by decide)) (dv 0) (da_cons de_int da_nil)))) db_nil)
    (db_cons (ds_if (dt_cmpV (op_eqD hr.units) sw_eq (dv 1) de_int) (db_one (ds_ret (de_op op_mul sr_mul (de_op op_sub sr_sub de_int (de_op op_mul sr_mul de_int (dcI c__law_next (hr.mono (by decide)) (dv 0) (da_cons de_int da_nil)))) (dcI c__law_next (hr.mono (by decide)) (dv 0) (da_cons (de_ix (de_lst (da_cons de_int (da_cons (de_op op_pow sr_pow de_int de_int) (da_cons (de_op op_mul sr_mul (de_op op_pow sr_pow de_int de_int) (de_op op_pow sr_pow de_int de_int)) da_nil)))) (dcI c__law_next (hr.mono (by decide)) (dv 0) (da_cons de_int da_nil))) da_nil))))) db_nil)
    (db_one (ds_ret (de_join de_str (de_lc rfl sc__law_scalar.nd (di_r1 (by rfl) T.b_range (da_cons (dcI c__law_next (hr.mono (by decide)) (dv 0) (da_cons de_int da_nil)) da_nil)) (blkOk_by (own := [("k", 2)]) (N := N__law_scalar) (sc := defScope s__law_scalar) (by decide +kernel)) (fun _ _ _ _ _ => ⟨_, (dg_name (i := 2) sc__law_scalar.nd rfl (by first | exact Or.inl rfl | exact Or.inr rfl))⟩) (fun _ _ _ _ _ => ⟨_, dts_nil⟩) (fun _ _ _ _ _ => ⟨_, (dc c__law_char (hr.mono (by decide)) (da_cons (dcI c__law_next (hr.mono (by decide)) (dv 0) (da_cons de_int da_nil)) da_nil))⟩)))))))))⟩
theorem ok__law_great {f : Addr} {fd : FuncData} (F : Fun K "_law_great" "_law_great" s__law_great f fd) (T : Tx mg) (c__law_next : Cal P w K mg base "_law_next" 1 ["state", "limit"] (spI K 2 (F__law_next))) : FnOk P w K mg base CX0 2 f fd ["state"] (spI K 1 F__law_great) := by
  refine fn_inout (P := P) (w := w) (mg := mg) (base := base) (k := 1) F sc__law_great rfl rfl (fun cdv A outer s H E hr => ?_)
  exact ⟨_, (db_cons (ds_asg (i := 1) sc__law_great.nd rfl (by first | exact Or.inl rfl | exact Or.inr rfl) (dcI c__law_next (hr.mono (by decide)) (dv 0) (da_cons de_int da_nil)))
    (db_cons (ds_if (dt_cmpV (op_eqD hr.units) sw_eq (dv 1) de_int) (db_one (ds_ret (de_op op_mul sr_mul (de_op op_sub sr_sub de_int (de_op op_mul sr_mul de_int (dcI c__law_next (hr.mono (by decide)) (dv 0) (da_cons de_int da_nil)))) (de_op op_sub sr_sub (de_op op_addD sw_add.two (de_op op_mul sr_mul (de_op op_pow sr_pow de_int de_int) (de_op op_pow sr_pow de_int de_int)) (dcI c__law_next (hr.mono (by decide)) (dv 0) (da_cons de_int da_nil))) de_int)))) db_nil)
    (db_cons (ds_if (dt_cmpV (op_eqD hr.units) sw_eq (dv 1) de_int) (db_one (ds_ret (de_op op_repS sr_repS de_str (de_op op_addD sw_add.two de_int (dcI c__law_next (hr.mono (by decide)) (dv 0) (da_cons de_int da_nil)))))) db_nil)
    (db_cons (ds_if (dt_cmpV (op_eqD hr.units) sw_eq (dv 1) de_int) (db_one (ds_ret (de_tup (da_cons de_str (da_cons (de_cT call_tuple_of sw_tuple.all (by rfl) T.b_tuple (by decide +kernel) (da_cons (de_lc rfl sc__law_great.nd (di_r1 (by rfl) T.b_range (da_cons (de_op op_addD sw_add.two de_int (dcI c__law_next (hr.mono (by decide)) (dv 0) (da_cons de_int da_nil))) da_nil)) (blkOk_by (own := [("k", 3)]) (N := N__law_great) (sc := defScope s__law_great) (by decide +kernel)) (fun _ _ _ _ _ => ⟨_, (dg_name (i := 3) sc__law_great.nd rfl (by first | exact Or.inl rfl | exact Or.inr rfl))⟩) (fun _ _ _ _ _ => ⟨_, dts_nil⟩) (fun _ _ _ _ _ => ⟨_, (dcI c__law_next (hr.mono (by decide)) (dv 0) (da_cons de_int da_nil))⟩)) da_nil)) da_nil))))) db_nil)
    (db_cons (ds_if (dt_cmpV (op_eqD hr.units) sw_eq (dv 1) de_int) (db_one (ds_ret (de_tup (da_cons de_str (da_cons de_str (da_cons (de_op op_addD sw_add.two (de_cT call_tuple_of sw_tuple.all (by rfl) T.b_tuple (by decide +kernel) (da_cons (de_lc rfl sc__law_great.nd (di_r1 (by rfl) T.b_range (da_cons de_int da_nil)) (blkOk_by (own := [("k", 3)]) (N := N__law_great) (sc := defScope s__law_great) (by decide +kernel)) (fun _ _ _ _ _ => ⟨_, (dg_name (i := 3) sc__law_great.nd rfl (by first | exact Or.inl rfl | exact Or.inr rfl))⟩) (fun _ _ _ _ _ => ⟨_, dts_nil⟩) (fun _ _ _ _ _ => ⟨_, (de_tup (da_cons de_str (da_cons (de_op op_repT sr_repT (de_tup (da_cons de_str da_nil)) de_int) da_nil)))⟩)) da_nil)) (de_tup (da_cons (de_op op_repS sr_repS de_str (dcI c__law_next (hr.mono (by decide)) (dv 0) (da_cons de_int da_nil))) da_nil))) da_nil)))))) db_nil)
    (db_cons (ds_asg (i := 2) sc__law_great.nd rfl (by first | exact Or.inl rfl | exact Or.inr rfl) (de_ix (de_lst (da_cons de_int (da_cons de_str (da_cons (de_tup (da_cons de_str (da_cons (de_tup da_nil) da_nil))) da_nil)))) (dcI c__law_next (hr.mono (by decide)) (dv 0) (da_cons de_int da_nil))))
    (db_cons (ds_for PassesOwn.never rfl (di_r1 (by rfl) T.b_range (da_cons (de_op op_addD sw_add.two de_int (dcI c__law_next (hr.mono (by decide)) (dv 0) (da_cons de_int da_nil))) da_nil)) (dg_name (i := 3) sc__law_great.nd rfl (by first | exact Or.inl rfl | exact Or.inr rfl)) (db_one (ds_asg (i := 2) sc__law_great.nd rfl (by first | exact Or.inl rfl | exact Or.inr rfl) (de_ix (de_lst (da_cons (de_tup (da_cons de_str (da_cons (de_tup (da_cons (dv 2) da_nil)) da_nil))) (da_cons (de_tup (da_cons de_str (da_cons de_str (da_cons (de_tup (da_cons (dv 2) da_nil)) da_nil)))) da_nil))) (dcI c__law_next (hr.mono (by decide)) (dv 0) (da_cons de_int da_nil))))))
    (db_one (ds_ret (dv 2))))))))))⟩
theorem ok_is_large {f : Addr} {fd : FuncData} (F : Fun K "is_large" "is_large" s_is_large f fd) (T : Tx mg) (c_is_number : Cal P w K mg base "is_number" 1 ["value"] (spP K 1 (F_is_number))) (c_size : Cal P w K mg base "size" 2 ["value"] (spP K 1 (F_size))) (c_depth : Cal P w K mg base "depth" 2 ["value"] (spP K 1 (F_depth))) : FnOk P w K mg base CX0 3 f fd ["value"] (spP K 1 F_is_large) := by
  refine fn_pure (P := P) (w := w) (mg := mg) (base := base) (k := 2) F sc_is_large rfl rfl (fun cdv A outer s H E hr => ?_)
  exact ⟨_, (db_cons (ds_if (dt_val (dc c_is_number (hr.mono (by decide)) (da_cons (dv 0) da_nil))) (db_one (ds_ret (de_cmp op_gt sr_gt (de_cB (call_abs) sc_abs (by rfl) T.b_abs (by decide +kernel) (da_cons (dv 0) da_nil)) (de_globI T.g_MOST_NUMBER (by rfl))))) db_nil)
    (db_one (ds_ret (de_or (de_cmp op_gt sr_gt (dc c_size (hr.mono (by decide)) (da_cons (dv 0) da_nil)) (de_globI T.g_MOST_SIZE (by rfl))) (de_one (de_cmp op_gt sr_gt (dc c_depth (hr.mono (by decide)) (da_cons (dv 0) da_nil)) (de_globI T.g_MOST_DEPTH (by rfl))))))))⟩
theorem ok__law_value {f : Addr} {fd : FuncData} (F : Fun K "_law_value" "_law_value" s__law_value f fd) (T : Tx mg) (c__law_next : Cal P w K mg base "_law_next" 1 ["state", "limit"] (spI K 2 (F__law_next))) (c__law_scalar : Cal P w K mg base "_law_scalar" 2 ["state"] (spI K 1 (F__law_scalar))) (b : Binds K fd ["state", "levels"] []) (m : mg "_law_value" = some (.ref f)) : ∀ k : Nat, FnOk P w K mg base CX0 (2 + k) f fd ["state", "levels"] (spI K 2 (F__law_value k))
  | 0 => (fn_noneI rfl).mono (Nat.zero_le _)
  | k + 1 => by
    have ih := ok__law_value F T c__law_next c__law_scalar b m k
    have c__law_value : Cal P w K mg base "_law_value" (2 + k) ["state", "levels"] (spI K 2 (F__law_value k)) := ⟨f, fd, ih, b, F.kp, m⟩
    show FnOk P w K mg base CX0 ((2 + k) + 1) f fd ["state", "levels"] (spI K 2 (runI 2 3 (b__law_value (F__law_value k))))
    refine fn_inout (P := P) (w := w) (mg := mg) (base := base) F sc__law_value rfl rfl (fun cdv A outer s H E hr => ?_)
    exact ⟨_, (db_cons (ds_asg (i := 2) sc__law_value.nd rfl (by first | exact Or.inl rfl | exact Or.inr rfl) (dcI c__law_next (hr.mono (by omega)) (dv 0) (da_cons de_int da_nil)))
    (db_cons (ds_if (DW.dt (dw_or (dt_cmp op_lt sr_lt (dv 1) de_int) (dw_or1 (dt_cmp op_lt sr_lt (dv 2) de_int)))) (db_one (ds_ret (dcI c__law_scalar (hr.mono (by omega)) (dv 0) da_nil))) db_nil)
    (db_cons (ds_asg (i := 3) sc__law_value.nd rfl (by first | exact Or.inl rfl | exact Or.inr rfl) (de_cT call_tuple_of sw_tuple.all (by rfl) T.b_tuple (by decide +kernel) (da_cons (de_lc rfl sc__law_value.nd (di_r1 (by rfl) T.b_range (da_cons (dcI c__law_next (hr.mono (by omega)) (dv 0) (da_cons de_int da_nil)) da_nil)) (blkOk_by (own := [("k", 4)]) (N := N__law_value) (sc := defScope s__law_value) (by decide +kernel)) (fun _ _ _ _ _ => ⟨_, (dg_name (i := 4) sc__law_value.nd rfl (by first | exact Or.inl rfl | exact Or.inr rfl))⟩) (fun _ _ _ _ _ => ⟨_, dts_nil⟩) (fun _ _ _ _ _ => ⟨_, (dcI c__law_value (hr.mono (by omega)) (dv 0) (da_cons (de_op op_sub sr_sub (dv 1) de_int) da_nil))⟩)) da_nil)))
    (db_cons (ds_if (dt_cmpV (op_eqD hr.units) sw_eq (dv 2) de_int) (db_one (ds_ret (de_tup (da_cons de_str (da_cons (de_ix (de_lst (da_cons de_str (da_cons de_str (da_cons de_str da_nil)))) (dcI c__law_next (hr.mono (by omega)) (dv 0) (da_cons de_int da_nil))) (da_cons (dv 3) da_nil)))))) db_nil)
    (db_one (ds_ret (de_tup (da_cons de_str (da_cons (dv 3) da_nil)))))))))⟩
theorem ok_same {f : Addr} {fd : FuncData} (F : Fun K "same" "same" s_same f fd) (T : Tx mg) (b : Binds K fd ["first", "second"] []) (m : mg "same" = some (.ref f)) : ∀ k : Nat, FnOk P w K mg base CX0 (0 + k) f fd ["first", "second"] (spP K 2 (F_same k))
  | 0 => (fn_none rfl).mono (Nat.zero_le _)
  | k + 1 => by
    have ih := ok_same F T  b m k
    have c_same : Cal P w K mg base "same" (0 + k) ["first", "second"] (spP K 2 (F_same k)) := ⟨f, fd, ih, b, F.kp, m⟩
    show FnOk P w K mg base CX0 ((0 + k) + 1) f fd ["first", "second"] (spP K 2 (runP 2 2 (b_same (F_same k))))
    refine fn_pure (P := P) (w := w) (mg := mg) (base := base) F sc_same rfl rfl (fun cdv A outer s H E hr => ?_)
    exact ⟨_, (db_cons (ds_if (DW.dt (dw_or (dt_cmp (op_neD hr.units) sw_ne.two (de_isiV (n := "bool") (by rfl) T.b_isinstance (by rfl) T.b_bool (by decide +kernel) (dv 0)) (de_isiV (n := "bool") (by rfl) T.b_isinstance (by rfl) T.b_bool (by decide +kernel) (dv 1))) (dw_or1 (dt_cmp (op_neD hr.units) sw_ne.two (de_isiV (n := "tuple") (by rfl) T.b_isinstance (by rfl) T.b_tuple (by decide +kernel) (dv 0)) (de_isiV (n := "tuple") (by rfl) T.b_isinstance (by rfl) T.b_tuple (by decide +kernel) (dv 1)))))) (db_one (ds_ret de_bl)) db_nil)
    (db_cons (ds_if (dt_not (dt_val (de_isiV (n := "tuple") (by rfl) T.b_isinstance (by rfl) T.b_tuple (by decide +kernel) (dv 0)))) (db_one (ds_ret (de_cmpV (op_eqD hr.units) sw_eq (dv 0) (dv 1)))) db_nil)
    (db_cons (ds_if (DW.dt (dw_or (dt_cmp (op_neD hr.units) sw_ne.two (de_slV (dv 0) do_none (do_some (de_un un_neg sr_neg de_int))) (de_slV (dv 1) do_none (do_some (de_un un_neg sr_neg de_int)))) (dw_or1 (dt_cmp (op_neD hr.units) sw_ne.two (de_cB call_len sw_len.all (by rfl) T.b_len PySem.boot_len (da_cons (de_ixV (dv 0) (de_un un_neg sr_neg de_int)) da_nil)) (de_cB call_len sw_len.all (by rfl) T.b_len PySem.boot_len (da_cons (de_ixV (dv 1) (de_un un_neg sr_neg de_int)) da_nil)))))) (db_one (ds_ret de_bl)) db_nil)
    (db_cons (ds_for PassesOwn.never rfl (di_zipS (by rfl) T.b_zip (da_cons (de_ixV (dv 0) (de_un un_neg sr_neg de_int)) (da_cons (de_ixV (dv 1) (de_un un_neg sr_neg de_int)) da_nil))) (dg_tup rfl (dgs_cons (dg_name (i := 2) sc_same.nd rfl (by first | exact Or.inl rfl | exact Or.inr rfl)) (dgs_cons (dg_name (i := 3) sc_same.nd rfl (by first | exact Or.inl rfl | exact Or.inr rfl)) dgs_nil))) (db_one (ds_if (dt_not (dt_val (dc c_same (hr.mono (by omega)) (da_cons (dv 2) (da_cons (dv 3) da_nil))))) (db_one (ds_ret de_bl)) db_nil)))
    (db_one (ds_ret de_bl))))))⟩
theorem ok_write_value {f : Addr} {fd : FuncData} (F : Fun K "write_value" "write_value" s_write_value f fd) (T : Tx mg) (b : Binds K fd ["value"] []) (m : mg "write_value" = some (.ref f)) : ∀ k : Nat, FnOk P w K mg base CX0 (0 + k) f fd ["value"] (spP K 1 (F_write_value k))
  | 0 => (fn_none rfl).mono (Nat.zero_le _)
  | k + 1 => by
    have ih := ok_write_value F T  b m k
    have c_write_value : Cal P w K mg base "write_value" (0 + k) ["value"] (spP K 1 (F_write_value k)) := ⟨f, fd, ih, b, F.kp, m⟩
    show FnOk P w K mg base CX0 ((0 + k) + 1) f fd ["value"] (spP K 1 (runP 1 2 (b_write_value (F_write_value k))))
    refine fn_pure (P := P) (w := w) (mg := mg) (base := base) F sc_write_value rfl rfl (fun cdv A outer s H E hr => ?_)
    exact ⟨_, (db_cons (ds_if (dt_val (de_isiV (n := "bool") (by rfl) T.b_isinstance (by rfl) T.b_bool (by decide +kernel) (dv 0))) (db_one (ds_ret (de_lower (de_cT (call_str_T) sc_str (by rfl) T.b_str (by decide +kernel) (da_cons (dv 0) da_nil))))) db_nil)
    (db_cons (ds_if (dt_val (de_isiV (n := "int") (by rfl) T.b_isinstance (by rfl) T.b_int (by decide +kernel) (dv 0))) (db_one (ds_ret (de_cT (call_str_T) sc_str (by rfl) T.b_str (by decide +kernel) (da_cons (dv 0) da_nil)))) db_nil)
    (db_cons (ds_if (dt_val (de_isiV (n := "str") (by rfl) T.b_isinstance (by rfl) T.b_str (by decide +kernel) (dv 0))) (db_one (ds_ret (de_op op_addD sw_add.two (de_addRepl (dv 0)) de_str))) db_nil)
    (db_cons (ds_asg (i := 1) sc_write_value.nd rfl (by first | exact Or.inl rfl | exact Or.inr rfl) (de_join de_str (de_lc rfl sc_write_value.nd (di_seq (de_ixV (dv 0) (de_un un_neg sr_neg de_int))) (blkOk_by (own := [("member", 2)]) (N := N_write_value) (sc := defScope s_write_value) (by decide +kernel)) (fun _ _ _ _ _ => ⟨_, (dg_name (i := 2) sc_write_value.nd rfl (by first | exact Or.inl rfl | exact Or.inr rfl))⟩) (fun _ _ _ _ _ => ⟨_, dts_nil⟩) (fun _ _ _ _ _ => ⟨_, (dc c_write_value (hr.mono (by omega)) (da_cons (dv 2) da_nil))⟩))))
    (db_cons (ds_if (dt_cmp (op_eqD hr.units) sw_eq.two (de_ixV (dv 0) de_int) de_str) (db_one (ds_ret (de_op op_addD sw_add.two (de_op op_addD sw_add.two de_str (dv 1)) de_str))) db_nil)
    (db_cons (ds_if (dt_cmpV (op_eqD hr.units) sw_eq (dv 1) de_str) (db_one (ds_ret (de_ixV (dv 0) de_int))) db_nil)
    (db_one (ds_ret (de_op op_addD sw_add.two (de_op op_addD sw_add.two (de_op op_addD sw_add.two (de_ixV (dv 0) de_int) de_str) (dv 1)) de_str)))))))))⟩
theorem ok__law_turned {f : Addr} {fd : FuncData} (F : Fun K "_law_turned" "_law_turned" s__law_turned f fd) (T : Tx mg) (c__law_next : Cal P w K mg base "_law_next" 1 ["state", "limit"] (spI K 2 (F__law_next))) (b : Binds K fd ["state", "value"] []) (m : mg "_law_turned" = some (.ref f)) : ∀ k : Nat, FnOk P w K mg base CX0 (1 + k) f fd ["state", "value"] (spI K 2 (F__law_turned k))
  | 0 => (fn_noneI rfl).mono (Nat.zero_le _)
  | k + 1 => by
    have ih := ok__law_turned F T c__law_next b m k
    have c__law_turned : Cal P w K mg base "_law_turned" (1 + k) ["state", "value"] (spI K 2 (F__law_turned k)) := ⟨f, fd, ih, b, F.kp, m⟩
    show FnOk P w K mg base CX0 ((1 + k) + 1) f fd ["state", "value"] (spI K 2 (runI 2 3 (b__law_turned (F__law_turned k))))
    refine fn_inout (P := P) (w := w) (mg := mg) (base := base) F sc__law_turned rfl rfl (fun cdv A outer s H E hr => ?_)
    exact ⟨_, (db_cons (ds_if (dt_val (de_isiV (n := "bool") (by rfl) T.b_isinstance (by rfl) T.b_bool (by decide +kernel) (dv 1))) (db_one (ds_ret (de_cT (call_int1) sc_int (by rfl) T.b_int (by decide +kernel) (da_cons (dv 1) da_nil)))) db_nil)
    (db_cons (ds_if (dt_val (de_isiV (n := "int") (by rfl) T.b_isinstance (by rfl) T.b_int (by decide +kernel) (dv 1))) (db_one (ds_ret (de_ix (de_lst (da_cons (de_opV op_addD sw_add (dv 1) de_int) (da_cons (de_cmpV (op_eqD hr.units) sw_eq (dv 1) de_int) (da_cons (de_cT (call_str_T) sc_str (by rfl) T.b_str (by decide +kernel) (da_cons (dv 1) da_nil)) da_nil)))) (dcI c__law_next (hr.mono (by omega)) (dv 0) (da_cons de_int da_nil))))) db_nil)
    (db_cons (ds_if (dt_val (de_isiV (n := "str") (by rfl) T.b_isinstance (by rfl) T.b_str (by decide +kernel) (dv 1))) (db_one (ds_ret (de_opV op_addD sw_add (dv 1) de_str))) db_nil)
    (db_cons (ds_asg (i := 2) sc__law_turned.nd rfl (by first | exact Or.inl rfl | exact Or.inr rfl) (de_ixV (dv 1) (de_op op_sub sr_sub (de_cBV call_len sw_len (by rfl) T.b_len PySem.boot_len (dv 1)) de_int)))
    (db_cons (ds_asg (i := 3) sc__law_turned.nd rfl (by first | exact Or.inl rfl | exact Or.inr rfl) (dcI c__law_next (hr.mono (by omega)) (dv 0) (da_cons de_int da_nil)))
    (db_cons (ds_if (DW.dt (dw_or (dt_cmpV (op_eqD hr.units) sw_eq (dv 3) de_int) (dw_or1 (dt_cmpV (op_eqM hr.units) sw_eqM (dv 2) (de_tup da_nil))))) (db_one (ds_ret (de_op op_addD sw_add.two (de_slV (dv 1) do_none (do_some (de_op op_sub sr_sub (de_cBV call_len sw_len (by rfl) T.b_len PySem.boot_len (dv 1)) de_int))) (de_tup (da_cons (de_opV op_addD sw_add (dv 2) (de_tup (da_cons de_int da_nil))) da_nil))))) db_nil)
    (db_cons (ds_if (dt_cmpV (op_eqD hr.units) sw_eq (dv 3) de_int) (db_one (ds_ret (de_tup (da_cons de_str (da_cons de_str (da_cons (dv 2) da_nil)))))) db_nil)
    (db_cons (ds_asg (i := 4) sc__law_turned.nd rfl (by first | exact Or.inl rfl | exact Or.inr rfl) (dcI c__law_next (hr.mono (by omega)) (dv 0) (da_cons (de_cBV call_len sw_len (by rfl) T.b_len PySem.boot_len (dv 2)) da_nil)))
    (db_one (ds_ret (de_op op_addD sw_add.two (de_slV (dv 1) do_none (do_some (de_op op_sub sr_sub (de_cBV call_len sw_len (by rfl) T.b_len PySem.boot_len (dv 1)) de_int))) (de_tup (da_cons (de_op op_addD sw_add.two (de_op op_addD sw_add.two (de_slV (dv 2) do_none (do_some (dv 4))) (de_tup (da_cons (dcI c__law_turned (hr.mono (by omega)) (dv 0) (da_cons (de_ixV (dv 2) (dv 4)) da_nil)) da_nil))) (de_slV (dv 2) (do_some (de_opV op_addD sw_add (dv 4) de_int)) do_none)) da_nil)))))))))))))⟩
theorem ok__law_size {f : Addr} {fd : FuncData} (F : Fun K "_law_size" "_law_size" s__law_size f fd) (T : Tx mg) (c__law_parts : Cal P w K mg base "_law_parts" 1 ["value"] (spP K 1 (F__law_parts))) (b : Binds K fd ["value"] []) (m : mg "_law_size" = some (.ref f)) : ∀ k : Nat, FnOk P w K mg base CX0 (1 + k) f fd ["value"] (spP K 1 (F__law_size k))
  | 0 => (fn_none rfl).mono (Nat.zero_le _)
  | k + 1 => by
    have ih := ok__law_size F T c__law_parts b m k
    have c__law_size : Cal P w K mg base "_law_size" (1 + k) ["value"] (spP K 1 (F__law_size k)) := ⟨f, fd, ih, b, F.kp, m⟩
    show FnOk P w K mg base CX0 ((1 + k) + 1) f fd ["value"] (spP K 1 (runP 1 2 (b__law_size (F__law_size k))))
    refine fn_pure (P := P) (w := w) (mg := mg) (base := base) F sc__law_size rfl rfl (fun cdv A outer s H E hr => ?_)
    exact ⟨_, (db_cons (ds_asg (i := 1) sc__law_size.nd rfl (by first | exact Or.inl rfl | exact Or.inr rfl) de_int)
    (db_cons (ds_if (dt_val (de_isiV (n := "str") (by rfl) T.b_isinstance (by rfl) T.b_str (by decide +kernel) (dv 0))) (db_one (ds_asg (i := 1) sc__law_size.nd rfl (by first | exact Or.inl rfl | exact Or.inr rfl) (de_op op_addD sw_add.two de_int (de_cBV call_len sw_len (by rfl) T.b_len PySem.boot_len (dv 0))))) db_nil)
    (db_cons (ds_for PassesOwn.never rfl (di_seq (dc c__law_parts (hr.mono (by omega)) (da_cons (dv 0) da_nil))) (dg_name (i := 2) sc__law_size.nd rfl (by first | exact Or.inl rfl | exact Or.inr rfl)) (db_one (ds_asg (i := 1) sc__law_size.nd rfl (by first | exact Or.inl rfl | exact Or.inr rfl) (de_opV op_addD sw_add (dv 1) (dc c__law_size (hr.mono (by omega)) (da_cons (dv 2) da_nil))))))
    (db_one (ds_ret (dv 1))))))⟩
theorem ok__law_depth {f : Addr} {fd : FuncData} (F : Fun K "_law_depth" "_law_depth" s__law_depth f fd) (T : Tx mg) (c__law_parts : Cal P w K mg base "_law_parts" 1 ["value"] (spP K 1 (F__law_parts))) (b : Binds K fd ["value"] []) (m : mg "_law_depth" = some (.ref f)) : ∀ k : Nat, FnOk P w K mg base CX0 (1 + k) f fd ["value"] (spP K 1 (F__law_depth k))
  | 0 => (fn_none rfl).mono (Nat.zero_le _)
  | k + 1 => by
    have ih := ok__law_depth F T c__law_parts b m k
    have c__law_depth : Cal P w K mg base "_law_depth" (1 + k) ["value"] (spP K 1 (F__law_depth k)) := ⟨f, fd, ih, b, F.kp, m⟩
    show FnOk P w K mg base CX0 ((1 + k) + 1) f fd ["value"] (spP K 1 (runP 1 2 (b__law_depth (F__law_depth k))))
    refine fn_pure (P := P) (w := w) (mg := mg) (base := base) F sc__law_depth rfl rfl (fun cdv A outer s H E hr => ?_)
    exact ⟨_, (db_cons (ds_asg (i := 1) sc__law_depth.nd rfl (by first | exact Or.inl rfl | exact Or.inr rfl) de_int)
    (db_cons (ds_for PassesOwn.never rfl (di_seq (dc c__law_parts (hr.mono (by omega)) (da_cons (dv 0) da_nil))) (dg_name (i := 2) sc__law_depth.nd rfl (by first | exact Or.inl rfl | exact Or.inr rfl)) (db_one (ds_asg (i := 1) sc__law_depth.nd rfl (by first | exact Or.inl rfl | exact Or.inr rfl) (de_cB (call_max2 rfl) sc_max2 (by rfl) T.b_max (by decide +kernel) (da_cons (dv 1) (da_cons (dc c__law_depth (hr.mono (by omega)) (da_cons (dv 2) da_nil)) da_nil))))))
    (db_one (ds_ret (de_op op_addD sw_add.two de_int (dv 1))))))⟩
theorem ok__law_written {f : Addr} {fd : FuncData} (F : Fun K "_law_written" "_law_written" s__law_written f fd) (T : Tx mg) (c__law_parts : Cal P w K mg base "_law_parts" 1 ["value"] (spP K 1 (F__law_parts))) (b : Binds K fd ["value"] []) (m : mg "_law_written" = some (.ref f)) : ∀ k : Nat, FnOk P w K mg base CX0 (1 + k) f fd ["value"] (spP K 1 (F__law_written k))
  | 0 => (fn_none rfl).mono (Nat.zero_le _)
  | k + 1 => by
    have ih := ok__law_written F T c__law_parts b m k
    have c__law_written : Cal P w K mg base "_law_written" (1 + k) ["value"] (spP K 1 (F__law_written k)) := ⟨f, fd, ih, b, F.kp, m⟩
    show FnOk P w K mg base CX0 ((1 + k) + 1) f fd ["value"] (spP K 1 (runP 1 2 (b__law_written (F__law_written k))))
    refine fn_pure (P := P) (w := w) (mg := mg) (base := base) F sc__law_written rfl rfl (fun cdv A outer s H E hr => ?_)
    exact ⟨_, (db_cons (ds_if (dt_val (de_isiV (n := "bool") (by rfl) T.b_isinstance (by rfl) T.b_bool (by decide +kernel) (dv 0))) (db_one (ds_ret (de_ix (de_lst (da_cons de_str (da_cons de_str da_nil))) (de_cT (call_int1) sc_int (by rfl) T.b_int (by decide +kernel) (da_cons (dv 0) da_nil))))) db_nil)
    (db_cons (ds_if (dt_val (de_isiV (n := "int") (by rfl) T.b_isinstance (by rfl) T.b_int (by decide +kernel) (dv 0))) (db_one (ds_ret (de_cT (call_str_T) sc_str (by rfl) T.b_str (by decide +kernel) (da_cons (dv 0) da_nil)))) db_nil)
    (db_cons (ds_if (dt_val (de_isiV (n := "str") (by rfl) T.b_isinstance (by rfl) T.b_str (by decide +kernel) (dv 0))) (db_one (ds_ret (de_op op_addD sw_add.two (de_op op_addD sw_add.two de_str (de_join de_str (de_split (dv 0) de_str))) de_str))) db_nil)
    (db_cons (ds_asg (i := 1) sc__law_written.nd rfl (by first | exact Or.inl rfl | exact Or.inr rfl) (de_join de_str (de_lc rfl sc__law_written.nd (di_seq (dc c__law_parts (hr.mono (by omega)) (da_cons (dv 0) da_nil))) (blkOk_by (own := [("part", 2)]) (N := N__law_written) (sc := defScope s__law_written) (by decide +kernel)) (fun _ _ _ _ _ => ⟨_, (dg_name (i := 2) sc__law_written.nd rfl (by first | exact Or.inl rfl | exact Or.inr rfl))⟩) (fun _ _ _ _ _ => ⟨_, dts_nil⟩) (fun _ _ _ _ _ => ⟨_, (dc c__law_written (hr.mono (by omega)) (da_cons (dv 2) da_nil))⟩))))
    (db_cons (ds_if (dt_cmp (op_eqD hr.units) sw_eq.two (de_ixV (dv 0) de_int) de_str) (db_one (ds_ret (de_op op_addD sw_add.two (de_op op_addD sw_add.two de_str (dv 1)) de_str))) db_nil)
    (db_cons (ds_if (dt_cmp (op_eqM hr.units) sw_eqM.two (dc c__law_parts (hr.mono (by omega)) (da_cons (dv 0) da_nil)) (de_tup da_nil)) (db_one (ds_ret (de_ixV (dv 0) de_int))) db_nil)
    (db_one (ds_ret (de_op op_addD sw_add.two (de_op op_addD sw_add.two (de_op op_addD sw_add.two (de_ixV (dv 0) de_int) de_str) (dv 1)) de_str)))))))))⟩
theorem ok__law_same {f : Addr} {fd : FuncData} (F : Fun K "_law_same" "_law_same" s__law_same f fd) (T : Tx mg) (b : Binds K fd ["actual", "expected"] []) (m : mg "_law_same" = some (.ref f)) : ∀ k : Nat, FnOk P w K mg base CX0 (0 + k) f fd ["actual", "expected"] (spP K 2 (F__law_same k))
  | 0 => (fn_none rfl).mono (Nat.zero_le _)
  | k + 1 => by
    have ih := ok__law_same F T  b m k
    have c__law_same : Cal P w K mg base "_law_same" (0 + k) ["actual", "expected"] (spP K 2 (F__law_same k)) := ⟨f, fd, ih, b, F.kp, m⟩
    show FnOk P w K mg base CX0 ((0 + k) + 1) f fd ["actual", "expected"] (spP K 2 (runP 2 1 (b__law_same (F__law_same k))))
    refine fn_pure (P := P) (w := w) (mg := mg) (base := base) F sc__law_same rfl rfl (fun cdv A outer s H E hr => ?_)
    exact ⟨_, (db_cons (ds_if (dt_cmp op_isN sr_isN (dv 1) de_non) (db_one (ds_ret (de_cmp op_isN sr_isN (dv 0) de_non))) db_nil)
    (db_cons (ds_if (dt_val (de_isiV (n := "bool") (by rfl) T.b_isinstance (by rfl) T.b_bool (by decide +kernel) (dv 1))) (db_one (ds_ret (de_and (de_isiV (n := "bool") (by rfl) T.b_isinstance (by rfl) T.b_bool (by decide +kernel) (dv 0)) (de_one (de_cmpV (op_eqD hr.units) sw_eq (dv 0) (dv 1)))))) db_nil)
    (db_cons (ds_if (dt_val (de_isiV (n := "int") (by rfl) T.b_isinstance (by rfl) T.b_int (by decide +kernel) (dv 1))) (db_one (ds_ret (de_and (de_isiV (n := "int") (by rfl) T.b_isinstance (by rfl) T.b_int (by decide +kernel) (dv 0)) (de_and (de_not (de_isiV (n := "bool") (by rfl) T.b_isinstance (by rfl) T.b_bool (by decide +kernel) (dv 0))) (de_one (de_cmpV (op_eqD hr.units) sw_eq (dv 0) (dv 1))))))) db_nil)
    (db_cons (ds_if (dt_val (de_isiV (n := "str") (by rfl) T.b_isinstance (by rfl) T.b_str (by decide +kernel) (dv 1))) (db_one (ds_ret (de_and (de_isiV (n := "str") (by rfl) T.b_isinstance (by rfl) T.b_str (by decide +kernel) (dv 0)) (de_one (de_cmpV (op_eqD hr.units) sw_eq (dv 0) (dv 1)))))) db_nil)
    (db_cons (ds_if (DW.dt (dw_and (dt_val (de_isiV (n := "tuple") (by rfl) T.b_isinstance (by rfl) T.b_tuple (by decide +kernel) (dv 1))) (dw_and1 (dt_not (dt_val (de_isiV (n := "tuple") (by rfl) T.b_isinstance (by rfl) T.b_tuple (by decide +kernel) (dv 0))))))) (db_one (ds_ret de_bl)) db_nil)
    (db_cons (ds_if (DW.dt (dw_and (dt_val (de_isiV (n := "list") (by rfl) T.b_isinstance (by rfl) T.b_list (by decide +kernel) (dv 1))) (dw_and1 (dt_not (dt_val (de_isiV (n := "list") (by rfl) T.b_isinstance (by rfl) T.b_list (by decide +kernel) (dv 0))))))) (db_one (ds_ret de_bl)) db_nil)
    (db_cons (ds_if (dt_cmp (op_neD hr.units) sw_ne.two (de_cBV call_len sw_len (by rfl) T.b_len PySem.boot_len (dv 0)) (de_cBV call_len sw_len (by rfl) T.b_len PySem.boot_len (dv 1))) (db_one (ds_ret de_bl)) db_nil)
    (db_cons (ds_for PassesOwn.never rfl (di_r1 (by rfl) T.b_range (da_cons (de_cBV call_len sw_len (by rfl) T.b_len PySem.boot_len (dv 1)) da_nil)) (dg_name (i := 2) sc__law_same.nd rfl (by first | exact Or.inl rfl | exact Or.inr rfl)) (db_one (ds_if (dt_not (dt_val (dc c__law_same (hr.mono (by omega)) (da_cons (de_ixV (dv 0) (dv 2)) (da_cons (de_ixV (dv 1) (dv 2)) da_nil))))) (db_one (ds_ret de_bl)) db_nil)))
    (db_one (ds_ret de_bl))))))))))⟩
theorem ok__law_told {f : Addr} {fd : FuncData} (F : Fun K "_law_told" "_law_told" s__law_told f fd) (T : Tx mg) (c_size : Cal P w K mg base "size" 2 ["value"] (spP K 1 (F_size))) (c_depth : Cal P w K mg base "depth" 2 ["value"] (spP K 1 (F_depth))) (c_is_large : Cal P w K mg base "is_large" 3 ["value"] (spP K 1 (F_is_large))) (c_write_value : Cal P w K mg base "write_value" 60 ["value"] (spP K 1 (F_write_value 60))) (c__law_same : Cal P w K mg base "_law_same" 120 ["actual", "expected"] (spP K 2 (F__law_same 120))) (c__law_size : Cal P w K mg base "_law_size" 61 ["value"] (spP K 1 (F__law_size 60))) (c__law_depth : Cal P w K mg base "_law_depth" 61 ["value"] (spP K 1 (F__law_depth 60))) (c__law_written : Cal P w K mg base "_law_written" 61 ["value"] (spP K 1 (F__law_written 60))) : FnOk P w K mg base CX0 121 f fd ["value"] (spP K 1 F__law_told) := by
  refine fn_pure (P := P) (w := w) (mg := mg) (base := base) (k := 120) F sc__law_told rfl rfl (fun cdv A outer s H E hr => ?_)
  exact ⟨_, (db_cons (ds_if (DW.dt (dw_or (dt_not (dt_val (dc c__law_same (hr.mono (by decide)) (da_cons (dc c_size (hr.mono (by decide)) (da_cons (dv 0) da_nil)) (da_cons (dc c__law_size (hr.mono (by decide)) (da_cons (dv 0) da_nil)) da_nil))))) (dw_or1 (dt_not (dt_val (dc c__law_same (hr.mono (by decide)) (da_cons (dc c_depth (hr.mono (by decide)) (da_cons (dv 0) da_nil)) (da_cons (dc c__law_depth (hr.mono (by decide)) (da_cons (dv 0) da_nil)) da_nil)))))))) (db_one (ds_ret de_bl)) db_nil)
    (db_cons (ds_asg (i := 1) sc__law_told.nd rfl (by first | exact Or.inl rfl | exact Or.inr rfl) (de_or (de_cmp op_gt sr_gt (dc c__law_size (hr.mono (by decide)) (da_cons (dv 0) da_nil)) de_int) (de_one (de_cmp op_gt sr_gt (dc c__law_depth (hr.mono (by decide)) (da_cons (dv 0) da_nil)) de_int))))
    (db_cons (ds_if (DW.dt (dw_and (dt_val (de_isiV (n := "int") (by rfl) T.b_isinstance (by rfl) T.b_int (by decide +kernel) (dv 0))) (dw_and1 (dt_not (dt_val (de_isiV (n := "bool") (by rfl) T.b_isinstance (by rfl) T.b_bool (by decide +kernel) (dv 0))))))) (db_one (ds_asg (i := 1) sc__law_told.nd rfl (by first | exact Or.inl rfl | exact Or.inr rfl) (de_not (de_chain op_lt sr_lt op_lt sr_lt (de_op op_sub sr_sub de_int (de_op op_mul sr_mul (de_op op_pow sr_pow de_int de_int) (de_op op_pow sr_pow de_int de_int))) (dv 0) (de_op op_mul sr_mul (de_op op_pow sr_pow de_int de_int) (de_op op_pow sr_pow de_int de_int)))))) db_nil)
    (db_one (ds_ret (de_and (dc c__law_same (hr.mono (by decide)) (da_cons (dc c_is_large (hr.mono (by decide)) (da_cons (dv 0) da_nil)) (da_cons (dv 1) da_nil))) (de_one (dc c__law_same (hr.mono (by decide)) (da_cons (dc c_write_value (hr.mono (by decide)) (da_cons (dv 0) da_nil)) (da_cons (dc c__law_written (hr.mono (by decide)) (da_cons (dv 0) da_nil)) da_nil))))))))))⟩
theorem ok_law {f : Addr} {fd : FuncData} (F : Fun K "law" "law" s_law f fd) (T : Tx mg) (c_same : Cal P w K mg base "same" 60 ["first", "second"] (spP K 2 (F_same 60))) (c__law_next : Cal P w K mg base "_law_next" 1 ["state", "limit"] (spI K 2 (F__law_next))) (c__law_same : Cal P w K mg base "_law_same" 120 ["actual", "expected"] (spP K 2 (F__law_same 120))) (c__law_value : Cal P w K mg base "_law_value" 10 ["state", "levels"] (spI K 2 (F__law_value 8))) (c__law_great : Cal P w K mg base "_law_great" 2 ["state"] (spI K 1 (F__law_great))) (c__law_turned : Cal P w K mg base "_law_turned" 61 ["state", "value"] (spI K 2 (F__law_turned 60))) (c__law_told : Cal P w K mg base "_law_told" 121 ["value"] (spP K 1 (F__law_told))) : FnOk P w K mg base CX0 122 f fd ["script"] (spP K 1 F_law) := by
  refine fn_pure (P := P) (w := w) (mg := mg) (base := base) (k := 121) F sc_law rfl rfl (fun cdv A outer s H E hr => ?_)
  exact ⟨_, (db_cons (ds_asg (i := 1) sc_law.nd rfl (by first | exact Or.inl rfl | exact Or.inr rfl) (de_lst (da_cons (de_cTV call_list_of sw_list (by rfl) T.b_list (by decide +kernel) (dv 0)) (da_cons de_int (da_cons de_int (da_cons de_int da_nil))))))
    (db_cons (ds_asg (i := 2) sc_law.nd rfl (by first | exact Or.inl rfl | exact Or.inr rfl) (dcI c__law_value (hr.mono (by decide)) (dv 1) (da_cons de_int da_nil)))
    (db_cons (ds_if (dt_cmp (op_eqD hr.units) sw_eq.two (dcI c__law_next (hr.mono (by decide)) (dv 1) (da_cons de_int da_nil)) de_int) (db_one (ds_asg (i := 2) sc_law.nd rfl (by first | exact Or.inl rfl | exact Or.inr rfl) (dcI c__law_great (hr.mono (by decide)) (dv 1) da_nil))) db_nil)
    (db_cons (ds_if (dt_cmp (op_eqD hr.units) sw_eq.two (dcI c__law_next (hr.mono (by decide)) (dv 1) (da_cons de_int da_nil)) de_int) (db_one (ds_asg (i := 2) sc_law.nd rfl (by first | exact Or.inl rfl | exact Or.inr rfl) (de_tup (da_cons de_str (da_cons (de_tup (da_cons (dv 2) da_nil)) da_nil))))) db_nil)
    (db_cons (ds_asg (i := 3) sc_law.nd rfl (by first | exact Or.inl rfl | exact Or.inr rfl) (dcI c__law_value (hr.mono (by decide)) (dv 1) (da_cons de_int da_nil)))
    (db_cons (ds_asg (i := 4) sc_law.nd rfl (by first | exact Or.inl rfl | exact Or.inr rfl) (dcI c__law_next (hr.mono (by decide)) (dv 1) (da_cons de_int da_nil)))
    (db_cons (ds_if (dt_cmpV (op_eqD hr.units) sw_eq (dv 4) de_int) (db_one (ds_asg (i := 3) sc_law.nd rfl (by first | exact Or.inl rfl | exact Or.inr rfl) (dv 2))) (db_one (ds_if (dt_cmp op_lt sr_lt (dv 4) de_int) (db_one (ds_asg (i := 3) sc_law.nd rfl (by first | exact Or.inl rfl | exact Or.inr rfl) (dcI c__law_turned (hr.mono (by decide)) (dv 1) (da_cons (dv 2) da_nil)))) db_nil)))
    (db_cons (ds_if (DW.dt (dw_or (dt_not (dt_val (dc c__law_told (hr.mono (by decide)) (da_cons (dv 2) da_nil)))) (dw_or1 (dt_not (dt_val (dc c__law_told (hr.mono (by decide)) (da_cons (dv 3) da_nil))))))) (db_one (ds_ret de_bl)) db_nil)
    (db_cons (ds_asg (i := 5) sc_law.nd rfl (by first | exact Or.inl rfl | exact Or.inr rfl) (de_and (dc c__law_same (hr.mono (by decide)) (da_cons (dv 2) (da_cons (dv 3) da_nil))) (de_one (dc c__law_same (hr.mono (by decide)) (da_cons (dv 3) (da_cons (dv 2) da_nil))))))
    (db_one (ds_ret (de_and (dc c__law_same (hr.mono (by decide)) (da_cons (dc c_same (hr.mono (by decide)) (da_cons (dv 2) (da_cons (dv 3) da_nil))) (da_cons (dv 5) da_nil))) (de_one (dc c__law_same (hr.mono (by decide)) (da_cons (dc c_same (hr.mono (by decide)) (da_cons (dv 3) (da_cons (dv 2) da_nil))) (da_cons (dv 5) da_nil))))))))))))))))⟩
end
theorem all_mk {l : PySem.W.OpenLaw} {w : World} {K : PySem.W.Frag} {h : Heap} {mg : Str → Option Value} {fa f0 f1 f2 f3 f4 f5 f6 f7 f8 f9 f10 f11 f12 f13 f14 f15 f16 f17 f18 f19 : Addr} (X : K.In h) (G : h.Ns mainGlobals mg) (hfa : mg "law" = some (.ref fa))
    {od0 an0 od1 an1 od2 an2 od3 an3 od4 an4 od5 an5 od6 an6 od7 an7 od8 an8 od9 an9 od10 an10 od11 an11 od12 an12 od13 an13 od14 an14 od15 an15 od16 an16 od17 an17 od18 an18 od19 an19 : Option Addr} {sl0 sl1 sl2 sl3 sl4 sl5 sl6 sl7 sl8 sl9 sl10 sl11 sl12 sl13 sl14 sl15 sl16 sl17 sl18 sl19 : Array (Option Value)} {oc0 kV0 dc0 pm0 cd0 ct0 oc1 kV1 dc1 pm1 cd1 ct1 oc2 kV2 dc2 pm2 cd2 ct2 oc3 kV3 dc3 pm3 cd3 ct3 oc4 kV4 dc4 pm4 cd4 ct4 oc5 kV5 dc5 pm5 cd5 ct5 oc6 kV6 dc6 pm6 cd6 ct6 oc7 kV7 dc7 pm7 cd7 ct7 oc8 kV8 dc8 pm8 cd8 ct8 oc9 kV9 dc9 pm9 cd9 ct9 oc10 kV10 dc10 pm10 cd10 ct10 oc11 kV11 dc11 pm11 cd11 ct11 oc12 kV12 dc12 pm12 cd12 ct12 oc13 kV13 dc13 pm13 cd13 ct13 oc14 kV14 dc14 pm14 cd14 ct14 oc15 kV15 dc15 pm15 cd15 ct15 oc16 kV16 dc16 pm16 cd16 ct16 oc17 kV17 dc17 pm17 cd17 ct17 oc18 kV18 dc18 pm18 cd18 ct18 oc19 kV19 dc19 pm19 cd19 ct19 : Value}
    (a0 : PySem.W.nsIn K mainGlobals "is_number" = some (some (.ref f0))) (l0 : K.lookup f0 = some ⟨oc0, od0, .func (PySem.W.fnOf "is_number" "is_number" (defArgs s_is_number) (defBody s_is_number) (defScope s_is_number) .none kV0 dc0 pm0 an0 cd0 ct0), sl0⟩) (c0 : PySem.W.codeIn K cd0 "is_number" = true) (k0 : PySem.W.keepIn K (.ref f0) = true)
    (a1 : PySem.W.nsIn K mainGlobals "members" = some (some (.ref f1))) (l1 : K.lookup f1 = some ⟨oc1, od1, .func (PySem.W.fnOf "members" "members" (defArgs s_members) (defBody s_members) (defScope s_members) .none kV1 dc1 pm1 an1 cd1 ct1), sl1⟩) (c1 : PySem.W.codeIn K cd1 "members" = true) (k1 : PySem.W.keepIn K (.ref f1) = true)
    (a2 : PySem.W.nsIn K mainGlobals "same" = some (some (.ref f2))) (l2 : K.lookup f2 = some ⟨oc2, od2, .func (PySem.W.fnOf "same" "same" (defArgs s_same) (defBody s_same) (defScope s_same) .none kV2 dc2 pm2 an2 cd2 ct2), sl2⟩) (c2 : PySem.W.codeIn K cd2 "same" = true) (k2 : PySem.W.keepIn K (.ref f2) = true)
    (a3 : PySem.W.nsIn K mainGlobals "size" = some (some (.ref f3))) (l3 : K.lookup f3 = some ⟨oc3, od3, .func (PySem.W.fnOf "size" "size" (defArgs s_size) (defBody s_size) (defScope s_size) .none kV3 dc3 pm3 an3 cd3 ct3), sl3⟩) (c3 : PySem.W.codeIn K cd3 "size" = true) (k3 : PySem.W.keepIn K (.ref f3) = true)
    (a4 : PySem.W.nsIn K mainGlobals "depth" = some (some (.ref f4))) (l4 : K.lookup f4 = some ⟨oc4, od4, .func (PySem.W.fnOf "depth" "depth" (defArgs s_depth) (defBody s_depth) (defScope s_depth) .none kV4 dc4 pm4 an4 cd4 ct4), sl4⟩) (c4 : PySem.W.codeIn K cd4 "depth" = true) (k4 : PySem.W.keepIn K (.ref f4) = true)
    (a5 : PySem.W.nsIn K mainGlobals "is_large" = some (some (.ref f5))) (l5 : K.lookup f5 = some ⟨oc5, od5, .func (PySem.W.fnOf "is_large" "is_large" (defArgs s_is_large) (defBody s_is_large) (defScope s_is_large) .none kV5 dc5 pm5 an5 cd5 ct5), sl5⟩) (c5 : PySem.W.codeIn K cd5 "is_large" = true) (k5 : PySem.W.keepIn K (.ref f5) = true)
    (a6 : PySem.W.nsIn K mainGlobals "write_value" = some (some (.ref f6))) (l6 : K.lookup f6 = some ⟨oc6, od6, .func (PySem.W.fnOf "write_value" "write_value" (defArgs s_write_value) (defBody s_write_value) (defScope s_write_value) .none kV6 dc6 pm6 an6 cd6 ct6), sl6⟩) (c6 : PySem.W.codeIn K cd6 "write_value" = true) (k6 : PySem.W.keepIn K (.ref f6) = true)
    (a7 : PySem.W.nsIn K mainGlobals "_law_next" = some (some (.ref f7))) (l7 : K.lookup f7 = some ⟨oc7, od7, .func (PySem.W.fnOf "_law_next" "_law_next" (defArgs s__law_next) (defBody s__law_next) (defScope s__law_next) .none kV7 dc7 pm7 an7 cd7 ct7), sl7⟩) (c7 : PySem.W.codeIn K cd7 "_law_next" = true) (k7 : PySem.W.keepIn K (.ref f7) = true)
    (a8 : PySem.W.nsIn K mainGlobals "_law_same" = some (some (.ref f8))) (l8 : K.lookup f8 = some ⟨oc8, od8, .func (PySem.W.fnOf "_law_same" "_law_same" (defArgs s__law_same) (defBody s__law_same) (defScope s__law_same) .none kV8 dc8 pm8 an8 cd8 ct8), sl8⟩) (c8 : PySem.W.codeIn K cd8 "_law_same" = true) (k8 : PySem.W.keepIn K (.ref f8) = true)
    (a9 : PySem.W.nsIn K mainGlobals "_law_char" = some (some (.ref f9))) (l9 : K.lookup f9 = some ⟨oc9, od9, .func (PySem.W.fnOf "_law_char" "_law_char" (defArgs s__law_char) (defBody s__law_char) (defScope s__law_char) .none kV9 dc9 pm9 an9 cd9 ct9), sl9⟩) (c9 : PySem.W.codeIn K cd9 "_law_char" = true) (k9 : PySem.W.keepIn K (.ref f9) = true)
    (a10 : PySem.W.nsIn K mainGlobals "_law_scalar" = some (some (.ref f10))) (l10 : K.lookup f10 = some ⟨oc10, od10, .func (PySem.W.fnOf "_law_scalar" "_law_scalar" (defArgs s__law_scalar) (defBody s__law_scalar) (defScope s__law_scalar) .none kV10 dc10 pm10 an10 cd10 ct10), sl10⟩) (c10 : PySem.W.codeIn K cd10 "_law_scalar" = true) (k10 : PySem.W.keepIn K (.ref f10) = true)
    (a11 : PySem.W.nsIn K mainGlobals "_law_value" = some (some (.ref f11))) (l11 : K.lookup f11 = some ⟨oc11, od11, .func (PySem.W.fnOf "_law_value" "_law_value" (defArgs s__law_value) (defBody s__law_value) (defScope s__law_value) .none kV11 dc11 pm11 an11 cd11 ct11), sl11⟩) (c11 : PySem.W.codeIn K cd11 "_law_value" = true) (k11 : PySem.W.keepIn K (.ref f11) = true)
    (a12 : PySem.W.nsIn K mainGlobals "_law_great" = some (some (.ref f12))) (l12 : K.lookup f12 = some ⟨oc12, od12, .func (PySem.W.fnOf "_law_great" "_law_great" (defArgs s__law_great) (defBody s__law_great) (defScope s__law_great) .none kV12 dc12 pm12 an12 cd12 ct12), sl12⟩) (c12 : PySem.W.codeIn K cd12 "_law_great" = true) (k12 : PySem.W.keepIn K (.ref f12) = true)
    (a13 : PySem.W.nsIn K mainGlobals "_law_turned" = some (some (.ref f13))) (l13 : K.lookup f13 = some ⟨oc13, od13, .func (PySem.W.fnOf "_law_turned" "_law_turned" (defArgs s__law_turned) (defBody s__law_turned) (defScope s__law_turned) .none kV13 dc13 pm13 an13 cd13 ct13), sl13⟩) (c13 : PySem.W.codeIn K cd13 "_law_turned" = true) (k13 : PySem.W.keepIn K (.ref f13) = true)
    (a14 : PySem.W.nsIn K mainGlobals "_law_parts" = some (some (.ref f14))) (l14 : K.lookup f14 = some ⟨oc14, od14, .func (PySem.W.fnOf "_law_parts" "_law_parts" (defArgs s__law_parts) (defBody s__law_parts) (defScope s__law_parts) .none kV14 dc14 pm14 an14 cd14 ct14), sl14⟩) (c14 : PySem.W.codeIn K cd14 "_law_parts" = true) (k14 : PySem.W.keepIn K (.ref f14) = true)
    (a15 : PySem.W.nsIn K mainGlobals "_law_size" = some (some (.ref f15))) (l15 : K.lookup f15 = some ⟨oc15, od15, .func (PySem.W.fnOf "_law_size" "_law_size" (defArgs s__law_size) (defBody s__law_size) (defScope s__law_size) .none kV15 dc15 pm15 an15 cd15 ct15), sl15⟩) (c15 : PySem.W.codeIn K cd15 "_law_size" = true) (k15 : PySem.W.keepIn K (.ref f15) = true)
    (a16 : PySem.W.nsIn K mainGlobals "_law_depth" = some (some (.ref f16))) (l16 : K.lookup f16 = some ⟨oc16, od16, .func (PySem.W.fnOf "_law_depth" "_law_depth" (defArgs s__law_depth) (defBody s__law_depth) (defScope s__law_depth) .none kV16 dc16 pm16 an16 cd16 ct16), sl16⟩) (c16 : PySem.W.codeIn K cd16 "_law_depth" = true) (k16 : PySem.W.keepIn K (.ref f16) = true)
    (a17 : PySem.W.nsIn K mainGlobals "_law_written" = some (some (.ref f17))) (l17 : K.lookup f17 = some ⟨oc17, od17, .func (PySem.W.fnOf "_law_written" "_law_written" (defArgs s__law_written) (defBody s__law_written) (defScope s__law_written) .none kV17 dc17 pm17 an17 cd17 ct17), sl17⟩) (c17 : PySem.W.codeIn K cd17 "_law_written" = true) (k17 : PySem.W.keepIn K (.ref f17) = true)
    (a18 : PySem.W.nsIn K mainGlobals "_law_told" = some (some (.ref f18))) (l18 : K.lookup f18 = some ⟨oc18, od18, .func (PySem.W.fnOf "_law_told" "_law_told" (defArgs s__law_told) (defBody s__law_told) (defScope s__law_told) .none kV18 dc18 pm18 an18 cd18 ct18), sl18⟩) (c18 : PySem.W.codeIn K cd18 "_law_told" = true) (k18 : PySem.W.keepIn K (.ref f18) = true)
    (a19 : PySem.W.nsIn K mainGlobals "law" = some (some (.ref f19))) (l19 : K.lookup f19 = some ⟨oc19, od19, .func (PySem.W.fnOf "law" "law" (defArgs s_law) (defBody s_law) (defScope s_law) .none kV19 dc19 pm19 an19 cd19 ct19), sl19⟩) (c19 : PySem.W.codeIn K cd19 "law" = true) (k19 : PySem.W.keepIn K (.ref f19) = true)
    (z0 : PySem.W.nsIn K mainGlobals "abs" = some none) (z1 : PySem.W.nsIn K mainGlobals "bool" = some none) (z2 : PySem.W.nsIn K mainGlobals "int" = some none) (z3 : PySem.W.nsIn K mainGlobals "isinstance" = some none) (z4 : PySem.W.nsIn K mainGlobals "len" = some none) (z5 : PySem.W.nsIn K mainGlobals "list" = some none) (z6 : PySem.W.nsIn K mainGlobals "max" = some none) (z7 : PySem.W.nsIn K mainGlobals "range" = some none) (z8 : PySem.W.nsIn K mainGlobals "str" = some none) (z9 : PySem.W.nsIn K mainGlobals "tuple" = some none) (z10 : PySem.W.nsIn K mainGlobals "zip" = some none)
    {tk0 : Tok} (g0 : PySem.W.nsIn K mainGlobals "MOST_DEPTH" = some (some (.int (40) tk0))) {tk1 : Tok} (g1 : PySem.W.nsIn K mainGlobals "MOST_NUMBER" = some (some (.int (1267650600228229401496703205375) tk1))) {tk2 : Tok} (g2 : PySem.W.nsIn K mainGlobals "MOST_SIZE" = some (some (.int (1000) tk2))) :
    ∃ fd : FuncData, (∀ (s : Shared) (v : Value), BindsTo s fd ⟨[v], []⟩ [("script", v)]) ∧ ∀ base : Heap, K.In base → base.Ns mainGlobals mg → FnOk l.prog w K mg base CX0 122 fa fd ["script"] (spP K 1 F_law) := by
  have e := hfa.symm.trans (PySem.W.mg_of X G a19)
  cases e
  have T : Tx mg := ⟨PySem.W.mg_none_of X G z0, PySem.W.mg_none_of X G z1, PySem.W.mg_none_of X G z2, PySem.W.mg_none_of X G z3, PySem.W.mg_none_of X G z4, PySem.W.mg_none_of X G z5, PySem.W.mg_none_of X G z6, PySem.W.mg_none_of X G z7, PySem.W.mg_none_of X G z8, PySem.W.mg_none_of X G z9, PySem.W.mg_none_of X G z10, ⟨_, PySem.W.mg_of X G g0⟩, ⟨_, PySem.W.mg_of X G g1⟩, ⟨_, PySem.W.mg_of X G g2⟩⟩
  have F0 := fun_mk (st := s_is_number) l0 c0 k0
  have b0 := F0.binds (ps := ["value"]) fun _ _ _ _ _ _ us hl => match us, hl with | [_], _ => rfl
  have F1 := fun_mk (st := s_members) l1 c1 k1
  have b1 := F1.binds (ps := ["value"]) fun _ _ _ _ _ _ us hl => match us, hl with | [_], _ => rfl
  have F2 := fun_mk (st := s_same) l2 c2 k2
  have b2 := F2.binds (ps := ["first", "second"]) fun _ _ _ _ _ _ us hl => match us, hl with | [_, _], _ => rfl
  have F3 := fun_mk (st := s_size) l3 c3 k3
  have b3 := F3.binds (ps := ["value"]) fun _ _ _ _ _ _ us hl => match us, hl with | [_], _ => rfl
  have F4 := fun_mk (st := s_depth) l4 c4 k4
  have b4 := F4.binds (ps := ["value"]) fun _ _ _ _ _ _ us hl => match us, hl with | [_], _ => rfl
  have F5 := fun_mk (st := s_is_large) l5 c5 k5
  have b5 := F5.binds (ps := ["value"]) fun _ _ _ _ _ _ us hl => match us, hl with | [_], _ => rfl
  have F6 := fun_mk (st := s_write_value) l6 c6 k6
  have b6 := F6.binds (ps := ["value"]) fun _ _ _ _ _ _ us hl => match us, hl with | [_], _ => rfl
  have F7 := fun_mk (st := s__law_next) l7 c7 k7
  have b7 := F7.binds (ps := ["state", "limit"]) fun _ _ _ _ _ _ us hl => match us, hl with | [_, _], _ => rfl
  have F8 := fun_mk (st := s__law_same) l8 c8 k8
  have b8 := F8.binds (ps := ["actual", "expected"]) fun _ _ _ _ _ _ us hl => match us, hl with | [_, _], _ => rfl
  have F9 := fun_mk (st := s__law_char) l9 c9 k9
  have b9 := F9.binds (ps := ["index"]) fun _ _ _ _ _ _ us hl => match us, hl with | [_], _ => rfl
  have F10 := fun_mk (st := s__law_scalar) l10 c10 k10
  have b10 := F10.binds (ps := ["state"]) fun _ _ _ _ _ _ us hl => match us, hl with | [_], _ => rfl
  have F11 := fun_mk (st := s__law_value) l11 c11 k11
  have b11 := F11.binds (ps := ["state", "levels"]) fun _ _ _ _ _ _ us hl => match us, hl with | [_, _], _ => rfl
  have F12 := fun_mk (st := s__law_great) l12 c12 k12
  have b12 := F12.binds (ps := ["state"]) fun _ _ _ _ _ _ us hl => match us, hl with | [_], _ => rfl
  have F13 := fun_mk (st := s__law_turned) l13 c13 k13
  have b13 := F13.binds (ps := ["state", "value"]) fun _ _ _ _ _ _ us hl => match us, hl with | [_, _], _ => rfl
  have F14 := fun_mk (st := s__law_parts) l14 c14 k14
  have b14 := F14.binds (ps := ["value"]) fun _ _ _ _ _ _ us hl => match us, hl with | [_], _ => rfl
  have F15 := fun_mk (st := s__law_size) l15 c15 k15
  have b15 := F15.binds (ps := ["value"]) fun _ _ _ _ _ _ us hl => match us, hl with | [_], _ => rfl
  have F16 := fun_mk (st := s__law_depth) l16 c16 k16
  have b16 := F16.binds (ps := ["value"]) fun _ _ _ _ _ _ us hl => match us, hl with | [_], _ => rfl
  have F17 := fun_mk (st := s__law_written) l17 c17 k17
  have b17 := F17.binds (ps := ["value"]) fun _ _ _ _ _ _ us hl => match us, hl with | [_], _ => rfl
  have F18 := fun_mk (st := s__law_told) l18 c18 k18
  have b18 := F18.binds (ps := ["value"]) fun _ _ _ _ _ _ us hl => match us, hl with | [_], _ => rfl
  have F19 := fun_mk (st := s_law) l19 c19 k19
  refine ⟨PySem.W.fnOf "law" "law" (defArgs s_law) (defBody s_law) (defScope s_law) .none kV19 dc19 pm19 an19 cd19 ct19, fun s v => .of_eq rfl, fun base _ _ => ?_⟩
  have c_is_number : Cal l.prog w K mg base "is_number" 1 ["value"] (spP K 1 F_is_number) := ⟨f0, _, ok_is_number F0 T , b0, k0, (PySem.W.mg_of X G a0)⟩
  have c_members : Cal l.prog w K mg base "members" 1 ["value"] (spP K 1 F_members) := ⟨f1, _, ok_members F1 T , b1, k1, (PySem.W.mg_of X G a1)⟩
  have c__law_next : Cal l.prog w K mg base "_law_next" 1 ["state", "limit"] (spI K 2 F__law_next) := ⟨f7, _, ok__law_next F7 T , b7, k7, (PySem.W.mg_of X G a7)⟩
  have c__law_char : Cal l.prog w K mg base "_law_char" 1 ["index"] (spP K 1 F__law_char) := ⟨f9, _, ok__law_char F9 T , b9, k9, (PySem.W.mg_of X G a9)⟩
  have c__law_parts : Cal l.prog w K mg base "_law_parts" 1 ["value"] (spP K 1 F__law_parts) := ⟨f14, _, ok__law_parts F14 T , b14, k14, (PySem.W.mg_of X G a14)⟩
  have c_size : Cal l.prog w K mg base "size" 2 ["value"] (spP K 1 F_size) := ⟨f3, _, ok_size F3 T c_members, b3, k3, (PySem.W.mg_of X G a3)⟩
  have c_depth : Cal l.prog w K mg base "depth" 2 ["value"] (spP K 1 F_depth) := ⟨f4, _, ok_depth F4 T c_members, b4, k4, (PySem.W.mg_of X G a4)⟩
  have c__law_scalar : Cal l.prog w K mg base "_law_scalar" 2 ["state"] (spI K 1 F__law_scalar) := ⟨f10, _, ok__law_scalar F10 T c__law_next c__law_char, b10, k10, (PySem.W.mg_of X G a10)⟩
  have c__law_great : Cal l.prog w K mg base "_law_great" 2 ["state"] (spI K 1 F__law_great) := ⟨f12, _, ok__law_great F12 T c__law_next, b12, k12, (PySem.W.mg_of X G a12)⟩
  have c_is_large : Cal l.prog w K mg base "is_large" 3 ["value"] (spP K 1 F_is_large) := ⟨f5, _, ok_is_large F5 T c_is_number c_size c_depth, b5, k5, (PySem.W.mg_of X G a5)⟩
  have c__law_value : Cal l.prog w K mg base "_law_value" 10 ["state", "levels"] (spI K 2 (F__law_value 8)) := ⟨f11, _, ok__law_value F11 T c__law_next c__law_scalar b11 (PySem.W.mg_of X G a11) 8, b11, k11, (PySem.W.mg_of X G a11)⟩
  have c_same : Cal l.prog w K mg base "same" 60 ["first", "second"] (spP K 2 (F_same 60)) := ⟨f2, _, ok_same F2 T  b2 (PySem.W.mg_of X G a2) 60, b2, k2, (PySem.W.mg_of X G a2)⟩
  have c_write_value : Cal l.prog w K mg base "write_value" 60 ["value"] (spP K 1 (F_write_value 60)) := ⟨f6, _, ok_write_value F6 T  b6 (PySem.W.mg_of X G a6) 60, b6, k6, (PySem.W.mg_of X G a6)⟩
  have c__law_turned : Cal l.prog w K mg base "_law_turned" 61 ["state", "value"] (spI K 2 (F__law_turned 60)) := ⟨f13, _, ok__law_turned F13 T c__law_next b13 (PySem.W.mg_of X G a13) 60, b13, k13, (PySem.W.mg_of X G a13)⟩
  have c__law_size : Cal l.prog w K mg base "_law_size" 61 ["value"] (spP K 1 (F__law_size 60)) := ⟨f15, _, ok__law_size F15 T c__law_parts b15 (PySem.W.mg_of X G a15) 60, b15, k15, (PySem.W.mg_of X G a15)⟩
  have c__law_depth : Cal l.prog w K mg base "_law_depth" 61 ["value"] (spP K 1 (F__law_depth 60)) := ⟨f16, _, ok__law_depth F16 T c__law_parts b16 (PySem.W.mg_of X G a16) 60, b16, k16, (PySem.W.mg_of X G a16)⟩
  have c__law_written : Cal l.prog w K mg base "_law_written" 61 ["value"] (spP K 1 (F__law_written 60)) := ⟨f17, _, ok__law_written F17 T c__law_parts b17 (PySem.W.mg_of X G a17) 60, b17, k17, (PySem.W.mg_of X G a17)⟩
  have c__law_same : Cal l.prog w K mg base "_law_same" 120 ["actual", "expected"] (spP K 2 (F__law_same 120)) := ⟨f8, _, ok__law_same F8 T  b8 (PySem.W.mg_of X G a8) 120, b8, k8, (PySem.W.mg_of X G a8)⟩
  have c__law_told : Cal l.prog w K mg base "_law_told" 121 ["value"] (spP K 1 F__law_told) := ⟨f18, _, ok__law_told F18 T c_size c_depth c_is_large c_write_value c__law_same c__law_size c__law_depth c__law_written, b18, k18, (PySem.W.mg_of X G a18)⟩
  exact ok_law F19 T c_same c__law_next c__law_same c__law_value c__law_great c__law_turned c__law_told
end My
end
section
set_option Elab.async false
set_option linter.all false
set_option maxRecDepth 100000
set_option maxHeartbeats 4000000
namespace My
open PySem PySem.Spec PyProof.Rows L2 Qp
/-! values, by themselves -/
inductive U where
  | int (i : Int) | bool (b : Bool) | str (s : Str) | lst (us : List U) | mk (m : Str) (us : List U)
def kids : U → List U
  | .lst us => us
  | .mk _ us => us
  | _ => []
def BI : Nat := 10000000000000000000000000000000000000000
def UOk : Nat → U → Prop
  | 0, _ => False
  | k + 1, u => match u with
    | .int i => i.natAbs < BI
    | .bool _ => True
    | .str s => VS s ∧ s.length ≤ 2000
    | .lst us => us.length ≤ 2000 ∧ ∀ v ∈ us, UOk k v
    | .mk m us => (VS m ∧ 1 ≤ m.length ∧ m.length ≤ 10) ∧ us.length ≤ 2000 ∧ ∀ v ∈ us, UOk k v
theorem UOk.up : ∀ {k : Nat} {u : U}, UOk k u → UOk (k + 1) u
  | 0, _, h => h.elim
  | k + 1, .int _, h => h
  | k + 1, .bool _, h => h
  | k + 1, .str _, h => h
  | k + 1, .lst us, h => ⟨h.1, fun v hv => (h.2 v hv).up⟩
  | k + 1, .mk m us, h => ⟨h.1, h.2.1, fun v hv => (h.2.2 v hv).up⟩
theorem UOk.le {k m : Nat} {u : U} (h : UOk k u) (hm : k ≤ m) : UOk m u := by
  obtain ⟨d, rfl⟩ := Nat.exists_eq_add_of_le hm
  clear hm
  induction d with
  | zero => exact h
  | succ d ih => exact ih.up
theorem UOk.kids {k : Nat} {u : U} (h : UOk (k + 1) u) : ∀ v ∈ kids u, UOk k v := by
  cases u with
  | lst us => exact h.2
  | mk m us => exact h.2.2
  | int => exact fun v hv => by cases hv
  | bool => exact fun v hv => by cases hv
  | str => exact fun v hv => by cases hv
mutual
def encU : U → D
  | .int i => .int i
  | .bool b => .bool b
  | .str s => .str s
  | .lst us => .tuple [.str "list", .tuple (encUs us)]
  | .mk m us => .tuple [.str "make", .str m, .tuple (encUs us)]
def encUs : List U → List D
  | [] => []
  | u :: us => encU u :: encUs us
end
theorem encUs_map : ∀ us : List U, encUs us = us.map encU
  | [] => rfl
  | u :: us => by show encU u :: encUs us = _; rw [encUs_map us]; rfl
@[simp] theorem encUs_len (us : List U) : (encUs us).length = us.length := by rw [encUs_map, List.length_map]
theorem encUs_app (a b : List U) : encUs (a ++ b) = encUs a ++ encUs b := by rw [encUs_map, encUs_map, encUs_map, List.map_append]
def slen : U → Nat
  | .str s => s.length
  | _ => 0
mutual
def sz : U → Nat
  | .int _ => 1
  | .bool _ => 1
  | .str s => 1 + s.length
  | .lst us => 1 + szs us
  | .mk _ us => 1 + szs us
def szs : List U → Nat
  | [] => 0
  | u :: us => sz u + szs us
end
mutual
def dp : U → Nat
  | .int _ => 1
  | .bool _ => 1
  | .str _ => 1
  | .lst us => 1 + dps us
  | .mk _ us => 1 + dps us
def dps : List U → Nat
  | [] => 0
  | u :: us => max (dp u) (dps us)
end
theorem szs_app : ∀ a b : List U, szs (a ++ b) = szs a + szs b
  | [], b => by simp [szs]
  | u :: a, b => by rw [List.cons_append]; simp only [szs]; rw [szs_app a b]; omega
theorem sz_kids (u : U) : sz u = 1 + slen u + szs (kids u) := by cases u <;> simp [sz, slen, kids, szs]
theorem dp_kids (u : U) : dp u = 1 + dps (kids u) := by cases u <;> simp [dp, kids, dps]
theorem sz_pos (u : U) : 1 ≤ sz u := by rw [sz_kids]; omega
theorem len_szs : ∀ us : List U, us.length ≤ szs us
  | [] => Nat.zero_le _
  | u :: us => by
    have := sz_pos u
    have := len_szs us
    simp only [List.length_cons, szs]
    omega
theorem dps_app : ∀ a b : List U, dps (a ++ b) = max (dps a) (dps b)
  | [], b => by simp [dps]
  | u :: a, b => by rw [List.cons_append]; simp only [dps]; rw [dps_app a b]; omega
theorem dps_flat : ∀ us : List U, us ≠ [] → dps us = 1 + dps (us.flatMap kids)
  | [], h => absurd rfl h
  | [u], _ => by simp [dps, dp_kids]
  | u :: v :: us, _ => by
    have ih := dps_flat (v :: us) (by simp)
    rw [List.flatMap_cons, dps_app]
    simp only [dps] at ih ⊢
    rw [dp_kids u]
    omega
theorem szs_flat : ∀ us : List U, szs (us.flatMap kids) ≤ szs us
  | [] => Nat.le_refl _
  | u :: us => by
    rw [List.flatMap_cons, szs_app]
    simp only [szs]
    have := szs_flat us
    have := sz_kids u
    omega
theorem dp_le : ∀ {k : Nat} {u : U}, UOk k u → dp u ≤ k
  | 0, _, h => h.elim
  | k + 1, u, h => by
    have hk := h.kids
    rw [dp_kids]
    have gen : ∀ us : List U, (∀ v ∈ us, UOk k v) → dps us ≤ k := by
      intro us
      induction us with
      | nil => intro _; exact Nat.zero_le _
      | cons v us ih =>
        intro h
        have h1 := dp_le (h v List.mem_cons_self)
        have h2 := ih fun w hw => h w (List.mem_cons_of_mem _ hw)
        simp only [dps]
        omega
    have := gen _ hk
    omega
/-! ### alike -/
mutual
def eqU : U → U → Bool
  | .int i, .int j => i == j
  | .bool a, .bool b => a == b
  | .str s, .str t => s == t
  | .lst us, .lst vs => eqUs us vs
  | .mk m us, .mk n vs => (m == n) && eqUs us vs
  | _, _ => false
def eqUs : List U → List U → Bool
  | [], [] => true
  | u :: us, v :: vs => eqU u v && eqUs us vs
  | _, _ => false
end
theorem beq_cm {α : Type} [BEq α] [LawfulBEq α] (a b : α) : (a == b) = (b == a) := by
  rw [Bool.eq_iff_iff, beq_iff_eq, beq_iff_eq]
  exact eq_comm
mutual
theorem eqU_cm : ∀ u v : U, eqU u v = eqU v u
  | .int i, .int j => by simp only [eqU]; exact beq_cm _ _
  | .bool a, .bool b => by simp only [eqU]; exact beq_cm _ _
  | .str s, .str t => by simp only [eqU]; exact beq_cm _ _
  | .lst us, .lst vs => by simp only [eqU]; exact eqUs_cm us vs
  | .mk m us, .mk n vs => by simp only [eqU]; rw [eqUs_cm us vs, beq_cm m n]
  | .int _, .bool _ => rfl
  | .int _, .str _ => rfl
  | .int _, .lst _ => rfl
  | .int _, .mk _ _ => rfl
  | .bool _, .int _ => rfl
  | .bool _, .str _ => rfl
  | .bool _, .lst _ => rfl
  | .bool _, .mk _ _ => rfl
  | .str _, .int _ => rfl
  | .str _, .bool _ => rfl
  | .str _, .lst _ => rfl
  | .str _, .mk _ _ => rfl
  | .lst _, .int _ => rfl
  | .lst _, .bool _ => rfl
  | .lst _, .str _ => rfl
  | .lst _, .mk _ _ => rfl
  | .mk _ _, .int _ => rfl
  | .mk _ _, .bool _ => rfl
  | .mk _ _, .str _ => rfl
  | .mk _ _, .lst _ => rfl
theorem eqUs_cm : ∀ us vs : List U, eqUs us vs = eqUs vs us
  | [], [] => rfl
  | [], _ :: _ => rfl
  | _ :: _, [] => rfl
  | u :: us, v :: vs => by simp only [eqUs]; rw [eqU_cm u v, eqUs_cm us vs]
end
theorem eqUs_len : ∀ us vs : List U, us.length ≠ vs.length → eqUs us vs = false
  | [], [], h => absurd rfl h
  | [], _ :: _, _ => rfl
  | _ :: _, [], _ => rfl
  | u :: us, v :: vs, h => by
    simp only [eqUs]
    rw [eqUs_len us vs (by simpa using h), Bool.and_false]
/-! ### as text -/
def wrI (i : Int) : Str := strI i
def qt : Str := "'"
def wrS (s : Str) : Str := qt ++ Txt.replace s "'" "''" ++ qt
mutual
def wr : U → Str
  | .int i => strI i
  | .bool b => if b then "true" else "false"
  | .str s => wrS s
  | .lst us => ("[" : Str) ++ Txt.join ", " (wrs us) ++ ("]" : Str)
  | .mk m us => if us.isEmpty = true then m else m ++ ("(" : Str) ++ Txt.join ", " (wrs us) ++ (")" : Str)
def wrs : List U → List Str
  | [] => []
  | u :: us => wr u :: wrs us
end
theorem wrs_map : ∀ us : List U, wrs us = us.map wr
  | [] => rfl
  | u :: us => by show wr u :: wrs us = _; rw [wrs_map us]; rfl
end My
end
section
set_option Elab.async false
set_option linter.all false
set_option maxRecDepth 100000
set_option maxHeartbeats 4000000
namespace My
open PySem PySem.Spec PyProof.Rows L2 Qp
theorem loopF_step {gt : GX} {p : SX} {x : D} {r : List D} {cs c1 c2 : En} (h1 : gt x cs = some c1) (h2 : p c1 = some (.nx c2)) : loopF gt p (x :: r) cs = loopF gt p r c2 := by
  rw [loopF_cons, h1, kL1_s, h2, kL2_n]
theorem loopW_step {t : TX} {p : SX} {n : Nat} {cs c1 c2 : En} (h1 : t cs = some (true, c1)) (h2 : p c1 = some (.nx c2)) : loopW t p (n + 1) cs = loopW t p n c2 := by
  rw [loopW_succ, h1, kW1_t, h2, kW2_n]
theorem loopW_stop {t : TX} {p : SX} {n : Nat} {cs c1 : En} (h1 : t cs = some (false, c1)) : loopW t p (n + 1) cs = some (.nx c1) := by
  rw [loopW_succ, h1, kW1_f]
@[simp] theorem at2m {x y : D} : atD [x, y] (-1) = some y := by
  rfl
@[simp] theorem at3m {x y z : D} : atD [x, y, z] (-1) = some z := by
  rfl
theorem members_ok (u : U) : F_members [encU u] = some (.tuple (encUs (kids u)), false) := by
  unfold F_members runP b_members
  cases u with
  | int i => simp -implicitDefEqProofs [encU, kids, encUs, isT]
  | bool i => simp -implicitDefEqProofs [encU, kids, encUs, isT]
  | str i => simp -implicitDefEqProofs [encU, kids, encUs, isT]
  | lst us => simp -implicitDefEqProofs [encU, kids, isT]
  | mk m us => simp -implicitDefEqProofs [encU, kids, isT]
theorem parts_ok (u : U) : F__law_parts [encU u] = some (.tuple (encUs (kids u)), false) := by
  unfold F__law_parts runP b__law_parts
  cases u with
  | int i => simp -implicitDefEqProofs [encU, kids, encUs, isT]
  | bool i => simp -implicitDefEqProofs [encU, kids, encUs, isT]
  | str i => simp -implicitDefEqProofs [encU, kids, encUs, isT]
  | lst us => simp -implicitDefEqProofs [encU, kids, isT]
  | mk m us => simp -implicitDefEqProofs [encU, kids, isT]
theorem isStr_enc (u : U) : isT "str" (encU u) = match u with | .str _ => true | _ => false := by cases u <;> rfl
theorem law_size_ok : ∀ (k : Nat) (u : U), UOk k u → F__law_size k [encU u] = some (.int (sz u : Int), false)
  | 0, _, h => h.elim
  | k + 1, u, h => by
    show runP 1 2 (b__law_size (F__law_size k)) [encU u] = _
    have lp : ∀ (us : List U), (∀ v ∈ us, UOk k v) → ∀ (t : Nat) (x : Cell) (a0 : D), kNo (some x) = true → ∃ y, loopF (gx 2) (L__law_size_1 (F__law_size k)) (encUs us) [.dat a0, .dat (.int (t : Int)), x] = some (.nx [.dat a0, .dat (.int ((t + szs us : Nat) : Int)), y]) := by
      intro us
      induction us with
      | nil => intro _ t x a0 _; exact ⟨x, by simp [encUs, szs]⟩
      | cons v us ih =>
        intro ho t x a0 hx
        have hv := law_size_ok k v (ho v List.mem_cons_self)
        obtain ⟨y, q⟩ := ih (fun w hw => ho w (List.mem_cons_of_mem _ hw)) (t + sz v) (.dat (encU v)) a0 rfl
        refine ⟨y, ?_⟩
        show loopF _ _ (encU v :: encUs us) _ = _
        have hb : L__law_size_1 (F__law_size k) [.dat a0, .dat (.int (t : Int)), .dat (encU v)] = some (.nx [.dat a0, .dat (.int ((t + sz v : Nat) : Int)), .dat (encU v)]) := by
          simp -implicitDefEqProofs [L__law_size_1, hv]
        have he : t + szs (v :: us) = t + sz v + szs us := by simp only [szs]; omega
        rw [loopF_step (c1 := [.dat a0, .dat (.int (t : Int)), .dat (encU v)]) (by simp [hx]) hb, he, q]
    have hk := h.kids
    have hp := parts_ok u
    obtain ⟨y, q⟩ := lp (kids u) hk (1 + slen u) .no (encU u) rfl
    have hs : ((1 + slen u + szs (kids u) : Nat) : Int) = (sz u : Int) := by rw [sz_kids]
    rw [hs] at q
    unfold runP b__law_size
    have hi := isStr_enc u
    cases u with
    | str s =>
      simp only [slen] at q
      rw [show ((1 + s.length : Nat) : Int) = 1 + (s.length : Int) by omega] at q
      have hl : s.length ≤ LIM := Nat.le_trans h.2 (by decide)
      have gl : gLen (.str s) = some (.int (s.length : Int), false) := by
        show (if s.length ≤ LIM then _ else _) = _
        rw [if_pos hl]
      simp only [encU] at *
      simp -implicitDefEqProofs [hi, gl, hp, q]
    | int s =>
      simp only [slen] at q
      rw [show ((1 + 0 : Nat) : Int) = 1 from rfl] at q
      simp -implicitDefEqProofs [hi, hp, q]
    | bool s =>
      simp only [slen] at q
      rw [show ((1 + 0 : Nat) : Int) = 1 from rfl] at q
      simp -implicitDefEqProofs [hi, hp, q]
    | lst s =>
      simp only [slen] at q
      rw [show ((1 + 0 : Nat) : Int) = 1 from rfl] at q
      simp -implicitDefEqProofs [hi, hp, q]
    | mk m s =>
      simp only [slen] at q
      rw [show ((1 + 0 : Nat) : Int) = 1 from rfl] at q
      simp -implicitDefEqProofs [hi, hp, q]
theorem law_depth_ok : ∀ (k : Nat) (u : U), UOk k u → F__law_depth k [encU u] = some (.int (dp u : Int), false)
  | 0, _, h => h.elim
  | k + 1, u, h => by
    show runP 1 2 (b__law_depth (F__law_depth k)) [encU u] = _
    have lp : ∀ (us : List U), (∀ v ∈ us, UOk k v) → ∀ (t : Nat) (x : Cell) (a0 : D), kNo (some x) = true → ∃ y, loopF (gx 2) (L__law_depth_1 (F__law_depth k)) (encUs us) [.dat a0, .dat (.int (t : Int)), x] = some (.nx [.dat a0, .dat (.int ((max t (dps us) : Nat) : Int)), y]) := by
      intro us
      induction us with
      | nil => intro _ t x a0 _; exact ⟨x, by simp [encUs, dps]⟩
      | cons v us ih =>
        intro ho t x a0 hx
        have hv := law_depth_ok k v (ho v List.mem_cons_self)
        obtain ⟨y, q⟩ := ih (fun w hw => ho w (List.mem_cons_of_mem _ hw)) (max t (dp v)) (.dat (encU v)) a0 rfl
        refine ⟨y, ?_⟩
        show loopF _ _ (encU v :: encUs us) _ = _
        have hm : gMax2 [.int (t : Int), .int (dp v : Int)] = some (.int ((max t (dp v) : Nat) : Int), false) := by
          show some (PyData.int (if (dp v : Int) > (t : Int) then (dp v : Int) else (t : Int)), false) = _
          by_cases c : (dp v : Int) > (t : Int)
          · rw [if_pos c, Nat.max_eq_right (by omega)]
          · rw [if_neg c, Nat.max_eq_left (by omega)]
        have hb : L__law_depth_1 (F__law_depth k) [.dat a0, .dat (.int (t : Int)), .dat (encU v)] = some (.nx [.dat a0, .dat (.int ((max t (dp v) : Nat) : Int)), .dat (encU v)]) := by
          simp -implicitDefEqProofs [L__law_depth_1, hv, hm]
        have he : max t (dps (v :: us)) = max (max t (dp v)) (dps us) := by simp only [dps]; omega
        rw [loopF_step (c1 := [.dat a0, .dat (.int (t : Int)), .dat (encU v)]) (by simp [hx]) hb, he, q]
    have hk := h.kids
    have hp := parts_ok u
    obtain ⟨y, q⟩ := lp (kids u) hk 0 .no (encU u) rfl
    have hs : ((max 0 (dps (kids u)) : Nat) : Int) = (dps (kids u) : Int) := by omega
    rw [hs] at q
    have hd : (1 : Int) + (dps (kids u) : Int) = (dp u : Int) := by rw [dp_kids]; omega
    unfold runP b__law_depth
    have q0 : loopF (gx 2) (L__law_depth_1 (F__law_depth k)) (encUs (kids u)) [.dat (encU u), .dat (.int 0), .no] = some (.nx [.dat (encU u), .dat (.int (dps (kids u) : Int)), y]) := q
    simp -implicitDefEqProofs [hp, q0, hd]
/-! ### size -/
theorem size_loop (a0 : D) : ∀ (n : Nat) (left : List U) (t fuel : Nat) (x : Cell), szs left ≤ n → n < fuel → n ≤ 3000 → kNo (some x) = true →
    (∀ v ∈ left, ∃ k, UOk k v) → ∃ y, loopW W_size_1 L_size_2 fuel [.dat a0, .dat (.int (t : Int)), .own (.list (encUs left)), x] = some (.nx [.dat a0, .dat (.int ((t + szs left : Nat) : Int)), .own (.list []), y]) := by
  intro n
  induction n with
  | zero =>
    intro left t fuel x hn hf _ hx _
    have : left = [] := List.eq_nil_of_length_eq_zero (by have := len_szs left; omega)
    subst this
    obtain ⟨fuel, rfl⟩ : ∃ g, fuel = g + 1 := ⟨fuel - 1, by omega⟩
    exact ⟨x, by rw [loopW_stop (c1 := [.dat a0, .dat (.int (t : Int)), .own (.list []), x]) (by simp [W_size_1, encUs])]; simp [szs]⟩
  | succ n ih =>
    intro left t fuel x hn hf hn3 hx ho
    obtain ⟨fuel, rfl⟩ : ∃ g, fuel = g + 1 := ⟨fuel - 1, by omega⟩
    rcases List.eq_nil_or_concat left with rfl | ⟨ini, u, rfl⟩
    · exact ⟨x, by rw [loopW_stop (c1 := [.dat a0, .dat (.int (t : Int)), .own (.list []), x]) (by simp [W_size_1, encUs])]; simp [szs]⟩
    · rw [List.concat_eq_append] at *
      rw [szs_app] at hn ⊢
      simp only [szs, Nat.add_zero] at hn ⊢
      have hz := sz_kids u
      obtain ⟨k, hu⟩ := ho u (by simp)
      have hok : ∀ v ∈ ini ++ kids u, ∃ k, UOk k v := fun v hv => by
        rcases List.mem_append.mp hv with hv | hv
        · exact ho v (by simp [hv])
        · cases k with
          | zero => exact hu.elim
          | succ k => exact ⟨k, hu.kids v hv⟩
      have hl := len_szs (ini ++ kids u)
      rw [szs_app] at hl
      obtain ⟨y, q⟩ := ih (ini ++ kids u) (t + 1 + slen u) fuel (.dat (encU u)) (by rw [szs_app]; omega) (by omega) (by omega) rfl hok
      refine ⟨y, ?_⟩
      have hlen : 0 < (encUs (ini ++ [u])).length := by simp
      rw [loopW_step (c1 := [.dat a0, .dat (.int (t : Int)), .own (.list (encUs (ini ++ [u]))), x]) (c2 := [.dat a0, .dat (.int ((t + 1 + slen u : Nat) : Int)), .own (.list (encUs (ini ++ kids u))), .dat (encU u)]) ?_ ?_, q]
      · rw [szs_app, hz, show t + 1 + slen u + (szs ini + szs (kids u)) = t + (szs ini + (1 + slen u + szs (kids u))) by omega]
      · have := hlen
        generalize encUs (ini ++ [u]) = Z at *
        simp -implicitDefEqProofs [W_size_1, this]
      · have e1 : encUs (ini ++ [u]) = encUs ini ++ [encU u] := by rw [encUs_app]; rfl
        have e2 := members_ok u
        have e3 := isStr_enc u
        have ex : fExt (encUs (kids u)) (.list (encUs ini)) = some (.list (encUs (ini ++ kids u))) := by
          rw [encUs_app]
          have hl' : (encUs ini).length + (encUs (kids u)).length ≤ LIM := by rw [encUs_len, encUs_len, ← List.length_append]; exact Nat.le_trans hl (Nat.le_trans (show _ ≤ 3000 by omega) (by decide))
          show (if _ then _ else _) = _
          rw [if_pos hl']
        rw [e1]
        generalize encUs (ini ++ kids u) = Z2 at *
        generalize hZ1 : encUs ini = Z1 at *
        unfold L_size_2
        cases u with
        | str s =>
          have hls : s.length ≤ LIM := by
            cases k with
            | zero => exact hu.elim
            | succ k => exact Nat.le_trans hu.2 (by decide)
          simp only [slen]
          rw [show ((t + 1 + s.length : Nat) : Int) = (t : Int) + 1 + (s.length : Int) by omega]
          simp only [encU] at *
          simp -implicitDefEqProofs [hx, kPop_app, e3, gLen_s hls, e2, ex]
        | int s =>
          simp only [slen]
          rw [show ((t + 1 + 0 : Nat) : Int) = (t : Int) + 1 by omega]
          simp -implicitDefEqProofs [hx, kPop_app, e3, e2, ex]
        | bool s =>
          simp only [slen]
          rw [show ((t + 1 + 0 : Nat) : Int) = (t : Int) + 1 by omega]
          simp -implicitDefEqProofs [hx, kPop_app, e3, e2, ex]
        | lst s =>
          simp only [slen]
          rw [show ((t + 1 + 0 : Nat) : Int) = (t : Int) + 1 by omega]
          simp -implicitDefEqProofs [hx, kPop_app, e3, e2, ex]
        | mk m s =>
          simp only [slen]
          rw [show ((t + 1 + 0 : Nat) : Int) = (t : Int) + 1 by omega]
          simp -implicitDefEqProofs [hx, kPop_app, e3, e2, ex]
theorem size_ok {k : Nat} {u : U} (h : UOk k u) (hz : sz u ≤ 2500) : F_size [encU u] = some (.int (sz u : Int), false) := by
  obtain ⟨y, q⟩ := size_loop (encU u) 2500 [u] 0 3000 .no (by simpa [szs] using hz) (by decide) (by decide) rfl (fun v hv => ⟨k, by rw [List.mem_singleton.mp hv]; exact h⟩)
  have hs : ((0 + szs [u] : Nat) : Int) = (sz u : Int) := by simp [szs]
  rw [hs] at q
  have q0 : loopW W_size_1 L_size_2 3000 [.dat (encU u), .dat (.int 0), .own (.list [encU u]), .no] = some (.nx [.dat (encU u), .dat (.int (sz u : Int)), .own (.list []), y]) := q
  unfold F_size runP b_size
  generalize encU u = A at *
  simp -implicitDefEqProofs [q0]
end My
end
section
set_option Elab.async false
set_option linter.all false
set_option maxRecDepth 100000
set_option maxHeartbeats 4000000
namespace My
open PySem PySem.Spec PyProof.Rows L2 Qp
/-! ### depth -/
theorem inner_loop (a0 : D) (t : Int) (c2 : Cell) (v : D) : ∀ (items acc : List D), acc.length + items.length ≤ LIM → loopC (gx 4) evYes C_depth_2 [4] items acc [.dat a0, .dat (.int t), c2, .dat v, .no] = some (acc ++ items, [.dat a0, .dat (.int t), c2, .dat v, .no]) := by
  intro items acc hl
  have := loopC_map (gt := gx 4) (ft := evYes) (fe := C_depth_2) (vs := [4]) (cs := [.dat a0, .dat (.int t), c2, .dat v, .no]) (items := items) (v := id) (fun x hx => ⟨[.dat a0, .dat (.int t), c2, .dat v, .dat x], false, by simp, by simp [evYes], by simp [C_depth_2], by simp, by simp⟩) acc hl
  rw [this, List.map_id]
theorem outer_loop (a0 : D) (t : Int) (c2 : Cell) : ∀ (us : List U) (acc : List D), acc.length + szs us ≤ 3000 → loopC2 (gx 3) evYes J_depth_1 (gx 4) evYes C_depth_2 [3, 4] [4] (encUs us) acc [.dat a0, .dat (.int t), c2, .no, .no] = some (acc ++ encUs (us.flatMap kids), [.dat a0, .dat (.int t), c2, .no, .no])
  | [], acc, _ => by simp [encUs, loopC2]
  | u :: us, acc, h => by
    simp only [szs] at h
    have hz := sz_kids u
    have hk := len_szs (kids u)
    have hm := members_ok u
    show loopC2 _ _ _ _ _ _ _ _ (encU u :: encUs us) _ _ = _
    have hL : ∀ n, n ≤ 3000 → n ≤ LIM := fun n h => Nat.le_trans h (by decide)
    rw [loopC2_cons (c1 := [.dat a0, .dat (.int t), c2, .dat (encU u), .no]) (c2 := [.dat a0, .dat (.int t), c2, .dat (encU u), .no]) (its := encUs (kids u)) (c3 := [.dat a0, .dat (.int t), c2, .dat (encU u), .no]) (acc2 := acc ++ encUs (kids u)) (c4 := [.dat a0, .dat (.int t), c2, .dat (encU u), .no]) (by simp) (by simp [evYes]) (by simp -implicitDefEqProofs [J_depth_1, hm]) (by simp)
      (by rw [show clr [.dat a0, .dat (.int t), c2, .dat (encU u), .no] [4] = [.dat a0, .dat (.int t), c2, .dat (encU u), .no] by simp]; exact inner_loop a0 t c2 _ _ _ (by rw [encUs_len]; exact hL _ (by omega))) (by simp)]
    rw [show clr [.dat a0, .dat (.int t), c2, .dat (encU u), .no] [3, 4] = [.dat a0, .dat (.int t), c2, .no, .no] by simp]
    rw [outer_loop a0 t c2 us (acc ++ encUs (kids u)) (by rw [List.length_append, encUs_len]; omega), List.flatMap_cons, encUs_app, List.append_assoc]
theorem depth_loop (a0 : D) : ∀ (n : Nat) (us : List U) (t fuel : Nat), dps us ≤ n → n < fuel → szs us ≤ 2500 →
    loopW W_depth_3 L_depth_4 fuel [.dat a0, .dat (.int (t : Int)), .own (.list (encUs us)), .no, .no] = some (.nx [.dat a0, .dat (.int ((t + dps us : Nat) : Int)), .own (.list []), .no, .no]) := by
  intro n
  induction n with
  | zero =>
    intro us t fuel hn hf hs
    have : us = [] := by
      cases us with
      | nil => rfl
      | cons u us =>
        simp only [dps] at hn
        have := dp_kids u
        omega
    subst this
    obtain ⟨fuel, rfl⟩ : ∃ g, fuel = g + 1 := ⟨fuel - 1, by omega⟩
    rw [loopW_stop (c1 := [.dat a0, .dat (.int (t : Int)), .own (.list []), .no, .no]) (by simp [W_depth_3, encUs])]
    simp [dps]
  | succ n ih =>
    intro us t fuel hn hf hs
    obtain ⟨fuel, rfl⟩ : ∃ g, fuel = g + 1 := ⟨fuel - 1, by omega⟩
    by_cases hu : us = []
    · subst hu
      rw [loopW_stop (c1 := [.dat a0, .dat (.int (t : Int)), .own (.list []), .no, .no]) (by simp [W_depth_3, encUs])]
      simp [dps]
    · have hd := dps_flat us hu
      have hsf := szs_flat us
      have q := ih (us.flatMap kids) (t + 1) fuel (by omega) (by omega) (by omega)
      have hlen : 0 < (encUs us).length := by rw [encUs_len]; exact List.length_pos_iff.mpr hu
      have ol := outer_loop a0 ((t : Int) + 1) (.dat (.list (encUs us))) us [] (by simp; omega)
      rw [List.nil_append] at ol
      rw [loopW_step (c1 := [.dat a0, .dat (.int (t : Int)), .own (.list (encUs us)), .no, .no]) (c2 := [.dat a0, .dat (.int ((t + 1 : Nat) : Int)), .own (.list (encUs (us.flatMap kids))), .no, .no]) ?_ ?_, q, hd, show t + 1 + dps (us.flatMap kids) = t + (1 + dps (us.flatMap kids)) by omega]
      · generalize encUs us = Z at *
        simp -implicitDefEqProofs [W_depth_3, hlen]
      · rw [show ((t + 1 : Nat) : Int) = (t : Int) + 1 by omega]
        generalize encUs (us.flatMap kids) = Z2 at *
        generalize encUs us = Z at *
        unfold L_depth_4
        simp -implicitDefEqProofs [ol, kLc21_s]
theorem depth_ok {k : Nat} {u : U} (h : UOk k u) (hk : k ≤ 1000) (hz : sz u ≤ 2500) : F_depth [encU u] = some (.int (dp u : Int), false) := by
  have hd := dp_le h
  have q := depth_loop (encU u) (dp u) [u] 0 3000 (by simp [dps]) (by omega) (by simpa [szs] using hz)
  have hs : ((0 + dps [u] : Nat) : Int) = (dp u : Int) := by simp [dps]
  rw [hs] at q
  have q0 : loopW W_depth_3 L_depth_4 3000 [.dat (encU u), .dat (.int 0), .own (.list [encU u]), .no, .no] = some (.nx [.dat (encU u), .dat (.int (dp u : Int)), .own (.list []), .no, .no]) := q
  unfold F_depth runP b_depth
  generalize encU u = A at *
  simp -implicitDefEqProofs [q0]
end My
end
section
set_option Elab.async false
set_option linter.all false
set_option maxRecDepth 100000
set_option maxHeartbeats 4000000
namespace My
open PySem PySem.Spec PyProof.Rows L2 Qp
/-! ### texts -/
theorem app_cps (a b : Str) : (a ++ b).cps.toList = a.cps.toList ++ b.cps.toList := by
  show (a.cps ++ b.cps).toList = _
  simp
theorem app_len (a b : Str) : (a ++ b).length = a.length + b.length := by
  show (a.cps ++ b.cps).size = _
  rw [Array.size_append]
  rfl
theorem vsA {a b : Str} (h : VS a) (h2 : VS b) : VS (a ++ b) := fun c hc => by
  rw [app_cps] at hc
  rcases List.mem_append.mp hc with hc | hc
  · exact h c hc
  · exact h2 c hc
theorem join_eq (sep : Str) (l : List Str) : Txt.join sep l = sep.join l := StrLaws.glued_eq_join sep l
theorem vsJ {sep : Str} (hs : VS sep) : ∀ {l : List Str}, (∀ s ∈ l, VS s) → VS (sep.join l)
  | [], _ => fun c hc => by cases hc
  | [x], h => h x List.mem_cons_self
  | x :: y :: r, h => vsA (vsA (h x List.mem_cons_self) hs) (vsJ hs (l := y :: r) fun s hs => h s (List.mem_cons_of_mem _ hs))
theorem vsOfJ {sep : Str} : ∀ {l : List Str}, VS (sep.join l) → ∀ s ∈ l, VS s
  | [], _, s, hs => by cases hs
  | [x], h, s, hs => by rw [List.mem_singleton.mp hs]; exact h
  | x :: y :: r, h, s, hs => by
    have e : sep.join (x :: y :: r) = x ++ sep ++ sep.join (y :: r) := rfl
    rw [e] at h
    rcases List.mem_cons.mp hs with rfl | hs
    · exact fun c hc => h c (by rw [app_cps, app_cps]; simp [hc])
    · exact vsOfJ (sep := sep) (l := y :: r) (fun c hc => h c (by rw [app_cps]; exact List.mem_append_right _ hc)) s hs
theorem join_sum {sep : Str} : ∀ {l : List Str}, (l.map (·.length)).sum ≤ (sep.join l).length ∧ l.length * sep.length ≤ (sep.join l).length + sep.length
  | [] => ⟨Nat.zero_le _, by simp⟩
  | [x] => ⟨by simp [Str.join], by simp⟩
  | x :: y :: r => by
    have e : sep.join (x :: y :: r) = x ++ sep ++ sep.join (y :: r) := rfl
    have ih := join_sum (sep := sep) (l := y :: r)
    rw [e, app_len, app_len]
    rw [List.map_cons, List.sum_cons]
    have e2 : (x :: y :: r).length * sep.length = (y :: r).length * sep.length + sep.length := by rw [List.length_cons, Nat.add_mul, Nat.one_mul]
    rw [e2]
    omega
theorem join_pos {sep x : Str} {l : List Str} (h : 1 ≤ x.length) : 1 ≤ (sep.join (x :: l)).length := by
  cases l with
  | nil => exact h
  | cons y r =>
    have e : sep.join (x :: y :: r) = x ++ sep ++ sep.join (y :: r) := rfl
    rw [e, app_len, app_len]
    omega
theorem strs_map : ∀ l : List Str, strsOf (l.map .str) = some l
  | [] => rfl
  | s :: r => by
    show ((strsOf (r.map .str)).bind fun t => some (s :: t)) = _
    rw [strs_map r]
    rfl
theorem gJoin_of {s : Str} {l : List Str} (h : (l.map (·.length)).sum + l.length * s.length ≤ LIM) : gJoin s (.list (l.map .str)) = some (.str (Txt.join s l), false) := by
  show ((strsOf (l.map .str)).bind fun ss => if (ss.map (·.length)).sum + ss.length * s.length ≤ LIM then some (PyData.str (Txt.join s ss), false) else none) = _
  rw [strs_map, Option.bind_some, if_pos h]
theorem gAdd_S {a b : Str} (h : a.length + b.length ≤ 10000000) : gAdd (.str a) (.str b) = some (.str (a ++ b), false) := by
  have h : a.length + b.length ≤ LIM := h
  show (if a.length + b.length ≤ LIM then _ else _) = _
  rw [if_pos h]
/-! ### what is written -/
theorem strI_len {i : Int} (h : i.natAbs < BI) : 1 ≤ (strI i).length ∧ (strI i).length ≤ 41 := by
  unfold strI
  rw [PySem.ofString_length]
  refine ⟨?_, int_text_length_le10 (k := 40) (by decide) h⟩
  cases i with
  | ofNat n =>
    show 1 ≤ n.repr.length
    exact Nat.length_repr_pos
  | negSucc n =>
    show 1 ≤ ("-" ++ (n + 1).repr).length
    rw [String.length_append]
    have : "-".length = 1 := rfl
    omega
theorem strI_vs (i : Int) : VS (strI i) := vs_lit _
def sepC : Str := ", "
theorem wrS_eq (s : Str) : wrS s = qt ++ Txt.join "''" (Txt.split s "'") ++ qt := by
  unfold wrS
  have : Str.ofString "'" = ⟨#[39]⟩ := rfl
  rw [join_eq]
  show qt ++ Txt.replace s (Str.ofString "'") (Str.ofString "''") ++ qt = qt ++ (Str.ofString "''").join (Txt.split s (Str.ofString "'")) ++ qt
  rw [this, StrLaws.replace_one]
theorem split_vs {s : Str} (h : VS s) : ∀ p ∈ Txt.split s qt, VS p := by
  have := StrLaws.join_split s qt
  rw [← this] at h
  exact vsOfJ h
theorem split_sum (s : Str) : ((Txt.split s qt).map (·.length)).sum ≤ s.length ∧ (Txt.split s qt).length ≤ s.length + 1 := by
  have h := join_sum (sep := qt) (l := Txt.split s qt)
  rw [StrLaws.join_split] at h
  have : qt.length = 1 := rfl
  rw [this] at h
  omega
theorem repl_len (s : Str) : (Txt.replace s "'" "''").length ≤ 3 * s.length + 2 := by
  have e : Txt.replace s "'" "''" = (Str.ofString "''").join (Txt.split s qt) := by
    have : Str.ofString "'" = ⟨#[39]⟩ := rfl
    show Txt.replace s (Str.ofString "'") (Str.ofString "''") = (Str.ofString "''").join (Txt.split s (Str.ofString "'"))
    rw [this, StrLaws.replace_one]
  rw [e]
  have h1 := StrLaws.join_length_le (Str.ofString "''") (Txt.split s qt)
  have h2 := split_sum s
  have : (Str.ofString "''").length = 2 := rfl
  rw [this] at h1
  omega
theorem wrS_vs {s : Str} (h : VS s) : VS (wrS s) := by
  rw [wrS_eq, join_eq]
  exact vsA (vsA (vs_lit "'") (vsJ (vs_lit "''") (split_vs h))) (vs_lit "'")
theorem wr_ok : ∀ {k : Nat} {u : U}, UOk k u → VS (wr u) ∧ 1 ≤ (wr u).length ∧ (wr u).length + 10 ≤ 100 * sz u
  | 0, _, h => h.elim
  | k + 1, u, h => by
    have gen : ∀ us : List U, (∀ v ∈ us, UOk k v) → (∀ s ∈ wrs us, VS s) ∧ ((wrs us).map (·.length)).sum + 2 * us.length ≤ 100 * szs us := by
      intro us
      induction us with
      | nil => intro _; exact ⟨fun s hs => by simp [wrs] at hs, by simp [wrs, szs]⟩
      | cons v us ih =>
        intro h
        have h1 := wr_ok (h v List.mem_cons_self)
        have h2 := ih fun w hw => h w (List.mem_cons_of_mem _ hw)
        have h3 := sz_pos v
        refine ⟨fun s hs => ?_, ?_⟩
        · simp only [wrs, List.mem_cons] at hs
          rcases hs with rfl | hs
          · exact h1.1
          · exact h2.1 s hs
        · simp only [wrs, szs, List.map_cons, List.sum_cons, List.length_cons]
          omega
    have jl : ∀ us : List U, (∀ v ∈ us, UOk k v) → VS (Txt.join ", " (wrs us)) ∧ (Txt.join ", " (wrs us)).length ≤ 100 * szs us := fun us h => by
      have g := gen us h
      rw [join_eq]
      refine ⟨vsJ (vs_lit ", ") g.1, ?_⟩
      have h1 := StrLaws.join_length_le (Str.ofString ", ") (wrs us)
      have : (Str.ofString ", ").length = 2 := rfl
      rw [this] at h1
      have : (wrs us).length = us.length := by rw [wrs_map, List.length_map]
      omega
    cases u with
    | int i =>
      have h1 := strI_len (i := i) h
      simp only [wr, sz]
      exact ⟨strI_vs i, h1.1, by omega⟩
    | bool b =>
      simp only [wr, sz]
      cases b
      · exact ⟨vs_lit _, by decide, by decide⟩
      · exact ⟨vs_lit _, by decide, by decide⟩
    | str s =>
      simp only [wr, sz]
      have h1 := repl_len s
      refine ⟨wrS_vs h.1, ?_, ?_⟩
      · unfold wrS
        rw [app_len, app_len]
        have : qt.length = 1 := rfl
        omega
      · unfold wrS
        rw [app_len, app_len]
        have : qt.length = 1 := rfl
        omega
    | lst us =>
      have g := jl us h.2
      simp only [wr, sz]
      have e1 : (Str.ofString "[").length = 1 := rfl
      have e2 : (Str.ofString "]").length = 1 := rfl
      refine ⟨vsA (vsA (vs_lit _) g.1) (vs_lit _), ?_, ?_⟩
      · rw [app_len, app_len]
        omega
      · rw [app_len, app_len]
        omega
    | mk m us =>
      obtain ⟨⟨m1, m2, m3⟩, hl, ho⟩ := h
      have g := jl us ho
      simp only [wr, sz]
      have e1 : (Str.ofString "(").length = 1 := rfl
      have e2 : (Str.ofString ")").length = 1 := rfl
      split
      · exact ⟨m1, m2, by omega⟩
      · refine ⟨vsA (vsA (vsA m1 (vs_lit _)) g.1) (vs_lit _), ?_, ?_⟩
        · rw [app_len, app_len, app_len]
          omega
        · rw [app_len, app_len, app_len]
          omega
/-- the inner text is empty only where nothing is inside -/
theorem inner_empty {k : Nat} {us : List U} (h : ∀ v ∈ us, UOk k v) : (Txt.join ", " (wrs us) == Str.ofString "") = us.isEmpty := by
  cases us with
  | nil => rfl
  | cons u us =>
    have h1 := (wr_ok (h u List.mem_cons_self)).2.1
    have h2 := join_pos (sep := Str.ofString ", ") (l := wrs us) h1
    show (Txt.join (Str.ofString ", ") (wr u :: wrs us) == Str.ofString "") = false
    rw [join_eq, beq_eq_false_iff_ne]
    intro e
    rw [e] at h2
    exact absurd h2 (by decide)
theorem wrs_join {k : Nat} {us : List U} (h : ∀ v ∈ us, UOk k v) (hz : szs us ≤ 3000) : gJoin ", " (.list ((wrs us).map .str)) = some (.str (Txt.join ", " (wrs us)), false) ∧ (Txt.join ", " (wrs us)).length ≤ 300000 ∧ VS (Txt.join ", " (wrs us)) := by
  have gen : ∀ us : List U, (∀ v ∈ us, UOk k v) → (∀ s ∈ wrs us, VS s) ∧ ((wrs us).map (·.length)).sum + 2 * us.length ≤ 100 * szs us := by
    intro us
    induction us with
    | nil => intro _; exact ⟨fun s hs => by simp [wrs] at hs, by simp [wrs, szs]⟩
    | cons v us ih =>
      intro h
      have h1 := wr_ok (h v List.mem_cons_self)
      have h2 := ih fun w hw => h w (List.mem_cons_of_mem _ hw)
      refine ⟨fun s hs => ?_, ?_⟩
      · simp only [wrs, List.mem_cons] at hs
        rcases hs with rfl | hs
        · exact h1.1
        · exact h2.1 s hs
      · simp only [wrs, szs, List.map_cons, List.sum_cons, List.length_cons]
        omega
  have g := gen us h
  have e1 : (Str.ofString ", ").length = 2 := rfl
  have e2 : (wrs us).length = us.length := by rw [wrs_map, List.length_map]
  refine ⟨gJoin_of ?_, ?_, ?_⟩
  · show ((wrs us).map (·.length)).sum + (wrs us).length * (Str.ofString ", ").length ≤ 10000000
    rw [e1, e2]
    omega
  · rw [join_eq]
    have h1 := StrLaws.join_length_le (Str.ofString ", ") (wrs us)
    rw [e1, e2] at h1
    omega
  · rw [join_eq]
    exact vsJ (vs_lit ", ") g.1
end My
end
section
set_option Elab.async false
set_option linter.all false
set_option maxRecDepth 100000
set_option maxHeartbeats 8000000
namespace My
open PySem PySem.Spec PyProof.Rows L2 Qp
theorem sz_mem : ∀ {us : List U} {v : U}, v ∈ us → sz v ≤ szs us
  | [], _, h => by cases h
  | u :: us, v, h => by
    simp only [szs]
    rcases List.mem_cons.mp h with rfl | h
    · omega
    · have := sz_mem h
      omega
theorem wrs_D (us : List U) : us.map (fun v => PyData.str (wr v)) = (wrs us).map .str := by rw [wrs_map, List.map_map]; rfl
theorem LIMle {n : Nat} (h : n ≤ 1000000) : n ≤ LIM := Nat.le_trans h (by decide)
theorem strB_low (b : Bool) : Txt.lower (strB b) = if b then "true" else "false" := by
  cases b
  · decide +kernel
  · decide +kernel
theorem gStr_ok {i : Int} (h : i.natAbs < BI) : gStr [.int i] = some (.str (strI i), false) := gStr_i (Nat.lt_trans h (by decide))
theorem repl_cond {s : Str} (h : s.length ≤ 2000) : gRepl "'" "''" (.str s) = some (.str (Txt.replace s "'" "''"), false) := by
  refine gRepl_of ?_
  have : (Str.ofString "''").length = 2 := rfl
  rw [this]
  omega
theorem layAll {k : Nat} : ∀ {us : List U}, (∀ v ∈ us, UOk k v) → PyData.canLayAll0 (encUs us) = true := by
  induction k with
  | zero =>
    intro us h
    cases us with
    | nil => rfl
    | cons u us => exact (h u List.mem_cons_self).elim
  | succ k ihk =>
    intro us
    induction us with
    | nil => intro _; rfl
    | cons u us ih =>
      intro h
      have h1 := ih fun v hv => h v (List.mem_cons_of_mem _ hv)
      have hu := h u List.mem_cons_self
      show (PyData.canLay0 (encU u) && PyData.canLayAll0 (encUs us)) = true
      rw [h1, Bool.and_true]
      have st : ∀ s : Str, VS s → PyData.canLay0 (.str s) = true := fun s hs => by
        have := shaped_VS hs
        unfold SeqAt.shaped at this
        rw [Bool.and_eq_true] at this
        exact this.1
      cases u with
      | int i => rfl
      | bool b => rfl
      | str s => exact st s hu.1
      | lst us =>
        have h2 := ihk hu.2
        have h3 := st "list" (vs_lit _)
        simp only [encU, PyData.canLay0, PyData.canLayAll0] at h2 h3 ⊢
        rw [h2, h3]
        rfl
      | mk m us =>
        have h2 := ihk hu.2.2
        have h3 := st "make" (vs_lit _)
        have h4 := st m hu.1.1
        simp only [encU, PyData.canLay0, PyData.canLayAll0] at h2 h3 h4 ⊢
        rw [h2, h3, h4]
        rfl
theorem write_ok : ∀ (k : Nat) (u : U), UOk k u → sz u ≤ 2500 → F_write_value k [encU u] = some (.str (wr u), false)
  | 0, _, h, _ => h.elim
  | k + 1, u, h, hz => by
    show runP 1 2 (b_write_value (F_write_value k)) [encU u] = _
    have lp : ∀ (us : List U), (∀ v ∈ us, UOk k v) → szs us ≤ 2500 → ∀ (c0 c1 : Cell), loopC (gx 2) evYes (C_write_value_1 (F_write_value k)) [2] (encUs us) [] [c0, c1, .no] = some ((wrs us).map .str, [c0, c1, .no]) := fun us ho hs c0 c1 => by
      rw [encUs_map, ← wrs_D]
      refine loopC_enc _ (fun v hv => ⟨[c0, c1, .dat (encU v)], false, by simp, ?_, by simp, by simp⟩) (LIMle (by have := len_szs us; omega))
      have e1 := write_ok k v (ho v hv) (by have := sz_mem hv; omega)
      simp -implicitDefEqProofs [C_write_value_1, e1]
    unfold runP b_write_value
    cases u with
    | int i =>
      have e1 := gStr_ok (i := i) h
      simp -implicitDefEqProofs [encU, wr, e1]
    | bool b =>
      have e1 := gLower_of (a := strB b) (by cases b <;> decide)
      rw [strB_low] at e1
      cases b with
      | true =>
        rw [if_pos rfl] at e1
        simp -implicitDefEqProofs [encU, wr, e1]
      | false =>
        rw [if_neg (by decide)] at e1
        simp -implicitDefEqProofs [encU, wr, e1]
    | str s =>
      have e1 := repl_cond h.2
      have rl := repl_len s
      have hs : s.length ≤ 2000 := h.2
      have e2 := gAdd_S (a := "'") (b := Txt.replace s "'" "''") (by have : (Str.ofString "'").length = 1 := rfl; omega)
      have e3 := gAdd_S (a := "'" ++ Txt.replace s "'" "''") (b := "'") (by rw [app_len]; have : (Str.ofString "'").length = 1 := rfl; omega)
      simp only [encU, wr, wrS, qt]
      generalize Txt.replace s (Str.ofString "'") (Str.ofString "''") = R at *
      simp -implicitDefEqProofs [e1, e2, e3]
    | lst us =>
      simp only [sz] at hz
      have hl := lp us h.2 (by omega)
      obtain ⟨j1, j2, j3⟩ := wrs_join h.2 (by omega)
      simp only [encU, wr]
      generalize encUs us = E at *
      generalize (wrs us).map PyData.str = W at *
      generalize Txt.join (Str.ofString ", ") (wrs us) = J at *
      have e2 := gAdd_S (a := "[") (b := J) (by have : (Str.ofString "[").length = 1 := rfl; omega)
      have e3 := gAdd_S (a := "[" ++ J) (b := "]") (by rw [app_len]; have : (Str.ofString "[").length = 1 := rfl; have : (Str.ofString "]").length = 1 := rfl; omega)
      simp -implicitDefEqProofs [hl, j1, e2, e3]
    | mk m us =>
      simp only [sz] at hz
      obtain ⟨⟨m1, m2, m3⟩, hll, ho⟩ := h
      have hl := lp us ho (by omega)
      obtain ⟨j1, j2, j3⟩ := wrs_join ho (by omega)
      have em := inner_empty ho
      simp only [encU, wr]
      generalize encUs us = E at *
      generalize (wrs us).map PyData.str = W at *
      generalize Txt.join (Str.ofString ", ") (wrs us) = J at *
      have e1 := gEq_VS j3 (vs_lit "")
      rw [em] at e1
      have e2 := gAdd_S (a := m) (b := "(") (by have : (Str.ofString "(").length = 1 := rfl; omega)
      have e3 := gAdd_S (a := m ++ "(") (b := J) (by rw [app_len]; have : (Str.ofString "(").length = 1 := rfl; omega)
      have e4 := gAdd_S (a := m ++ "(" ++ J) (b := ")") (by rw [app_len, app_len]; have : (Str.ofString "(").length = 1 := rfl; have : (Str.ofString ")").length = 1 := rfl; omega)
      cases he : us.isEmpty with
      | true =>
        rw [he] at e1
        simp -implicitDefEqProofs [hl, j1, e1]
      | false =>
        rw [he] at e1
        simp -implicitDefEqProofs [hl, j1, e1, e2, e3, e4]
theorem written_ok : ∀ (k : Nat) (u : U), UOk k u → sz u ≤ 2500 → F__law_written k [encU u] = some (.str (wr u), false)
  | 0, _, h, _ => h.elim
  | k + 1, u, h, hz => by
    show runP 1 2 (b__law_written (F__law_written k)) [encU u] = _
    have lp : ∀ (us : List U), (∀ v ∈ us, UOk k v) → szs us ≤ 2500 → ∀ (c0 c1 : Cell), loopC (gx 2) evYes (C__law_written_1 (F__law_written k)) [2] (encUs us) [] [c0, c1, .no] = some ((wrs us).map .str, [c0, c1, .no]) := fun us ho hs c0 c1 => by
      rw [encUs_map, ← wrs_D]
      refine loopC_enc _ (fun v hv => ⟨[c0, c1, .dat (encU v)], false, by simp, ?_, by simp, by simp⟩) (LIMle (by have := len_szs us; omega))
      have e1 := written_ok k v (ho v hv) (by have := sz_mem hv; omega)
      simp -implicitDefEqProofs [C__law_written_1, e1]
    have hp := parts_ok u
    unfold runP b__law_written
    cases u with
    | int i =>
      have e1 := gStr_ok (i := i) h
      simp -implicitDefEqProofs [encU, wr, e1]
    | bool b =>
      cases b with
      | true => simp -implicitDefEqProofs [encU, wr]
      | false => simp -implicitDefEqProofs [encU, wr]
    | str s =>
      have hs : s.length ≤ 2000 := h.2
      have rl := repl_len s
      have e1 := gSplit_of (a := s) (b := "'") rfl (Nat.le_trans hs (by decide))
      have sp := split_sum s
      have e2 := gJoin_of (s := "''") (l := Txt.split s "'") (by
        show ((Txt.split s qt).map (·.length)).sum + (Txt.split s qt).length * (Str.ofString "''").length ≤ 10000000
        have : (Str.ofString "''").length = 2 := rfl
        rw [this]
        omega)
      have e0 : Txt.replace s "'" "''" = Txt.join "''" (Txt.split s "'") := by
        have : Str.ofString "'" = ⟨#[39]⟩ := rfl
        rw [join_eq]
        show Txt.replace s (Str.ofString "'") (Str.ofString "''") = (Str.ofString "''").join (Txt.split s (Str.ofString "'"))
        rw [this, StrLaws.replace_one]
      rw [e0] at rl
      have e3 := gAdd_S (a := "'") (b := Txt.join "''" (Txt.split s "'")) (by have : (Str.ofString "'").length = 1 := rfl; omega)
      have e4 := gAdd_S (a := "'" ++ Txt.join "''" (Txt.split s "'")) (b := "'") (by rw [app_len]; have : (Str.ofString "'").length = 1 := rfl; omega)
      simp only [encU, wr, wrS, qt]
      rw [e0]
      generalize (Txt.split s (Str.ofString "'")).map PyData.str = P at *
      generalize Txt.join (Str.ofString "''") (Txt.split s (Str.ofString "'")) = R at *
      simp -implicitDefEqProofs [e1, e2, e3, e4]
    | lst us =>
      simp only [sz] at hz
      have hl := lp us h.2 (by omega)
      obtain ⟨j1, j2, j3⟩ := wrs_join h.2 (by omega)
      simp only [encU, wr, kids] at *
      generalize encUs us = E at *
      generalize (wrs us).map PyData.str = W at *
      generalize Txt.join (Str.ofString ", ") (wrs us) = J at *
      have e2 := gAdd_S (a := "[") (b := J) (by have : (Str.ofString "[").length = 1 := rfl; omega)
      have e3 := gAdd_S (a := "[" ++ J) (b := "]") (by rw [app_len]; have : (Str.ofString "[").length = 1 := rfl; have : (Str.ofString "]").length = 1 := rfl; omega)
      simp -implicitDefEqProofs [hp, hl, j1, e2, e3]
    | mk m us =>
      simp only [sz] at hz
      obtain ⟨⟨m1, m2, m3⟩, hll, ho⟩ := h
      have hl := lp us ho (by omega)
      obtain ⟨j1, j2, j3⟩ := wrs_join ho (by omega)
      have e1 := gEqM_e (layAll ho)
      have e0 : (encUs us).isEmpty = us.isEmpty := by cases us <;> rfl
      rw [e0] at e1
      simp only [encU, wr, kids] at *
      generalize encUs us = E at *
      generalize (wrs us).map PyData.str = W at *
      generalize Txt.join (Str.ofString ", ") (wrs us) = J at *
      have e2 := gAdd_S (a := m) (b := "(") (by have : (Str.ofString "(").length = 1 := rfl; omega)
      have e3 := gAdd_S (a := m ++ "(") (b := J) (by rw [app_len]; have : (Str.ofString "(").length = 1 := rfl; omega)
      have e4 := gAdd_S (a := m ++ "(" ++ J) (b := ")") (by rw [app_len, app_len]; have : (Str.ofString "(").length = 1 := rfl; have : (Str.ofString ")").length = 1 := rfl; omega)
      cases he : us.isEmpty with
      | true =>
        rw [he] at e1
        simp -implicitDefEqProofs [hp, hl, j1, e1]
      | false =>
        rw [he] at e1
        simp -implicitDefEqProofs [hp, hl, j1, e1, e2, e3, e4]
end My
end
section
set_option Elab.async false
set_option linter.all false
set_option maxRecDepth 100000
set_option maxHeartbeats 8000000
namespace My
open PySem PySem.Spec PyProof.Rows L2 Qp
/-! ### scalars -/
@[simp] theorem gNe_bb (a b : Bool) : gNe (.bool a) (.bool b) = some (.bool (!(a == b)), false) := rfl
@[simp] theorem gEq_bb (a b : Bool) : gEq (.bool a) (.bool b) = some (.bool (a == b), false) := rfl
@[simp] theorem sl_m1_2 {x y : D} : gSl (.tuple [x, y]) none (some (-1)) = some (.tuple [x], false) := rfl
@[simp] theorem sl_m1_3 {x y z : D} : gSl (.tuple [x, y, z]) none (some (-1)) = some (.tuple [x, y], false) := rfl
@[simp] theorem cut_m1_2 {x y : D} : cutL [x, y] none (some (-1)) = [x] := rfl
@[simp] theorem cut_m1_3 {x y z : D} : cutL [x, y, z] none (some (-1)) = [x, y] := rfl
theorem gEq_is {i : Int} {s : Str} (h : VS s) : gEq (.int i) (.str s) = some (.bool false, false) := by
  show (if (SeqAt.shaped (.int i) && SeqAt.shaped (.str s)) = true then _ else _) = _
  rw [shaped_VS h, Bool.and_true, if_pos (show SeqAt.shaped (.int i) = true from rfl)]
  rfl
theorem gEq_si {i : Int} {s : Str} (h : VS s) : gEq (.str s) (.int i) = some (.bool false, false) := by
  show (if (SeqAt.shaped (.str s) && SeqAt.shaped (.int i)) = true then _ else _) = _
  rw [shaped_VS h, Bool.true_and, if_pos (show SeqAt.shaped (.int i) = true from rfl)]
  rfl
/-! ### heads -/
theorem hd_eq {a b : List Str} (ha : ∀ s ∈ a, VS s) (hb : ∀ s ∈ b, VS s) : gNe (.tuple (a.map .str)) (.tuple (b.map .str)) = some (.bool (!(a == b)), false) := by
  have sh : ∀ a : List Str, (∀ s ∈ a, VS s) → SeqAt.shaped (.tuple (a.map .str)) = true := fun a ha => by
    have h1 : PyData.canLayAll0 (a.map PyData.str) = true := by
      induction a with
      | nil => rfl
      | cons s r ih =>
        have h1 := ih fun t ht => ha t (List.mem_cons_of_mem _ ht)
        have h2 := shaped_VS (ha s List.mem_cons_self)
        unfold SeqAt.shaped at h2
        rw [Bool.and_eq_true] at h2
        show (PyData.canLay0 (.str s) && PyData.canLayAll0 (r.map PyData.str)) = true
        rw [h1, h2.1]
        rfl
    have h2 : PyData.depthAll (a.map PyData.str) ≤ 1 := by
      clear h1 ha hb
      induction a with
      | nil => exact Nat.zero_le _
      | cons s r ih =>
        show max (PyData.depth (.str s)) (PyData.depthAll (r.map PyData.str)) ≤ 1
        have : PyData.depth (.str s) ≤ 1 := by simp [PyData.depth]
        omega
    unfold SeqAt.shaped
    rw [Bool.and_eq_true, decide_eq_true_eq]
    refine ⟨by simpa [PyData.canLay0] using h1, ?_⟩
    show PyData.depthAll (a.map PyData.str) + 1 ≤ 64
    omega
  have e : ∀ a b : List Str, PyData.eqvAll (a.map PyData.str) (b.map PyData.str) = (a == b) := by
    intro a
    induction a with
    | nil => intro b; cases b <;> rfl
    | cons s r ih =>
      intro b
      cases b with
      | nil => rfl
      | cons t u =>
        show (PyData.eqv (.str s) (.str t) && PyData.eqvAll (r.map PyData.str) (u.map PyData.str)) = _
        rw [ih]
        rfl
  have e' : PyData.eqv (.tuple (a.map .str)) (.tuple (b.map .str)) = (a == b) := e a b
  unfold gNe
  rw [sh a ha, sh b hb, e']
  rfl
theorem hd1 {s t : Str} (hs : VS s) (ht : VS t) : gNe (.tuple [.str s]) (.tuple [.str t]) = some (.bool (!(s == t)), false) := by
  have := hd_eq (a := [s]) (b := [t]) (by simpa using hs) (by simpa using ht)
  simpa using this
theorem hd2 {s t m n : Str} (hs : VS s) (ht : VS t) (hm : VS m) (hn : VS n) : gNe (.tuple [.str s, .str m]) (.tuple [.str t, .str n]) = some (.bool (!(s == t && m == n)), false) := by
  have := hd_eq (a := [s, m]) (b := [t, n]) (by simp [hs, hm]) (by simp [ht, hn])
  simpa using this
theorem hd12 {s t n : Str} (hs : VS s) (ht : VS t) (hn : VS n) : gNe (.tuple [.str s]) (.tuple [.str t, .str n]) = some (.bool true, false) ∧ gNe (.tuple [.str t, .str n]) (.tuple [.str s]) = some (.bool true, false) := by
  have h1 := hd_eq (a := [s]) (b := [t, n]) (by simp [hs]) (by simp [ht, hn])
  have h2 := hd_eq (b := [s]) (a := [t, n]) (by simp [ht, hn]) (by simp [hs])
  exact ⟨by simpa using h1, by simpa using h2⟩
/-! ### same -/
theorem loopF_ret {gt : GX} {p : SX} {x d : D} {fr : Bool} {r : List D} {cs c1 c2 : En} (h1 : gt x cs = some c1) (h2 : p c1 = some (.rt d fr c2)) : loopF gt p (x :: r) cs = some (.rt d fr c2) := by
  rw [loopF_cons, h1, kL1_s, h2]
  rfl
theorem gN_lenS {a b : Nat} : gNe (.int (a : Int)) (.int (b : Int)) = some (.bool (!((a : Int) == (b : Int))), false) := by simp
theorem same_ok : ∀ (k : Nat) (u v : U), UOk k u → UOk k v → F_same k [encU u, encU v] = some (.bool (eqU u v), false)
  | 0, _, _, h, _ => h.elim
  | k + 1, u, v, hu, hv => by
    have lp : ∀ (a0 a1 : D) (us vs : List U), (∀ w ∈ us, UOk k w) → (∀ w ∈ vs, UOk k w) → us.length = vs.length → ∀ (x y : Cell), kNo (some x) = true → kNo (some y) = true →
        (eqUs us vs = true → ∃ c, loopF (gxTup (gxCons (gx 2) (gxCons (gx 3) gxNil)) 2) (L_same_1 (F_same k)) (zipD (encUs us) (encUs vs)) [.dat a0, .dat a1, x, y] = some (.nx c)) ∧
        (eqUs us vs = false → ∃ c, loopF (gxTup (gxCons (gx 2) (gxCons (gx 3) gxNil)) 2) (L_same_1 (F_same k)) (zipD (encUs us) (encUs vs)) [.dat a0, .dat a1, x, y] = some (.rt (.bool false) false c)) := by
      intro a0 a1 us
      induction us with
      | nil =>
        intro vs _ _ hl x y _ _
        cases vs with
        | nil => exact ⟨fun _ => ⟨_, rfl⟩, fun h => by cases h⟩
        | cons v vs => cases hl
      | cons u us ih =>
        intro vs h1 h2 hl x y hx hy
        cases vs with
        | nil => cases hl
        | cons v vs =>
          have e := same_ok k u v (h1 u List.mem_cons_self) (h2 v List.mem_cons_self)
          have g := ih vs (fun w hw => h1 w (List.mem_cons_of_mem _ hw)) (fun w hw => h2 w (List.mem_cons_of_mem _ hw)) (by simpa using hl) (.dat (encU u)) (.dat (encU v)) rfl rfl
          have gt1 : gxTup (gxCons (gx 2) (gxCons (gx 3) gxNil)) 2 (.tuple [encU u, encU v]) [.dat a0, .dat a1, x, y] = some [.dat a0, .dat a1, .dat (encU u), .dat (encU v)] := by simp [hx, hy]
          show (_ → ∃ c, loopF _ _ (.tuple [encU u, encU v] :: zipD (encUs us) (encUs vs)) _ = _) ∧ (_ → ∃ c, loopF _ _ (.tuple [encU u, encU v] :: zipD (encUs us) (encUs vs)) _ = _)
          cases b : eqU u v with
          | true =>
            rw [b] at e
            have hb : L_same_1 (F_same k) [.dat a0, .dat a1, .dat (encU u), .dat (encU v)] = some (.nx [.dat a0, .dat a1, .dat (encU u), .dat (encU v)]) := by simp -implicitDefEqProofs [L_same_1, e]
            have eb : eqUs (u :: us) (v :: vs) = eqUs us vs := by simp only [eqUs]; rw [b, Bool.true_and]
            rw [eb, loopF_step gt1 hb]
            exact g
          | false =>
            rw [b] at e
            have hb : L_same_1 (F_same k) [.dat a0, .dat a1, .dat (encU u), .dat (encU v)] = some (.rt (.bool false) false [.dat a0, .dat a1, .dat (encU u), .dat (encU v)]) := by simp -implicitDefEqProofs [L_same_1, e]
            have eb : eqUs (u :: us) (v :: vs) = false := by simp only [eqUs]; rw [b, Bool.false_and]
            rw [eb, loopF_ret gt1 hb]
            exact ⟨fun h => (by cases h), fun _ => ⟨_, rfl⟩⟩
    have fin : ∀ (a0 a1 : D) (us vs : List U), (∀ w ∈ us, UOk k w) → (∀ w ∈ vs, UOk k w) → us.length = vs.length →
        outP (kSeq (sRet (evC (.bool true))) (loopF (gxTup (gxCons (gx 2) (gxCons (gx 3) gxNil)) 2) (L_same_1 (F_same k)) (zipD (encUs us) (encUs vs)) [.dat a0, .dat a1, .no, .no])) = some (.bool (eqUs us vs), false) := fun a0 a1 us vs h1 h2 hl => by
      have g := lp a0 a1 us vs h1 h2 hl .no .no rfl rfl
      cases b : eqUs us vs with
      | true =>
        obtain ⟨c, q⟩ := g.1 b
        rw [q]
        simp
      | false =>
        obtain ⟨c, q⟩ := g.2 b
        rw [q]
        simp
    have vl := vs_lit "list"
    have vm := vs_lit "make"
    have neq : ∀ us vs : List U, us.length ≠ vs.length → ((us.length : Int) == (vs.length : Int)) = false := fun us vs h => by simp; omega
    show runP 2 2 (b_same (F_same k)) [encU u, encU v] = _
    unfold runP b_same
    cases u with
    | int i =>
      cases v with
      | int j => simp -implicitDefEqProofs [encU, isT, eqU]
      | bool j => simp -implicitDefEqProofs [encU, isT, eqU]
      | str j => simp -implicitDefEqProofs [encU, isT, eqU, gEq_is hv.1]
      | lst vs => simp -implicitDefEqProofs [encU, isT, eqU]
      | mk m vs => simp -implicitDefEqProofs [encU, isT, eqU]
    | bool i =>
      cases v with
      | int j => simp -implicitDefEqProofs [encU, isT, eqU]
      | bool j => simp -implicitDefEqProofs [encU, isT, eqU]
      | str j => simp -implicitDefEqProofs [encU, isT, eqU]
      | lst vs => simp -implicitDefEqProofs [encU, isT, eqU]
      | mk m vs => simp -implicitDefEqProofs [encU, isT, eqU]
    | str i =>
      cases v with
      | int j => simp -implicitDefEqProofs [encU, isT, eqU, gEq_si hu.1]
      | bool j => simp -implicitDefEqProofs [encU, isT, eqU]
      | str j => simp -implicitDefEqProofs [encU, isT, eqU, gEq_VS hu.1 hv.1]
      | lst vs => simp -implicitDefEqProofs [encU, isT, eqU]
      | mk m vs => simp -implicitDefEqProofs [encU, isT, eqU]
    | lst us =>
      cases v with
      | lst vs =>
        have hh := hd1 vl vl
        rw [show (Str.ofString "list" == Str.ofString "list") = true by decide +kernel] at hh
        by_cases hl : us.length = vs.length
        · have f := fin (encU (.lst us)) (encU (.lst vs)) us vs hu.2 hv.2 hl
          simp only [encU] at f
          simp -implicitDefEqProofs [encU, isT, eqU, hh, hl, f]
        · have hb := neq us vs hl
          have hf := eqUs_len us vs hl
          simp -implicitDefEqProofs [encU, isT, eqU, hh, hb, hf]
      | mk m vs =>
        have hh := (hd12 vl vm hv.1.1).1
        simp -implicitDefEqProofs [encU, isT, eqU, hh]
      | int j => simp -implicitDefEqProofs [encU, isT, eqU]
      | bool j => simp -implicitDefEqProofs [encU, isT, eqU]
      | str j => simp -implicitDefEqProofs [encU, isT, eqU]
    | mk m us =>
      cases v with
      | mk n vs =>
        have hh := hd2 vm vm hu.1.1 hv.1.1
        rw [show (Str.ofString "make" == Str.ofString "make") = true by decide +kernel, Bool.true_and] at hh
        simp only [encU]
        cases hmn : m == n with
        | false =>
          rw [hmn] at hh
          have : eqU (.mk m us) (.mk n vs) = false := by simp only [eqU]; rw [hmn, Bool.false_and]
          rw [this]
          simp -implicitDefEqProofs [isT, hh]
        | true =>
          rw [hmn] at hh
          have : eqU (.mk m us) (.mk n vs) = eqUs us vs := by simp only [eqU]; rw [hmn, Bool.true_and]
          rw [this]
          by_cases hl : us.length = vs.length
          · have f := fin (encU (.mk m us)) (encU (.mk n vs)) us vs hu.2.2 hv.2.2 hl
            simp only [encU] at f
            simp -implicitDefEqProofs [isT, hh, hl, f]
          · have hb := neq us vs hl
            have hf := eqUs_len us vs hl
            simp -implicitDefEqProofs [isT, hh, hb, hf]
      | lst vs =>
        have hh := (hd12 vl vm hu.1.1).2
        simp -implicitDefEqProofs [encU, isT, eqU, hh]
      | int j => simp -implicitDefEqProofs [encU, isT, eqU]
      | bool j => simp -implicitDefEqProofs [encU, isT, eqU]
      | str j => simp -implicitDefEqProofs [encU, isT, eqU]
end My
end
section
set_option Elab.async false
set_option linter.all false
set_option maxRecDepth 100000
set_option maxHeartbeats 8000000
namespace My
open PySem PySem.Spec PyProof.Rows L2 Qp
theorem gat {xs : List D} {i : Nat} {d : D} (h : xs[i]? = some d) : atD xs (i : Int) = some d := by
  have hi := (List.getElem?_eq_some_iff.mp h).1
  rw [atD_of (by omega) (by omega), Int.toNat_natCast, h]
theorem smN {n : Nat} (h : n ≤ 100000) : Qp.small (n : Int) = true := by unfold Qp.small; simp; omega
theorem isN_t {ds : List D} : isNone (.tuple ds) = false := rfl
theorem ls_tup_ne {f : Nat} {xs ys : List D} (h : xs.length ≠ ys.length) : F__law_same (f + 1) [.tuple xs, .tuple ys] = some (.bool false, false) := by
  have hb : ((xs.length : Int) == (ys.length : Int)) = false := by simp; omega
  show runP 2 1 (b__law_same (F__law_same f)) [_, _] = _
  unfold runP b__law_same
  simp -implicitDefEqProofs [isN_t, isT, hb]
theorem ls_tup {f : Nat} {xs ys : List D} {bs : List Bool} (h : xs.length = ys.length) (hs : ys.length ≤ 100000) (hl : bs.length = ys.length) (hb : ∀ (i : Nat) (x y : D) (b : Bool), xs[i]? = some x → ys[i]? = some y → bs[i]? = some b → F__law_same f [x, y] = some (.bool b, false)) :
    F__law_same (f + 1) [.tuple xs, .tuple ys] = some (.bool (bs.all id), false) := by
  have lp := loopF_search (ft := gx 2) (body := L__law_same_1 (F__law_same f)) (fun i c => ∃ x, c = [.dat (.tuple xs), .dat (.tuple ys), x] ∧ kNo (some x) = true ∧ ∀ j, j < i → bs[j]? = some true) (fun r => bs.all id = false ∧ ∃ c, r = .rt (.bool false) false c) (rngD 0 ys.length)
    (fun i z c hi ⟨x, hc, hx, hno⟩ => by
      subst hc
      obtain ⟨hi', rfl⟩ := rng_item hi
      rw [Int.zero_add]
      have gx1 : xs[i]? = some xs[i] := List.getElem?_eq_getElem (by omega)
      have gy1 : ys[i]? = some ys[i] := List.getElem?_eq_getElem (by omega)
      have gb1 : bs[i]? = some bs[i] := List.getElem?_eq_getElem (by omega)
      have e := hb i _ _ _ gx1 gy1 gb1
      have ex := gat gx1
      have ey := gat gy1
      refine ⟨[.dat (.tuple xs), .dat (.tuple ys), .dat (.int (i : Int))], by simp [hx], ?_⟩
      generalize hbb : bs[i]'(by omega) = b at *
      cases b with
      | true =>
        left
        refine ⟨[.dat (.tuple xs), .dat (.tuple ys), .dat (.int (i : Int))], by simp -implicitDefEqProofs [L__law_same_1, ex, ey, e], _, rfl, rfl, fun j hj => ?_⟩
        by_cases hji : j = i
        · subst hji
          exact gb1
        · exact hno j (by omega)
      | false =>
        right
        refine ⟨.bool false, false, [.dat (.tuple xs), .dat (.tuple ys), .dat (.int (i : Int))], by simp -implicitDefEqProofs [L__law_same_1, ex, ey, e], ?_, _, rfl⟩
        rw [List.all_eq_false]
        exact ⟨false, List.mem_of_getElem? gb1, by decide⟩) (cs := [.dat (.tuple xs), .dat (.tuple ys), .no]) ⟨_, rfl, rfl, fun j hj => by omega⟩
  show runP 2 1 (b__law_same (F__law_same f)) [_, _] = _
  unfold runP b__law_same
  rcases lp with ⟨c, q, x, rfl, hx, hno⟩ | ⟨d, fr, c, q, hall, c', e⟩
  · rw [rngD_len] at hno
    have : bs.all id = true := by
      rw [List.all_eq_true]
      intro b hbm
      obtain ⟨i, hi⟩ := List.mem_iff_getElem?.mp hbm
      have hi' := (List.getElem?_eq_some_iff.mp hi).1
      have := hno i (by omega)
      rw [hi] at this
      exact Option.some.inj this
    rw [this]
    simp -implicitDefEqProofs [isN_t, isT, h, kR1_of (smN hs), q]
  · rw [hall]
    cases e
    simp -implicitDefEqProofs [isN_t, isT, h, kR1_of (smN hs), q]
theorem ls_str {f : Nat} {s t : Str} (hs : VS s) (ht : VS t) : F__law_same (f + 1) [.str s, .str t] = some (.bool (s == t), false) := by
  show runP 2 1 (b__law_same (F__law_same f)) [_, _] = _
  unfold runP b__law_same
  simp -implicitDefEqProofs [gEq_VS hs ht]
theorem ls_int {f : Nat} {i j : Int} : F__law_same (f + 1) [.int i, .int j] = some (.bool (i == j), false) := by
  show runP 2 1 (b__law_same (F__law_same f)) [_, _] = _
  unfold runP b__law_same
  simp -implicitDefEqProofs
theorem ls_bool {f : Nat} {i j : Bool} : F__law_same (f + 1) [.bool i, .bool j] = some (.bool (i == j), false) := by
  show runP 2 1 (b__law_same (F__law_same f)) [_, _] = _
  unfold runP b__law_same
  simp -implicitDefEqProofs
theorem eqUs_zip : ∀ us vs : List U, us.length = vs.length → ((us.zip vs).map fun x => eqU x.1 x.2).all id = eqUs us vs
  | [], [], _ => rfl
  | [], _ :: _, h => by cases h
  | _ :: _, [], h => by cases h
  | u :: us, v :: vs, h => by
    have ih := eqUs_zip us vs (by simpa using h)
    simp only [List.zip_cons_cons, List.map_cons, List.all_cons, eqUs]
    rw [ih]
    rfl
theorem ls_kids {k f : Nat} {us vs : List U} (hu : ∀ w ∈ us, UOk k w) (hv : ∀ w ∈ vs, UOk k w) (hl : vs.length ≤ 2000) (ih : ∀ u v, UOk k u → UOk k v → F__law_same f [encU u, encU v] = some (.bool (eqU u v), false)) :
    F__law_same (f + 1) [.tuple (encUs us), .tuple (encUs vs)] = some (.bool (eqUs us vs), false) := by
  by_cases h : us.length = vs.length
  · rw [← eqUs_zip us vs h]
    refine ls_tup (by rw [encUs_len, encUs_len]; exact h) (by rw [encUs_len]; omega) (by rw [List.length_map, List.length_zip, encUs_len]; omega) fun i x y b h1 h2 h3 => ?_
    rw [encUs_map, List.getElem?_map] at h1 h2
    rw [List.getElem?_map] at h3
    cases hu1 : us[i]? with
    | none => rw [hu1] at h1; cases h1
    | some u =>
      cases hv1 : vs[i]? with
      | none => rw [hv1] at h2; cases h2
      | some v =>
        rw [hu1] at h1
        rw [hv1] at h2
        cases h1
        cases h2
        have hz : (us.zip vs)[i]? = some (u, v) := by
          rw [List.getElem?_zip_eq_some]
          exact ⟨hu1, hv1⟩
        rw [hz] at h3
        cases h3
        exact ih u v (hu u (List.mem_of_getElem? hu1)) (hv v (List.mem_of_getElem? hv1))
  · rw [ls_tup_ne (by rw [encUs_len, encUs_len]; exact h), eqUs_len us vs h]
theorem lsame_ok : ∀ (k f : Nat) (u v : U), 2 * k ≤ f → UOk k u → UOk k v → F__law_same f [encU u, encU v] = some (.bool (eqU u v), false)
  | 0, _, _, _, _, h, _ => h.elim
  | k + 1, 0, _, _, h, _, _ => absurd h (by omega)
  | k + 1, 1, _, _, h, _, _ => absurd h (by omega)
  | k + 1, f + 2, u, v, hf, hu, hv => by
    have ih := fun u v hu hv => lsame_ok k f u v (by omega) hu hv
    have vl := vs_lit "list"
    have vm := vs_lit "make"
    have sc : ∀ (d e : D), (isT "tuple" d = true ∧ isT "tuple" e = false ∧ (isNone e = false ∧ (isT "bool" e = true ∨ isT "int" e = true ∨ isT "str" e = true)) ∧ isT "bool" d = false ∧ isT "int" d = false ∧ isT "str" d = false) → F__law_same (f + 2) [d, e] = some (.bool false, false) := by
      intro d e ⟨h1, h2, ⟨h3, h4⟩, h5, h6, h7⟩
      show runP 2 1 (b__law_same (F__law_same (f + 1))) [_, _] = _
      unfold runP b__law_same
      cases b1 : isT "bool" e with
      | true => simp -implicitDefEqProofs [h3, b1, h5]
      | false =>
        cases b2 : isT "int" e with
        | true => simp -implicitDefEqProofs [h3, b1, b2, h6]
        | false =>
          rw [b1, b2] at h4
          have h4 : isT "str" e = true := by simpa using h4
          simp -implicitDefEqProofs [h3, b1, b2, h4, h7]
    cases u with
    | int i =>
      cases v with
      | int j => exact ls_int
      | _ =>
        show runP 2 1 (b__law_same (F__law_same (f + 1))) [_, _] = _
        unfold runP b__law_same
        simp -implicitDefEqProofs [encU, isT, isNone, eqU]
    | bool i =>
      cases v with
      | bool j => exact ls_bool
      | _ =>
        show runP 2 1 (b__law_same (F__law_same (f + 1))) [_, _] = _
        unfold runP b__law_same
        simp -implicitDefEqProofs [encU, isT, isNone, eqU]
    | str i =>
      cases v with
      | str j => exact ls_str hu.1 hv.1
      | _ =>
        show runP 2 1 (b__law_same (F__law_same (f + 1))) [_, _] = _
        unfold runP b__law_same
        simp -implicitDefEqProofs [encU, isT, isNone, eqU]
    | lst us =>
      cases v with
      | lst vs =>
        have hk := ls_kids hu.2 hv.2 hv.1 ih
        have h1 := ls_str (f := f) vl vl
        have e : eqU (.lst us) (.lst vs) = [true, eqUs us vs].all id := by simp [eqU]
        rw [e]
        refine ls_tup rfl (by simp) rfl fun i x y b h1' h2' h3' => ?_
        match i, h1', h2', h3' with
        | 0, h1', h2', h3' => cases h1'; cases h2'; cases h3'; rw [h1]; simp
        | 1, h1', h2', h3' => cases h1'; cases h2'; cases h3'; exact hk
      | mk m vs =>
        simp only [encU, eqU]
        exact ls_tup_ne (by simp)
      | int j =>
        simp only [eqU]
        exact sc _ _ ⟨rfl, rfl, ⟨rfl, .inr (.inl rfl)⟩, rfl, rfl, rfl⟩
      | bool j =>
        simp only [eqU]
        exact sc _ _ ⟨rfl, rfl, ⟨rfl, .inl rfl⟩, rfl, rfl, rfl⟩
      | str j =>
        simp only [eqU]
        exact sc _ _ ⟨rfl, rfl, ⟨rfl, .inr (.inr rfl)⟩, rfl, rfl, rfl⟩
    | mk m us =>
      cases v with
      | mk n vs =>
        have hk := ls_kids hu.2.2 hv.2.2 hv.2.1 ih
        have h1 := ls_str (f := f) vm vm
        have h2 := ls_str (f := f) hu.1.1 hv.1.1
        have e : eqU (.mk m us) (.mk n vs) = [true, m == n, eqUs us vs].all id := by simp [eqU]
        rw [e]
        refine ls_tup rfl (by simp) rfl fun i x y b h1' h2' h3' => ?_
        match i, h1', h2', h3' with
        | 0, h1', h2', h3' => cases h1'; cases h2'; cases h3'; rw [h1]; simp
        | 1, h1', h2', h3' => cases h1'; cases h2'; cases h3'; exact h2
        | 2, h1', h2', h3' => cases h1'; cases h2'; cases h3'; exact hk
      | lst vs =>
        simp only [encU, eqU]
        exact ls_tup_ne (by simp)
      | int j =>
        simp only [eqU]
        exact sc _ _ ⟨rfl, rfl, ⟨rfl, .inr (.inl rfl)⟩, rfl, rfl, rfl⟩
      | bool j =>
        simp only [eqU]
        exact sc _ _ ⟨rfl, rfl, ⟨rfl, .inl rfl⟩, rfl, rfl, rfl⟩
      | str j =>
        simp only [eqU]
        exact sc _ _ ⟨rfl, rfl, ⟨rfl, .inr (.inr rfl)⟩, rfl, rfl, rfl⟩
end My
end
section
set_option Elab.async false
set_option linter.all false
set_option maxRecDepth 100000
set_option maxHeartbeats 2000000
namespace My
open PySem PySem.Spec PyProof.Rows L2 Qp
theorem pow50 : gPow (.int 2) (.int 50) = some (.int 1125899906842624, false) := by
  rw [gPow_i (by decide) (by decide) (by decide)]
  rfl
theorem mul50 : gMul (.int 1125899906842624) (.int 1125899906842624) = some (.int 1267650600228229401496703205376, false) := by
  rw [gMul_l (by decide) (by decide)]
  rfl
def isI : U → Bool
  | .int _ => true
  | _ => false
def lg : U → Bool
  | .int i => decide (i.natAbs > 1267650600228229401496703205375)
  | u => decide (sz u > 1000) || decide (dp u > 40)
theorem num_ok (u : U) : F_is_number [encU u] = some (.bool (isI u), false) := by
  unfold F_is_number runP b_is_number
  cases u with
  | int i => simp -implicitDefEqProofs [encU, isT, isI]
  | bool i => simp -implicitDefEqProofs [encU, isT, isI]
  | str i => simp -implicitDefEqProofs [encU, isT, isI]
  | lst i => simp -implicitDefEqProofs [encU, isT, isI]
  | mk m i => simp -implicitDefEqProofs [encU, isT, isI]
theorem orTail {FS FD : GA} {A : D} {s d : Nat} {r : En} (e1 : FS [A] = some (.int (s : Int), false)) (e2 : FD [A] = some (.int (d : Int), false)) :
    evOrV (ev2 gGt (evA (gN 1 FS) (evCons (evVar 0) evNil)) (evC (.int 1000))) (ev2 gGt (evA (gN 1 FD) (evCons (evVar 0) evNil)) (evC (.int 40))) (.dat A :: r) = some (.bool (decide (s > 1000) || decide (d > 40)), false, .dat A :: r) := by
  have hs : decide ((1000 : Int) < (s : Int)) = decide (s > 1000) := decide_eq_decide.mpr (by omega)
  have hd : decide ((40 : Int) < (d : Int)) = decide (d > 40) := decide_eq_decide.mpr (by omega)
  cases c : decide (s > 1000) with
  | true =>
    rw [c] at hs
    simp -implicitDefEqProofs [e1, hs]
  | false =>
    rw [c] at hs
    simp -implicitDefEqProofs [e1, hs, e2, hd]
theorem is_large_ok {k : Nat} {u : U} (h : UOk k u) (hk : k ≤ 60) (hz : sz u ≤ 2500) : F_is_large [encU u] = some (.bool (lg u), false) := by
  have e1 := size_ok h hz
  have e2 := depth_ok h (by omega) hz
  have e3 := orTail (r := []) e1 e2
  have num := num_ok u
  unfold F_is_large runP b_is_large
  cases u with
  | int i =>
    have ha : gAbs [.int i] = some (.int (i.natAbs : Int), false) := by
      show some (PyData.int (if i < 0 then -i else i), false) = _
      have : (if i < 0 then -i else i) = (i.natAbs : Int) := by split <;> omega
      rw [this]
    have hd : decide ((1267650600228229401496703205375 : Int) < (i.natAbs : Int)) = decide (i.natAbs > 1267650600228229401496703205375) := decide_eq_decide.mpr (by omega)
    simp only [encU, isI] at *
    simp -implicitDefEqProofs [num, ha, hd, lg, -evOrV_ap]
  | bool b => simp only [isI] at num; simp -implicitDefEqProofs [num, e3, lg, -evOrV_ap]
  | str b => simp only [isI] at num; simp -implicitDefEqProofs [num, e3, lg, -evOrV_ap]
  | lst b => simp only [isI] at num; simp -implicitDefEqProofs [num, e3, lg, -evOrV_ap]
  | mk m b => simp only [isI] at num; simp -implicitDefEqProofs [num, e3, lg, -evOrV_ap]
end My
end
section
set_option Elab.async false
set_option linter.all false
set_option maxRecDepth 100000
set_option maxHeartbeats 2000000
namespace My
open PySem PySem.Spec PyProof.Rows L2 Qp
theorem told_ok {u : U} (h : UOk 60 u) (hz : sz u ≤ 2500) : F__law_told [encU u] = some (.bool true, false) := by
  have e1 := size_ok h hz
  have e2 := depth_ok h (by omega) hz
  have e3 := law_size_ok 60 u h
  have e4 := law_depth_ok 60 u h
  have e5 := orTail (r := [.no]) e3 e4
  have e6 := is_large_ok h (by omega) hz
  have e7 := write_ok 60 u h hz
  have e8 := written_ok 60 u h hz
  have w := wr_ok h
  have s1 := @ls_int 119 (sz u : Int) (sz u : Int)
  have s2 := @ls_int 119 (dp u : Int) (dp u : Int)
  have s3 := @ls_bool 119 (lg u) (lg u)
  have s4 := @ls_str 119 (wr u) (wr u) w.1 w.1
  rw [show ((sz u : Int) == (sz u : Int)) = true by simp] at s1
  rw [show ((dp u : Int) == (dp u : Int)) = true by simp] at s2
  rw [show (lg u == lg u) = true by simp] at s3
  rw [show (wr u == wr u) = true by simp] at s4
  unfold F__law_told runP b__law_told
  generalize F__law_same (119 + 1) = FS at *
  cases u with
  | int i =>
    have hl1 : decide ((0 : Int) - 1267650600228229401496703205376 < i) = decide (-1267650600228229401496703205376 < i) := by rw [Int.zero_sub]
    have hl2 : lg (.int i) = !(decide (-1267650600228229401496703205376 < i) && decide (i < 1267650600228229401496703205376)) := by
      show decide (i.natAbs > 1267650600228229401496703205375) = _
      rw [← Bool.decide_and, ← decide_not, decide_eq_decide]
      omega
    rw [hl2] at s3 e6
    simp only [encU] at *
    cases c1 : decide (-1267650600228229401496703205376 < i) with
    | false =>
      rw [c1] at s3 e6 hl1
      rw [Bool.false_and, Bool.not_false] at s3 e6
      simp -implicitDefEqProofs [e1, e2, e3, e4, e5, e6, e7, e8, s1, s2, s3, s4, pow50, mul50, c1, -evOrV_ap]
    | true =>
      rw [c1] at s3 e6 hl1
      rw [Bool.true_and] at s3 e6
      cases c2 : decide (i < 1267650600228229401496703205376) with
      | true =>
        rw [c2, Bool.not_true] at s3 e6
        simp -implicitDefEqProofs [e1, e2, e3, e4, e5, e6, e7, e8, s1, s2, s3, s4, pow50, mul50, c1, c2, -evOrV_ap]
      | false =>
        rw [c2, Bool.not_false] at s3 e6
        simp -implicitDefEqProofs [e1, e2, e3, e4, e5, e6, e7, e8, s1, s2, s3, s4, pow50, mul50, c1, c2, -evOrV_ap]
  | bool b =>
    have hh : lg (.bool b) = (decide (sz (.bool b) > 1000) || decide (dp (.bool b) > 40)) := rfl
    rw [hh] at s3 e6
    have hi : isT "int" (encU (.bool b)) = true := rfl
    have hi2 : isT "bool" (encU (.bool b)) = true := rfl
    simp -implicitDefEqProofs [e1, e2, e3, e4, e5, e6, e7, e8, s1, s2, s3, s4, hi, hi2, -evOrV_ap]
  | str b =>
    have hh : lg (.str b) = (decide (sz (.str b) > 1000) || decide (dp (.str b) > 40)) := rfl
    rw [hh] at s3 e6
    have hi : isT "int" (encU (.str b)) = false := rfl
    simp -implicitDefEqProofs [e1, e2, e3, e4, e5, e6, e7, e8, s1, s2, s3, s4, hi, -evOrV_ap]
  | lst b =>
    have hh : lg (.lst b) = (decide (sz (.lst b) > 1000) || decide (dp (.lst b) > 40)) := rfl
    rw [hh] at s3 e6
    have hi : isT "int" (encU (.lst b)) = false := rfl
    simp -implicitDefEqProofs [e1, e2, e3, e4, e5, e6, e7, e8, s1, s2, s3, s4, hi, -evOrV_ap]
  | mk m b =>
    have hh : lg (.mk m b) = (decide (sz (.mk m b) > 1000) || decide (dp (.mk m b) > 40)) := rfl
    rw [hh] at s3 e6
    have hi : isT "int" (encU (.mk m b)) = false := rfl
    simp -implicitDefEqProofs [e1, e2, e3, e4, e5, e6, e7, e8, s1, s2, s3, s4, hi, -evOrV_ap]
end My
end
section
set_option Elab.async false
set_option linter.all false
set_option maxRecDepth 100000
set_option maxHeartbeats 1000000
namespace My
open PySem PySem.Spec PyProof.Rows L2 Qp
def stD (ns : List Int) (p b s : Int) : D := .list [.list (ns.map .int), .int p, .int b, .int s]
/-- a state of draws that may stand -/
structure StOk (ns : List Int) (p b s : Int) : Prop where
  p0 : 0 ≤ p
  p1 : p ≤ ns.length
  b0 : 0 ≤ b
  s0 : 0 ≤ s
  s1 : s < 2147483647
theorem next_spec {ns : List Int} {p b s lim : Int} (h : StOk ns p b s) (hl : 0 < lim) (hl2 : lim < 340282366920938463463374607431768211456) :
    ∃ v p' b' s' : Int, F__law_next (stD ns p b s) [.int lim] = some (.int v, false, stD ns p' b' s') ∧ StOk ns p' b' s' ∧ 0 ≤ v ∧ v < lim := by
  obtain ⟨h0, hp, hb, hs, hs2⟩ := h
  unfold F__law_next runI b__law_next stD
  by_cases hb0 : b = 0
  · subst hb0
    by_cases hpl : p < ns.length
    · obtain ⟨c, _, hc⟩ := atD_ints h0 hpl
      by_cases h18 : 1000000000000000000 ≤ c
      · refine ⟨c % lim, p + 1, c / lim, s, ?_, ⟨by omega, by omega, Int.ediv_nonneg (by omega) (by omega), hs, hs2⟩, Int.emod_nonneg _ (by omega), Int.emod_lt_of_pos _ hl⟩
        have hc0 : 0 < c := by omega
        simp -implicitDefEqProofs [gMod_i, gFdivX_i, gMul_l, gMul_r, hl, hl2, hpl, hc, h18, hc0]
      · refine ⟨((s * 48271 + c % 2147483647 + 7) % 2147483647 * 69621 + 12345) % 2147483647 / 7 % lim, p + 1, 0, ((s * 48271 + c % 2147483647 + 7) % 2147483647 * 69621 + 12345) % 2147483647, ?_, ⟨by omega, by omega, by omega, ?_, ?_⟩, ?_, ?_⟩
        · simp -implicitDefEqProofs [gMod_i, gFdivX_i, gMul_l, gMul_r, hl, hl2, hpl, hc, h18]
        · exact Int.emod_nonneg _ (by decide)
        · exact Int.emod_lt_of_pos _ (by decide)
        · exact Int.emod_nonneg _ (by omega)
        · exact Int.emod_lt_of_pos _ hl
    · refine ⟨(s * 69621 + 12345) % 2147483647 / 7 % lim, p, 0, (s * 69621 + 12345) % 2147483647, ?_, ⟨by omega, by omega, by omega, ?_, ?_⟩, ?_, ?_⟩
      · simp -implicitDefEqProofs [gMod_i, gFdivX_i, gMul_l, gMul_r, hl, hl2, hpl]
      · exact Int.emod_nonneg _ (by decide)
      · exact Int.emod_lt_of_pos _ (by decide)
      · exact Int.emod_nonneg _ (by omega)
      · exact Int.emod_lt_of_pos _ hl
  · refine ⟨b % lim, p, b / lim, s, ?_, ⟨by omega, by omega, Int.ediv_nonneg (by omega) (by omega), hs, hs2⟩, Int.emod_nonneg _ (by omega), Int.emod_lt_of_pos _ hl⟩
    have hbp : 0 < b := by omega
    have hbe : (b == 0) = false := by simp -implicitDefEqProofs [hb0]
    simp -implicitDefEqProofs [gMod_i, gFdivX_i, gMul_l, gMul_r, hl, hl2, hbe, hbp]
/-- a state of draws -/
def Stt (ns : List Int) (d : D) : Prop := ∃ p b s, d = stD ns p b s ∧ StOk ns p b s
theorem next_ok {ns : List Int} {d : D} {lim : Int} (h : Stt ns d) (hl : 0 < lim) (hl2 : lim < 340282366920938463463374607431768211456) : ∃ v d', F__law_next d [.int lim] = some (.int v, false, d') ∧ Stt ns d' ∧ 0 ≤ v ∧ v < lim := by
  obtain ⟨p, b, s, rfl, ok⟩ := h
  obtain ⟨v, p', b', s', e, ok', h1, h2⟩ := next_spec ok hl hl2
  exact ⟨v, _, e, ⟨p', b', s', rfl, ok'⟩, h1, h2⟩
theorem F_next (x : D) : F__law_next x = runI 2 2 b__law_next x := rfl
end My
end
section
set_option Elab.async false
set_option linter.all false
set_option maxRecDepth 100000
set_option maxHeartbeats 2000000
namespace My
open PySem PySem.Spec PyProof.Rows L2 Qp
/-- small enough to be turned -/
def Sm : Nat → U → Prop
  | 0, _ => False
  | k + 1, u => match u with
    | .int i => i.natAbs < 1000000000000000000000000000000000000000
    | .bool _ => True
    | .str s => s.length ≤ 1500
    | .lst us => us.length ≤ 1500 ∧ ∀ v ∈ us, Sm k v
    | .mk _ us => us.length ≤ 1500 ∧ ∀ v ∈ us, Sm k v
theorem Sm.up : ∀ {k : Nat} {u : U}, Sm k u → Sm (k + 1) u
  | 0, _, h => h.elim
  | k + 1, .int _, h => h
  | k + 1, .bool _, h => h
  | k + 1, .str _, h => h
  | k + 1, .lst us, h => ⟨h.1, fun v hv => (h.2 v hv).up⟩
  | k + 1, .mk m us, h => ⟨h.1, fun v hv => (h.2 v hv).up⟩
theorem Sm.le {k m : Nat} {u : U} (h : Sm k u) (hm : k ≤ m) : Sm m u := by
  obtain ⟨d, rfl⟩ := Nat.exists_eq_add_of_le hm
  clear hm
  induction d with
  | zero => exact h
  | succ d ih => exact ih.up
structure G (k : Nat) (S : Nat) (u : U) : Prop where
  ok : UOk k u
  sm : Sm k u
  sz : sz u ≤ S
theorem G.le {k m S T : Nat} {u : U} (h : G k S u) (h1 : k ≤ m) (h2 : S ≤ T) : G m T u := ⟨h.ok.le h1, h.sm.le h1, Nat.le_trans h.sz h2⟩
/-! ### signs -/
def CH : List Nat := ((" '!\"#$&()*+,-./0123456789:;<=>?@ABCDEFGHIJKLMNOPQRSTUVWXYZ[\\]^_`" : Str) ++ ("abcdefghijklmnopqrstuvwxyz{|}~\n" : Str)).cps.toList
theorem CH_len : CH.length = 96 ∨ CH.length = 95 := by decide +kernel
theorem CH_all : ∀ n < 95, CH[n]?.isSome = true ∧ ∀ c, CH[n]? = some c → c < 1114112 := by
  have k : (List.range 95).all (fun n => match CH[n]? with | some c => decide (c < 1114112) | none => false) = true := by decide +kernel
  intro n hn
  have := List.all_eq_true.mp k n (List.mem_range.mpr hn)
  cases e : CH[n]? with
  | none => rw [e] at this; cases this
  | some c =>
    rw [e] at this
    refine ⟨rfl, fun c' h => ?_⟩
    cases h
    exact of_decide_eq_true this
theorem char_ok {j : Int} (h : 0 ≤ j) (h2 : j < 95) : ∃ c : Nat, F__law_char [.int j] = some (strD [c], false) ∧ c < 1114112 := by
  obtain ⟨h1, h3⟩ := CH_all j.toNat (by omega)
  obtain ⟨c, hc⟩ := Option.isSome_iff_exists.mp h1
  refine ⟨c, ?_, h3 c hc⟩
  unfold F__law_char runP b__law_char
  have hm : j % 95 = j := Int.emod_eq_of_lt h h2
  have e1 : gAdd (.str " '!\"#$&()*+,-./0123456789:;<=>?@ABCDEFGHIJKLMNOPQRSTUVWXYZ[\\]^_`") (.str "abcdefghijklmnopqrstuvwxyz{|}~\n") = some (strD CH, false) := by
    rw [str_cps, str_cps]
    rw [gAdd_str (by decide +kernel)]
    unfold CH
    rfl
  have e2 : gIx (strD CH) (.int j) = some (strD [c], false) := gIx_str (by rcases CH_len with h | h <;> (rw [h]; decide)) h hc
  simp -implicitDefEqProofs [e1, gMod_i, hm, e2]
theorem pow60 : gPow (.int 2) (.int 60) = some (.int 1152921504606846976, false) := by
  rw [gPow_i (by decide) (by decide) (by decide)]
  rfl
theorem lit3 {a b c : Str} {v : Int} (h : 0 ≤ v) (h2 : v < 3) (P : Str → Prop) (ha : P a) (hb : P b) (hc : P c) : ∃ s, atD [.str a, .str b, .str c] v = some (.str s) ∧ P s := by
  have : v = 0 ∨ v = 1 ∨ v = 2 := by omega
  rcases this with rfl | rfl | rfl
  · exact ⟨a, by simp, ha⟩
  · exact ⟨b, by simp, hb⟩
  · exact ⟨c, by simp, hc⟩
theorem paired_strD {α : Type} : ∀ {xs : List α} {ds : List D}, Paired (fun _ d => ∃ c : Nat, d = strD [c] ∧ c < 1114112) xs ds → ∃ ls : List (List Nat), ds = ls.map strD ∧ ls.flatten.length = xs.length ∧ ∀ c ∈ ls.flatten, c < 1114112
  | _, _, .nil => ⟨[], rfl, rfl, fun c h => by cases h⟩
  | _, _, .cons ⟨c, h1, h2⟩ t => by
    obtain ⟨ls, rfl, hl, hr⟩ := paired_strD t
    refine ⟨[c] :: ls, by rw [h1]; rfl, by simp [hl], fun q hq => ?_⟩
    rw [List.flatten_cons] at hq
    rcases List.mem_append.mp hq with hq | hq
    · rw [List.mem_singleton.mp hq]; exact h2
    · exact hr q hq
theorem rngD_map (n : Nat) : rngD 0 n = (List.range n).map fun k : Nat => PyData.int (k : Int) := by
  refine List.ext_getElem (by rw [rngD_len, List.length_map, List.length_range]) fun i h1 h2 => ?_
  have := (rng_item (lo := 0) (n := n) (i := i) (x := (rngD 0 n)[i]) (List.getElem?_eq_getElem h1)).2
  rw [this, List.getElem_map, List.getElem_range, Int.zero_add]
theorem scalar_ok {ns : List Int} {d : D} (h : Stt ns d) : ∃ u fr d', F__law_scalar d [] = some (encU u, fr, d') ∧ Stt ns d' ∧ G 1 4 u := by
  obtain ⟨v1, d1, e1, h1, a1, b1⟩ := next_ok h (lim := 7) (by decide) (by decide)
  show ∃ u fr d', runI 1 2 b__law_scalar d [] = some (encU u, fr, d') ∧ _
  by_cases c1 : v1 < 2
  · refine ⟨.bool (v1 == 0), false, d1, ?_, h1, trivial, trivial, by simp [sz]⟩
    have : v1 = 0 ∨ v1 = 1 := by omega
    unfold runI b__law_scalar
    rcases this with rfl | rfl
    · simp -implicitDefEqProofs [e1, encU]
    · simp -implicitDefEqProofs [e1, encU]
  by_cases c2 : v1 = 2
  · subst c2
    obtain ⟨v2, d2, e2, h2, a2, b2⟩ := next_ok h1 (lim := 3) (by decide) (by decide)
    refine ⟨.int v2, false, d2, ?_, h2, ?_, ?_, by simp [sz]⟩
    · unfold runI b__law_scalar
      simp -implicitDefEqProofs [e1, e2, encU]
    · show v2.natAbs < BI
      unfold BI
      omega
    · show v2.natAbs < 1000000000000000000000000000000000000000
      omega
  by_cases c3 : v1 = 3
  · subst c3
    obtain ⟨v2, d2, e2, h2, a2, b2⟩ := next_ok h1 (lim := 2) (by decide) (by decide)
    obtain ⟨v3, d3, e3, h3, a3, b3⟩ := next_ok h2 (lim := 3) (by decide) (by decide)
    obtain ⟨lim, el, l0, l1⟩ : ∃ lim : Int, atD [.int 10, .int 1152921504606846976, .int 1267650600228229401496703205376] v3 = some (.int lim) ∧ 0 < lim ∧ lim ≤ 1267650600228229401496703205376 := by
      have : v3 = 0 ∨ v3 = 1 ∨ v3 = 2 := by omega
      rcases this with rfl | rfl | rfl
      · exact ⟨_, by simp; rfl, by decide, by decide⟩
      · exact ⟨_, by simp; rfl, by decide, by decide⟩
      · exact ⟨_, by simp; rfl, by decide, by decide⟩
    obtain ⟨v4, d4, e4, h4, a4, b4⟩ := next_ok h3 (lim := lim) l0 (by omega)
    have gm := gMul_l (j := 1 - 2 * v2) (k := v4) (by omega) (by omega)
    have gm2 := gMul_l (j := 2) (k := v2) (by decide) (by decide)
    have hab : ((1 - 2 * v2) * v4).natAbs < 1000000000000000000000000000000000000000 := by
      have : v2 = 0 ∨ v2 = 1 := by omega
      rcases this with rfl | rfl <;> omega
    refine ⟨.int ((1 - 2 * v2) * v4), false, d4, ?_, h4, ?_, hab, by simp [sz]⟩
    · unfold runI b__law_scalar
      simp -implicitDefEqProofs [e1, e2, gm2, pow50, pow60, mul50, e3, el, e4, gm, encU]
    · show _ < BI
      unfold BI
      omega
  · obtain ⟨v2, d2, e2, h2, a2, b2⟩ := next_ok h1 (lim := 4) (by decide) (by decide)
    have hsm : Qp.small v2 = true := by unfold Qp.small; simp; omega
    have k2 : (v1 == 2) = false := by simp [c2]
    have k3 : (v1 == 3) = false := by simp [c3]
    obtain ⟨ds, c', q1, ⟨d3, rfl, h3⟩, q3⟩ := loopC_io (gt := gx 2) (fe := C__law_scalar_1) (vs := [2]) (fun _ c => ∃ d', c = [.io d', .dat (.int v1), .no] ∧ Stt ns d') (fun _ d => ∃ c : Nat, d = strD [c] ∧ c < 1114112) (fun i : Nat => PyData.int (i : Int)) (List.range v2.toNat) 0 [.io d2, .dat (.int v1), .no] ⟨d2, rfl, h2⟩
      (fun j x c hj ⟨d', hc, hs⟩ => by
        subst hc
        obtain ⟨w, d'', e, h', wa, wb⟩ := next_ok hs (lim := 95) (by decide) (by decide)
        obtain ⟨ch, ec, hch⟩ := char_ok wa wb
        exact ⟨[.io d', .dat (.int v1), .dat (.int (x : Int))], false, strD [ch], [.io d'', .dat (.int v1), .dat (.int (x : Int))], by simp, by simp -implicitDefEqProofs [C__law_scalar_1, e, ec], by simp, ⟨d'', by simp, h'⟩, ch, rfl, hch⟩) [] (by rw [List.length_range, List.length_nil]; exact Nat.le_trans (show _ ≤ 6 by omega) lim6)
    obtain ⟨ls, rfl, hl, hr⟩ := paired_strD q3
    rw [List.length_range] at hl
    rw [← rngD_map, List.nil_append] at q1
    have gj := gJoin_nil (ls := ls) (LIMle (by omega)) (s := "") rfl
    have hlen : (⟨ls.flatten.toArray⟩ : Str).length = ls.flatten.length := by simp [Str.length]
    refine ⟨.str ⟨ls.flatten.toArray⟩, false, d3, ?_, h3, ⟨fun c hc => hr c (by simpa using hc), by rw [hlen]; omega⟩, ?_, ?_⟩
    · unfold runI b__law_scalar
      have ee : encU (.str ⟨ls.flatten.toArray⟩) = strD ls.flatten := by rw [encU]; rfl
      rw [ee]
      simp -implicitDefEqProofs [e1, c1, k2, k3, e2, kR1_of hsm, q1, gj]
    · show _ ≤ 1500
      rw [hlen]
      omega
    · simp only [sz]
      rw [hlen]
      omega
end My
end
section
set_option Elab.async false
set_option linter.all false
set_option maxRecDepth 100000
set_option maxHeartbeats 4000000
namespace My
open PySem PySem.Spec PyProof.Rows L2 Qp
theorem paired_encU {α : Type} {R : U → Prop} : ∀ {xs : List α} {ds : List D}, Paired (fun _ d => ∃ p, d = encU p ∧ R p) xs ds → ∃ ps, ds = encUs ps ∧ ps.length = xs.length ∧ ∀ p ∈ ps, R p
  | _, _, .nil => ⟨[], rfl, rfl, fun p h => by cases h⟩
  | _, _, .cons ⟨p, h1, h2⟩ t => by
    obtain ⟨ps, rfl, hl, hr⟩ := paired_encU t
    refine ⟨p :: ps, by rw [h1]; rfl, by simp [hl], fun q hq => ?_⟩
    rcases List.mem_cons.mp hq with rfl | hq
    · exact h2
    · exact hr q hq
theorem szs_le {S : Nat} : ∀ {us : List U}, (∀ u ∈ us, sz u ≤ S) → szs us ≤ us.length * S
  | [], _ => Nat.zero_le _
  | u :: us, h => by
    have h1 := h u List.mem_cons_self
    have h2 := szs_le (us := us) fun v hv => h v (List.mem_cons_of_mem _ hv)
    simp only [szs, List.length_cons, Nat.add_mul]
    omega
def MOk (m : Str) : Prop := VS m ∧ 1 ≤ m.length ∧ m.length ≤ 10
theorem G.lst {k S n : Nat} {us : List U} (h : ∀ u ∈ us, G k S u) (hl : us.length ≤ n) (hn : n ≤ 1500) : G (k + 1) (1 + n * S) (.lst us) :=
  ⟨⟨by omega, fun u hu => (h u hu).ok⟩, ⟨by omega, fun u hu => (h u hu).sm⟩, by
    have := szs_le fun u hu => (h u hu).sz
    have : us.length * S ≤ n * S := Nat.mul_le_mul_right _ hl
    simp only [My.sz]
    omega⟩
theorem G.mk' {k S n : Nat} {m : Str} {us : List U} (hm : MOk m) (h : ∀ u ∈ us, G k S u) (hl : us.length ≤ n) (hn : n ≤ 1500) : G (k + 1) (1 + n * S) (.mk m us) :=
  ⟨⟨hm, by omega, fun u hu => (h u hu).ok⟩, ⟨by omega, fun u hu => (h u hu).sm⟩, by
    have := szs_le fun u hu => (h u hu).sz
    have : us.length * S ≤ n * S := Nat.mul_le_mul_right _ hl
    simp only [My.sz]
    omega⟩
theorem mok (s : String) (h1 : 1 ≤ (Str.ofString s).length) (h2 : (Str.ofString s).length ≤ 10) : MOk s := ⟨vs_lit s, h1, h2⟩
def B : Nat → Nat
  | 0 => 4
  | k + 1 => 1 + 3 * B k
theorem B_ge : ∀ k, 4 ≤ B k
  | 0 => Nat.le_refl _
  | k + 1 => by have := B_ge k; show 4 ≤ 1 + 3 * B k; omega
theorem value_ok {ns : List Int} : ∀ (l f : Nat) (d : D), l ≤ f → Stt ns d → ∃ u fr d', F__law_value (f + 1) d [.int (l : Int)] = some (encU u, fr, d') ∧ Stt ns d' ∧ G (l + 1) (B l) u := by
  intro l
  induction l with
  | zero =>
    intro f d hf h
    obtain ⟨v1, d1, e1, h1, a1, b1⟩ := next_ok h (lim := 6) (by decide) (by decide)
    obtain ⟨u, fr, d2, e2, h2, g⟩ := scalar_ok h1
    refine ⟨u, false, d2, ?_, h2, g⟩
    show runI 2 3 (b__law_value (F__law_value f)) d [.int ((0 : Nat) : Int)] = _
    unfold runI b__law_value
    simp -implicitDefEqProofs [e1, e2]
  | succ l ih =>
    intro f d hf h
    obtain ⟨f, rfl⟩ : ∃ g, f = g + 1 := ⟨f - 1, by omega⟩
    show ∃ u fr d', runI 2 3 (b__law_value (F__law_value (f + 1))) d [.int ((l + 1 : Nat) : Int)] = some (encU u, fr, d') ∧ _
    obtain ⟨v1, d1, e1, h1, a1, b1⟩ := next_ok h (lim := 6) (by decide) (by decide)
    have hk0 : decide ((((l + 1 : Nat) : Int)) < 1) = false := decide_eq_false (by omega)
    have hk1 : ((l + 1 : Nat) : Int) - 1 = (l : Int) := by omega
    have hB := B_ge (l + 1)
    by_cases c : v1 < 3
    · obtain ⟨u, fr, d2, e2, h2, g⟩ := scalar_ok h1
      refine ⟨u, false, d2, ?_, h2, g.le (by omega) hB⟩
      unfold runI b__law_value
      generalize (((l + 1 : Nat) : Int)) = K at *
      simp -implicitDefEqProofs [e1, hk0, c, e2]
    · obtain ⟨v2, d2, e2, h2, a2, b2⟩ := next_ok h1 (lim := 4) (by decide) (by decide)
      have hsm : Qp.small v2 = true := by unfold Qp.small; simp; omega
      obtain ⟨ds, c', q1, ⟨d3, rfl, h3⟩, q3⟩ := loopC_io (gt := gx 4) (fe := C__law_value_1 (F__law_value (f + 1))) (vs := [4]) (fun _ c => ∃ d', c = [.io d', .dat (.int ((l + 1 : Nat) : Int)), .dat (.int v1), .no, .no] ∧ Stt ns d') (fun _ d => ∃ p, d = encU p ∧ G (l + 1) (B l) p) (fun i : Nat => PyData.int (i : Int)) (List.range v2.toNat) 0 [.io d2, .dat (.int ((l + 1 : Nat) : Int)), .dat (.int v1), .no, .no] ⟨d2, rfl, h2⟩
        (fun j x c hj ⟨d', hc, hs⟩ => by
          subst hc
          obtain ⟨p, fr, d'', e, h', hp⟩ := ih f d' (by omega) hs
          refine ⟨[.io d', .dat (.int ((l + 1 : Nat) : Int)), .dat (.int v1), .no, .dat (.int (x : Int))], false, encU p, [.io d'', .dat (.int ((l + 1 : Nat) : Int)), .dat (.int v1), .no, .dat (.int (x : Int))], by simp, ?_, by simp, ⟨d'', by simp, h'⟩, p, rfl, hp⟩
          generalize (((l + 1 : Nat) : Int)) = K at *
          simp -implicitDefEqProofs [C__law_value_1, hk1, e]) [] (by rw [List.length_range, List.length_nil]; exact Nat.le_trans (show _ ≤ 6 by omega) lim6)
      obtain ⟨ps, rfl, hl, hr⟩ := paired_encU q3
      rw [List.length_range] at hl
      rw [← rngD_map, List.nil_append] at q1
      by_cases c2 : v1 = 3
      · subst c2
        obtain ⟨v4, d4, e4, h4, a4, b4⟩ := next_ok h3 (lim := 3) (by decide) (by decide)
        obtain ⟨s, es, hs⟩ := lit3 (a := "A") (b := "Bx") (c := "C_1") a4 b4 MOk (mok _ (by decide) (by decide)) (mok _ (by decide) (by decide)) (mok _ (by decide) (by decide))
        refine ⟨.mk s ps, false, d4, ?_, h4, G.mk' hs hr (by omega) (by decide)⟩
        unfold runI b__law_value
        generalize (((l + 1 : Nat) : Int)) = K at *
        simp -implicitDefEqProofs [e1, hk0, e2, kR1_of hsm, q1, e4, es, encU]
      · have k3 : (v1 == 3) = false := by simp [c2]
        refine ⟨.lst ps, false, d3, ?_, h3, G.lst hr (by omega) (by decide)⟩
        unfold runI b__law_value
        generalize (((l + 1 : Nat) : Int)) = K at *
        simp -implicitDefEqProofs [e1, hk0, c, e2, kR1_of hsm, q1, k3, encU]
end My
end
section
set_option Elab.async false
set_option linter.all false
set_option maxRecDepth 100000
set_option maxHeartbeats 4000000
namespace My
open PySem PySem.Spec PyProof.Rows L2 Qp
theorem repS_len (x : Str) (n : Nat) : (repS x n).length = n * x.length := by
  show (repS x n).cps.size = _
  unfold repS
  rw [List.size_toArray, PyProof.Rows.lm_len_rep_flat]
  rfl
theorem repS_vs {x : Str} (h : VS x) (n : Nat) : VS (repS x n) := fun c hc => by
  have hc' : c ∈ (List.replicate n x.cps.toList).flatten := by
    unfold repS at hc
    simpa using hc
  obtain ⟨l, hl, hcl⟩ := List.mem_flatten.mp hc'
  rw [(List.mem_replicate.mp hl).2] at hcl
  exact h c hcl
theorem paired_val {α : Type} {val : α → D} : ∀ {xs : List α} {ds : List D}, Paired (fun x d => d = val x) xs ds → ds = xs.map val
  | _, _, .nil => rfl
  | _, _, .cons h t => by rw [h, paired_val t]; rfl
theorem G.str {s : Str} (h : VS s) {n : Nat} (hl : s.length ≤ n) (hn : n ≤ 1500) : G 1 (1 + n) (.str s) := ⟨⟨h, by omega⟩, (by show s.length ≤ 1500; omega), by simp only [My.sz]; omega⟩
theorem G.int {i : Int} (h : i.natAbs < 1000000000000000000000000000000000000000) : G 1 1 (.int i) := ⟨(by show i.natAbs < BI; unfold BI; omega), h, by simp [My.sz]⟩
theorem abU : List.replicate 110 (U.str "ab") = (List.replicate 110 (U.str "ab")) := rfl
theorem great_ok {ns : List Int} {d : D} (h : Stt ns d) : ∃ u fr d', F__law_great d [] = some (encU u, fr, d') ∧ Stt ns d' ∧ G 50 1200 u := by
  obtain ⟨v1, d1, e1, h1, a1, b1⟩ := next_ok h (lim := 5) (by decide) (by decide)
  show ∃ u fr d', runI 1 3 b__law_great d [] = some (encU u, fr, d') ∧ _
  have : v1 = 0 ∨ v1 = 1 ∨ v1 = 2 ∨ v1 = 3 ∨ v1 = 4 := by omega
  rcases this with rfl | rfl | rfl | rfl | rfl
  · obtain ⟨v2, d2, e2, h2, a2, b2⟩ := next_ok h1 (lim := 2) (by decide) (by decide)
    obtain ⟨v3, d3, e3, h3, a3, b3⟩ := next_ok h2 (lim := 4) (by decide) (by decide)
    have gm := gMul_l (j := 1 - 2 * v2) (k := 1267650600228229401496703205376 + v3 - 2) (by omega) (by omega)
    have gm2 := gMul_l (j := 2) (k := v2) (by decide) (by decide)
    refine ⟨.int ((1 - 2 * v2) * (1267650600228229401496703205376 + v3 - 2)), false, d3, ?_, h3, (G.int ?_).le (by decide) (by decide)⟩
    · unfold runI b__law_great
      simp -implicitDefEqProofs [e1, e2, e3, gm2, pow50, mul50, gm, encU]
    · have : v2 = 0 ∨ v2 = 1 := by omega
      rcases this with rfl | rfl <;> omega
  · obtain ⟨v2, d2, e2, h2, a2, b2⟩ := next_ok h1 (lim := 21) (by decide) (by decide)
    have er := gRepS_of (a := "y") (k := 990 + v2) (by omega) (by decide)
    have hl : (repS "y" (990 + v2).toNat).length ≤ 1010 := by
      rw [repS_len]
      have : (Str.ofString "y").length = 1 := rfl
      rw [this]
      omega
    refine ⟨.str (repS "y" (990 + v2).toNat), false, d2, ?_, h2, (G.str (repS_vs (vs_lit "y") _) hl (by decide)).le (by decide) (by decide)⟩
    unfold runI b__law_great
    simp -implicitDefEqProofs [e1, e2, er, encU]
  · obtain ⟨v2, d2, e2, h2, a2, b2⟩ := next_ok h1 (lim := 21) (by decide) (by decide)
    have hsm : Qp.small (990 + v2) = true := by unfold Qp.small; simp; omega
    obtain ⟨ds, c', q1, ⟨d3, rfl, h3⟩, q3⟩ := loopC_io (gt := gx 3) (fe := C__law_great_1) (vs := [3]) (fun _ c => ∃ d', c = [.io d', .dat (.int 2), .no, .no] ∧ Stt ns d') (fun _ d => ∃ p, d = encU p ∧ G 1 1 p) (fun i : Nat => PyData.int (i : Int)) (List.range (990 + v2).toNat) 0 [.io d2, .dat (.int 2), .no, .no] ⟨d2, rfl, h2⟩
      (fun j x c hj ⟨d', hc, hs⟩ => by
        subst hc
        obtain ⟨w, d'', e, h', wa, wb⟩ := next_ok hs (lim := 2) (by decide) (by decide)
        exact ⟨[.io d', .dat (.int 2), .no, .dat (.int (x : Int))], false, encU (.int w), [.io d'', .dat (.int 2), .no, .dat (.int (x : Int))], by simp, by simp -implicitDefEqProofs [C__law_great_1, e, encU], by simp, ⟨d'', by simp, h'⟩, .int w, rfl, G.int (by omega)⟩) [] (by rw [List.length_range, List.length_nil]; exact LIMle (by omega))
    obtain ⟨ps, rfl, hl, hr⟩ := paired_encU q3
    rw [List.length_range] at hl
    rw [← rngD_map, List.nil_append] at q1
    refine ⟨.lst ps, false, d3, ?_, h3, (G.lst (n := 1010) hr (by omega) (by decide)).le (by decide) (by decide)⟩
    unfold runI b__law_great
    simp -implicitDefEqProofs [e1, e2, kR1_of hsm, q1, encU]
  · obtain ⟨v2, d2, e2, h2, a2, b2⟩ := next_ok h1 (lim := 21) (by decide) (by decide)
    have er := gRepS_of (a := "z") (k := v2) (by omega) (by decide)
    have et := gRepT_of (ds := [.str "ab"]) (k := 110) rfl (by decide) (by decide)
    have ea : PyData.tuple [.str "list", .tuple (List.replicate (110 : Int).toNat [PyData.str "ab"]).flatten] = encU (.lst (List.replicate 110 (.str "ab"))) := by
      simp only [encU, encUs_map, List.map_replicate]
      rfl
    have ga : G 1 3 (.str "ab") := (G.str (vs_lit "ab") (n := 2) (by decide) (by decide)).le (by decide) (by decide)
    have gl : G 2 331 (.lst (List.replicate 110 (.str "ab"))) := (G.lst (n := 110) (fun u hu => by rw [(List.mem_replicate.mp hu).2]; exact ga) (by simp) (by decide)).le (by decide) (by decide)
    have hl : (repS "z" v2.toNat).length ≤ 20 := by
      rw [repS_len]
      have : (Str.ofString "z").length = 1 := rfl
      rw [this]
      omega
    have gz : G 1 21 (.str (repS "z" v2.toNat)) := G.str (repS_vs (vs_lit "z") _) hl (by decide)
    have lp : loopC (gx 3) evYes C__law_great_2 [3] (rngD 0 3) [] [.io d1, .dat (.int 3), .no, .no] = some ([encU (.lst (List.replicate 110 (.str "ab"))), encU (.lst (List.replicate 110 (.str "ab"))), encU (.lst (List.replicate 110 (.str "ab")))], [.io d1, .dat (.int 3), .no, .no]) := by
      rw [rngD_map]
      have := loopC_enc (gt := gx 3) (fe := C__law_great_2) (vs := [3]) (cs := [.io d1, .dat (.int 3), .no, .no]) (enc := fun i : Nat => PyData.int (i : Int)) (val := fun _ => encU (.lst (List.replicate 110 (.str "ab")))) (List.range 3) (fun x hx => ⟨[.io d1, .dat (.int 3), .no, .dat (.int (x : Int))], false, by simp, by rw [← ea]; generalize (List.replicate (110 : Int).toNat [PyData.str "ab"]).flatten = R at *; simp -implicitDefEqProofs [C__law_great_2, et], by simp, by simp⟩) (by simp; exact LIMle (by decide))
      exact this
    have gadd := gAdd_tt (xs := [encU (.lst (List.replicate 110 (.str "ab"))), encU (.lst (List.replicate 110 (.str "ab"))), encU (.lst (List.replicate 110 (.str "ab")))]) (ys := [PyData.str (repS "z" v2.toNat)]) (LIMle (by simp))
    have s3 : Qp.small 3 = true := by decide
    have g3 : G 3 (1 + (331 * 3 + 21)) (.mk "M" [.lst (List.replicate 110 (.str "ab")), .lst (List.replicate 110 (.str "ab")), .lst (List.replicate 110 (.str "ab")), .str (repS "z" v2.toNat)]) := by
      have hm : MOk "M" := mok _ (by decide) (by decide)
      have hall : ∀ u ∈ [U.lst (List.replicate 110 (.str "ab")), .lst (List.replicate 110 (.str "ab")), .lst (List.replicate 110 (.str "ab")), .str (repS "z" v2.toNat)], UOk 2 u ∧ Sm 2 u := fun u hu => by
        simp only [List.mem_cons, List.not_mem_nil, or_false] at hu
        rcases hu with rfl | rfl | rfl | rfl
        · exact ⟨gl.ok, gl.sm⟩
        · exact ⟨gl.ok, gl.sm⟩
        · exact ⟨gl.ok, gl.sm⟩
        · exact ⟨gz.ok.up, gz.sm.up⟩
      refine ⟨⟨hm, by simp, fun u hu => (hall u hu).1⟩, ⟨by simp, fun u hu => (hall u hu).2⟩, ?_⟩
      have h1 := gl.sz
      have h2 := gz.sz
      simp only [My.sz, szs] at h1 h2 ⊢
      omega
    refine ⟨_, false, d2, ?_, h2, g3.le (by decide) (by decide)⟩
    unfold runI b__law_great
    simp only [encU, encUs] at *
    generalize encUs (List.replicate 110 (U.str "ab")) = AB at *
    simp -implicitDefEqProofs [e1, e2, er, lp, kR1_of s3, gadd]
  · obtain ⟨v2, d2, e2, h2, a2, b2⟩ := next_ok h1 (lim := 3) (by decide) (by decide)
    obtain ⟨u0, eu0, g0⟩ : ∃ u0, atD [.int 0, .str "", .tuple [.str "list", .tuple []]] v2 = some (encU u0) ∧ G 1 1 u0 := by
      have : v2 = 0 ∨ v2 = 1 ∨ v2 = 2 := by omega
      rcases this with rfl | rfl | rfl
      · exact ⟨.int 0, by simp [encU], G.int (by decide)⟩
      · exact ⟨.str "", by simp [encU], (G.str (vs_lit "") (n := 0) (by decide) (by decide)).le (by decide) (by decide)⟩
      · exact ⟨.lst [], by simp [encU, encUs], (G.lst (k := 0) (S := 0) (n := 0) (us := []) (fun u hu => by cases hu) (by decide) (by decide)).le (by decide) (by decide)⟩
    obtain ⟨v3, d3, e3, h3, a3, b3⟩ := next_ok h2 (lim := 9) (by decide) (by decide)
    have hsm : Qp.small (35 + v3) = true := by unfold Qp.small; simp; omega
    obtain ⟨c, q, d4, u, x, rfl, h4, gu, hx⟩ := loopF_inv (ft := gx 3) (body := L__law_great_3) (fun i c => ∃ d u x, c = [.io d, .dat (.int 4), .dat (encU u), x] ∧ Stt ns d ∧ G (1 + i) (1 + i) u ∧ kNo (some x) = true) (rngD 0 (35 + v3).toNat)
      (fun i y c hi ⟨d, u, x, hc, hs, gu, hx⟩ => by
        subst hc
        obtain ⟨w, d'', e, h', wa, wb⟩ := next_ok hs (lim := 2) (by decide) (by decide)
        obtain ⟨u', eu, gu'⟩ : ∃ u', atD [.tuple [.str "list", .tuple [encU u]], .tuple [.str "make", .str "N", .tuple [encU u]]] w = some (encU u') ∧ G (1 + i + 1) (1 + 1 * (1 + i)) u' := by
          have : w = 0 ∨ w = 1 := by omega
          rcases this with rfl | rfl
          · exact ⟨.lst [u], by simp [encU, encUs], G.lst (fun v hv => by rw [List.mem_singleton.mp hv]; exact gu) (by simp) (by decide)⟩
          · exact ⟨.mk "N" [u], by simp [encU, encUs], G.mk' (mok _ (by decide) (by decide)) (fun v hv => by rw [List.mem_singleton.mp hv]; exact gu) (by simp) (by decide)⟩
        refine ⟨[.io d, .dat (.int 4), .dat (encU u), .dat y], [.io d'', .dat (.int 4), .dat (encU u'), .dat y], by simp [hx], ?_, d'', u', _, rfl, h', gu'.le (by omega) (by omega), rfl⟩
        generalize encU u = A at *
        simp -implicitDefEqProofs [L__law_great_3, e, eu])
      (cs := [.io d3, .dat (.int 4), .dat (encU u0), .no]) ⟨d3, u0, _, rfl, h3, g0, rfl⟩
    rw [rngD_len] at gu
    refine ⟨u, false, d4, ?_, h4, gu.le (by omega) (by omega)⟩
    unfold runI b__law_great
    simp -implicitDefEqProofs [e1, e2, eu0, e3, kR1_of hsm, q]
end My
end
section
set_option Elab.async false
set_option linter.all false
set_option maxRecDepth 100000
set_option maxHeartbeats 4000000
namespace My
open PySem PySem.Spec PyProof.Rows L2 Qp
theorem szs_set : ∀ {us : List U} {i : Nat} {u : U}, us[i]? = some u → szs us = szs (us.take i) + sz u + szs (us.drop (i + 1))
  | [], i, u, h => by simp at h
  | v :: us, 0, u, h => by
    simp at h
    subst h
    simp [szs]
  | v :: us, i + 1, u, h => by
    have := szs_set (us := us) (i := i) (by simpa using h)
    simp only [List.take_succ_cons, List.drop_succ_cons, szs]
    omega
theorem encUs_take (us : List U) (n : Nat) : (encUs us).take n = encUs (us.take n) := by rw [encUs_map, encUs_map, List.map_take]
theorem encUs_drop (us : List U) (n : Nat) : (encUs us).drop n = encUs (us.drop n) := by rw [encUs_map, encUs_map, List.map_drop]
/-- the kids exchanged -/
def withKids : U → List U → U
  | .lst _, ks => .lst ks
  | .mk m _, ks => .mk m ks
  | u, _ => u
def isC : U → Bool
  | .lst _ => true
  | .mk _ _ => true
  | _ => false
/-- the head: all but the kids -/
def hdD : U → List D
  | .lst _ => [.str "list"]
  | .mk m _ => [.str "make", .str m]
  | _ => []
theorem enc_c {u : U} (h : isC u = true) (ks : List U) : encU (withKids u ks) = .tuple (hdD u ++ [.tuple (encUs ks)]) ∧ encU u = .tuple (hdD u ++ [.tuple (encUs (kids u))]) := by
  cases u with
  | lst us => exact ⟨by simp [withKids, encU, hdD], by simp [encU, hdD, kids]⟩
  | mk m us => exact ⟨by simp [withKids, encU, hdD], by simp [encU, hdD, kids]⟩
  | int => cases h
  | bool => cases h
  | str => cases h
theorem sz_with {u : U} (h : isC u = true) (ks : List U) : sz (withKids u ks) = 1 + szs ks := by
  cases u with
  | lst us => simp [withKids, sz]
  | mk m us => simp [withKids, sz]
  | int => cases h
  | bool => cases h
  | str => cases h
theorem ok_with {k : Nat} {u : U} (h : isC u = true) (ho : UOk (k + 1) u) {j : Nat} {ks : List U} (hl : ks.length ≤ 2000) (hk : ∀ v ∈ ks, UOk j v) : UOk (j + 1) (withKids u ks) := by
  cases u with
  | lst us => exact ⟨hl, hk⟩
  | mk m us => exact ⟨ho.1, hl, hk⟩
  | int => cases h
  | bool => cases h
  | str => cases h
theorem kids_c {k : Nat} {u : U} (h : isC u = true) (hs : Sm (k + 1) u) : (kids u).length ≤ 1500 ∧ ∀ v ∈ kids u, Sm k v := by
  cases u with
  | lst us => exact hs
  | mk m us => exact hs
  | int => cases h
  | bool => cases h
  | str => cases h
theorem turned_c {ns : List Int} {k f : Nat} {d : D} {u : U} (hc : isC u = true) (hs : Stt ns d) (ho : UOk (k + 1) u) (hm : Sm (k + 1) u)
    (ih : ∀ d u, Stt ns d → UOk k u → Sm k u → ∃ u' fr d', F__law_turned f d [encU u] = some (encU u', fr, d') ∧ Stt ns d' ∧ UOk (k + 1) u' ∧ sz u' ≤ sz u + 100) :
    ∃ u' fr d', F__law_turned (f + 1) d [encU u] = some (encU u', fr, d') ∧ Stt ns d' ∧ UOk (k + 2) u' ∧ sz u' ≤ sz u + 100 := by
  obtain ⟨v1, d1, e1, h1, a1, b1⟩ := next_ok hs (lim := 4) (by decide) (by decide)
  have hk := ho.kids
  obtain ⟨kl, ks⟩ := kids_c hc hm
  have hlay := gEqM_e (layAll hk)
  have hem : (encUs (kids u)).isEmpty = (kids u).isEmpty := by cases kids u <;> rfl
  rw [hem] at hlay
  have hsz := sz_kids u
  have hsl : slen u = 0 := by cases u <;> first | rfl | cases hc
  have enc := fun ks => (enc_c hc ks).1
  have enc0 := (enc_c hc []).2
  have hdl : (hdD u).length ≤ 2 := by cases u <;> simp [hdD]
  have i1 : isT "bool" (encU u) = false := by rw [enc0]; rfl
  have i2 : isT "int" (encU u) = false := by rw [enc0]; rfl
  have i3 : isT "str" (encU u) = false := by rw [enc0]; rfl
  have gl : gLen (encU u) = some (.int ((hdD u).length + 1 : Nat), false) := by rw [enc0, gLen_t]; simp
  have gi : gIx (encU u) (.int (((hdD u).length + 1 : Nat) - 1)) = some (.tuple (encUs (kids u)), false) := by
    rw [enc0, gIx_t, show (((hdD u).length + 1 : Nat) : Int) - 1 = ((hdD u).length : Int) by omega, gat (d := .tuple (encUs (kids u))) (by simp)]
    rfl
  have gs : gSl (encU u) none (some (((hdD u).length + 1 : Nat) - 1)) = some (.tuple (hdD u), false) := by
    rw [enc0, show (((hdD u).length + 1 : Nat) : Int) - 1 = ((hdD u).length : Int) by omega]
    show some (PyData.tuple (cutL (hdD u ++ [.tuple (encUs (kids u))]) none (some ((hdD u).length : Int))), false) = _
    rw [cutL_to]
    simp
  have gad : ∀ ks : List U, gAdd (.tuple (hdD u)) (.tuple [.tuple (encUs ks)]) = some (encU (withKids u ks), false) := fun ks => by
    rw [gAdd_tt (LIMle (by simp; omega)), enc]
  show ∃ u' fr d', runI 2 3 (b__law_turned (F__law_turned f)) d [encU u] = some (encU u', fr, d') ∧ _
  by_cases c0 : v1 = 0 ∨ (kids u).isEmpty = true
  · -- one more
    have ga : gAdd (.tuple (encUs (kids u))) (.tuple [.int 0]) = some (.tuple (encUs (kids u ++ [.int 0])), false) := by
      rw [gAdd_tt (LIMle (by simp; omega)), encUs_app]
      rfl
    have g2 := gad (kids u ++ [.int 0])
    refine ⟨withKids u (kids u ++ [.int 0]), false, d1, ?_, h1, ?_, ?_⟩
    · unfold runI b__law_turned
      generalize encUs (kids u ++ [.int 0]) = K2 at *
      generalize encUs (kids u) = K1 at *
      generalize encU u = A at *
      generalize hdD u = HH at *
      generalize (((HH.length + 1 : Nat) : Int)) = LL at *
      by_cases c1 : v1 = 0
      · subst c1
        simp -implicitDefEqProofs [i1, i2, i3, gl, gi, e1, gs, ga, g2]
      · have c1' : (v1 == 0) = false := by simp [c1]
        have ce : (kids u).isEmpty = true := by rcases c0 with c0 | c0; exact absurd c0 c1; exact c0
        rw [ce] at hlay
        simp -implicitDefEqProofs [i1, i2, i3, gl, gi, e1, c1', hlay, gs, ga, g2]
    · refine ok_with hc ho (by rw [List.length_append]; simp; omega) fun v hv => ?_
      rcases List.mem_append.mp hv with hv | hv
      · exact (hk v hv).up
      · rw [List.mem_singleton.mp hv]
        show (0 : Int).natAbs < BI
        decide
    · rw [sz_with hc, szs_app]
      simp only [szs, sz]
      omega
  · have c1 : v1 ≠ 0 := fun h => c0 (.inl h)
    have ce : (kids u).isEmpty = false := by
      cases h : (kids u).isEmpty with
      | true => exact absurd (.inr h) c0
      | false => rfl
    have c1' : (v1 == 0) = false := by simp [c1]
    rw [ce] at hlay
    by_cases c2 : v1 = 1
    · subst c2
      refine ⟨.mk "List" (kids u), false, d1, ?_, h1, ⟨mok _ (by decide) (by decide), by omega, fun v hv => (hk v hv).up⟩, ?_⟩
      · unfold runI b__law_turned
        simp only [encU]
        generalize encUs (kids u) = K1 at *
        generalize encU u = A at *
        generalize (((hdD u).length + 1 : Nat) : Int) = LL at *
        simp -implicitDefEqProofs [i1, i2, i3, gl, gi, e1, hlay]
      · simp only [sz]
        omega
    · have c2' : (v1 == 1) = false := by simp [c2]
      have hne : kids u ≠ [] := fun z => by rw [z] at ce; cases ce
      have hpos : (0 : Int) < ((kids u).length : Nat) := by have := List.length_pos_iff.mpr hne; omega
      obtain ⟨v2, d2, e2, h2, a2, b2⟩ := next_ok h1 (lim := ((kids u).length : Nat)) hpos (by omega)
      obtain ⟨n, rfl⟩ := Int.eq_ofNat_of_zero_le a2
      have hn : n < (kids u).length := by omega
      obtain ⟨w, hw⟩ : ∃ w, (kids u)[n]? = some w := ⟨(kids u)[n], List.getElem?_eq_getElem hn⟩
      have hwm := List.mem_of_getElem? hw
      obtain ⟨w', fr, d3, e3, h3, o3, s3⟩ := ih d2 w h2 (hk w hwm) (ks w hwm)
      have gw : atD (encUs (kids u)) (n : Int) = some (encU w) := gat (by rw [encUs_map, List.getElem?_map, hw]; rfl)
      have hss := szs_set hw
      have sl1 : cutL (encUs (kids u)) none (some (n : Int)) = encUs ((kids u).take n) := by rw [cutL_to, encUs_take]
      have sl2 : cutL (encUs (kids u)) (some ((n : Int) + 1)) none = encUs ((kids u).drop (n + 1)) := by rw [show ((n : Int) + 1) = ((n + 1 : Nat) : Int) by omega, cutL_from, encUs_drop]
      have ga : gAdd (.tuple (encUs ((kids u).take n))) (.tuple [encU w']) = some (.tuple (encUs ((kids u).take n ++ [w'])), false) := by
        rw [gAdd_tt (LIMle (by simp; omega)), encUs_app]
        rfl
      have gb : gAdd (.tuple (encUs ((kids u).take n ++ [w']))) (.tuple (encUs ((kids u).drop (n + 1)))) = some (.tuple (encUs ((kids u).take n ++ [w'] ++ (kids u).drop (n + 1))), false) := by
        rw [gAdd_tt (LIMle (by simp; omega)), encUs_app (_ ++ _)]
      have g2 := gad ((kids u).take n ++ [w'] ++ (kids u).drop (n + 1))
      refine ⟨withKids u ((kids u).take n ++ [w'] ++ (kids u).drop (n + 1)), false, d3, ?_, h3, ?_, ?_⟩
      · unfold runI b__law_turned
        have hL := encUs_len (kids u)
        generalize encUs ((kids u).take n ++ [w'] ++ (kids u).drop (n + 1)) = K5 at *
        generalize encUs ((kids u).take n ++ [w']) = K4 at *
        generalize encUs ((kids u).take n) = K3 at *
        generalize encUs ((kids u).drop (n + 1)) = K2 at *
        generalize encUs (kids u) = K1 at *
        generalize (kids u).length = LK at *
        generalize encU (withKids u ((kids u).take n ++ [w'] ++ (kids u).drop (n + 1))) = RES at *
        generalize encU u = A at *
        generalize encU w = W at *
        generalize encU w' = W' at *
        generalize hdD u = HH at *
        generalize (((HH.length + 1 : Nat) : Int)) = LL at *
        simp -implicitDefEqProofs [i1, i2, i3, gl, gi, e1, c1', hlay, c2', hL, e2, gw, e3, sl1, sl2, ga, gb, gs, g2]
      · refine ok_with hc ho (by simp; omega) fun v hv => ?_
        rcases List.mem_append.mp hv with hv | hv
        · rcases List.mem_append.mp hv with hv | hv
          · exact (hk v (List.mem_of_mem_take hv)).up
          · rw [List.mem_singleton.mp hv]
            exact o3
        · exact (hk v (List.mem_of_mem_drop hv)).up
      · rw [sz_with hc, szs_app, szs_app]
        simp only [szs]
        omega
end My
end
section
set_option Elab.async false
set_option linter.all false
set_option maxRecDepth 100000
set_option maxHeartbeats 4000000
namespace My
open PySem PySem.Spec PyProof.Rows L2 Qp
theorem turned_ok {ns : List Int} : ∀ (k f : Nat) (d : D) (u : U), k ≤ f → Stt ns d → UOk k u → Sm k u → ∃ u' fr d', F__law_turned f d [encU u] = some (encU u', fr, d') ∧ Stt ns d' ∧ UOk (k + 1) u' ∧ sz u' ≤ sz u + 100
  | 0, _, _, _, _, _, h, _ => h.elim
  | k + 1, 0, _, _, hf, _, _, _ => absurd hf (by omega)
  | k + 1, f + 1, d, u, hf, hs, ho, hm => by
    cases u with
    | lst us => exact turned_c rfl hs ho hm fun d u h1 h2 h3 => turned_ok k f d u (by omega) h1 h2 h3
    | mk m us => exact turned_c rfl hs ho hm fun d u h1 h2 h3 => turned_ok k f d u (by omega) h1 h2 h3
    | bool b =>
      refine ⟨.int (if b = true then 1 else 0), false, d, ?_, hs, ?_, by simp [sz]⟩
      · show runI 2 3 (b__law_turned (F__law_turned f)) d [_] = _
        unfold runI b__law_turned
        simp -implicitDefEqProofs [encU, isT]
      · show Int.natAbs _ < BI
        cases b <;> decide
    | int i =>
      obtain ⟨v1, d1, e1, h1, a1, b1⟩ := next_ok hs (lim := 3) (by decide) (by decide)
      have hi : i.natAbs < 1000000000000000000000000000000000000000 := hm
      have hI : i.natAbs < BI := ho
      have gs := gStr_ok hI
      have sl := strI_len hI
      obtain ⟨u', eu, o', s'⟩ : ∃ u', atD [.int (i + 1), .bool (i == 1), .str (strI i)] v1 = some (encU u') ∧ UOk (k + 2) u' ∧ sz u' ≤ 101 := by
        have : v1 = 0 ∨ v1 = 1 ∨ v1 = 2 := by omega
        rcases this with rfl | rfl | rfl
        · exact ⟨.int (i + 1), by simp [encU], by show (i + 1).natAbs < BI; unfold BI; omega, by simp [sz]⟩
        · exact ⟨.bool (i == 1), by simp [encU], trivial, by simp [sz]⟩
        · exact ⟨.str (strI i), by simp [encU], ⟨strI_vs i, by omega⟩, by simp only [sz]; omega⟩
      refine ⟨u', false, d1, ?_, h1, o', by simp only [sz]; omega⟩
      show runI 2 3 (b__law_turned (F__law_turned f)) d [_] = _
      unfold runI b__law_turned
      simp only [encU]
      simp -implicitDefEqProofs [e1, gs, eu]
    | str s =>
      have hl : s.length ≤ 1500 := hm
      have ga := gAdd_S (a := s) (b := "a") (by have : (Str.ofString "a").length = 1 := rfl; omega)
      refine ⟨.str (s ++ "a"), false, d, ?_, hs, ⟨vsA ho.1 (vs_lit "a"), ?_⟩, ?_⟩
      · show runI 2 3 (b__law_turned (F__law_turned f)) d [_] = _
        unfold runI b__law_turned
        simp only [encU]
        simp -implicitDefEqProofs [ga]
      · rw [app_len]
        have : (Str.ofString "a").length = 1 := rfl
        omega
      · simp only [sz]
        rw [app_len]
        have : (Str.ofString "a").length = 1 := rfl
        omega
/-- the end of the law -/
theorem law_end {u v : U} (hu : UOk 60 u) (hv : UOk 60 v) (zu : sz u ≤ 2500) (zv : sz v ≤ 2500) (c0 c1 c4 : Cell) (h0 : ∃ d, c0 = .dat d) :
    outP (sSeq (sIf (evOrT (evNotT (evT (evA (gN 1 (F__law_told)) (evCons (evVar 2) (evNil))))) (evNotT (evT (evA (gN 1 (F__law_told)) (evCons (evVar 3) (evNil)))))) (sRet (evC (.bool false))) (sNx))
  (sSeq (sAsg 5 (evAndV (evA (gN 2 (F__law_same 120)) (evCons (evVar 2) (evCons (evVar 3) (evNil)))) (evA (gN 2 (F__law_same 120)) (evCons (evVar 3) (evCons (evVar 2) (evNil))))))
  (sRet (evAndV (evA (gN 2 (F__law_same 120)) (evCons (evA (gN 2 (F_same 60)) (evCons (evVar 2) (evCons (evVar 3) (evNil)))) (evCons (evVar 5) (evNil)))) (evA (gN 2 (F__law_same 120)) (evCons (evA (gN 2 (F_same 60)) (evCons (evVar 3) (evCons (evVar 2) (evNil)))) (evCons (evVar 5) (evNil)))))))
      [c0, c1, .dat (encU u), .dat (encU v), c4, .no]) = some (.bool true, false) := by
  have t1 := told_ok hu zu
  have t2 := told_ok hv zv
  have s1 := lsame_ok 60 120 u v (by decide) hu hv
  have s2 := lsame_ok 60 120 v u (by decide) hv hu
  have q1 := same_ok 60 u v hu hv
  have q2 := same_ok 60 v u hv hu
  rw [eqU_cm v u] at s2 q2
  have b1 := @ls_bool 119 (eqU u v) (eqU u v)
  rw [show (eqU u v == eqU u v) = true by simp] at b1
  generalize F__law_same 120 = FS at *
  have b1 : FS [.bool (eqU u v), .bool (eqU u v)] = some (.bool true, false) := b1
  generalize encU u = A at *
  generalize encU v = C at *
  generalize eqU u v = b at *
  cases b with
  | true => simp -implicitDefEqProofs [t1, t2, s1, s2, q1, q2, b1]
  | false => simp -implicitDefEqProofs [t1, t2, s1, s2, q1, q2, b1]
end My
end
section
set_option Elab.async false
set_option linter.all false
set_option maxRecDepth 100000
set_option maxHeartbeats 4000000
namespace My
open PySem PySem.Spec PyProof.Rows L2 Qp
theorem seq_nx {p q : SX} {cs c : En} (h : p cs = some (.nx c)) : sSeq p q cs = q c := by
  show ((p cs).bind fun z => _) = _
  rw [h]
  rfl
theorem main (ns : List Int) (hl : ns.length ≤ 63) : F_law [.list (ns.map .int)] = some (.bool true, false) := by
  have st0 : Stt ns (.list [.list (ns.map .int), .int 0, .int 0, .int 1]) := ⟨0, 0, 1, rfl, by decide, by omega, by decide, by decide, by decide⟩
  obtain ⟨u1, f1, d1, e1, h1, g1⟩ := value_ok 4 7 _ (by decide) st0
  obtain ⟨v2, d2, e2, h2, a2, b2⟩ := next_ok h1 (lim := 4) (by decide) (by decide)
  generalize hS : PyData.list (ns.map .int) = S at *
  -- the first value, maybe a great one
  have st1 : (sAsg 1 (evA gLstD (evCons (evV1 gList 0) (evCons (evC (.int 0)) (evCons (evC (.int 0)) (evCons (evC (.int 1)) (evNil))))))) [.dat S, .no, .no, .no, .no, .no] = some (.nx [.dat S, .own (.list [S, .int 0, .int 0, .int 1]), .no, .no, .no, .no]) := by
    rw [← hS]
    simp -implicitDefEqProofs
  have st2 : (sAsg 2 (evCI 2 (F__law_value 8) 1 (evCons (evC (.int 4)) (evNil)))) [.dat S, .own (.list [S, .int 0, .int 0, .int 1]), .no, .no, .no, .no] = some (.nx [.dat S, .own d1, .dat (encU u1), .no, .no, .no]) := by
    have e1 : F__law_value 8 (.list [S, .int 0, .int 0, .int 1]) [.int 4] = some (encU u1, f1, d1) := e1
    generalize F__law_value 8 = F at *
    simp -implicitDefEqProofs [e1]
  obtain ⟨u2, d3, st3, h3, g3⟩ : ∃ u d, (sIf (evT (ev2 gEq (evCI 2 (F__law_next) 1 (evCons (evC (.int 4)) (evNil))) (evC (.int 0)))) (sAsg 2 (evCI 1 (F__law_great) 1 (evNil))) (sNx)) [.dat S, .own d1, .dat (encU u1), .no, .no, .no] = some (.nx [.dat S, .own d, .dat (encU u), .no, .no, .no]) ∧ Stt ns d ∧ G 50 1200 u := by
    by_cases c : v2 = 0
    · subst c
      obtain ⟨u, fr, d, e, h, g⟩ := great_ok h2
      refine ⟨u, d, ?_, h, g⟩
      generalize encU u = A at *
      generalize encU u1 = C at *
      simp -implicitDefEqProofs [e2, e]
    · refine ⟨u1, d2, ?_, h2, g1.le (by decide) (by decide)⟩
      have c' : (v2 == 0) = false := by simp [c]
      generalize encU u1 = C at *
      simp -implicitDefEqProofs [e2, c']
  obtain ⟨v4, d4, e4, h4, a4, b4⟩ := next_ok h3 (lim := 4) (by decide) (by decide)
  obtain ⟨u3, st4, g4⟩ : ∃ u, (sIf (evT (ev2 gEq (evCI 2 (F__law_next) 1 (evCons (evC (.int 4)) (evNil))) (evC (.int 0)))) (sAsg 2 (evA gTupD (evCons (evC (.str "list")) (evCons (evA gTupD (evCons (evVar 2) (evNil))) (evNil))))) (sNx)) [.dat S, .own d3, .dat (encU u2), .no, .no, .no] = some (.nx [.dat S, .own d4, .dat (encU u), .no, .no, .no]) ∧ G 51 1201 u := by
    by_cases c : v4 = 0
    · subst c
      refine ⟨.lst [u2], ?_, (G.lst (n := 1) (us := [u2]) (fun v hv => by rw [List.mem_singleton.mp hv]; exact g3) (by simp) (by decide)).le (by decide) (by decide)⟩
      simp only [encU, encUs]
      generalize encU u2 = C at *
      simp -implicitDefEqProofs [e4]
    · refine ⟨u2, ?_, g3.le (by decide) (by decide)⟩
      have c' : (v4 == 0) = false := by simp [c]
      generalize encU u2 = C at *
      simp -implicitDefEqProofs [e4, c']
  obtain ⟨u5, f5, d5, e5, h5, g5⟩ := value_ok 4 7 _ (by decide) h4
  have st5 : (sAsg 3 (evCI 2 (F__law_value 8) 1 (evCons (evC (.int 4)) (evNil)))) [.dat S, .own d4, .dat (encU u3), .no, .no, .no] = some (.nx [.dat S, .own d5, .dat (encU u3), .dat (encU u5), .no, .no]) := by
    have e5 : F__law_value 8 d4 [.int 4] = some (encU u5, f5, d5) := e5
    generalize F__law_value 8 = F at *
    generalize encU u5 = A at *
    generalize encU u3 = C at *
    simp -implicitDefEqProofs [e5]
  obtain ⟨v6, d6, e6, h6, a6, b6⟩ := next_ok h5 (lim := 4) (by decide) (by decide)
  have st6 : (sAsg 4 (evCI 2 (F__law_next) 1 (evCons (evC (.int 4)) (evNil)))) [.dat S, .own d5, .dat (encU u3), .dat (encU u5), .no, .no] = some (.nx [.dat S, .own d6, .dat (encU u3), .dat (encU u5), .dat (.int v6), .no]) := by
    generalize encU u5 = A at *
    generalize encU u3 = C at *
    simp -implicitDefEqProofs [e6]
  obtain ⟨u7, d7, st7, o7, z7⟩ : ∃ u d, (sIf (evT (evIxV gEq 4 (evC (.int 0)))) (sAsg 3 (evVar 2)) (sIf (evT (ev2 gLt (evVar 4) (evC (.int 3)))) (sAsg 3 (evCI 2 (F__law_turned 60) 1 (evCons (evVar 2) (evNil)))) (sNx))) [.dat S, .own d6, .dat (encU u3), .dat (encU u5), .dat (.int v6), .no] = some (.nx [.dat S, .own d, .dat (encU u3), .dat (encU u), .dat (.int v6), .no]) ∧ UOk 60 u ∧ sz u ≤ 2500 := by
    by_cases c : v6 = 0
    · subst c
      refine ⟨u3, d6, ?_, g4.ok.le (by decide), Nat.le_trans g4.sz (by decide)⟩
      generalize encU u5 = A at *
      generalize encU u3 = C at *
      generalize F__law_turned 60 = F at *
      simp -implicitDefEqProofs
    · have c' : (v6 == 0) = false := by simp [c]
      by_cases c2 : v6 < 3
      · obtain ⟨u, fr, d, e, h, o, z⟩ := turned_ok 51 60 d6 u3 (by decide) h6 g4.ok g4.sm
        refine ⟨u, d, ?_, o.le (by decide), by have := g4.sz; omega⟩
        generalize encU u = Q at *
        generalize encU u5 = A at *
        generalize encU u3 = C at *
        generalize F__law_turned 60 = F at *
        simp -implicitDefEqProofs [c', c2, e]
      · refine ⟨u5, d6, ?_, g5.ok.le (by decide), Nat.le_trans g5.sz (by decide)⟩
        generalize encU u5 = A at *
        generalize encU u3 = C at *
        generalize F__law_turned 60 = F at *
        simp -implicitDefEqProofs [c', c2]
  have fin := law_end (u := u3) (v := u7) (g4.ok.le (by decide)) o7 (Nat.le_trans g4.sz (by decide)) z7 (.dat S) (.own d7) (.dat (.int v6)) ⟨S, rfl⟩
  show outP (b_law [.dat S, .no, .no, .no, .no, .no]) = _
  unfold b_law
  rw [seq_nx st1, seq_nx st2, seq_nx st3, seq_nx st4, seq_nx st5, seq_nx st6, seq_nx st7]
  exact fin
end My
end
section
open PySem PySem.W PyProof.Rows
set_option maxHeartbeats 0 in
theorem PySem.Challenge.cw_quillproof_k25_values_holds : PySem.Challenge.rw_quillproof_k25_values.Holds := by
  w_on; o_law; k_head; (case hw => w_witness2)
  k_fill
  refine L2.walk_of (l := PySem.Challenge.rw_quillproof_k25_values) (n := 63) (k := 122) (x := "script") (CX := fun _ => L2.CX0) (sp := fun w => Qp.spP _ 1 My.F_law) rfl (by decide) rfl ⟨rfl, by decide, by decide⟩ (fun w h Y => PySem.W.kIn_of Y) ?F (fun _ _ a ns hl _ hS => Qp.law_sp hS (My.main ns hl)) (fun _ _ _ _ _ h => h)
  case F =>
    intro w mg fa h KX G hmg
    refine' My.all_mk KX G hmg ?a0 ?l0 ?c0 ?k0 ?a1 ?l1 ?c1 ?k1 ?a2 ?l2 ?c2 ?k2 ?a3 ?l3 ?c3 ?k3 ?a4 ?l4 ?c4 ?k4 ?a5 ?l5 ?c5 ?k5 ?a6 ?l6 ?c6 ?k6 ?a7 ?l7 ?c7 ?k7 ?a8 ?l8 ?c8 ?k8 ?a9 ?l9 ?c9 ?k9 ?a10 ?l10 ?c10 ?k10 ?a11 ?l11 ?c11 ?k11 ?a12 ?l12 ?c12 ?k12 ?a13 ?l13 ?c13 ?k13 ?a14 ?l14 ?c14 ?k14 ?a15 ?l15 ?c15 ?k15 ?a16 ?l16 ?c16 ?k16 ?a17 ?l17 ?c17 ?k17 ?a18 ?l18 ?c18 ?k18 ?a19 ?l19 ?c19 ?k19 ?z0 ?z1 ?z2 ?z3 ?z4 ?z5 ?z6 ?z7 ?z8 ?z9 ?z10 ?yc0 ?yc1 ?yc2
    (case a0 => k_is); (case l0 => k_is); (case c0 => k_is); (case k0 => k_is); (case a1 => k_is); (case l1 => k_is); (case c1 => k_is); (case k1 => k_is)
    (case a2 => k_is); (case l2 => k_is); (case c2 => k_is); (case k2 => k_is); (case a3 => k_is); (case l3 => k_is); (case c3 => k_is); (case k3 => k_is)
    (case a4 => k_is); (case l4 => k_is); (case c4 => k_is); (case k4 => k_is); (case a5 => k_is); (case l5 => k_is); (case c5 => k_is); (case k5 => k_is)
    (case a6 => k_is); (case l6 => k_is); (case c6 => k_is); (case k6 => k_is); (case a7 => k_is); (case l7 => k_is); (case c7 => k_is); (case k7 => k_is)
    (case a8 => k_is); (case l8 => k_is); (case c8 => k_is); (case k8 => k_is); (case a9 => k_is); (case l9 => k_is); (case c9 => k_is); (case k9 => k_is)
    (case a10 => k_is); (case l10 => k_is); (case c10 => k_is); (case k10 => k_is); (case a11 => k_is); (case l11 => k_is); (case c11 => k_is); (case k11 => k_is)
    (case a12 => k_is); (case l12 => k_is); (case c12 => k_is); (case k12 => k_is); (case a13 => k_is); (case l13 => k_is); (case c13 => k_is); (case k13 => k_is)
    (case a14 => k_is); (case l14 => k_is); (case c14 => k_is); (case k14 => k_is); (case a15 => k_is); (case l15 => k_is); (case c15 => k_is); (case k15 => k_is)
    (case a16 => k_is); (case l16 => k_is); (case c16 => k_is); (case k16 => k_is); (case a17 => k_is); (case l17 => k_is); (case c17 => k_is); (case k17 => k_is)
    (case a18 => k_is); (case l18 => k_is); (case c18 => k_is); (case k18 => k_is); (case a19 => k_is); (case l19 => k_is); (case c19 => k_is); (case k19 => k_is)
    (case z0 => k_is); (case z1 => k_is); (case z2 => k_is); (case z3 => k_is); (case z4 => k_is); (case z5 => k_is); (case z6 => k_is); (case z7 => k_is)
    (case z8 => k_is); (case z9 => k_is); (case z10 => k_is); (case yc0 => k_is); (case yc1 => k_is); (case yc2 => k_is)
end
