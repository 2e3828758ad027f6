import PyProof.Rows.All
import Wide.All
import OpenK.AllK
import Wide.FinOn
import HandS.ForMost
import HandS.IsInst
import HandS.TupAny
import PySem.Challenge.RW_quillproof_k11_names_made_and_used
import HandS.Dict
import HandS.SetKeys
import HandS.Star
import HandS.More
import HandS.WordsDict
import HandS.AnyAll
import HandS.NoneIn
import HandS.DeepEq
import HandS.DictComp
import HandS.Iter
import HandS.Style
import HandS.Deep
import HandS.Zip
import KE.GoesNew
import KE.GoesMore
import HandS.Wide
import HandS.Text
import HandS.TupMul
import HandS.ReplaceLit
import HandS.StrMore
section
set_option Elab.async false
set_option linter.all false
set_option maxRecDepth 100000
set_option maxHeartbeats 2000000
/-! Qa: data, representation, cells, the state relation. -/
namespace Qp
open PySem PySem.Spec PyProof.Rows L2
abbrev D := PyData
abbrev St := L2.St
def kD : Key → D
  | .inl i => .int i
  | .inr s => .str s
theorem Pd.len {α β : Type} {R : α → β → Prop} : ∀ {xs : List α} {ys : List β}, Paired R xs ys → xs.length = ys.length
  | _, _, .nil => rfl
  | _, _, .cons _ t => by simp [Pd.len t]
theorem Pd.get {α β : Type} {R : α → β → Prop} : ∀ {xs : List α} {ys : List β} {i : Nat} {y : β}, Paired R xs ys → ys[i]? = some y → ∃ x, xs[i]? = some x ∧ R x y
  | _, _, _, _, .nil, e => by simp at e
  | _, _, 0, _, .cons r _, e => by simp at e; subst e; exact ⟨_, rfl, r⟩
  | _, _, i + 1, y, .cons _ t, e => by
    obtain ⟨u, h1, h2⟩ := Pd.get (i := i) (y := y) t (by simpa using e)
    exact ⟨u, by simpa using h1, h2⟩
theorem Pd.getL {α β : Type} {R : α → β → Prop} : ∀ {xs : List α} {ys : List β} {i : Nat} {x : α}, Paired R xs ys → xs[i]? = some x → ∃ y, ys[i]? = some y ∧ R x y
  | _, _, _, _, .nil, e => by simp at e
  | _, _, 0, _, .cons r _, e => by simp at e; subst e; exact ⟨_, rfl, r⟩
  | _, _, i + 1, y, .cons _ t, e => by
    obtain ⟨u, h1, h2⟩ := Pd.getL (i := i) (x := y) t (by simpa using e)
    exact ⟨u, by simpa using h1, h2⟩
theorem Pd.append {α β : Type} {R : α → β → Prop} : ∀ {xs xs' : List α} {ys ys' : List β}, Paired R xs ys → Paired R xs' ys' → Paired R (xs ++ xs') (ys ++ ys')
  | _, _, _, _, .nil, s => s
  | _, _, _, _, .cons r t, s => .cons r (Pd.append t s)
theorem Pd.set {α β : Type} {R : α → β → Prop} {x : α} {y : β} (r : R x y) : ∀ {xs : List α} {ys : List β} (i : Nat), Paired R xs ys → Paired R (xs.set i x) (ys.set i y)
  | _, _, _, .nil => .nil
  | _, _, 0, .cons _ t => .cons r t
  | _, _, i + 1, .cons q t => .cons q (Pd.set r i t)
theorem Pd.take {α β : Type} {R : α → β → Prop} : ∀ {xs : List α} {ys : List β} (n : Nat), Paired R xs ys → Paired R (xs.take n) (ys.take n)
  | _, _, 0, _ => .nil
  | _, _, _ + 1, .nil => .nil
  | _, _, n + 1, .cons r t => .cons r (Pd.take n t)
theorem Pd.drop {α β : Type} {R : α → β → Prop} : ∀ {xs : List α} {ys : List β} (n : Nat), Paired R xs ys → Paired R (xs.drop n) (ys.drop n)
  | _, _, 0, r => r
  | _, _, _ + 1, .nil => .nil
  | _, _, n + 1, .cons _ t => Pd.drop n t
theorem Pd.mono {α β : Type} {R S : α → β → Prop} (h : ∀ x y, R x y → S x y) : ∀ {xs : List α} {ys : List β}, Paired R xs ys → Paired S xs ys
  | _, _, .nil => .nil
  | _, _, .cons r t => .cons (h _ _ r) (Pd.mono h t)
theorem Pd.reverse {α β : Type} {R : α → β → Prop} {xs : List α} {ys : List β} (h : Paired R xs ys) : Paired R xs.reverse ys.reverse := by
  induction h with
  | nil => exact .nil
  | cons r t ih => rw [List.reverse_cons, List.reverse_cons]; exact Pd.append ih (.cons r .nil)
theorem Pd.dropLast {α β : Type} {R : α → β → Prop} {xs : List α} {ys : List β} (h : Paired R xs ys) : Paired R xs.dropLast ys.dropLast := by
  rw [List.dropLast_eq_take, List.dropLast_eq_take, Pd.len h]
  exact Pd.take _ h

/-- a value stands for a datum that is not changed any more -/
inductive Rp (K : PySem.W.Frag) (F : Hp) : V → D → Prop
  | non : Rp K F .non .none
  | bl (b : Bool) : Rp K F (.bl b) (.bool b)
  | int (i : Int) : Rp K F (.int i) (.int i)
  | str (x : Str) : Rp K F (.str x) (.str x)
  | lst {a : Addr} {xs : List V} {ds : List D} : SqL K F a xs → Paired (Rp K F) xs ds → Rp K F (.ref a) (.list ds)
  | tup {a : Addr} {xs : List V} {ds : List D} : SqT K F a xs → Paired (Rp K F) xs ds → Rp K F (.ref a) (.tuple ds)
  | dic {a : Addr} {kvs : List (Key × V)} {es : List (D × D)} : Rd F a (.dK kvs) → es.map (·.1) = kvs.map (fun p => kD p.1) → Paired (Rp K F) (kvs.map (·.2)) (es.map (·.2)) → Rp K F (.ref a) (.dict es)
/-- .. an object that is changed by its one owner -/
inductive OwnAt (K : PySem.W.Frag) (F : Hp) : Option HO → D → Prop
  | lst {xs : List V} {ds : List D} : Paired (Rp K F) xs ds → OwnAt K F (some (.lst xs)) (.list ds)
  | dic {kvs : List (Key × V)} {es : List (D × D)} : es.map (·.1) = kvs.map (fun p => kD p.1) → Paired (Rp K F) (kvs.map (·.2)) (es.map (·.2)) → OwnAt K F (some (.dK kvs)) (.dict es)

def Nf (u : HO) : Prop := ∀ o w, u ≠ .frz o w
def Le (F F' : Hp) : Prop := ∀ a u, Nf u → Rd F a u → Rd F' a u
theorem nf_dK {kvs : List (Key × V)} : Nf (.dK kvs) := fun _ _ z => nomatch z
theorem nf_lst {xs : List V} : Nf (.lst xs) := fun _ _ z => nomatch z
theorem nf_tup {xs : List V} : Nf (.tup xs) := fun _ _ z => nomatch z
theorem Le.refl (F : Hp) : Le F F := fun _ _ _ h => h
theorem Le.trans {F G J : Hp} (a : Le F G) (b : Le G J) : Le F J := fun x u n h => b x u n (a x u n h)
theorem Le.sqL {K : PySem.W.Frag} {F F' : Hp} {a : Addr} {xs : List V} (h : Le F F') (q : SqL K F a xs) : SqL K F' a xs := q.imp (h _ _ nf_lst) id
theorem Le.sqT {K : PySem.W.Frag} {F F' : Hp} {a : Addr} {xs : List V} (h : Le F F') (q : SqT K F a xs) : SqT K F' a xs := q.imp (h _ _ nf_tup) id
theorem Rp.mono {K : PySem.W.Frag} {F F' : Hp} (h : Le F F') {v : V} {d : D} (r : Rp K F v d) : Rp K F' v d :=
  Rp.rec (motive_1 := fun v d _ => Rp K F' v d) (motive_2 := fun xs ds _ => Paired (Rp K F') xs ds) .non .bl .int .str
    (fun a _ ih => .lst (h.sqL a) ih) (fun a _ ih => .tup (h.sqT a) ih) (fun a e _ ih => .dic (h _ _ nf_dK a) e ih) .nil (fun _ _ r t => .cons r t) r
theorem Rp.monoA {K : PySem.W.Frag} {F F' : Hp} (h : Le F F') {xs : List V} {ds : List D} (r : Paired (Rp K F) xs ds) : Paired (Rp K F') xs ds := Pd.mono (fun _ _ q => q.mono h) r
theorem OwnAt.mono {K : PySem.W.Frag} {F F' : Hp} (h : Le F F') {o : Option HO} {d : D} (r : OwnAt K F o d) : OwnAt K F' o d := by
  cases r with
  | lst p => exact .lst (Rp.monoA h p)
  | dic e p => exact .dic e (Rp.monoA h p)
theorem OwnAt.some {K : PySem.W.Frag} {F : Hp} {o : Option HO} {d : D} (r : OwnAt K F o d) : o ≠ none := by
  cases r with
  | lst p => exact fun z => nomatch z
  | dic e p => exact fun z => nomatch z
theorem OwnAt.rp {K : PySem.W.Frag} {F F' : Hp} {a : Addr} {o : Option HO} {d : D} (r : OwnAt K F o d) (e : F' a = o) (h : Le F F') : Rp K F' (.ref a) d := by
  cases r with
  | lst p => exact .lst (.inl (.inl e)) (Rp.monoA h p)
  | dic e' p => exact .dic (.inl e) e' (Rp.monoA h p)

/-! ### the heap without what is owned -/
open Classical in
noncomputable def cut (H : Hp) (M : Addr → Prop) : Hp := fun a => if M a then none else H a
theorem cut_of {H : Hp} {M : Addr → Prop} {a : Addr} (h : ¬ M a) : cut H M a = H a := if_neg h
theorem cut_in {H : Hp} {M : Addr → Prop} {a : Addr} (h : M a) : cut H M a = none := if_pos h
theorem cut_some {H : Hp} {M : Addr → Prop} {a : Addr} {o : HO} (h : cut H M a = some o) : H a = some o ∧ ¬ M a := by
  by_cases m : M a
  · rw [cut_in m] at h; cases h
  · rw [cut_of m] at h; exact ⟨h, m⟩
theorem le_cut {H H' : Hp} {M M' : Addr → Prop} (h : ∀ a o, H a = some o → ¬ M a → H' a = some o ∧ ¬ M' a) : Le (cut H M) (cut H' M') := by
  intro a u nf r
  rcases r with r | ⟨o, r⟩
  · obtain ⟨h1, h2⟩ := cut_some r
    obtain ⟨h3, h4⟩ := h a _ h1 h2
    exact .inl ((cut_of h4).trans h3)
  · obtain ⟨h1, h2⟩ := cut_some r
    obtain ⟨h3, h4⟩ := h a _ h1 h2
    exact .inr ⟨o, (cut_of h4).trans h3⟩
theorem cut_le {H : Hp} {M : Addr → Prop} : Le (cut H M) H := by
  intro a u nf r
  rcases r with r | ⟨o, r⟩
  · exact .inl (cut_some r).1
  · exact .inr ⟨o, (cut_some r).1⟩

def Ex (H H' : Hp) : Prop := ∀ a o, H a = some o → H' a = some o
theorem Ex.refl (H : Hp) : Ex H H := fun _ _ h => h
theorem Ex.trans {H H1 H2 : Hp} (a : Ex H H1) (b : Ex H1 H2) : Ex H H2 := fun x o h => b x o (a x o h)
theorem Ex.new {H : Hp} {p : Addr} {o : HO} (h : H p = none) : Ex H (upd H p o) := fun a u e => by
  rw [upd_ne (ne_of_none e h)]
  exact e
theorem Ex.dom {H H' : Hp} (x : Ex H H') {a : Addr} (h : H a ≠ none) : H' a ≠ none := by
  cases e : H a with
  | none => exact absurd e h
  | some o => rw [x a o e]; exact fun z => nomatch z

/-! ### cells -/
inductive Cell where
  | no | dat (d : D) | own (d : D) | io (d : D)
abbrev En := List Cell
def OwnS (σ : St) (cs : En) (i : Nat) (a : Addr) : Prop := σ[i]? = some (some (.ref a)) ∧ ∃ d, cs[i]? = some (.own d) ∨ cs[i]? = some (.io d)
def Md (σ : St) (cs : En) (X : Addr → Prop) : Addr → Prop := fun a => X a ∨ ∃ i, OwnS σ cs i a

structure Ok (K : PySem.W.Frag) (B : Hp) (IO : List (Nat × Addr)) (X : Addr → Prop) (σ : St) (H : Hp) (cs : En) : Prop where
  len : σ.length = cs.length
  dat : ∀ (i : Nat) (d : D), cs[i]? = some (.dat d) → ∃ v, σ[i]? = some (some v) ∧ Rp K (cut H (Md σ cs X)) v d
  own : ∀ (i : Nat) (d : D), (cs[i]? = some (.own d) ∨ cs[i]? = some (.io d)) → ∃ a, σ[i]? = some (some (.ref a)) ∧ OwnAt K (cut H (Md σ cs X)) (H a) d
  inj : ∀ (i j : Nat) (a : Addr), OwnS σ cs i a → OwnS σ cs j a → i = j
  dis : ∀ (i : Nat) (a : Addr), OwnS σ cs i a → ¬ X a
  xin : ∀ a, X a → H a ≠ none
  new : ∀ (i : Nat) (a : Addr) (d : D), σ[i]? = some (some (.ref a)) → cs[i]? = some (.own d) → B a = none
  io : ∀ (i : Nat) (d : D), cs[i]? = some (.io d) → ∃ a, (i, a) ∈ IO ∧ σ[i]? = some (some (.ref a))
  ios : ∀ (i : Nat) (a : Addr), (i, a) ∈ IO → ∃ d, cs[i]? = some (.io d) ∧ σ[i]? = some (some (.ref a))
  base : ∀ a o, (∀ i, (i, a) ∉ IO) → B a = some o → H a = some o
  dom : ∀ a, B a ≠ none → H a ≠ none

structure Post (K : PySem.W.Frag) (B : Hp) (IO : List (Nat × Addr)) (X : Addr → Prop) (σ : St) (H : Hp) (cs : En) (σ' : St) (H' : Hp) (cs' : En) : Prop where
  ok : Ok K B IO X σ' H' cs'
  le : Le (cut H (Md σ cs X)) (cut H' (Md σ' cs' X))
  keep : ∀ a, X a → H' a = H a
  dom : ∀ a, H a ≠ none → H' a ≠ none

section
variable {K : PySem.W.Frag} {B : Hp} {IO : List (Nat × Addr)} {X : Addr → Prop} {σ σ' σ2 : St} {H H' H2 : Hp} {cs cs' cs2 : En}
theorem Ok.md (ok : Ok K B IO X σ H cs) : ∀ a, Md σ cs X a → H a ≠ none := by
  intro a m
  rcases m with m | ⟨i, h1, d, h2⟩
  · exact ok.xin a m
  · obtain ⟨b, h3, h4⟩ := ok.own i d h2
    rw [h1] at h3
    cases h3
    exact h4.some
theorem Post.refl (ok : Ok K B IO X σ H cs) : Post K B IO X σ H cs σ H cs := ⟨ok, Le.refl _, fun _ _ => rfl, fun _ h => h⟩
theorem Post.trans (a : Post K B IO X σ H cs σ' H' cs') (b : Post K B IO X σ' H' cs' σ2 H2 cs2) : Post K B IO X σ H cs σ2 H2 cs2 :=
  ⟨b.ok, a.le.trans b.le, fun x h => (b.keep x h).trans (a.keep x h), fun x h => b.dom x (a.dom x h)⟩
theorem Ok.ext (ok : Ok K B IO X σ H cs) (x : Ex H H') : Post K B IO X σ H cs σ H' cs := by
  have hle : Le (cut H (Md σ cs X)) (cut H' (Md σ cs X)) := le_cut fun a o e m => ⟨x a o e, m⟩
  have same : ∀ a, H a ≠ none → H' a = H a := fun a h => by
    cases e : H a with
    | none => exact absurd e h
    | some o => exact x a o e
  refine ⟨⟨ok.len, fun i d e => ?_, fun i d e => ?_, ok.inj, ok.dis, fun a h => x.dom (ok.xin a h), ok.new, ok.io, ok.ios, fun a o h e => x a o (ok.base a o h e), fun a h => x.dom (ok.dom a h)⟩, hle, fun a h => same a (ok.xin a h), fun a h => x.dom h⟩
  · obtain ⟨v, h1, h2⟩ := ok.dat i d e
    exact ⟨v, h1, h2.mono hle⟩
  · obtain ⟨a, h1, h2⟩ := ok.own i d e
    refine ⟨a, h1, ?_⟩
    rw [same a h2.some]
    exact h2.mono hle
theorem getset {α : Type} {l : List α} {i j : Nat} {x y : α} (h : (l.set i x)[j]? = some y) : (i = j ∧ x = y) ∨ (i ≠ j ∧ l[j]? = some y) := by
  by_cases e : i = j
  · subst e
    rw [List.getElem?_set] at h
    simp only [if_true] at h
    split at h
    · exact .inl ⟨rfl, Option.some.inj h⟩
    · cases h
  · rw [List.getElem?_set_ne e] at h
    exact .inr ⟨e, h⟩
/-- an owned thing is not changed any more -/
theorem Ok.freeze {i : Nat} {d : D} (ok : Ok K B IO X σ H cs) (e : cs[i]? = some (.own d)) : ∃ v, σ[i]? = some (some v) ∧ Post K B IO X σ H cs σ H (cs.set i (.dat d)) ∧ Rp K (cut H (Md σ (cs.set i (.dat d)) X)) v d := by
  obtain ⟨a, h1, h2⟩ := ok.own i d (.inl e)
  have hi : i < cs.length := (List.getElem?_eq_some_iff.mp e).1
  have ha : OwnS σ cs i a := ⟨h1, d, .inl e⟩
  have os : ∀ j b, OwnS σ (cs.set i (.dat d)) j b → OwnS σ cs j b ∧ i ≠ j := by
    intro j b ⟨q1, d', q2⟩
    rcases q2 with q2 | q2
    · rcases getset q2 with ⟨_, z⟩ | ⟨z, z'⟩
      · cases z
      · exact ⟨⟨q1, d', .inl z'⟩, z⟩
    · rcases getset q2 with ⟨_, z⟩ | ⟨z, z'⟩
      · cases z
      · exact ⟨⟨q1, d', .inr z'⟩, z⟩
  have sub : ∀ b, Md σ (cs.set i (.dat d)) X b → Md σ cs X b := fun b m => m.imp id fun ⟨j, q⟩ => ⟨j, (os j b q).1⟩
  have hle : Le (cut H (Md σ cs X)) (cut H (Md σ (cs.set i (.dat d)) X)) := le_cut fun b o q m => ⟨q, fun z => m (sub b z)⟩
  have hna : ¬ Md σ (cs.set i (.dat d)) X a := by
    intro m
    rcases m with m | ⟨j, q⟩
    · exact ok.dis i a ha m
    · exact (os j a q).2 (ok.inj i j a ha (os j a q).1)
  have rp : Rp K (cut H (Md σ (cs.set i (.dat d)) X)) (.ref a) d := h2.rp (cut_of hna) hle
  refine ⟨.ref a, h1, ⟨⟨by rw [List.length_set]; exact ok.len, fun j d' q => ?_, fun j d' q => ?_, fun j k b q r => ok.inj j k b (os j b q).1 (os k b r).1, fun j b q => ok.dis j b (os j b q).1, ok.xin, fun j b d' q r => ?_, fun j d' q => ?_, fun j b q => ?_, ok.base, ok.dom⟩, hle, fun _ _ => rfl, fun _ h => h⟩, rp⟩
  · rcases getset q with ⟨z, z'⟩ | ⟨z, z'⟩
    · subst z
      cases z'
      exact ⟨_, h1, rp⟩
    · obtain ⟨v, r1, r2⟩ := ok.dat j d' z'
      exact ⟨v, r1, r2.mono hle⟩
  · have q' : cs[j]? = some (.own d') ∨ cs[j]? = some (.io d') := by
      rcases q with q | q
      · rcases getset q with ⟨_, z⟩ | ⟨z, z'⟩
        · cases z
        · exact .inl z'
      · rcases getset q with ⟨_, z⟩ | ⟨z, z'⟩
        · cases z
        · exact .inr z'
    obtain ⟨b, r1, r2⟩ := ok.own j d' q'
    exact ⟨b, r1, r2.mono hle⟩
  · rcases getset r with ⟨_, z⟩ | ⟨z, z'⟩
    · cases z
    · exact ok.new j b d' q z'
  · rcases getset q with ⟨_, z⟩ | ⟨z, z'⟩
    · cases z
    · exact ok.io j d' z'
  · obtain ⟨d', r1, r2⟩ := ok.ios j b q
    refine ⟨d', ?_, r2⟩
    rw [List.getElem?_set_ne]
    · exact r1
    · intro z
      subst z
      rw [e] at r1
      cases r1
end

/-- what an operation on values hands on: a new object of which nobody else knows, or a datum -/
def VOk (K : PySem.W.Frag) (H H' : Hp) (M : Addr → Prop) (fr : Bool) (v : V) (d : D) : Prop :=
  if fr = true then ∃ p, v = .ref p ∧ H p = none ∧ OwnAt K (cut H' (fun a => M a ∨ a = p)) (H' p) d else Rp K (cut H' M) v d
theorem VOk.of {K : PySem.W.Frag} {H H' : Hp} {M : Addr → Prop} {v : V} {d : D} (h : Rp K (cut H' M) v d) : VOk K H H' M false v d := h
/-- a new object -/
theorem VOk.new {K : PySem.W.Frag} {H : Hp} {M : Addr → Prop} {p : Addr} {o : HO} {d : D} (hp : H p = none) (hm : ∀ a, M a → H a ≠ none) (h : OwnAt K (cut H M) (some o) d) : VOk K H (upd H p o) M true (.ref p) d := by
  refine ⟨p, rfl, hp, ?_⟩
  rw [upd_same]
  refine h.mono (le_cut fun a u e m => ⟨Ex.new hp a u e, fun z => ?_⟩)
  rcases z with z | z
  · exact m z
  · rw [z, hp] at e; cases e

/-! ### what an expression hands on -/
def XP (X : Addr → Prop) (p : Addr) : Addr → Prop := fun a => X a ∨ a = p
structure PostN (K : PySem.W.Frag) (B : Hp) (IO : List (Nat × Addr)) (X : Addr → Prop) (σ : St) (H : Hp) (cs : En) (p : Addr) (σ' : St) (H' : Hp) (cs' : En) : Prop where
  ok : Ok K B IO (XP X p) σ' H' cs'
  le : Le (cut H (Md σ cs X)) (cut H' (Md σ' cs' (XP X p)))
  keep : ∀ a, X a → H' a = H a
  dom : ∀ a, H a ≠ none → H' a ≠ none
  np : ¬ X p
def Pe (K : PySem.W.Frag) (B : Hp) (IO : List (Nat × Addr)) (X : Addr → Prop) (σ : St) (H : Hp) (cs : En) (σ' : St) (H' : Hp) (cs' : En) (fr : Bool) (v : V) (d : D) : Prop :=
  if fr = true then ∃ p, v = .ref p ∧ H p = none ∧ PostN K B IO X σ H cs p σ' H' cs' ∧ OwnAt K (cut H' (Md σ' cs' (XP X p))) (H' p) d else Post K B IO X σ H cs σ' H' cs' ∧ Rp K (cut H' (Md σ' cs' X)) v d
section
variable {K : PySem.W.Frag} {B : Hp} {IO : List (Nat × Addr)} {X : Addr → Prop} {σ σ' σ2 : St} {H H' H2 : Hp} {cs cs' cs2 : En} {p : Addr} {fr : Bool} {v : V} {d : D}
theorem md_xp {a : Addr} (h : Md σ cs X a) : Md σ cs (XP X p) a := h.imp .inl id
theorem le_xp : Le (cut H (Md σ cs (XP X p))) (cut H (Md σ cs X)) := le_cut fun _ _ e m => ⟨e, fun z => m (md_xp z)⟩
theorem Ok.weakX (ok : Ok K B IO (XP X p) σ H cs) : Ok K B IO X σ H cs :=
  ⟨ok.len, fun i d e => let ⟨v, h1, h2⟩ := ok.dat i d e; ⟨v, h1, h2.mono le_xp⟩, fun i d e => let ⟨v, h1, h2⟩ := ok.own i d e; ⟨v, h1, h2.mono le_xp⟩, ok.inj, fun i a q z => ok.dis i a q (.inl z), fun a z => ok.xin a (.inl z), ok.new, ok.io, ok.ios, ok.base, ok.dom⟩
theorem PostN.post (h : PostN K B IO X σ H cs p σ' H' cs') : Post K B IO X σ H cs σ' H' cs' := ⟨h.ok.weakX, h.le.trans le_xp, h.keep, h.dom⟩
theorem PostN.nmd (h : PostN K B IO X σ H cs p σ' H' cs') : ¬ Md σ' cs' X p := fun m => m.elim h.np fun ⟨i, q⟩ => h.ok.dis i p q (.inr rfl)
theorem Pe.post (h : Pe K B IO X σ H cs σ' H' cs' fr v d) : Post K B IO X σ H cs σ' H' cs' := by
  unfold Pe at h
  cases fr with
  | false => exact h.1
  | true => obtain ⟨p, _, _, q, _⟩ := h; exact q.post
theorem Pe.rp (h : Pe K B IO X σ H cs σ' H' cs' fr v d) : Rp K (cut H' (Md σ' cs' X)) v d := by
  unfold Pe at h
  cases fr with
  | false => exact h.2
  | true =>
    obtain ⟨p, rfl, _, q, o⟩ := h
    exact o.rp (cut_of q.nmd) le_xp
theorem Pe.dat (h : Post K B IO X σ H cs σ' H' cs') (r : Rp K (cut H' (Md σ' cs' X)) v d) : Pe K B IO X σ H cs σ' H' cs' false v d := ⟨h, r⟩
theorem Pe.pre (a : Post K B IO X σ H cs σ' H' cs') (h : Pe K B IO X σ' H' cs' σ2 H2 cs2 fr v d) : Pe K B IO X σ H cs σ2 H2 cs2 fr v d := by
  unfold Pe at h ⊢
  cases fr with
  | false => exact ⟨a.trans h.1, h.2⟩
  | true =>
    obtain ⟨p, e, hp, q, o⟩ := h
    refine ⟨p, e, ?_, ⟨q.ok, a.le.trans q.le, fun x hx => (q.keep x hx).trans (a.keep x hx), fun x hx => q.dom x (a.dom x hx), q.np⟩, o⟩
    cases z : H p with
    | none => rfl
    | some o => exact absurd hp (a.dom p (by rw [z]; exact fun z => nomatch z))
/-- an operation on values, behind all else -/
theorem Pe.of (a : Post K B IO X σ H cs σ' H' cs') (x : Ex H' H2) (h : VOk K H' H2 (Md σ' cs' X) fr v d) : Pe K B IO X σ H cs σ' H2 cs' fr v d := by
  refine Pe.pre a ?_
  unfold VOk at h
  unfold Pe
  cases fr with
  | false => exact ⟨a.ok.ext x, h⟩
  | true =>
    obtain ⟨p, e, hp, o⟩ := h
    have ne : ∀ b, H' b ≠ none → b ≠ p := fun b hb z => hb (by rw [z]; exact hp)
    have eqm : ∀ b, Md σ' cs' (XP X p) b ↔ (Md σ' cs' X b ∨ b = p) := fun b => by
      unfold Md XP
      constructor
      · rintro ((h | h) | h)
        · exact .inl (.inl h)
        · exact .inr h
        · exact .inl (.inr h)
      · rintro ((h | h) | h)
        · exact .inl (.inl h)
        · exact .inr h
        · exact .inl (.inr h)
    have hle : Le (cut H' (Md σ' cs' X)) (cut H2 (Md σ' cs' (XP X p))) := le_cut fun b o q m => ⟨x b o q, fun z => ((eqm b).mp z).elim m (ne b (by rw [q]; exact fun z => nomatch z))⟩
    have same : ∀ b, H' b ≠ none → H2 b = H' b := fun b h => by
      cases e : H' b with
      | none => exact absurd e h
      | some o => exact x b o e
    refine ⟨p, e, hp, ⟨⟨a.ok.len, fun i d q => ?_, fun i d q => ?_, a.ok.inj, fun i b q z => ?_, fun b z => ?_, a.ok.new, a.ok.io, a.ok.ios, fun b o h q => x b o (a.ok.base b o h q), fun b h => x.dom (a.ok.dom b h)⟩, hle, fun b h => same b (a.ok.xin b h), fun b h => x.dom h, fun z => ?_⟩, o.mono (le_cut fun b o q m => ⟨q, fun z => m ((eqm b).mp z)⟩)⟩
    · obtain ⟨u, h1, h2⟩ := a.ok.dat i d q
      exact ⟨u, h1, h2.mono hle⟩
    · obtain ⟨b, h1, h2⟩ := a.ok.own i d q
      refine ⟨b, h1, ?_⟩
      rw [same b h2.some]
      exact h2.mono hle
    · rcases z with z | z
      · exact a.ok.dis i b q z
      · exact ne b (a.ok.md b (.inr ⟨i, q⟩)) z
    · rcases z with z | z
      · exact x.dom (a.ok.xin b z)
      · rw [z]
        exact o.some
    · exact a.ok.xin p z hp
end
end Qp
end
section
set_option Elab.async false
set_option linter.all false
set_option maxRecDepth 100000
set_option maxHeartbeats 2000000
/-! Qb: expressions that are told by functions of the cells. -/
namespace Qp
open PySem PySem.Spec PyProof.Rows L2
abbrev EX := En → Option (D × Bool × En)
abbrev TX := En → Option (Bool × En)
abbrev AX := En → Option (List D × En)
def LIM : Nat := 10000000
theorem lim_ok {n : Nat} (h : n ≤ LIM) : n ≤ sizeLine := Nat.le_trans h (by decide)
theorem lim_lt {n : Nat} (h : n < LIM) : n < sizeLine := Nat.lt_of_lt_of_le h (by decide)

def SE (K : PySem.W.Frag) (t : TE) (f : EX) : Prop := ∀ {B : Hp} {IO : List (Nat × Addr)} {X : Addr → Prop} {σ : St} {H : Hp} {cs : En}, Ok K B IO X σ H cs → ∀ {d : D} {fr : Bool} {cs' : En}, f cs = some (d, fr, cs') →
  ∀ Q : VK, (∀ v H', Pe K B IO X σ H cs σ H' cs' fr v d → Q v H') → t σ H Q
def STt (K : PySem.W.Frag) (t : TT) (f : TX) : Prop := ∀ {B : Hp} {IO : List (Nat × Addr)} {X : Addr → Prop} {σ : St} {H : Hp} {cs : En}, Ok K B IO X σ H cs → ∀ {b : Bool} {cs' : En}, f cs = some (b, cs') →
  ∀ Q : Bool → Hp → Prop, (∀ H', Post K B IO X σ H cs σ H' cs' → Q b H') → t σ H Q
def SA (K : PySem.W.Frag) (t : TA) (f : AX) : Prop := ∀ {B : Hp} {IO : List (Nat × Addr)} {X : Addr → Prop} {σ : St} {H : Hp} {cs : En}, Ok K B IO X σ H cs → ∀ {ds : List D} {cs' : En}, f cs = some (ds, cs') →
  ∀ Q : List V → Hp → Prop, (∀ vs H', Post K B IO X σ H cs σ H' cs' → Paired (Rp K (cut H' (Md σ cs' X))) vs ds → Q vs H') → t σ H Q
/-- two values, one value, a list of values to a value -/
abbrev G2 := D → D → Option (D × Bool)
abbrev G1 := D → Option (D × Bool)
abbrev GA := List D → Option (D × Bool)
def SR2 (K : PySem.W.Frag) (r : R2) (g : G2) : Prop := ∀ {H : Hp} {M : Addr → Prop}, (∀ a, M a → H a ≠ none) → ∀ {x y : V} {d e : D}, Rp K (cut H M) x d → Rp K (cut H M) y e → ∀ {z : D} {fr : Bool}, g d e = some (z, fr) →
  ∀ Q : VK, (∀ v H', Ex H H' → VOk K H H' M fr v z → Q v H') → r x y H Q
def SR1 (K : PySem.W.Frag) (r : V → Hp → VK → Prop) (g : G1) : Prop := ∀ {H : Hp} {M : Addr → Prop}, (∀ a, M a → H a ≠ none) → ∀ {x : V} {d : D}, Rp K (cut H M) x d → ∀ {z : D} {fr : Bool}, g d = some (z, fr) →
  ∀ Q : VK, (∀ v H', Ex H H' → VOk K H H' M fr v z → Q v H') → r x H Q
def SRC (K : PySem.W.Frag) (r : List V → Hp → VK → Prop) (g : GA) : Prop := ∀ {H : Hp} {M : Addr → Prop}, (∀ a, M a → H a ≠ none) → ∀ {xs : List V} {ds : List D}, Paired (Rp K (cut H M)) xs ds → ∀ {z : D} {fr : Bool}, g ds = some (z, fr) →
  ∀ Q : VK, (∀ v H', Ex H H' → VOk K H H' M fr v z → Q v H') → r xs H Q
structure DE (X : Cx) (e : Expr) (t : TE) (f : EX) : Prop where
  pe : PE X e t
  se : SE X.K t f
structure DT (X : Cx) (e : Expr) (t : TT) (f : TX) : Prop where
  pt : PT X e t
  st : STt X.K t f
structure DW (X : Cx) (e : Expr) (t : TT) (f : TX) : Prop where
  pw : PW X e t
  st : STt X.K t f
structure DA (X : Cx) (e : List Expr) (t : TA) (f : AX) : Prop where
  pa : PA X e t
  sa : SA X.K t f

section
variable {K : PySem.W.Frag} {B : Hp} {IO : List (Nat × Addr)} {Z : Addr → Prop} {σ : St} {H H' : Hp} {cs cs' : En} {M : Addr → Prop}
theorem Rp.ext {v : V} {d : D} (r : Rp K (cut H M) v d) (x : Ex H H') : Rp K (cut H' M) v d := r.mono (le_cut fun a o e m => ⟨x a o e, m⟩)
theorem Rp.list (r : Rp K F v (.list ds)) : ∃ a xs, v = .ref a ∧ SqL K F a xs ∧ Paired (Rp K F) xs ds := by
  cases r with
  | lst h p => exact ⟨_, _, rfl, h, p⟩
theorem Rp.tuple (r : Rp K F v (.tuple ds)) : ∃ a xs, v = .ref a ∧ SqT K F a xs ∧ Paired (Rp K F) xs ds := by
  cases r with
  | tup h p => exact ⟨_, _, rfl, h, p⟩
theorem Rp.int_eq (r : Rp K F v (.int i)) : v = .int i := by cases r; rfl
theorem Rp.str_eq (r : Rp K F v (.str i)) : v = .str i := by cases r; rfl
theorem Rp.bool_eq (r : Rp K F v (.bool i)) : v = .bl i := by cases r; rfl
theorem Rp.none_eq (r : Rp K F v .none) : v = .non := by cases r; rfl
end

/-! ### constants and names -/
def evC (d : D) : EX := fun cs => some (d, false, cs)
def evVar (i : Nat) : EX := fun cs => match cs[i]? with
  | some (.dat d) => some (d, false, cs)
  | some (.own d) => some (d, false, cs.set i (.dat d))
  | _ => none
section
variable {X : Cx} {pos : Pos}
theorem se_c {K : PySem.W.Frag} {v : V} {d : D} (h : ∀ F, Rp K F v d) : SE K (tC v) (evC d) := by
  intro B IO Z σ H cs ok d' fr cs' e Q q
  cases e
  exact q v H (.dat (Post.refl ok) (h _))
theorem de_int {i j} : DE X (.Constant (.int i) j pos) (tC (.int i)) (evC (.int i)) := ⟨pe_int, se_c fun _ => .int i⟩
theorem de_str {i j} : DE X (.Constant (.str i) j pos) (tC (.str i)) (evC (.str i)) := ⟨pe_str, se_c fun _ => .str i⟩
theorem de_bl {i j} : DE X (.Constant (.bool i) j pos) (tC (.bl i)) (evC (.bool i)) := ⟨pe_bl, se_c fun _ => .bl i⟩
theorem de_non {j} : DE X (.Constant .none j pos) (tC .non) (evC .none) := ⟨pe_non, se_c fun _ => .non⟩
theorem se_var {K : PySem.W.Frag} {i : Nat} : SE K (tVar i) (evVar i) := by
  intro B IO Z σ H cs ok d fr cs' e Q q
  unfold evVar at e
  split at e
  · rename_i d' h
    cases e
    obtain ⟨v, h1, h2⟩ := ok.dat i _ h
    exact ⟨v, h1, q v H (.dat (Post.refl ok) h2)⟩
  · rename_i d' h
    cases e
    obtain ⟨v, h1, h2, h3⟩ := ok.freeze h
    exact ⟨v, h1, q v H (.dat h2 h3)⟩
  · cases e
theorem dv (i : Nat) {x : Str} (hN : X.N[i]? = some x := by rfl) (hv : Vis X.env.scope x := by first | exact Or.inl rfl | exact Or.inr (Or.inl rfl) | exact Or.inr (Or.inr rfl)) (hd : (x == ("__debug__" : Str)) = false := by decide)
    (hcd : (x == ("__classdict__" : Str)) = false := by decide) : DE X (.Name x pos) (tVar i) (evVar i) := ⟨pe_var hN hv hd hcd, se_var⟩
/-- a constant of the module -/
theorem de_glob {x : Str} {v : V} {u : Value} {d : D} (hg : Gl X x) (hm : X.mg x = some u) (r : RelV v u) (h : ∀ F, Rp X.K F v d) (hd : (x == ("__debug__" : Str)) = false := by decide) : DE X (.Name x pos) (tC v) (evC d) :=
  ⟨pe_glob hg hm r hd, se_c h⟩
end

/-! ### operators -/
def ev2 (g : G2) (fa fb : EX) : EX := fun cs => (fa cs).bind fun r => (fb r.2.2).bind fun s => (g r.1 s.1).bind fun z => some (z.1, z.2, s.2.2)
def ev1 (g : G1) (fa : EX) : EX := fun cs => (fa cs).bind fun r => (g r.1).bind fun z => some (z.1, z.2, r.2.2)
section
variable {X : Cx} {a b : Expr} {ta tb : TE} {fa fb : EX} {pos : Pos} {K : PySem.W.Frag}
theorem se_2 {r : R2} {g : G2} (ha : SE K ta fa) (hb : SE K tb fb) (hr : SR2 K r g) : SE K (tOp r ta tb) (ev2 g fa fb) := by
  intro B IO Z σ H cs ok d fr cs' e Q q
  unfold ev2 at e
  obtain ⟨⟨d1, f1, c1⟩, e1, e⟩ := Option.bind_eq_some_iff.mp e
  obtain ⟨⟨d2, f2, c2⟩, e2, e⟩ := Option.bind_eq_some_iff.mp e
  obtain ⟨⟨z, fz⟩, e3, e⟩ := Option.bind_eq_some_iff.mp e
  cases e
  refine ha ok e1 _ fun x H1 w1 => hb w1.post.ok e2 _ fun y H2 w2 => ?_
  refine hr w2.post.ok.md (w1.rp.mono w2.post.le) w2.rp e3 Q fun v H3 x3 v3 => ?_
  exact q v H3 (.of (w1.post.trans w2.post) x3 v3)
theorem se_1 {r : V → Hp → VK → Prop} {g : G1} (ha : SE K ta fa) (hr : SR1 K r g) : SE K (tUn r ta) (ev1 g fa) := by
  intro B IO Z σ H cs ok d fr cs' e Q q
  unfold ev1 at e
  obtain ⟨⟨d1, f1, c1⟩, e1, e⟩ := Option.bind_eq_some_iff.mp e
  obtain ⟨⟨z, fz⟩, e3, e⟩ := Option.bind_eq_some_iff.mp e
  cases e
  refine ha ok e1 _ fun x H1 w1 => ?_
  refine hr w1.post.ok.md w1.rp e3 Q fun v H3 x3 v3 => ?_
  exact q v H3 (.of w1.post x3 v3)
theorem de_op {op : Operator} {r : R2} {g : G2} (ho : OpR X (binaryOp op) r) (hr : SR2 X.K r g) (ha : DE X a ta fa) (hb : DE X b tb fb) : DE X (.BinOp a op b pos) (tOp r ta tb) (ev2 g fa fb) := ⟨pe_op ho ha.pe hb.pe, se_2 ha.se hb.se hr⟩
theorem de_un {op : UnaryOp} {r : V → Hp → VK → Prop} {g : G1} (ho : UnR X (unaryOp op) r) (hr : SR1 X.K r g) (ha : DE X a ta fa) : DE X (.UnaryOp op a pos) (tUn r ta) (ev1 g fa) := ⟨pe_un ho ha.pe, se_1 ha.se hr⟩
theorem de_cmp {op : CmpOp} {r : R2} {g : G2} (ho : OpR X (compareOp op) r) (hr : SR2 X.K r g) (ha : DE X a ta fa) (hb : DE X b tb fb) (hm : behindInMarks op b = false := by first | exact nomark _ | rfl) : DE X (.Compare a [op] [b] pos) (tOp r ta tb) (ev2 g fa fb) :=
  ⟨pe_cmpR ho ha.pe hb.pe hm, se_2 ha.se hb.se hr⟩
/-- an expression whose value is a truth, as a test -/
def evT (fa : EX) : TX := fun cs => (fa cs).bind fun r => match r.1 with
  | .bool b => some (b, r.2.2)
  | _ => none
theorem st_test {t : TE} {f : EX} (h : SE K t f) : STt K (tTest t) (evT f) := by
  intro B IO Z σ H cs ok b cs' e Q q
  unfold evT at e
  obtain ⟨⟨d1, f1, c1⟩, e1, e⟩ := Option.bind_eq_some_iff.mp e
  simp only at e
  split at e
  · cases e
    refine h ok e1 _ fun x H1 w1 => ?_
    exact ⟨_, w1.rp.bool_eq, q H1 w1.post⟩
  · cases e
theorem dt_cmp {op : CmpOp} {r : R2} {g : G2} (ho : OpR X (compareOp op) r) (hr : SR2 X.K r g) (ha : DE X a ta fa) (hb : DE X b tb fb) (hm : behindInMarks op b = false := by first | exact nomark _ | rfl) : DT X (.Compare a [op] [b] pos) (tTest (tOp r ta tb)) (evT (ev2 g fa fb)) :=
  ⟨pt_cmpR ho ha.pe hb.pe hm, st_test (se_2 ha.se hb.se hr)⟩
theorem dt_val {e : Expr} {t : TE} {f : EX} (h : DE X e t f) (he : ∀ whole, isTrue e X.env whole = (do let v ← whole; standAt e.pos; holding [v] (truthy v)) := by intro _; rfl) : DT X e (tB t) (evT f) := ⟨pt_val h.pe he, st_test h.se⟩

/-! ### and, or, not -/
def evAndT (f g : TX) : TX := fun cs => (f cs).bind fun r => if r.1 = true then g r.2 else some (false, r.2)
def evOrT (f g : TX) : TX := fun cs => (f cs).bind fun r => if r.1 = true then some (true, r.2) else g r.2
def evNotT (f : TX) : TX := fun cs => (f cs).bind fun r => some (!r.1, r.2)
variable {tA tB' : TT} {fA fB : TX} {rest : List Expr}
theorem dw_and1 (ha : DT X a tA fA) : DW X (.BoolOp .And [a] pos) tA fA := ⟨pw_and1 ha.pt, ha.st⟩
theorem dw_or1 (ha : DT X a tA fA) : DW X (.BoolOp .Or [a] pos) tA fA := ⟨pw_or1 ha.pt, ha.st⟩
theorem dw_and (ha : DT X a tA fA) (hb : DW X (.BoolOp .And (b :: rest) pos) tB' fB) : DW X (.BoolOp .And (a :: b :: rest) pos) (tAnd tA tB') (evAndT fA fB) := by
  refine ⟨pw_and ha.pt hb.pw, ?_⟩
  intro B IO Z σ H cs ok k cs' e Q q
  unfold evAndT at e
  obtain ⟨⟨b1, c1⟩, e1, e⟩ := Option.bind_eq_some_iff.mp e
  refine ha.st ok e1 _ fun H1 p1 => ?_
  cases b1 with
  | true => exact iteT (hb.st p1.ok e _ fun H2 p2 => q H2 (p1.trans p2))
  | false =>
    cases e
    exact iteF (q H1 p1)
theorem dw_or (ha : DT X a tA fA) (hb : DW X (.BoolOp .Or (b :: rest) pos) tB' fB) : DW X (.BoolOp .Or (a :: b :: rest) pos) (tOr tA tB') (evOrT fA fB) := by
  refine ⟨pw_or ha.pt hb.pw, ?_⟩
  intro B IO Z σ H cs ok k cs' e Q q
  unfold evOrT at e
  obtain ⟨⟨b1, c1⟩, e1, e⟩ := Option.bind_eq_some_iff.mp e
  refine ha.st ok e1 _ fun H1 p1 => ?_
  cases b1 with
  | false => exact iteF (hb.st p1.ok e _ fun H2 p2 => q H2 (p1.trans p2))
  | true =>
    cases e
    exact iteT (q H1 p1)
theorem DW.dt {e : Expr} (h : DW X e tA fA) : DT X e tA fA := ⟨h.pw.pt, h.st⟩
theorem dt_not (ha : DT X a tA fA) : DT X (.UnaryOp .Not a pos) (tNot tA) (evNotT fA) := by
  refine ⟨pt_not ha.pt, ?_⟩
  intro B IO Z σ H cs ok k cs' e Q q
  unfold evNotT at e
  obtain ⟨⟨b1, c1⟩, e1, e⟩ := Option.bind_eq_some_iff.mp e
  cases e
  exact ha.st ok e1 _ fun H1 p1 => q H1 p1
/-- as values: the left ones are truths -/
def evAndV (f g : EX) : EX := fun cs => (f cs).bind fun r => match r.1 with
  | .bool true => g r.2.2
  | .bool false => some (.bool false, false, r.2.2)
  | _ => none
def evOrV (f g : EX) : EX := fun cs => (f cs).bind fun r => match r.1 with
  | .bool true => some (.bool true, false, r.2.2)
  | .bool false => g r.2.2
  | _ => none
def evNotV (f : EX) : EX := fun cs => (f cs).bind fun r => match r.1 with
  | .bool b => some (.bool (!b), false, r.2.2)
  | _ => none
theorem de_one {op} (h : DE X a ta fa) : DE X (.BoolOp op [a] pos) ta fa := ⟨pe_one h.pe, h.se⟩
theorem de_and (ha : DE X a ta fa) (hb : DE X (.BoolOp .And (b :: rest) pos) tb fb) : DE X (.BoolOp .And (a :: b :: rest) pos) (tAndV ta tb) (evAndV fa fb) := by
  refine ⟨pe_and ha.pe hb.pe, ?_⟩
  intro B IO Z σ H cs ok d fr cs' e Q q
  unfold evAndV at e
  obtain ⟨⟨d1, f1, c1⟩, e1, e⟩ := Option.bind_eq_some_iff.mp e
  refine ha.se ok e1 _ fun x H1 w1 => ?_
  simp only at e
  split at e
  · exact ⟨true, w1.rp.bool_eq, iteT (hb.se w1.post.ok e _ fun v H2 w2 => q v H2 (w2.pre w1.post))⟩
  · cases e
    exact ⟨false, w1.rp.bool_eq, iteF (q _ H1 (.dat w1.post (.bl false)))⟩
  · cases e
theorem de_or (ha : DE X a ta fa) (hb : DE X (.BoolOp .Or (b :: rest) pos) tb fb) : DE X (.BoolOp .Or (a :: b :: rest) pos) (tOrV ta tb) (evOrV fa fb) := by
  refine ⟨pe_or ha.pe hb.pe, ?_⟩
  intro B IO Z σ H cs ok d fr cs' e Q q
  unfold evOrV at e
  obtain ⟨⟨d1, f1, c1⟩, e1, e⟩ := Option.bind_eq_some_iff.mp e
  refine ha.se ok e1 _ fun x H1 w1 => ?_
  simp only at e
  split at e
  · cases e
    exact ⟨true, w1.rp.bool_eq, iteT (q _ H1 (.dat w1.post (.bl true)))⟩
  · exact ⟨false, w1.rp.bool_eq, iteF (hb.se w1.post.ok e _ fun v H2 w2 => q v H2 (w2.pre w1.post))⟩
  · cases e
theorem de_not (ha : DE X a ta fa) : DE X (.UnaryOp .Not a pos) (tNotV ta) (evNotV fa) := by
  refine ⟨pe_not ha.pe, ?_⟩
  intro B IO Z σ H cs ok d fr cs' e Q q
  unfold evNotV at e
  obtain ⟨⟨d1, f1, c1⟩, e1, e⟩ := Option.bind_eq_some_iff.mp e
  refine ha.se ok e1 _ fun x H1 w1 => ?_
  simp only at e
  split at e
  · cases e
    exact ⟨_, w1.rp.bool_eq, q _ H1 (.dat w1.post (.bl _))⟩
  · cases e
/-- a if t else b -/
def evIf (t : TX) (f g : EX) : EX := fun cs => (t cs).bind fun r => if r.1 = true then f r.2 else g r.2
theorem de_if {c : Expr} (hc : DT X c tA fA) (ha : DE X a ta fa) (hb : DE X b tb fb) : DE X (.IfExp c a b pos) (tIf tA ta tb) (evIf fA fa fb) := by
  refine ⟨pe_ifExp hc.pt ha.pe hb.pe, ?_⟩
  intro B IO Z σ H cs ok d fr cs' e Q q
  unfold evIf at e
  obtain ⟨⟨b1, c1⟩, e1, e⟩ := Option.bind_eq_some_iff.mp e
  refine hc.st ok e1 _ fun H1 p1 => ?_
  cases b1 with
  | true => exact iteT (ha.se p1.ok e _ fun v H2 w2 => q v H2 (w2.pre p1))
  | false => exact iteF (hb.se p1.ok e _ fun v H2 w2 => q v H2 (w2.pre p1))

/-! ### lists of arguments, displays, calls of built-ins -/
def evNil : AX := fun cs => some ([], cs)
def evCons (f : EX) (g : AX) : AX := fun cs => (f cs).bind fun r => (g r.2.2).bind fun s => some (r.1 :: s.1, s.2)
variable {e : Expr} {te : TE} {fe : EX} {es : List Expr} {ts : TA} {fs : AX}
theorem da_nil : DA X [] tNil evNil := by
  refine ⟨pa_nil, ?_⟩
  intro B IO Z σ H cs ok ds cs' e Q q
  cases e
  exact q [] H (Post.refl ok) .nil
theorem da_cons (h : DE X e te fe) (hr : DA X es ts fs) (hs : starEach (e :: es) X.env = (false, eval e X.env) :: starEach es X.env := by rfl) : DA X (e :: es) (tCons te ts) (evCons fe fs) := by
  refine ⟨pa_cons h.pe hr.pa hs, ?_⟩
  intro B IO Z σ H cs ok ds cs' e Q q
  unfold evCons at e
  obtain ⟨⟨d1, f1, c1⟩, e1, e⟩ := Option.bind_eq_some_iff.mp e
  obtain ⟨⟨d2, c2⟩, e2, e⟩ := Option.bind_eq_some_iff.mp e
  cases e
  refine h.se ok e1 _ fun x H1 w1 => hr.sa w1.post.ok e2 _ fun xs H2 p2 v2 => q _ H2 (w1.post.trans p2) (.cons (w1.rp.mono p2.le) v2)
def evA (g : GA) (fs : AX) : EX := fun cs => (fs cs).bind fun r => (g r.1).bind fun z => some (z.1, z.2, r.2)
theorem se_A {r : List V → Hp → VK → Prop} {g : GA} (ha : SA K ts fs) (hr : SRC K r g) : SE K (fun σ H Q => ts σ H fun vs H1 => r vs H1 Q) (evA g fs) := by
  intro B IO Z σ H cs ok d fr cs' e Q q
  unfold evA at e
  obtain ⟨⟨d1, c1⟩, e1, e⟩ := Option.bind_eq_some_iff.mp e
  obtain ⟨⟨z, fz⟩, e3, e⟩ := Option.bind_eq_some_iff.mp e
  cases e
  refine ha ok e1 _ fun x H1 p1 v1 => ?_
  refine hr p1.ok.md v1 e3 Q fun v H3 x3 v3 => ?_
  exact q v H3 (.of p1 x3 v3)
def gTupD : GA := fun ds => if ds.length ≤ LIM then some (.tuple ds, false) else none
def gLstD : GA := fun ds => if ds.length ≤ LIM then some (.list ds, true) else none
theorem sqt_new {K : PySem.W.Frag} {H : Hp} {M : Addr → Prop} {p : Addr} {xs : List V} {ds : List D} (hp : H p = none) (hm : ∀ a, M a → H a ≠ none) (h : Paired (Rp K (cut H M)) xs ds) : Rp K (cut (upd H p (.tup xs)) M) (.ref p) (.tuple ds) := by
  have np : ¬ M p := fun z => hm p z hp
  refine .tup (.inl (.inl ?_)) (Rp.monoA (le_cut fun a o e m => ⟨Ex.new hp a o e, m⟩) h)
  rw [cut_of np]
  exact upd_same
theorem sc_tup : SRC K (fun xs H1 Q => xs.length ≤ sizeLine ∧ ∀ p, H1 p = none → Q (.ref p) (upd H1 p (.tup xs))) gTupD := by
  intro H M hm xs ds r z fr e Q q
  unfold gTupD at e
  split at e
  · rename_i hl
    cases e
    refine ⟨by rw [Pd.len r]; exact lim_ok hl, fun p hp => ?_⟩
    exact q _ _ (Ex.new hp) (VOk.of (sqt_new hp hm r))
  · cases e
theorem sc_lst : SRC K (fun xs H1 Q => xs.length ≤ sizeLine ∧ ∀ p, H1 p = none → Q (.ref p) (upd H1 p (.lst xs))) gLstD := by
  intro H M hm xs ds r z fr e Q q
  unfold gLstD at e
  split at e
  · rename_i hl
    cases e
    refine ⟨by rw [Pd.len r]; exact lim_ok hl, fun p hp => ?_⟩
    exact q _ _ (Ex.new hp) (VOk.new hp hm (.lst r))
  · cases e
theorem de_tup {x1} (h : DA X es ts fs) : DE X (.Tuple es x1 pos) (tTup ts) (evA gTupD fs) := ⟨pe_tup h.pa, se_A h.sa sc_tup⟩
theorem de_lst (h : DA X es ts fs) : DE X (.List es pos) (tLst ts) (evA gLstD fs) := ⟨pe_lst h.pa, se_A h.sa sc_lst⟩
end
end Qp
end
section
set_option Elab.async false
set_option linter.all false
set_option maxRecDepth 100000
set_option maxHeartbeats 2000000
/-! Qc: operators and built-ins on data. -/
namespace Qp
open PySem PySem.Spec PyProof.Rows L2
section
variable {K : PySem.W.Frag} {H H' : Hp} {M : Addr → Prop} {F : Hp}

/-- a thing that may be read just now: its parts are data -/
inductive Vw (K : PySem.W.Frag) (H : Hp) (M : Addr → Prop) : V → D → Prop
  | sc {v : V} {d : D} : Rp K (cut H M) v d → (∀ ds, d ≠ .list ds) → (∀ ds, d ≠ .dict ds) → Vw K H M v d
  | lst {a : Addr} {xs : List V} {ds : List D} : SqL K H a xs → Paired (Rp K (cut H M)) xs ds → Vw K H M (.ref a) (.list ds)
  | dic {a : Addr} {kvs : List (Key × V)} {es : List (D × D)} : Rd H a (.dK kvs) → es.map (·.1) = kvs.map (fun p => kD p.1) → Paired (Rp K (cut H M)) (kvs.map (·.2)) (es.map (·.2)) → Vw K H M (.ref a) (.dict es)
theorem Vw.of_rp {v : V} {d : D} (r : Rp K (cut H M) v d) : Vw K H M v d := by
  cases r with
  | lst h p => exact .lst (cut_le.sqL h) p
  | tup h p => exact .sc (.tup h p) (fun _ z => nomatch z) (fun _ z => nomatch z)
  | dic h e p => exact .dic (cut_le _ _ nf_dK h) e p
  | non => exact .sc .non (fun _ z => nomatch z) (fun _ z => nomatch z)
  | bl b => exact .sc (.bl b) (fun _ z => nomatch z) (fun _ z => nomatch z)
  | int i => exact .sc (.int i) (fun _ z => nomatch z) (fun _ z => nomatch z)
  | str x => exact .sc (.str x) (fun _ z => nomatch z) (fun _ z => nomatch z)
theorem Vw.of_own {a : Addr} {d : D} (r : OwnAt K (cut H M) (H a) d) : Vw K H M (.ref a) d := by
  generalize e : H a = o at r
  cases r with
  | lst p => exact .lst (.inl (.inl e)) p
  | dic e' p => exact .dic (.inl e) e' p
theorem Vw.rpH {v : V} {d : D} (h : Vw K H M v d) : Rp K H v d := by
  cases h with
  | sc r _ _ => exact r.mono cut_le
  | lst h p => exact .lst h (Rp.monoA cut_le p)
  | dic h e p => exact .dic h e (Rp.monoA cut_le p)
theorem Vw.list {v : V} {ds : List D} (h : Vw K H M v (.list ds)) : ∃ a xs, v = .ref a ∧ SqL K H a xs ∧ Paired (Rp K (cut H M)) xs ds := by
  cases h with
  | sc r h _ => exact absurd rfl (h _)
  | lst h p => exact ⟨_, _, rfl, h, p⟩
theorem Vw.rp {v : V} {d : D} (h : Vw K H M v d) (h1 : ∀ ds, d ≠ .list ds) (h2 : ∀ ds, d ≠ .dict ds) : Rp K (cut H M) v d := by
  cases h with
  | sc r _ _ => exact r
  | lst h p => exact absurd rfl (h1 _)
  | dic h e p => exact absurd rfl (h2 _)
theorem Vw.tuple {v : V} {ds : List D} (h : Vw K H M v (.tuple ds)) : ∃ a xs, v = .ref a ∧ SqT K (cut H M) a xs ∧ Paired (Rp K (cut H M)) xs ds := (h.rp (fun _ z => nomatch z) (fun _ z => nomatch z)).tuple
theorem Vw.int_eq {v : V} {i : Int} (h : Vw K H M v (.int i)) : v = .int i := (h.rp (fun _ z => nomatch z) (fun _ z => nomatch z)).int_eq
theorem Vw.str_eq {v : V} {i : Str} (h : Vw K H M v (.str i)) : v = .str i := (h.rp (fun _ z => nomatch z) (fun _ z => nomatch z)).str_eq
end
/-- .. by a container that is looked into -/
def SRw (K : PySem.W.Frag) (r : R2) (g : G2) : Prop := ∀ {H : Hp} {M : Addr → Prop}, (∀ a, M a → H a ≠ none) → ∀ {x y : V} {d e : D}, Vw K H M x d → Rp K (cut H M) y e → ∀ {z : D} {fr : Bool}, g d e = some (z, fr) →
  ∀ Q : VK, (∀ v H', Ex H H' → VOk K H H' M fr v z → Q v H') → r x y H Q
theorem SRw.two {K : PySem.W.Frag} {r : R2} {g : G2} (h : SRw K r g) : SR2 K r g := fun hm _ _ _ _ rx ry _ _ e Q q => h hm (Vw.of_rp rx) ry e Q q
def SRCw (K : PySem.W.Frag) (r : List V → Hp → VK → Prop) (g : G1) : Prop := ∀ {H : Hp} {M : Addr → Prop}, (∀ a, M a → H a ≠ none) → ∀ {x : V} {d : D}, Vw K H M x d → ∀ {z : D} {fr : Bool}, g d = some (z, fr) →
  ∀ Q : VK, (∀ v H', Ex H H' → VOk K H H' M fr v z → Q v H') → r [x] H Q
def gOne (g : G1) : GA
  | [d] => g d
  | _ => none
theorem SRCw.all {K : PySem.W.Frag} {r : List V → Hp → VK → Prop} {g : G1} (h : SRCw K r g) : SRC K r (gOne g) := by
  intro H M hm xs ds p z fr e Q q
  cases p with
  | nil => cases e
  | cons r1 p =>
    cases p with
    | nil => exact h hm (Vw.of_rp r1) e Q q
    | cons _ _ => cases e

/-! ### + - * // % ** -/
section
variable {X : Cx} {K : PySem.W.Frag}
def gII (f : Int → Int → D) : G2
  | .int i, .int j => some (f i j, false)
  | _, _ => none
def gIIc (C : Int → Int → Bool) (f : Int → Int → D) : G2
  | .int i, .int j => if C i j = true then some (f i j, false) else none
  | _, _ => none
def relS1 : D → V → Prop
  | .int i, v => v = .int i
  | .bool b, v => v = .bl b
  | .str b, v => v = .str b
  | _, _ => False
theorem relS1.rp {F : Hp} {d : D} {v : V} (h : relS1 d v) : Rp K F v d := by
  cases d with
  | int i => cases h; exact .int i
  | bool i => cases h; exact .bl i
  | str i => cases h; exact .str i
  | _ => exact h.elim
theorem sr_II {f : Int → Int → D} {g : Int → Int → V} (h : ∀ i j, relS1 (f i j) (g i j)) : SR2 K (rI0 g) (gII f) := by
  intro H M hm x y d e rx ry z fr q Q k
  unfold gII at q
  split at q
  · cases q
    exact ⟨_, _, rx.int_eq, ry.int_eq, k _ H (Ex.refl H) (VOk.of (h _ _).rp)⟩
  · cases q
theorem sr_IIc {C : Int → Int → Bool} {P : Int → Int → Prop} {f : Int → Int → D} {g : Int → Int → V} (hc : ∀ i j, C i j = true → P i j) (h : ∀ i j, relS1 (f i j) (g i j)) : SR2 K (rI P g) (gIIc C f) := by
  intro H M hm x y d e rx ry z fr q Q k
  unfold gIIc at q
  split at q
  · split at q
    · rename_i c
      cases q
      exact ⟨_, _, rx.int_eq, ry.int_eq, hc _ _ c, k _ H (Ex.refl H) (VOk.of (h _ _).rp)⟩
    · cases q
  · cases q
/-- list + list, both readable -/
def rCatR (K : PySem.W.Frag) : R2 := fun x y H Q => ∃ l b xs zs, x = .ref l ∧ y = .ref b ∧ SqL K H l xs ∧ SqL K H b zs ∧ xs.length + zs.length ≤ sizeLine ∧ ∀ p, H p = none → Q (.ref p) (upd H p (.lst (xs ++ zs)))
theorem op_catR : OpR X (binaryOp .Add) (rCatR X.K) := by
  intro pins s σ H x y v u Q I rx ry h
  obtain ⟨l, b, xs, zs, rfl, rfl, hH, hB, hz, q⟩ := h
  cases rx
  cases ry
  obtain ⟨its, r, pl, z⟩ := I.list hH
  obtain ⟨its2, r2, pl2, z2⟩ := I.list hB
  have hl := r.length
  have hl2 := r2.length
  obtain ⟨⟨cls, dd, data, sl⟩, ho, hc, n, hd⟩ := id pl.isList
  obtain ⟨⟨cls2, dd2, data2, sl2⟩, ho2, hc2, n2, hd2⟩ := id pl2.isList
  simp only at hc hd hc2 hd2
  subst hc hd hc2 hd2
  have ea : its.toArray ++ its2.toArray = (its ++ its2).toArray := by simp
  refine concat_meets ⟨_, ho, rfl⟩ ⟨_, ho2, rfl⟩ noFill_list_add seq_list_add PySem.F.slot_list_add PySem.F.entry_list_add (PySem.F.args_list_add_2 _ _) (list_addW l b its.toArray its2.toArray n n2 dd dd2 sl sl2 (by rw [List.size_toArray, List.size_toArray]; omega)) ⟨ho, ho2, ?_⟩
  rw [ea]
  exact ⟨.ref _, _, I.lnew (t' := s.toks) (r.append r2) (by rw [List.length_append]; omega), rfl, q _ I.fresh⟩
def rAddD (K : PySem.W.Frag) : R2 := fun x y H Q => (rI0 (fun i j => .int (i + j)) x y H Q) ∨ ((∃ i j, x = .str i ∧ y = .str j ∧ i.length + j.length ≤ sizeLine ∧ Q (.str (i ++ j)) H) ∨ (rCatR K x y H Q ∨ rCatA K x y H Q))
theorem op_addD : OpR X (binaryOp .Add) (rAddD X.K) := op_add.or (op_add_str.or (op_catR.or op_catA))
def gAdd : G2
  | .int i, .int j => some (.int (i + j), false)
  | .str x, .str y => if x.length + y.length ≤ LIM then some (.str (x ++ y), false) else none
  | .list xs, .list ys => if xs.length + ys.length ≤ LIM then some (.list (xs ++ ys), true) else none
  | .tuple xs, .tuple ys => if xs.length + ys.length ≤ LIM then some (.tuple (xs ++ ys), false) else none
  | _, _ => none
theorem sw_add : SRw K (rAddD K) gAdd := by
  intro H M hm x y d e rx ry z fr q Q k
  unfold gAdd at q
  split at q
  · cases q
    exact .inl ⟨_, _, rx.int_eq, ry.int_eq, k _ H (Ex.refl H) (VOk.of (.int _))⟩
  · split at q
    · rename_i c
      cases q
      exact .inr (.inl ⟨_, _, rx.str_eq, ry.str_eq, lim_ok c, k _ H (Ex.refl H) (VOk.of (.str _))⟩)
    · cases q
  · split at q
    · rename_i c
      cases q
      obtain ⟨a, xs, rfl, h1, p1⟩ := rx.list
      obtain ⟨b, ys, rfl, h2, p2⟩ := ry.list
      refine .inr (.inr (.inl ⟨a, b, xs, ys, rfl, rfl, h1, cut_le.sqL h2, by rw [Pd.len p1, Pd.len p2]; exact lim_ok c, fun p hp => ?_⟩))
      exact k _ _ (Ex.new hp) (VOk.new hp hm (.lst (Pd.append p1 p2)))
    · cases q
  · split at q
    · rename_i c
      cases q
      obtain ⟨a, xs, rfl, h1, p1⟩ := rx.tuple
      obtain ⟨b, ys, rfl, h2, p2⟩ := ry.tuple
      refine .inr (.inr (.inr ⟨a, b, xs, ys, rfl, rfl, cut_le.sqT h1, cut_le.sqT h2, by rw [Pd.len p1, Pd.len p2]; exact lim_ok c, fun ex => ?_, fun nx ey => ?_, fun nx ny p hp => ?_⟩))
      · subst ex
        cases p1
        exact k _ H (Ex.refl H) (VOk.of ry)
      · subst ey
        cases p2
        rw [List.append_nil] at k
        exact k _ H (Ex.refl H) (VOk.of (.tup h1 p1))
      · exact k _ _ (Ex.new hp) (VOk.of (sqt_new hp hm (Pd.append p1 p2)))
    · cases q
  · cases q
end
end Qp
end
section
set_option Elab.async false
set_option linter.all false
set_option maxRecDepth 100000
set_option maxHeartbeats 2000000
/-! Qd: comparisons, lengths, subscripts, slices, types. -/
namespace Qp
open PySem PySem.Spec PyProof.Rows L2
section
variable {X : Cx} {K : PySem.W.Frag} {H H' : Hp} {M : Addr → Prop} {F : Hp}
/-! ### == -/
theorem dp_of {v : V} {d : D} (r : Rp K F v d) (hle : Le F H) : PyData.canLay0 d = true → Dp K H v d :=
  Rp.rec (motive_1 := fun v d _ => PyData.canLay0 d = true → Dp K H v d) (motive_2 := fun xs ds _ => PyData.canLayAll0 ds = true → DpAll K H xs ds)
    (fun _ => .non) (fun b _ => .bl b) (fun i _ => .int i) (fun x _ => .str x)
    (fun a _ ih h => .lst (hle.sqL a) (ih (by simpa [PyData.canLay0] using h))) (fun a _ ih h => .tup (hle.sqT a) (ih (by simpa [PyData.canLay0] using h))) (fun a e _ ih h => by simp [PyData.canLay0] at h)
    (fun _ => .nil) (fun r t ih1 ih2 h => by
      have h' := h
      simp only [PyData.canLayAll0, Bool.and_eq_true] at h'
      exact .cons (ih1 h'.1) (ih2 h'.2)) r
def gEq : G2 := fun d e => if (SeqAt.shaped d && SeqAt.shaped e) = true then some (.bool (PyData.eqv d e), false) else none
def gNe : G2 := fun d e => if (SeqAt.shaped d && SeqAt.shaped e) = true then some (.bool (!PyData.eqv d e), false) else none
theorem sw_eq : SRw K (rEqD K) gEq := by
  intro H M hm x y d e rx ry z fr q Q k
  unfold gEq at q
  split at q
  · rename_i c
    cases q
    rw [Bool.and_eq_true] at c
    exact ⟨d, e, dp_of rx.rpH (Le.refl H) (SeqAt.canLay_of_shaped c.1), dp_of ry cut_le (SeqAt.canLay_of_shaped c.2), c.1, c.2, k _ H (Ex.refl H) (VOk.of (.bl _))⟩
  · cases q
theorem sw_ne : SRw K (rNeD K) gNe := by
  intro H M hm x y d e rx ry z fr q Q k
  unfold gNe at q
  split at q
  · rename_i c
    cases q
    rw [Bool.and_eq_true] at c
    exact ⟨d, e, dp_of rx.rpH (Le.refl H) (SeqAt.canLay_of_shaped c.1), dp_of ry cut_le (SeqAt.canLay_of_shaped c.2), c.1, c.2, k _ H (Ex.refl H) (VOk.of (.bl _))⟩
  · cases q
/-! ### is None -/
def isNone : D → Bool
  | .none => true
  | _ => false
def gIsN : G2
  | d, .none => some (.bool (isNone d), false)
  | _, _ => none
def gNotN : G2
  | d, .none => some (.bool (!isNone d), false)
  | _, _ => none
theorem isnon {v : V} {d : D} (r : Rp K F v d) : decide (v = .non) = isNone d := by
  cases r <;> rfl
theorem sr_isN : SR2 K (fun x y H Q => y = .non ∧ Q (.bl (decide (x = .non))) H) gIsN := by
  intro H M hm x y d e rx ry z fr q Q k
  unfold gIsN at q
  split at q
  · cases q
    refine ⟨ry.none_eq, ?_⟩
    rw [isnon rx]
    exact k _ H (Ex.refl H) (VOk.of (.bl _))
  · cases q
theorem sr_notN : SR2 K (fun x y H Q => y = .non ∧ Q (.bl (!decide (x = .non))) H) gNotN := by
  intro H M hm x y d e rx ry z fr q Q k
  unfold gNotN at q
  split at q
  · cases q
    refine ⟨ry.none_eq, ?_⟩
    rw [isnon rx]
    exact k _ H (Ex.refl H) (VOk.of (.bl _))
  · cases q
/-! ### in a list or tuple of flat data -/
def flatD : D → Bool
  | .none => true
  | .bool _ => true
  | .int _ => true
  | .str _ => true
  | _ => false
theorem flat_of {v : V} {d : D} (r : Rp K F v d) (h : flatD d = true) : flatV v = true := by
  cases r <;> first | rfl | cases h
theorem eq_of {v w : V} {d e : D} (r : Rp K F v d) (s : Rp K F w e) (h : flatD d = true) (h' : flatD e = true) : eqV v w = PyData.eqv d e := by
  cases r <;> cases s <;> simp_all [eqV, PyData.eqv, flatD]
theorem inv_of {v : V} {d : D} (r : Rp K F v d) (h : flatD d = true) : ∀ {xs : List V} {ds : List D}, Paired (Rp K F) xs ds → ds.all flatD = true → xs.all flatV = true ∧ inV v xs = ds.any fun e => PyData.eqv e d
  | _, _, .nil, _ => ⟨rfl, rfl⟩
  | _, _, .cons r1 t, hh => by
    rw [List.all_cons, Bool.and_eq_true] at hh
    obtain ⟨h1, h2⟩ := inv_of r h t hh.2
    refine ⟨by rw [List.all_cons, flat_of r1 hh.1, h1]; rfl, ?_⟩
    unfold inV at h2 ⊢
    rw [List.any_cons, List.any_cons, h2, eq_of r1 r hh.1 h]
def gIn (neg : Bool) : G2
  | d, .list ds => if (flatD d && ds.all flatD) = true then some (.bool (if neg then !(ds.any fun e => PyData.eqv e d) else ds.any fun e => PyData.eqv e d), false) else none
  | d, .tuple ds => if (flatD d && ds.all flatD) = true then some (.bool (if neg then !(ds.any fun e => PyData.eqv e d) else ds.any fun e => PyData.eqv e d), false) else none
  | _, _ => none
/-- the container stands on the right: it may be owned -/
def SRw2 (K : PySem.W.Frag) (r : R2) (g : G2) : Prop := ∀ {H : Hp} {M : Addr → Prop}, (∀ a, M a → H a ≠ none) → ∀ {x y : V} {d e : D}, Rp K (cut H M) x d → Vw K H M y e → ∀ {z : D} {fr : Bool}, g d e = some (z, fr) →
  ∀ Q : VK, (∀ v H', Ex H H' → VOk K H H' M fr v z → Q v H') → r x y H Q
theorem SRw2.two {K : PySem.W.Frag} {r : R2} {g : G2} (h : SRw2 K r g) : SR2 K r g := fun hm _ _ _ _ rx ry _ _ e Q q => h hm rx (Vw.of_rp ry) e Q q
theorem sw_in {neg : Bool} : SRw2 K (rIn K neg) (gIn neg) := by
  intro H M hm x y d e rx ry z fr q Q k
  unfold gIn at q
  split at q
  · split at q
    · rename_i c
      cases q
      rw [Bool.and_eq_true] at c
      obtain ⟨a, xs, rfl, h1, p1⟩ := ry.list
      obtain ⟨i1, i2⟩ := inv_of rx c.1 p1 c.2
      refine ⟨a, xs, rfl, .inl h1, flat_of rx c.1, i1, ?_⟩
      rw [i2]
      exact k _ H (Ex.refl H) (VOk.of (.bl _))
    · cases q
  · split at q
    · rename_i c
      cases q
      rw [Bool.and_eq_true] at c
      obtain ⟨a, xs, rfl, h1, p1⟩ := ry.tuple
      obtain ⟨i1, i2⟩ := inv_of rx c.1 p1 c.2
      refine ⟨a, xs, rfl, .inr (cut_le.sqT h1), flat_of rx c.1, i1, ?_⟩
      rw [i2]
      exact k _ H (Ex.refl H) (VOk.of (.bl _))
    · cases q
  · cases q
/-! ### len -/
def gLen : G1
  | .list ds => some (.int ds.length, false)
  | .tuple ds => some (.int ds.length, false)
  | .str s => if s.length ≤ LIM then some (.int s.length, false) else none
  | _ => none
theorem sw_len : SRCw K (fun xs H Q => ∃ x n, xs = [x] ∧ LenV K x H n ∧ Q (.int n) H) gLen := by
  intro H M hm x d rx z fr q Q k
  unfold gLen at q
  split at q
  · cases q
    obtain ⟨a, xs, rfl, h1, p1⟩ := rx.list
    refine ⟨_, _, rfl, .inl ⟨xs, h1, rfl⟩, ?_⟩
    rw [Pd.len p1]
    exact k _ H (Ex.refl H) (VOk.of (.int _))
  · cases q
    obtain ⟨a, xs, rfl, h1, p1⟩ := rx.tuple
    refine ⟨_, _, rfl, .inr ⟨xs, cut_le.sqT h1, rfl⟩, ?_⟩
    rw [Pd.len p1]
    exact k _ H (Ex.refl H) (VOk.of (.int _))
  · split at q
    · rename_i c
      cases q
      exact ⟨_, _, rfl, by rw [rx.str_eq]; exact ⟨lim_ok c, rfl⟩, k _ H (Ex.refl H) (VOk.of (.int _))⟩
    · cases q
  · cases q
/-! ### int, list, tuple of a thing -/
def gInt : GA
  | [.int i] => some (.int i, false)
  | [.bool b] => some (.int (if b then 1 else 0), false)
  | _ => none
theorem sc_int : SRC K (fun xs H Q => (∃ i, xs = [.int i] ∧ Q (.int i) H) ∨ ∃ k, xs = [.bl k] ∧ Q (.int (if k then 1 else 0)) H) gInt := by
  intro H M hm xs ds p z fr q Q k
  unfold gInt at q
  split at q
  · cases q
    cases p with
    | cons r p =>
      cases p
      exact .inl ⟨_, by rw [r.int_eq], k _ H (Ex.refl H) (VOk.of (.int _))⟩
  · cases q
    cases p with
    | cons r p =>
      cases p
      exact .inr ⟨_, by rw [r.bool_eq], k _ H (Ex.refl H) (VOk.of (.int _))⟩
  · cases q
def gList : G1
  | .list ds => some (.list ds, true)
  | .tuple ds => some (.list ds, true)
  | _ => none
theorem sw_list : SRCw K (fun xs H Q => ∃ p ys, xs = [.ref p] ∧ (SqL K H p ys ∨ SqT K H p ys) ∧ ∀ l, H l = none → Q (.ref l) (upd H l (.lst ys))) gList := by
  intro H M hm x d rx z fr q Q k
  unfold gList at q
  split at q
  · cases q
    obtain ⟨a, xs, rfl, h1, p1⟩ := rx.list
    exact ⟨a, xs, rfl, .inl h1, fun l hl => k _ _ (Ex.new hl) (VOk.new hl hm (.lst p1))⟩
  · cases q
    obtain ⟨a, xs, rfl, h1, p1⟩ := rx.tuple
    exact ⟨a, xs, rfl, .inr (cut_le.sqT h1), fun l hl => k _ _ (Ex.new hl) (VOk.new hl hm (.lst p1))⟩
  · cases q
def gTuple : G1
  | .list ds => some (.tuple ds, false)
  | .tuple ds => some (.tuple ds, false)
  | _ => none
theorem sw_tuple : SRCw K (fun xs H Q => ∃ p ys, xs = [.ref p] ∧ ((SqL K H p ys ∧ ∀ l, H l = none → Q (.ref l) (upd H l (.tup ys))) ∨ (SqT K H p ys ∧ Q (.ref p) H))) gTuple := by
  intro H M hm x d rx z fr q Q k
  unfold gTuple at q
  split at q
  · cases q
    obtain ⟨a, xs, rfl, h1, p1⟩ := rx.list
    exact ⟨a, xs, rfl, .inl ⟨h1, fun l hl => k _ _ (Ex.new hl) (VOk.of (sqt_new hl hm p1))⟩⟩
  · cases q
    obtain ⟨a, xs, rfl, h1, p1⟩ := rx.tuple
    exact ⟨a, xs, rfl, .inr ⟨cut_le.sqT h1, k _ H (Ex.refl H) (VOk.of (.tup h1 p1))⟩⟩
  · cases q
/-! ### max, min of two ints -/
def gMax2 : GA
  | [.int i, .int j] => some (.int (if j > i then j else i), false)
  | _ => none
theorem sc_max2 : SRC K (fun xs H Q => ∃ i j, xs = [.int i, .int j] ∧ Q (.int (if j > i then j else i)) H) gMax2 := by
  intro H M hm xs ds p z fr q Q k
  unfold gMax2 at q
  split at q
  · cases q
    cases p with
    | cons r p =>
      cases p with
      | cons r2 p =>
        cases p
        exact ⟨_, _, by rw [r.int_eq, r2.int_eq], k _ H (Ex.refl H) (VOk.of (.int _))⟩
  · cases q
def gMin2 : GA
  | [.int i, .int j] => some (.int (if j < i then j else i), false)
  | _ => none
theorem sc_min2 : SRC K (fun xs H Q => ∃ i j, xs = [.int i, .int j] ∧ Q (.int (if j < i then j else i)) H) gMin2 := by
  intro H M hm xs ds p z fr q Q k
  unfold gMin2 at q
  split at q
  · cases q
    cases p with
    | cons r p =>
      cases p with
      | cons r2 p =>
        cases p
        exact ⟨_, _, by rw [r.int_eq, r2.int_eq], k _ H (Ex.refl H) (VOk.of (.int _))⟩
  · cases q
/-! ### items -/
def atD (ds : List D) (i : Int) : Option D := (ixN ds.length i).bind fun j => ds[j]?
theorem atD_get {xs : List V} {ds : List D} {i : Int} {d : D} (p : Paired (Rp K F) xs ds) (h : atD ds i = some d) : ∃ v, atI xs i = some v ∧ Rp K F v d := by
  unfold atD at h
  obtain ⟨j, e, h⟩ := Option.bind_eq_some_iff.mp h
  obtain ⟨v, h1, h2⟩ := Pd.get p h
  refine ⟨v, ?_, h2⟩
  unfold atI
  rw [Pd.len p, e]
  exact h1
def gIx : G2
  | .list ds, .int i => (atD ds i).bind fun d => some (d, false)
  | .tuple ds, .int i => (atD ds i).bind fun d => some (d, false)
  | .str s, .int i => if s.length ≤ LIM then (atI s.cps.toList i).bind fun c => some (.str ⟨#[c]⟩, false) else none
  | _, _ => none
theorem sw_ix : SRw K (rIx K) gIx := by
  intro H M hm x y d e rx ry z fr q Q k
  unfold gIx at q
  split at q
  · obtain ⟨d', e1, q⟩ := Option.bind_eq_some_iff.mp q
    cases q
    obtain ⟨a, xs, rfl, h1, p1⟩ := rx.list
    obtain ⟨v, g1, g2⟩ := atD_get p1 e1
    exact .inl ⟨a, xs, _, v, rfl, ry.int_eq, h1, g1, k _ H (Ex.refl H) (VOk.of g2)⟩
  · obtain ⟨d', e1, q⟩ := Option.bind_eq_some_iff.mp q
    cases q
    obtain ⟨a, xs, rfl, h1, p1⟩ := rx.tuple
    obtain ⟨v, g1, g2⟩ := atD_get p1 e1
    exact .inr (.inl ⟨a, xs, _, v, rfl, ry.int_eq, cut_le.sqT h1, g1, k _ H (Ex.refl H) (VOk.of g2)⟩)
  · split at q
    · rename_i c
      obtain ⟨c', e1, q⟩ := Option.bind_eq_some_iff.mp q
      cases q
      exact .inr (.inr ⟨_, _, c', rx.str_eq, ry.int_eq, lim_ok c, e1, k _ H (Ex.refl H) (VOk.of (.str _))⟩)
    · cases q
  · cases q
/-! ### types -/
def tyD : D → String
  | .none => "NoneType"
  | .bool _ => "bool"
  | .int _ => "int"
  | .str _ => "str"
  | .list _ => "list"
  | .tuple _ => "tuple"
  | .dict _ => "dict"
theorem tyx_of {v : V} {d : D} (r : Rp K F v d) (hle : Le F H) : TyX K H v (.type (tyD d)) := by
  cases r with
  | non => exact .base .non
  | bl b => exact .base (.bl b)
  | int i => exact .base (.int i)
  | str x => exact .base (.str x)
  | lst h p =>
    rcases hle.sqL h with (h | ⟨o, h⟩) | ⟨o, its, n, h1, h2, _⟩
    · exact .base (.lst h)
    · exact .base (.frz h)
    · exact .kList h1 h2
  | tup h p =>
    rcases hle.sqT h with (h | ⟨o, h⟩) | ⟨o, its, n, h1, h2, _⟩
    · exact .base (.tup h)
    · exact .fTuple h
    · exact .kTuple h1 h2
  | dic h e p =>
    rcases hle _ _ nf_dK h with h | ⟨o, h⟩
    · exact .base (.dK h)
    · exact .fDict h
end
end Qp
end
section
set_option Elab.async false
set_option linter.all false
set_option maxRecDepth 100000
set_option maxHeartbeats 2000000
/-! Qe: calls of built-ins, containers in a name, slices. -/
namespace Qp
open PySem PySem.Spec PyProof.Rows L2
section
variable {X : Cx} {K : PySem.W.Frag} {e a b : Expr} {es : List Expr} {te ta tb : TE} {ts : TA} {fe fa fb : EX} {fs : AX} {pos fpos cpos : Pos}
theorem de_cB {id : String} {x : Str} {r : List V → Hp → VK → Prop} {g : GA} (hc : CallR X (.builtin id) r) (hr : SRC X.K r g) (hg : Gl X x) (hm : X.mg x = none) (hv : bootBuiltins x = some (.builtin id)) (ha : DA X (e :: es) ts fs)
    (hn : x ≠ "__name__" := by decide) (hdb : (x == ("__debug__" : Str)) = false := by decide) (hs : starEach (e :: es) X.env = (false, eval e X.env) :: starEach es X.env := by rfl) (hpl : (backTo cpos (starEach es X.env)).any (·.1) = false := by rfl) :
    DE X (.Call (.Name x fpos) (e :: es) [] cpos) (tCB r ts) (evA g fs) := ⟨pe_callB hc hg hm hv ha.pa hn hdb hs hpl, se_A ha.sa hr⟩
theorem de_cT {T : String} {x : Str} {r : List V → Hp → VK → Prop} {g : GA} (hc : CallR X (.type T) r) (hr : SRC X.K r g) (hg : Gl X x) (hm : X.mg x = none) (hv : bootBuiltins x = some (.type T)) (ha : DA X (e :: es) ts fs)
    (hn : x ≠ "__name__" := by decide) (hdb : (x == ("__debug__" : Str)) = false := by decide) (hs : starEach (e :: es) X.env = (false, eval e X.env) :: starEach es X.env := by rfl) (hpl : (backTo cpos (starEach es X.env)).any (·.1) = false := by rfl) :
    DE X (.Call (.Name x fpos) (e :: es) [] cpos) (tCB r ts) (evA g fs) := ⟨pe_callTy hc hg hm hv ha.pa hn hdb hs hpl, se_A ha.sa hr⟩
/-! ### a container that stands in a name is looked into -/
def cont (cs : En) (i : Nat) : Option D := match cs[i]? with
  | some (.dat d) => some d
  | some (.own d) => some d
  | some (.io d) => some d
  | _ => none
theorem Ok.view {B : Hp} {IO : List (Nat × Addr)} {Z : Addr → Prop} {σ : St} {H : Hp} {cs : En} (ok : Ok K B IO Z σ H cs) {i : Nat} {d : D} (h : cont cs i = some d) : ∃ v, σ[i]? = some (some v) ∧ Vw K H (Md σ cs Z) v d := by
  unfold cont at h
  split at h
  · rename_i d' h'
    cases h
    obtain ⟨v, h1, h2⟩ := ok.dat i _ h'
    exact ⟨v, h1, Vw.of_rp h2⟩
  · rename_i d' h'
    cases h
    obtain ⟨a, h1, h2⟩ := ok.own i _ (.inl h')
    exact ⟨_, h1, Vw.of_own h2⟩
  · rename_i d' h'
    cases h
    obtain ⟨a, h1, h2⟩ := ok.own i _ (.inr h')
    exact ⟨_, h1, Vw.of_own h2⟩
  · cases h
def evIxV (g : G2) (i : Nat) (fb : EX) : EX := fun cs => (cont cs i).bind fun _ => (fb cs).bind fun s => (cont s.2.2 i).bind fun d => (g d s.1).bind fun z => some (z.1, z.2, s.2.2)
theorem se_ixv {r : R2} {g : G2} {i : Nat} (hr : SRw K r g) (hb : SE K tb fb) : SE K (tOp r (tVar i) tb) (evIxV g i fb) := by
  intro B IO Z σ H cs ok d fr cs' e Q q
  unfold evIxV at e
  obtain ⟨d0, e0, e⟩ := Option.bind_eq_some_iff.mp e
  obtain ⟨⟨d1, f1, c1⟩, e1, e⟩ := Option.bind_eq_some_iff.mp e
  obtain ⟨d2, e2, e⟩ := Option.bind_eq_some_iff.mp e
  obtain ⟨⟨z, fz⟩, e3, e⟩ := Option.bind_eq_some_iff.mp e
  cases e
  obtain ⟨v, hv, _⟩ := ok.view e0
  refine ⟨v, hv, hb ok e1 _ fun y H1 w1 => ?_⟩
  obtain ⟨v', hv', w⟩ := w1.post.ok.view e2
  rw [hv] at hv'
  cases hv'
  refine hr w1.post.ok.md w w1.rp e3 Q fun u H3 x3 v3 => ?_
  exact q u H3 (.of w1.post x3 v3)
def evVIn (g : G2) (fa : EX) (i : Nat) : EX := fun cs => (fa cs).bind fun s => (cont s.2.2 i).bind fun d => (g s.1 d).bind fun z => some (z.1, z.2, s.2.2)
theorem se_inv {r : R2} {g : G2} {i : Nat} (hr : SRw2 K r g) (ha : SE K ta fa) : SE K (tOp r ta (tVar i)) (evVIn g fa i) := by
  intro B IO Z σ H cs ok d fr cs' e Q q
  unfold evVIn at e
  obtain ⟨⟨d1, f1, c1⟩, e1, e⟩ := Option.bind_eq_some_iff.mp e
  obtain ⟨d2, e2, e⟩ := Option.bind_eq_some_iff.mp e
  obtain ⟨⟨z, fz⟩, e3, e⟩ := Option.bind_eq_some_iff.mp e
  cases e
  refine ha ok e1 _ fun y H1 w1 => ?_
  obtain ⟨v', hv', w⟩ := w1.post.ok.view e2
  refine ⟨v', hv', ?_⟩
  refine hr w1.post.ok.md w1.rp w e3 Q fun u H3 x3 v3 => ?_
  exact q u H3 (.of w1.post x3 v3)
def evV1 (g : G1) (i : Nat) : EX := fun cs => (cont cs i).bind fun d => (g d).bind fun z => some (z.1, z.2, cs)
theorem se_v1 {r : List V → Hp → VK → Prop} {g : G1} {i : Nat} (hr : SRCw K r g) : SE K (tCB r (tCons (tVar i) tNil)) (evV1 g i) := by
  intro B IO Z σ H cs ok d fr cs' e Q q
  unfold evV1 at e
  obtain ⟨d2, e2, e⟩ := Option.bind_eq_some_iff.mp e
  obtain ⟨⟨z, fz⟩, e3, e⟩ := Option.bind_eq_some_iff.mp e
  cases e
  obtain ⟨v, hv, w⟩ := ok.view e2
  refine ⟨v, hv, ?_⟩
  exact hr ok.md w e3 Q fun u H3 x3 v3 => q u H3 (.of (Post.refl ok) x3 v3)
variable {x : Str} {xpos : Pos} {i : Nat}
theorem de_opV {op : Operator} {r : R2} {g : G2} (ho : OpR X (binaryOp op) r) (hr : SRw X.K r g) (ha : DE X (.Name x xpos) (tVar i) (evVar i)) (hb : DE X b tb fb) : DE X (.BinOp (.Name x xpos) op b pos) (tOp r (tVar i) tb) (evIxV g i fb) := ⟨pe_op ho ha.pe hb.pe, se_ixv hr hb.se⟩
theorem de_cmpV {op : CmpOp} {r : R2} {g : G2} (ho : OpR X (compareOp op) r) (hr : SRw X.K r g) (ha : DE X (.Name x xpos) (tVar i) (evVar i)) (hb : DE X b tb fb) (hm : behindInMarks op b = false := by first | exact nomark _ | rfl) : DE X (.Compare (.Name x xpos) [op] [b] pos) (tOp r (tVar i) tb) (evIxV g i fb) :=
  ⟨pe_cmpR ho ha.pe hb.pe hm, se_ixv hr hb.se⟩
theorem dt_cmpV {op : CmpOp} {r : R2} {g : G2} (ho : OpR X (compareOp op) r) (hr : SRw X.K r g) (ha : DE X (.Name x xpos) (tVar i) (evVar i)) (hb : DE X b tb fb) (hm : behindInMarks op b = false := by first | exact nomark _ | rfl) : DT X (.Compare (.Name x xpos) [op] [b] pos) (tTest (tOp r (tVar i) tb)) (evT (evIxV g i fb)) :=
  ⟨pt_cmpR ho ha.pe hb.pe hm, st_test (se_ixv hr hb.se)⟩
theorem de_inV {op : CmpOp} {r : R2} {g : G2} (ho : OpR X (compareOp op) r) (hr : SRw2 X.K r g) (ha : DE X a ta fa) (hb : DE X (.Name x xpos) (tVar i) (evVar i)) (hm : behindInMarks op (.Name x xpos) = false := by first | exact nomark _ | rfl) : DE X (.Compare a [op] [.Name x xpos] pos) (tOp r ta (tVar i)) (evVIn g fa i) :=
  ⟨pe_cmpR ho ha.pe hb.pe hm, se_inv hr ha.se⟩
theorem dt_inV {op : CmpOp} {r : R2} {g : G2} (ho : OpR X (compareOp op) r) (hr : SRw2 X.K r g) (ha : DE X a ta fa) (hb : DE X (.Name x xpos) (tVar i) (evVar i)) (hm : behindInMarks op (.Name x xpos) = false := by first | exact nomark _ | rfl) : DT X (.Compare a [op] [.Name x xpos] pos) (tTest (tOp r ta (tVar i))) (evT (evVIn g fa i)) :=
  ⟨pt_cmpR ho ha.pe hb.pe hm, st_test (se_inv hr ha.se)⟩
theorem de_ix (ha : DE X a ta fa) (hb : DE X b tb fb) (hs : PlainIx b := by exact fun _ _ => rfl) : DE X (.Subscript a b pos) (tOp (rIx X.K) ta tb) (ev2 gIx fa fb) := ⟨pe_ix ix_seq ha.pe hb.pe hs, se_2 ha.se hb.se sw_ix.two⟩
theorem de_ixV (ha : DE X (.Name x xpos) (tVar i) (evVar i)) (hb : DE X b tb fb) (hs : PlainIx b := by exact fun _ _ => rfl) : DE X (.Subscript (.Name x xpos) b pos) (tOp (rIx X.K) (tVar i) tb) (evIxV gIx i fb) := ⟨pe_ix ix_seq ha.pe hb.pe hs, se_ixv sw_ix hb.se⟩
theorem de_cBV {id : String} {f : Str} {r : List V → Hp → VK → Prop} {g : G1} (hc : CallR X (.builtin id) r) (hr : SRCw X.K r g) (hg : Gl X f) (hm : X.mg f = none) (hv : bootBuiltins f = some (.builtin id)) (ha : DE X (.Name x xpos) (tVar i) (evVar i))
    (hn : f ≠ "__name__" := by decide) (hdb : (f == ("__debug__" : Str)) = false := by decide) :
    DE X (.Call (.Name f fpos) [.Name x xpos] [] cpos) (tCB r (tCons (tVar i) tNil)) (evV1 g i) := ⟨pe_callB hc hg hm hv (pa_cons ha.pe pa_nil) hn hdb, se_v1 hr⟩
theorem de_cTV {T : String} {f : Str} {r : List V → Hp → VK → Prop} {g : G1} (hc : CallR X (.type T) r) (hr : SRCw X.K r g) (hg : Gl X f) (hm : X.mg f = none) (hv : bootBuiltins f = some (.type T)) (ha : DE X (.Name x xpos) (tVar i) (evVar i))
    (hn : f ≠ "__name__" := by decide) (hdb : (f == ("__debug__" : Str)) = false := by decide) :
    DE X (.Call (.Name f fpos) [.Name x xpos] [] cpos) (tCB r (tCons (tVar i) tNil)) (evV1 g i) := ⟨pe_callTy hc hg hm hv (pa_cons ha.pe pa_nil) hn hdb, se_v1 hr⟩

/-! ### slices -/
def cutL {α : Type} (xs : List α) (lo hi : Option Int) : List α := (xs.drop (HT.sIx xs.length 0 lo)).take (HT.sIx xs.length xs.length hi - HT.sIx xs.length 0 lo)
theorem cutL_pd {F : Hp} {xs : List V} {ds : List D} {lo hi : Option Int} (p : Paired (Rp K F) xs ds) : Paired (Rp K F) (cutV xs lo hi) (cutL ds lo hi) := by
  unfold cutV cutL
  rw [Pd.len p]
  exact Pd.take _ (Pd.drop _ p)
def rSlD (K : PySem.W.Frag) : V → Option Int → Option Int → Hp → VK → Prop := fun x lo hi H Q => rSlL K x lo hi H Q ∨ (rSlA K x lo hi H Q ∨ rSlS x lo hi H Q)
theorem sl_D : SlR X (rSlD X.K) := sl_list.or (sl_tupA.or sl_str)
def gSl (d : D) (lo hi : Option Int) : Option (D × Bool) := match d with
  | .list ds => some (.list (cutL ds lo hi), true)
  | .tuple ds => some (.tuple (cutL ds lo hi), false)
  | .str s => if s.length ≤ LIM then some (.str (cutS s lo hi), false) else none
  | _ => none
theorem take_all {α : Type} (l : List α) : l.take l.length = l := List.take_of_length_le (Nat.le_refl _)
theorem sw_sl {H : Hp} {M : Addr → Prop} (hm : ∀ a, M a → H a ≠ none) {x : V} {d : D} {lo hi : Option Int} (rx : Vw K H M x d) {z : D} {fr : Bool} (q : gSl d lo hi = some (z, fr)) (Q : VK) (k : ∀ v H', Ex H H' → VOk K H H' M fr v z → Q v H') : rSlD K x lo hi H Q := by
  unfold gSl at q
  split at q
  · cases q
    obtain ⟨a, xs, rfl, h1, p1⟩ := rx.list
    exact .inl ⟨a, xs, rfl, h1, fun p hp => k _ _ (Ex.new hp) (VOk.new hp hm (.lst (cutL_pd p1)))⟩
  · cases q
    obtain ⟨a, xs, rfl, h1, p1⟩ := rx.tuple
    refine .inr (.inl ⟨a, xs, rfl, cut_le.sqT h1, fun w => ?_, fun _ p hp => k _ _ (Ex.new hp) (VOk.of (sqt_new hp hm (cutL_pd p1)))⟩)
    refine k _ H (Ex.refl H) (VOk.of ?_)
    have p2 := cutL_pd (lo := lo) (hi := hi) p1
    have e2 : cutV xs lo hi = xs := by
      unfold cutV
      rw [w.1, w.2, List.drop_zero, Nat.sub_zero, take_all]
    rw [e2] at p2
    exact .tup h1 p2
  · split at q
    · rename_i c
      cases q
      exact .inr (.inr ⟨_, rx.str_eq, lim_ok c, k _ H (Ex.refl H) (VOk.of (.str _))⟩)
    · cases q
  · cases q
abbrev OX := En → Option (Option Int × En)
def SO (K : PySem.W.Frag) (t : TO) (f : OX) : Prop := ∀ {B : Hp} {IO : List (Nat × Addr)} {X : Addr → Prop} {σ : St} {H : Hp} {cs : En}, Ok K B IO X σ H cs → ∀ {o : Option Int} {cs' : En}, f cs = some (o, cs') →
  ∀ Q : Option Int → Hp → Prop, (∀ H', Post K B IO X σ H cs σ H' cs' → Q o H') → t σ H Q
structure DO (X : Cx) (e : Option Expr) (t : TO) (f : OX) : Prop where
  po : PO X e t
  so : SO X.K t f
def evO0 : OX := fun cs => some (none, cs)
def evO1 (f : EX) : OX := fun cs => (f cs).bind fun r => match r.1 with
  | .int i => some (some i, r.2.2)
  | _ => none
theorem do_none : DO X none tNoPart evO0 := by
  refine ⟨po_none, ?_⟩
  intro B IO Z σ H cs ok o cs' e Q q
  cases e
  exact q H (Post.refl ok)
theorem do_some (h : DE X e te fe) : DO X (some e) (tPart te) (evO1 fe) := by
  refine ⟨po_some h.pe, ?_⟩
  intro B IO Z σ H cs ok o cs' e Q q
  unfold evO1 at e
  obtain ⟨⟨d1, f1, c1⟩, e1, e⟩ := Option.bind_eq_some_iff.mp e
  simp only at e
  split at e
  · cases e
    exact h.se ok e1 _ fun x H1 w1 => ⟨_, w1.rp.int_eq, q H1 w1.post⟩
  · cases e
def evSl (fe : EX) (fl fh : OX) : EX := fun cs => (fe cs).bind fun r => (fl r.2.2).bind fun s => (fh s.2).bind fun u => (gSl r.1 s.1 u.1).bind fun z => some (z.1, z.2, u.2)
def evSlV (i : Nat) (fl fh : OX) : EX := fun cs => (cont cs i).bind fun _ => (fl cs).bind fun s => (fh s.2).bind fun u => (cont u.2 i).bind fun d => (gSl d s.1 u.1).bind fun z => some (z.1, z.2, u.2)
variable {lo hi : Option Expr} {tl th : TO} {fl fh : OX} {p2 : Pos}
theorem de_sl (he : DE X e te fe) (hl : DO X lo tl fl) (hh : DO X hi th fh) : DE X (.Subscript e (.Slice lo hi none p2) pos) (tSl (rSlD X.K) te tl th) (evSl fe fl fh) := by
  refine ⟨pe_slice sl_D he.pe hl.po hh.po, ?_⟩
  intro B IO Z σ H cs ok d fr cs' e Q q
  unfold evSl at e
  obtain ⟨⟨d1, f1, c1⟩, e1, e⟩ := Option.bind_eq_some_iff.mp e
  obtain ⟨⟨o1, c2⟩, e2, e⟩ := Option.bind_eq_some_iff.mp e
  obtain ⟨⟨o2, c3⟩, e3, e⟩ := Option.bind_eq_some_iff.mp e
  obtain ⟨⟨z, fz⟩, e4, e⟩ := Option.bind_eq_some_iff.mp e
  cases e
  refine he.se ok e1 _ fun x H1 w1 => hl.so w1.post.ok e2 _ fun H2 p2 => hh.so p2.ok e3 _ fun H3 p3 => ?_
  refine sw_sl p3.ok.md (Vw.of_rp (w1.rp.mono (p2.le.trans p3.le))) e4 Q fun v H4 x4 v4 => ?_
  exact q v H4 (.of ((w1.post.trans p2).trans p3) x4 v4)
theorem de_slV (he : DE X (.Name x xpos) (tVar i) (evVar i)) (hl : DO X lo tl fl) (hh : DO X hi th fh) : DE X (.Subscript (.Name x xpos) (.Slice lo hi none p2) pos) (tSl (rSlD X.K) (tVar i) tl th) (evSlV i fl fh) := by
  refine ⟨pe_slice sl_D he.pe hl.po hh.po, ?_⟩
  intro B IO Z σ H cs ok d fr cs' e Q q
  unfold evSlV at e
  obtain ⟨d0, e0, e⟩ := Option.bind_eq_some_iff.mp e
  obtain ⟨⟨o1, c2⟩, e2, e⟩ := Option.bind_eq_some_iff.mp e
  obtain ⟨⟨o2, c3⟩, e3, e⟩ := Option.bind_eq_some_iff.mp e
  obtain ⟨d1, e1, e⟩ := Option.bind_eq_some_iff.mp e
  obtain ⟨⟨z, fz⟩, e4, e⟩ := Option.bind_eq_some_iff.mp e
  cases e
  obtain ⟨v, hv, _⟩ := ok.view e0
  refine ⟨v, hv, hl.so ok e2 _ fun H2 p2 => hh.so p2.ok e3 _ fun H3 p3 => ?_⟩
  obtain ⟨v', hv', w⟩ := p3.ok.view e1
  rw [hv] at hv'
  cases hv'
  refine sw_sl p3.ok.md w e4 Q fun u H4 x4 v4 => ?_
  exact q u H4 (.of (p2.trans p3) x4 v4)

/-! ### isinstance(e, T) -/
def evIsi (n : String) (f : EX) : EX := fun cs => (f cs).bind fun r => (kitB (tyD r.1) n).bind fun b => some (.bool b, false, r.2.2)
theorem de_isi {n : String} {T : Str} {tpos : Pos} (hg : Gl X "isinstance") (hm : X.mg "isinstance" = none) (hgT : Gl X T) (hmT : X.mg T = none) (hvT : bootBuiltins T = some (.type n)) (ha : DE X e te fe)
    (hn : T ≠ "__name__" := by decide) (hd : (T == ("__debug__" : Str)) = false := by decide) (hs : starEach (e :: [.Name T tpos]) X.env = (false, eval e X.env) :: starEach [.Name T tpos] X.env := by rfl) :
    DE X (.Call (.Name "isinstance" fpos) [e, .Name T tpos] [] cpos) (tCB (rIsi X.K) (tCons te (tCons (tC (.ty n)) tNil))) (evIsi n fe) := by
  refine ⟨pe_callB call_isi hg hm (by decide +kernel) (pa_cons ha.pe (pa_cons (pe_bltn hgT hmT hvT (v := .ty n) rfl hn hd) pa_nil) hs) (he := hs), ?_⟩
  intro B IO Z σ H cs ok d fr cs' e Q q
  unfold evIsi at e
  obtain ⟨⟨d1, f1, c1⟩, e1, e⟩ := Option.bind_eq_some_iff.mp e
  obtain ⟨b, e2, e⟩ := Option.bind_eq_some_iff.mp e
  cases e
  refine ha.se ok e1 _ fun x H1 w1 => ?_
  exact ⟨x, .ty n, _, _, b, rfl, .ty n, tyx_of w1.rp cut_le, kit_ty e2, q _ H1 (.dat w1.post (.bl b))⟩
def evIsiV (n : String) (i : Nat) : EX := fun cs => (cont cs i).bind fun d => (kitB (tyD d) n).bind fun b => some (.bool b, false, cs)
theorem de_isiV {n : String} {T : Str} {tpos : Pos} (hg : Gl X "isinstance") (hm : X.mg "isinstance" = none) (hgT : Gl X T) (hmT : X.mg T = none) (hvT : bootBuiltins T = some (.type n)) (ha : DE X (.Name x xpos) (tVar i) (evVar i))
    (hn : T ≠ "__name__" := by decide) (hd : (T == ("__debug__" : Str)) = false := by decide) :
    DE X (.Call (.Name "isinstance" fpos) [.Name x xpos, .Name T tpos] [] cpos) (tCB (rIsi X.K) (tCons (tVar i) (tCons (tC (.ty n)) tNil))) (evIsiV n i) := by
  refine ⟨pe_callB call_isi hg hm (by decide +kernel) (pa_cons ha.pe (pa_cons (pe_bltn hgT hmT hvT (v := .ty n) rfl hn hd) pa_nil)), ?_⟩
  intro B IO Z σ H cs ok d fr cs' e Q q
  unfold evIsiV at e
  obtain ⟨d1, e1, e⟩ := Option.bind_eq_some_iff.mp e
  obtain ⟨b, e2, e⟩ := Option.bind_eq_some_iff.mp e
  cases e
  obtain ⟨v, hv, w⟩ := ok.view e1
  exact ⟨v, hv, v, .ty n, _, _, b, rfl, .ty n, tyx_of w.rpH (Le.refl H), kit_ty e2, q _ H (.dat (Post.refl ok) (.bl b))⟩
end
end Qp
end
section
set_option Elab.async false
set_option linter.all false
set_option maxRecDepth 100000
set_option maxHeartbeats 2000000
/-! Qf: statements. -/
namespace Qp
open PySem PySem.Spec PyProof.Rows L2
inductive Res where
  | nx (cs : En) | rt (d : D) (fr : Bool) (cs : En) | bk (cs : En) | ct (cs : En)
abbrev SX := En → Option Res
def DnOk (K : PySem.W.Frag) (B : Hp) (IO : List (Nat × Addr)) (X : Addr → Prop) (σ : St) (H : Hp) (cs : En) (r : Res) (Dn : Ends) : Prop := match r with
  | .nx c => ∀ σ' H', Post K B IO X σ H cs σ' H' c → Dn.nx σ' H'
  | .rt d fr c => ∀ v σ' H', Pe K B IO X σ H cs σ' H' c fr v d → Dn.rt v H'
  | .bk c => ∀ σ' H', Post K B IO X σ H cs σ' H' c → Dn.bk σ' H'
  | .ct c => ∀ σ' H', Post K B IO X σ H cs σ' H' c → Dn.ct σ' H'
def SS (K : PySem.W.Frag) (t : TS) (g : SX) : Prop := ∀ {B : Hp} {IO : List (Nat × Addr)} {X : Addr → Prop} {σ : St} {H : Hp} {cs : En}, Ok K B IO X σ H cs → ∀ {r : Res}, g cs = some r → ∀ Dn : Ends, DnOk K B IO X σ H cs r Dn → t Dn σ H
structure DS (X : Cx) (st : Stmt) (t : TS) (g : SX) : Prop where
  ps : PS X st t
  ss : SS X.K t g
structure DB (X : Cx) (sts : List Stmt) (t : TS) (g : SX) : Prop where
  pss : PSs X sts t
  ss : SS X.K t g
section
variable {K : PySem.W.Frag} {B : Hp} {IO : List (Nat × Addr)} {Z Y : Addr → Prop} {σ σ' : St} {H H' : Hp} {cs cs' c1 : En}
theorem DnOk.pre {r : Res} {Dn : Ends} (p : Post K B IO Z σ H cs σ' H' cs') (h : DnOk K B IO Z σ H cs r Dn) : DnOk K B IO Z σ' H' cs' r Dn := by
  cases r with
  | nx c => exact fun s h' q => h s h' (p.trans q)
  | rt d fr c => exact fun v s h' q => h v s h' (q.pre p)
  | bk c => exact fun s h' q => h s h' (p.trans q)
  | ct c => exact fun s h' q => h s h' (p.trans q)
def isDat : Cell → Bool
  | .dat _ => true
  | .no => true
  | _ => false
/-- a cell is written -/
theorem Ok.setCell {i : Nat} {cell : Cell} {v : V} (ok : Ok K B IO Y σ H c1) (hZY : ∀ a, Z a → Y a) (hi : i < c1.length) (hio : ∀ d', c1[i]? ≠ some (.io d'))
    (hc : (∃ d, cell = .dat d ∧ Rp K (cut H (Md σ c1 Y)) v d) ∨ ∃ d p, cell = .own d ∧ v = .ref p ∧ Y p ∧ ¬ Z p ∧ B p = none ∧ OwnAt K (cut H (Md σ c1 Y)) (H p) d) :
    Ok K B IO Z (σ.set i (some v)) H (c1.set i cell) ∧ Le (cut H (Md σ c1 Y)) (cut H (Md (σ.set i (some v)) (c1.set i cell) Z)) := by
  have hiσ : i < σ.length := by rw [ok.len]; exact hi
  have os : ∀ j b, OwnS (σ.set i (some v)) (c1.set i cell) j b → (i ≠ j ∧ OwnS σ c1 j b) ∨ (i = j ∧ v = .ref b ∧ Y b ∧ ¬ Z b ∧ B b = none ∧ ∃ d, cell = .own d) := by
    intro j b ⟨q1, d', q2⟩
    by_cases e : i = j
    · subst e
      rw [List.getElem?_set_self hiσ] at q1
      have ev : v = .ref b := Option.some.inj (Option.some.inj q1)
      rw [List.getElem?_set_self hi] at q2
      rcases hc with ⟨d, rfl, _⟩ | ⟨d, p, rfl, e2, y, z, bb, _⟩
      · rcases q2 with q2 | q2 <;> cases q2
      · rw [ev] at e2
        cases e2
        exact .inr ⟨rfl, ev, y, z, bb, d, rfl⟩
    · rw [List.getElem?_set_ne e] at q1
      rw [List.getElem?_set_ne e] at q2
      exact .inl ⟨e, q1, d', q2⟩
  have sub : ∀ b, Md (σ.set i (some v)) (c1.set i cell) Z b → Md σ c1 Y b := fun b m => by
    rcases m with m | ⟨j, q⟩
    · exact .inl (hZY b m)
    · rcases os j b q with ⟨_, z⟩ | ⟨_, _, y, _⟩
      · exact .inr ⟨j, z⟩
      · exact .inl y
  have hle : Le (cut H (Md σ c1 Y)) (cut H (Md (σ.set i (some v)) (c1.set i cell) Z)) := le_cut fun b o q m => ⟨q, fun z => m (sub b z)⟩
  refine ⟨⟨by rw [List.length_set, List.length_set]; exact ok.len, fun j d' q => ?_, fun j d' q => ?_, fun j k b q r => ?_, fun j b q z => ?_, fun a z => ok.xin a (hZY a z), fun j b d' q r => ?_, fun j d' q => ?_, fun j b q => ?_, ok.base, ok.dom⟩, hle⟩
  · rcases getset q with ⟨z, z'⟩ | ⟨z, z'⟩
    · subst z
      rcases hc with ⟨d, e, r⟩ | ⟨d, p, e, _⟩
      · rw [e] at z'
        cases z'
        exact ⟨v, List.getElem?_set_self hiσ, r.mono hle⟩
      · rw [e] at z'; cases z'
    · obtain ⟨u, r1, r2⟩ := ok.dat j d' z'
      exact ⟨u, by rw [List.getElem?_set_ne z]; exact r1, r2.mono hle⟩
  · have q' : (i = j ∧ cell = .own d') ∨ (i ≠ j ∧ (c1[j]? = some (.own d') ∨ c1[j]? = some (.io d'))) := by
      rcases q with q | q
      · rcases getset q with ⟨z, z'⟩ | ⟨z, z'⟩
        · exact .inl ⟨z, z'⟩
        · exact .inr ⟨z, .inl z'⟩
      · rcases getset q with ⟨z, z'⟩ | ⟨z, z'⟩
        · rcases hc with ⟨d, e, _⟩ | ⟨d, p, e, _⟩ <;> (rw [e] at z'; cases z')
        · exact .inr ⟨z, .inr z'⟩
    rcases q' with ⟨z, z'⟩ | ⟨z, z'⟩
    · subst z
      rcases hc with ⟨d, e, _⟩ | ⟨d, p, e, e2, _, _, _, o⟩
      · rw [e] at z'; cases z'
      · rw [e] at z'
        cases z'
        exact ⟨p, by rw [e2]; exact List.getElem?_set_self hiσ, o.mono hle⟩
    · obtain ⟨b, r1, r2⟩ := ok.own j d' z'
      exact ⟨b, by rw [List.getElem?_set_ne z]; exact r1, r2.mono hle⟩
  · rcases os j b q with ⟨n1, z1⟩ | ⟨e1, _, y1, _⟩
    · rcases os k b r with ⟨n2, z2⟩ | ⟨e2, _, y2, _⟩
      · exact ok.inj j k b z1 z2
      · exact absurd y2 (ok.dis j b z1)
    · rcases os k b r with ⟨n2, z2⟩ | ⟨e2, _, y2, _⟩
      · exact absurd y1 (ok.dis k b z2)
      · exact e1.symm.trans e2
  · rcases os j b q with ⟨_, z1⟩ | ⟨_, _, _, z1, _⟩
    · exact ok.dis j b z1 (hZY b z)
    · exact z1 z
  · rcases os j b ⟨q, d', .inl r⟩ with ⟨n1, z1⟩ | ⟨_, _, _, _, z1, _⟩
    · rw [List.getElem?_set_ne n1] at q r
      exact ok.new j b d' q r
    · exact z1
  · rcases getset q with ⟨_, z⟩ | ⟨z, z'⟩
    · rcases hc with ⟨d, e, _⟩ | ⟨d, p, e, _⟩ <;> (rw [e] at z; cases z)
    · obtain ⟨b, r1, r2⟩ := ok.io j d' z'
      exact ⟨b, r1, by rw [List.getElem?_set_ne z]; exact r2⟩
  · obtain ⟨d', r1, r2⟩ := ok.ios j b q
    have z : i ≠ j := fun z => by
      subst z
      exact hio d' r1
    exact ⟨d', by rw [List.getElem?_set_ne z]; exact r1, by rw [List.getElem?_set_ne z]; exact r2⟩
def noIo (cs : En) (i : Nat) : Bool := match cs[i]? with
  | some (.io _) => false
  | some _ => true
  | none => false
theorem noIo_lt {i : Nat} (h : noIo cs i = true) : i < cs.length ∧ ∀ d, cs[i]? ≠ some (.io d) := by
  unfold noIo at h
  split at h
  · cases h
  · rename_i c e hne
    exact ⟨(List.getElem?_eq_some_iff.mp hne).1, fun d z => e d (by rw [hne] at z; exact Option.some.inj z)⟩
  · cases h
def cellOf (fr : Bool) (d : D) : Cell := if fr = true then .own d else .dat d
/-- name = value -/
theorem Pe.asg {i : Nat} {v : V} {d : D} {fr : Bool} (ok0 : Ok K B IO Z σ H cs) (w : Pe K B IO Z σ H cs σ H' c1 fr v d) (hn : noIo c1 i = true) : Post K B IO Z σ H cs (σ.set i (some v)) H' (c1.set i (cellOf fr d)) := by
  obtain ⟨hi, hio⟩ := noIo_lt hn
  unfold Pe at w
  unfold cellOf
  cases fr with
  | false =>
    obtain ⟨p, r⟩ := w
    obtain ⟨o, l⟩ := p.ok.setCell (Z := Z) (cell := .dat d) (v := v) (fun _ h => h) hi hio (.inl ⟨d, rfl, r⟩)
    exact ⟨o, p.le.trans l, p.keep, p.dom⟩
  | true =>
    obtain ⟨p, rfl, hp, q, ow⟩ := w
    have hB : B p = none := by
      cases z : B p with
      | none => rfl
      | some o => exact absurd hp (ok0.dom p (by rw [z]; exact fun z => nomatch z))
    obtain ⟨o, l⟩ := q.ok.setCell (Z := Z) (cell := .own d) (v := .ref p) (fun a h => .inl h) hi hio (.inr ⟨d, p, rfl, rfl, .inr rfl, q.np, hB, ow⟩)
    exact ⟨o, q.le.trans l, q.keep, q.dom⟩
/-- an owned thing is changed: kept = its kind of cell -/
theorem Ok.mutate {i : Nat} {a : Addr} {d d' : D} (ok : Ok K B IO Z σ H cs) (hs : σ[i]? = some (some (.ref a))) (hc : cs[i]? = some (.own d) ∨ cs[i]? = some (.io d)) (kept : ∀ b u, b ≠ a → H b = some u → H' b = some u) (hn : H' a ≠ none)
    (ow : OwnAt K (cut H' (Md σ cs Z)) (H' a) d') :
    Post K B IO Z σ H cs σ H' (cs.set i (match cs[i]? with | some (.io _) => .io d' | _ => .own d')) := by
  have hi : i < cs.length := by rcases hc with h | h <;> exact (List.getElem?_eq_some_iff.mp h).1
  have hown : OwnS σ cs i a := ⟨hs, d, hc⟩
  generalize ec : (match cs[i]? with | some (.io _) => Cell.io d' | _ => Cell.own d') = cell
  have hcell : (cs[i]? = some (.own d) ∧ cell = .own d') ∨ (cs[i]? = some (.io d) ∧ cell = .io d') := by
    rcases hc with h | h
    · rw [h] at ec; exact .inl ⟨h, ec.symm⟩
    · rw [h] at ec; exact .inr ⟨h, ec.symm⟩
  have os : ∀ j b, OwnS σ (cs.set i cell) j b ↔ OwnS σ cs j b := by
    intro j b
    by_cases e : i = j
    · subst e
      unfold OwnS
      rw [List.getElem?_set_self hi]
      constructor
      · rintro ⟨q1, _⟩
        exact ⟨q1, d, hc⟩
      · rintro ⟨q1, _⟩
        rcases hcell with ⟨_, h⟩ | ⟨_, h⟩
        · exact ⟨q1, d', .inl (by rw [h])⟩
        · exact ⟨q1, d', .inr (by rw [h])⟩
    · unfold OwnS
      rw [List.getElem?_set_ne e]
  have mde : Md σ (cs.set i cell) Z = Md σ cs Z := by
    funext b
    unfold Md
    exact propext ⟨fun h => h.imp id fun ⟨j, q⟩ => ⟨j, (os j b).mp q⟩, fun h => h.imp id fun ⟨j, q⟩ => ⟨j, (os j b).mpr q⟩⟩
  have ma : Md σ cs Z a := .inr ⟨i, hown⟩
  have hle : Le (cut H (Md σ cs Z)) (cut H' (Md σ cs Z)) := le_cut fun b u e m => ⟨kept b u (fun z => m (by rw [z]; exact ma)) e, m⟩
  have same : ∀ b, b ≠ a → H b ≠ none → H' b = H b := fun b ne h => by
    cases e : H b with
    | none => exact absurd e h
    | some u => exact kept b u ne e
  have dm : ∀ b, H b ≠ none → H' b ≠ none := fun b h => by
    by_cases e : b = a
    · rw [e]; exact hn
    · rw [same b e h]; exact h
  refine ⟨⟨by rw [List.length_set]; exact ok.len, fun j e q => ?_, fun j e q => ?_, fun j k b q r => ok.inj j k b ((os j b).mp q) ((os k b).mp r), fun j b q => ok.dis j b ((os j b).mp q), fun b z => dm b (ok.xin b z), fun j b e q r => ?_, fun j e q => ?_, fun j b q => ?_, fun b u h e => ?_, fun b h => dm b (ok.dom b h)⟩, ?_, fun b z => ?_, dm⟩
  · rw [mde]
    rcases getset q with ⟨z, z'⟩ | ⟨z, z'⟩
    · rcases hcell with ⟨_, h⟩ | ⟨_, h⟩ <;> (rw [h] at z'; cases z')
    · obtain ⟨u, r1, r2⟩ := ok.dat j e z'
      exact ⟨u, r1, r2.mono hle⟩
  · rw [mde]
    by_cases z : i = j
    · subst z
      rw [List.getElem?_set_self hi] at q
      refine ⟨a, hs, ?_⟩
      rcases hcell with ⟨_, h⟩ | ⟨_, h⟩
      · rw [h] at q
        rcases q with q | q
        · cases q; exact ow
        · cases q
      · rw [h] at q
        rcases q with q | q
        · cases q
        · cases q; exact ow
    · rw [List.getElem?_set_ne z] at q
      obtain ⟨b, r1, r2⟩ := ok.own j e q
      have nb : b ≠ a := fun y => by
        subst y
        exact z (ok.inj i j b hown ⟨r1, e, q⟩)
      refine ⟨b, r1, ?_⟩
      rw [same b nb r2.some]
      exact r2.mono hle
  · rcases getset r with ⟨z, z'⟩ | ⟨z, z'⟩
    · subst z
      rcases hcell with ⟨h0, h⟩ | ⟨_, h⟩
      · exact ok.new i b d q h0
      · rw [h] at z'; cases z'
    · exact ok.new j b e q z'
  · rcases getset q with ⟨z, z'⟩ | ⟨z, z'⟩
    · subst z
      rcases hcell with ⟨_, h⟩ | ⟨h0, h⟩
      · rw [h] at z'; cases z'
      · exact ok.io i d h0
    · exact ok.io j e z'
  · obtain ⟨e, r1, r2⟩ := ok.ios j b q
    by_cases z : i = j
    · subst z
      rcases hcell with ⟨h0, _⟩ | ⟨_, h⟩
      · rw [h0] at r1; cases r1
      · exact ⟨d', by rw [List.getElem?_set_self hi, h], r2⟩
    · exact ⟨e, by rw [List.getElem?_set_ne z]; exact r1, r2⟩
  · refine kept b u (fun y => ?_) (ok.base b u h e)
    subst y
    rcases hc with h0 | h0
    · rw [ok.new i b d hs h0] at e; cases e
    · obtain ⟨c, r1, r2⟩ := ok.io i d h0
      rw [hs] at r2
      cases r2
      exact h i r1
  · rw [mde]; exact hle
  · exact same b (fun y => ok.dis i a hown (by rw [← y]; exact z)) (ok.xin b z)
end
end Qp
end
section
set_option Elab.async false
set_option linter.all false
set_option maxRecDepth 100000
set_option maxHeartbeats 2000000
/-! Qg: statements and loops of the text. -/
namespace Qp
open PySem PySem.Spec PyProof.Rows L2
section
variable {X : Cx} {st : Stmt} {rest : List Stmt} {t u : TS} {g h : SX} {e : Expr} {te : TE} {fe : EX} {pos : Pos} {K : PySem.W.Frag}
/-! ### blocks -/
def sNx : SX := fun cs => some (.nx cs)
def sSeq (g h : SX) : SX := fun cs => (g cs).bind fun r => match r with
  | .nx c => h c
  | r => some r
theorem ss_nx : SS K tNext sNx := by
  intro B IO Z σ H cs ok r e Dn q
  cases e
  exact q σ H (Post.refl ok)
theorem db_nil : DB X [] tNext sNx := ⟨pss_nil, ss_nx⟩
theorem ds_pass : DS X (.Pass pos) tNext sNx := ⟨ps_pass, ss_nx⟩
theorem ds_doc {x j pos'} : DS X (.Expr (.Constant (.str x) j pos) pos') tNext sNx := ⟨ps_doc, ss_nx⟩
theorem db_cons (h1 : DS X st t g) (h2 : DB X rest u h) : DB X (st :: rest) (tSeq t u) (sSeq g h) := by
  refine ⟨pss_cons h1.ps h2.pss, ?_⟩
  intro B IO Z σ H cs ok r e Dn q
  unfold sSeq at e
  obtain ⟨r1, e1, e⟩ := Option.bind_eq_some_iff.mp e
  refine h1.ss ok e1 _ ?_
  cases r1 with
  | nx c => exact fun σ' H' p => h2.ss p.ok e Dn (q.pre p)
  | rt d fr c => cases e; exact q
  | bk c => cases e; exact q
  | ct c => cases e; exact q
theorem db_one (h1 : DS X st t g) : DB X [st] t g := ⟨pss_one h1.ps, h1.ss⟩
def sBk : SX := fun cs => some (.bk cs)
def sCt : SX := fun cs => some (.ct cs)
theorem ds_break : DS X (.Break pos) tBreak sBk := by
  refine ⟨ps_break, ?_⟩
  intro B IO Z σ H cs ok r e Dn q
  cases e
  exact q σ H (Post.refl ok)
theorem ds_continue : DS X (.Continue pos) tCont sCt := by
  refine ⟨ps_continue, ?_⟩
  intro B IO Z σ H cs ok r e Dn q
  cases e
  exact q σ H (Post.refl ok)
/-! ### expressions as statements, return, if -/
def sDrop (f : EX) : SX := fun cs => (f cs).bind fun r => some (.nx r.2.2)
theorem ds_expr (he : DE X e te fe) (hs : swapsWith e none pos.line X.env = pure false := by rfl) : DS X (.Expr e pos) (tDrop te) (sDrop fe) := by
  refine ⟨ps_expr he.pe hs, ?_⟩
  intro B IO Z σ H cs ok r e Dn q
  unfold sDrop at e
  obtain ⟨⟨d1, f1, c1⟩, e1, e⟩ := Option.bind_eq_some_iff.mp e
  cases e
  exact he.se ok e1 _ fun v H1 w => q σ H1 w.post
def sRet (f : EX) : SX := fun cs => (f cs).bind fun r => some (.rt r.1 r.2.1 r.2.2)
theorem ds_ret (he : DE X e te fe) : DS X (.Return (some e) pos) (tRet te) (sRet fe) := by
  refine ⟨ps_ret he.pe, ?_⟩
  intro B IO Z σ H cs ok r e Dn q
  unfold sRet at e
  obtain ⟨⟨d1, f1, c1⟩, e1, e⟩ := Option.bind_eq_some_iff.mp e
  cases e
  exact he.se ok e1 _ fun v H1 w => q v σ H1 w
def sRetN : SX := fun cs => some (.rt .none false cs)
theorem ds_retN : DS X (.Return none pos) tRetN sRetN := by
  refine ⟨ps_retN, ?_⟩
  intro B IO Z σ H cs ok r e Dn q
  cases e
  exact q _ σ H (.dat (Post.refl ok) .non)
def sIf (t : TX) (g h : SX) : SX := fun cs => (t cs).bind fun r => if r.1 = true then g r.2 else h r.2
variable {c : Expr} {a b : List Stmt} {tc : TT} {fc : TX}
theorem ds_if (hc : DT X c tc fc) (ha : DB X a t g) (hb : DB X b u h) : DS X (.If c a b pos) (tIfS tc t u) (sIf fc g h) := by
  refine ⟨ps_if hc.pt ha.pss hb.pss, ?_⟩
  intro B IO Z σ H cs ok r e Dn q
  unfold sIf at e
  obtain ⟨⟨b1, c1⟩, e1, e⟩ := Option.bind_eq_some_iff.mp e
  refine hc.st ok e1 _ fun H1 p1 => ?_
  cases b1 with
  | true => exact iteT (ha.ss p1.ok e Dn (q.pre p1))
  | false => exact iteF (hb.ss p1.ok e Dn (q.pre p1))
/-! ### stores -/
def sAsg (i : Nat) (f : EX) : SX := fun cs => (f cs).bind fun r => if noIo r.2.2 i = true then some (.nx (r.2.2.set i (cellOf r.2.1 r.1))) else none
theorem ss_asg {i : Nat} (h : SE K te fe) : SS K (tAsg te (gName i)) (sAsg i fe) := by
  intro B IO Z σ H cs ok r e Dn q
  unfold sAsg at e
  obtain ⟨⟨d1, f1, c1⟩, e1, e⟩ := Option.bind_eq_some_iff.mp e
  simp only at e
  split at e
  · rename_i hn
    cases e
    exact h ok e1 _ fun v H1 w => q _ H1 (w.asg ok hn)
  · cases e
theorem ds_asg {i : Nat} {x : Str} {xpos : Pos} (hN : X.N.Nodup) (hi : X.N[i]? = some x) (hx : Loc X.env.scope x) (he : DE X e te fe) (hf : X.fn x = true ∨ X.env.scope.names.lookup x = some .local := by first | exact .inl rfl | exact .inr rfl | assumption)
    (hs : swapsWithSole [.Name x xpos] e pos.line X.env = pure false := by rfl) (hw : swappedStores [.Name x xpos] e X.env = pure none := by rfl)
    (h1 : (assignEach [.Name x xpos] X.env).map (·.2) = [assign (.Name x xpos) X.env] := by rfl) : DS X (.Assign [.Name x xpos] e pos) (tAsg te (gName i)) (sAsg i fe) :=
  ⟨ps_asg he.pe (pg_name hN hi hx hf) hs hw h1, ss_asg he.se⟩
/-- x op= e -/
def sAug (g : G2) (i : Nat) (f : EX) : SX := fun cs => match cs[i]? with
  | some (.dat d) => (f cs).bind fun r => (g d r.1).bind fun z => if noIo r.2.2 i = true then some (.nx (r.2.2.set i (cellOf z.2 z.1))) else none
  | _ => none
theorem ds_aug {i : Nat} {x : Str} {op : Operator} {ti : TIp} {gg : G2} {pos' : Pos} (hN : X.N.Nodup) (hi : X.N[i]? = some x) (hx : Loc X.env.scope x) (ho : PIp X op ti) (hr : SR2 X.K ti gg) (he : DE X e te fe)
    (hf : X.fn x = true ∨ X.env.scope.names.lookup x = some .local := by first | exact .inl rfl | exact .inr rfl | assumption) : DS X (.AugAssign (.Name x pos') op e pos) (tAug i te ti) (sAug gg i fe) := by
  refine ⟨ps_aug hN hi hx he.pe ho hf, ?_⟩
  intro B IO Z σ H cs ok r e Dn q
  unfold sAug at e
  split at e
  · rename_i d hd
    obtain ⟨⟨d1, f1, c1⟩, e1, e⟩ := Option.bind_eq_some_iff.mp e
    obtain ⟨⟨z, fz⟩, e2, e⟩ := Option.bind_eq_some_iff.mp e
    simp only at e
    split at e
    · rename_i hn
      cases e
      obtain ⟨v, hv, rv⟩ := ok.dat i d hd
      refine ⟨v, hv, he.se ok e1 _ fun y H1 w => ?_⟩
      refine hr w.post.ok.md (rv.mono w.post.le) w.rp e2 _ fun u H2 x2 w2 => ?_
      exact q _ H2 ((Pe.of w.post x2 w2).asg ok hn)
    · cases e
  · cases e
/-! ### an owned list is changed -/
def upL (cs : En) (i : Nat) (f : D → Option D) : Option En := match cs[i]? with
  | some (.own d) => (f d).bind fun d' => some (cs.set i (.own d'))
  | some (.io d) => (f d).bind fun d' => some (cs.set i (.io d'))
  | _ => none
theorem Ok.upL {B : Hp} {IO : List (Nat × Addr)} {Z : Addr → Prop} {σ : St} {H : Hp} {cs cs' : En} {i : Nat} {f : D → Option D} (ok : Ok K B IO Z σ H cs) (e : upL cs i f = some cs') :
    ∃ a d d', σ[i]? = some (some (.ref a)) ∧ f d = some d' ∧ OwnAt K (cut H (Md σ cs Z)) (H a) d ∧ ∀ H', (∀ b u, b ≠ a → H b = some u → H' b = some u) → OwnAt K (cut H' (Md σ cs Z)) (H' a) d' → Post K B IO Z σ H cs σ H' cs' := by
  unfold Qp.upL at e
  split at e
  · rename_i d hd
    obtain ⟨d', e1, e⟩ := Option.bind_eq_some_iff.mp e
    cases e
    obtain ⟨a, h1, h2⟩ := ok.own i d (.inl hd)
    refine ⟨a, d, d', h1, e1, h2, fun H' k ow => ?_⟩
    have p := ok.mutate h1 (.inl hd) k ow.some ow
    rw [hd] at p
    exact p
  · rename_i d hd
    obtain ⟨d', e1, e⟩ := Option.bind_eq_some_iff.mp e
    cases e
    obtain ⟨a, h1, h2⟩ := ok.own i d (.inr hd)
    refine ⟨a, d, d', h1, e1, h2, fun H' k ow => ?_⟩
    have p := ok.mutate h1 (.inr hd) k ow.some ow
    rw [hd] at p
    exact p
  · cases e
theorem upd_kept {H : Hp} {a : Addr} {o : HO} : ∀ b u, b ≠ a → H b = some u → upd H a o b = some u := fun b u ne e => by rw [upd_ne ne]; exact e
theorem cut_upd {H : Hp} {M : Addr → Prop} {a : Addr} {o : HO} (m : M a) : Le (cut H M) (cut (upd H a o) M) := le_cut fun b u e n => ⟨upd_kept b u (fun z => n (by rw [z]; exact m)) e, n⟩
theorem OwnAt.list {F : Hp} {o : Option HO} {ds : List D} (h : OwnAt K F o (.list ds)) : ∃ xs, o = Option.some (.lst xs) ∧ Paired (Rp K F) xs ds := by
  cases h with
  | lst p => exact ⟨_, rfl, p⟩
def fApp (d : D) : D → Option D
  | .list ds => if ds.length < LIM then some (.list (ds ++ [d])) else none
  | _ => none
def isOwnL (cs : En) (i : Nat) : Bool := match cs[i]? with
  | some (.own (.list _)) => true
  | some (.io (.list _)) => true
  | _ => false
theorem Ok.ownL {B : Hp} {IO : List (Nat × Addr)} {Z : Addr → Prop} {σ : St} {H : Hp} {cs : En} {i : Nat} (ok : Ok K B IO Z σ H cs) (h : isOwnL cs i = true) : ∃ a xs, σ[i]? = some (some (.ref a)) ∧ H a = some (.lst xs) ∧ Md σ cs Z a := by
  unfold isOwnL at h
  split at h
  · rename_i ds hd
    obtain ⟨a, h1, h2⟩ := ok.own i _ (.inl hd)
    obtain ⟨xs, h3, _⟩ := h2.list
    exact ⟨a, xs, h1, h3, .inr ⟨i, h1, _, .inl hd⟩⟩
  · rename_i ds hd
    obtain ⟨a, h1, h2⟩ := ok.own i _ (.inr hd)
    obtain ⟨xs, h3, _⟩ := h2.list
    exact ⟨a, xs, h1, h3, .inr ⟨i, h1, _, .inr hd⟩⟩
  · cases h
theorem ok_md {Z : Addr → Prop} {σ : St} {cs cs' : En} {i : Nat} {f : D → Option D} (e : upL cs i f = some cs') {a : Addr} (h : σ[i]? = some (some (.ref a))) : Md σ cs Z a := by
  unfold upL at e
  split at e
  · rename_i d hd
    exact .inr ⟨i, h, d, .inl hd⟩
  · rename_i d hd
    exact .inr ⟨i, h, d, .inr hd⟩
  · cases e
/-- the value of a method's call is dropped, or given on: None -/
def evApp (i : Nat) (f : EX) : EX := fun cs => if isOwnL cs i = true then (f cs).bind fun r => (upL r.2.2 i (fApp r.1)).bind fun c => some (.none, false, c) else none
theorem se_app {i : Nat} (he : SE K te fe) : SE K (tBM K "list" rAppend (tVar i) (tCons te tNil)) (evApp i fe) := by
  intro B IO Z σ H cs ok d fr cs' e Q q
  unfold evApp at e
  split at e
  · rename_i ho
    obtain ⟨⟨d1, f1, c1⟩, e1, e⟩ := Option.bind_eq_some_iff.mp e
    obtain ⟨c2, e2, e⟩ := Option.bind_eq_some_iff.mp e
    cases e
    obtain ⟨a, xs, hs, hx, _⟩ := ok.ownL ho
    refine ⟨_, hs, .inl ⟨rfl, xs, SqL.of hx⟩, he ok e1 _ fun y H1 w => ?_⟩
    obtain ⟨a', d, d', h1, h2, h3, k⟩ := w.post.ok.upL e2
    rw [hs] at h1
    cases h1
    have m := ok_md (Z := Z) e2 hs
    unfold fApp at h2
    split at h2
    · split at h2
      · rename_i hl
        cases h2
        obtain ⟨ys, h4, h5⟩ := h3.list
        refine ⟨a, ys, y, rfl, rfl, h4, by rw [Pd.len h5]; exact lim_lt hl, ?_⟩
        refine q _ _ (.dat (w.post.trans (k _ upd_kept ?_)) .non)
        rw [upd_same]
        exact .lst (Rp.monoA (cut_upd m) (Pd.append h5 (.cons w.rp .nil)))
      · cases h2
    · cases h2
  · cases e
theorem de_app {i : Nat} {x : Str} {xpos apos : Pos} (hv : DE X (.Name x xpos) (tVar i) (evVar i)) (he : DE X e te fe)
    (hbase : attributeBase (.Name x xpos) "append" X.env (eval (.Name x xpos) X.env) = eval (.Name x xpos) X.env := by rfl)
    (hfew : ((backTo pos (starEach [e] X.env)).all (fun x => !x.1) && (backToKw pos (keywordEach [] X.env)).all (fun x => x.1.isSome)
      && decide ([e].length + ([] : List Keyword).length + (if ([] : List Keyword).isEmpty then 0 else 1) < 30)) = true := by rfl)
    (hline : (apos.endLine == pos.line) = true := by rfl) (hs : starEach [e] X.env = (false, eval e X.env) :: starEach [] X.env := by rfl) (hplain : (backTo pos (starEach [] X.env)).any (·.1) = false := by rfl) :
    DE X (.Call (.Attribute (.Name x xpos) "append" apos) [e] [] pos) (tBM X.K "list" rAppend (tVar i) (tCons te tNil)) (evApp i fe) :=
  ⟨pe_bm PySem.F.plainAttrs_list PySem.F.slot_list_append PySem.F.type_list_append mt_append hv.pe (pa_cons he.pe pa_nil hs) hbase hfew hline hs hplain, se_app he.se⟩
/-- x[k] = e -/
def fSet (k d : D) : D → Option D
  | .list ds => match k with
    | .int k => (ixN ds.length k).bind fun j => some (.list (ds.set j d))
    | _ => none
  | _ => none
variable {ei : Expr} {ti : TE} {fi : EX}
def sSet (i : Nat) (fi fe : EX) : SX := fun cs => (fe cs).bind fun r => if isOwnL r.2.2 i = true then (fi r.2.2).bind fun s => (upL s.2.2 i (fSet s.1 r.1)).bind fun c => some (.nx c) else none
theorem ds_set {i : Nat} {x : Str} {xpos spos : Pos} (hv : DE X (.Name x xpos) (tVar i) (evVar i)) (hi : DE X ei ti fi) (he : DE X e te fe)
    (ha : ∀ v, assign (.Subscript (.Name x xpos) ei spos) X.env v = (do
      let ov ← holding [v] (eval (.Name x xpos) X.env)
      let iv ← holding [v, ov] (eval ei X.env)
      standAt spos
      holding [v, ov, iv] (setItem ov iv v)
      release [v, ov, iv] []) := by intro _; rfl)
    (hs : swapsWithSole [.Subscript (.Name x xpos) ei spos] e pos.line X.env = pure false := by rfl) (hw : swappedStores [.Subscript (.Name x xpos) ei spos] e X.env = pure none := by rfl)
    (h1 : (assignEach [.Subscript (.Name x xpos) ei spos] X.env).map (·.2) = [assign (.Subscript (.Name x xpos) ei spos) X.env] := by rfl) :
    DS X (.Assign [.Subscript (.Name x xpos) ei spos] e pos) (tAsg te (gSub (tVar i) ti rSetL)) (sSet i fi fe) := by
  refine ⟨ps_asg he.pe (pg_sub hv.pe hi.pe set_list ha) hs hw h1, ?_⟩
  intro B IO Z σ H cs ok r e Dn q
  unfold sSet at e
  obtain ⟨⟨d1, f1, c1⟩, e1, e⟩ := Option.bind_eq_some_iff.mp e
  simp only at e
  split at e
  · rename_i ho
    obtain ⟨⟨d2, f2, c2⟩, e2, e⟩ := Option.bind_eq_some_iff.mp e
    obtain ⟨c3, e3, e⟩ := Option.bind_eq_some_iff.mp e
    cases e
    refine he.se ok e1 _ fun y H1 w1 => ?_
    obtain ⟨a, xs, hs, hx, _⟩ := w1.post.ok.ownL ho
    refine ⟨_, hs, hi.se w1.post.ok e2 _ fun z H2 w2 => ?_⟩
    obtain ⟨a', d, d', h1, h2, h3, k⟩ := w2.post.ok.upL e3
    rw [hs] at h1
    cases h1
    have m := ok_md (Z := Z) e3 hs
    unfold fSet at h2
    dsimp only at h2
    split at h2
    · split at h2
      · obtain ⟨j, hj, h2⟩ := Option.bind_eq_some_iff.mp h2
        cases h2
        obtain ⟨ys, h4, h5⟩ := h3.list
        refine ⟨a, ys, _, j, rfl, w2.rp.int_eq, h4, by rw [Pd.len h5]; exact hj, ?_⟩
        refine q _ _ ((w1.post.trans w2.post).trans (k _ upd_kept ?_))
        rw [upd_same]
        exact .lst (Rp.monoA (cut_upd m) (Pd.set (w1.rp.mono w2.post.le) j h5))
      · cases h2
    · cases h2
  · cases e
/-- x[k] op= e -/
def rGetL (K : PySem.W.Frag) : V → V → Hp → VK → Prop := fun o i H Q => ∃ p xs k v, o = .ref p ∧ i = .int k ∧ SqL K H p xs ∧ 0 ≤ k ∧ xs[k.toNat]? = some v ∧ Q v H
theorem get_list : PGet X (rGetL X.K) := by
  intro pins s σ H o i ov iv Q I ro ri h
  obtain ⟨p, xs, k, v, rfl, rfl, hq, h0, he, q⟩ := h
  cases ro
  obtain ⟨t, rfl⟩ := ri
  obtain ⟨its, r, pl, hz⟩ := I.list hq
  obtain ⟨w, ew, rw'⟩ := r.get he
  have hl := r.length
  have hn := line63
  have hk : k.toNat < xs.length := (List.getElem?_eq_some_iff.mp he).1
  exact wpAny_getItem_list pl.isList h0 (by omega) (by simpa using ew) ⟨v, H, I, rw', q⟩
def getL : D → D → Option D
  | .list ds, .int k => if 0 ≤ k then ds[k.toNat]? else none
  | _, _ => none
def sAugIx (g : G2) (i : Nat) (fi fe : EX) : SX := fun cs => if isOwnL cs i = true then (fi cs).bind fun s => (cont s.2.2 i).bind fun d => (getL d s.1).bind fun o => (fe s.2.2).bind fun r => (g o r.1).bind fun z => if z.2 = false then (upL r.2.2 i (fSet s.1 z.1)).bind fun c => some (.nx c) else none else none
theorem ds_augIx {i : Nat} {x : Str} {xpos tpos : Pos} {op : Operator} {tip : TIp} {gg : G2} (hv : DE X (.Name x xpos) (tVar i) (evVar i)) (hi : DE X ei ti fi) (ho : PIp X op tip) (hr : SR2 X.K tip gg) (he : DE X e te fe)
    (ha : ∀ ov iv new, augStore ei ov iv new = (do holding [new, ov, iv] (setItem ov iv new); release [new, ov, iv] []; pure .next) := by intros; rfl) :
    DS X (.AugAssign (.Subscript (.Name x xpos) ei tpos) op e pos) (tAugS (tVar i) ti te (rGetL X.K) tip rSetL) (sAugIx gg i fi fe) := by
  refine ⟨ps_augS hv.pe hi.pe get_list he.pe ho set_list ha, ?_⟩
  intro B IO Z σ H cs ok r e Dn q
  unfold sAugIx at e
  split at e
  · rename_i ho
    obtain ⟨⟨d2, f2, c2⟩, e2, e⟩ := Option.bind_eq_some_iff.mp e
    obtain ⟨dc, ec, e⟩ := Option.bind_eq_some_iff.mp e
    obtain ⟨old, eo, e⟩ := Option.bind_eq_some_iff.mp e
    obtain ⟨⟨d1, f1, c1⟩, e1, e⟩ := Option.bind_eq_some_iff.mp e
    obtain ⟨⟨z, fz⟩, ez, e⟩ := Option.bind_eq_some_iff.mp e
    simp only at e
    split at e
    · rename_i hz
      subst hz
      obtain ⟨c3, e3, e⟩ := Option.bind_eq_some_iff.mp e
      cases e
      obtain ⟨a, xs, hs, hx, _⟩ := ok.ownL ho
      refine ⟨_, hs, hi.se ok e2 _ fun y H1 w1 => ?_⟩
      obtain ⟨v', hv', w⟩ := w1.post.ok.view ec
      rw [hs] at hv'
      cases hv'
      unfold getL at eo
      dsimp only at eo
      split at eo
      · rename_i ds kk
        split at eo
        · rename_i h0
          obtain ⟨a2, ws, e4, r4, p4⟩ := w.list
          cases e4
          obtain ⟨vo, g1, g2⟩ := Pd.get p4 eo
          refine ⟨a, ws, _, vo, rfl, w1.rp.int_eq, r4, h0, g1, ?_⟩
          refine he.se w1.post.ok e1 _ fun u H2 w2 => ?_
          refine hr w2.post.ok.md (g2.mono w2.post.le) w2.rp ez _ fun v3 H3 x3 w3 => ?_
          have pe := Pe.of w2.post x3 w3
          obtain ⟨a', d, d', h1, h2, h3, k⟩ := pe.post.ok.upL e3
          rw [hs] at h1
          cases h1
          have m := ok_md (Z := Z) e3 hs
          unfold fSet at h2
          split at h2
          · simp only at h2
            obtain ⟨j, hj, h2⟩ := Option.bind_eq_some_iff.mp h2
            cases h2
            obtain ⟨ys, h4, h5⟩ := h3.list
            refine ⟨a, ys, _, j, rfl, w1.rp.int_eq, h4, by rw [Pd.len h5]; exact hj, ?_⟩
            refine q _ _ ((w1.post.trans pe.post).trans (k _ upd_kept ?_))
            rw [upd_same]
            exact .lst (Rp.monoA (cut_upd m) (Pd.set pe.rp j h5))
          · cases h2
        · cases eo
      · cases eo
    · cases e
  · cases e
end
end Qp
end
section
set_option Elab.async false
set_option linter.all false
set_option maxRecDepth 100000
set_option maxHeartbeats 2000000
/-! Qh: targets, what is walked, for, while. -/
namespace Qp
open PySem PySem.Spec PyProof.Rows L2
/-! ### targets -/
def Agr (tg : List Nat) (σ σ' : St) : Prop := σ'.length = σ.length ∧ ∀ j : Nat, j ∉ tg → σ'[j]? = σ[j]?
abbrev GX := D → En → Option En
abbrev GsX := List D → En → Option En
def SG (K : PySem.W.Frag) (g : TG) (tg : List Nat) (f : GX) : Prop := ∀ {B : Hp} {IO : List (Nat × Addr)} {X : Addr → Prop} {σ : St} {H : Hp} {cs : En}, Ok K B IO X σ H cs → ∀ {v : V} {d : D}, Rp K (cut H (Md σ cs X)) v d → ∀ {cs' : En}, f d cs = some cs' →
  ∀ Q : St → Hp → Prop, (∀ σ' H', Post K B IO X σ H cs σ' H' cs' → Agr tg σ σ' → Q σ' H') → g v σ H Q
def SGs (K : PySem.W.Frag) (g : TGs) (tg : List Nat) (f : GsX) : Prop := ∀ {B : Hp} {IO : List (Nat × Addr)} {X : Addr → Prop} {σ : St} {H : Hp} {cs : En}, Ok K B IO X σ H cs → ∀ {vs : List V} {ds : List D}, Paired (Rp K (cut H (Md σ cs X))) vs ds → ∀ {cs' : En}, f ds cs = some cs' →
  ∀ Q : St → Hp → Prop, (∀ σ' H', Post K B IO X σ H cs σ' H' cs' → Agr tg σ σ' → Q σ' H') → g vs σ H Q
structure DG (X : Cx) (e : Expr) (g : TG) (tg : List Nat) (f : GX) : Prop where
  pg : PG X e g
  sg : SG X.K g tg f
structure DGs (X : Cx) (e : List Expr) (g : TGs) (tg : List Nat) (f : GsX) : Prop where
  pgs : PGs X e g
  sg : SGs X.K g tg f
def gx (i : Nat) : GX := fun d cs => if noIo cs i = true then some (cs.set i (.dat d)) else none
def gxNil : GsX
  | [], cs => some cs
  | _, _ => none
def gxCons (f : GX) (h : GsX) : GsX
  | d :: ds, cs => (f d cs).bind fun c => h ds c
  | [], _ => none
def gxTup (h : GsX) (n : Nat) : GX
  | .tuple ds, cs => if ds.length = n then h ds cs else none
  | _, _ => none
section
variable {X : Cx} {K : PySem.W.Frag} {e : Expr} {es : List Expr} {pos : Pos}
theorem dg_name {i : Nat} {x : Str} (hN : X.N.Nodup) (hi : X.N[i]? = some x) (hx : Loc X.env.scope x) (hf : X.fn x = true ∨ X.env.scope.names.lookup x = some .local := by first | exact .inl rfl | exact .inr rfl | assumption) : DG X (.Name x pos) (gName i) [i] (gx i) := by
  refine ⟨pg_name hN hi hx hf, ?_⟩
  intro B IO Z σ H cs ok v d r cs' e Q q
  unfold gx at e
  split at e
  · rename_i hn
    cases e
    refine q _ H ((Pe.dat (Post.refl ok) r).asg ok hn) ⟨List.length_set, fun j hj => ?_⟩
    exact List.getElem?_set_ne (fun z => hj (by rw [z]; exact List.mem_singleton.mpr rfl))
  · cases e
theorem dgs_nil : DGs X [] gNil [] gxNil := by
  refine ⟨pgs_nil, ?_⟩
  intro B IO Z σ H cs ok v d r cs' e Q q
  cases r with
  | nil => cases e; exact ⟨rfl, q σ H (Post.refl ok) ⟨rfl, fun _ _ => rfl⟩⟩
  | cons _ _ => cases e
variable {g : TG} {f : GX} {gs : TGs} {fs : GsX} {t1 t2 : List Nat}
theorem dgs_cons (h1 : DG X e g t1 f) (h2 : DGs X es gs t2 fs) (hs : (assignEach (e :: es) X.env).map (·.2) = assign e X.env :: (assignEach es X.env).map (·.2) := by rfl) : DGs X (e :: es) (gCons g gs) (t1 ++ t2) (gxCons f fs) := by
  refine ⟨pgs_cons h1.pg h2.pgs hs, ?_⟩
  intro B IO Z σ H cs ok v d r cs' e Q q
  cases r with
  | nil => cases e
  | cons r1 r2 =>
    unfold gxCons at e
    obtain ⟨c1, e1, e⟩ := Option.bind_eq_some_iff.mp e
    refine ⟨_, _, rfl, h1.sg ok r1 e1 _ fun σ1 H1 p1 k1 => h2.sg p1.ok (Rp.monoA p1.le r2) e _ fun σ2 H2 p2 k2 => q σ2 H2 (p1.trans p2) ⟨k2.1.trans k1.1, fun j hj => ?_⟩⟩
    rw [List.mem_append] at hj
    exact (k2.2 j fun z => hj (.inr z)).trans (k1.2 j fun z => hj (.inl z))
theorem dg_tup {k : Nat} {n : Nat} (hc : X.calm = true) (h : DGs X es gs t1 fs) (hn : (assignEach es X.env).length = n := by rfl) (hst : (assignEach es X.env).findIdx? (·.1) = none := by rfl) : DG X (.Tuple es k pos) (gTup X.K n gs) t1 (gxTup fs n) := by
  refine ⟨pg_tup hc h.pgs hn hst, ?_⟩
  intro B IO Z σ H cs ok v d r cs' e Q q
  unfold gxTup at e
  split at e
  · split at e
    · rename_i hl
      obtain ⟨a, xs, rfl, h1, p1⟩ := r.tuple
      exact ⟨a, xs, rfl, cut_le.sqT h1, (Pd.len p1).trans hl, h.sg ok p1 e Q q⟩
    · cases e
  · cases e

/-! ### what is walked -/
abbrev IX := En → Option (List D × En)
def JOk (K : PySem.W.Frag) (J : It) (F : Hp) (items : List D) : Prop := ∀ (H : Hp) (M : Addr → Prop), (∀ a, M a → H a ≠ none) → Le F (cut H M) → ∀ i : Nat, (items.length = i → J.stop i H) ∧ ∀ d, items[i]? = some d → J.go i H ∧ ∀ x H', J.yld i H x H' → Ex H H' ∧ Rp K (cut H' M) x d
def SI (K : PySem.W.Frag) (wi : TI) (f : IX) : Prop := ∀ {B : Hp} {IO : List (Nat × Addr)} {X : Addr → Prop} {σ : St} {H : Hp} {cs : En}, Ok K B IO X σ H cs → ∀ {items : List D} {cs' : En}, f cs = some (items, cs') →
  ∀ R : It → Hp → Prop, (∀ J H', Post K B IO X σ H cs σ H' cs' → JOk K J (cut H' (Md σ cs' X)) items → R J H') → wi σ H R
structure DI (X : Cx) (tg e : Expr) (wi : TI) (f : IX) : Prop where
  pi : PI X tg e wi
  si : SI X.K wi f
variable {tg : Expr} {te : TE} {fe : EX} {wi : TI} {fi : IX}
/-- a list or a tuple -/
def iSeq (K : PySem.W.Frag) (tl : TE) : TI := fun σ H R => tl σ H fun x H1 => ∃ a, x = .ref a ∧ ((∃ xs, SqL K H1 a xs ∧ R (Itl K a) H1) ∨ ∃ xs, SqT K H1 a xs ∧ R (Itt K a) H1)
theorem pi_seq {l : Expr} {tl : TE} (hl : PE X l tl) : PI X tg l (iSeq X.K tl) := by
  refine ⟨fun pins s σ H R I h => ?_⟩
  refine thn (hl.run pins s σ H _ I h) fun v s1 ⟨x, H1, I1, r1, q1⟩ => ?_
  obtain ⟨a, e, q1⟩ := q1
  subst e
  cases r1
  rcases q1 with ⟨xs, hq, q⟩ | ⟨xs, hq, q⟩
  · obtain ⟨its, rv, p, hz⟩ := I1.list hq
    refine wpAny_pyIter_list p.isList ?_
    refine ⟨s1.heap.objs.size, [s1.heap.objs.size], _, _, H1, rfl, I1.kept (t' := s1.toks) fun b o e => Heap.get?_push_of_some _ e, turn_list a _, ⟨_, Heap.get?_push_size _ rfl, rfl, rfl⟩, fun b hb => ?_, q⟩
    have e : b = s1.heap.objs.size := by simpa using hb
    subst e
    exact I1.fpOk (Nat.le_refl _) (I1.hok.fresh (Nat.le_refl _))
  · obtain ⟨its, rv, p, hz⟩ := I1.tuple hq
    refine wpAny_pyIter_tuple (show s1.heap.IsTuple a its.toArray from p) ?_
    refine ⟨s1.heap.objs.size, [s1.heap.objs.size], _, _, H1, rfl, I1.kept (t' := s1.toks) fun b o e => Heap.get?_push_of_some _ e, turn_tuple a _, ⟨_, Heap.get?_push_size _ rfl, rfl, rfl⟩, fun b hb => ?_, q⟩
    have e : b = s1.heap.objs.size := by simpa using hb
    subst e
    exact I1.fpOk (Nat.le_refl _) (I1.hok.fresh (Nat.le_refl _))
def ixSeq (f : EX) : IX := fun cs => (f cs).bind fun r => match r.1 with
  | .list ds => some (ds, r.2.2)
  | .tuple ds => some (ds, r.2.2)
  | _ => none
theorem jok_list {F : Hp} {a : Addr} {xs : List V} {ds : List D} (h : SqL K F a xs) (p : Paired (Rp K F) xs ds) : JOk K (Itl K a) F ds := by
  intro H M hm hle i
  have hq : SqL K H a xs := cut_le.sqL (hle.sqL h)
  refine ⟨fun hi => ⟨xs, hq, by rw [Pd.len p]; exact Nat.le_of_eq hi⟩, fun d hd => ?_⟩
  obtain ⟨v, h1, h2⟩ := Pd.get p hd
  refine ⟨⟨xs, v, hq, h1⟩, fun x H' ⟨e, y⟩ => ?_⟩
  subst e
  have := y xs hq
  rw [h1] at this
  cases this
  exact ⟨Ex.refl _, h2.mono hle⟩
theorem jok_tup {F : Hp} {a : Addr} {xs : List V} {ds : List D} (h : SqT K F a xs) (p : Paired (Rp K F) xs ds) : JOk K (Itt K a) F ds := by
  intro H M hm hle i
  have hq : SqT K H a xs := cut_le.sqT (hle.sqT h)
  refine ⟨fun hi => ⟨xs, hq, by rw [Pd.len p]; exact Nat.le_of_eq hi⟩, fun d hd => ?_⟩
  obtain ⟨v, h1, h2⟩ := Pd.get p hd
  refine ⟨⟨xs, v, hq, h1⟩, fun x H' ⟨e, y⟩ => ?_⟩
  subst e
  have := y xs hq
  rw [h1] at this
  cases this
  exact ⟨Ex.refl _, h2.mono hle⟩
theorem di_seq (h : DE X e te fe) : DI X tg e (iSeq X.K te) (ixSeq fe) := by
  refine ⟨pi_seq h.pe, ?_⟩
  intro B IO Z σ H cs ok items cs' e R q
  unfold ixSeq at e
  obtain ⟨⟨d1, f1, c1⟩, e1, e⟩ := Option.bind_eq_some_iff.mp e
  dsimp only at e
  split at e
  · cases e
    refine h.se ok e1 _ fun v H1 w => ?_
    obtain ⟨a, xs, rfl, r1, p1⟩ := w.rp.list
    exact ⟨a, rfl, .inl ⟨xs, cut_le.sqL r1, q _ H1 w.post (jok_list r1 p1)⟩⟩
  · cases e
    refine h.se ok e1 _ fun v H1 w => ?_
    obtain ⟨a, xs, rfl, r1, p1⟩ := w.rp.tuple
    exact ⟨a, rfl, .inr ⟨xs, cut_le.sqT r1, q _ H1 w.post (jok_tup r1 p1)⟩⟩
  · cases e
def rngD (lo : Int) (n : Nat) : List D := (List.range n).map fun i : Nat => PyData.int (lo + (i : Int))
theorem rngD_len (lo : Int) (n : Nat) : (rngD lo n).length = n := by simp [rngD]
theorem rngD_get {lo : Int} {n i : Nat} {d : D} (h : (rngD lo n)[i]? = some d) : i < n ∧ d = .int (lo + (i : Int)) := by
  unfold rngD at h
  rw [List.getElem?_map] at h
  by_cases hi : i < n
  · rw [List.getElem?_range hi] at h
    exact ⟨hi, (Option.some.inj h).symm⟩
  · rw [List.getElem?_eq_none (by simpa using hi)] at h
    cases h
theorem jok_rng {F : Hp} {lo : Int} {n : Nat} : JOk K (Itr lo n) F (rngD lo n) := by
  intro H M hm hle i
  refine ⟨fun hi => by rw [rngD_len] at hi; exact Nat.le_of_eq hi, fun d hd => ?_⟩
  obtain ⟨h1, rfl⟩ := rngD_get hd
  refine ⟨h1, fun x H' ⟨e1, e2⟩ => ?_⟩
  subst e1 e2
  exact ⟨Ex.refl _, .int _⟩
def small (j : Int) : Bool := decide (-1000000000 ≤ j) && decide (j ≤ 1000000000)
theorem small_ok {j : Int} (h : small j = true) : -(2 ^ 62) ≤ j ∧ j < 2 ^ 62 := by
  unfold small at h
  rw [Bool.and_eq_true, decide_eq_true_eq, decide_eq_true_eq] at h
  omega
def ixR1 (f : AX) : IX := fun cs => (f cs).bind fun r => match r.1 with
  | [.int j] => if small j = true then some (rngD 0 j.toNat, r.2) else none
  | _ => none
def ixR2 (f : AX) : IX := fun cs => (f cs).bind fun r => match r.1 with
  | [.int i, .int j] => if (small i && small j) = true then some (rngD i (j - i).toNat, r.2) else none
  | _ => none
variable {a b : Expr} {ta : TA} {fa : AX} {p : Pos}
theorem di_r1 (hg : Gl X "range") (hm : X.mg "range" = none) (ha : DA X [a] ta fa) (hs : starEach [a] X.env = [(false, eval a X.env)] := by rfl) : DI X tg (.Call (.Name "range" p) [a] [] pos) (iRng1 ta) (ixR1 fa) := by
  refine ⟨pi_range1 hg hm ha.pa hs, ?_⟩
  intro B IO Z σ H cs ok items cs' e R q
  unfold ixR1 at e
  obtain ⟨⟨d1, c1⟩, e1, e⟩ := Option.bind_eq_some_iff.mp e
  dsimp only at e
  split at e
  · split at e
    · rename_i hs
      cases e
      refine ha.sa ok e1 _ fun vs H1 p1 r1 => ?_
      cases r1 with
      | cons r1 r2 =>
        cases r2
        exact ⟨_, by rw [r1.int_eq], (small_ok hs).1, (small_ok hs).2, q _ H1 p1 jok_rng⟩
    · cases e
  · cases e
theorem di_r2 (hg : Gl X "range") (hm : X.mg "range" = none) (ha : DA X [a, b] ta fa) (hs : starEach [a, b] X.env = [(false, eval a X.env), (false, eval b X.env)] := by rfl) (hs2 : starEach [b] X.env = [(false, eval b X.env)] := by rfl) :
    DI X tg (.Call (.Name "range" p) [a, b] [] pos) (iRng2 ta) (ixR2 fa) := by
  refine ⟨pi_range2 hg hm ha.pa hs hs2, ?_⟩
  intro B IO Z σ H cs ok items cs' e R q
  unfold ixR2 at e
  obtain ⟨⟨d1, c1⟩, e1, e⟩ := Option.bind_eq_some_iff.mp e
  dsimp only at e
  split at e
  · split at e
    · rename_i hs
      cases e
      rw [Bool.and_eq_true] at hs
      refine ha.sa ok e1 _ fun vs H1 p1 r1 => ?_
      cases r1 with
      | cons r1 r2 =>
        cases r2 with
        | cons r2 r3 =>
          cases r3
          exact ⟨_, _, by rw [r1.int_eq, r2.int_eq], ⟨(small_ok hs.1).1, (small_ok hs.1).2, (small_ok hs.2).1, (small_ok hs.2).2⟩, q _ H1 p1 jok_rng⟩
    · cases e
  · cases e
/-- zip of two lists -/
def zipD : List D → List D → List D
  | x :: xs, y :: ys => .tuple [x, y] :: zipD xs ys
  | _, _ => []
theorem zipD_len : ∀ xs ys : List D, (zipD xs ys).length = min xs.length ys.length
  | [], _ => by simp [zipD]
  | _ :: _, [] => by simp [zipD]
  | x :: xs, y :: ys => by simp [zipD, zipD_len xs ys]
theorem zipD_get : ∀ {xs ys : List D} {i : Nat} {d : D}, (zipD xs ys)[i]? = some d → ∃ x y, xs[i]? = some x ∧ ys[i]? = some y ∧ d = .tuple [x, y]
  | [], _, i, d, h => by simp [zipD] at h
  | _ :: _, [], i, d, h => by simp [zipD] at h
  | x :: xs, y :: ys, 0, d, h => by simp [zipD] at h; exact ⟨x, y, rfl, rfl, h.symm⟩
  | x :: xs, y :: ys, i + 1, d, h => by
    have h' : (zipD xs ys)[i]? = some d := by simpa [zipD] using h
    exact zipD_get (xs := xs) (ys := ys) (i := i) h'
theorem jok_zip {F : Hp} {a b : Addr} {xs ys : List V} {ds es : List D} (h : SqL K F a xs) (p : Paired (Rp K F) xs ds) (h' : SqL K F b ys) (p' : Paired (Rp K F) ys es) : JOk K (Itz K a b) F (zipD ds es) := by
  intro H M hm hle i
  have hq : SqL K H a xs := cut_le.sqL (hle.sqL h)
  have hq' : SqL K H b ys := cut_le.sqL (hle.sqL h')
  refine ⟨fun hi => ⟨xs, ys, hq, hq', ?_⟩, fun d hd => ?_⟩
  · rw [zipD_len] at hi
    rw [Pd.len p, Pd.len p']
    omega
  obtain ⟨x, y, g1, g2, rfl⟩ := zipD_get hd
  obtain ⟨v, h1, h2⟩ := Pd.get p g1
  obtain ⟨w, h3, h4⟩ := Pd.get p' g2
  refine ⟨⟨xs, ys, v, w, hq, hq', h1, h3⟩, fun u H' ⟨T, x', y', e1, hT, e2, y1, y2⟩ => ?_⟩
  subst e1 e2
  have z1 := y1 xs hq
  rw [h1] at z1
  cases z1
  have z2 := y2 ys hq'
  rw [h3] at z2
  cases z2
  exact ⟨Ex.new hT, sqt_new hT hm (.cons (h2.mono hle) (.cons (h4.mono hle) .nil))⟩
def ixZip (f : AX) : IX := fun cs => (f cs).bind fun r => match r.1 with
  | [.list xs, .list ys] => some (zipD xs ys, r.2)
  | _ => none
theorem di_zip {tpos : Pos} {elts : List Expr} {kk : Nat} (hg : Gl X "zip") (hm : X.mg "zip" = none) (ha : DA X [a, b] ta fa)
    (hs : starEach [a, b] X.env = (false, eval a X.env) :: starEach [b] X.env := by rfl) (hpl : (backTo pos (starEach [b] X.env)).any (·.1) = false := by rfl) :
    DI X (.Tuple elts kk tpos) (.Call (.Name "zip" p) [a, b] [] pos) (iZip X.K ta) (ixZip fa) := by
  refine ⟨pi_zip hg hm ha.pa hs hpl, ?_⟩
  intro B IO Z σ H cs ok items cs' e R q
  unfold ixZip at e
  obtain ⟨⟨d1, c1⟩, e1, e⟩ := Option.bind_eq_some_iff.mp e
  dsimp only at e
  split at e
  · cases e
    refine ha.sa ok e1 _ fun vs H1 p1 r1 => ?_
    cases r1 with
    | cons r1 r2 =>
      cases r2 with
      | cons r2 r3 =>
        cases r3
        obtain ⟨a', xs, rfl, h1, q1⟩ := r1.list
        obtain ⟨b', ys, rfl, h2, q2⟩ := r2.list
        exact ⟨a', b', xs, ys, rfl, cut_le.sqL h1, cut_le.sqL h2, q _ H1 p1 (jok_zip h1 q1 h2 q2)⟩
  · cases e
/-- enumerate of a list -/
def enumD : Nat → List D → List D
  | _, [] => []
  | n, x :: xs => .tuple [.int (n : Int), x] :: enumD (n + 1) xs
theorem enumD_len : ∀ (n : Nat) (xs : List D), (enumD n xs).length = xs.length
  | _, [] => rfl
  | n, x :: xs => by simp [enumD, enumD_len (n + 1) xs]
theorem enumD_get : ∀ {n : Nat} {xs : List D} {i : Nat} {d : D}, (enumD n xs)[i]? = some d → ∃ x, xs[i]? = some x ∧ d = .tuple [.int ((n + i : Nat) : Int), x]
  | _, [], i, d, h => by simp [enumD] at h
  | n, x :: xs, 0, d, h => by simp [enumD] at h; exact ⟨x, rfl, h.symm⟩
  | n, x :: xs, i + 1, d, h => by
    have h' : (enumD (n + 1) xs)[i]? = some d := by simpa [enumD] using h
    obtain ⟨y, h1, h2⟩ := enumD_get (n := n + 1) (xs := xs) (i := i) h'
    exact ⟨y, by simpa using h1, by rw [h2, show n + 1 + i = n + (i + 1) by omega]⟩
def ixEnum (f : AX) : IX := fun cs => (f cs).bind fun r => match r.1 with
  | [.list xs] => some (enumD 0 xs, r.2)
  | _ => none
theorem di_enum {tpos : Pos} {elts : List Expr} {kk : Nat} (hg : Gl X "enumerate") (hm : X.mg "enumerate" = none) (ha : DA X [a] ta fa) (hs : starEach [a] X.env = [(false, eval a X.env)] := by rfl) :
    DI X (.Tuple elts kk tpos) (.Call (.Name "enumerate" p) [a] [] pos) (iEnum X.K ta) (ixEnum fa) := by
  refine ⟨pi_enum hg hm ha.pa hs, ?_⟩
  intro B IO Z σ H cs ok items cs' e R q
  unfold ixEnum at e
  obtain ⟨⟨d1, c1⟩, e1, e⟩ := Option.bind_eq_some_iff.mp e
  dsimp only at e
  split at e
  · cases e
    refine ha.sa ok e1 _ fun vs H1 p1 r1 => ?_
    cases r1 with
    | cons r1 r2 =>
      cases r2
      obtain ⟨a', xs, rfl, h1, q1⟩ := r1.list
      refine ⟨a', xs, rfl, cut_le.sqL h1, q _ H1 p1 ?_⟩
      intro H M hm hle i
      have hq : SqL X.K H a' xs := cut_le.sqL (hle.sqL h1)
      refine ⟨fun hi => ⟨xs, hq, by rw [enumD_len] at hi; rw [Pd.len q1]; exact Nat.le_of_eq hi⟩, fun d hd => ?_⟩
      obtain ⟨x, g1, rfl⟩ := enumD_get hd
      obtain ⟨v, h1', h2⟩ := Pd.get q1 g1
      refine ⟨⟨xs, v, hq, h1'⟩, fun u H' ⟨T, x', e1, hT, e2, y1⟩ => ?_⟩
      subst e1 e2
      have z1 := y1 xs hq
      rw [h1'] at z1
      cases z1
      refine ⟨Ex.new hT, sqt_new hT hm (.cons ?_ (.cons (h2.mono hle) .nil))⟩
      rw [Nat.zero_add]
      exact .int _
  · cases e

/-! ### for -/
def loopF (ft : GX) (body : SX) : List D → En → Option Res
  | [], cs => some (.nx cs)
  | x :: r, cs => (ft x cs).bind fun c => (body c).bind fun z => match z with
    | .nx c => loopF ft body r c
    | .ct c => loopF ft body r c
    | .bk c => some (.nx c)
    | .rt d fr c => some (.rt d fr c)
def sFor (fi : IX) (ft : GX) (body : SX) : SX := fun cs => (fi cs).bind fun r => loopF ft body r.1 r.2
variable {gb : SX} {tb : TS} {body : List Stmt}
theorem ss_for {tgs : List Nat} (hi : SI K wi fi) (hg : SG K g tgs f) (hb : SS K tb gb) : SS K (tFor wi g tb) (sFor fi f gb) := by
  intro B IO Z σ H cs ok r e Dn q
  unfold sFor at e
  obtain ⟨⟨items, c1⟩, e1, e⟩ := Option.bind_eq_some_iff.mp e
  dsimp only at e
  refine hi ok e1 _ fun J H1 p1 jok => ?_
  refine ⟨fun i m σ' H' => m = items.length - i ∧ i ≤ items.length ∧ ∃ c, Post K B IO Z σ H cs σ' H' c ∧ Le (cut H1 (Md σ c1 Z)) (cut H' (Md σ' c Z)) ∧ loopF f gb (items.drop i) c = some r, ⟨_, rfl, Nat.zero_le _, c1, p1, Le.refl _, by rw [List.drop_zero]; exact e⟩, ?_⟩
  rintro i m σ' H' ⟨rfl, hil, c, p, le, el⟩
  obtain ⟨js, jg⟩ := jok H' _ p.ok.md le i
  by_cases hlt : i < items.length
  · have hd : items[i]? = some items[i] := List.getElem?_eq_getElem hlt
    obtain ⟨go, yl⟩ := jg _ hd
    rw [List.drop_eq_getElem_cons hlt] at el
    unfold loopF at el
    obtain ⟨c2, e2, el⟩ := Option.bind_eq_some_iff.mp el
    obtain ⟨rb, e3, el⟩ := Option.bind_eq_some_iff.mp el
    refine .inr ⟨go, fun σ3 H3 => ∃ c3, Post K B IO Z σ H cs σ3 H3 c3 ∧ Le (cut H1 (Md σ c1 Z)) (cut H3 (Md σ3 c3 Z)) ∧ loopF f gb (items.drop (i + 1)) c3 = some r, fun σ3 H3 ⟨c3, h1, h2, h3⟩ => ⟨items.length - (i + 1), by omega, rfl, hlt, c3, h1, h2, h3⟩, fun x H2 hy => ?_⟩
    obtain ⟨ex, rx⟩ := yl x H2 hy
    have p2 := p.ok.ext ex
    refine hg p2.ok rx e2 _ fun σ3 H3 p3 _ => ?_
    have p123 := (p.trans p2).trans p3
    have le3 := (le.trans p2.le).trans p3.le
    refine hb p3.ok e3 _ ?_
    cases rb with
    | nx c4 => exact fun σ4 H4 p4 => ⟨c4, p123.trans p4, le3.trans p4.le, el⟩
    | ct c4 => exact fun σ4 H4 p4 => ⟨c4, p123.trans p4, le3.trans p4.le, el⟩
    | bk c4 =>
      cases el
      exact fun σ4 H4 p4 => q σ4 H4 (p123.trans p4)
    | rt d fr c4 =>
      cases el
      exact fun v σ4 H4 p4 => q v σ4 H4 (p4.pre p123)
  · have hi' : i = items.length := by omega
    subst hi'
    rw [List.drop_length] at el
    cases el
    exact .inl ⟨js rfl, q σ' H' p⟩
theorem ds_for {tgs : List Nat} (hp : PassesOwn (model X.prog X.w) X.A X.env X.xe) (hc : X.calm = true) (hi : DI X tg e wi fi) (hg : DG X tg g tgs f) (hb : DB X body tb gb) (hs : ∀ x, foldedSetIterable e X.env x = pure x := by intro _; rfl) :
    DS X (.For tg e body [] pos) (tFor wi g tb) (sFor fi f gb) := ⟨ps_for hp hc hi.pi hg.pg hb.pss hs, ss_for hi.si hg.sg hb.ss⟩
/-! ### while -/
def loopW (tc : TX) (body : SX) : Nat → En → Option Res
  | 0, _ => none
  | n + 1, cs => (tc cs).bind fun b => if b.1 = true then (body b.2).bind fun z => match z with
    | .nx c => loopW tc body n c
    | .ct c => loopW tc body n c
    | .bk c => some (.nx c)
    | .rt d fr c => some (.rt d fr c) else some (.nx b.2)
variable {c : Expr} {tc : TT} {fc : TX}
theorem ss_while (n : Nat) (hc : STt K tc fc) (hb : SS K tb gb) : SS K (tWhile tc tb) (loopW fc gb n) := by
  intro B IO Z σ H cs ok r e Dn q
  refine ⟨fun m σ' H' => ∃ c, Post K B IO Z σ H cs σ' H' c ∧ loopW fc gb m c = some r, ⟨n, cs, Post.refl ok, e⟩, ?_⟩
  rintro m σ' H' ⟨c, p, el⟩
  cases m with
  | zero => cases el
  | succ m =>
    unfold loopW at el
    obtain ⟨⟨b, c1⟩, e1, el⟩ := Option.bind_eq_some_iff.mp el
    dsimp only at el
    refine hc p.ok e1 _ fun H1 p1 => ?_
    cases b with
    | false =>
      cases el
      exact iteF (q σ' H1 (p.trans p1))
    | true =>
      refine iteT ?_
      obtain ⟨rb, e3, el⟩ := Option.bind_eq_some_iff.mp (show ((gb c1).bind _) = some r from el)
      refine ⟨fun σ3 H3 => ∃ c3, Post K B IO Z σ H cs σ3 H3 c3 ∧ loopW fc gb m c3 = some r, fun σ3 H3 h => ⟨m, Nat.lt_succ_self m, h⟩, ?_⟩
      refine hb p1.ok e3 _ ?_
      cases rb with
      | nx c4 => exact fun σ4 H4 p4 => ⟨c4, (p.trans p1).trans p4, el⟩
      | ct c4 => exact fun σ4 H4 p4 => ⟨c4, (p.trans p1).trans p4, el⟩
      | bk c4 =>
        cases el
        exact fun σ4 H4 p4 => q σ4 H4 ((p.trans p1).trans p4)
      | rt d fr c4 =>
        cases el
        exact fun v σ4 H4 p4 => q v σ4 H4 (p4.pre (p.trans p1))
theorem ds_while (n : Nat) (hp : PassesOwn (model X.prog X.w) X.A X.env X.xe) (hc : DT X c tc fc) (hb : DB X body tb gb) : DS X (.While c body [] pos) (tWhile tc tb) (loopW fc gb n) := ⟨ps_while hp hc.pt hb.pss, ss_while n hc.st hb.ss⟩
end
end Qp
end
section
set_option Elab.async false
set_option linter.all false
set_option maxRecDepth 100000
set_option maxHeartbeats 2000000
/-! Qi: list comprehensions. -/
namespace Qp
open PySem PySem.Spec PyProof.Rows L2
def clr (cs : En) : List Nat → En
  | [] => cs
  | v :: vs => (clr cs vs).set v .no
theorem clr_len (cs : En) : ∀ vs : List Nat, (clr cs vs).length = cs.length
  | [] => rfl
  | v :: vs => by unfold clr; rw [List.length_set, clr_len cs vs]
theorem clr_get {cs : En} {i : Nat} {c : Cell} : ∀ {vs : List Nat}, (clr cs vs)[i]? = some c → (i ∉ vs ∧ cs[i]? = some c) ∨ (i ∈ vs ∧ c = .no)
  | [], h => .inl ⟨List.not_mem_nil, h⟩
  | v :: vs, h => by
    unfold clr at h
    rcases getset h with ⟨e, e'⟩ | ⟨e, h'⟩
    · exact .inr ⟨by rw [e]; exact List.mem_cons_self, e'.symm⟩
    · rcases clr_get h' with ⟨n, q⟩ | ⟨n, q⟩
      · refine .inl ⟨fun z => ?_, q⟩
        rcases List.mem_cons.mp z with z | z
        · exact e z.symm
        · exact n z
      · exact .inr ⟨List.mem_cons_of_mem _ n, q⟩
theorem clr_out {cs : En} {i : Nat} : ∀ {vs : List Nat}, i ∉ vs → (clr cs vs)[i]? = cs[i]?
  | [], _ => rfl
  | v :: vs, h => by
    unfold clr
    rw [List.getElem?_set_ne (fun e => h (by rw [e]; exact List.mem_cons_self))]
    exact clr_out fun m => h (List.mem_cons_of_mem _ m)
def rst (c2 c1 : En) : List Nat → En
  | [] => c2
  | v :: vs => (rst c2 c1 vs).set v (c1.getD v .no)
theorem rst_len (c2 c1 : En) : ∀ vs : List Nat, (rst c2 c1 vs).length = c2.length
  | [] => rfl
  | v :: vs => by unfold rst; rw [List.length_set, rst_len c2 c1 vs]
theorem rst_get {c2 c1 : En} {i : Nat} {c : Cell} : ∀ {vs : List Nat}, (rst c2 c1 vs)[i]? = some c → (i ∉ vs ∧ c2[i]? = some c) ∨ (i ∈ vs ∧ c = c1.getD i .no)
  | [], h => .inl ⟨List.not_mem_nil, h⟩
  | v :: vs, h => by
    unfold rst at h
    rcases getset h with ⟨e, e'⟩ | ⟨e, h'⟩
    · subst e
      exact .inr ⟨List.mem_cons_self, e'.symm⟩
    · rcases rst_get h' with ⟨n, q⟩ | ⟨n, q⟩
      · refine .inl ⟨fun z => ?_, q⟩
        rcases List.mem_cons.mp z with z | z
        · exact e z.symm
        · exact n z
      · exact .inr ⟨List.mem_cons_of_mem _ n, q⟩
theorem rst_out {c2 c1 : En} {i : Nat} : ∀ {vs : List Nat}, i ∉ vs → (rst c2 c1 vs)[i]? = c2[i]?
  | [], _ => rfl
  | v :: vs, h => by
    unfold rst
    rw [List.getElem?_set_ne (fun e => h (by rw [e]; exact List.mem_cons_self))]
    exact rst_out fun m => h (List.mem_cons_of_mem _ m)
def noOwn (cs : En) (vs : List Nat) : Bool := vs.all fun v => match cs[v]? with
  | some (.dat _) => true
  | some .no => true
  | _ => false
theorem noOwn_of {cs : En} {vs : List Nat} (h : noOwn cs vs = true) {v : Nat} (hv : v ∈ vs) : (∀ d, cs[v]? ≠ some (.own d)) ∧ ∀ d, cs[v]? ≠ some (.io d) := by
  have q := List.all_eq_true.mp h v hv
  constructor
  · intro d e
    rw [e] at q
    cases q
  · intro d e
    rw [e] at q
    cases q
theorem wipe_get (τ : St) (j : Nat) : ∀ vs : List Nat, j ∈ vs → (wipe τ vs)[j]? = if j < τ.length then some none else none
  | [], h => absurd h List.not_mem_nil
  | v :: vs, h => by
    unfold wipe
    by_cases e : v = j
    · subst e
      rw [List.getElem?_set]
      simp only [if_true, wipe_length]
    · rw [List.getElem?_set_ne e]
      rcases List.mem_cons.mp h with z | z
      · exact absurd z.symm e
      · exact wipe_get τ j vs z
theorem wipe_agr {τ σ : St} {tg vs : List Nat} (a : Agr tg (wipe σ vs) τ) (h : ∀ j ∈ tg, j ∈ vs) : wipe τ vs = wipe σ vs := by
  refine List.ext_getElem? fun j => ?_
  by_cases hj : j ∈ vs
  · rw [wipe_get τ j vs hj, wipe_get σ j vs hj, a.1, wipe_length]
  · rw [wipe_out hj, wipe_out hj, a.2 j fun z => hj (h j z), wipe_out hj]
section
variable {K : PySem.W.Frag} {B : Hp} {IO : List (Nat × Addr)} {Z Y : Addr → Prop} {σ : St} {H H' : Hp} {cs c1 c2 : En} {vs : List Nat}
theorem owns_wipe (hn : noOwn cs vs = true) (i : Nat) (a : Addr) : OwnS (wipe σ vs) (clr cs vs) i a ↔ OwnS σ cs i a := by
  constructor
  · rintro ⟨q1, d, q2⟩
    obtain ⟨q3, hi⟩ := wipe_some q1
    rw [clr_out hi] at q2
    exact ⟨q3, d, q2⟩
  · rintro ⟨q1, d, q2⟩
    have hi : i ∉ vs := fun hv => by
      rcases q2 with q2 | q2
      · exact (noOwn_of hn hv).1 d q2
      · exact (noOwn_of hn hv).2 d q2
    exact ⟨by rw [wipe_out hi]; exact q1, d, by rw [clr_out hi]; exact q2⟩
theorem md_wipe (hn : noOwn cs vs = true) : Md (wipe σ vs) (clr cs vs) Z = Md σ cs Z := by
  funext b
  unfold Md
  exact propext ⟨fun h => h.imp id fun ⟨j, q⟩ => ⟨j, (owns_wipe hn j b).mp q⟩, fun h => h.imp id fun ⟨j, q⟩ => ⟨j, (owns_wipe hn j b).mpr q⟩⟩
theorem Ok.wipe (ok : Ok K B IO Z σ H cs) (hn : noOwn cs vs = true) : Ok K B IO Z (L2.wipe σ vs) H (clr cs vs) := by
  have ow := @owns_wipe σ cs vs hn
  refine ⟨by rw [wipe_length, clr_len]; exact ok.len, fun i d e => ?_, fun i d e => ?_, fun i j a q r => ok.inj i j a ((ow i a).mp q) ((ow j a).mp r), fun i a q => ok.dis i a ((ow i a).mp q), ok.xin, fun i a d q r => ?_, fun i d e => ?_, fun i a q => ?_, ok.base, ok.dom⟩
  · rw [md_wipe hn]
    rcases clr_get e with ⟨n, q⟩ | ⟨_, q⟩
    · obtain ⟨v, h1, h2⟩ := ok.dat i d q
      exact ⟨v, by rw [wipe_out n]; exact h1, h2⟩
    · cases q
  · rw [md_wipe hn]
    have : i ∉ vs ∧ (cs[i]? = some (.own d) ∨ cs[i]? = some (.io d)) := by
      rcases e with e | e
      · rcases clr_get e with ⟨n, q⟩ | ⟨_, q⟩
        · exact ⟨n, .inl q⟩
        · cases q
      · rcases clr_get e with ⟨n, q⟩ | ⟨_, q⟩
        · exact ⟨n, .inr q⟩
        · cases q
    obtain ⟨a, h1, h2⟩ := ok.own i d this.2
    exact ⟨a, by rw [wipe_out this.1]; exact h1, h2⟩
  · obtain ⟨q1, hi⟩ := wipe_some q
    rw [clr_out hi] at r
    exact ok.new i a d q1 r
  · rcases clr_get e with ⟨n, q⟩ | ⟨_, q⟩
    · obtain ⟨a, h1, h2⟩ := ok.io i d q
      exact ⟨a, h1, by rw [wipe_out n]; exact h2⟩
    · cases q
  · obtain ⟨d, h1, h2⟩ := ok.ios i a q
    have hi : i ∉ vs := fun hv => (noOwn_of hn hv).2 d h1
    exact ⟨d, by rw [clr_out hi]; exact h1, by rw [wipe_out hi]; exact h2⟩
theorem rst_case {j : Nat} {c : Cell} (hn : noOwn c1 vs = true) (h : (rst c2 c1 vs)[j]? = some c) : (j ∉ vs ∧ c2[j]? = some c) ∨ (j ∈ vs ∧ (c = .no ∨ ∃ d, c = .dat d ∧ c1[j]? = some (.dat d))) := by
  rcases rst_get h with z | ⟨m, z⟩
  · exact .inl z
  · refine .inr ⟨m, ?_⟩
    have q := List.all_eq_true.mp hn j m
    rw [List.getD_eq_getElem?_getD] at z
    cases e : c1[j]? with
    | none => rw [e] at z; exact .inl z
    | some cc =>
      rw [e, Option.getD_some] at z
      rw [e] at q
      cases cc with
      | no => exact .inl z
      | dat d => exact .inr ⟨d, z, rfl⟩
      | own d => cases q
      | io d => cases q
theorem owns_rst (hn : noOwn c1 vs = true) (j : Nat) (a : Addr) : OwnS σ (rst c2 c1 vs) j a ↔ OwnS (wipe σ vs) c2 j a := by
  constructor
  · rintro ⟨q1, d, q2⟩
    rcases q2 with q2 | q2
    · rcases rst_case hn q2 with ⟨n, z⟩ | ⟨_, z | ⟨d', z, _⟩⟩
      · exact ⟨by rw [wipe_out n]; exact q1, d, .inl z⟩
      · cases z
      · cases z
    · rcases rst_case hn q2 with ⟨n, z⟩ | ⟨_, z | ⟨d', z, _⟩⟩
      · exact ⟨by rw [wipe_out n]; exact q1, d, .inr z⟩
      · cases z
      · cases z
  · rintro ⟨q1, d, q2⟩
    obtain ⟨q3, hj⟩ := wipe_some q1
    exact ⟨q3, d, by rw [rst_out hj]; exact q2⟩
theorem md_rst (hn : noOwn c1 vs = true) : Md σ (rst c2 c1 vs) Y = Md (wipe σ vs) c2 Y := by
  funext b
  unfold Md
  exact propext ⟨fun h => h.imp id fun ⟨j, q⟩ => ⟨j, (owns_rst hn j b).mp q⟩, fun h => h.imp id fun ⟨j, q⟩ => ⟨j, (owns_rst hn j b).mpr q⟩⟩
theorem Ok.restore (ok' : Ok K B IO Y (L2.wipe σ vs) H' c2) (hn : noOwn c1 vs = true) (h1 : ∀ (j : Nat) d, c1[j]? = some (.dat d) → ∃ v, σ[j]? = some (some v) ∧ Rp K (cut H' (Md (L2.wipe σ vs) c2 Y)) v d) : Ok K B IO Y σ H' (rst c2 c1 vs) := by
  have ow := @owns_rst σ c1 c2 vs hn
  refine ⟨by rw [rst_len, ← ok'.len, wipe_length], fun i d e => ?_, fun i d e => ?_, fun i j a q r => ok'.inj i j a ((ow i a).mp q) ((ow j a).mp r), fun i a q => ok'.dis i a ((ow i a).mp q), ok'.xin, fun i a d q r => ?_, fun i d e => ?_, fun i a q => ?_, ok'.base, ok'.dom⟩
  · rw [md_rst hn]
    rcases rst_case hn e with ⟨n, z⟩ | ⟨_, z | ⟨d', z, z'⟩⟩
    · obtain ⟨v, h1, h2⟩ := ok'.dat i d z
      exact ⟨v, by rw [wipe_out n] at h1; exact h1, h2⟩
    · cases z
    · cases z
      exact h1 i d z'
  · rw [md_rst hn]
    have : i ∉ vs ∧ (c2[i]? = some (.own d) ∨ c2[i]? = some (.io d)) := by
      rcases e with e | e
      · rcases rst_case hn e with ⟨n, z⟩ | ⟨_, z | ⟨d', z, _⟩⟩
        · exact ⟨n, .inl z⟩
        · cases z
        · cases z
      · rcases rst_case hn e with ⟨n, z⟩ | ⟨_, z | ⟨d', z, _⟩⟩
        · exact ⟨n, .inr z⟩
        · cases z
        · cases z
    obtain ⟨a, h1, h2⟩ := ok'.own i d this.2
    exact ⟨a, by rw [wipe_out this.1] at h1; exact h1, h2⟩
  · obtain ⟨q1, d2, q2⟩ := (ow i a).mp ⟨q, d, .inl r⟩
    rcases rst_case hn r with ⟨n, z⟩ | ⟨_, z | ⟨d', z, _⟩⟩
    · exact ok'.new i a d q1 z
    · cases z
    · cases z
  · rcases rst_case hn e with ⟨n, z⟩ | ⟨_, z | ⟨d', z, _⟩⟩
    · obtain ⟨a, h1, h2⟩ := ok'.io i d z
      exact ⟨a, h1, by rw [wipe_out n] at h2; exact h2⟩
    · cases z
    · cases z
  · obtain ⟨d, h1, h2⟩ := ok'.ios i a q
    obtain ⟨q3, hj⟩ := wipe_some h2
    exact ⟨d, by rw [rst_out hj]; exact h1, q3⟩
/-- an object of X is written -/
theorem cut_updX {M : Addr → Prop} {p : Addr} {o : HO} (m : M p) : cut (upd H p o) M = cut H M := by
  funext b
  by_cases mb : M b
  · rw [cut_in mb, cut_in mb]
  · rw [cut_of mb, cut_of mb, upd_ne (fun z => mb (by rw [z]; exact m))]
theorem Ok.updX {p : Addr} {o : HO} (ok : Ok K B IO Z σ H cs) (hx : Z p) (hB : B p = none) : Ok K B IO Z σ (upd H p o) cs := by
  have m : Md σ cs Z p := .inl hx
  have dm : ∀ b, H b ≠ none → upd H p o b ≠ none := fun b h => by
    by_cases e : b = p
    · rw [e, upd_same]; exact fun z => nomatch z
    · rw [upd_ne e]; exact h
  refine ⟨ok.len, fun i d e => ?_, fun i d e => ?_, ok.inj, ok.dis, fun a h => dm a (ok.xin a h), ok.new, ok.io, ok.ios, fun a u h e => ?_, fun a h => dm a (ok.dom a h)⟩
  · rw [cut_updX m]
    exact ok.dat i d e
  · rw [cut_updX m]
    obtain ⟨a, h1, h2⟩ := ok.own i d e
    have ne : a ≠ p := fun z => ok.dis i a ⟨h1, d, e⟩ (by rw [z]; exact hx)
    exact ⟨a, h1, by rw [upd_ne ne]; exact h2⟩
  · have ne : a ≠ p := fun z => by rw [z, hB] at e; cases e
    rw [upd_ne ne]
    exact ok.base a u h e
/-- a new object is kept apart -/
theorem Ok.newX {p : Addr} {o : HO} (ok : Ok K B IO Z σ H cs) (hp : H p = none) : Ok K B IO (XP Z p) σ (upd H p o) cs ∧ Le (cut H (Md σ cs Z)) (cut (upd H p o) (Md σ cs (XP Z p))) := by
  have ne : ∀ b, H b ≠ none → b ≠ p := fun b hb z => hb (by rw [z]; exact hp)
  have hle : Le (cut H (Md σ cs Z)) (cut (upd H p o) (Md σ cs (XP Z p))) := le_cut fun b u q m => by
    have nb := ne b (by rw [q]; exact fun z => nomatch z)
    refine ⟨by rw [upd_ne nb]; exact q, fun z => ?_⟩
    rcases z with (z | z) | z
    · exact m (.inl z)
    · exact nb z
    · exact m (.inr z)
  refine ⟨⟨ok.len, fun i d e => ?_, fun i d e => ?_, ok.inj, fun i a q z => ?_, fun a z => ?_, ok.new, ok.io, ok.ios, fun a u h e => Ex.new hp a u (ok.base a u h e), fun a h => (Ex.new hp).dom (ok.dom a h)⟩, hle⟩
  · obtain ⟨v, h1, h2⟩ := ok.dat i d e
    exact ⟨v, h1, h2.mono hle⟩
  · obtain ⟨a, h1, h2⟩ := ok.own i d e
    exact ⟨a, h1, by rw [upd_ne (ne a h2.some)]; exact h2.mono hle⟩
  · rcases z with z | z
    · exact ok.dis i a q z
    · exact ne a (ok.md a (.inr ⟨i, q⟩)) z
  · rcases z with z | z
    · exact (Ex.new hp).dom (ok.xin a z)
    · rw [z, upd_same]; exact fun z => nomatch z
end
section
variable {X : Cx} {K : PySem.W.Frag} {tg elt iter : Expr} {wi : TI} {fi : IX} {g : TG} {tgs vs : List Nat} {fg : GX} {tt : TT} {ft : TX} {te : TE} {fe : EX}
def loopC (fg : GX) (ft : TX) (fe : EX) (vs : List Nat) : List D → List D → En → Option (List D × En)
  | [], acc, cs => some (acc, cs)
  | x :: r, acc, cs => (fg x cs).bind fun c => (ft c).bind fun b => if b.1 = true then (fe b.2).bind fun z => if (noOwn z.2.2 vs && decide (acc.length < LIM)) = true then loopC fg ft fe vs r (acc ++ [z.1]) (clr z.2.2 vs) else none
    else if noOwn b.2 vs = true then loopC fg ft fe vs r acc (clr b.2 vs) else none
def evLc (vs : List Nat) (fi : IX) (fg : GX) (ft : TX) (fe : EX) : EX := fun cs => (fi cs).bind fun r => if noOwn r.2 vs = true then (loopC fg ft fe vs r.1 [] (clr r.2 vs)).bind fun z => some (.list z.1, true, rst z.2 r.2 vs) else none
theorem se_lc (hi : SI K wi fi) (hg : SG K g tgs fg) (ht : STt K tt ft) (he : SE K te fe) (hv : ∀ j ∈ tgs, j ∈ vs) : SE K (tLc wi g tt te vs) (evLc vs fi fg ft fe) := by
  intro B IO Z σ H cs ok d fr cs' e Q q
  unfold evLc at e
  obtain ⟨⟨items, c1⟩, e1, e⟩ := Option.bind_eq_some_iff.mp e
  dsimp only at e
  split at e
  · rename_i hn
    obtain ⟨⟨ds, c2⟩, e2, e⟩ := Option.bind_eq_some_iff.mp e
    cases e
    refine hi ok e1 _ fun J H1 p1 jok Dl hD => ?_
    have hB : B Dl = none := by
      cases z : B Dl with
      | none => rfl
      | some o => exact absurd hD (p1.ok.dom Dl (by rw [z]; exact fun z => nomatch z))
    have np : ¬ Z Dl := fun z => p1.ok.xin Dl z hD
    obtain ⟨ok1, le1⟩ := (p1.ok.wipe hn).newX (o := .lst []) hD
    rw [md_wipe hn] at le1
    have dom1 : ∀ a, H1 a ≠ none → upd H1 Dl (.lst []) a ≠ none := fun a h => (Ex.new hD).dom h
    refine ⟨fun i m H' => m = items.length - i ∧ i ≤ items.length ∧ ∃ (c : En) (acc : List D) (vals : List V), Ok K B IO (XP Z Dl) (L2.wipe σ vs) H' c ∧ Le (cut H1 (Md σ c1 Z)) (cut H' (Md (L2.wipe σ vs) c (XP Z Dl))) ∧ (∀ a, Z a → H' a = H1 a) ∧ (∀ a, H1 a ≠ none → H' a ≠ none) ∧
      H' Dl = some (.lst vals) ∧ Paired (Rp K (cut H' (Md (L2.wipe σ vs) c (XP Z Dl)))) vals acc ∧ loopC fg ft fe vs (items.drop i) acc c = some (ds, c2),
      ⟨_, rfl, Nat.zero_le _, clr c1 vs, [], [], ok1, le1, fun a h => upd_ne (fun z => np (by rw [← z]; exact h)), dom1, upd_same, .nil, by rw [List.drop_zero]; exact e2⟩, ?_⟩
    rintro i m H' ⟨rfl, hil, c, acc, vals, ok', le', keep', dom', hD', pa, el⟩
    obtain ⟨js, jg⟩ := jok H' _ ok'.md le' i
    by_cases hlt : i < items.length
    · have hd : items[i]? = some items[i] := List.getElem?_eq_getElem hlt
      obtain ⟨go, yl⟩ := jg _ hd
      rw [List.drop_eq_getElem_cons hlt] at el
      unfold loopC at el
      obtain ⟨c3, e3, el⟩ := Option.bind_eq_some_iff.mp el
      obtain ⟨⟨b, c4⟩, e4, el⟩ := Option.bind_eq_some_iff.mp el
      dsimp only at el
      refine .inr ⟨go, fun H' => ∃ (c : En) (acc : List D) (vals : List V), Ok K B IO (XP Z Dl) (L2.wipe σ vs) H' c ∧ Le (cut H1 (Md σ c1 Z)) (cut H' (Md (L2.wipe σ vs) c (XP Z Dl))) ∧ (∀ a, Z a → H' a = H1 a) ∧ (∀ a, H1 a ≠ none → H' a ≠ none) ∧
        H' Dl = some (.lst vals) ∧ Paired (Rp K (cut H' (Md (L2.wipe σ vs) c (XP Z Dl)))) vals acc ∧ loopC fg ft fe vs (items.drop (i + 1)) acc c = some (ds, c2), fun H3 ⟨c, acc, vals, h⟩ => ⟨items.length - (i + 1), by omega, rfl, hlt, c, acc, vals, h⟩, fun x H2 hy => ?_⟩
      obtain ⟨ex, rx⟩ := yl x H2 hy
      have p2 := ok'.ext ex
      refine hg p2.ok rx e3 _ fun σ3 H3 p3 ag => ⟨wipe_agr ag hv, ?_⟩
      have hw := wipe_agr ag hv
      refine ht p3.ok e4 _ fun H4 p4 => ?_
      have p234 := (p2.trans p3).trans p4
      have hz : ∀ a, Z a → XP Z Dl a := fun a h => .inl h
      cases b with
      | false =>
        refine iteF ?_
        simp only [Bool.false_eq_true, if_false] at el
        split at el
        · rename_i hn4
          have ok5 := p4.ok.wipe hn4
          rw [hw] at ok5
          have em : Md (L2.wipe σ vs) (clr c4 vs) (XP Z Dl) = Md σ3 c4 (XP Z Dl) := by rw [← hw]; exact md_wipe hn4
          exact ⟨clr c4 vs, acc, vals, ok5, by rw [em]; exact le'.trans p234.le, fun a h => (p234.keep a (hz a h)).trans (keep' a h), fun a h => p234.dom a (dom' a h), (p234.keep Dl (.inr rfl)).trans hD', by rw [em]; exact Rp.monoA p234.le pa, el⟩
        · cases el
      | true =>
        refine iteT ?_
        simp only [if_true] at el
        obtain ⟨⟨z, fz, c5⟩, e5, el⟩ := Option.bind_eq_some_iff.mp el
        dsimp only at el
        split at el
        · rename_i hn5
          rw [Bool.and_eq_true, decide_eq_true_eq] at hn5
          refine he p4.ok e5 _ fun y H5 w => ?_
          have p5 := p234.trans w.post
          have ok5 := w.post.ok.wipe hn5.1
          rw [hw] at ok5
          have em : Md (L2.wipe σ vs) (clr c5 vs) (XP Z Dl) = Md σ3 c5 (XP Z Dl) := by rw [← hw]; exact md_wipe hn5.1
          have md : Md (L2.wipe σ vs) (clr c5 vs) (XP Z Dl) Dl := .inl (.inr rfl)
          refine ⟨vals, (p5.keep Dl (.inr rfl)).trans hD', by rw [Pd.len pa]; exact lim_lt hn5.2, clr c5 vs, acc ++ [z], vals ++ [y], ok5.updX (.inr rfl) hB, ?_, fun a h => ?_, fun a h => ?_, upd_same, ?_, el⟩
          · rw [cut_updX md, em]
            exact le'.trans p5.le
          · rw [upd_ne (fun z => np (by rw [← z]; exact h))]
            exact (p5.keep a (hz a h)).trans (keep' a h)
          · by_cases ea : a = Dl
            · rw [ea, upd_same]; exact fun z => nomatch z
            · rw [upd_ne ea]; exact p5.dom a (dom' a h)
          · rw [cut_updX md, em]
            exact Pd.append (Rp.monoA p5.le pa) (.cons w.rp .nil)
        · cases el
    · have hi' : i = items.length := by omega
      subst hi'
      rw [List.drop_length] at el
      cases el
      refine .inl ⟨js (rfl), q _ H' ?_⟩
      have dat1 : ∀ (j : Nat) d, c1[j]? = some (.dat d) → ∃ v, σ[j]? = some (some v) ∧ Rp K (cut H' (Md (L2.wipe σ vs) c2 (XP Z Dl))) v d := fun j d hj => by
        obtain ⟨v, h1, h2⟩ := p1.ok.dat j d hj
        exact ⟨v, h1, h2.mono le'⟩
      refine ⟨Dl, rfl, ?_, ⟨ok'.restore hn dat1, by rw [md_rst hn]; exact p1.le.trans le', fun a h => (keep' a h).trans (p1.keep a h), fun a h => dom' a (p1.dom a h), np⟩, by rw [md_rst hn, hD']; exact .lst pa⟩
      cases z : H Dl with
      | none => rfl
      | some o => exact absurd hD (p1.dom Dl (by rw [z]; exact fun z => nomatch z))
  · cases e
end
end Qp
end
section
set_option Elab.async false
set_option linter.all false
set_option maxRecDepth 100000
set_option maxHeartbeats 2000000
/-! Qj: comprehensions of the text; defs. -/
namespace Qp
open PySem PySem.Spec PyProof.Rows L2
section
variable {X : Cx} {tg elt iter : Expr} {ifs : List Expr} {scope : Scope} {own : List (Str × Nat)} {pos spos : Pos} {wi : TI} {fi : IX} {g : TG} {tgs : List Nat} {fg : GX} {tt : TT} {ft : TX} {te : TE} {fe : EX} {vs : List Nat}
structure DTs (X : Cx) (ifs : List Expr) (t : TT) (f : TX) : Prop where
  pts : PTs X ifs t
  st : STt X.K t f
def evYes : TX := fun cs => some (true, cs)
theorem dts_nil : DTs X [] tYes evYes := by
  refine ⟨pts_nil, ?_⟩
  intro B IO Z σ H cs ok b cs' e Q q
  cases e
  exact q H (Post.refl ok)
theorem dts_one {c : Expr} (h : DT X c tt ft) : DTs X [c] tt ft := ⟨pts_one h.pt, h.st⟩
/-- readings by the function alone -/
def teOf (K : PySem.W.Frag) (f : EX) : TE := fun σ H Q => ∃ (B : Hp) (IO : List (Nat × Addr)) (Z : Addr → Prop) (cs : En) (d : D) (fr : Bool) (cs' : En), Ok K B IO Z σ H cs ∧ f cs = some (d, fr, cs') ∧ ∀ v H', Pe K B IO Z σ H cs σ H' cs' fr v d → Q v H'
def ttOf (K : PySem.W.Frag) (f : TX) : TT := fun σ H Q => ∃ (B : Hp) (IO : List (Nat × Addr)) (Z : Addr → Prop) (cs : En) (b : Bool) (cs' : En), Ok K B IO Z σ H cs ∧ f cs = some (b, cs') ∧ ∀ H', Post K B IO Z σ H cs σ H' cs' → Q b H'
def tgOf (K : PySem.W.Frag) (tgs : List Nat) (f : GX) : TG := fun v σ H Q => ∃ (B : Hp) (IO : List (Nat × Addr)) (Z : Addr → Prop) (cs : En) (d : D) (cs' : En), Ok K B IO Z σ H cs ∧ Rp K (cut H (Md σ cs Z)) v d ∧ f d cs = some cs' ∧ ∀ σ' H', Post K B IO Z σ H cs σ' H' cs' → Agr tgs σ σ' → Q σ' H'
theorem DE.can {e : Expr} {t : TE} {f : EX} (h : DE X e t f) : PE X e (teOf X.K f) := ⟨fun pins s σ H Q I ⟨_, _, _, _, _, _, _, ok, e, q⟩ => h.pe.run pins s σ H Q I (h.se ok e Q q)⟩
theorem DTs.can (h : DTs X ifs tt ft) : PTs X ifs (ttOf X.K ft) := ⟨fun pins s σ H Q I ⟨_, _, _, _, _, _, ok, e, q⟩ => h.pts.run pins s σ H Q I (h.st ok e Q q)⟩
theorem DG.can (h : DG X tg g tgs fg) : PG X tg (tgOf X.K tgs fg) := ⟨fun pins s σ H v u Q I r ⟨_, _, _, _, _, _, ok, rp, e, q⟩ => h.pg.run pins s σ H v u Q I r (h.sg ok rp e Q q)⟩
theorem se_can {K : PySem.W.Frag} {f : EX} : SE K (teOf K f) f := fun ok _ _ _ e _ q => ⟨_, _, _, _, _, _, _, ok, e, q⟩
theorem st_can {K : PySem.W.Frag} {f : TX} : STt K (ttOf K f) f := fun ok _ _ e _ q => ⟨_, _, _, _, _, _, ok, e, q⟩
theorem sg_can {K : PySem.W.Frag} {f : GX} : SG K (tgOf K tgs f) tgs f := fun ok _ _ r _ e _ q => ⟨_, _, _, _, _, _, ok, r, e, q⟩
theorem de_lc (hc : X.calm = true) (hN : X.N.Nodup) (hi : DI X tg iter wi fi) (ok : BlkOk X.N X.env.scope scope own)
    (hg : ∀ (s : Shared) (H : Hp) (C : Addr) (cl : List (Str × Addr)) (fp : List Addr), ∃ g, DG (X.blk s H scope (compEnvC scope cl C X.env) fp) tg g tgs fg) (ht : ∀ (s : Shared) (H : Hp) (C : Addr) (cl : List (Str × Addr)) (fp : List Addr), ∃ tt, DTs (X.blk s H scope (compEnvC scope cl C X.env) fp) ifs tt ft)
    (he : ∀ (s : Shared) (H : Hp) (C : Addr) (cl : List (Str × Addr)) (fp : List Addr), ∃ te, DE (X.blk s H scope (compEnvC scope cl C X.env) fp) elt te fe) (hvs : own.map (·.2) = vs := by rfl) (hv : ∀ j ∈ tgs, j ∈ vs := by decide) (hs : ∀ x, foldedSetIterable iter X.env x = pure x := by intro _; rfl) :
    DE X (.ListComp elt [⟨tg, iter, ifs, 0⟩] scope pos) (tLc wi (tgOf X.K tgs fg) (ttOf X.K ft) (teOf X.K fe) (own.map (·.2))) (evLc vs fi fg ft fe) := by
  subst hvs
  exact ⟨pe_lc hc hN hi.pi ok (fun s H C cl fp => (hg s H C cl fp).elim fun _ q => q.can) (fun s H C cl fp => (ht s H C cl fp).elim fun _ q => q.can) (fun s H C cl fp => (he s H C cl fp).elim fun _ q => q.can) hs,
    se_lc hi.si sg_can st_can se_can hv⟩
theorem ds_lc {i : Nat} {y : Str} {py : Pos} (hc : X.calm = true) (hN : X.N.Nodup) (hy : X.N[i]? = some y) (hyl : X.env.scope.names.lookup y = some .local) (hsw : swapsWith (.ListComp elt [⟨tg, iter, ifs, 0⟩] scope pos) (some (.Name y py)) spos.line X.env = pure true)
    (hi : DI X tg iter wi fi) (ok : BlkOk X.N X.env.scope scope own)
    (hg : ∀ (s : Shared) (H : Hp) (C : Addr) (cl : List (Str × Addr)) (fp : List Addr), ∃ g, DG (X.blk s H scope (compEnvC scope cl C X.env) fp) tg g tgs fg) (ht : ∀ (s : Shared) (H : Hp) (C : Addr) (cl : List (Str × Addr)) (fp : List Addr), ∃ tt, DTs (X.blk s H scope (compEnvC scope cl C X.env) fp) ifs tt ft)
    (he : ∀ (s : Shared) (H : Hp) (C : Addr) (cl : List (Str × Addr)) (fp : List Addr), ∃ te, DE (X.blk s H scope (compEnvC scope cl C X.env) fp) elt te fe) (hvs : own.map (·.2) = vs := by rfl) (hv : ∀ j ∈ tgs, j ∈ vs := by decide) (hs : ∀ x, foldedSetIterable iter X.env x = pure x := by intro _; rfl) :
    DS X (.Assign [.Name y py] (.ListComp elt [⟨tg, iter, ifs, 0⟩] scope pos) spos) (tAsg (tLc wi (tgOf X.K tgs fg) (ttOf X.K ft) (teOf X.K fe) (own.map (·.2))) (gName i)) (sAsg i (evLc vs fi fg ft fe)) := by
  subst hvs
  exact ⟨ps_setLc hc hN hy hyl hsw hi.pi ok (fun s H C cl fp => (hg s H C cl fp).elim fun _ q => q.can) (fun s H C cl fp => (ht s H C cl fp).elim fun _ q => q.can) (fun s H C cl fp => (he s H C cl fp).elim fun _ q => q.can) hs,
    ss_asg (se_lc hi.si sg_can st_can se_can hv)⟩
end

/-! ### defs: the promise by a function on data -/
def spP (K : PySem.W.Frag) (n : Nat) (F : GA) : Sp := fun vs H Q _ => ∃ (M : Addr → Prop) (ds : List D) (z : D) (fr : Bool), (∀ a, M a → H a ≠ none) ∧ ds.length = n ∧ Paired (Rp K (cut H M)) vs ds ∧ F ds = some (z, fr) ∧ ∀ v H', Ex H H' → VOk K H H' M fr v z → Q v H'
/-- .. the first argument is changed -/
abbrev GI := D → List D → Option (D × Bool × D)
def spI (K : PySem.W.Frag) (n : Nat) (F : GI) : Sp := fun vs H Q _ => ∃ (M : Addr → Prop) (a : Addr) (us : List V) (d0 : D) (ds : List D) (z : D) (fr : Bool) (d' : D), vs = .ref a :: us ∧ (∀ b, M b → H b ≠ none) ∧ ds.length + 1 = n ∧ M a ∧ OwnAt K (cut H M) (H a) d0 ∧ Paired (Rp K (cut H M)) us ds ∧ F d0 ds = some (z, fr, d') ∧
  ∀ v H', (∀ b u, b ≠ a → H b = some u → H' b = some u) → OwnAt K (cut H' (fun b => M b ∨ (fr = true ∧ v = .ref b))) (H' a) d' → VOk K H H' M fr v z → Q v H'
def outP (r : Option Res) : Option (D × Bool) := match r with
  | some (.rt d fr _) => some (d, fr)
  | some (.nx _) => some (.none, false)
  | _ => none
def runP (n m : Nat) (body : SX) : GA := fun ds => if ds.length = n then outP (body (ds.map Cell.dat ++ List.replicate m .no)) else none
def io0 (c : En) : Option D := match (c[(0 : Nat)]? : Option Cell) with
  | some (.io d) => some d
  | _ => none
theorem io0_of {c : En} {d : D} (h : io0 c = some d) : c[(0 : Nat)]? = some (.io d) := by
  unfold io0 at h
  split at h
  · rename_i d' e
    cases h
    exact e
  · cases h
def outI (r : Option Res) : Option (D × Bool × D) := match r with
  | some (.rt d fr c) => (io0 c).bind fun d' => some (d, fr, d')
  | some (.nx c) => (io0 c).bind fun d' => some (.none, false, d')
  | _ => none
def runI (n m : Nat) (body : SX) : GI := fun d0 ds => if ds.length + 1 = n then outI (body (.io d0 :: (ds.map Cell.dat ++ List.replicate m .no))) else none
section
variable {P : Program} {w : World} {K : PySem.W.Frag} {mg : Str → Option Value} {base : Heap}
theorem Pe.vok {B : Hp} {IO : List (Nat × Addr)} {M : Addr → Prop} {σ σ' : L2.St} {H H' : Hp} {cs c : En} {fr : Bool} {v : V} {d : D} (h : Pe K B IO M σ H cs σ' H' c fr v d) : VOk K H H' M fr v d := by
  unfold Pe at h
  unfold VOk
  cases fr with
  | false => exact h.2.mono (le_cut fun a o e m => ⟨e, fun z => m (.inl z)⟩)
  | true =>
    obtain ⟨p, e, hp, q, o⟩ := h
    exact ⟨p, e, hp, o.mono (le_cut fun a o e m => ⟨e, fun z => m (.inl z)⟩)⟩
theorem get_dat {ds : List D} {m : Nat} {i : Nat} {d : D} (h : (ds.map Cell.dat ++ List.replicate m Cell.no)[i]? = some (.dat d)) : ds[i]? = some d := by
  by_cases hi : i < ds.length
  · rw [List.getElem?_append_left (by rw [List.length_map]; exact hi), List.getElem?_map] at h
    cases e : ds[i]? with
    | none => rw [e] at h; cases h
    | some x => rw [e] at h; cases h; rfl
  · rw [List.getElem?_append_right (by rw [List.length_map]; omega), List.getElem?_replicate] at h
    split at h <;> cases h
theorem get_own {ds : List D} {m : Nat} {i : Nat} {d : D} : (ds.map Cell.dat ++ List.replicate m Cell.no)[i]? ≠ some (.own d) ∧ (ds.map Cell.dat ++ List.replicate m Cell.no)[i]? ≠ some (.io d) := by
  by_cases hi : i < ds.length
  · rw [List.getElem?_append_left (by rw [List.length_map]; exact hi), List.getElem?_map]
    cases e : ds[i]? with
    | none => exact ⟨fun z => (by cases z), fun z => (by cases z)⟩
    | some x => exact ⟨fun z => (by cases z), fun z => (by cases z)⟩
  · rw [List.getElem?_append_right (by rw [List.length_map]; omega), List.getElem?_replicate]
    split <;> exact ⟨fun z => (by cases z), fun z => (by cases z)⟩
theorem get_start {vs : List V} {m : Nat} {i : Nat} {v : V} (h : vs[i]? = some v) : (vs.map some ++ List.replicate m none)[i]? = some (some v) := by
  have hi : i < vs.length := (List.getElem?_eq_some_iff.mp h).1
  rw [List.getElem?_append_left (by rw [List.length_map]; exact hi), List.getElem?_map, h]
  rfl
theorem fn_pure {x qual : Str} {st : Stmt} {f : Addr} {fd : FuncData} {N ps : List Str} {k n m : Nat} {g : SX} (F : Fun K x qual st f fd) (S : FnScope N ps (defScope st)) (hN : N.length = n + m) (hp : ps.length = n)
    (body : ∀ (cdv : Value) (A : Around) (outer : List Env) (s : Shared) (H : Hp) (E : XK), Room k (A.deeper (envOfC qual (defScope st) s.heap.objs.size f cdv)) → ∃ t, DB (cxOf CX0 P w K mg base N qual (defScope st) f cdv A outer s H E).nox (defBody st) t g) :
    FnOk P w K mg base CX0 (k + 1) f fd ps (spP K n (runP n m g)) := by
  refine F.ok S (fun vs H Q E h => ?_) (fun cdv A outer s H vs Q E hr h => ?_)
  · obtain ⟨M, ds, z, fr, _, hl, p, _⟩ := h
    rw [Pd.len p, hl, hp]
  · obtain ⟨M, ds, z, fr, hm, hl, p, e, q⟩ := h
    obtain ⟨t, d⟩ := body cdv A outer s H E hr
    refine ⟨t, d.pss, ?_⟩
    unfold runP at e
    rw [if_pos hl] at e
    have hs : L2.start N vs = vs.map some ++ List.replicate m none := by
      unfold L2.start
      rw [Pd.len p, hl, hN, Nat.add_sub_cancel_left]
    have hmd : ∀ a, ¬ Md (L2.start N vs) (ds.map Cell.dat ++ List.replicate m .no) M a ∨ M a := fun a => by
      by_cases ha : M a
      · exact .inr ha
      · refine .inl fun z => ?_
        rcases z with z | ⟨i, _, d', z | z⟩
        · exact ha z
        · exact get_own.1 z
        · exact get_own.2 z
    have ok : Ok K H [] M (L2.start N vs) H (ds.map Cell.dat ++ List.replicate m .no) := by
      refine ⟨?_, fun i d' h => ?_, fun i d' h => ?_, fun i j a h => ?_, fun i a h => ?_, hm, fun i a d' _ h => absurd h get_own.1, fun i d' h => absurd h get_own.2, fun i a h => (by cases h), fun a o _ h => h, fun a h => h⟩
      · rw [hs, List.length_append, List.length_append, List.length_map, List.length_map, List.length_replicate, List.length_replicate, Pd.len p]
      · obtain ⟨v, h1, h2⟩ := Pd.get p (get_dat h)
        refine ⟨v, by rw [hs]; exact get_start h1, h2.mono (le_cut fun a o e' n' => ⟨e', (hmd a).resolve_right n'⟩)⟩
      · rcases h with h | h
        · exact absurd h get_own.1
        · exact absurd h get_own.2
      · obtain ⟨_, d', h | h⟩ := h
        · exact absurd h get_own.1
        · exact absurd h get_own.2
      · obtain ⟨_, d', h | h⟩ := h
        · exact absurd h get_own.1
        · exact absurd h get_own.2
    have exf : ∀ {σ' H' c}, Post K H [] M (L2.start N vs) H (ds.map Cell.dat ++ List.replicate m .no) σ' H' c → Ex H H' := fun p a o e => p.ok.base a o (fun i h => (by cases h)) e
    cases er : g (ds.map Cell.dat ++ List.replicate m .no) with
    | none => rw [er] at e; cases e
    | some r =>
      rw [er] at e
      refine d.ss ok er _ ?_
      cases r with
      | nx c => cases e; exact fun σ' H' p' => q _ H' (exf p') (VOk.of .non)
      | rt d' fr' c => cases e; exact fun v σ' H' p' => q v H' (exf p'.post) p'.vok
      | bk c => cases e
      | ct c => cases e
theorem fn_none {f : Addr} {fd : FuncData} {ps : List Str} {n : Nat} (hp : ps.length = n) : FnOk P w K mg base CX0 0 f fd ps (spP K n fun _ => none) :=
  ⟨fun vs H Q E ⟨_, _, _, _, _, _, _, e, _⟩ => (by cases e), fun A outer s H args us vs Q E _ _ _ _ ⟨_, _, _, _, _, _, _, e, _⟩ => (by cases e)⟩
theorem fn_noneI {f : Addr} {fd : FuncData} {ps : List Str} {n : Nat} (hp : ps.length = n) : FnOk P w K mg base CX0 0 f fd ps (spI K n fun _ _ => none) :=
  ⟨fun vs H Q E ⟨_, _, _, _, _, _, _, _, _, _, _, _, _, _, e, _⟩ => (by cases e), fun A outer s H args us vs Q E _ _ _ _ ⟨_, _, _, _, _, _, _, _, _, _, _, _, _, _, e, _⟩ => (by cases e)⟩
theorem fn_inout {x qual : Str} {st : Stmt} {f : Addr} {fd : FuncData} {N ps : List Str} {k n m : Nat} {g : SX} (F : Fun K x qual st f fd) (S : FnScope N ps (defScope st)) (hN : N.length = n + m) (hp : ps.length = n)
    (body : ∀ (cdv : Value) (A : Around) (outer : List Env) (s : Shared) (H : Hp) (E : XK), Room k (A.deeper (envOfC qual (defScope st) s.heap.objs.size f cdv)) → ∃ t, DB (cxOf CX0 P w K mg base N qual (defScope st) f cdv A outer s H E).nox (defBody st) t g) :
    FnOk P w K mg base CX0 (k + 1) f fd ps (spI K n (runI n m g)) := by
  refine F.ok S (fun vs H Q E h => ?_) (fun cdv A outer s H vs Q E hr h => ?_)
  · obtain ⟨M, a, us, d0, ds, z, fr, d', rfl, _, hl, _, _, p, _⟩ := h
    rw [List.length_cons, Pd.len p, hl, hp]
  · obtain ⟨M, a, us, d0, ds, z, fr, d', rfl, hm, hl, ma, oa, p, e, q⟩ := h
    obtain ⟨t, d⟩ := body cdv A outer s H E hr
    refine ⟨t, d.pss, ?_⟩
    unfold runI at e
    rw [if_pos hl] at e
    have hs : L2.start N (.ref a :: us) = some (.ref a) :: (us.map some ++ List.replicate m none) := by
      unfold L2.start
      rw [List.length_cons, Pd.len p, hl, hN, Nat.add_sub_cancel_left]
      rfl
    have own0 : ∀ (i : Nat) (b : Addr), OwnS (L2.start N (.ref a :: us)) (.io d0 :: (ds.map Cell.dat ++ List.replicate m .no)) i b → i = 0 ∧ b = a := by
      intro i b ⟨h1, d'', h2⟩
      cases i with
      | zero =>
        rw [hs] at h1
        have : some (V.ref a) = some (V.ref b) := Option.some.inj h1
        cases this
        exact ⟨rfl, rfl⟩
      | succ i =>
        rcases h2 with h2 | h2
        · exact absurd (show (ds.map Cell.dat ++ List.replicate m Cell.no)[i]? = _ from h2) get_own.1
        · exact absurd (show (ds.map Cell.dat ++ List.replicate m Cell.no)[i]? = _ from h2) get_own.2
    have hmd : ∀ b, Md (L2.start N (.ref a :: us)) (.io d0 :: (ds.map Cell.dat ++ List.replicate m .no)) (fun b => M b ∧ b ≠ a) b ↔ M b := fun b => by
      constructor
      · rintro (h | ⟨i, h⟩)
        · exact h.1
        · rw [(own0 i b h).2]; exact ma
      · intro h
        by_cases hb : b = a
        · exact .inr ⟨0, by rw [hs, hb]; rfl, d0, .inr rfl⟩
        · exact .inl ⟨h, hb⟩
    have emd : Md (L2.start N (.ref a :: us)) (.io d0 :: (ds.map Cell.dat ++ List.replicate m .no)) (fun b => M b ∧ b ≠ a) = M := funext fun b => propext (hmd b)
    have ok : Ok K H [(0, a)] (fun b => M b ∧ b ≠ a) (L2.start N (.ref a :: us)) H (.io d0 :: (ds.map Cell.dat ++ List.replicate m .no)) := by
      refine ⟨?_, fun i d' h => ?_, fun i d' h => ?_, fun i j b h h' => (own0 i b h).1.trans (own0 j b h').1.symm, fun i b h z => z.2 (own0 i b h).2, fun b h => hm b h.1, fun i b d' _ h => ?_, fun i d' h => ?_, fun i b h => ?_, fun b o _ h => h, fun b h => h⟩
      · rw [hs, List.length_cons, List.length_cons, List.length_append, List.length_append, List.length_map, List.length_map, List.length_replicate, List.length_replicate, Pd.len p]
      · rw [emd]
        cases i with
        | zero => cases h
        | succ i =>
          obtain ⟨v, h1, h2⟩ := Pd.get p (get_dat (show (ds.map Cell.dat ++ List.replicate m Cell.no)[i]? = _ from h))
          exact ⟨v, by rw [hs]; exact get_start h1, h2⟩
      · rw [emd]
        cases i with
        | zero =>
          rcases h with h | h
          · cases h
          · cases h
            exact ⟨a, by rw [hs]; rfl, oa⟩
        | succ i =>
          rcases h with h | h
          · exact absurd (show (ds.map Cell.dat ++ List.replicate m Cell.no)[i]? = _ from h) get_own.1
          · exact absurd (show (ds.map Cell.dat ++ List.replicate m Cell.no)[i]? = _ from h) get_own.2
      · cases i with
        | zero => cases h
        | succ i => exact absurd (show (ds.map Cell.dat ++ List.replicate m Cell.no)[i]? = _ from h) get_own.1
      · cases i with
        | zero => exact ⟨a, List.mem_singleton.mpr rfl, by rw [hs]; rfl⟩
        | succ i => exact absurd (show (ds.map Cell.dat ++ List.replicate m Cell.no)[i]? = _ from h) get_own.2
      · have e' := List.mem_singleton.mp h
        cases e'
        exact ⟨d0, rfl, by rw [hs]; rfl⟩
    have exf : ∀ {Y σ' H' c}, Ok K H [(0, a)] Y σ' H' c → ∀ b u, b ≠ a → H b = some u → H' b = some u := fun o b u hb e => o.base b u (fun i h => hb (by cases List.mem_singleton.mp h; rfl)) e
    have ioa : ∀ {Y σ' H' c d'}, Ok K H [(0, a)] Y σ' H' c → c[(0 : Nat)]? = some (.io d') → OwnAt K (cut H' (Md σ' c Y)) (H' a) d' := fun {Y σ' H' c d'} o h => by
      obtain ⟨b, h1, h2⟩ := o.own 0 d' (.inr h)
      obtain ⟨d'', _, h3⟩ := o.ios 0 a (List.mem_singleton.mpr rfl)
      rw [h1] at h3
      cases h3
      exact h2
    have mle : ∀ {σ' c} {Y : Addr → Prop} {b}, (∀ x, (M x ∧ x ≠ a) → Y x) → OwnS σ' c 0 a → M b → Md σ' c Y b := fun {σ' c Y b} hY h0 hb => by
      by_cases e : b = a
      · rw [e]; exact .inr ⟨0, h0⟩
      · exact .inl (hY b ⟨hb, e⟩)
    cases er : g (.io d0 :: (ds.map Cell.dat ++ List.replicate m .no)) with
    | none => rw [er] at e; cases e
    | some r =>
      rw [er] at e
      refine d.ss ok er _ ?_
      cases r with
      | nx c =>
        obtain ⟨d2, hc, e⟩ := Option.bind_eq_some_iff.mp (show (io0 c).bind _ = _ from e)
        have hc := io0_of hc
        cases e
        intro σ' H' p'
        have io0 := ioa p'.ok hc
        obtain ⟨d3, _, h3⟩ := p'.ok.ios 0 a (List.mem_singleton.mpr rfl)
        refine q _ H' (exf p'.ok) (io0.mono (le_cut fun b u e' n' => ⟨e', fun z => ?_⟩)) (VOk.of .non)
        rcases z with z | z
        · exact n' (mle (fun x h => h) ⟨h3, _, .inr hc⟩ z)
        · cases z.1
      | rt d2 fr2 c =>
        obtain ⟨d3, hc, e⟩ := Option.bind_eq_some_iff.mp (show (io0 c).bind _ = _ from e)
        have hc := io0_of hc
        cases e
        intro v σ' H' p'
        obtain ⟨d4, _, h3⟩ := p'.post.ok.ios 0 a (List.mem_singleton.mpr rfl)
        have h0 : OwnS σ' c 0 a := ⟨h3, _, .inr hc⟩
        unfold Pe at p'
        cases fr with
        | false =>
          obtain ⟨p1, r1⟩ := p'
          refine q v H' (exf p1.ok) ((ioa p1.ok hc).mono (le_cut fun b u e' n' => ⟨e', fun z => ?_⟩)) (VOk.of (r1.mono (le_cut fun b u e' n' => ⟨e', fun z => n' (mle (fun x h => h) h0 z)⟩)))
          rcases z with z | z
          · exact n' (mle (fun x h => h) h0 z)
          · cases z.1
        | true =>
          obtain ⟨p2, rfl, hp2, p1, o1⟩ := p'
          refine q _ H' (exf p1.ok) ((ioa p1.ok hc).mono (le_cut fun b u e' n' => ⟨e', fun z => ?_⟩)) ⟨p2, rfl, hp2, o1.mono (le_cut fun b u e' n' => ⟨e', fun z => ?_⟩)⟩
          · rcases z with z | ⟨_, z⟩
            · exact n' (mle (fun x h => .inl h) h0 z)
            · cases z
              exact n' (.inl (.inr rfl))
          · rcases z with z | z
            · exact n' (mle (fun x h => .inl h) h0 z)
            · exact n' (.inl (.inr z))
      | bk c => cases e
      | ct c => cases e
end
/-! ### calls of defs -/
section
variable {X : Cx} {e : Expr} {es : List Expr} {ts : TA} {fs : AX} {x : Str} {f : Addr} {fd : FuncData} {ps : List Str} {k n : Nat} {p pos : Pos} {F : GA} {G : GI}
def gN (n : Nat) (F : GA) : GA := fun ds => if ds.length = n then F ds else none
theorem sc_fn {K : PySem.W.Frag} : SRC K (fun vs H Q => spP K n F (vs ++ []) H Q E0) (gN n F) := by
  intro H M hm xs ds r z fr e Q q
  unfold gN at e
  split at e
  · rename_i hl
    exact ⟨M, ds, z, fr, hm, hl, by rw [List.append_nil]; exact r, e, q⟩
  · cases e
theorem de_call (hF : FnOk X.prog X.w X.K X.mg X.base CX0 k f fd ps (spP X.K n F)) (hr : Room k X.A) (hg : Gl X x) (hm : X.mg x = some (.ref f)) (hk : PySem.W.keepIn X.K (.ref f) = true) (hb : Binds X.K fd ps []) (ha : DA X (e :: es) ts fs)
    (hdb : (x == ("__debug__" : Str)) = false := by decide) (he : starEach (e :: es) X.env = (false, eval e X.env) :: starEach es X.env := by rfl) (hpl : (backTo pos (starEach es X.env)).any (·.1) = false := by rfl) :
    DE X (.Call (.Name x p) (e :: es) [] pos) (tCall (spP X.K n F) [] E0 ts) (evA (gN n F) fs) := ⟨pe_call hF hr hg hm hk hb .nil pass0 ha.pa hdb he hpl, se_A ha.sa sc_fn⟩
theorem de_call0 (hF : FnOk X.prog X.w X.K X.mg X.base CX0 k f fd ps (spP X.K n F)) (hr : Room k X.A) (hg : Gl X x) (hm : X.mg x = some (.ref f)) (hk : PySem.W.keepIn X.K (.ref f) = true) (hb : Binds X.K fd ps [])
    (hdb : (x == ("__debug__" : Str)) = false := by decide) : DE X (.Call (.Name x p) [] [] pos) (tCall (spP X.K n F) [] E0 tNil) (evA (gN n F) evNil) := ⟨pe_call0 hF hr hg hm hk hb .nil pass0 hdb, se_A da_nil.sa sc_fn⟩
def isOwn (cs : En) (i : Nat) : Bool := match cs[i]? with
  | some (.own _) => true
  | some (.io _) => true
  | _ => false
theorem Ok.isOwn {K : PySem.W.Frag} {B : Hp} {IO : List (Nat × Addr)} {Z : Addr → Prop} {σ : L2.St} {H : Hp} {cs : En} {i : Nat} (ok : Ok K B IO Z σ H cs) (h : isOwn cs i = true) : ∃ a, σ[i]? = some (some (.ref a)) := by
  unfold Qp.isOwn at h
  split at h
  · rename_i d hd
    obtain ⟨a, h1, _⟩ := ok.own i d (.inl hd)
    exact ⟨a, h1⟩
  · rename_i d hd
    obtain ⟨a, h1, _⟩ := ok.own i d (.inr hd)
    exact ⟨a, h1⟩
  · cases h
def setOwn (cs : En) (i : Nat) (d : D) : Option En := match cs[i]? with
  | some (.own _) => some (cs.set i (.own d))
  | some (.io _) => some (cs.set i (.io d))
  | _ => none
def evCI (n : Nat) (G : GI) (i : Nat) (fs : AX) : EX := fun cs => if isOwn cs i = true then (fs cs).bind fun r => if r.1.length + 1 = n then (cont r.2 i).bind fun d => (G d r.1).bind fun z => (setOwn r.2 i z.2.2).bind fun c => some (z.1, false, c) else none else none
theorem se_CI {K : PySem.W.Frag} {i : Nat} (ha : SA K ts fs) : SE K (tCall (spI K n G) [] E0 (tCons (tVar i) ts)) (evCI n G i fs) := by
  intro B IO Z σ H cs ok d fr cs' e Q q
  unfold evCI at e
  split at e
  · rename_i ho
    obtain ⟨⟨ds, c1⟩, e1, e⟩ := Option.bind_eq_some_iff.mp e
    dsimp only at e
    split at e
    · rename_i hl
      obtain ⟨d0, e2, e⟩ := Option.bind_eq_some_iff.mp e
      obtain ⟨⟨z, fz, d'⟩, e3, e⟩ := Option.bind_eq_some_iff.mp e
      obtain ⟨c2, e4, e⟩ := Option.bind_eq_some_iff.mp e
      cases e
      obtain ⟨a, hs⟩ := ok.isOwn ho
      refine ⟨_, hs, ha ok e1 _ fun vs H1 p1 r1 => ?_⟩
      have hc : (c1[i]? = some (.own d0) ∧ cs' = c1.set i (.own d')) ∨ (c1[i]? = some (.io d0) ∧ cs' = c1.set i (.io d')) := by
        unfold setOwn at e4
        unfold cont at e2
        dsimp only at e2 e4
        split at e4
        · rename_i dd hd
          rw [hd] at e2
          cases e2
          cases e4
          exact .inl ⟨hd, rfl⟩
        · rename_i dd hd
          rw [hd] at e2
          cases e2
          cases e4
          exact .inr ⟨hd, rfl⟩
        · cases e4
      have hc0 : c1[i]? = some (.own d0) ∨ c1[i]? = some (.io d0) := hc.imp (·.1) (·.1)
      obtain ⟨a', h1, oa⟩ := p1.ok.own i d0 hc0
      rw [hs] at h1
      cases h1
      have ma : Md σ c1 Z a := .inr ⟨i, hs, d0, hc0⟩
      refine ⟨Md σ c1 Z, a, vs, d0, ds, z, fz, d', by rw [List.append_nil], p1.ok.md, hl, ma, oa, r1, e3, fun v H2 kept oa' vo => ?_⟩
      refine q v H2 (Pe.pre p1 ?_)
      have oa2 : OwnAt K (cut H2 (Md σ c1 Z)) (H2 a) d' := oa'.mono (le_cut fun b u e n' => ⟨e, fun z => n' (.inl z)⟩)
      have po : Post K B IO Z σ H1 c1 σ H2 cs' := by
        have po := p1.ok.mutate hs hc0 kept oa2.some oa2
        rcases hc with ⟨h, h'⟩ | ⟨h, h'⟩
        · rw [h] at po; rw [h']; exact po
        · rw [h] at po; rw [h']; exact po
      refine .dat po ?_
      have vo' : Rp K (cut H2 (Md σ c1 Z)) v z := by
        unfold VOk at vo
        cases fz with
        | false => exact vo
        | true =>
          obtain ⟨p2, rfl, hp2, o2⟩ := vo
          exact o2.rp (cut_of fun m => p1.ok.md p2 m hp2) (le_cut fun b u e n' => ⟨e, fun z => n' (.inl z)⟩)
      have sub : ∀ b, Md σ cs' Z b → Md σ c1 Z b := fun b hb => by
        rcases hb with hb | ⟨j, h1, d'', h2⟩
        · exact .inl hb
        · by_cases ej : i = j
          · subst ej
            rw [hs] at h1
            cases h1
            exact ma
          · refine .inr ⟨j, h1, d'', ?_⟩
            rcases hc with ⟨_, h'⟩ | ⟨_, h'⟩
            · rw [h', List.getElem?_set_ne ej] at h2; exact h2
            · rw [h', List.getElem?_set_ne ej] at h2; exact h2
      exact vo'.mono (le_cut fun b u e n' => ⟨e, fun z => n' (sub b z)⟩)
    · cases e
  · cases e
theorem de_callI {i : Nat} {y : Str} {ypos : Pos} (hF : FnOk X.prog X.w X.K X.mg X.base CX0 k f fd ps (spI X.K n G)) (hr : Room k X.A) (hg : Gl X x) (hm : X.mg x = some (.ref f)) (hk : PySem.W.keepIn X.K (.ref f) = true) (hb : Binds X.K fd ps []) (hv : DE X (.Name y ypos) (tVar i) (evVar i)) (ha : DA X es ts fs)
    (hdb : (x == ("__debug__" : Str)) = false := by decide) (he : starEach (.Name y ypos :: es) X.env = (false, eval (.Name y ypos) X.env) :: starEach es X.env := by rfl) (hpl : (backTo pos (starEach es X.env)).any (·.1) = false := by rfl) :
    DE X (.Call (.Name x p) (.Name y ypos :: es) [] pos) (tCall (spI X.K n G) [] E0 (tCons (tVar i) ts)) (evCI n G i fs) := ⟨pe_call hF hr hg hm hk hb .nil pass0 (pa_cons hv.pe ha.pa he) hdb he hpl, se_CI ha.sa⟩
end
end Qp
end
section
set_option Elab.async false
set_option linter.all false
set_option maxRecDepth 100000
set_option maxHeartbeats 2000000
/-! Qk: the words that the printed terms use. -/
namespace Qp
open PySem PySem.Spec PyProof.Rows L2
section
variable {X : Cx} {K : PySem.W.Frag} {e a b : Expr} {es : List Expr} {te ta tb to : TE} {ts : TA} {fe fa fb fo : EX} {fs : AX} {pos fpos cpos xpos : Pos} {x : Str} {i : Nat}
def gSub : G2 := gII fun i j => .int (i - j)
def gMul : G2 := gIIc (fun i j => (decide (-(2 ^ 64) < i) && decide (i < 2 ^ 64)) || (decide (-(2 ^ 64) < j) && decide (j < 2 ^ 64))) fun i j => .int (i * j)
def gFdiv : G2 := gIIc (fun _ j => decide (0 < j) && decide (j < 1073741824)) fun i j => .int (i / j)
def gMod : G2 := gIIc (fun _ j => decide (0 < j)) fun i j => .int (i % j)
def gPow : G2 := gIIc (fun i j => decide (0 ≤ j) && (decide (j ≤ 1000000) && decide (i.natAbs < 2 ^ 64))) fun i j => .int (i ^ j.toNat)
def gLt : G2 := gII fun i j => .bool (decide (i < j))
def gLe : G2 := gII fun i j => .bool (decide (i ≤ j))
def gGt : G2 := gII fun i j => .bool (decide (j < i))
def gGe : G2 := gII fun i j => .bool (decide (j ≤ i))
theorem sr_sub : SR2 K (rI0 fun i j => .int (i - j)) gSub := sr_II (by intro _ _; rfl)
theorem sr_mul : SR2 K (rI CMul fun i j => .int (i * j)) gMul := sr_IIc (fun i j h => by
  rw [Bool.or_eq_true, Bool.and_eq_true, Bool.and_eq_true, decide_eq_true_eq, decide_eq_true_eq, decide_eq_true_eq, decide_eq_true_eq] at h
  exact h) (by intro _ _; rfl)
theorem sr_fdiv : SR2 K (rI CDiv fun i j => .int (i / j)) gFdiv := sr_IIc (fun i j h => by
  rw [Bool.and_eq_true, decide_eq_true_eq, decide_eq_true_eq] at h
  exact h) (by intro _ _; rfl)
theorem sr_mod : SR2 K (rI (fun _ j => 0 < j) fun i j => .int (i % j)) gMod := sr_IIc (fun i j h => of_decide_eq_true h) (by intro _ _; rfl)
theorem sr_pow : SR2 K (rI CPow fun i j => .int (i ^ j.toNat)) gPow := sr_IIc (fun i j h => by
  rw [Bool.and_eq_true, Bool.and_eq_true, decide_eq_true_eq, decide_eq_true_eq, decide_eq_true_eq] at h
  exact h) (by intro _ _; rfl)
theorem sr_lt : SR2 K (rI0 fun i j => .bl (decide (i < j))) gLt := sr_II (by intro _ _; rfl)
theorem sr_le : SR2 K (rI0 fun i j => .bl (decide (i ≤ j))) gLe := sr_II (by intro _ _; rfl)
theorem sr_gt : SR2 K (rI0 fun i j => .bl (decide (j < i))) gGt := sr_II (by intro _ _; rfl)
theorem sr_ge : SR2 K (rI0 fun i j => .bl (decide (j ≤ i))) gGe := sr_II (by intro _ _; rfl)
def gNeg : G1
  | .int i => some (.int (-i), false)
  | _ => none
theorem sr_neg : SR1 K (rU fun i => .int (-i)) gNeg := by
  intro H M hm x d rx z fr q Q k
  unfold gNeg at q
  split at q
  · cases q
    exact ⟨_, rx.int_eq, k _ H (Ex.refl H) (VOk.of (.int _))⟩
  · cases q
/-- in-place + on ints, for a[i] += e -/
def gAddI : G2 := gII fun i j => .int (i + j)
theorem sr_ipadd : SR2 K (ipI fun i j => i + j) gAddI := by
  intro H M hm x y d e rx ry z fr q Q k
  unfold gAddI gII at q
  split at q
  · cases q
    exact ⟨_, _, rx.int_eq, ry.int_eq, k _ H (Ex.refl H) (VOk.of (.int _))⟩
  · cases q
/-- sep.join(list or tuple of texts) -/
def strsOf : List D → Option (List Str)
  | [] => some []
  | .str s :: r => (strsOf r).bind fun t => some (s :: t)
  | _ => none
theorem strs_pd {F : Hp} : ∀ {vs : List V} {ds : List D} {ss : List Str}, Paired (Rp K F) vs ds → strsOf ds = some ss → vs = ss.map V.str
  | _, _, ss, .nil, h => by cases h; rfl
  | _, _, ss, .cons r t, h => by
    unfold strsOf at h
    split at h
    · rename_i hh; cases hh
    · rename_i s r' hh
      cases hh
      obtain ⟨t', h1, h⟩ := Option.bind_eq_some_iff.mp h
      cases h
      rw [r.str_eq, strs_pd t h1]
      rfl
    · cases h
def gJoin (s : Str) (d : D) : Option (D × Bool) := match d with
  | .list ds => (strsOf ds).bind fun ss => if (ss.map (·.length)).sum + ss.length * s.length ≤ LIM then some (.str (Txt.join s ss), false) else none
  | .tuple ds => (strsOf ds).bind fun ss => if (ss.map (·.length)).sum + ss.length * s.length ≤ LIM then some (.str (Txt.join s ss), false) else none
  | _ => none
theorem lim16 {n : Nat} (h : n ≤ LIM) : n ≤ 16777216 := Nat.le_trans h (by decide)
def rJoin (K : PySem.W.Frag) : V → List V → Hp → VK → Prop := fun x xs H Q => ∃ a p, ∃ ys : List Str, x = .str a ∧ xs = [.ref p] ∧ (SqL K H p (ys.map V.str) ∨ SqT K H p (ys.map V.str)) ∧
      (ys.map (·.length)).sum + ys.length * a.length ≤ 16777216 ∧ Q (.str (Txt.join a ys)) H
def evJoin (fo fe : EX) : EX := fun cs => (fo cs).bind fun s => match s.1 with
  | .str t => (fe s.2.2).bind fun r => (gJoin t r.1).bind fun z => some (z.1, z.2, r.2.2)
  | _ => none
theorem de_join {apos : Pos} (ho : DE X a to fo) (he : DE X e te fe) (hs : starEach [e] X.env = [(false, eval e X.env)] := by rfl) (hbase : attributeBase a "join" X.env (eval a X.env) = eval a X.env := by rfl) (hline : (apos.endLine == pos.line) = true := by rfl) :
    DE X (.Call (.Attribute a "join" apos) [e] [] pos) (tM1 (rJoin X.K) to te) (evJoin fo fe) := by
  refine ⟨pe_join ho.pe he.pe hs hbase hline, ?_⟩
  intro B IO Z σ H cs ok d fr cs' e Q q
  unfold evJoin at e
  obtain ⟨⟨d1, f1, c1⟩, e1, e⟩ := Option.bind_eq_some_iff.mp e
  dsimp only at e
  split at e
  · rename_i s
    obtain ⟨⟨d2, f2, c2⟩, e2, e⟩ := Option.bind_eq_some_iff.mp e
    obtain ⟨⟨z, fz⟩, e3, e⟩ := Option.bind_eq_some_iff.mp e
    cases e
    refine ho.se ok e1 _ fun x H1 w1 => ⟨⟨s, w1.rp.str_eq⟩, he.se w1.post.ok e2 _ fun y H2 w2 => ?_⟩
    have p := w1.post.trans w2.post
    unfold gJoin at e3
    dsimp only at e3
    split at e3
    · obtain ⟨ss, h1, e3⟩ := Option.bind_eq_some_iff.mp e3
      split at e3
      · rename_i hl
        cases e3
        obtain ⟨a', xs, rfl, h2, p2⟩ := w2.rp.list
        refine ⟨s, a', ss, w1.rp.str_eq, rfl, .inl ?_, lim16 hl, q _ H2 (.dat p (.str _))⟩
        rw [← strs_pd p2 h1]
        exact cut_le.sqL h2
      · cases e3
    · obtain ⟨ss, h1, e3⟩ := Option.bind_eq_some_iff.mp e3
      split at e3
      · rename_i hl
        cases e3
        obtain ⟨a', xs, rfl, h2, p2⟩ := w2.rp.tuple
        refine ⟨s, a', ss, w1.rp.str_eq, rfl, .inr ?_, lim16 hl, q _ H2 (.dat p (.str _))⟩
        rw [← strs_pd p2 h1]
        exact cut_le.sqT h2
      · cases e3
    · cases e3
  · cases e
end
/-! ### several targets -/
section
variable {X : Cx} {e : Expr} {te : TE} {fe : EX} {pos xpos : Pos} {x : Str} {i : Nat} {tg : Expr} {g : TG} {tgs : List Nat} {fg : GX}
def sAsgT (f : EX) (fg : GX) : SX := fun cs => (f cs).bind fun r => (fg r.1 r.2.2).bind fun c => some (.nx c)
theorem ds_asgT (he : DE X e te fe) (hg : DG X tg g tgs fg) (hs : swapsWithSole [tg] e pos.line X.env = pure false := by rfl) (hw : swappedStores [tg] e X.env = pure none := by rfl)
    (h1 : (assignEach [tg] X.env).map (·.2) = [assign tg X.env] := by rfl) : DS X (.Assign [tg] e pos) (tAsg te g) (sAsgT fe fg) := by
  refine ⟨ps_asg he.pe hg.pg hs hw h1, ?_⟩
  intro B IO Z σ H cs ok r e Dn q
  unfold sAsgT at e
  obtain ⟨⟨d1, f1, c1⟩, e1, e⟩ := Option.bind_eq_some_iff.mp e
  obtain ⟨c2, e2, e⟩ := Option.bind_eq_some_iff.mp e
  cases e
  exact he.se ok e1 _ fun v H1 w => hg.sg w.post.ok w.rp e2 _ fun σ' H' p _ => q σ' H' (w.post.trans p)
end
/-! ### a def of the text for its callers -/
structure Cal (P : Program) (w : World) (K : PySem.W.Frag) (mg : Str → Option Value) (base : Heap) (x : Str) (k : Nat) (ps : List Str) (sp : Sp) where
  f : Addr
  fd : FuncData
  ok : FnOk P w K mg base CX0 k f fd ps sp
  b : Binds K fd ps []
  kp : PySem.W.keepIn K (.ref f) = true
  m : mg x = some (.ref f)
section
variable {X : Cx} {e : Expr} {es : List Expr} {ts : TA} {fs : AX} {x : Str} {ps : List Str} {k n : Nat} {p pos : Pos} {F : GA} {G : GI}
theorem dc (c : Cal X.prog X.w X.K X.mg X.base x k ps (spP X.K n F)) (hr : Room k X.A) (ha : DA X (e :: es) ts fs) (hg : Gl X x := by rfl)
    (hdb : (x == ("__debug__" : Str)) = false := by decide) (he : starEach (e :: es) X.env = (false, eval e X.env) :: starEach es X.env := by rfl) (hpl : (backTo pos (starEach es X.env)).any (·.1) = false := by rfl) :
    DE X (.Call (.Name x p) (e :: es) [] pos) (tCall (spP X.K n F) [] E0 ts) (evA (gN n F) fs) := de_call c.ok hr hg c.m c.kp c.b ha hdb he hpl
theorem dc0 (c : Cal X.prog X.w X.K X.mg X.base x k ps (spP X.K n F)) (hr : Room k X.A) (hg : Gl X x := by rfl) (hdb : (x == ("__debug__" : Str)) = false := by decide) : DE X (.Call (.Name x p) [] [] pos) (tCall (spP X.K n F) [] E0 tNil) (evA (gN n F) evNil) := de_call0 c.ok hr hg c.m c.kp c.b hdb
theorem dcI {i : Nat} {y : Str} {ypos : Pos} (c : Cal X.prog X.w X.K X.mg X.base x k ps (spI X.K n G)) (hr : Room k X.A) (hv : DE X (.Name y ypos) (tVar i) (evVar i)) (ha : DA X es ts fs) (hg : Gl X x := by rfl)
    (hdb : (x == ("__debug__" : Str)) = false := by decide) (he : starEach (.Name y ypos :: es) X.env = (false, eval (.Name y ypos) X.env) :: starEach es X.env := by rfl) (hpl : (backTo pos (starEach es X.env)).any (·.1) = false := by rfl) :
    DE X (.Call (.Name x p) (.Name y ypos :: es) [] pos) (tCall (spI X.K n G) [] E0 (tCons (tVar i) ts)) (evCI n G i fs) := de_callI c.ok hr hg c.m c.kp c.b hv ha hdb he hpl
end
/-! ### the law's end -/
theorem law_sp {K : PySem.W.Frag} {F : GA} {ns : List Int} {H : Hp} {a : Addr} (h : SqL K H a (ns.map V.int)) (e : F [.list (ns.map .int)] = some (.bool true, false)) : spP K 1 F [.ref a] H (fun v _ => v = .bl true) fun _ _ _ => False := by
  have c : cut H (fun _ => False) = H := funext fun b => cut_of (fun z => z)
  refine ⟨fun _ => False, [.list (ns.map .int)], .bool true, false, fun _ z => z.elim, rfl, .cons ?_ .nil, e, fun v H' _ r => (show Rp K _ v (.bool true) from r).bool_eq⟩
  rw [c]
  refine .lst h ?_
  clear h e
  induction ns with
  | nil => exact .nil
  | cons n r ih => exact .cons (.int n) ih
end Qp
end
section
set_option Elab.async false
set_option linter.all false
set_option maxRecDepth 100000
set_option maxHeartbeats 2000000
/-! Ql: how the codes are reckoned, from within: a part is entered when what is ahead of it is known. -/
namespace Qp
open PySem PySem.Spec PyProof.Rows L2
abbrev OE := Option (D × Bool × En)
section
variable {d x y z : D} {fr f1 b : Bool} {c cs c1 : En} {i n m : Nat} {f fa fb fe fi : EX} {g : G2} {u : G1} {G : GA} {fs : AX} {t s : TX} {p q : SX} {xs : List D}
def fin (c : En) (o : Option (D × Bool)) : OE := o.bind fun z => some (z.1, z.2, c)
@[simp] theorem fin_s : fin c (some (z, fr)) = some (z, fr, c) := rfl
@[simp] theorem evC_ap : evC d cs = some (d, false, cs) := rfl
def kC (o : Option Cell) : Option D := match o with
  | some (.dat d) => some d
  | some (.own d) => some d
  | some (.io d) => some d
  | _ => none
@[simp] theorem cont_ap : cont cs i = kC cs[i]? := rfl
@[simp] theorem kC_d : kC (some (.dat d)) = some d := rfl
@[simp] theorem kC_o : kC (some (.own d)) = some d := rfl
@[simp] theorem kC_i : kC (some (.io d)) = some d := rfl
def kVar (i : Nat) (cs : En) (o : Option Cell) : OE := match o with
  | some (.dat d) => some (d, false, cs)
  | some (.own d) => some (d, false, cs.set i (.dat d))
  | _ => none
@[simp] theorem evVar_ap : evVar i cs = kVar i cs cs[i]? := rfl
@[simp] theorem kVar_d : kVar i cs (some (.dat d)) = some (d, false, cs) := rfl
@[simp] theorem kVar_o : kVar i cs (some (.own d)) = some (d, false, cs.set i (.dat d)) := rfl
def k2' (g : G2) (x : D) (o : OE) : OE := o.bind fun r => fin r.2.2 (g x r.1)
def k2 (g : G2) (fb : EX) (o : OE) : OE := o.bind fun r => k2' g r.1 (fb r.2.2)
@[simp] theorem ev2_ap : ev2 g fa fb cs = k2 g fb (fa cs) := rfl
@[simp] theorem k2_s : k2 g fb (some (x, f1, c)) = k2' g x (fb c) := rfl
@[simp] theorem k2'_s : k2' g x (some (y, f1, c)) = fin c (g x y) := rfl
def k1 (u : G1) (o : OE) : OE := o.bind fun r => fin r.2.2 (u r.1)
@[simp] theorem ev1_ap : ev1 u fa cs = k1 u (fa cs) := rfl
@[simp] theorem k1_s : k1 u (some (x, f1, c)) = fin c (u x) := rfl
def kT (o : OE) : Option (Bool × En) := o.bind fun r => match r.1 with
  | .bool b => some (b, r.2.2)
  | _ => none
@[simp] theorem evT_ap : evT fa cs = kT (fa cs) := rfl
@[simp] theorem kT_s : kT (some (.bool b, f1, c)) = some (b, c) := rfl
def kAndT (t : TX) (o : Option (Bool × En)) : Option (Bool × En) := o.bind fun r => if r.1 = true then t r.2 else some (false, r.2)
@[simp] theorem evAndT_ap : evAndT t s cs = kAndT s (t cs) := rfl
@[simp] theorem kAndT_t : kAndT s (some (true, c)) = s c := rfl
@[simp] theorem kAndT_f : kAndT s (some (false, c)) = some (false, c) := rfl
def kOrT (t : TX) (o : Option (Bool × En)) : Option (Bool × En) := o.bind fun r => if r.1 = true then some (true, r.2) else t r.2
@[simp] theorem evOrT_ap : evOrT t s cs = kOrT s (t cs) := rfl
@[simp] theorem kOrT_t : kOrT s (some (true, c)) = some (true, c) := rfl
@[simp] theorem kOrT_f : kOrT s (some (false, c)) = s c := rfl
def kNotT (o : Option (Bool × En)) : Option (Bool × En) := o.bind fun r => some (!r.1, r.2)
@[simp] theorem evNotT_ap : evNotT t cs = kNotT (t cs) := rfl
@[simp] theorem kNotT_s : kNotT (some (b, c)) = some (!b, c) := rfl
def kAndV (g : EX) (o : OE) : OE := o.bind fun r => match r.1 with
  | .bool true => g r.2.2
  | .bool false => some (.bool false, false, r.2.2)
  | _ => none
@[simp] theorem evAndV_ap : evAndV fa fb cs = kAndV fb (fa cs) := rfl
@[simp] theorem kAndV_t : kAndV fb (some (.bool true, f1, c)) = fb c := rfl
@[simp] theorem kAndV_f : kAndV fb (some (.bool false, f1, c)) = some (.bool false, false, c) := rfl
def kOrV (g : EX) (o : OE) : OE := o.bind fun r => match r.1 with
  | .bool true => some (.bool true, false, r.2.2)
  | .bool false => g r.2.2
  | _ => none
@[simp] theorem evOrV_ap : evOrV fa fb cs = kOrV fb (fa cs) := rfl
@[simp] theorem kOrV_t : kOrV fb (some (.bool true, f1, c)) = some (.bool true, false, c) := rfl
@[simp] theorem kOrV_f : kOrV fb (some (.bool false, f1, c)) = fb c := rfl
def kNotV (o : OE) : OE := o.bind fun r => match r.1 with
  | .bool b => some (.bool (!b), false, r.2.2)
  | _ => none
@[simp] theorem evNotV_ap : evNotV fa cs = kNotV (fa cs) := rfl
@[simp] theorem kNotV_s : kNotV (some (.bool b, f1, c)) = some (.bool (!b), false, c) := rfl
def kIfE (f g : EX) (o : Option (Bool × En)) : OE := o.bind fun r => if r.1 = true then f r.2 else g r.2
@[simp] theorem evIf_ap : evIf t fa fb cs = kIfE fa fb (t cs) := rfl
@[simp] theorem kIfE_t : kIfE fa fb (some (true, c)) = fa c := rfl
@[simp] theorem kIfE_f : kIfE fa fb (some (false, c)) = fb c := rfl
@[simp] theorem evNil_ap : evNil cs = some ([], cs) := rfl
def kCons' (x : D) (o : Option (List D × En)) : Option (List D × En) := o.bind fun s => some (x :: s.1, s.2)
def kCons (g : AX) (o : OE) : Option (List D × En) := o.bind fun r => kCons' r.1 (g r.2.2)
@[simp] theorem evCons_ap : evCons fa fs cs = kCons fs (fa cs) := rfl
@[simp] theorem kCons_s : kCons fs (some (x, f1, c)) = kCons' x (fs c) := rfl
@[simp] theorem kCons'_s : kCons' x (some (xs, c)) = some (x :: xs, c) := rfl
def kA (g : GA) (o : Option (List D × En)) : OE := o.bind fun r => fin r.2 (g r.1)
@[simp] theorem evA_ap : evA G fs cs = kA G (fs cs) := rfl
@[simp] theorem kA_s : kA G (some (xs, c)) = fin c (G xs) := rfl
@[simp] theorem gOne_ap : gOne u [d] = u d := rfl
@[simp] theorem gN0 : gN 0 G [] = G [] := rfl
@[simp] theorem gN1 : gN 1 G [x] = G [x] := rfl
@[simp] theorem gN2 : gN 2 G [x, y] = G [x, y] := rfl
@[simp] theorem gN3 : gN 3 G [x, y, z] = G [x, y, z] := rfl
@[simp] theorem gN4 : gN 4 G [x, y, z, d] = G [x, y, z, d] := rfl
def kI2 (g : G2) (y : D) (c : En) (o : Option D) : OE := o.bind fun d => fin c (g d y)
def kI1 (g : G2) (i : Nat) (o : OE) : OE := o.bind fun s => kI2 g s.1 s.2.2 (cont s.2.2 i)
def kI0 (g : G2) (i : Nat) (fb : EX) (cs : En) (o : Option D) : OE := o.bind fun _ => kI1 g i (fb cs)
@[simp] theorem evIxV_ap : evIxV g i fb cs = kI0 g i fb cs (cont cs i) := rfl
@[simp] theorem kI0_s : kI0 g i fb cs (some d) = kI1 g i (fb cs) := rfl
@[simp] theorem kI1_s : kI1 g i (some (y, f1, c)) = kI2 g y c (cont c i) := rfl
@[simp] theorem kI2_s : kI2 g y c (some d) = fin c (g d y) := rfl
def kV2 (g : G2) (x : D) (c : En) (o : Option D) : OE := o.bind fun d => fin c (g x d)
def kV1 (g : G2) (i : Nat) (o : OE) : OE := o.bind fun s => kV2 g s.1 s.2.2 (cont s.2.2 i)
@[simp] theorem evVIn_ap : evVIn g fa i cs = kV1 g i (fa cs) := rfl
@[simp] theorem kV1_s : kV1 g i (some (x, f1, c)) = kV2 g x c (cont c i) := rfl
@[simp] theorem kV2_s : kV2 g x c (some d) = fin c (g x d) := rfl
def kU (u : G1) (c : En) (o : Option D) : OE := o.bind fun d => fin c (u d)
@[simp] theorem evV1_ap : evV1 u i cs = kU u cs (cont cs i) := rfl
@[simp] theorem kU_s : kU u c (some d) = fin c (u d) := rfl
def kIsi (n : String) (c : En) (o : Option D) : OE := o.bind fun d => (kitB (tyD d) n).bind fun b => some (.bool b, false, c)
@[simp] theorem evIsiV_ap {n : String} : evIsiV n i cs = kIsi n cs (cont cs i) := rfl
def kIsiE (n : String) (o : OE) : OE := o.bind fun r => kIsi n r.2.2 (some r.1)
@[simp] theorem evIsi_ap {n : String} : evIsi n fa cs = kIsiE n (fa cs) := rfl
@[simp] theorem kIsiE_s {n : String} : kIsiE n (some (d, f1, c)) = kIsi n c (some d) := rfl
/-- which of the six types a datum has -/
def isT (n : String) : D → Bool
  | .none => false
  | .bool _ => n == "bool" || n == "int"
  | .int _ => n == "int"
  | .str _ => n == "str"
  | .list _ => n == "list"
  | .tuple _ => n == "tuple"
  | .dict _ => n == "dict"
theorem kit_isT {n : String} (h : n ∈ ["int", "bool", "str", "list", "tuple", "dict"]) (d : D) : kitB (tyD d) n = some (isT n d) := by
  have k : ∀ a ∈ ["NoneType", "bool", "int", "str", "list", "tuple", "dict"], ∀ n ∈ ["int", "bool", "str", "list", "tuple", "dict"], kitB a n = some (a == n || (a == "bool" && n == "int")) := by decide +kernel
  have e : ∀ n ∈ ["int", "bool", "str", "list", "tuple", "dict"], ∀ d : D, (tyD d == n || (tyD d == "bool" && n == "int")) = isT n d := by
    intro n h d
    simp only [List.mem_cons, List.not_mem_nil, or_false] at h
    rcases h with rfl | rfl | rfl | rfl | rfl | rfl <;> cases d <;> rfl
  rw [k (tyD d) (by cases d <;> simp [tyD]) n h, e n h d]
theorem kIsi_of {n : String} (h : n ∈ ["int", "bool", "str", "list", "tuple", "dict"]) : kIsi n c (some d) = some (.bool (isT n d), false, c) := by
  show (kitB (tyD d) n).bind _ = _
  rw [kit_isT h d]
  rfl
@[simp] theorem kIsi_int : kIsi "int" c (some d) = some (.bool (isT "int" d), false, c) := kIsi_of (by decide)
@[simp] theorem kIsi_bool : kIsi "bool" c (some d) = some (.bool (isT "bool" d), false, c) := kIsi_of (by decide)
@[simp] theorem kIsi_str : kIsi "str" c (some d) = some (.bool (isT "str" d), false, c) := kIsi_of (by decide)
@[simp] theorem kIsi_list : kIsi "list" c (some d) = some (.bool (isT "list" d), false, c) := kIsi_of (by decide)
@[simp] theorem kIsi_tuple : kIsi "tuple" c (some d) = some (.bool (isT "tuple" d), false, c) := kIsi_of (by decide)
@[simp] theorem kIsi_dict : kIsi "dict" c (some d) = some (.bool (isT "dict" d), false, c) := kIsi_of (by decide)
/-! ### slices -/
@[simp] theorem evO0_ap : evO0 cs = some (none, cs) := rfl
def kO (o : OE) : Option (Option Int × En) := o.bind fun r => match r.1 with
  | .int i => some (some i, r.2.2)
  | _ => none
@[simp] theorem evO1_ap : evO1 fa cs = kO (fa cs) := rfl
@[simp] theorem kO_s {j : Int} : kO (some (.int j, f1, c)) = some (some j, c) := rfl
variable {fl fh : OX} {o1 o2 : Option Int}
def kS3 (d : D) (lo : Option Int) (o : Option (Option Int × En)) : OE := o.bind fun u => fin u.2 (gSl d lo u.1)
def kS2 (fh : OX) (d : D) (o : Option (Option Int × En)) : OE := o.bind fun s => kS3 d s.1 (fh s.2)
def kS1 (fl fh : OX) (o : OE) : OE := o.bind fun r => kS2 fh r.1 (fl r.2.2)
@[simp] theorem evSl_ap : evSl fa fl fh cs = kS1 fl fh (fa cs) := rfl
@[simp] theorem kS1_s : kS1 fl fh (some (d, f1, c)) = kS2 fh d (fl c) := rfl
@[simp] theorem kS2_s : kS2 fh d (some (o1, c)) = kS3 d o1 (fh c) := rfl
@[simp] theorem kS3_s : kS3 d o1 (some (o2, c)) = fin c (gSl d o1 o2) := rfl
def kSV4 (lo hi : Option Int) (c : En) (o : Option D) : OE := o.bind fun d => fin c (gSl d lo hi)
def kSV3 (i : Nat) (lo : Option Int) (o : Option (Option Int × En)) : OE := o.bind fun u => kSV4 lo u.1 u.2 (cont u.2 i)
def kSV2 (fh : OX) (i : Nat) (o : Option (Option Int × En)) : OE := o.bind fun s => kSV3 i s.1 (fh s.2)
def kSV1 (fl fh : OX) (i : Nat) (cs : En) (o : Option D) : OE := o.bind fun _ => kSV2 fh i (fl cs)
@[simp] theorem evSlV_ap : evSlV i fl fh cs = kSV1 fl fh i cs (cont cs i) := rfl
@[simp] theorem kSV1_s : kSV1 fl fh i cs (some d) = kSV2 fh i (fl cs) := rfl
@[simp] theorem kSV2_s : kSV2 fh i (some (o1, c)) = kSV3 i o1 (fh c) := rfl
@[simp] theorem kSV3_s : kSV3 i o1 (some (o2, c)) = kSV4 o1 o2 c (cont c i) := rfl
@[simp] theorem kSV4_s : kSV4 o1 o2 c (some d) = fin c (gSl d o1 o2) := rfl
/-! ### changes -/
def kOwnL (o : Option Cell) : Bool := match o with
  | some (.own (.list _)) => true
  | some (.io (.list _)) => true
  | _ => false
@[simp] theorem isOwnL_ap : isOwnL cs i = kOwnL cs[i]? := rfl
@[simp] theorem kOwnL_o : kOwnL (some (.own (.list xs))) = true := rfl
@[simp] theorem kOwnL_i : kOwnL (some (.io (.list xs))) = true := rfl
def kUp (cs : En) (i : Nat) (f : D → Option D) (o : Option Cell) : Option En := match o with
  | some (.own d) => (f d).bind fun d' => some (cs.set i (.own d'))
  | some (.io d) => (f d).bind fun d' => some (cs.set i (.io d'))
  | _ => none
def kUpO (cs : En) (i : Nat) (o : Option D) : Option En := o.bind fun d' => some (cs.set i (.own d'))
def kUpI (cs : En) (i : Nat) (o : Option D) : Option En := o.bind fun d' => some (cs.set i (.io d'))
variable {h : D → Option D}
@[simp] theorem upL_ap : upL cs i h = kUp cs i h cs[i]? := rfl
@[simp] theorem kUp_o : kUp cs i h (some (.own d)) = kUpO cs i (h d) := rfl
@[simp] theorem kUp_i : kUp cs i h (some (.io d)) = kUpI cs i (h d) := rfl
@[simp] theorem kUpO_s : kUpO cs i (some d) = some (cs.set i (.own d)) := rfl
@[simp] theorem kUpI_s : kUpI cs i (some d) = some (cs.set i (.io d)) := rfl
def kApp2 (o : Option En) : OE := o.bind fun c => some (.none, false, c)
def kApp1 (i : Nat) (o : OE) : OE := o.bind fun r => kApp2 (upL r.2.2 i (fApp r.1))
def kApp0 (i : Nat) (f : EX) (cs : En) (b : Bool) : OE := if b = true then kApp1 i (f cs) else none
@[simp] theorem evApp_ap : evApp i f cs = kApp0 i f cs (isOwnL cs i) := rfl
@[simp] theorem kApp0_t : kApp0 i f cs true = kApp1 i (f cs) := rfl
@[simp] theorem kApp1_s : kApp1 i (some (d, f1, c)) = kApp2 (upL c i (fApp d)) := rfl
@[simp] theorem kApp2_s : kApp2 (some c) = some (.none, false, c) := rfl
theorem fApp_of (h : xs.length < LIM) : fApp d (.list xs) = some (.list (xs ++ [d])) := by
  show (if xs.length < LIM then _ else _) = _
  rw [if_pos h]
/-! ### statements -/
@[simp] theorem sNx_ap : sNx cs = some (.nx cs) := rfl
@[simp] theorem sBk_ap : sBk cs = some (.bk cs) := rfl
@[simp] theorem sCt_ap : sCt cs = some (.ct cs) := rfl
@[simp] theorem sRetN_ap : sRetN cs = some (.rt .none false cs) := rfl
def kSeq (q : SX) (o : Option Res) : Option Res := o.bind fun r => match r with
  | .nx c => q c
  | r => some r
@[simp] theorem sSeq_ap : sSeq p q cs = kSeq q (p cs) := rfl
@[simp] theorem kSeq_n : kSeq q (some (.nx c)) = q c := rfl
@[simp] theorem kSeq_r : kSeq q (some (.rt d fr c)) = some (.rt d fr c) := rfl
@[simp] theorem kSeq_b : kSeq q (some (.bk c)) = some (.bk c) := rfl
@[simp] theorem kSeq_c : kSeq q (some (.ct c)) = some (.ct c) := rfl
def kIf (p q : SX) (o : Option (Bool × En)) : Option Res := o.bind fun r => if r.1 = true then p r.2 else q r.2
@[simp] theorem sIf_ap : sIf t p q cs = kIf p q (t cs) := rfl
@[simp] theorem kIf_t : kIf p q (some (true, c)) = p c := rfl
@[simp] theorem kIf_f : kIf p q (some (false, c)) = q c := rfl
def kDrop (o : OE) : Option Res := o.bind fun r => some (.nx r.2.2)
@[simp] theorem sDrop_ap : sDrop f cs = kDrop (f cs) := rfl
@[simp] theorem kDrop_s : kDrop (some (d, f1, c)) = some (.nx c) := rfl
def kRet (o : OE) : Option Res := o.bind fun r => some (.rt r.1 r.2.1 r.2.2)
@[simp] theorem sRet_ap : sRet f cs = kRet (f cs) := rfl
@[simp] theorem kRet_s : kRet (some (d, f1, c)) = some (.rt d f1 c) := rfl
def kNo (o : Option Cell) : Bool := match o with
  | some (.io _) => false
  | some _ => true
  | none => false
@[simp] theorem noIo_ap : noIo cs i = kNo cs[i]? := rfl
@[simp] theorem kNo_n : kNo (some .no) = true := rfl
@[simp] theorem kNo_d : kNo (some (.dat d)) = true := rfl
@[simp] theorem kNo_o : kNo (some (.own d)) = true := rfl
@[simp] theorem cellOf_t : Qp.cellOf true d = .own d := rfl
@[simp] theorem cellOf_f : Qp.cellOf false d = .dat d := rfl
def kAsg' (i : Nat) (d : D) (fr : Bool) (c : En) (b : Bool) : Option Res := if b = true then some (.nx (c.set i (Qp.cellOf fr d))) else none
def kAsg (i : Nat) (o : OE) : Option Res := o.bind fun r => kAsg' i r.1 r.2.1 r.2.2 (noIo r.2.2 i)
@[simp] theorem sAsg_ap : sAsg i f cs = kAsg i (f cs) := rfl
@[simp] theorem kAsg_s : kAsg i (some (d, fr, c)) = kAsg' i d fr c (noIo c i) := rfl
@[simp] theorem kAsg'_t : kAsg' i d fr c true = some (.nx (c.set i (Qp.cellOf fr d))) := rfl
variable {gt : GX} {tg : GsX} {ft : TX} {items acc : List D} {fx : IX} {vs : List Nat}
def kAT2 (o : Option En) : Option Res := o.bind fun c => some (.nx c)
def kAT (gt : GX) (o : OE) : Option Res := o.bind fun r => kAT2 (gt r.1 r.2.2)
@[simp] theorem sAsgT_ap : sAsgT f gt cs = kAT gt (f cs) := rfl
@[simp] theorem kAT_s : kAT gt (some (d, fr, c)) = kAT2 (gt d c) := rfl
@[simp] theorem kAT2_s : kAT2 (some c) = some (.nx c) := rfl
def kSet3 (o : Option En) : Option Res := o.bind fun c => some (.nx c)
def kSet2 (i : Nat) (x : D) (o : OE) : Option Res := o.bind fun s => kSet3 (upL s.2.2 i (fSet s.1 x))
def kSet1 (i : Nat) (fi : EX) (x : D) (c : En) (b : Bool) : Option Res := if b = true then kSet2 i x (fi c) else none
def kSet (i : Nat) (fi : EX) (o : OE) : Option Res := o.bind fun r => kSet1 i fi r.1 r.2.2 (isOwnL r.2.2 i)
@[simp] theorem sSet_ap : sSet i fi fe cs = kSet i fi (fe cs) := rfl
@[simp] theorem kSet_s : kSet i fi (some (x, f1, c)) = kSet1 i fi x c (isOwnL c i) := rfl
@[simp] theorem kSet1_t : kSet1 i fi x c true = kSet2 i x (fi c) := rfl
@[simp] theorem kSet2_s : kSet2 i x (some (y, f1, c)) = kSet3 (upL c i (fSet y x)) := rfl
@[simp] theorem kSet3_s : kSet3 (some c) = some (.nx c) := rfl
def kG4 (i : Nat) (k : D) (c : En) (o : Option (D × Bool)) : Option Res := o.bind fun z => if z.2 = false then kSet3 (upL c i (fSet k z.1)) else none
def kG3 (g : G2) (i : Nat) (k old : D) (o : OE) : Option Res := o.bind fun r => kG4 i k r.2.2 (g old r.1)
def kG2 (g : G2) (i : Nat) (fe : EX) (k : D) (c : En) (o : Option D) : Option Res := o.bind fun old => kG3 g i k old (fe c)
def kG1 (g : G2) (i : Nat) (fe : EX) (k : D) (c : En) (o : Option D) : Option Res := o.bind fun d => kG2 g i fe k c (getL d k)
def kG (g : G2) (i : Nat) (fe : EX) (o : OE) : Option Res := o.bind fun s => kG1 g i fe s.1 s.2.2 (cont s.2.2 i)
def kG0 (g : G2) (i : Nat) (fi fe : EX) (cs : En) (b : Bool) : Option Res := if b = true then kG g i fe (fi cs) else none
@[simp] theorem sAugIx_ap : sAugIx g i fi fe cs = kG0 g i fi fe cs (isOwnL cs i) := by
  unfold sAugIx kG0 kG kG1 kG2 kG3 kG4 kSet3
  rfl
@[simp] theorem kG0_t : kG0 g i fi fe cs true = kG g i fe (fi cs) := rfl
@[simp] theorem kG_s : kG g i fe (some (x, f1, c)) = kG1 g i fe x c (cont c i) := rfl
@[simp] theorem kG1_s : kG1 g i fe x c (some d) = kG2 g i fe x c (getL d x) := rfl
@[simp] theorem kG2_s : kG2 g i fe x c (some d) = kG3 g i x d (fe c) := rfl
@[simp] theorem kG3_s : kG3 g i x d (some (y, f1, c)) = kG4 i x c (g d y) := rfl
@[simp] theorem kG4_s : kG4 i x c (some (y, false)) = kSet3 (upL c i (fSet x y)) := rfl
/-! ### loops -/
def kFor (gt : GX) (p : SX) (o : Option (List D × En)) : Option Res := o.bind fun r => loopF gt p r.1 r.2
@[simp] theorem sFor_ap : sFor fx gt p cs = kFor gt p (fx cs) := rfl
@[simp] theorem kFor_s : kFor gt p (some (items, c)) = loopF gt p items c := rfl
@[simp] theorem loopF_nil : loopF gt p [] cs = some (.nx cs) := rfl
def kL2 (gt : GX) (p : SX) (r : List D) (o : Option Res) : Option Res := o.bind fun z => match z with
  | .nx c => loopF gt p r c
  | .ct c => loopF gt p r c
  | .bk c => some (.nx c)
  | .rt d fr c => some (.rt d fr c)
def kL1 (gt : GX) (p : SX) (r : List D) (o : Option En) : Option Res := o.bind fun c => kL2 gt p r (p c)
theorem loopF_cons : loopF gt p (x :: items) cs = kL1 gt p items (gt x cs) := rfl
@[simp] theorem kL1_s : kL1 gt p items (some c) = kL2 gt p items (p c) := rfl
@[simp] theorem kL2_n : kL2 gt p items (some (.nx c)) = loopF gt p items c := rfl
@[simp] theorem kL2_c : kL2 gt p items (some (.ct c)) = loopF gt p items c := rfl
@[simp] theorem kL2_b : kL2 gt p items (some (.bk c)) = some (.nx c) := rfl
@[simp] theorem kL2_r : kL2 gt p items (some (.rt d fr c)) = some (.rt d fr c) := rfl
@[simp] theorem gx_ap : gx i d cs = if kNo cs[i]? = true then some (cs.set i (.dat d)) else none := rfl
@[simp] theorem gxNil_ap : gxNil [] cs = some cs := rfl
def kGx (tg : GsX) (ds : List D) (o : Option En) : Option En := o.bind fun c => tg ds c
@[simp] theorem gxCons_ap : gxCons gt tg (x :: xs) cs = kGx tg xs (gt x cs) := rfl
@[simp] theorem kGx_s : kGx tg xs (some c) = tg xs c := rfl
@[simp] theorem gxTup_ap : gxTup tg n (.tuple xs) cs = if xs.length = n then tg xs cs else none := rfl
def kSq (o : OE) : Option (List D × En) := o.bind fun r => match r.1 with
  | .list ds => some (ds, r.2.2)
  | .tuple ds => some (ds, r.2.2)
  | _ => none
@[simp] theorem ixSeq_ap : ixSeq f cs = kSq (f cs) := rfl
@[simp] theorem kSq_l : kSq (some (.list xs, f1, c)) = some (xs, c) := rfl
@[simp] theorem kSq_t : kSq (some (.tuple xs, f1, c)) = some (xs, c) := rfl
def kR1 (o : Option (List D × En)) : Option (List D × En) := o.bind fun r => match r.1 with
  | [.int j] => if small j = true then some (rngD 0 j.toNat, r.2) else none
  | _ => none
@[simp] theorem ixR1_ap : ixR1 fs cs = kR1 (fs cs) := rfl
theorem kR1_of {j : Int} (h : small j = true) : kR1 (some ([.int j], c)) = some (rngD 0 j.toNat, c) := by
  show (if small j = true then _ else _) = _
  rw [if_pos h]
def kR2 (o : Option (List D × En)) : Option (List D × En) := o.bind fun r => match r.1 with
  | [.int i, .int j] => if (small i && small j) = true then some (rngD i (j - i).toNat, r.2) else none
  | _ => none
@[simp] theorem ixR2_ap : ixR2 fs cs = kR2 (fs cs) := rfl
theorem kR2_of {j k : Int} (h : small j = true) (h' : small k = true) : kR2 (some ([.int j, .int k], c)) = some (rngD j (k - j).toNat, c) := by
  show (if (small j && small k) = true then _ else _) = _
  rw [h, h']
  rfl
def kZip (o : Option (List D × En)) : Option (List D × En) := o.bind fun r => match r.1 with
  | [.list xs, .list ys] => some (zipD xs ys, r.2)
  | _ => none
@[simp] theorem ixZip_ap : ixZip fs cs = kZip (fs cs) := rfl
@[simp] theorem kZip_s {ys : List D} : kZip (some ([.list xs, .list ys], c)) = some (zipD xs ys, c) := rfl
def kEnum (o : Option (List D × En)) : Option (List D × En) := o.bind fun r => match r.1 with
  | [.list xs] => some (enumD 0 xs, r.2)
  | _ => none
@[simp] theorem ixEnum_ap : ixEnum fs cs = kEnum (fs cs) := rfl
@[simp] theorem kEnum_s : kEnum (some ([.list xs], c)) = some (enumD 0 xs, c) := rfl
/-! ### comprehensions -/
def kLc2 (vs : List Nat) (c : En) (o : Option (List D × En)) : OE := o.bind fun z => some (.list z.1, true, rst z.2 c vs)
def kLc1 (gt : GX) (ft : TX) (fe : EX) (vs : List Nat) (items : List D) (c : En) (b : Bool) : OE := if b = true then kLc2 vs c (loopC gt ft fe vs items [] (clr c vs)) else none
def kLc (gt : GX) (ft : TX) (fe : EX) (vs : List Nat) (o : Option (List D × En)) : OE := o.bind fun r => kLc1 gt ft fe vs r.1 r.2 (noOwn r.2 vs)
@[simp] theorem evLc_ap : evLc vs fx gt ft fe cs = kLc gt ft fe vs (fx cs) := rfl
@[simp] theorem kLc_s : kLc gt ft fe vs (some (items, c)) = kLc1 gt ft fe vs items c (noOwn c vs) := rfl
@[simp] theorem kLc1_t : kLc1 gt ft fe vs items c true = kLc2 vs c (loopC gt ft fe vs items [] (clr c vs)) := rfl
@[simp] theorem kLc2_s : kLc2 vs c (some (xs, c1)) = some (.list xs, true, rst c1 c vs) := rfl
@[simp] theorem evYes_ap : evYes cs = some (true, cs) := rfl
@[simp] theorem loopC_nil : loopC gt ft fe vs [] acc cs = some (acc, cs) := rfl
/-- a comprehension whose element is a function of the item and which leaves the cells alone -/
theorem loopC_map {v : D → D} (hx : ∀ x ∈ items, ∃ c1 f1, gt x cs = some c1 ∧ ft c1 = some (true, c1) ∧ fe c1 = some (v x, f1, c1) ∧ noOwn c1 vs = true ∧ clr c1 vs = cs) :
    ∀ acc : List D, acc.length + items.length ≤ LIM → loopC gt ft fe vs items acc cs = some (acc ++ items.map v, cs) := by
  induction items with
  | nil => intro acc _; simp
  | cons x r ih =>
    intro acc hl
    rw [List.length_cons] at hl
    obtain ⟨c1, f1, h1, h2, h3, h4, h5⟩ := hx x List.mem_cons_self
    unfold loopC
    rw [h1, Option.bind_some, h2, Option.bind_some, if_pos rfl, h3, Option.bind_some]
    dsimp only
    rw [h4, h5, show decide (acc.length < LIM) = true from decide_eq_true (by omega)]
    have := ih (fun y hy => hx y (List.mem_cons_of_mem _ hy)) (acc ++ [v x]) (by rw [List.length_append, List.length_singleton]; omega)
    rw [Bool.and_self, if_pos rfl, this, List.append_assoc]
    rfl
/-! ### defs -/
variable {GG : GI}
def kOwnC (o : Option Cell) : Bool := match o with
  | some (.own _) => true
  | some (.io _) => true
  | _ => false
@[simp] theorem isOwn_ap : isOwn cs i = kOwnC cs[i]? := rfl
@[simp] theorem kOwnC_o : kOwnC (some (.own d)) = true := rfl
@[simp] theorem kOwnC_i : kOwnC (some (.io d)) = true := rfl
def kSO (cs : En) (i : Nat) (d : D) (o : Option Cell) : Option En := match o with
  | some (.own _) => some (cs.set i (.own d))
  | some (.io _) => some (cs.set i (.io d))
  | _ => none
@[simp] theorem setOwn_ap : setOwn cs i d = kSO cs i d cs[i]? := rfl
@[simp] theorem kSO_o : kSO cs i d (some (.own x)) = some (cs.set i (.own d)) := rfl
@[simp] theorem kSO_i : kSO cs i d (some (.io x)) = some (cs.set i (.io d)) := rfl
def kCI4 (z : D) (o : Option En) : OE := o.bind fun c => some (z, false, c)
def kCI3 (i : Nat) (c : En) (o : Option (D × Bool × D)) : OE := o.bind fun z => kCI4 z.1 (setOwn c i z.2.2)
def kCI2 (GG : GI) (i : Nat) (xs : List D) (c : En) (o : Option D) : OE := o.bind fun d => kCI3 i c (GG d xs)
def kCI1 (n : Nat) (GG : GI) (i : Nat) (o : Option (List D × En)) : OE := o.bind fun r => if r.1.length + 1 = n then kCI2 GG i r.1 r.2 (cont r.2 i) else none
def kCI0 (n : Nat) (GG : GI) (i : Nat) (fs : AX) (cs : En) (b : Bool) : OE := if b = true then kCI1 n GG i (fs cs) else none
@[simp] theorem evCI_ap : evCI n GG i fs cs = kCI0 n GG i fs cs (isOwn cs i) := rfl
@[simp] theorem kCI0_t : kCI0 n GG i fs cs true = kCI1 n GG i (fs cs) := rfl
@[simp] theorem kCI1_s : kCI1 n GG i (some (xs, c)) = if xs.length + 1 = n then kCI2 GG i xs c (cont c i) else none := rfl
@[simp] theorem kCI2_s : kCI2 GG i xs c (some d) = kCI3 i c (GG d xs) := rfl
@[simp] theorem kCI3_s : kCI3 i c (some (x, fr, d)) = kCI4 x (setOwn c i d) := rfl
@[simp] theorem kCI4_s : kCI4 x (some c) = some (x, false, c) := rfl
@[simp] theorem outP_r : outP (some (.rt d fr c)) = some (d, fr) := rfl
@[simp] theorem outP_n : outP (some (.nx c)) = some (.none, false) := rfl
def kIo (o : Option Cell) : Option D := match o with
  | some (.io d) => some d
  | _ => none
@[simp] theorem io0_ap : io0 cs = kIo cs[(0 : Nat)]? := rfl
@[simp] theorem kIo_i : kIo (some (.io d)) = some d := rfl
def kOut (x : D) (fr : Bool) (o : Option D) : Option (D × Bool × D) := o.bind fun d' => some (x, fr, d')
@[simp] theorem outI_r : outI (some (.rt d fr c)) = kOut d fr (io0 c) := rfl
@[simp] theorem outI_n : outI (some (.nx c)) = kOut .none false (io0 c) := rfl
@[simp] theorem kOut_s : kOut x fr (some d) = some (x, fr, d) := rfl
/-! ### operators -/
variable {j k : Int}
@[simp] theorem gAdd_i : gAdd (.int j) (.int k) = some (.int (j + k), false) := rfl
@[simp] theorem gAddI_i : gAddI (.int j) (.int k) = some (.int (j + k), false) := rfl
@[simp] theorem gSub_i : gSub (.int j) (.int k) = some (.int (j - k), false) := rfl
@[simp] theorem gLt_i : gLt (.int j) (.int k) = some (.bool (decide (j < k)), false) := rfl
@[simp] theorem gLe_i : gLe (.int j) (.int k) = some (.bool (decide (j ≤ k)), false) := rfl
@[simp] theorem gGt_i : gGt (.int j) (.int k) = some (.bool (decide (k < j)), false) := rfl
@[simp] theorem gGe_i : gGe (.int j) (.int k) = some (.bool (decide (k ≤ j)), false) := rfl
@[simp] theorem gNeg_i : gNeg (.int j) = some (.int (-j), false) := rfl
theorem gMod_i (h : 0 < k) : gMod (.int j) (.int k) = some (.int (j % k), false) := by
  show (if decide (0 < k) = true then _ else _) = _
  rw [if_pos (decide_eq_true h)]
theorem gFdiv_i (h : 0 < k) (h2 : k < 1073741824) : gFdiv (.int j) (.int k) = some (.int (j / k), false) := by
  show (if (decide (0 < k) && decide (k < 1073741824)) = true then _ else _) = _
  rw [if_pos (by simp [h, h2])]
theorem gMul_r (h : -(2 ^ 64) < k) (h2 : k < 2 ^ 64) : gMul (.int j) (.int k) = some (.int (j * k), false) := by
  show (if ((decide (-(2 ^ 64) < j) && decide (j < 2 ^ 64)) || (decide (-(2 ^ 64) < k) && decide (k < 2 ^ 64))) = true then _ else _) = _
  rw [if_pos (by rw [decide_eq_true h, decide_eq_true h2, Bool.and_self, Bool.or_true])]
theorem gMul_l (h : -(2 ^ 64) < j) (h2 : j < 2 ^ 64) : gMul (.int j) (.int k) = some (.int (j * k), false) := by
  show (if ((decide (-(2 ^ 64) < j) && decide (j < 2 ^ 64)) || (decide (-(2 ^ 64) < k) && decide (k < 2 ^ 64))) = true then _ else _) = _
  rw [if_pos (by rw [decide_eq_true h, decide_eq_true h2, Bool.and_self, Bool.true_or])]
@[simp] theorem gEq_i : gEq (.int j) (.int k) = some (.bool (j == k), false) := rfl
@[simp] theorem gNe_i : gNe (.int j) (.int k) = some (.bool (!(j == k)), false) := rfl
@[simp] theorem gIsN_s : gIsN d .none = some (.bool (isNone d), false) := rfl
@[simp] theorem gNotN_s : gNotN d .none = some (.bool (!isNone d), false) := rfl
@[simp] theorem gLen_l : gLen (.list xs) = some (.int xs.length, false) := rfl
@[simp] theorem gLen_t : gLen (.tuple xs) = some (.int xs.length, false) := rfl
theorem gLen_s {w : Str} (h : w.length ≤ LIM) : gLen (.str w) = some (.int w.length, false) := by
  show (if w.length ≤ LIM then _ else _) = _
  rw [if_pos h]
@[simp] theorem gInt_i : gInt [.int j] = some (.int j, false) := rfl
@[simp] theorem gList_l : gList (.list xs) = some (.list xs, true) := rfl
@[simp] theorem gList_t : gList (.tuple xs) = some (.list xs, true) := rfl
@[simp] theorem gTuple_l : gTuple (.list xs) = some (.tuple xs, false) := rfl
@[simp] theorem gTuple_t : gTuple (.tuple xs) = some (.tuple xs, false) := rfl
theorem gTupD_of (h : xs.length ≤ LIM) : gTupD xs = some (.tuple xs, false) := if_pos h
theorem gLstD_of (h : xs.length ≤ LIM) : gLstD xs = some (.list xs, true) := if_pos h
@[simp] theorem gLst0 : gLstD [] = some (.list [], true) := rfl
@[simp] theorem gLst1 : gLstD [x] = some (.list [x], true) := gLstD_of (by show 1 ≤ LIM; decide)
@[simp] theorem gLst2 : gLstD [x, y] = some (.list [x, y], true) := gLstD_of (by show 2 ≤ LIM; decide)
@[simp] theorem gLst3 : gLstD [x, y, z] = some (.list [x, y, z], true) := gLstD_of (by show 3 ≤ LIM; decide)
@[simp] theorem gLst4 : gLstD [x, y, z, d] = some (.list [x, y, z, d], true) := gLstD_of (by show 4 ≤ LIM; decide)
@[simp] theorem gTup0 : gTupD [] = some (.tuple [], false) := rfl
@[simp] theorem gTup1 : gTupD [x] = some (.tuple [x], false) := gTupD_of (by show 1 ≤ LIM; decide)
@[simp] theorem gTup2 : gTupD [x, y] = some (.tuple [x, y], false) := gTupD_of (by show 2 ≤ LIM; decide)
@[simp] theorem gTup3 : gTupD [x, y, z] = some (.tuple [x, y, z], false) := gTupD_of (by show 3 ≤ LIM; decide)
@[simp] theorem gTup4 : gTupD [x, y, z, d] = some (.tuple [x, y, z, d], false) := gTupD_of (by show 4 ≤ LIM; decide)
def kIx (o : Option D) : Option (D × Bool) := o.bind fun d => some (d, false)
@[simp] theorem kIx_s : kIx (some d) = some (d, false) := rfl
@[simp] theorem gIx_l : gIx (.list xs) (.int j) = kIx (atD xs j) := rfl
@[simp] theorem gIx_t : gIx (.tuple xs) (.int j) = kIx (atD xs j) := rfl
theorem atD_of (h : 0 ≤ j) (h2 : j < xs.length) : atD xs j = xs[j.toNat]? := by
  unfold atD ixN
  rw [if_pos h, if_pos h2]
  rfl
@[simp] theorem atD0 : atD (x :: xs) 0 = some x := by
  rw [atD_of (by decide) (by simp; try omega)]
  rfl
@[simp] theorem atD1 : atD (x :: y :: xs) 1 = some y := by
  rw [atD_of (by decide) (by simp; try omega)]
  rfl
@[simp] theorem atD2 : atD (x :: y :: z :: xs) 2 = some z := by
  rw [atD_of (by decide) (by simp; try omega)]
  rfl
@[simp] theorem atD3 : atD (x :: y :: z :: d :: xs) 3 = some d := by
  rw [atD_of (by decide) (by simp; omega)]
  rfl
theorem fSet_of {k : Int} (h : 0 ≤ k) (h2 : k < xs.length) : fSet (.int k) d (.list xs) = some (.list (xs.set k.toNat d)) := by
  show ((ixN xs.length k).bind fun j => some (PyData.list (xs.set j d))) = _
  unfold ixN
  rw [if_pos h, if_pos h2]
  rfl
@[simp] theorem fSet0 : fSet (.int 0) d (.list (x :: xs)) = some (.list (d :: xs)) := by
  rw [fSet_of (by decide) (by simp; try omega)]
  rfl
@[simp] theorem fSet1 : fSet (.int 1) d (.list (x :: y :: xs)) = some (.list (x :: d :: xs)) := by
  rw [fSet_of (by decide) (by simp; try omega)]
  rfl
@[simp] theorem fSet2 : fSet (.int 2) d (.list (x :: y :: z :: xs)) = some (.list (x :: y :: d :: xs)) := by
  rw [fSet_of (by decide) (by simp; try omega)]
  rfl
variable {w : D}
@[simp] theorem fSet3 : fSet (.int 3) d (.list (x :: y :: z :: w :: xs)) = some (.list (x :: y :: z :: d :: xs)) := by
  rw [fSet_of (by decide) (by simp; try omega)]
  rfl
@[simp] theorem getL0 : getL (.list (x :: xs)) (.int 0) = some x := rfl
@[simp] theorem getL1 : getL (.list (x :: y :: xs)) (.int 1) = some y := rfl
@[simp] theorem getL2 : getL (.list (x :: y :: z :: xs)) (.int 2) = some z := rfl
@[simp] theorem getL3 : getL (.list (x :: y :: z :: w :: xs)) (.int 3) = some w := rfl
theorem gPow_i {j k : Int} (h : 0 ≤ k) (h2 : k ≤ 1000000) (h3 : j.natAbs < 2 ^ 64) : gPow (.int j) (.int k) = some (.int (j ^ k.toNat), false) := by
  show (if (decide (0 ≤ k) && (decide (k ≤ 1000000) && decide (j.natAbs < 2 ^ 64))) = true then _ else _) = _
  rw [if_pos (by simp [h, h2]; exact h3)]
@[simp] theorem gPow18 : gPow (.int 10) (.int 18) = some (.int 1000000000000000000, false) := by
  rw [gPow_i (by decide) (by decide) (by decide)]
  rfl
theorem atD_ints {ns : List Int} {j : Int} (h : 0 ≤ j) (h2 : j < ns.length) : ∃ v, ns[j.toNat]? = some v ∧ atD (ns.map PyData.int) j = some (.int v) := by
  have hj : j.toNat < ns.length := by omega
  refine ⟨ns[j.toNat], List.getElem?_eq_getElem hj, ?_⟩
  rw [atD_of h (by rw [List.length_map]; exact h2), List.getElem?_map, List.getElem?_eq_getElem hj]
  rfl
end
end Qp
end
section
set_option Elab.async false
set_option linter.all false
set_option maxRecDepth 100000
set_option maxHeartbeats 2000000
/-! Qm: texts as lists of codes; loops by an invariant. -/
namespace Qp
open PySem PySem.Spec PyProof.Rows L2
def strD (l : List Nat) : D := .str ⟨l.toArray⟩
theorem strD_inj {l m : List Nat} (h : strD l = strD m) : l = m := by
  unfold strD at h
  injection h with h
  injection h with h
  simpa using h
theorem str_cps (s : Str) : PyData.str s = strD s.cps.toList := by
  unfold strD
  rw [Array.toArray_toList]
theorem str_app (l m : List Nat) : (⟨l.toArray⟩ : Str) ++ ⟨m.toArray⟩ = ⟨(l ++ m).toArray⟩ := by
  show Str.append _ _ = _
  unfold Str.append
  simp
theorem str_len (l : List Nat) : (⟨l.toArray⟩ : Str).length = l.length := by simp [Str.length]
theorem gAdd_str {l m : List Nat} (h : l.length + m.length ≤ LIM) : gAdd (strD l) (strD m) = some (strD (l ++ m), false) := by
  show (if (⟨l.toArray⟩ : Str).length + (⟨m.toArray⟩ : Str).length ≤ LIM then _ else _) = _
  rw [str_len, str_len, if_pos h, str_app]
  rfl
theorem gLen_str {l : List Nat} (h : l.length ≤ LIM) : gLen (strD l) = some (.int l.length, false) := by
  show (if (⟨l.toArray⟩ : Str).length ≤ LIM then some (PyData.int ((⟨l.toArray⟩ : Str).length : Nat), false) else _) = _
  rw [str_len, if_pos h]
theorem gIx_str {l : List Nat} {j : Int} {c : Nat} (h : l.length ≤ LIM) (h0 : 0 ≤ j) (h1 : l[j.toNat]? = some c) : gIx (strD l) (.int j) = some (strD [c], false) := by
  have hj : j.toNat < l.length := (List.getElem?_eq_some_iff.mp h1).1
  show (if (⟨l.toArray⟩ : Str).length ≤ LIM then (atI l.toArray.toList j).bind fun c => some (PyData.str ⟨#[c]⟩, false) else none) = _
  rw [str_len, if_pos h]
  unfold atI ixN
  rw [if_pos h0, if_pos (by simp; omega)]
  show ((l.toArray.toList[j.toNat]?).bind fun c => some (PyData.str ⟨#[c]⟩, false)) = _
  rw [show l.toArray.toList = l by simp, h1]
  rfl
theorem gSl_str {l : List Nat} {a b : Nat} (h : l.length ≤ LIM) (hb : b ≤ l.length) : gSl (strD l) (some (a : Int)) (some (b : Int)) = some (strD ((l.drop a).take (b - a)), false) := by
  show (if (⟨l.toArray⟩ : Str).length ≤ LIM then some (PyData.str (cutS ⟨l.toArray⟩ (some (a : Int)) (some (b : Int))), false) else none) = _
  rw [str_len, if_pos h]
  unfold cutS strD
  rw [str_len, HT.sIx_nat, HT.sIx_nat, show l.toArray.toList = l by simp]
  have e : min b l.length = b := Nat.min_eq_left hb
  rw [e]
  by_cases ha : a ≤ l.length
  · rw [Nat.min_eq_left ha]
  · rw [Nat.min_eq_right (by omega), List.drop_eq_nil_of_le (Nat.le_refl _), List.drop_eq_nil_of_le (by omega), List.take_nil, List.take_nil]
theorem gSl_strTo {l : List Nat} {b : Nat} (h : l.length ≤ LIM) (hb : b ≤ l.length) : gSl (strD l) none (some (b : Int)) = some (strD (l.take b), false) := by
  show (if (⟨l.toArray⟩ : Str).length ≤ LIM then some (PyData.str (cutS ⟨l.toArray⟩ none (some (b : Int))), false) else none) = _
  rw [str_len, if_pos h]
  unfold cutS strD
  rw [str_len, HT.sIx_nat, HT.sIx_none, show l.toArray.toList = l by simp, Nat.min_eq_left hb, List.drop_zero, Nat.sub_zero]
theorem shaped_str {l : List Nat} (h : ∀ c ∈ l, c < 0x110000) : SeqAt.shaped (strD l) = true := by
  show (PyData.canLay0 (.str ⟨l.toArray⟩) && decide (PyData.depth (.str ⟨l.toArray⟩) ≤ 64)) = true
  have h1 : PyData.canLay0 (.str ⟨l.toArray⟩) = true := by
    simp only [PyData.canLay0, PyData.strOk]
    rw [Array.all_eq_true']
    intro c hc
    exact decide_eq_true (h c (by simpa using hc))
  rw [h1]
  rfl
theorem eqv_str {l m : List Nat} : PyData.eqv (strD l) (strD m) = (l == m) := by
  show ((⟨l.toArray⟩ : Str) == ⟨m.toArray⟩) = (l == m)
  rw [Bool.eq_iff_iff, beq_iff_eq, beq_iff_eq]
  constructor
  · intro h
    injection h with h
    simpa using h
  · intro h
    rw [h]
theorem gEq_str {l m : List Nat} (h : ∀ c ∈ l, c < 0x110000) (h' : ∀ c ∈ m, c < 0x110000) : gEq (strD l) (strD m) = some (.bool (l == m), false) := by
  unfold gEq
  rw [shaped_str h, shaped_str h', eqv_str]
  rfl
@[simp] theorem isNone_str (l : List Nat) : isNone (strD l) = false := rfl
@[simp] theorem isT_str (n : String) (l : List Nat) : isT n (strD l) = (n == "str") := rfl
@[simp] theorem flatD_str (l : List Nat) : flatD (strD l) = true := rfl
theorem strsOf_map : ∀ ls : List (List Nat), strsOf (ls.map strD) = some (ls.map fun l => (⟨l.toArray⟩ : Str))
  | [] => rfl
  | l :: r => by
    show ((strsOf (r.map strD)).bind fun t => some ((⟨l.toArray⟩ : Str) :: t)) = _
    rw [strsOf_map r]
    rfl
theorem joinL_nil : ∀ ls : List (List Nat), TL.joinL [] ls = ls.flatten
  | [] => rfl
  | [p] => by simp [TL.joinL]
  | p :: q :: r => by
    show p ++ ([] ++ TL.joinL [] (q :: r)) = _
    rw [joinL_nil (q :: r)]
    simp
theorem sum_len (ls : List (List Nat)) : ((ls.map fun l => (⟨l.toArray⟩ : Str)).map (·.length)).sum = ls.flatten.length := by
  induction ls with
  | nil => rfl
  | cons l r ih =>
    rw [List.map_cons, List.map_cons, List.sum_cons, ih, List.flatten_cons, List.length_append, str_len]
theorem gJoin_nil {ls : List (List Nat)} (h : ls.flatten.length ≤ LIM) {s : Str} (hs : s = ⟨#[]⟩) : gJoin s (.list (ls.map strD)) = some (strD ls.flatten, false) := by
  subst hs
  show ((strsOf (ls.map strD)).bind _) = _
  rw [strsOf_map, Option.bind_some, sum_len]
  rw [if_pos (by show _ + _ * 0 ≤ LIM; omega)]
  have e : Txt.join ⟨#[]⟩ (ls.map fun l => (⟨l.toArray⟩ : Str)) = ⟨ls.flatten.toArray⟩ := by
    refine ext_toList ?_
    rw [TL.join_eq]
    have := TL.tl_join ⟨#[]⟩ (ls.map fun l => (⟨l.toArray⟩ : Str))
    rw [show TL.tl (⟨#[]⟩ : Str) = [] from rfl, joinL_nil, List.map_map] at this
    rw [show (TL.tl ∘ fun l => (⟨l.toArray⟩ : Str)) = fun l : List Nat => l from funext fun l => by simp [TL.tl], List.map_id'] at this
    simpa using this
  rw [e]
  rfl
/-! ### loops -/
theorem loopF_inv {ft : GX} {body : SX} (I : Nat → En → Prop) (items : List D) (h : ∀ i x c, items[i]? = some x → I i c → ∃ c1 c2, ft x c = some c1 ∧ body c1 = some (.nx c2) ∧ I (i + 1) c2) {cs : En} (h0 : I 0 cs) : ∃ c, loopF ft body items cs = some (.nx c) ∧ I items.length c := by
  have gen : ∀ (k : Nat) (r : List D) (i : Nat) (c : En), r.length = k → items.drop i = r → I i c → ∃ c', loopF ft body r c = some (.nx c') ∧ I (i + r.length) c' := by
    intro k
    induction k with
    | zero =>
      intro r i c hr hd hi
      rw [List.length_eq_zero_iff] at hr
      subst hr
      exact ⟨c, rfl, hi⟩
    | succ k ih =>
      intro r i c hr hd hi
      cases r with
      | nil => cases hr
      | cons x r =>
        have hx : items[i]? = some x := by
          have := congrArg (fun l => l[0]?) hd
          simpa using this
        obtain ⟨c1, c2, e1, e2, e3⟩ := h i x c hx hi
        have hd' : items.drop (i + 1) = r := by
          have := congrArg (List.drop 1) hd
          simpa [List.drop_drop, Nat.add_comm] using this
        obtain ⟨c', q1, q2⟩ := ih r (i + 1) c2 (by simpa using hr) hd' e3
        refine ⟨c', ?_, by rw [List.length_cons, show i + (r.length + 1) = i + 1 + r.length by omega]; exact q2⟩
        rw [loopF_cons, e1, kL1_s, e2, kL2_n]
        exact q1
  obtain ⟨c, q1, q2⟩ := gen items.length items 0 cs rfl (by simp) h0
  exact ⟨c, q1, by simpa using q2⟩
/-- a loop that may end early by a return -/
theorem loopF_search {ft : GX} {body : SX} (I : Nat → En → Prop) (R : Res → Prop) (items : List D) (h : ∀ i x c, items[i]? = some x → I i c → ∃ c1, ft x c = some c1 ∧ ((∃ c2, body c1 = some (.nx c2) ∧ I (i + 1) c2) ∨ ∃ d fr c2, body c1 = some (.rt d fr c2) ∧ R (.rt d fr c2))) {cs : En} (h0 : I 0 cs) :
    (∃ c, loopF ft body items cs = some (.nx c) ∧ I items.length c) ∨ ∃ d fr c, loopF ft body items cs = some (.rt d fr c) ∧ R (.rt d fr c) := by
  have gen : ∀ (k : Nat) (r : List D) (i : Nat) (c : En), r.length = k → items.drop i = r → I i c → (∃ c', loopF ft body r c = some (.nx c') ∧ I (i + r.length) c') ∨ ∃ d fr c', loopF ft body r c = some (.rt d fr c') ∧ R (.rt d fr c') := by
    intro k
    induction k with
    | zero =>
      intro r i c hr hd hi
      rw [List.length_eq_zero_iff] at hr
      subst hr
      exact .inl ⟨c, rfl, hi⟩
    | succ k ih =>
      intro r i c hr hd hi
      cases r with
      | nil => cases hr
      | cons x r =>
        have hx : items[i]? = some x := by
          have := congrArg (fun l => l[0]?) hd
          simpa using this
        have hd' : items.drop (i + 1) = r := by
          have := congrArg (List.drop 1) hd
          simpa [List.drop_drop, Nat.add_comm] using this
        obtain ⟨c1, e1, ⟨c2, e2, e3⟩ | ⟨d, fr, c2, e2, e3⟩⟩ := h i x c hx hi
        · rcases ih r (i + 1) c2 (by simpa using hr) hd' e3 with ⟨c', q1, q2⟩ | ⟨d, fr, c', q1, q2⟩
          · refine .inl ⟨c', ?_, by rw [List.length_cons, show i + (r.length + 1) = i + 1 + r.length by omega]; exact q2⟩
            rw [loopF_cons, e1, kL1_s, e2, kL2_n]
            exact q1
          · refine .inr ⟨d, fr, c', ?_, q2⟩
            rw [loopF_cons, e1, kL1_s, e2, kL2_n]
            exact q1
        · refine .inr ⟨d, fr, c2, ?_, e3⟩
          rw [loopF_cons, e1, kL1_s, e2, kL2_r]
  rcases gen items.length items 0 cs rfl (by simp) h0 with ⟨c, q1, q2⟩ | z
  · exact .inl ⟨c, q1, by simpa using q2⟩
  · exact .inr z
theorem rng_item {lo : Int} {n i : Nat} {x : D} (h : (rngD lo n)[i]? = some x) : i < n ∧ x = .int (lo + (i : Int)) := rngD_get h
theorem rngD_zero (lo : Int) : rngD lo 0 = [] := rfl
/-! ### depth -/
theorem depthAll_mem : ∀ {ds : List D} {d : D}, d ∈ ds → d.depth ≤ PyData.depthAll ds
  | [], _, h => (by cases h)
  | x :: r, d, h => by
    simp only [PyData.depthAll]
    rcases List.mem_cons.mp h with e | e
    · rw [e]; exact Nat.le_max_left _ _
    · exact Nat.le_trans (depthAll_mem e) (Nat.le_max_right _ _)
end Qp
end
section
set_option Elab.async false
set_option linter.all false
set_option maxRecDepth 100000
set_option maxHeartbeats 2000000
/-! Qn: dicts; stars; isinstance of several; more of lists. -/
namespace Qp
open PySem PySem.Spec PyProof.Rows L2
section
variable {K : PySem.W.Frag} {F : Hp}
def isK (k : Key) : D → Bool
  | .int i => decide ((.inl i : Key) = k)
  | .str s => decide ((.inr s : Key) = k)
  | _ => false
theorem isK_kD (k j : Key) : isK k (kD j) = decide (j = k) := by cases j <;> rfl
def keyD : D → Option Key
  | .int i => some (.inl i)
  | .str s => some (.inr s)
  | _ => none
theorem key_rp {v : V} {d : D} {k : Key} (r : Rp K F v d) (h : keyD d = some k) : v = kV k := by
  unfold keyD at h
  split at h
  · cases h; exact r.int_eq
  · cases h; exact r.str_eq
  · cases h
def valD (es : List (D × D)) (k : Key) : Option D := (es.find? fun p => isK k p.1).map (·.2)
theorem val_pd {R : V → D → Prop} : ∀ {kvs : List (Key × V)} {es : List (D × D)}, es.map (·.1) = kvs.map (fun p => kD p.1) → Paired R (kvs.map (·.2)) (es.map (·.2)) → ∀ k, (valV kvs k = none ∧ valD es k = none) ∨ ∃ v d, valV kvs k = some v ∧ valD es k = some d ∧ R v d
  | [], [], _, _, k => .inl ⟨rfl, rfl⟩
  | [], _ :: _, e, _, _ => by simp at e
  | _ :: _, [], e, _, _ => by simp at e
  | (j, v) :: kvs, (x, d) :: es, e, .cons r t, k => by
    rw [List.map_cons, List.map_cons] at e
    injection e with e1 e2
    dsimp only at e1
    subst e1
    by_cases h : j = k
    · exact .inr ⟨v, d, valV_pos h, by simp [valD, isK_kD, h], r⟩
    · have := val_pd e2 t k
      rw [valV_neg (p := (j, v)) h]
      have e3 : valD ((kD j, d) :: es) k = valD es k := by simp [valD, isK_kD, h]
      rw [e3]
      exact this
def putD (es : List (D × D)) (k : Key) (d : D) : List (D × D) := if (es.any fun p => isK k p.1) = true then es.map (fun p => if isK k p.1 = true then (p.1, d) else p) else es ++ [(kD k, d)]
theorem any_pd : ∀ {kvs : List (Key × V)} {es : List (D × D)}, es.map (·.1) = kvs.map (fun p => kD p.1) → ∀ k, (es.any fun p => isK k p.1) = kvs.any fun p => decide (p.1 = k)
  | [], [], _, _ => rfl
  | [], _ :: _, e, _ => by simp at e
  | _ :: _, [], e, _ => by simp at e
  | (j, v) :: kvs, (x, d) :: es, e, k => by
    rw [List.map_cons, List.map_cons] at e
    injection e with e1 e2
    dsimp only at e1
    subst e1
    rw [List.any_cons, List.any_cons, any_pd e2 k, isK_kD]
theorem map_pd {R : V → D → Prop} {v : V} {d : D} {k : Key} (r : R v d) : ∀ {kvs : List (Key × V)} {es : List (D × D)}, es.map (·.1) = kvs.map (fun p => kD p.1) → Paired R (kvs.map (·.2)) (es.map (·.2)) →
    (es.map (fun p => if isK k p.1 = true then (p.1, d) else p)).map (·.1) = (kvs.map fun p => if p.1 = k then (p.1, v) else p).map (fun p => kD p.1) ∧ Paired R ((kvs.map fun p => if p.1 = k then (p.1, v) else p).map (·.2)) ((es.map (fun p => if isK k p.1 = true then (p.1, d) else p)).map (·.2))
  | [], [], _, _ => ⟨rfl, .nil⟩
  | [], _ :: _, e, _ => by simp at e
  | _ :: _, [], e, _ => by simp at e
  | (j, u) :: kvs, (x, c) :: es, e, .cons s t => by
    rw [List.map_cons, List.map_cons] at e
    injection e with e1 e2
    dsimp only at e1
    subst e1
    obtain ⟨h1, h2⟩ := map_pd r (k := k) e2 t
    by_cases h : j = k
    · simp only [List.map_cons, isK_kD, h, decide_true, if_true]
      exact ⟨by rw [h1], .cons r h2⟩
    · simp only [List.map_cons, isK_kD, h, decide_false, if_false, Bool.false_eq_true]
      exact ⟨by rw [h1], .cons s h2⟩
theorem put_pd {R : V → D → Prop} {v : V} {d : D} {k : Key} (r : R v d) {kvs : List (Key × V)} {es : List (D × D)} (e : es.map (·.1) = kvs.map (fun p => kD p.1)) (p : Paired R (kvs.map (·.2)) (es.map (·.2))) :
    (putD es k d).map (·.1) = (putK kvs k v).map (fun p => kD p.1) ∧ Paired R ((putK kvs k v).map (·.2)) ((putD es k d).map (·.2)) := by
  unfold putD putK
  rw [any_pd e k]
  split
  · exact map_pd r e p
  · constructor
    · rw [List.map_append, List.map_append, e]
      rfl
    · rw [List.map_append, List.map_append]
      exact Pd.append p (.cons r .nil)
theorem len_pd {kvs : List (Key × V)} {es : List (D × D)} (e : es.map (·.1) = kvs.map (fun p => kD p.1)) : kvs.length = es.length := by
  have := congrArg List.length e
  simpa using this.symm
theorem OwnAt.dict {o : Option HO} {es : List (D × D)} (h : OwnAt K F o (.dict es)) : ∃ kvs, o = Option.some (.dK kvs) ∧ es.map (·.1) = kvs.map (fun p => kD p.1) ∧ Paired (Rp K F) (kvs.map (·.2)) (es.map (·.2)) := by
  cases h with
  | dic e p => exact ⟨_, rfl, e, p⟩
theorem Vw.dict {H : Hp} {M : Addr → Prop} {v : V} {es : List (D × D)} (h : Vw K H M v (.dict es)) : ∃ a kvs, v = .ref a ∧ Rd H a (.dK kvs) ∧ es.map (·.1) = kvs.map (fun p => kD p.1) ∧ Paired (Rp K (cut H M)) (kvs.map (·.2)) (es.map (·.2)) := by
  cases h with
  | sc r _ h => exact absurd rfl (h _)
  | dic h e p => exact ⟨_, _, rfl, h, e, p⟩
end
section
variable {X : Cx} {K : PySem.W.Frag} {e a b : Expr} {es : List Expr} {te ta tb tk to : TE} {ts : TA} {fe fa fb fk : EX} {fs : AX} {pos fpos cpos xpos : Pos} {x : Str} {i : Nat}
def evDnew : EX := fun cs => some (.dict [], true, cs)
theorem de_dnew : DE X (.Dict [] [] pos) tDNewK evDnew := by
  refine ⟨pe_dnewK, ?_⟩
  intro B IO Z σ H cs ok d fr cs' e Q q
  cases e
  exact fun p hp => q _ _ (Pe.of (Post.refl ok) (Ex.new hp) (VOk.new hp ok.md (.dic rfl .nil)))
/-! ### reading -/
def gDget : G2 := fun d e => match d with
  | .dict es => (keyD e).bind fun k => (valD es k).bind fun v => some (v, false)
  | _ => none
def rDGet : R2 := fun x y H Q => ∃ a v, x = V.ref a ∧ DGet H a y (some v) ∧ Q v H
theorem sw_dget : SRw K rDGet gDget := by
  intro H M hm x y d e rx ry z fr q Q k
  unfold gDget at q
  split at q
  · obtain ⟨kk, h1, q⟩ := Option.bind_eq_some_iff.mp q
    obtain ⟨v, h2, q⟩ := Option.bind_eq_some_iff.mp q
    cases q
    obtain ⟨a, kvs, rfl, hr, he, hp⟩ := rx.dict
    rcases val_pd he hp kk with ⟨_, h3⟩ | ⟨u, v', h3, h4, h5⟩
    · rw [h2] at h3; cases h3
    · rw [h2] at h4
      cases h4
      exact ⟨a, u, rfl, .inl ⟨kvs, kk, hr, key_rp ry h1, h3.symm⟩, k _ H (Ex.refl H) (VOk.of h5)⟩
  · cases q
theorem de_dgetV (hu : X.A.units + 1 < cLine) (ha : DE X (.Name x xpos) (tVar i) (evVar i)) (hb : DE X b tb fb) (hs : NoSl b := by exact fun _ _ => rfl) : DE X (.Subscript (.Name x xpos) b pos) (tDGet (tVar i) tb) (evIxV gDget i fb) := ⟨pe_dget hu ha.pe hb.pe hs, se_ixv sw_dget hb.se⟩
theorem de_dget (hu : X.A.units + 1 < cLine) (ha : DE X a ta fa) (hb : DE X b tb fb) (hs : NoSl b := by exact fun _ _ => rfl) : DE X (.Subscript a b pos) (tDGet ta tb) (ev2 gDget fa fb) := ⟨pe_dget hu ha.pe hb.pe hs, se_2 ha.se hb.se sw_dget.two⟩
def gDin (neg : Bool) : G2 := fun e d => match d with
  | .dict es => (keyD e).bind fun k => some (.bool ((valD es k).isSome != neg), false)
  | _ => none
def rDIn : R2 := fun y x H Q => ∃ a o, x = V.ref a ∧ DGet H a y o ∧ Q (.bl o.isSome) H
def rDNotIn : R2 := fun y x H Q => ∃ a o, x = V.ref a ∧ DGet H a y o ∧ Q (.bl (!o.isSome)) H
theorem din_some {es : List (D × D)} {kvs : List (Key × V)} {R : V → D → Prop} (he : es.map (·.1) = kvs.map (fun p => kD p.1)) (hp : Paired R (kvs.map (·.2)) (es.map (·.2))) (k : Key) : (valV kvs k).isSome = (valD es k).isSome := by
  rcases val_pd he hp k with ⟨h1, h2⟩ | ⟨_, _, h1, h2, _⟩ <;> rw [h1, h2] <;> rfl
theorem sw_din : SRw2 K rDIn (gDin false) := by
  intro H M hm x y d e rx ry z fr q Q k
  unfold gDin at q
  split at q
  · obtain ⟨kk, h1, q⟩ := Option.bind_eq_some_iff.mp q
    cases q
    obtain ⟨a, kvs, rfl, hr, he, hp⟩ := ry.dict
    refine ⟨a, _, rfl, .inl ⟨kvs, kk, hr, key_rp rx h1, rfl⟩, ?_⟩
    rw [din_some he hp]
    refine k _ H (Ex.refl H) (VOk.of ?_)
    rw [Bool.bne_false]
    exact .bl _
  · cases q
theorem sw_dnotin : SRw2 K rDNotIn (gDin true) := by
  intro H M hm x y d e rx ry z fr q Q k
  unfold gDin at q
  split at q
  · obtain ⟨kk, h1, q⟩ := Option.bind_eq_some_iff.mp q
    cases q
    obtain ⟨a, kvs, rfl, hr, he, hp⟩ := ry.dict
    refine ⟨a, _, rfl, .inl ⟨kvs, kk, hr, key_rp rx h1, rfl⟩, ?_⟩
    rw [din_some he hp]
    refine k _ H (Ex.refl H) (VOk.of ?_)
    rw [Bool.bne_true]
    exact .bl _
  · cases q
theorem de_dinV (hu : X.A.units + 1 < cLine) (ha : DE X a ta fa) (hb : DE X (.Name x xpos) (tVar i) (evVar i)) : DE X (.Compare a [.In] [.Name x xpos] pos) (tDIn ta (tVar i)) (evVIn (gDin false) fa i) := ⟨pe_cmp (pc_din hu ha.pe hb.pe), se_inv sw_din ha.se⟩
theorem de_dnotinV (hu : X.A.units + 1 < cLine) (ha : DE X a ta fa) (hb : DE X (.Name x xpos) (tVar i) (evVar i)) : DE X (.Compare a [.NotIn] [.Name x xpos] pos) (tDNotIn ta (tVar i)) (evVIn (gDin true) fa i) := ⟨pe_cmp (pc_dnotin hu ha.pe hb.pe), se_inv sw_dnotin ha.se⟩
theorem dt_dinV (hu : X.A.units + 1 < cLine) (ha : DE X a ta fa) (hb : DE X (.Name x xpos) (tVar i) (evVar i)) : DT X (.Compare a [.In] [.Name x xpos] pos) (tB (tDIn ta (tVar i))) (evT (evVIn (gDin false) fa i)) := ⟨pt_cmp (pc_din hu ha.pe hb.pe), st_test (se_inv sw_din ha.se)⟩
theorem dt_dnotinV (hu : X.A.units + 1 < cLine) (ha : DE X a ta fa) (hb : DE X (.Name x xpos) (tVar i) (evVar i)) : DT X (.Compare a [.NotIn] [.Name x xpos] pos) (tB (tDNotIn ta (tVar i))) (evT (evVIn (gDin true) fa i)) := ⟨pt_cmp (pc_dnotin hu ha.pe hb.pe), st_test (se_inv sw_dnotin ha.se)⟩
/-! ### an owned dict -/
def ownD (cs : En) (i : Nat) : Option (List (D × D)) := match cs[i]? with
  | some (.own (.dict es)) => some es
  | some (.io (.dict es)) => some es
  | _ => none
theorem Ok.ownD {B : Hp} {IO : List (Nat × Addr)} {Z : Addr → Prop} {σ : St} {H : Hp} {cs : En} {i : Nat} {es : List (D × D)} (ok : Ok K B IO Z σ H cs) (h : ownD cs i = some es) :
    ∃ a kvs, σ[i]? = some (some (.ref a)) ∧ H a = some (.dK kvs) ∧ es.map (·.1) = kvs.map (fun p => kD p.1) ∧ Paired (Rp K (cut H (Md σ cs Z))) (kvs.map (·.2)) (es.map (·.2)) ∧ Md σ cs Z a := by
  unfold Qp.ownD at h
  split at h
  · rename_i ds hd
    cases h
    obtain ⟨a, h1, h2⟩ := ok.own i _ (.inl hd)
    obtain ⟨kvs, h3, h4, h5⟩ := h2.dict
    exact ⟨a, kvs, h1, h3, h4, h5, .inr ⟨i, h1, _, .inl hd⟩⟩
  · rename_i ds hd
    cases h
    obtain ⟨a, h1, h2⟩ := ok.own i _ (.inr hd)
    obtain ⟨kvs, h3, h4, h5⟩ := h2.dict
    exact ⟨a, kvs, h1, h3, h4, h5, .inr ⟨i, h1, _, .inr hd⟩⟩
  · cases h
def evLenD (i : Nat) : EX := fun cs => (ownD cs i).bind fun es => some (.int es.length, false, cs)
theorem de_lenD (hg : Gl X "len") (hm : X.mg "len" = none) (ha : DE X (.Name x xpos) (tVar i) (evVar i)) :
    DE X (.Call (.Name "len" fpos) [.Name x xpos] [] cpos) (tCB (fun xs H Q => ∃ a kvs, xs = [V.ref a] ∧ H a = some (HO.dK kvs) ∧ Q (V.int ↑kvs.length) H) (tCons (tVar i) tNil)) (evLenD i) := by
  refine ⟨pe_callB call_lenD hg hm PySem.boot_len (pa_cons ha.pe pa_nil), ?_⟩
  intro B IO Z σ H cs ok d fr cs' e Q q
  unfold evLenD at e
  obtain ⟨es, e1, e⟩ := Option.bind_eq_some_iff.mp e
  cases e
  obtain ⟨a, kvs, h1, h2, h3, _, _⟩ := ok.ownD e1
  refine ⟨_, h1, a, kvs, rfl, h2, q _ H (.dat (Post.refl ok) ?_)⟩
  rw [len_pd h3]
  exact .int _
def fPut (k : Key) (d : D) : D → Option D
  | .dict es => if es.length < LIM then some (.dict (putD es k d)) else none
  | _ => none
theorem Ok.put {B : Hp} {IO : List (Nat × Addr)} {Z : Addr → Prop} {σ : St} {H : Hp} {cs cs' : En} {i : Nat} {k : Key} {d : D} {v : V} (ok : Ok K B IO Z σ H cs) (e : Qp.upL cs i (fPut k d) = some cs') (r : Rp K (cut H (Md σ cs Z)) v d) {a : Addr} (hs : σ[i]? = some (some (.ref a))) :
    ∃ kvs, H a = some (.dK kvs) ∧ kvs.length < sizeLine ∧ Post K B IO Z σ H cs σ (upd H a (.dK (putK kvs k v))) cs' := by
  obtain ⟨a', d0, d', h1, h2, h3, kk⟩ := ok.upL e
  rw [hs] at h1
  cases h1
  have m := ok_md (Z := Z) e hs
  unfold fPut at h2
  split at h2
  · split at h2
    · rename_i hl
      cases h2
      obtain ⟨kvs, h4, h5, h6⟩ := h3.dict
      refine ⟨kvs, h4, by rw [len_pd h5]; exact lim_lt hl, kk _ upd_kept ?_⟩
      rw [upd_same]
      have := put_pd (k := k) (R := Rp K (cut H (Md σ cs Z))) r h5 h6
      exact .dic this.1 (Rp.monoA (cut_upd m) this.2)
    · cases h2
  · cases h2
def evSetd (i : Nat) (fk fe : EX) : EX := fun cs => (ownD cs i).bind fun _ => (fk cs).bind fun s => (fe s.2.2).bind fun r => (ownD r.2.2 i).bind fun es => (keyD s.1).bind fun k => if es.length < LIM then (match valD es k with
    | some o => some (o, false, r.2.2)
    | none => (upL r.2.2 i (fPut k r.1)).bind fun c => some (r.1, false, c)) else none
theorem de_setd {apos : Pos} (ha : DE X (.Name x xpos) (tVar i) (evVar i)) (hk : DE X a tk fk) (he : DE X e te fe) (m : M2 X (.Name x xpos) "setdefault" apos a e cpos) :
    DE X (.Call (.Attribute (.Name x xpos) "setdefault" apos) [a, e] [] cpos) (tDSetd (tVar i) tk te) (evSetd i fk fe) := by
  refine ⟨pe_dsetd ha.pe hk.pe he.pe m, ?_⟩
  intro B IO Z σ H cs ok d fr cs' e Q q
  unfold evSetd at e
  obtain ⟨es0, e0, e⟩ := Option.bind_eq_some_iff.mp e
  obtain ⟨⟨d1, f1, c1⟩, e1, e⟩ := Option.bind_eq_some_iff.mp e
  obtain ⟨⟨d2, f2, c2⟩, e2, e⟩ := Option.bind_eq_some_iff.mp e
  obtain ⟨es, e3, e⟩ := Option.bind_eq_some_iff.mp e
  obtain ⟨k, e4, e⟩ := Option.bind_eq_some_iff.mp e
  obtain ⟨a0, kvs0, hs, h2, _, _, _⟩ := ok.ownD e0
  dsimp only at e3 e4 e
  split at e
  · rename_i hl
    refine ⟨_, hs, a0, rfl, .inl ⟨kvs0, .inl h2⟩, hk.se ok e1 _ fun y H1 w1 => he.se w1.post.ok e2 _ fun z H2 w2 => ?_⟩
    have p := w1.post.trans w2.post
    obtain ⟨a1, kvs, hs', h3, h4, h5, _⟩ := w2.post.ok.ownD e3
    rw [hs] at hs'
    cases hs'
    refine ⟨kvs, k, h3, key_rp w1.rp e4, by rw [len_pd h4]; exact lim_lt hl, fun v hv => ?_, fun hv => ?_⟩
    · rcases val_pd h4 h5 k with ⟨n1, _⟩ | ⟨v', o, n1, n2, n3⟩
      · rw [hv] at n1; cases n1
      · rw [hv] at n1
        cases n1
        rw [n2] at e
        cases e
        exact q v H2 (.dat p n3)
    · rcases val_pd h4 h5 k with ⟨_, n2⟩ | ⟨v', o, n1, _, _⟩
      · rw [n2] at e
        obtain ⟨c3, e5, e⟩ := Option.bind_eq_some_iff.mp e
        cases e
        obtain ⟨kvs', g1, g2, g3⟩ := w2.post.ok.put e5 w2.rp hs
        rw [h3] at g1
        cases g1
        exact q z _ (.dat (p.trans g3) (w2.rp.mono g3.le))
      · rw [hv] at n1; cases n1
  · cases e
def isOwnD (cs : En) (i : Nat) : Bool := (ownD cs i).isSome
def sDput (i : Nat) (fk fe : EX) : SX := fun cs => (fe cs).bind fun r => (ownD r.2.2 i).bind fun _ => (fk r.2.2).bind fun s => (keyD s.1).bind fun k => (upL s.2.2 i (fPut k r.1)).bind fun c => some (.nx c)
theorem ds_dput {spos : Pos} (hu : X.A.units + 1 < cLine) (ha : DE X (.Name x xpos) (tVar i) (evVar i)) (hk : DE X a tk fk) (he : DE X e te fe) (hs : swapsWith e (some (.Subscript (.Name x xpos) a spos)) pos.line X.env = pure false := by rfl) :
    DS X (.Assign [.Subscript (.Name x xpos) a spos] e pos) (sDPut (tVar i) tk te) (sDput i fk fe) := by
  refine ⟨ps_dput hu ha.pe hk.pe he.pe hs, ?_⟩
  intro B IO Z σ H cs ok r e Dn q
  unfold sDput at e
  obtain ⟨⟨d1, f1, c1⟩, e1, e⟩ := Option.bind_eq_some_iff.mp e
  obtain ⟨es0, e0, e⟩ := Option.bind_eq_some_iff.mp e
  obtain ⟨⟨d2, f2, c2⟩, e2, e⟩ := Option.bind_eq_some_iff.mp e
  obtain ⟨k, e3, e⟩ := Option.bind_eq_some_iff.mp e
  obtain ⟨c3, e4, e⟩ := Option.bind_eq_some_iff.mp e
  cases e
  refine he.se ok e1 _ fun y H1 w1 => ?_
  obtain ⟨a0, kvs0, hs, h2, _, _, _⟩ := w1.post.ok.ownD e0
  refine ⟨_, hs, hk.se w1.post.ok e2 _ fun z H2 w2 => ?_⟩
  obtain ⟨kvs, g1, g2, g3⟩ := w2.post.ok.put e4 (w1.rp.mono w2.post.le) hs
  rw [key_rp w2.rp e3]
  exact ⟨a0, _, rfl, DPut.k g1 g2, q σ _ ((w1.post.trans w2.post).trans g3)⟩
/-! ### stars in displays -/
def evStar (f : EX) (g : AX) : AX := fun cs => (f cs).bind fun r => match r.1 with
  | .list ds => (g r.2.2).bind fun s => some (ds ++ s.1, s.2)
  | .tuple ds => (g r.2.2).bind fun s => some (ds ++ s.1, s.2)
  | _ => none
theorem da_star {p : Pos} (h : DE X e te fe) (hr : DA X es ts fs) (hs : starEach (.Starred e p :: es) X.env = (true, eval e X.env) :: starEach es X.env := by rfl) : DA X (.Starred e p :: es) (StX.tStar X.K te ts) (evStar fe fs) := by
  refine ⟨StX.pa_star h.pe hr.pa hs, ?_⟩
  intro B IO Z σ H cs ok ds cs' e Q q
  unfold evStar at e
  obtain ⟨⟨d1, f1, c1⟩, e1, e⟩ := Option.bind_eq_some_iff.mp e
  dsimp only at e
  refine h.se ok e1 _ fun x H1 w1 => ?_
  split at e
  · obtain ⟨⟨d2, c2⟩, e2, e⟩ := Option.bind_eq_some_iff.mp e
    cases e
    obtain ⟨a, xs, rfl, h1, h2⟩ := w1.rp.list
    exact ⟨a, xs, rfl, .inr (cut_le.sqL h1), hr.sa w1.post.ok e2 _ fun ys H2 p2 v2 => q _ H2 (w1.post.trans p2) (Pd.append (Rp.monoA p2.le h2) v2)⟩
  · obtain ⟨⟨d2, c2⟩, e2, e⟩ := Option.bind_eq_some_iff.mp e
    cases e
    obtain ⟨a, xs, rfl, h1, h2⟩ := w1.rp.tuple
    exact ⟨a, xs, rfl, .inl (cut_le.sqT h1), hr.sa w1.post.ok e2 _ fun ys H2 p2 v2 => q _ H2 (w1.post.trans p2) (Pd.append (Rp.monoA p2.le h2) v2)⟩
  · cases e
end
end Qp
end
section
set_option Elab.async false
set_option linter.all false
set_option maxRecDepth 100000
set_option maxHeartbeats 2000000
/-! Qo: more of lists; isinstance of several; truths. -/
namespace Qp
open PySem PySem.Spec PyProof.Rows L2
section
variable {X : Cx} {K : PySem.W.Frag} {e a b : Expr} {es : List Expr} {te ta tb tk to : TE} {ts : TA} {fe fa fb fk : EX} {fs : AX} {pos fpos cpos xpos apos : Pos} {x : Str} {i : Nat}
theorem ex_le {H H' : Hp} (x : Ex H H') : Le H H' := fun a u _ r => r.elim (fun r => .inl (x a _ r)) fun ⟨o, r⟩ => .inr ⟨o, x a _ r⟩
/-! ### xs.insert(k, e) -/
def fIns (k : Int) (d : D) : D → Option D
  | .list ds => if (decide (0 ≤ k) && (decide (k ≤ 1000000000) && decide (ds.length < LIM))) = true then some (.list (ds.take k.toNat ++ [d] ++ ds.drop k.toNat)) else none
  | _ => none
def intD : D → Option Int
  | .int i => some i
  | _ => none
theorem intD_eq {d : D} {j : Int} (h : intD d = some j) : d = .int j := by
  unfold intD at h
  split at h
  · cases h; rfl
  · cases h
def evIns (i : Nat) (fk fe : EX) : EX := fun cs => if isOwnL cs i = true then (fk cs).bind fun s => (intD s.1).bind fun j => (fe s.2.2).bind fun r => (upL r.2.2 i (fIns j r.1)).bind fun c => some (.none, false, c) else none
theorem de_ins (hv : DE X (.Name x xpos) (tVar i) (evVar i)) (hk : DE X a tk fk) (he : DE X e te fe)
    (hbase : attributeBase (.Name x xpos) "insert" X.env (eval (.Name x xpos) X.env) = eval (.Name x xpos) X.env := by rfl)
    (hfew : ((backTo pos (starEach [a, e] X.env)).all (fun x => !x.1) && (backToKw pos (keywordEach [] X.env)).all (fun x => x.1.isSome)
      && decide ([a, e].length + ([] : List Keyword).length + (if ([] : List Keyword).isEmpty then 0 else 1) < 30)) = true := by rfl)
    (hline : (apos.endLine == pos.line) = true := by rfl) (hs : starEach [a, e] X.env = (false, eval a X.env) :: starEach [e] X.env := by rfl) (hs2 : starEach [e] X.env = (false, eval e X.env) :: starEach [] X.env := by rfl) (hplain : (backTo pos (starEach [e] X.env)).any (·.1) = false := by rfl) :
    DE X (.Call (.Attribute (.Name x xpos) "insert" apos) [a, e] [] pos) (tBM X.K "list" (fun x vs H Q =>
    ∃ l xs i y, x = V.ref l ∧ vs = [V.int i, y] ∧ H l = some (HO.lst xs) ∧ xs.length < sizeLine ∧ 0 ≤ i ∧ i < 2 ^ 63 ∧ Q V.non (upd H l (HO.lst (List.take i.toNat xs ++ [y] ++ List.drop i.toNat xs)))) (tVar i) (tCons tk (tCons te tNil))) (evIns i fk fe) := by
  refine ⟨pe_bm PySem.F.plainAttrs_list PySem.F.slot_list_insert PySem.F.type_list_insert mt_insert hv.pe (pa_cons hk.pe (pa_cons he.pe pa_nil hs2) hs) hbase hfew hline hs hplain, ?_⟩
  intro B IO Z σ H cs ok d fr cs' e Q q
  unfold evIns at e
  split at e
  · rename_i ho
    obtain ⟨⟨d0, f0, c0⟩, e0, e⟩ := Option.bind_eq_some_iff.mp e
    obtain ⟨j, ej, e⟩ := Option.bind_eq_some_iff.mp e
    obtain ⟨⟨d1, f1, c1⟩, e1, e⟩ := Option.bind_eq_some_iff.mp e
    obtain ⟨c2, e2, e⟩ := Option.bind_eq_some_iff.mp e
    cases e
    obtain ⟨a0, xs, hs, hx, _⟩ := ok.ownL ho
    refine ⟨_, hs, .inl ⟨rfl, xs, SqL.of hx⟩, hk.se ok e0 _ fun z H0 w0 => he.se w0.post.ok e1 _ fun y H1 w1 => ?_⟩
    obtain ⟨a', d, d', h1, h2, h3, k⟩ := w1.post.ok.upL e2
    rw [hs] at h1
    cases h1
    have m := ok_md (Z := Z) e2 hs
    unfold fIns at h2
    split at h2
    · split at h2
      · rename_i hl
        rw [Bool.and_eq_true, Bool.and_eq_true, decide_eq_true_eq, decide_eq_true_eq, decide_eq_true_eq] at hl
        cases h2
        obtain ⟨ys, h4, h5⟩ := h3.list
        have rj := w0.rp
        dsimp only at ej
        rw [intD_eq ej] at rj
        refine ⟨a0, ys, j, y, rfl, by rw [rj.int_eq], h4, by rw [Pd.len h5]; exact lim_lt hl.2.2, hl.1, by omega, ?_⟩
        refine q _ _ (.dat ((w0.post.trans w1.post).trans (k _ upd_kept ?_)) .non)
        rw [upd_same]
        exact .lst (Rp.monoA (cut_upd m) (Pd.append (Pd.append (Pd.take _ h5) (.cons w1.rp .nil)) (Pd.drop _ h5)))
      · cases h2
    · cases h2
  · cases e
/-! ### xs.extend(a new list) -/
def fExt (zs : List D) : D → Option D
  | .list ds => if ds.length + zs.length ≤ LIM then some (.list (ds ++ zs)) else none
  | _ => none
def listD : D → Option (List D)
  | .list ds => some ds
  | _ => none
theorem listD_eq {d : D} {ds : List D} (h : listD d = some ds) : d = .list ds := by
  unfold listD at h
  split at h
  · cases h; rfl
  · cases h
def evExt (i : Nat) (fe : EX) : EX := fun cs => if isOwnL cs i = true then (fe cs).bind fun r => (listD r.1).bind fun zs => if r.2.1 = true then (upL r.2.2 i (fExt zs)).bind fun c => some (.none, false, c) else none else none
theorem de_ext (hv : DE X (.Name x xpos) (tVar i) (evVar i)) (he : DE X e te fe)
    (hbase : attributeBase (.Name x xpos) "extend" X.env (eval (.Name x xpos) X.env) = eval (.Name x xpos) X.env := by rfl)
    (hfew : ((backTo pos (starEach [e] X.env)).all (fun x => !x.1) && (backToKw pos (keywordEach [] X.env)).all (fun x => x.1.isSome)
      && decide ([e].length + ([] : List Keyword).length + (if ([] : List Keyword).isEmpty then 0 else 1) < 30)) = true := by rfl)
    (hline : (apos.endLine == pos.line) = true := by rfl) (hs : starEach [e] X.env = (false, eval e X.env) :: starEach [] X.env := by rfl) (hplain : (backTo pos (starEach [] X.env)).any (·.1) = false := by rfl) :
    DE X (.Call (.Attribute (.Name x xpos) "extend" apos) [e] [] pos) (tBM X.K "list" rExtend (tVar i) (tCons te tNil)) (evExt i fe) := by
  refine ⟨pe_bm PySem.F.plainAttrs_list PySem.F.slot_list_extend PySem.F.type_list_extend mt_extend hv.pe (pa_cons he.pe pa_nil hs) hbase hfew hline hs hplain, ?_⟩
  intro B IO Z σ H cs ok d fr cs' e Q q
  unfold evExt at e
  split at e
  · rename_i ho
    obtain ⟨⟨d1, f1, c1⟩, e1, e⟩ := Option.bind_eq_some_iff.mp e
    obtain ⟨zs, ez, e⟩ := Option.bind_eq_some_iff.mp e
    dsimp only at ez e
    split at e
    · rename_i hf
      obtain ⟨c2, e2, e⟩ := Option.bind_eq_some_iff.mp e
      cases e
      subst hf
      obtain ⟨a0, xs, hs, hx, _⟩ := ok.ownL ho
      refine ⟨_, hs, .inl ⟨rfl, xs, SqL.of hx⟩, he.se ok e1 _ fun y H1 w => ?_⟩
      obtain ⟨a', d, d', h1, h2, h3, k⟩ := w.post.ok.upL e2
      rw [hs] at h1
      cases h1
      have m := ok_md (Z := Z) e2 hs
      have hp := w.post
      rw [listD_eq ez] at w
      obtain ⟨p, rfl, hp0, pn, ow⟩ := (show ∃ p, y = .ref p ∧ H p = none ∧ PostN X.K B IO Z σ H cs p σ H1 c1 ∧ OwnAt X.K (cut H1 (Md σ c1 (XP Z p))) (H1 p) (.list zs) from w)
      obtain ⟨us, g1, g2⟩ := ow.list
      unfold fExt at h2
      split at h2
      · split at h2
        · rename_i hl
          cases h2
          obtain ⟨ys, h4, h5⟩ := h3.list
          refine ⟨a0, p, ys, us, rfl, rfl, h4, g1, by rw [Pd.len h5, Pd.len g2]; exact lim_ok hl, ?_⟩
          refine q _ _ (.dat (hp.trans (k _ upd_kept ?_)) .non)
          rw [upd_same]
          exact .lst (Rp.monoA (cut_upd m) (Pd.append h5 (Rp.monoA le_xp g2)))
        · cases h2
      · cases h2
    · cases e
  · cases e
/-! ### xs.index(e) -/
def idxD (d : D) : List D → Option Nat
  | [] => none
  | z :: r => if PyData.eqv z d = true then some 0 else (idxD d r).map (· + 1)
theorem idxD_spec {d : D} : ∀ {ds : List D} {j : Nat}, idxD d ds = some j → (∃ z, ds[j]? = some z ∧ PyData.eqv z d = true) ∧ ∀ m z, m < j → ds[m]? = some z → PyData.eqv z d = false
  | [], j, h => by cases h
  | z :: r, j, h => by
    unfold idxD at h
    by_cases c : PyData.eqv z d = true
    · rw [if_pos c] at h
      cases h
      exact ⟨⟨z, rfl, c⟩, fun m _ hm => absurd hm (Nat.not_lt_zero _)⟩
    · rw [if_neg c] at h
      obtain ⟨j', h1, h2⟩ := Option.map_eq_some_iff.mp h
      cases h2
      obtain ⟨⟨u, h3, h4⟩, h5⟩ := idxD_spec h1
      refine ⟨⟨u, by simpa using h3, h4⟩, fun m w hm hw => ?_⟩
      cases m with
      | zero =>
        simp at hw
        subst hw
        simpa using c
      | succ m => exact h5 m w (by omega) (by simpa using hw)
def evIdx (i : Nat) (fe : EX) : EX := fun cs => (cont cs i).bind fun d0 => (listD d0).bind fun _ => (fe cs).bind fun r => (cont r.2.2 i).bind fun d => (listD d).bind fun ds => if (flatD r.1 && ds.all flatD) = true then (idxD r.1 ds).bind fun j => some (.int (j : Nat), false, r.2.2) else none
theorem de_idx (hv : DE X (.Name x xpos) (tVar i) (evVar i)) (he : DE X e te fe)
    (hbase : attributeBase (.Name x xpos) "index" X.env (eval (.Name x xpos) X.env) = eval (.Name x xpos) X.env := by rfl)
    (hfew : ((backTo pos (starEach [e] X.env)).all (fun x => !x.1) && (backToKw pos (keywordEach [] X.env)).all (fun x => x.1.isSome)
      && decide ([e].length + ([] : List Keyword).length + (if ([] : List Keyword).isEmpty then 0 else 1) < 30)) = true := by rfl)
    (hline : (apos.endLine == pos.line) = true := by rfl) (hs : starEach [e] X.env = (false, eval e X.env) :: starEach [] X.env := by rfl) (hplain : (backTo pos (starEach [] X.env)).any (·.1) = false := by rfl) :
    DE X (.Call (.Attribute (.Name x xpos) "index" apos) [e] [] pos) (tBM X.K "list" (rIndex X.K) (tVar i) (tCons te tNil)) (evIdx i fe) := by
  refine ⟨pe_bm PySem.F.plainAttrs_list PySem.F.slot_list_index PySem.F.type_list_index mt_index hv.pe (pa_cons he.pe pa_nil hs) hbase hfew hline hs hplain, ?_⟩
  intro B IO Z σ H cs ok d fr cs' e Q q
  unfold evIdx at e
  obtain ⟨d0, e0, e⟩ := Option.bind_eq_some_iff.mp e
  obtain ⟨ds0, el0, e⟩ := Option.bind_eq_some_iff.mp e
  obtain ⟨⟨d1, f1, c1⟩, e1, e⟩ := Option.bind_eq_some_iff.mp e
  obtain ⟨d2, e2, e⟩ := Option.bind_eq_some_iff.mp e
  obtain ⟨ds, el, e⟩ := Option.bind_eq_some_iff.mp e
  dsimp only at e e2
  split at e
  · rename_i hf
    rw [Bool.and_eq_true] at hf
    obtain ⟨j, ej, e⟩ := Option.bind_eq_some_iff.mp e
    cases e
    obtain ⟨v, hv, w0⟩ := ok.view e0
    rw [listD_eq el0] at w0
    obtain ⟨a0, xs0, rfl, hx0, _⟩ := w0.list
    refine ⟨_, hv, .inl ⟨rfl, xs0, hx0⟩, he.se ok e1 _ fun y H1 w => ?_⟩
    obtain ⟨v', hv', w1⟩ := w.post.ok.view e2
    rw [hv] at hv'
    cases hv'
    rw [listD_eq el] at w1
    obtain ⟨a1, xs, h1, hx, px⟩ := w1.list
    cases h1
    obtain ⟨⟨z, g1, g2⟩, g3⟩ := idxD_spec ej
    obtain ⟨u, g4, g5⟩ := Pd.get px g1
    have fz : ∀ {m : Nat} {z : D}, ds[m]? = some z → flatD z = true := fun h => List.all_eq_true.mp hf.2 _ (List.mem_of_getElem? h)
    refine ⟨a0, xs, y, j, u, rfl, rfl, hx, flat_of w.rp hf.1, (inv_of w.rp hf.1 px hf.2).1, g4, ?_, fun m z' hm hz => ?_, q _ H1 (.dat w.post (.int _))⟩
    · rw [eq_of g5 w.rp (fz g1) hf.1]
      exact g2
    · obtain ⟨z2, g6, g7⟩ := Pd.getL px hz
      rw [eq_of g7 w.rp (fz g6) hf.1]
      exact g3 m z2 hm g6
  · cases e
/-! ### isinstance(e, (T, U)) -/
structure TyA (X : Cx) (es : List Expr) (ts : TA) (ns : List String) : Prop where
  pa : PA X es ts
  run : ∀ (σ : St) (H : Hp) (Q : List V → Hp → Prop), Q (ns.map V.ty) H → ts σ H Q
theorem tya_nil : TyA X [] tNil [] := ⟨pa_nil, fun _ _ _ q => q⟩
theorem tya_cons {T : Str} {n : String} {ns : List String} {tpos : Pos} (hg : Gl X T) (hm : X.mg T = none) (hv : bootBuiltins T = some (.type n)) (h : TyA X es ts ns) (hn : T ≠ "__name__" := by decide) (hd : (T == ("__debug__" : Str)) = false := by decide)
    (hs : starEach (.Name T tpos :: es) X.env = (false, eval (.Name T tpos) X.env) :: starEach es X.env := by rfl) : TyA X (.Name T tpos :: es) (tCons (tC (.ty n)) ts) (n :: ns) :=
  ⟨pa_cons (pe_bltn hg hm hv (v := .ty n) rfl hn hd) h.pa hs, fun σ H Q q => h.run σ H _ q⟩
def kitBs (t : String) : List String → Option Bool
  | [] => some false
  | n :: r => (kitB t n).bind fun b => if b = true then some true else kitBs t r
theorem kit_any {t : String} : ∀ {ns : List String} {b : Bool}, kitBs t ns = some b → PySem.W.kitAny K (.type t) (ns.map Value.type) = some b
  | [], b, h => by cases h; exact PySem.W.kitAny.eq_1 _ _
  | n :: r, b, h => by
    unfold kitBs at h
    obtain ⟨c, h1, h⟩ := Option.bind_eq_some_iff.mp h
    rw [List.map_cons, PySem.W.kitAny.eq_2, kit_ty h1]
    cases c with
    | true => rw [if_pos rfl] at h; exact h
    | false => rw [if_neg (by decide)] at h; exact kit_any h
theorem cls_all : ∀ ns : List String, Paired ClsV (ns.map V.ty) (ns.map Value.type)
  | [] => .nil
  | n :: r => .cons (.ty n) (cls_all r)
def evIsiT (ns : List String) (f : EX) : EX := fun cs => (f cs).bind fun r => if ns.length ≤ LIM then (kitBs (tyD r.1) ns).bind fun b => some (.bool b, false, r.2.2) else none
theorem de_isiT {ns : List String} {x1 : Nat} {tpos : Pos} (hg : Gl X "isinstance") (hm : X.mg "isinstance" = none) (ht : TyA X es ts ns) (ha : DE X e te fe)
    (hs : starEach (e :: [.Tuple es x1 tpos]) X.env = (false, eval e X.env) :: starEach [.Tuple es x1 tpos] X.env := by rfl) (hs2 : starEach [.Tuple es x1 tpos] X.env = (false, eval (.Tuple es x1 tpos) X.env) :: starEach [] X.env := by rfl) :
    DE X (.Call (.Name "isinstance" fpos) [e, .Tuple es x1 tpos] [] cpos) (tCB (rIsiT X.K) (tCons te (tCons (tTup ts) tNil))) (evIsiT ns fe) := by
  refine ⟨pe_callB call_isiT hg hm (by decide +kernel) (pa_cons ha.pe (pa_cons (pe_tup ht.pa) pa_nil hs2) hs) (he := hs), ?_⟩
  intro B IO Z σ H cs ok d fr cs' e Q q
  unfold evIsiT at e
  obtain ⟨⟨d1, f1, c1⟩, e1, e⟩ := Option.bind_eq_some_iff.mp e
  dsimp only at e
  split at e
  · rename_i hl
    obtain ⟨b, e2, e⟩ := Option.bind_eq_some_iff.mp e
    cases e
    refine ha.se ok e1 _ fun x H1 w1 => ht.run σ H1 _ ⟨by rw [List.length_map]; exact lim_ok hl, fun p hp => ?_⟩
    refine ⟨x, p, ns.map V.ty, _, ns.map Value.type, b, rfl, upd_same, cls_all ns, tyx_of w1.rp (Le.trans cut_le (ex_le (Ex.new hp))), kit_any e2, ?_⟩
    exact q _ _ (.dat (w1.post.trans (w1.post.ok.ext (Ex.new hp))) (.bl b))
  · cases e
def evIsiTV (ns : List String) (i : Nat) : EX := fun cs => (cont cs i).bind fun d => if ns.length ≤ LIM then (kitBs (tyD d) ns).bind fun b => some (.bool b, false, cs) else none
theorem de_isiTV {ns : List String} {x1 : Nat} {tpos : Pos} (hg : Gl X "isinstance") (hm : X.mg "isinstance" = none) (ht : TyA X es ts ns) (ha : DE X (.Name x xpos) (tVar i) (evVar i))
    (hs2 : starEach [.Tuple es x1 tpos] X.env = (false, eval (.Tuple es x1 tpos) X.env) :: starEach [] X.env := by rfl) :
    DE X (.Call (.Name "isinstance" fpos) [.Name x xpos, .Tuple es x1 tpos] [] cpos) (tCB (rIsiT X.K) (tCons (tVar i) (tCons (tTup ts) tNil))) (evIsiTV ns i) := by
  refine ⟨pe_callB call_isiT hg hm (by decide +kernel) (pa_cons ha.pe (pa_cons (pe_tup ht.pa) pa_nil hs2)), ?_⟩
  intro B IO Z σ H cs ok d fr cs' e Q q
  unfold evIsiTV at e
  obtain ⟨d1, e1, e⟩ := Option.bind_eq_some_iff.mp e
  split at e
  · rename_i hl
    obtain ⟨b, e2, e⟩ := Option.bind_eq_some_iff.mp e
    cases e
    obtain ⟨v, hv, w⟩ := ok.view e1
    refine ⟨v, hv, ht.run σ H _ ⟨by rw [List.length_map]; exact lim_ok hl, fun p hp => ?_⟩⟩
    have x : Ex H (upd H p (.tup (ns.map V.ty))) := Ex.new hp
    refine ⟨v, p, ns.map V.ty, _, ns.map Value.type, b, rfl, upd_same, cls_all ns, tyx_of w.rpH (ex_le x), kit_any e2, ?_⟩
    exact q _ _ (.dat (ok.ext x) (.bl b))
  · cases e
/-! ### a value as a test -/
def truD : D → Option Bool
  | .none => some false
  | .bool b => some b
  | .int i => some (i != 0)
  | .str s => if s.length ≤ LIM then some ((s.length : Int) != 0) else none
  | .list ds => some (!ds.isEmpty)
  | .tuple ds => some (!ds.isEmpty)
  | .dict _ => none
theorem pd_empty {α β : Type} {R : α → β → Prop} {xs : List α} {ys : List β} (h : Paired R xs ys) : xs.isEmpty = ys.isEmpty := by cases h <;> rfl
theorem tru_of {H : Hp} {M : Addr → Prop} {v : V} {d : D} {k : Bool} (w : Vw K H M v d) (h : truD d = some k) : TruV K v H k := by
  unfold truD at h
  split at h
  · cases h; rw [(w.rp (fun _ z => nomatch z) (fun _ z => nomatch z)).none_eq]; rfl
  · cases h; rw [(w.rp (fun _ z => nomatch z) (fun _ z => nomatch z)).bool_eq]; rfl
  · cases h; rw [w.int_eq]; rfl
  · split at h
    · rename_i hl
      cases h; rw [w.str_eq]; exact ⟨lim_ok hl, rfl⟩
    · cases h
  · cases h
    obtain ⟨a, xs, rfl, h1, h2⟩ := w.list
    exact .inl ⟨xs, h1, by rw [pd_empty h2]⟩
  · cases h
    obtain ⟨a, xs, rfl, h1, h2⟩ := w.tuple
    exact .inr (.inl ⟨xs, cut_le.sqT h1, by rw [pd_empty h2]⟩)
  · cases h
def evTr (f : EX) : TX := fun cs => (f cs).bind fun r => (truD r.1).bind fun k => some (k, r.2.2)
def tTru (K : PySem.W.Frag) (t : TE) : TT := fun σ H Q => t σ H fun x H' => ∃ k, TruV K x H' k ∧ Q k H'
theorem dt_tr (h : DE X e te fe) (he : ∀ whole, isTrue e X.env whole = (do let v ← whole; standAt e.pos; holding [v] (truthy v)) := by intro _; rfl) : DT X e (tTru X.K te) (evTr fe) := by
  refine ⟨pt_truth h.pe he, ?_⟩
  intro B IO Z σ H cs ok b cs' e Q q
  unfold evTr at e
  obtain ⟨⟨d1, f1, c1⟩, e1, e⟩ := Option.bind_eq_some_iff.mp e
  obtain ⟨k, e2, e⟩ := Option.bind_eq_some_iff.mp e
  cases e
  exact h.se ok e1 _ fun x H1 w => ⟨_, tru_of (Vw.of_rp w.rp) e2, q H1 w.post⟩
def evTrV (i : Nat) : TX := fun cs => (cont cs i).bind fun d => (truD d).bind fun k => some (k, cs)
theorem dt_trV (h : DE X (.Name x xpos) (tVar i) (evVar i)) (he : ∀ whole, isTrue (.Name x xpos) X.env whole = (do let v ← whole; standAt (Expr.Name x xpos).pos; holding [v] (truthy v)) := by intro _; rfl) : DT X (.Name x xpos) (tTru X.K (tVar i)) (evTrV i) := by
  refine ⟨pt_truth h.pe he, ?_⟩
  intro B IO Z σ H cs ok b cs' e Q q
  unfold evTrV at e
  obtain ⟨d1, e1, e⟩ := Option.bind_eq_some_iff.mp e
  obtain ⟨k, e2, e⟩ := Option.bind_eq_some_iff.mp e
  cases e
  obtain ⟨v, hv, w⟩ := ok.view e1
  exact ⟨v, hv, _, tru_of w e2, q H (Post.refl ok)⟩
/-! ### all, any, sum of a list -/
def boolsOf : List D → Option (List Bool)
  | [] => some []
  | .bool s :: r => (boolsOf r).bind fun t => some (s :: t)
  | _ => none
theorem bools_pd {F : Hp} : ∀ {vs : List V} {ds : List D} {ss : List Bool}, Paired (Rp K F) vs ds → boolsOf ds = some ss → vs = ss.map V.bl
  | _, _, ss, .nil, h => by cases h; rfl
  | _, _, ss, .cons r t, h => by
    unfold boolsOf at h
    split at h
    · rename_i hh; cases hh
    · rename_i s r' hh
      cases hh
      obtain ⟨t', h1, h⟩ := Option.bind_eq_some_iff.mp h
      cases h
      rw [r.bool_eq, bools_pd t h1]
      rfl
    · cases h
def intsOf : List D → Option (List Int)
  | [] => some []
  | .int s :: r => (intsOf r).bind fun t => some (s :: t)
  | _ => none
theorem ints_pd {F : Hp} : ∀ {vs : List V} {ds : List D} {ss : List Int}, Paired (Rp K F) vs ds → intsOf ds = some ss → vs = ss.map V.int
  | _, _, ss, .nil, h => by cases h; rfl
  | _, _, ss, .cons r t, h => by
    unfold intsOf at h
    split at h
    · rename_i hh; cases hh
    · rename_i s r' hh
      cases hh
      obtain ⟨t', h1, h⟩ := Option.bind_eq_some_iff.mp h
      cases h
      rw [r.int_eq, ints_pd t h1]
      rfl
    · cases h
def gAll : G1 := fun d => (listD d).bind fun ds => (boolsOf ds).bind fun bs => some (.bool (bs.all id), false)
def gAny : G1 := fun d => (listD d).bind fun ds => (boolsOf ds).bind fun bs => some (.bool (bs.any id), false)
def gSum : G1 := fun d => (listD d).bind fun ds => (intsOf ds).bind fun bs => some (.int bs.sum, false)
theorem sw_all : SRCw K (rAll K) gAll := by
  intro H M hm x d rx z fr q Q k
  unfold gAll at q
  obtain ⟨ds, h1, q⟩ := Option.bind_eq_some_iff.mp q
  obtain ⟨bs, h2, q⟩ := Option.bind_eq_some_iff.mp q
  cases q
  rw [listD_eq h1] at rx
  obtain ⟨a, xs, rfl, h3, h4⟩ := rx.list
  rw [bools_pd h4 h2] at h3
  exact ⟨a, bs, rfl, h3, k _ H (Ex.refl H) (VOk.of (.bl _))⟩
theorem sw_any : SRCw K (rAny K) gAny := by
  intro H M hm x d rx z fr q Q k
  unfold gAny at q
  obtain ⟨ds, h1, q⟩ := Option.bind_eq_some_iff.mp q
  obtain ⟨bs, h2, q⟩ := Option.bind_eq_some_iff.mp q
  cases q
  rw [listD_eq h1] at rx
  obtain ⟨a, xs, rfl, h3, h4⟩ := rx.list
  rw [bools_pd h4 h2] at h3
  exact ⟨a, bs, rfl, h3, k _ H (Ex.refl H) (VOk.of (.bl _))⟩
theorem sw_sum : SRCw K (rSum K) gSum := by
  intro H M hm x d rx z fr q Q k
  unfold gSum at q
  obtain ⟨ds, h1, q⟩ := Option.bind_eq_some_iff.mp q
  obtain ⟨bs, h2, q⟩ := Option.bind_eq_some_iff.mp q
  cases q
  rw [listD_eq h1] at rx
  obtain ⟨a, xs, rfl, h3, h4⟩ := rx.list
  rw [ints_pd h4 h2] at h3
  exact ⟨a, bs, rfl, h3, k _ H (Ex.refl H) (VOk.of (.int _))⟩
/-! ### a list taken apart -/
def gxUnl (h : GsX) (n : Nat) : GX
  | .list ds, cs => if ds.length = n then h ds cs else none
  | _, _ => none
theorem dg_unl {gs : TGs} {t1 : List Nat} {fgs : GsX} {k : Nat} {n : Nat} (hc : X.calm = true) (h : DGs X es gs t1 fgs) (hn : (assignEach es X.env).length = n := by rfl) (hst : (assignEach es X.env).findIdx? (·.1) = none := by rfl) : DG X (.Tuple es k pos) (gUnl X.K n gs) t1 (gxUnl fgs n) := by
  refine ⟨pg_unl hc h.pgs hn hst, ?_⟩
  intro B IO Z σ H cs ok v d r cs' e Q q
  unfold gxUnl at e
  split at e
  · split at e
    · rename_i hl
      obtain ⟨a, xs, rfl, h1, p1⟩ := r.list
      exact ⟨a, xs, rfl, cut_le.sqL h1, (Pd.len p1).trans hl, h.sg ok p1 e Q q⟩
    · cases e
  · cases e
end
end Qp
end
section
set_option Elab.async false
set_option linter.all false
set_option maxRecDepth 100000
set_option maxHeartbeats 2000000
/-! Qq: how the codes of Qn, Qo are reckoned; comprehensions whose answers are told one by one. -/
namespace Qp
open PySem PySem.Spec PyProof.Rows L2
section
variable {d x y z : D} {fr f1 b : Bool} {c cs c1 : En} {i n m : Nat} {f fa fb fe fi fk : EX} {g : G2} {u : G1} {G : GA} {fs : AX} {t s : TX} {p q : SX} {xs ds zs : List D} {es : List (D × D)} {k : Key} {j : Int}
/-! cells that hold no object of their own -/
def kDn (o : Option Cell) : Bool := match o with
  | some (.dat _) => true
  | some .no => true
  | _ => false
@[simp] theorem kDn_n : kDn (some .no) = true := rfl
@[simp] theorem kDn_d : kDn (some (.dat d)) = true := rfl
theorem kNo_dn {o : Option Cell} (h : kDn o = true) : kNo o = true := by
  unfold kDn at h
  split at h
  · rfl
  · rfl
  · cases h
@[simp] theorem noOwn_nil : noOwn cs [] = true := rfl
@[simp] theorem noOwn_cons {v : Nat} {vs : List Nat} : noOwn cs (v :: vs) = (kDn cs[v]? && noOwn cs vs) := rfl
@[simp] theorem clr_nil : clr cs [] = cs := rfl
@[simp] theorem clr_cons {v : Nat} {vs : List Nat} : clr cs (v :: vs) = (clr cs vs).set v .no := rfl
@[simp] theorem rst_nil : rst c cs [] = c := rfl
@[simp] theorem rst_cons {v : Nat} {vs : List Nat} : rst c cs (v :: vs) = (rst c cs vs).set v (cs.getD v .no) := rfl
/-! dicts -/
@[simp] theorem evDnew_ap : evDnew cs = some (.dict [], true, cs) := rfl
def kD1 (o : Option D) : Option (D × Bool) := o.bind fun v => some (v, false)
@[simp] theorem kD1_s : kD1 (some d) = some (d, false) := rfl
@[simp] theorem gDget_i : gDget (.dict es) (.int j) = kD1 (valD es (.inl j)) := rfl
@[simp] theorem gDget_s {w : Str} : gDget (.dict es) (.str w) = kD1 (valD es (.inr w)) := rfl
@[simp] theorem gDin_i {neg : Bool} : gDin neg (.int j) (.dict es) = some (.bool ((valD es (.inl j)).isSome != neg), false) := rfl
@[simp] theorem gDin_s {neg : Bool} {w : Str} : gDin neg (.str w) (.dict es) = some (.bool ((valD es (.inr w)).isSome != neg), false) := rfl
@[simp] theorem valD_nil : valD [] k = none := rfl
def kOD (o : Option Cell) : Option (List (D × D)) := match o with
  | some (.own (.dict es)) => some es
  | some (.io (.dict es)) => some es
  | _ => none
@[simp] theorem ownD_ap : ownD cs i = kOD cs[i]? := rfl
@[simp] theorem kOD_o : kOD (some (.own (.dict es))) = some es := rfl
@[simp] theorem kOD_i : kOD (some (.io (.dict es))) = some es := rfl
def kLenD (cs : En) (o : Option (List (D × D))) : OE := o.bind fun es => some (.int es.length, false, cs)
@[simp] theorem evLenD_ap : evLenD i cs = kLenD cs (ownD cs i) := rfl
@[simp] theorem kLenD_s : kLenD cs (some es) = some (.int es.length, false, cs) := rfl
def kSd5 (d : D) (o : Option En) : OE := o.bind fun c => some (d, false, c)
def kSd4 (i : Nat) (d : D) (c : En) (k : Key) (o : Option D) : OE := match o with
  | some o => some (o, false, c)
  | none => kSd5 d (upL c i (fPut k d))
def kSd3 (i : Nat) (d : D) (c : En) (es : List (D × D)) (o : Option Key) : OE := o.bind fun k => if es.length < LIM then kSd4 i d c k (valD es k) else none
def kSd2' (i : Nat) (x d : D) (c : En) (o : Option (List (D × D))) : OE := o.bind fun es => kSd3 i d c es (keyD x)
def kSd2 (i : Nat) (x : D) (o : OE) : OE := o.bind fun r => kSd2' i x r.1 r.2.2 (ownD r.2.2 i)
def kSd1 (i : Nat) (fe : EX) (o : OE) : OE := o.bind fun s => kSd2 i s.1 (fe s.2.2)
def kSd0 (i : Nat) (fk fe : EX) (cs : En) (o : Option (List (D × D))) : OE := o.bind fun _ => kSd1 i fe (fk cs)
@[simp] theorem evSetd_ap : evSetd i fk fe cs = kSd0 i fk fe cs (ownD cs i) := by
  unfold evSetd kSd0 kSd1 kSd2 kSd2' kSd3
  refine congrArg (Option.bind _) (funext fun _ => congrArg (Option.bind _) (funext fun s => congrArg (Option.bind _) (funext fun r => congrArg (Option.bind _) (funext fun es => congrArg (Option.bind _) (funext fun k => ?_)))))
  split
  · unfold kSd4 kSd5
    cases valD es k <;> rfl
  · rfl
@[simp] theorem kSd0_s : kSd0 i fk fe cs (some es) = kSd1 i fe (fk cs) := rfl
@[simp] theorem kSd1_s : kSd1 i fe (some (x, f1, c)) = kSd2 i x (fe c) := rfl
@[simp] theorem kSd2_s : kSd2 i x (some (y, f1, c)) = kSd2' i x y c (ownD c i) := rfl
@[simp] theorem kSd2'_s : kSd2' i x d c (some es) = kSd3 i d c es (keyD x) := rfl
@[simp] theorem keyD_i : keyD (.int j) = some (.inl j) := rfl
@[simp] theorem keyD_s {w : Str} : keyD (.str w) = some (.inr w) := rfl
theorem kSd3_of (h : es.length < LIM) : kSd3 i d c es (some k) = kSd4 i d c k (valD es k) := by
  show (if es.length < LIM then _ else _) = _
  rw [if_pos h]
@[simp] theorem kSd4_s : kSd4 i d c k (some x) = some (x, false, c) := rfl
@[simp] theorem kSd4_n : kSd4 i d c k none = kSd5 d (upL c i (fPut k d)) := rfl
@[simp] theorem kSd5_s : kSd5 d (some c) = some (d, false, c) := rfl
theorem fPut_of (h : es.length < LIM) : fPut k d (.dict es) = some (.dict (putD es k d)) := if_pos h
def kDp3 (o : Option En) : Option Res := o.bind fun c => some (.nx c)
def kDp2' (i : Nat) (d : D) (c : En) (o : Option Key) : Option Res := o.bind fun k => kDp3 (upL c i (fPut k d))
def kDp2 (i : Nat) (d : D) (o : OE) : Option Res := o.bind fun s => kDp2' i d s.2.2 (keyD s.1)
def kDp1 (fk : EX) (i : Nat) (d : D) (c : En) (o : Option (List (D × D))) : Option Res := o.bind fun _ => kDp2 i d (fk c)
def kDp0 (fk : EX) (i : Nat) (o : OE) : Option Res := o.bind fun r => kDp1 fk i r.1 r.2.2 (ownD r.2.2 i)
@[simp] theorem sDput_ap : sDput i fk fe cs = kDp0 fk i (fe cs) := rfl
@[simp] theorem kDp0_s : kDp0 fk i (some (d, f1, c)) = kDp1 fk i d c (ownD c i) := rfl
@[simp] theorem kDp1_s : kDp1 fk i d c (some es) = kDp2 i d (fk c) := rfl
@[simp] theorem kDp2_s : kDp2 i d (some (x, f1, c)) = kDp2' i d c (keyD x) := rfl
@[simp] theorem kDp2'_s : kDp2' i d c (some k) = kDp3 (upL c i (fPut k d)) := rfl
@[simp] theorem kDp3_s : kDp3 (some c) = some (.nx c) := rfl
theorem valD_put {l : Key} : valD (putD es k d) l = if l = k then some d else valD es l := by
  have kk : ∀ (a b : Key) (z : D), isK a z = true → isK b z = true → a = b := by
    intro a b z h1 h2
    cases z <;> simp [isK] at h1 h2 <;> exact h1.symm.trans h2
  have gen : ∀ es : List (D × D), valD (es.map (fun p => if isK k p.1 = true then (p.1, d) else p)) l = if l = k then (valD es l).map (fun _ => d) else valD es l := by
    intro es
    induction es with
    | nil => simp [valD]
    | cons p r ih =>
      by_cases hk : isK k p.1 = true
      · by_cases hl : isK l p.1 = true
        · have := kk _ _ _ hl hk
          subst this
          simp [valD, hk]
        · have hne : l ≠ k := fun e => hl (by rw [e]; exact hk)
          rw [if_neg hne] at ih ⊢
          simp only [valD, List.map_cons, hk, if_true, List.find?_cons, Bool.eq_false_iff.mpr hl] at ih ⊢
          exact ih
      · by_cases hl : isK l p.1 = true
        · have hne : l ≠ k := fun e => hk (by rw [← e]; exact hl)
          simp [valD, hk, hl, hne]
        · simp only [valD, List.map_cons, hk, if_false, Bool.false_eq_true, List.find?_cons, Bool.eq_false_iff.mpr hl] at ih ⊢
          exact ih
  unfold putD
  split
  · rename_i h
    rw [gen]
    split
    · rename_i e
      subst e
      have : ∃ v, valD es l = some v := by
        unfold valD
        cases e : es.find? fun p => isK l p.1 with
        | none =>
          have := List.find?_eq_none.mp e
          obtain ⟨p, hp, hq⟩ := List.any_eq_true.mp h
          exact absurd hq (this p hp)
        | some p => exact ⟨_, rfl⟩
      obtain ⟨v, hv⟩ := this
      rw [hv]
      rfl
    · rfl
  · rename_i h
    unfold valD
    rw [List.find?_append]
    split
    · rename_i e
      subst e
      have : (es.find? fun p => isK l p.1) = none := List.find?_eq_none.mpr fun p hp hq => h (List.any_eq_true.mpr ⟨p, hp, hq⟩)
      rw [this]
      simp [isK_kD]
    · rename_i hne
      cases es.find? fun p => isK l p.1 with
      | none => simp [isK_kD, Ne.symm hne]
      | some p => rfl
theorem putD_new (h : valD es k = none) : putD es k d = es ++ [(kD k, d)] := by
  unfold putD
  rw [if_neg]
  intro z
  obtain ⟨p, hp, hq⟩ := List.any_eq_true.mp z
  unfold valD at h
  rw [Option.map_eq_none_iff] at h
  exact List.find?_eq_none.mp h p hp hq
theorem putD_le : (putD es k d).length ≤ es.length + 1 := by
  unfold putD
  split
  · rw [List.length_map]; omega
  · rw [List.length_append]; exact Nat.le_refl _
/-! stars -/
def kSt2 (ds : List D) (o : Option (List D × En)) : Option (List D × En) := o.bind fun s => some (ds ++ s.1, s.2)
def kSt1 (fs : AX) (o : OE) : Option (List D × En) := o.bind fun r => match r.1 with
  | .list ds => kSt2 ds (fs r.2.2)
  | .tuple ds => kSt2 ds (fs r.2.2)
  | _ => none
@[simp] theorem evStar_ap : evStar f fs cs = kSt1 fs (f cs) := rfl
@[simp] theorem kSt1_l : kSt1 fs (some (.list ds, f1, c)) = kSt2 ds (fs c) := rfl
@[simp] theorem kSt1_t : kSt1 fs (some (.tuple ds, f1, c)) = kSt2 ds (fs c) := rfl
@[simp] theorem kSt2_s : kSt2 ds (some (xs, c)) = some (ds ++ xs, c) := rfl
/-! lists -/
def kMd (o : Option En) : OE := o.bind fun c => some (.none, false, c)
@[simp] theorem kMd_s : kMd (some c) = some (.none, false, c) := rfl
def kIn3 (i : Nat) (j : Int) (o : OE) : OE := o.bind fun r => kMd (upL r.2.2 i (fIns j r.1))
def kIn2 (i : Nat) (fe : EX) (c : En) (o : Option Int) : OE := o.bind fun j => kIn3 i j (fe c)
def kIn1 (i : Nat) (fe : EX) (o : OE) : OE := o.bind fun s => kIn2 i fe s.2.2 (intD s.1)
def kIn0 (i : Nat) (fk fe : EX) (cs : En) (b : Bool) : OE := if b = true then kIn1 i fe (fk cs) else none
@[simp] theorem evIns_ap : evIns i fk fe cs = kIn0 i fk fe cs (isOwnL cs i) := rfl
@[simp] theorem kIn0_t : kIn0 i fk fe cs true = kIn1 i fe (fk cs) := rfl
@[simp] theorem kIn1_s : kIn1 i fe (some (.int j, f1, c)) = kIn3 i j (fe c) := rfl
@[simp] theorem kIn3_s : kIn3 i j (some (d, f1, c)) = kMd (upL c i (fIns j d)) := rfl
theorem fIns_of (h : 0 ≤ j) (h2 : j ≤ 1000000000) (h3 : ds.length < LIM) : fIns j d (.list ds) = some (.list (ds.take j.toNat ++ [d] ++ ds.drop j.toNat)) := by
  show (if _ then _ else _) = _
  rw [if_pos (by simp [h, h2, h3])]
def kEx2 (i : Nat) (zs : List D) (fr : Bool) (c : En) : OE := if fr = true then kMd (upL c i (fExt zs)) else none
def kEx1 (i : Nat) (o : OE) : OE := o.bind fun r => (listD r.1).bind fun zs => kEx2 i zs r.2.1 r.2.2
def kEx0 (i : Nat) (fe : EX) (cs : En) (b : Bool) : OE := if b = true then kEx1 i (fe cs) else none
@[simp] theorem evExt_ap : evExt i fe cs = kEx0 i fe cs (isOwnL cs i) := rfl
@[simp] theorem kEx0_t : kEx0 i fe cs true = kEx1 i (fe cs) := rfl
@[simp] theorem kEx1_s : kEx1 i (some (.list zs, true, c)) = kMd (upL c i (fExt zs)) := rfl
theorem fExt_of (h : ds.length + zs.length ≤ LIM) : fExt zs (.list ds) = some (.list (ds ++ zs)) := if_pos h
def kXi4 (c : En) (o : Option Nat) : OE := o.bind fun j => some (.int (j : Nat), false, c)
def kXi3 (d : D) (c : En) (o : Option (List D)) : OE := o.bind fun ds => if (flatD d && ds.all flatD) = true then kXi4 c (idxD d ds) else none
def kXi2 (i : Nat) (d : D) (c : En) (o : Option D) : OE := o.bind fun z => kXi3 d c (listD z)
def kXi1 (i : Nat) (o : OE) : OE := o.bind fun r => kXi2 i r.1 r.2.2 (cont r.2.2 i)
def kXi0 (i : Nat) (fe : EX) (cs : En) (o : Option D) : OE := o.bind fun z => (listD z).bind fun _ => kXi1 i (fe cs)
@[simp] theorem evIdx_ap : evIdx i fe cs = kXi0 i fe cs (cont cs i) := by
  unfold evIdx kXi0 kXi1 kXi2 kXi3 kXi4
  rfl
@[simp] theorem kXi0_s : kXi0 i fe cs (some (.list ds)) = kXi1 i (fe cs) := rfl
@[simp] theorem kXi1_s : kXi1 i (some (d, f1, c)) = kXi2 i d c (cont c i) := rfl
@[simp] theorem kXi2_s : kXi2 i d c (some (.list ds)) = kXi3 d c (some ds) := rfl
theorem kXi3_of (h : flatD d = true) (h2 : ds.all flatD = true) : kXi3 d c (some ds) = kXi4 c (idxD d ds) := by
  show (if (flatD d && ds.all flatD) = true then _ else _) = _
  rw [h, h2]
  rfl
@[simp] theorem kXi4_s : kXi4 c (some n) = some (.int (n : Nat), false, c) := rfl
/-! isinstance of several -/
def kIsiT (ns : List String) (c : En) (o : Option D) : OE := o.bind fun d => if ns.length ≤ LIM then (kitBs (tyD d) ns).bind fun b => some (.bool b, false, c) else none
@[simp] theorem evIsiTV_ap {ns : List String} : evIsiTV ns i cs = kIsiT ns cs (cont cs i) := rfl
def kIsiTE (ns : List String) (o : OE) : OE := o.bind fun r => kIsiT ns r.2.2 (some r.1)
@[simp] theorem evIsiT_ap {ns : List String} : evIsiT ns f cs = kIsiTE ns (f cs) := rfl
@[simp] theorem kIsiTE_s {ns : List String} : kIsiTE ns (some (d, f1, c)) = kIsiT ns c (some d) := rfl
theorem kitBs_isT {ns : List String} (h : ∀ n ∈ ns, n ∈ ["int", "bool", "str", "list", "tuple", "dict"]) (d : D) : kitBs (tyD d) ns = some (ns.any fun n => isT n d) := by
  induction ns with
  | nil => rfl
  | cons n r ih =>
    unfold kitBs
    rw [kit_isT (h n (by simp)) d, Option.bind_some, ih fun m hm => h m (by simp [hm])]
    cases e : isT n d <;> simp [e]
@[simp] theorem kIsiT_lt : kIsiT ["list", "tuple"] c (some d) = some (.bool (isT "list" d || (isT "tuple" d || false)), false, c) := by
  unfold kIsiT
  rw [Option.bind_some, if_pos (by show 2 ≤ LIM; decide), kitBs_isT (by decide)]
  rfl
@[simp] theorem kIsiT_tl : kIsiT ["tuple", "list"] c (some d) = some (.bool (isT "tuple" d || (isT "list" d || false)), false, c) := by
  unfold kIsiT
  rw [Option.bind_some, if_pos (by show 2 ≤ LIM; decide), kitBs_isT (by decide)]
  rfl
/-! truths -/
def kTru (c : En) (o : Option Bool) : Option (Bool × En) := o.bind fun k => some (k, c)
@[simp] theorem kTru_s : kTru c (some b) = some (b, c) := rfl
def kTrE (o : OE) : Option (Bool × En) := o.bind fun r => kTru r.2.2 (truD r.1)
@[simp] theorem evTr_ap : evTr f cs = kTrE (f cs) := rfl
@[simp] theorem kTrE_s : kTrE (some (d, f1, c)) = kTru c (truD d) := rfl
def kTrV (c : En) (o : Option D) : Option (Bool × En) := o.bind fun d => kTru c (truD d)
@[simp] theorem evTrV_ap : evTrV i cs = kTrV cs (cont cs i) := rfl
@[simp] theorem kTrV_s : kTrV c (some d) = kTru c (truD d) := rfl
@[simp] theorem truD_n : truD .none = some false := rfl
@[simp] theorem truD_b : truD (.bool b) = some b := rfl
@[simp] theorem truD_i : truD (.int j) = some (j != 0) := rfl
@[simp] theorem truD_l : truD (.list ds) = some (!ds.isEmpty) := rfl
@[simp] theorem truD_t : truD (.tuple ds) = some (!ds.isEmpty) := rfl
/-! joins -/
def kJ2 (t : Str) (o : OE) : OE := o.bind fun r => fin r.2.2 (gJoin t r.1)
def kJ1 (fe : EX) (o : OE) : OE := o.bind fun s => match s.1 with
  | .str t => kJ2 t (fe s.2.2)
  | _ => none
@[simp] theorem evJoin_ap : evJoin fa fe cs = kJ1 fe (fa cs) := rfl
@[simp] theorem kJ1_s {w : Str} : kJ1 fe (some (.str w, f1, c)) = kJ2 w (fe c) := rfl
@[simp] theorem kJ2_s {w : Str} : kJ2 w (some (d, f1, c)) = fin c (gJoin w d) := rfl
@[simp] theorem gxUnl_ap {tg : GsX} {n : Nat} : gxUnl tg n (.list xs) cs = if xs.length = n then tg xs cs else none := rfl
/-! the rest -/
@[simp] theorem gInt_b : gInt [.bool b] = some (.int (if b = true then 1 else 0), false) := rfl
@[simp] theorem gMax2_i {j k : Int} : gMax2 [.int j, .int k] = some (.int (if j < k then k else j), false) := rfl
@[simp] theorem gMin2_i {j k : Int} : gMin2 [.int j, .int k] = some (.int (if k < j then k else j), false) := rfl
theorem gAdd_l (h : xs.length + zs.length ≤ LIM) : gAdd (.list xs) (.list zs) = some (.list (xs ++ zs), true) := by
  show (if _ ≤ LIM then _ else _) = _
  rw [if_pos h]
/-- the item at a place -/
theorem atD_nat (h : m < xs.length) : atD xs (m : Int) = some xs[m] := by
  rw [atD_of (by omega) (by omega)]
  simpa using List.getElem?_eq_getElem h
theorem cutL_to {α : Type} (xs : List α) (n : Nat) : cutL xs none (some (n : Int)) = xs.take n := by
  unfold cutL
  rw [HT.sIx_nat, HT.sIx_none, List.drop_zero, Nat.sub_zero]
  by_cases h : n ≤ xs.length
  · rw [Nat.min_eq_left h]
  · rw [Nat.min_eq_right (by omega), List.take_length, List.take_of_length_le (by omega)]
theorem cutL_from {α : Type} (xs : List α) (n : Nat) : cutL xs (some (n : Int)) none = xs.drop n := by
  unfold cutL
  rw [HT.sIx_nat, HT.sIx_none]
  by_cases h : n ≤ xs.length
  · rw [Nat.min_eq_left h, List.take_of_length_le]
    rw [List.length_drop]
    exact Nat.le_refl _
  · rw [Nat.min_eq_right (by omega), List.drop_length, List.take_nil, List.drop_eq_nil_of_le (by omega)]
theorem cutL_neg1 {α : Type} (xs : List α) : cutL xs none (some (-1)) = xs.take (xs.length - 1) := by
  unfold cutL HT.sIx
  simp
  cases xs with
  | nil => rfl
  | cons x r =>
    congr 1
    simp
    try omega
@[simp] theorem gSl_l {o1 o2 : Option Int} : gSl (.list xs) o1 o2 = some (.list (cutL xs o1 o2), true) := rfl
@[simp] theorem gSl_t {o1 o2 : Option Int} : gSl (.tuple xs) o1 o2 = some (.tuple (cutL xs o1 o2), false) := rfl
end
section
variable {gt : GX} {ft : TX} {fe : EX} {vs : List Nat} {cs : En} {items : List D}
/-- a comprehension each of whose elements is there and has P -/
theorem loopC_ex {P : Nat → D → Prop} (hx : ∀ i x, items[i]? = some x → ∃ c1 y f1, gt x cs = some c1 ∧ ft c1 = some (true, c1) ∧ fe c1 = some (y, f1, c1) ∧ P i y ∧ noOwn c1 vs = true ∧ clr c1 vs = cs) (hl : items.length ≤ LIM) :
    ∃ ys, loopC gt ft fe vs items [] cs = some (ys, cs) ∧ ys.length = items.length ∧ ∀ i y, ys[i]? = some y → P i y := by
  have gen : ∀ (r pre : List D), items = pre ++ r → ∀ acc : List D, acc.length = pre.length → (∀ i y, acc[i]? = some y → P i y) → ∃ ys, loopC gt ft fe vs r acc cs = some (ys, cs) ∧ ys.length = items.length ∧ ∀ i y, ys[i]? = some y → P i y := by
    intro r
    induction r with
    | nil =>
      intro pre hp acc ha hP
      exact ⟨acc, rfl, by rw [ha, hp, List.append_nil], hP⟩
    | cons x r ih =>
      intro pre hp acc ha hP
      obtain ⟨c1, y, f1, h1, h2, h3, h3', h4, h5⟩ := hx pre.length x (by rw [hp]; simp)
      obtain ⟨ys, q1, q2, q3⟩ := ih (pre ++ [x]) (by rw [hp]; simp) (acc ++ [y]) (by simp [ha]) (fun i z hz => by
        by_cases hi : i < acc.length
        · rw [List.getElem?_append_left hi] at hz
          exact hP i z hz
        · rw [List.getElem?_append_right (by omega)] at hz
          have hi' : i - acc.length = 0 := by
            have := (List.getElem?_eq_some_iff.mp hz).1
            simp at this
            omega
          rw [hi'] at hz
          simp at hz
          subst hz
          have : i = pre.length := by omega
          rw [this]
          exact h3')
      refine ⟨ys, ?_, q2, q3⟩
      have hacc : acc.length < LIM := by
        have := congrArg List.length hp
        rw [List.length_append, List.length_cons] at this
        omega
      unfold loopC
      rw [h1, Option.bind_some, h2, Option.bind_some, if_pos rfl, h3, Option.bind_some]
      dsimp only
      rw [h4, h5, show decide (acc.length < LIM) = true from decide_eq_true hacc]
      exact q1
  exact gen items [] rfl [] rfl (fun i y h => by simp at h)
end
end Qp
end
section
set_option Elab.async false
set_option linter.all false
set_option maxRecDepth 100000
set_option maxHeartbeats 2000000
/-! Qr: dicts that are data: len, equality; calls that borrow an object of the caller. -/
namespace Qp
open PySem PySem.Spec PyProof.Rows L2
section
variable {X : Cx} {K : PySem.W.Frag} {F : Hp} {e a b : Expr} {es : List Expr} {te ta tb tk to : TE} {ts : TA} {fe fa fb fk : EX} {fs : AX} {pos fpos cpos xpos : Pos} {x : Str} {i : Nat}
/-! ### len -/
def rLenR : List V → Hp → VK → Prop := fun xs H Q => ∃ a kvs, xs = [V.ref a] ∧ Rd H a (.dK kvs) ∧ Q (.int kvs.length) H
theorem call_lenR : CallR X (.builtin "len") rLenR := by
  intro pins s σ H xs us Q I r h
  obtain ⟨a, kvs, rfl, ha, q⟩ := h
  cases r with
  | cons ru r =>
    cases r
    cases ru
    exact d_len I ha fun t s' I' => ⟨.int kvs.length, H, I', ⟨t, rfl⟩, q⟩
def gLenD : G1
  | .dict es => some (.int es.length, false)
  | _ => none
theorem sw_lenD : SRCw K rLenR gLenD := by
  intro H M hm x d rx z fr q Q k
  unfold gLenD at q
  split at q
  · cases q
    obtain ⟨a, kvs, rfl, hr, he, hp⟩ := rx.dict
    refine ⟨a, kvs, rfl, hr, ?_⟩
    rw [len_pd he]
    exact k _ H (Ex.refl H) (VOk.of (.int _))
  · cases q
/-! ### equality of dicts -/
def hitsD (fs : List (D × D)) : List (D × D) → Bool
  | [] => true
  | (k, d) :: r => match keyD k with
    | none => false
    | some k => match valD fs k with
      | none => false
      | some y => PyData.eqv d y && hitsD fs r
def eqD (es fs : List (D × D)) : Bool := es.length == fs.length && hitsD fs es
def shapedE (es : List (D × D)) : Bool := es.all fun p => SeqAt.shaped p.2
theorem keyD_kD (k : Key) : keyD (kD k) = some k := by cases k <;> rfl
theorem hits_pd {pins : List (Addr × Obj)} {σ : St} {H : Hp} {s : Shared} {A : Around} (I : L2.Inv X pins σ H s) (hA : A.units + 64 < cLine) {ls : List (Key × V)} {fs : List (D × D)} {vb : List (Key × Value)}
    (hf : fs.map (·.1) = ls.map (fun p => kD p.1)) (hp : Paired (Rp X.K H) (ls.map (·.2)) (fs.map (·.2))) (hs : shapedE fs = true) (rb : KV ls vb) :
    ∀ {ks : List (Key × V)} {es : List (D × D)} {va : List (Key × Value)}, es.map (·.1) = ks.map (fun p => kD p.1) → Paired (Rp X.K H) (ks.map (·.2)) (es.map (·.2)) → shapedE es = true → KV ks va → PySem.W.KeqHits A s vb va (hitsD fs es)
  | [], [], _, _, _, _, .nil => .nil
  | [], _ :: _, _, e, _, _, _ => by simp at e
  | _ :: _, [], _, e, _, _, _ => by simp at e
  | (j, v) :: ks, (x, d) :: es, (j', w) :: va, e, .cons r t, se, .cons h ra => by
    rw [List.map_cons, List.map_cons] at e
    injection e with e1 e2
    dsimp only at e1
    subst e1
    obtain ⟨h1, h2⟩ := h
    dsimp only at h1 h2
    subst h1
    unfold shapedE at se
    rw [List.all_cons, Bool.and_eq_true] at se
    have ih := hits_pd I hA hf hp hs rb e2 t se.2 ra
    have hv := KV.val rb j
    show PySem.W.KeqHits A s vb ((j, w) :: va) (match keyD (kD j) with
      | none => false
      | some k => match valD fs k with
        | none => false
        | some y => PyData.eqv d y && hitsD fs es)
    rw [keyD_kD]
    dsimp only
    rcases val_pd hf hp j with ⟨n1, n2⟩ | ⟨u, y, n1, n2, n3⟩
    · rw [n2]
      refine .miss ?_
      rw [n1] at hv
      cases hq : valueAt vb j with
      | none => rfl
      | some z => rw [hq] at hv; cases hv
    · rw [n2]
      rw [n1] at hv
      obtain ⟨z, hz, rz⟩ := RelO.some_of hv
      have sy : SeqAt.shaped y = true := by
        unfold valD at n2
        obtain ⟨p, hp1, hp2⟩ := Option.map_eq_some_iff.mp n2
        have := List.all_eq_true.mp hs p (List.mem_of_find?_eq_some hp1)
        rw [hp2] at this
        exact this
      have sd := se.1
      have cd : PyData.canLay0 d = true := by
        have := sd
        unfold SeqAt.shaped at this
        rw [Bool.and_eq_true] at this
        exact this.1
      have cy : PyData.canLay0 y = true := by
        have := sy
        unfold SeqAt.shaped at this
        rw [Bool.and_eq_true] at this
        exact this.1
      have dd : PyData.depth d ≤ 64 := by
        have := sd
        unfold SeqAt.shaped at this
        rw [Bool.and_eq_true, decide_eq_true_eq] at this
        exact this.2
      obtain ⟨as, r1⟩ := Dp.reads I d v w (dp_of r (Le.refl H) cd) h2
      obtain ⟨bs, r2⟩ := Dp.reads I y u z (dp_of n3 (Le.refl H) cy) rz
      exact .hit hz (SeqAt.eqAt_reads d y A s w z as bs r1 r2 cd cy (by omega)) ih
def rNeDD (K : PySem.W.Frag) (neg : Bool) : R2 := fun x y H Q => ∃ a b ks ls, ∃ es fs : List (D × D), x = .ref a ∧ y = .ref b ∧ Rd H a (.dK ks) ∧ Rd H b (.dK ls) ∧ es.map (·.1) = ks.map (fun p => kD p.1) ∧ Paired (Rp K H) (ks.map (·.2)) (es.map (·.2)) ∧
  fs.map (·.1) = ls.map (fun p => kD p.1) ∧ Paired (Rp K H) (ls.map (·.2)) (fs.map (·.2)) ∧ shapedE es = true ∧ shapedE fs = true ∧ Q (.bl (eqD es fs != neg)) H
theorem op_neDD (hu : X.A.units + 65 < cLine) : OpR X (compareOp .NotEq) (rNeDD X.K true) := by
  intro pins s σ H x y v u Q I rx ry h
  obtain ⟨a, b, ks, ls, es, fs, rfl, rfl, ra, rb, he, pe, hf, pf, se, sf, q⟩ := h
  cases rx
  cases ry
  obtain ⟨_, loa, va, ka, da⟩ := dk_rd I.hok ra
  obtain ⟨_, lob, vb, kb, db⟩ := dk_rd I.hok rb
  refine PySem.W.keq_ne (r := hitsD fs es) loa lob da db (by omega) (fun _ => hits_pd I (by show X.A.units + 1 + 64 < cLine; omega) hf pf sf kb he pe se ka) ?_
  refine fin_bl I q ?_
  unfold eqD
  rw [← KV.length ka, ← KV.length kb, len_pd he, len_pd hf, Bool.bne_true]
theorem op_eqDD (hu : X.A.units + 65 < cLine) : OpR X (compareOp .Eq) (rNeDD X.K false) := by
  intro pins s σ H x y v u Q I rx ry h
  obtain ⟨a, b, ks, ls, es, fs, rfl, rfl, ra, rb, he, pe, hf, pf, se, sf, q⟩ := h
  cases rx
  cases ry
  obtain ⟨_, loa, va, ka, da⟩ := dk_rd I.hok ra
  obtain ⟨_, lob, vb, kb, db⟩ := dk_rd I.hok rb
  refine PySem.W.keq_eq (r := hitsD fs es) loa lob da db (by omega) (fun _ => hits_pd I (by show X.A.units + 1 + 64 < cLine; omega) hf pf sf kb he pe se ka) ?_
  refine fin_bl I q ?_
  unfold eqD
  rw [← KV.length ka, ← KV.length kb, len_pd he, len_pd hf, Bool.bne_false]
def gEqD (neg : Bool) : G2
  | .dict es, .dict fs => if (shapedE es && shapedE fs) = true then some (.bool (eqD es fs != neg), false) else none
  | _, _ => none
theorem sw_eqDD {neg : Bool} : SRw K (rNeDD K neg) (gEqD neg) := by
  intro H M hm x y d e rx ry z fr q Q k
  unfold gEqD at q
  split at q
  · split at q
    · rename_i hs
      rw [Bool.and_eq_true] at hs
      cases q
      obtain ⟨a, ks, rfl, r1, he, pe⟩ := rx.dict
      obtain ⟨b, ls, rfl, r2, hf, pf⟩ := (Vw.of_rp ry).dict
      exact ⟨a, b, ks, ls, _, _, rfl, rfl, r1, r2, he, Rp.monoA cut_le pe, hf, Rp.monoA cut_le pf, hs.1, hs.2, k _ H (Ex.refl H) (VOk.of (.bl _))⟩
    · cases q
  · cases q
end
/-! ### borrowing -/
mutual
/-- a datum within which nothing can be changed -/
def noMut : D → Bool
  | .none => true
  | .bool _ => true
  | .int _ => true
  | .str _ => true
  | .tuple ds => noMutAll ds
  | .list _ => false
  | .dict _ => false
def noMutAll : List D → Bool
  | [] => true
  | d :: r => noMut d && noMutAll r
end
def noMutF (fr : Bool) (d : D) : Bool := if fr = true then (match d with
  | .list ds => noMutAll ds
  | .dict es => noMutAll (es.map (·.2))
  | _ => false) else noMut d
section
variable {K : PySem.W.Frag} {F F' : Hp}
/-- only lists and dicts are lacking in F' -/
def LeT (F F' : Hp) : Prop := ∀ a xs, Rd F a (.tup xs) → Rd F' a (.tup xs)
theorem rp_noMut (h : LeT F F') {v : V} {d : D} (r : Rp K F v d) : noMut d = true → Rp K F' v d :=
  Rp.rec (motive_1 := fun v d _ => noMut d = true → Rp K F' v d) (motive_2 := fun xs ds _ => noMutAll ds = true → Paired (Rp K F') xs ds) (fun _ => .non) (fun b _ => .bl b) (fun i _ => .int i) (fun x _ => .str x)
    (fun _ _ _ n => nomatch (show false = true from n)) (fun a _ ih n => .tup (a.imp (h _ _) id) (ih n)) (fun _ _ _ _ n => nomatch (show false = true from n)) (fun _ => .nil)
    (fun _ _ r t n => .cons (r (Bool.and_eq_true_iff.mp n).1) (t (Bool.and_eq_true_iff.mp n).2)) r
theorem rp_noMutAll (h : LeT F F') : ∀ {xs : List V} {ds : List D}, Paired (Rp K F) xs ds → noMutAll ds = true → Paired (Rp K F') xs ds
  | _, _, .nil, _ => .nil
  | _, _, .cons r t, n => .cons (rp_noMut h r (Bool.and_eq_true_iff.mp n).1) (rp_noMutAll h t (Bool.and_eq_true_iff.mp n).2)
end
end Qp
end
section
set_option Elab.async false
set_option linter.all false
set_option maxRecDepth 100000
set_option maxHeartbeats 2000000
/-! Qs: calls that borrow; displays of dicts; walks over the keys of a dict. -/
namespace Qp
open PySem PySem.Spec PyProof.Rows L2
def MdB (σ : St) (cs : En) (X : Addr → Prop) (bs : List Nat) : Addr → Prop := fun a => X a ∨ ∃ i, i ∉ bs ∧ OwnS σ cs i a
theorem mdB_md {σ : St} {cs : En} {X : Addr → Prop} {bs : List Nat} {a : Addr} (h : MdB σ cs X bs a) : Md σ cs X a := h.imp id fun ⟨i, _, q⟩ => ⟨i, q⟩
theorem le_mdB {H : Hp} {σ : St} {cs : En} {X : Addr → Prop} {bs : List Nat} : Le (cut H (Md σ cs X)) (cut H (MdB σ cs X bs)) := le_cut fun _ _ e m => ⟨e, fun z => m (mdB_md z)⟩
def SAB (K : PySem.W.Frag) (t : TA) (f : AX) (bs : List Nat) : Prop := ∀ {B : Hp} {IO : List (Nat × Addr)} {X : Addr → Prop} {σ : St} {H : Hp} {cs : En}, Ok K B IO X σ H cs → ∀ {ds : List D} {cs' : En}, f cs = some (ds, cs') →
  ∀ Q : List V → Hp → Prop, (∀ vs H', Post K B IO X σ H cs σ H' cs' → Paired (Rp K (cut H' (MdB σ cs' X bs))) vs ds → Q vs H') → t σ H Q
structure DAB (X : Cx) (e : List Expr) (t : TA) (f : AX) (bs : List Nat) : Prop where
  pa : PA X e t
  sab : SAB X.K t f bs
section
variable {X : Cx} {K : PySem.W.Frag} {e a b : Expr} {es : List Expr} {te ta tb tk to : TE} {ts : TA} {fe fa fb fk : EX} {fs : AX} {pos fpos cpos xpos p : Pos} {x : Str} {i n k : Nat} {bs : List Nat} {F : GA} {f : Addr} {fd : FuncData} {ps : List Str}
theorem dab_nil : DAB X [] tNil evNil bs := by
  refine ⟨pa_nil, ?_⟩
  intro B IO Z σ H cs ok ds cs' e Q q
  cases e
  exact q [] H (Post.refl ok) .nil
theorem dab_cons (h : DE X e te fe) (hr : DAB X es ts fs bs) (hs : starEach (e :: es) X.env = (false, eval e X.env) :: starEach es X.env := by rfl) : DAB X (e :: es) (tCons te ts) (evCons fe fs) bs := by
  refine ⟨pa_cons h.pe hr.pa hs, ?_⟩
  intro B IO Z σ H cs ok ds cs' e Q q
  unfold evCons at e
  obtain ⟨⟨d1, f1, c1⟩, e1, e⟩ := Option.bind_eq_some_iff.mp e
  obtain ⟨⟨d2, c2⟩, e2, e⟩ := Option.bind_eq_some_iff.mp e
  cases e
  refine h.se ok e1 _ fun x H1 w1 => hr.sab w1.post.ok e2 _ fun xs H2 p2 v2 => q _ H2 (w1.post.trans p2) (.cons ((w1.rp.mono p2.le).mono le_mdB) v2)
def evBor (i : Nat) (g : AX) : AX := fun cs => (cont cs i).bind fun _ => (g cs).bind fun s => (cont s.2 i).bind fun d => some (d :: s.1, s.2)
theorem Ok.borrow {B : Hp} {IO : List (Nat × Addr)} {Z : Addr → Prop} {σ : St} {H : Hp} {cs : En} (ok : Ok K B IO Z σ H cs) {d : D} (h : cont cs i = some d) (hb : i ∈ bs) : ∃ v, σ[i]? = some (some v) ∧ Rp K (cut H (MdB σ cs Z bs)) v d := by
  have own : ∀ d : D, (cs[i]? = some (.own d) ∨ cs[i]? = some (.io d)) → ∃ v, σ[i]? = some (some v) ∧ Rp K (cut H (MdB σ cs Z bs)) v d := by
    intro d hd
    obtain ⟨a, h1, h2⟩ := ok.own i d hd
    have ho : OwnS σ cs i a := ⟨h1, d, hd⟩
    refine ⟨.ref a, h1, h2.rp (cut_of fun m => ?_) le_mdB⟩
    rcases m with m | ⟨j, hj, q⟩
    · exact ok.dis i a ho m
    · have := ok.inj i j a ho q
      subst this
      exact hj hb
  unfold cont at h
  split at h
  · rename_i d' h'
    cases h
    obtain ⟨v, h1, h2⟩ := ok.dat i _ h'
    exact ⟨v, h1, h2.mono le_mdB⟩
  · rename_i d' h'
    cases h
    exact own _ (.inl h')
  · rename_i d' h'
    cases h
    exact own _ (.inr h')
  · cases h
theorem dab_bor (hv : DE X (.Name x xpos) (tVar i) (evVar i)) (hr : DAB X es ts fs bs) (hb : i ∈ bs) (hs : starEach (.Name x xpos :: es) X.env = (false, eval (.Name x xpos) X.env) :: starEach es X.env := by rfl) : DAB X (.Name x xpos :: es) (tCons (tVar i) ts) (evBor i fs) bs := by
  refine ⟨pa_cons hv.pe hr.pa hs, ?_⟩
  intro B IO Z σ H cs ok ds cs' e Q q
  unfold evBor at e
  obtain ⟨d0, e0, e⟩ := Option.bind_eq_some_iff.mp e
  obtain ⟨⟨d2, c2⟩, e2, e⟩ := Option.bind_eq_some_iff.mp e
  obtain ⟨d, e1, e⟩ := Option.bind_eq_some_iff.mp e
  cases e
  obtain ⟨v, hv, _⟩ := ok.view e0
  refine ⟨v, hv, hr.sab ok e2 _ fun xs H2 p2 v2 => ?_⟩
  obtain ⟨v', hv', r⟩ := p2.ok.borrow e1 hb
  rw [hv] at hv'
  cases hv'
  exact q _ H2 p2 (.cons r v2)
theorem leT_mdB {B : Hp} {IO : List (Nat × Addr)} {Z : Addr → Prop} {σ : St} {H H' : Hp} {cs : En} (ok : Ok K B IO Z σ H cs) (x : Ex H H') {P : Addr → Prop} : LeT (cut H' (fun a => MdB σ cs Z bs a ∨ P a)) (cut H' (fun a => Md σ cs Z a ∨ P a)) := by
  have key : ∀ a u, H' a = some u → (∀ xs, u ≠ .lst xs) → (∀ kvs, u ≠ .dK kvs) → ¬ (MdB σ cs Z bs a ∨ P a) → ¬ (Md σ cs Z a ∨ P a) := by
    intro a u hu n1 n2 nm m
    rcases m with m | m
    · rcases m with m | ⟨i, q⟩
      · exact nm (.inl (.inl m))
      · by_cases hi : i ∈ bs
        · obtain ⟨q1, d, q2⟩ := q
          obtain ⟨b, g1, g2⟩ := ok.own i d q2
          rw [q1] at g1
          cases g1
          generalize hg : H a = o at g2
          cases g2 with
          | lst _ => rw [x a _ hg] at hu; cases hu; exact n1 _ rfl
          | dic _ _ => rw [x a _ hg] at hu; cases hu; exact n2 _ rfl
        · exact nm (.inl (.inr ⟨i, hi, q⟩))
    · exact nm (.inr m)
  intro a xs r
  rcases r with r | ⟨o, r⟩
  · obtain ⟨h1, h2⟩ := cut_some r
    exact .inl ((cut_of (key a _ h1 (fun _ z => nomatch z) (fun _ z => nomatch z) h2)).trans h1)
  · obtain ⟨h1, h2⟩ := cut_some r
    exact .inr ⟨o, (cut_of (key a _ h1 (fun _ z => nomatch z) (fun _ z => nomatch z) h2)).trans h1⟩
theorem cut_or {H : Hp} {M : Addr → Prop} : cut H (fun a => M a ∨ False) = cut H M := funext fun a => by
  by_cases h : M a
  · rw [cut_in h, cut_in (Or.inl h)]
  · rw [cut_of h, cut_of (fun z => z.elim h id)]
def evCB (G : GA) (fs : AX) : EX := fun cs => (fs cs).bind fun r => (G r.1).bind fun z => if noMutF z.2 z.1 = true then some (z.1, z.2, r.2) else none
theorem de_callB (bs : List Nat) (hF : FnOk X.prog X.w X.K X.mg X.base CX0 k f fd ps (spP X.K n F)) (hr : Room k X.A) (hg : Gl X x) (hm : X.mg x = some (.ref f)) (hk : PySem.W.keepIn X.K (.ref f) = true) (hb : Binds X.K fd ps []) (ha : DAB X (e :: es) ts fs bs)
    (hdb : (x == ("__debug__" : Str)) = false := by decide) (he : starEach (e :: es) X.env = (false, eval e X.env) :: starEach es X.env := by rfl) (hpl : (backTo pos (starEach es X.env)).any (·.1) = false := by rfl) :
    DE X (.Call (.Name x p) (e :: es) [] pos) (tCall (spP X.K n F) [] E0 ts) (evCB (gN n F) fs) := by
  refine ⟨pe_call hF hr hg hm hk hb .nil pass0 ha.pa hdb he hpl, ?_⟩
  intro B IO Z σ H cs ok d fr cs' e Q q
  unfold evCB at e
  obtain ⟨⟨d1, c1⟩, e1, e⟩ := Option.bind_eq_some_iff.mp e
  obtain ⟨⟨z, fz⟩, e2, e⟩ := Option.bind_eq_some_iff.mp e
  dsimp only at e e2
  split at e
  · rename_i hn
    cases e
    unfold gN at e2
    split at e2
    · rename_i hl
      refine ha.sab ok e1 _ fun vs H1 p1 v1 => ⟨MdB σ cs' Z bs, d1, d, fr, fun a m => p1.ok.md a (mdB_md m), hl, by rw [List.append_nil]; exact v1, e2, fun v H' x w => ?_⟩
      refine q v H' (Pe.of p1 x ?_)
      unfold VOk at w ⊢
      cases fr with
      | false =>
        have w' : Rp X.K (cut H' (MdB σ cs' Z bs)) v d := w
        have lt := leT_mdB (bs := bs) p1.ok x (P := fun _ => False)
        rw [cut_or, cut_or] at lt
        exact rp_noMut lt w' hn
      | true =>
        obtain ⟨p, rfl, hp, ow⟩ := (show ∃ p, v = .ref p ∧ H1 p = none ∧ OwnAt X.K (cut H' (fun a => MdB σ cs' Z bs a ∨ a = p)) (H' p) d from w)
        have lt := leT_mdB (bs := bs) p1.ok x (P := fun a => a = p)
        refine ⟨p, rfl, hp, ?_⟩
        generalize H' p = o at ow
        cases ow with
        | lst qq => exact .lst (rp_noMutAll lt qq hn)
        | dic e' qq => exact .dic e' (rp_noMutAll lt qq hn)
    · cases e2
  · cases e
theorem dcB (bs : List Nat) (c : Cal X.prog X.w X.K X.mg X.base x k ps (spP X.K n F)) (hr : Room k X.A) (ha : DAB X (e :: es) ts fs bs) (hg : Gl X x := by rfl)
    (hdb : (x == ("__debug__" : Str)) = false := by decide) (he : starEach (e :: es) X.env = (false, eval e X.env) :: starEach es X.env := by rfl) (hpl : (backTo pos (starEach es X.env)).any (·.1) = false := by rfl) :
    DE X (.Call (.Name x p) (e :: es) [] pos) (tCall (spP X.K n F) [] E0 ts) (evCB (gN n F) fs) := de_callB bs c.ok hr hg c.m c.kp c.b ha hdb he hpl
/-! ### displays of dicts -/
abbrev PX := En → Option (List (Key × D) × En)
def SPs (K : PySem.W.Frag) (trs : List (TE × TE)) (f : PX) : Prop := ∀ {B : Hp} {IO : List (Nat × Addr)} {X : Addr → Prop} {σ : St} {H : Hp} {cs : En}, Ok K B IO X σ H cs → ∀ {ds : List (Key × D)} {cs' : En}, f cs = some (ds, cs') →
  ∀ Q : List (V × V) → Hp → Prop, (∀ vs H', Post K B IO X σ H cs σ H' cs' → Paired (fun q p => q.1 = kV p.1 ∧ Rp K (cut H' (Md σ cs' X)) q.2 p.2) vs ds → Q vs H') → tPairs trs σ H Q
structure DPs (X : Cx) (pos : Pos) (ks : List (Option Expr)) (vs : List Expr) (trs : List (TE × TE)) (f : PX) : Prop where
  pp : PPs X pos ks vs trs
  sp : SPs X.K trs f
def evPn : PX := fun cs => some ([], cs)
def evPc (fk fe : EX) (g : PX) : PX := fun cs => (fk cs).bind fun r => (keyD r.1).bind fun k => (fe r.2.2).bind fun s => (g s.2.2).bind fun u => some ((k, s.1) :: u.1, u.2)
theorem dp_nil : DPs X pos [] [] [] evPn := by
  refine ⟨pps_nil, ?_⟩
  intro B IO Z σ H cs ok ds cs' e Q q
  cases e
  exact q [] H (Post.refl ok) .nil
theorem dp_cons {ks : List (Option Expr)} {vs : List Expr} {trs : List (TE × TE)} {g : PX} (hk : DE X a tk fk) (he : DE X e te fe) (hr : DPs X pos ks vs trs g) : DPs X pos (some a :: ks) (e :: vs) ((tk, te) :: trs) (evPc fk fe g) := by
  refine ⟨pps_cons hk.pe he.pe hr.pp, ?_⟩
  intro B IO Z σ H cs ok ds cs' e Q q
  unfold evPc at e
  obtain ⟨⟨d1, f1, c1⟩, e1, e⟩ := Option.bind_eq_some_iff.mp e
  obtain ⟨kk, e2, e⟩ := Option.bind_eq_some_iff.mp e
  obtain ⟨⟨d3, f3, c3⟩, e3, e⟩ := Option.bind_eq_some_iff.mp e
  obtain ⟨⟨d4, c4⟩, e4, e⟩ := Option.bind_eq_some_iff.mp e
  cases e
  show tk σ H fun x H1 => te σ H1 fun y H2 => tPairs trs σ H2 fun ps H3 => Q ((x, y) :: ps) H3
  refine hk.se ok e1 _ fun x H1 w1 => he.se w1.post.ok e3 _ fun y H2 w2 => hr.sp w2.post.ok e4 _ fun ps H3 p3 v3 => ?_
  exact q _ H3 ((w1.post.trans w2.post).trans p3) (.cons ⟨key_rp w1.rp e2, w2.rp.mono p3.le⟩ v3)
def mergeD (es : List (D × D)) (ps : List (Key × D)) : List (D × D) := ps.foldl (fun acc p => putD acc p.1 p.2) es
theorem merge_pd {R : V → D → Prop} : ∀ {vs : List (V × V)} {ps : List (Key × D)}, Paired (fun q p => q.1 = kV p.1 ∧ R q.2 p.2) vs ps → ∃ kvs : List (Key × V), vs = kvs.map (fun kv => (kV kv.1, kv.2)) ∧ kvs.length = ps.length ∧
    ∀ {acc : List (Key × V)} {es : List (D × D)}, es.map (·.1) = acc.map (fun p => kD p.1) → Paired R (acc.map (·.2)) (es.map (·.2)) → (mergeD es ps).map (·.1) = (mergeK acc kvs).map (fun p => kD p.1) ∧ Paired R ((mergeK acc kvs).map (·.2)) ((mergeD es ps).map (·.2))
  | _, _, .nil => ⟨[], rfl, rfl, fun h1 h2 => ⟨h1, h2⟩⟩
  | (v, w) :: vs, (k, d) :: ps, .cons h t => by
    obtain ⟨h1, h2⟩ := h
    dsimp only at h1 h2
    subst h1
    obtain ⟨kvs, rfl, hl, g⟩ := merge_pd t
    refine ⟨(k, w) :: kvs, rfl, by simp [hl], fun h3 h4 => ?_⟩
    have := put_pd (k := k) h2 h3 h4
    exact g this.1 this.2
theorem Ok.updX2 {B : Hp} {IO : List (Nat × Addr)} {Z : Addr → Prop} {σ : St} {H : Hp} {cs : En} (ok : Ok K B IO Z σ H cs) {p : Addr} {o : HO} (hp : Z p) (hB : B p = none) : Ok K B IO Z σ (upd H p o) cs := by
  have hle : Le (cut H (Md σ cs Z)) (cut (upd H p o) (Md σ cs Z)) := le_cut fun a u e m => ⟨by rw [upd_ne (fun z => m (.inl (by rw [z]; exact hp)))]; exact e, m⟩
  refine ⟨ok.len, fun i d e => ?_, fun i d e => ?_, ok.inj, ok.dis, fun a h => ?_, ok.new, ok.io, ok.ios, fun a u h e => ?_, fun a h => ?_⟩
  · obtain ⟨v, h1, h2⟩ := ok.dat i d e
    exact ⟨v, h1, h2.mono hle⟩
  · obtain ⟨a, h1, h2⟩ := ok.own i d e
    have ne : a ≠ p := fun z => ok.dis i a ⟨h1, d, e⟩ (by rw [z]; exact hp)
    refine ⟨a, h1, ?_⟩
    rw [upd_ne ne]
    exact h2.mono hle
  · by_cases z : a = p
    · rw [z, upd_same]; exact fun z => nomatch z
    · rw [upd_ne z]; exact ok.xin a h
  · have ne : a ≠ p := fun z => by rw [z, hB] at e; cases e
    rw [upd_ne ne]
    exact ok.base a u h e
  · by_cases z : a = p
    · rw [z, upd_same]; exact fun z => nomatch z
    · rw [upd_ne z]; exact ok.dom a h
def evDisp (g : PX) : EX := fun cs => (g cs).bind fun r => if r.1.length ≤ 15 then some (.dict (mergeD [] r.1), true, r.2) else none
theorem de_disp {ks : List (Option Expr)} {vs : List Expr} {trs : List (TE × TE)} {g : PX} (h : DPs X pos ks vs trs g) (hall : ks.all (·.isSome) = true) (hl : ks.length = vs.length) (h0 : ks ≠ []) (h15 : ks.length ≤ 15) : DE X (.Dict ks vs pos) (tDisp trs) (evDisp g) := by
  refine ⟨pe_disp h.pp hall hl h0 h15, ?_⟩
  intro B IO Z σ H cs ok d fr cs' e Q q
  unfold evDisp at e
  obtain ⟨⟨ps, c1⟩, e1, e⟩ := Option.bind_eq_some_iff.mp e
  dsimp only at e
  split at e
  · rename_i hn
    cases e
    intro p hp
    have hq := Pe.of (K := X.K) (Post.refl ok) (Ex.new (o := HO.dK []) hp) (VOk.new hp ok.md (.dic rfl .nil : OwnAt X.K _ (some (HO.dK [])) (.dict [])))
    obtain ⟨p', ep, _, pn, _⟩ := (show ∃ p', V.ref p = .ref p' ∧ H p' = none ∧ PostN X.K B IO Z σ H cs p' σ (upd H p (.dK [])) cs ∧ OwnAt X.K (cut (upd H p (.dK [])) (Md σ cs (XP Z p'))) (upd H p (.dK []) p') (.dict []) from hq)
    cases ep
    refine h.sp pn.ok e1 _ fun us H2 p2 v2 => ?_
    obtain ⟨kvs, rfl, hlen, mg⟩ := merge_pd v2
    have hk : H2 p = some (.dK []) := by rw [p2.keep p (.inr rfl), upd_same]
    obtain ⟨m1, m2⟩ := mg (acc := []) (es := []) rfl .nil
    refine ⟨hk, kvs, rfl, by omega, ?_⟩
    have hB : B p = none := by
      cases hb : B p with
      | none => rfl
      | some o => exact absurd hp (ok.dom p (by rw [hb]; exact fun z => nomatch z))
    refine q _ _ ⟨p, rfl, hp, ⟨p2.ok.updX2 (.inr rfl) hB, ?_, fun a ha => ?_, fun a ha => ?_, pn.np⟩, ?_⟩
    · refine (pn.le.trans p2.le).trans (le_cut fun a u e m => ⟨?_, m⟩)
      rw [upd_ne (fun z => m (.inl (.inr z)))]
      exact e
    · have ne : a ≠ p := fun z => pn.np (by rw [← z]; exact ha)
      rw [upd_ne ne, p2.keep a (.inl ha), upd_ne ne]
    · by_cases z : a = p
      · rw [z, upd_same]; exact fun z => nomatch z
      · rw [upd_ne z]; exact p2.dom a (by rw [upd_ne z]; exact ha)
    · rw [upd_same]
      refine .dic m1 (Rp.monoA (le_cut fun a u e m => ⟨?_, m⟩) m2)
      rw [upd_ne (fun z => m (.inl (.inr z)))]
      exact e
  · cases e
end
end Qp
end
section
set_option Elab.async false
set_option linter.all false
set_option maxRecDepth 100000
set_option maxHeartbeats 2000000
/-! Qt: for k in d. -/
namespace Qp
open PySem PySem.Spec PyProof.Rows L2
section
variable {X : Cx} {K : PySem.W.Frag} {i : Nat} {g : TG} {tb : TS} {gb : SX} {f : GX} {tgs : List Nat} {B : Hp} {IO : List (Nat × Addr)} {Z : Addr → Prop} {σ : St} {H : Hp} {cs : En} {a : Addr} {o : Obj} {kvs : List (Key × V)} {es : List (D × D)}
theorem rp_kD {F : Hp} (k : Key) : Rp K F (kV k) (kD k) := by
  cases k with
  | inl j => exact .int j
  | inr s => exact .str s
theorem forK_core (hg : SG K g tgs f) (hb : SS K tb gb) (ok : Ok K B IO Z σ H cs) (hB : B a = some (.frz o (.dK kvs))) (hIO : ∀ i, (i, a) ∉ IO) (he : es.map (·.1) = kvs.map (fun p => kD p.1)) (hs : σ[i]? = some (some (.ref a))) {r : Res} (el : loopF f gb (es.map (·.1)) cs = some r) (Dn : Ends) (q : DnOk K B IO Z σ H cs r Dn) :
    tFor (iKeys (tVar i)) g tb Dn σ H := by
  have hlen : (es.map (·.1)).length = kvs.length := by rw [he, List.length_map]
  refine ⟨.ref a, hs, a, o, rfl, .inl ⟨kvs, ok.base a _ hIO hB, ?_⟩⟩
  refine ⟨fun i m σ' H' => m = kvs.length - i ∧ i ≤ kvs.length ∧ ∃ c, Post K B IO Z σ H cs σ' H' c ∧ loopF f gb ((es.map (·.1)).drop i) c = some r, ⟨_, rfl, Nat.zero_le _, cs, Post.refl ok, by rw [List.drop_zero]; exact el⟩, ?_⟩
  rintro i m σ' H' ⟨rfl, hil, c, p, el⟩
  have hx := p.ok.base a _ hIO hB
  by_cases hlt : i < kvs.length
  · have hlt' : i < (es.map (·.1)).length := by omega
    rw [List.drop_eq_getElem_cons hlt'] at el
    unfold loopF at el
    obtain ⟨c2, e2, el⟩ := Option.bind_eq_some_iff.mp el
    obtain ⟨rb, e3, el⟩ := Option.bind_eq_some_iff.mp el
    have hk : (es.map (·.1))[i] = kD kvs[i].1 := by
      have : (es.map (·.1))[i]? = (kvs.map (fun p => kD p.1))[i]? := by rw [he]
      rw [List.getElem?_eq_getElem hlt', List.getElem?_map, List.getElem?_eq_getElem hlt] at this
      exact Option.some.inj this
    refine .inr ⟨⟨hx, hlt⟩, fun σ3 H3 => ∃ c3, Post K B IO Z σ H cs σ3 H3 c3 ∧ loopF f gb ((es.map (·.1)).drop (i + 1)) c3 = some r, fun σ3 H3 ⟨c3, h1, h3⟩ => ⟨kvs.length - (i + 1), by omega, rfl, hlt, c3, h1, h3⟩, fun x H2 hy => ?_⟩
    obtain ⟨rfl, k, v, hkv, rfl⟩ := hy
    rw [List.getElem?_eq_getElem hlt] at hkv
    cases hkv' : kvs[i] with
    | mk k' v' =>
      rw [hkv'] at hkv hk
      cases hkv
      refine hg p.ok (by rw [hk]; exact rp_kD k) e2 _ fun σ3 H3 p3 _ => ?_
      have p123 := p.trans p3
      refine hb p3.ok e3 _ ?_
      cases rb with
      | nx c4 => exact fun σ4 H4 p4 => ⟨c4, p123.trans p4, el⟩
      | ct c4 => exact fun σ4 H4 p4 => ⟨c4, p123.trans p4, el⟩
      | bk c4 =>
        cases el
        exact fun σ4 H4 p4 => q σ4 H4 (p123.trans p4)
      | rt d fr c4 =>
        cases el
        exact fun v σ4 H4 p4 => q v σ4 H4 (p4.pre p123)
  · have hi' : i = kvs.length := by omega
    subst hi'
    rw [List.drop_eq_nil_of_le (by omega)] at el
    cases el
    exact .inl ⟨⟨hx, Nat.le_refl _⟩, q σ' H' p⟩
/-! an object is put under a lock, and taken out again -/
theorem ok_in {u w : HO} (ok : Ok K B IO Z σ H cs) (hu : H a = some u) (hm : ¬ Md σ cs Z a) (hw : ∀ F F' : Hp, F a = some u → F' a = some w → ∀ v, Nf v → Rd F a v → Rd F' a v) : Ok K (upd B a w) IO Z σ (upd H a w) cs ∧ Le (cut H (Md σ cs Z)) (cut (upd H a w) (Md σ cs Z)) := by
  have hle : Le (cut H (Md σ cs Z)) (cut (upd H a w) (Md σ cs Z)) := by
    intro b v nv r
    by_cases e : b = a
    · subst e
      exact hw _ _ ((cut_of hm).trans hu) ((cut_of hm).trans upd_same) v nv r
    · have : cut (upd H a w) (Md σ cs Z) b = cut H (Md σ cs Z) b := by
        by_cases m : Md σ cs Z b
        · rw [cut_in m, cut_in m]
        · rw [cut_of m, cut_of m, upd_ne e]
      unfold Rd at r ⊢
      rw [this]
      exact r
  refine ⟨⟨ok.len, fun i d e => ?_, fun i d e => ?_, ok.inj, ok.dis, fun b h => ?_, fun i b d h1 h2 => ?_, ok.io, ok.ios, fun b v h e => ?_, fun b h => ?_⟩, hle⟩
  · obtain ⟨v, h1, h2⟩ := ok.dat i d e
    exact ⟨v, h1, h2.mono hle⟩
  · obtain ⟨b, h1, h2⟩ := ok.own i d e
    have ne : b ≠ a := fun z => hm (.inr ⟨i, by rw [← z]; exact h1, d, e⟩)
    refine ⟨b, h1, ?_⟩
    rw [upd_ne ne]
    exact h2.mono hle
  · by_cases e : b = a
    · rw [e, upd_same]; exact fun z => nomatch z
    · rw [upd_ne e]; exact ok.xin b h
  · have ne : b ≠ a := fun z => hm (.inr ⟨i, by rw [← z]; exact h1, d, .inl h2⟩)
    rw [upd_ne ne]
    exact ok.new i b d h1 h2
  · by_cases c : b = a
    · subst c; rw [upd_same] at e ⊢; exact e
    · rw [upd_ne c] at e ⊢; exact ok.base b v h e
  · by_cases c : b = a
    · rw [c, upd_same]; exact fun z => nomatch z
    · rw [upd_ne c] at h ⊢; exact ok.dom b h
theorem ok_out {u w : HO} (ok : Ok K (upd B a w) IO Z σ H cs) (hIO : ∀ i, (i, a) ∉ IO) (hBu : B a = none ∨ B a = some u) (hz : ∀ xs, w ≠ .lst xs) (hz2 : ∀ kvs, w ≠ .dK kvs) (hZ : ¬ Z a) (hw : ∀ F F' : Hp, F a = some w → F' a = some u → ∀ v, Nf v → Rd F a v → Rd F' a v) :
    Ok K B IO Z σ (upd H a u) cs ∧ Le (cut H (Md σ cs Z)) (cut (upd H a u) (Md σ cs Z)) := by
  have hHa : H a = some w := ok.base a w hIO upd_same
  have hm : ¬ Md σ cs Z a := by
    rintro (m | ⟨i, h1, d, h2⟩)
    · exact hZ m
    · obtain ⟨b, g1, g2⟩ := ok.own i d h2
      rw [h1] at g1
      cases g1
      rw [hHa] at g2
      generalize hq : some w = oo at g2
      cases g2 with
      | lst _ => exact hz _ (Option.some.inj hq)
      | dic _ _ => exact hz2 _ (Option.some.inj hq)
  have hle : Le (cut H (Md σ cs Z)) (cut (upd H a u) (Md σ cs Z)) := by
    intro b v nv r
    by_cases e : b = a
    · subst e
      exact hw _ _ ((cut_of hm).trans hHa) ((cut_of hm).trans upd_same) v nv r
    · have : cut (upd H a u) (Md σ cs Z) b = cut H (Md σ cs Z) b := by
        by_cases m : Md σ cs Z b
        · rw [cut_in m, cut_in m]
        · rw [cut_of m, cut_of m, upd_ne e]
      unfold Rd at r ⊢
      rw [this]
      exact r
  refine ⟨⟨ok.len, fun i d e => ?_, fun i d e => ?_, ok.inj, ok.dis, fun b h => ?_, fun i b d h1 h2 => ?_, ok.io, ok.ios, fun b v h e => ?_, fun b h => ?_⟩, hle⟩
  · obtain ⟨v, h1, h2⟩ := ok.dat i d e
    exact ⟨v, h1, h2.mono hle⟩
  · obtain ⟨b, h1, h2⟩ := ok.own i d e
    have ne : b ≠ a := fun z => hm (.inr ⟨i, by rw [← z]; exact h1, d, e⟩)
    refine ⟨b, h1, ?_⟩
    rw [upd_ne ne]
    exact h2.mono hle
  · by_cases e : b = a
    · rw [e, upd_same]; exact fun z => nomatch z
    · rw [upd_ne e]; exact ok.xin b h
  · have ne : b ≠ a := fun z => hm (.inr ⟨i, by rw [← z]; exact h1, d, .inl h2⟩)
    have := ok.new i b d h1 h2
    rwa [upd_ne ne] at this
  · by_cases c : b = a
    · subst c
      rw [upd_same]
      rcases hBu with z | z
      · rw [z] at e; cases e
      · rw [z] at e; exact e
    · rw [upd_ne c]; exact ok.base b v h (by rw [upd_ne c]; exact e)
  · by_cases c : b = a
    · rw [c, upd_same]; exact fun z => nomatch z
    · rw [upd_ne c]; exact ok.dom b (by rw [upd_ne c]; exact h)
theorem frz_nl {o : Obj} {u : HO} : ∀ xs, HO.frz o u ≠ .lst xs := fun _ z => nomatch z
theorem frz_nd {o : Obj} {u : HO} : ∀ kvs, HO.frz o u ≠ .dK kvs := fun _ z => nomatch z
theorem hu65 {A : Around} {k : Nat} (h : Room k A) : A.units + 65 < cLine := by
  have := h.un
  omega
/-! the walk -/
def tForK (i : Nat) (g : TG) (tb : TS) : TS := fun Dn σ H => tFor (iKeys (tVar i)) g tb Dn σ H ∨ tLock (tFor (iKeys (tVar i)) g tb) Dn σ H
def sForK (i : Nat) (f : GX) (gb : SX) : SX := fun cs => (evVar i cs).bind fun r => match r.1 with
  | .dict es => loopF f gb (es.map (·.1)) r.2.2
  | _ => none
theorem rd_frz {o : Obj} {u : HO} (hu : Nf u) : ∀ F F' : Hp, F a = some u → F' a = some (.frz o u) → ∀ v, Nf v → Rd F a v → Rd F' a v := by
  intro F F' h h' v nv r
  rcases r with r | ⟨o', r⟩
  · rw [h] at r; cases r; exact .inr ⟨o, h'⟩
  · rw [h] at r; cases r; exact absurd rfl (hu _ _)
theorem rd_unf {o : Obj} {u : HO} : ∀ F F' : Hp, F a = some (.frz o u) → F' a = some u → ∀ v, Nf v → Rd F a v → Rd F' a v := by
  intro F F' h h' v nv r
  rcases r with r | ⟨o', r⟩
  · rw [h] at r; cases r; exact absurd rfl (nv _ _)
  · rw [h] at r; cases r; exact .inl h'
theorem rd_same {u : HO} : ∀ F F' : Hp, F a = some u → F' a = some u → ∀ v, Nf v → Rd F a v → Rd F' a v := by
  intro F F' h h' v nv r
  rcases r with r | ⟨o', r⟩
  · rw [h] at r; exact .inl (h'.trans r)
  · rw [h] at r; exact .inr ⟨o', h'.trans r⟩
/-- behind the walk: the object is as it was -/
theorem post_out {u w : HO} {σ' : St} {H' : Hp} {c : En} (ok : Ok K B IO Z σ H cs) (hu : H a = some u) (hm : ¬ Md σ cs Z a) (hIO : ∀ i, (i, a) ∉ IO) (hz : ∀ xs, w ≠ .lst xs) (hz2 : ∀ kvs, w ≠ .dK kvs) (hw1 : ∀ F F' : Hp, F a = some u → F' a = some w → ∀ v, Nf v → Rd F a v → Rd F' a v)
    (hw : ∀ F F' : Hp, F a = some w → F' a = some u → ∀ v, Nf v → Rd F a v → Rd F' a v) (p : Post K (upd B a w) IO Z σ (upd H a w) cs σ' H' c) : H' a = some w ∧ Post K B IO Z σ H cs σ' (upd H' a u) c := by
  obtain ⟨_, l1⟩ := ok_in ok hu hm hw1
  have hBu : B a = none ∨ B a = some u := by
    cases hb : B a with
    | none => exact .inl rfl
    | some v => rw [← hu]; exact .inr (ok.base a v hIO hb).symm
  have hZ : ¬ Z a := fun z => hm (.inl z)
  obtain ⟨o2, l2⟩ := ok_out p.ok hIO hBu hz hz2 hZ hw
  refine ⟨p.ok.base a w hIO upd_same, o2, (l1.trans p.le).trans l2, fun b hb => ?_, fun b hb => ?_⟩
  · have ne : b ≠ a := fun z => hZ (by rw [← z]; exact hb)
    rw [upd_ne ne, p.keep b hb, upd_ne ne]
  · by_cases c : b = a
    · rw [c, upd_same]; exact fun z => nomatch z
    · rw [upd_ne c]; exact p.dom b (by rw [upd_ne c]; exact hb)
theorem pe_out {u w : HO} {σ' : St} {H' : Hp} {c : En} {fr : Bool} {v : V} {d : D} (ok : Ok K B IO Z σ H cs) (hu : H a = some u) (hm : ¬ Md σ cs Z a) (hIO : ∀ i, (i, a) ∉ IO) (hz : ∀ xs, w ≠ .lst xs) (hz2 : ∀ kvs, w ≠ .dK kvs) (hw1 : ∀ F F' : Hp, F a = some u → F' a = some w → ∀ v, Nf v → Rd F a v → Rd F' a v)
    (hw : ∀ F F' : Hp, F a = some w → F' a = some u → ∀ v, Nf v → Rd F a v → Rd F' a v) (p : Pe K (upd B a w) IO Z σ (upd H a w) cs σ' H' c fr v d) : H' a = some w ∧ Pe K B IO Z σ H cs σ' (upd H' a u) c fr v d := by
  have hBu : B a = none ∨ B a = some u := by
    cases hb : B a with
    | none => exact .inl rfl
    | some v => rw [← hu]; exact .inr (ok.base a v hIO hb).symm
  have hZ : ¬ Z a := fun z => hm (.inl z)
  obtain ⟨h1, h2⟩ := post_out ok hu hm hIO hz hz2 hw1 hw p.post
  refine ⟨h1, ?_⟩
  cases fr with
  | false =>
    have hr := p.rp
    obtain ⟨_, l2⟩ := ok_out p.post.ok hIO hBu hz hz2 hZ hw
    exact .dat h2 (hr.mono l2)
  | true =>
    obtain ⟨_, l1⟩ := ok_in ok hu hm hw1
    obtain ⟨q, rfl, hq, pn, ow⟩ := (show ∃ q, v = .ref q ∧ upd H a w q = none ∧ PostN K (upd B a w) IO Z σ (upd H a w) cs q σ' H' c ∧ OwnAt K (cut H' (Md σ' c (XP Z q))) (H' q) d from p)
    have ne : q ≠ a := fun z => by rw [z, upd_same] at hq; cases hq
    rw [upd_ne ne] at hq
    have hZ' : ¬ XP Z q a := fun z => z.elim hZ fun e => ne e.symm
    obtain ⟨o2, l2⟩ := ok_out pn.ok hIO hBu hz hz2 hZ' hw
    refine ⟨q, rfl, hq, ⟨o2, (l1.trans pn.le).trans l2, h2.keep, h2.dom, pn.np⟩, ?_⟩
    rw [upd_ne ne]
    exact ow.mono l2
theorem ss_forK (hg : SG K g tgs f) (hb : SS K tb gb) : SS K (tForK i g tb) (sForK i f gb) := by
  intro B IO Z σ H cs ok r e Dn q
  unfold sForK at e
  obtain ⟨⟨d1, f1, c1⟩, e1, e⟩ := Option.bind_eq_some_iff.mp e
  dsimp only at e
  split at e
  · rename_i es
    -- the dict is read as a datum
    have hv : ∃ v, σ[i]? = some (some v) ∧ Post K B IO Z σ H cs σ H c1 ∧ Rp K (cut H (Md σ c1 Z)) v (.dict es) := by
      unfold evVar at e1
      split at e1
      · rename_i d' h
        cases e1
        obtain ⟨v, h1, h2⟩ := ok.dat i _ h
        exact ⟨v, h1, Post.refl ok, h2⟩
      · rename_i d' h
        cases e1
        exact ok.freeze h
      · cases e1
    obtain ⟨v, hs, p, rp⟩ := hv
    obtain ⟨a, kvs, rfl, hr, he⟩ : ∃ a kvs, v = .ref a ∧ Rd (cut H (Md σ c1 Z)) a (.dK kvs) ∧ es.map (·.1) = kvs.map (fun p => kD p.1) := by
      cases rp with
      | dic hr he _ => exact ⟨_, _, rfl, hr, he⟩
    · skip
      have q1 := q.pre p
      have nm : ¬ Md σ c1 Z a := by
        rcases hr with h | ⟨o, h⟩ <;> exact (cut_some h).2
      have hIO : ∀ i, (i, a) ∉ IO := fun j hj => by
        obtain ⟨d, h1, h2⟩ := p.ok.ios j a hj
        exact nm (.inr ⟨j, h2, d, .inr h1⟩)
      rcases hr with h | ⟨o, h⟩
      · have hu := (cut_some h).1
        refine .inr ⟨a, _, hu, trivial, fun od => ?_⟩
        obtain ⟨o1, _⟩ := ok_in (w := .frz od (.dK kvs)) p.ok hu nm (rd_frz nf_dK)
        refine forK_core hg hb o1 upd_same hIO he hs e _ ?_
        have po : ∀ {σ' : St} {H' : Hp} {c : En}, Post K (upd B a (.frz od (.dK kvs))) IO Z σ (upd H a (.frz od (.dK kvs))) c1 σ' H' c → H' a = some (.frz od (.dK kvs)) ∧ Post K B IO Z σ H c1 σ' (upd H' a (.dK kvs)) c :=
          fun pp => post_out p.ok hu nm hIO frz_nl frz_nd (rd_frz nf_dK) rd_unf pp
        cases r with
        | nx c => exact fun σ' H' pp => ⟨(po pp).1, q1 σ' _ (po pp).2⟩
        | bk c => exact fun σ' H' pp => ⟨(po pp).1, q1 σ' _ (po pp).2⟩
        | ct c => exact fun σ' H' pp => ⟨(po pp).1, q1 σ' _ (po pp).2⟩
        | rt d fr c =>
          intro v σ' H' pp
          obtain ⟨g1, g2⟩ := pe_out p.ok hu nm hIO frz_nl frz_nd (rd_frz nf_dK) rd_unf pp
          exact ⟨g1, q1 v σ' _ g2⟩
      · have hu := (cut_some h).1
        refine .inl ?_
        have hsame : upd H a (.frz o (.dK kvs)) = H := funext fun b => by
          by_cases c : b = a
          · rw [c, upd_same, hu]
          · rw [upd_ne c]
        obtain ⟨o1, _⟩ := ok_in (w := .frz o (.dK kvs)) p.ok hu nm rd_same
        have core := forK_core hg hb o1 upd_same hIO he hs e Dn (o := o) ?_
        · rw [hsame] at core; exact core
        · have same2 : ∀ H' : Hp, H' a = some (.frz o (.dK kvs)) → upd H' a (.frz o (.dK kvs)) = H' := fun H' h' => funext fun b => by
            by_cases c : b = a
            · rw [c, upd_same, h']
            · rw [upd_ne c]
          have po : ∀ {σ' : St} {H' : Hp} {c : En}, Post K (upd B a (.frz o (.dK kvs))) IO Z σ (upd H a (.frz o (.dK kvs))) c1 σ' H' c → Post K B IO Z σ H c1 σ' H' c := fun pp => by
            obtain ⟨g1, g2⟩ := post_out p.ok hu nm hIO frz_nl frz_nd rd_same rd_same pp
            rwa [same2 _ g1] at g2
          cases r with
          | nx c => exact fun σ' H' pp => q1 σ' _ (po pp)
          | bk c => exact fun σ' H' pp => q1 σ' _ (po pp)
          | ct c => exact fun σ' H' pp => q1 σ' _ (po pp)
          | rt d fr c =>
            intro v σ' H' pp
            obtain ⟨g1, g2⟩ := pe_out p.ok hu nm hIO frz_nl frz_nd rd_same rd_same pp
            rw [same2 _ g1] at g2
            exact q1 v σ' _ g2
  · cases e
theorem ps_or {st : Stmt} {t u : TS} (h1 : PS X st t) (h2 : PS X st u) : PS X st (fun Dn σ H => t Dn σ H ∨ u Dn σ H) := by
  constructor
  intros
  rename_i h
  rcases h with h | h
  · exact h1.run _ _ _ _ _ ‹_› h
  · exact h2.run _ _ _ _ _ ‹_› h
theorem ds_forK {body : List Stmt} {tg : Expr} {x : Str} {xpos pos : Pos} (hp : PassesOwn (model X.prog X.w) X.A X.env X.xe) (hc : X.calm = true) (hv : DE X (.Name x xpos) (tVar i) (evVar i)) (hg : DG X tg g tgs f) (hb : DB X body tb gb) (hs : ∀ y, foldedSetIterable (.Name x xpos) X.env y = pure y := by intro _; rfl) :
    DS X (.For tg (.Name x xpos) body [] pos) (tForK i g tb) (sForK i f gb) :=
  ⟨ps_or (ps_for hp hc (pi_keys hv.pe) hg.pg hb.pss hs) (ps_lock (ps_for hp hc (pi_keys hv.pe) hg.pg hb.pss hs)), ss_forK hg.sg hb.ss⟩
end
end Qp
end
section
set_option Elab.async false
set_option linter.all false
set_option maxRecDepth 100000
set_option maxHeartbeats 2000000
/-! Qu: how the codes of Qr, Qs, Qt, and while, are reckoned. -/
namespace Qp
open PySem PySem.Spec PyProof.Rows L2
section
variable {d x y z : D} {fr f1 b : Bool} {c cs c1 : En} {i n m : Nat} {f fa fb fe fi fk : EX} {g : G2} {u : G1} {G : GA} {fs : AX} {t s : TX} {p q : SX} {xs ds zs : List D} {es : List (D × D)} {k : Key} {j : Int} {gt : GX}
def kW2 (t : TX) (p : SX) (n : Nat) (o : Option Res) : Option Res := o.bind fun z => match z with
  | .nx c => loopW t p n c
  | .ct c => loopW t p n c
  | .bk c => some (.nx c)
  | .rt d fr c => some (.rt d fr c)
def kW1 (t : TX) (p : SX) (n : Nat) (o : Option (Bool × En)) : Option Res := o.bind fun b => if b.1 = true then kW2 t p n (p b.2) else some (.nx b.2)
theorem loopW_succ : loopW t p (n + 1) cs = kW1 t p n (t cs) := rfl
@[simp] theorem kW1_t : kW1 t p n (some (true, c)) = kW2 t p n (p c) := rfl
@[simp] theorem kW1_f : kW1 t p n (some (false, c)) = some (.nx c) := rfl
@[simp] theorem kW2_n : kW2 t p n (some (.nx c)) = loopW t p n c := rfl
@[simp] theorem kW2_c : kW2 t p n (some (.ct c)) = loopW t p n c := rfl
@[simp] theorem kW2_b : kW2 t p n (some (.bk c)) = some (.nx c) := rfl
@[simp] theorem kW2_r : kW2 t p n (some (.rt d fr c)) = some (.rt d fr c) := rfl
def kAu3 (i : Nat) (fr : Bool) (d : D) (c : En) (b : Bool) : Option Res := if b = true then some (.nx (c.set i (Qp.cellOf fr d))) else none
def kAu2 (i : Nat) (c : En) (o : Option (D × Bool)) : Option Res := o.bind fun z => kAu3 i z.2 z.1 c (noIo c i)
def kAu1 (g : G2) (i : Nat) (d : D) (o : OE) : Option Res := o.bind fun r => kAu2 i r.2.2 (g d r.1)
def kAu0 (g : G2) (i : Nat) (f : EX) (cs : En) (o : Option Cell) : Option Res := match o with
  | some (.dat d) => kAu1 g i d (f cs)
  | _ => none
@[simp] theorem sAug_ap : sAug g i f cs = kAu0 g i f cs cs[i]? := rfl
@[simp] theorem kAu0_d : kAu0 g i f cs (some (.dat d)) = kAu1 g i d (f cs) := rfl
@[simp] theorem kAu1_s : kAu1 g i d (some (x, f1, c)) = kAu2 i c (g d x) := rfl
@[simp] theorem kAu2_s : kAu2 i c (some (x, fr)) = kAu3 i fr x c (noIo c i) := rfl
@[simp] theorem kAu3_t : kAu3 i fr d c true = some (.nx (c.set i (Qp.cellOf fr d))) := rfl
def kBo2 (i : Nat) (o : Option (List D × En)) : Option (List D × En) := o.bind fun s => (cont s.2 i).bind fun d => some (d :: s.1, s.2)
def kBo1 (i : Nat) (fs : AX) (cs : En) (o : Option D) : Option (List D × En) := o.bind fun _ => kBo2 i (fs cs)
def kBo3 (xs : List D) (c : En) (o : Option D) : Option (List D × En) := o.bind fun d => some (d :: xs, c)
@[simp] theorem evBor_ap : evBor i fs cs = kBo1 i fs cs (cont cs i) := rfl
@[simp] theorem kBo1_s : kBo1 i fs cs (some d) = kBo2 i (fs cs) := rfl
@[simp] theorem kBo2_s : kBo2 i (some (xs, c)) = kBo3 xs c (cont c i) := rfl
@[simp] theorem kBo3_s : kBo3 xs c (some d) = some (d :: xs, c) := rfl
def kCB2 (c : En) (o : Option (D × Bool)) : OE := o.bind fun z => if noMutF z.2 z.1 = true then some (z.1, z.2, c) else none
def kCB1 (G : GA) (o : Option (List D × En)) : OE := o.bind fun r => kCB2 r.2 (G r.1)
@[simp] theorem evCB_ap : evCB G fs cs = kCB1 G (fs cs) := rfl
@[simp] theorem kCB1_s : kCB1 G (some (xs, c)) = kCB2 c (G xs) := rfl
theorem kCB2_of (h : noMutF fr d = true) : kCB2 c (some (d, fr)) = some (d, fr, c) := if_pos h
@[simp] theorem kCB2_i : kCB2 c (some (.int j, false)) = some (.int j, false, c) := rfl
@[simp] theorem kCB2_bl : kCB2 c (some (.bool b, false)) = some (.bool b, false, c) := rfl
@[simp] theorem kCB2_n : kCB2 c (some (.none, false)) = some (.none, false, c) := rfl
def kFK (gt : GX) (p : SX) (o : OE) : Option Res := o.bind fun r => match r.1 with
  | .dict es => loopF gt p (es.map (·.1)) r.2.2
  | _ => none
@[simp] theorem sForK_ap : sForK i gt p cs = kFK gt p (evVar i cs) := rfl
@[simp] theorem kFK_s : kFK gt p (some (.dict es, f1, c)) = loopF gt p (es.map (·.1)) c := rfl
def kDi (o : Option (List (Key × D) × En)) : OE := o.bind fun r => if r.1.length ≤ 15 then some (.dict (mergeD [] r.1), true, r.2) else none
variable {ps : List (Key × D)} {fp : PX}
@[simp] theorem evDisp_ap : evDisp fp cs = kDi (fp cs) := rfl
theorem kDi_of (h : ps.length ≤ 15) : kDi (some (ps, c)) = some (.dict (mergeD [] ps), true, c) := if_pos h
@[simp] theorem evPn_ap : evPn cs = some ([], cs) := rfl
def kPc4 (k : Key) (x : D) (o : Option (List (Key × D) × En)) : Option (List (Key × D) × En) := o.bind fun u => some ((k, x) :: u.1, u.2)
def kPc3 (fp : PX) (k : Key) (o : OE) : Option (List (Key × D) × En) := o.bind fun s => kPc4 k s.1 (fp s.2.2)
def kPc2 (fe : EX) (fp : PX) (c : En) (o : Option Key) : Option (List (Key × D) × En) := o.bind fun k => kPc3 fp k (fe c)
def kPc1 (fe : EX) (fp : PX) (o : OE) : Option (List (Key × D) × En) := o.bind fun r => kPc2 fe fp r.2.2 (keyD r.1)
@[simp] theorem evPc_ap : evPc fk fe fp cs = kPc1 fe fp (fk cs) := rfl
@[simp] theorem kPc1_s : kPc1 fe fp (some (x, f1, c)) = kPc2 fe fp c (keyD x) := rfl
@[simp] theorem kPc2_s : kPc2 fe fp c (some k) = kPc3 fp k (fe c) := rfl
@[simp] theorem kPc3_s : kPc3 fp k (some (x, f1, c)) = kPc4 k x (fp c) := rfl
@[simp] theorem kPc4_s : kPc4 k x (some (ps, c)) = some ((k, x) :: ps, c) := rfl
@[simp] theorem gLenD_d : gLenD (.dict es) = some (.int es.length, false) := rfl
/-- a comprehension with a test -/
theorem loopC_filt {items : List D} {ft : TX} {fe : EX} {vs : List Nat} {P : D → Bool} {v : D → D}
    (hx : ∀ x ∈ items, ∃ c1, gt x cs = some c1 ∧ ft c1 = some (P x, c1) ∧ noOwn c1 vs = true ∧ clr c1 vs = cs ∧ (P x = true → ∃ f1, fe c1 = some (v x, f1, c1))) :
    ∀ acc : List D, acc.length + items.length ≤ LIM → loopC gt ft fe vs items acc cs = some (acc ++ (items.filter P).map v, cs) := by
  induction items with
  | nil => intro acc _; simp
  | cons x r ih =>
    intro acc hl
    rw [List.length_cons] at hl
    obtain ⟨c1, h1, h2, h4, h5, h3⟩ := hx x List.mem_cons_self
    have ih' := ih (fun y hy => hx y (List.mem_cons_of_mem _ hy))
    cases hp : P x with
    | true =>
      obtain ⟨f1, h3⟩ := h3 hp
      unfold loopC
      rw [h1, Option.bind_some, h2, Option.bind_some, hp, if_pos rfl, h3, Option.bind_some]
      dsimp only
      rw [h4, h5, show decide (acc.length < LIM) = true from decide_eq_true (by omega)]
      have := ih' (acc ++ [v x]) (by rw [List.length_append, List.length_singleton]; omega)
      rw [Bool.and_self, if_pos rfl, this, List.append_assoc, List.filter_cons_of_pos hp]
      rfl
    | false =>
      unfold loopC
      rw [h1, Option.bind_some, h2, Option.bind_some, hp]
      have := ih' acc (by omega)
      rw [List.filter_cons_of_neg (by rw [hp]; decide)]
      show (if noOwn c1 vs = true then loopC gt ft fe vs r acc (clr c1 vs) else none) = _
      rw [h4, h5, if_pos rfl]
      exact this
end
end Qp
end
section
set_option Elab.async false
set_option linter.all false
set_option maxRecDepth 100000
set_option maxHeartbeats 2000000
/-! Qv: is True; in a list of nested data; extend by any list or tuple. -/
namespace Qp
open PySem PySem.Spec PyProof.Rows L2
section
variable {X : Cx} {K : PySem.W.Frag} {F : Hp} {e a b : Expr} {es : List Expr} {te ta tb tk to : TE} {ts : TA} {fe fa fb fk : EX} {fs : AX} {pos fpos cpos xpos apos : Pos} {x : Str} {i : Nat}
/-! ### is True -/
def gIsB : G2
  | .bool x, .bool y => some (.bool (x == y), false)
  | _, _ => none
def gNotB : G2
  | .bool x, .bool y => some (.bool (!(x == y)), false)
  | _, _ => none
theorem sr_isB : SR2 K rIsB gIsB := by
  intro H M hm x y d e rx ry z fr q Q k
  unfold gIsB at q
  split at q
  · rename_i a b
    cases q
    refine ⟨a, b, rx.bool_eq, ry.bool_eq, ?_⟩
    rw [show decide (a = b) = (a == b) by cases a <;> cases b <;> rfl]
    exact k _ H (Ex.refl H) (VOk.of (.bl _))
  · cases q
theorem sr_notB : SR2 K rNotB gNotB := by
  intro H M hm x y d e rx ry z fr q Q k
  unfold gNotB at q
  split at q
  · rename_i a b
    cases q
    refine ⟨a, b, rx.bool_eq, ry.bool_eq, ?_⟩
    rw [show decide (a = b) = (a == b) by cases a <;> cases b <;> rfl]
    exact k _ H (Ex.refl H) (VOk.of (.bl _))
  · cases q
@[simp] theorem gIsB_s {x y : Bool} : gIsB (.bool x) (.bool y) = some (.bool (x == y), false) := rfl
@[simp] theorem gNotB_s {x y : Bool} : gNotB (.bool x) (.bool y) = some (.bool (!(x == y)), false) := rfl
/-! ### in, of nested data in a list -/
def gInD (neg : Bool) : G2
  | d, .list ds => if (SeqAt.shaped d && SeqAt.shaped (.list ds)) = true then some (.bool (if neg then !(ds.any fun e => PyData.eqv e d) else ds.any fun e => PyData.eqv e d), false) else none
  | _, _ => none
theorem Vw.dp {H : Hp} {M : Addr → Prop} {v : V} {d : D} (w : Vw K H M v d) (h : SeqAt.shaped d = true) : Dp K H v d := dp_of w.rpH (Le.refl H) (SeqAt.canLay_of_shaped h)
theorem sw_inD : SRw2 K (rInD K) (gInD false) := by
  intro H M hm x y d e rx ry z fr q Q k
  unfold gInD at q
  split at q
  · split at q
    · rename_i c
      cases q
      rw [Bool.and_eq_true] at c
      exact ⟨_, _, (Vw.of_rp rx).dp c.1, ry.dp c.2, c.1, c.2, k _ H (Ex.refl H) (VOk.of (.bl _))⟩
    · cases q
  · cases q
theorem sw_notinD : SRw2 K (rNotInD K) (gInD true) := by
  intro H M hm x y d e rx ry z fr q Q k
  unfold gInD at q
  split at q
  · split at q
    · rename_i c
      cases q
      rw [Bool.and_eq_true] at c
      exact ⟨_, _, (Vw.of_rp rx).dp c.1, ry.dp c.2, c.1, c.2, k _ H (Ex.refl H) (VOk.of (.bl _))⟩
    · cases q
  · cases q
theorem gInD_of {neg : Bool} {d : D} {ds : List D} (h : SeqAt.shaped d = true) (h2 : SeqAt.shaped (.list ds) = true) : gInD neg d (.list ds) = some (.bool (if neg then !(ds.any fun e => PyData.eqv e d) else ds.any fun e => PyData.eqv e d), false) := by
  show (if (SeqAt.shaped d && SeqAt.shaped (.list ds)) = true then _ else _) = _
  rw [h, h2]
  rfl
/-! ### extend by any list or tuple -/
theorem list_extendW (l : Addr) (items : Array Value) (n : Nat) (b : Addr) (items2 : Array Value) (n2 : Nat) (dd : Option Addr) (sl : Array (Option Value)) (c : String) (hcl : c = "list" ∨ c = "tuple") (hs0 : ¬(!items.isEmpty && Builtin.List.listTooLong (items.size + items2.size)) = true) (hs1 : items.size ≤ sizeLine) (hs2 : items.size + items2.size ≤ sizeLine + 1) :
    Meets (Builtin.«list.extend» ⟨[.ref l, .ref b], []⟩) (fun _ R s => s.heap.get? l = some { cls := .type "list", dict := none, data := .seq items n, slots := #[] } ∧ s.heap.get? b = some { cls := .type c, dict := dd, data := .seq items2 n2, slots := sl } ∧ R (.ok (.ret Value.none)) { s with heap := s.heap.update l (Obj.mapSeq fun x => x ++ items2), toks := s.toks }) :=
  .of_wp fun prog w A R s h => by
    obtain ⟨hp, g, d, tk, os⟩ := s; obtain ⟨hl, hb, h⟩ := h; have f1 := PySem.AutoSeq1.idx_int; have f2 := PySem.AutoSeq1.sub_tuple_tuple; have f3 := PySem.AutoSeq1.sub_list_list; have f4 := PySem.AutoSeq1.sub_tuple_list; have f5 := PySem.AutoSeq1.sub_list_tuple;
    have hz' : (items ++ items2).size ≤ sizeLine + 1 := by rw [Array.size_append]; exact hs2
    rcases hcl with rfl | rfl
    · wp_walk using (wpAny_updateSeq hl rfl (hz := hs1) (_hz' := hz')), wpAny_loadPart' hl, wpAny_loadPart' hb; exact ⟨_, rfl, h⟩
    · wp_walk using (wpAny_updateSeq hl rfl (hz := hs1) (_hz' := hz')), wpAny_loadPart' hl, wpAny_loadPart' hb; exact ⟨_, rfl, h⟩
def rExtA (K : PySem.W.Frag) : V → List V → Hp → VK → Prop := fun x vs H Q => ∃ l b xs zs, x = .ref l ∧ vs = [.ref b] ∧ H l = some (.lst xs) ∧ (SqL K H b zs ∨ SqT K H b zs) ∧ xs.length + zs.length ≤ sizeLine ∧ Q .non (upd H l (.lst (xs ++ zs)))
theorem mt_extA : MtM X "list.extend" (rExtA X.K) := by
  intro pins s σ H x vs v us Q I rx rv h
  obtain ⟨l, b, xs, zs, rfl, rfl, hH, hB, hz, q⟩ := h
  cases rx
  obtain ⟨u, rfl, ru⟩ := rv.one
  cases ru
  obtain ⟨z, its, n, r, hl, e⟩ := I.lstM hH
  have key : ∃ (its2 : List Value) (n2 : Nat) (dd : Option Addr) (sl : Array (Option Value)) (c : String), (c = "list" ∨ c = "tuple") ∧ Vals zs its2 ∧ s.heap.get? b = some { cls := .type c, dict := dd, data := .seq its2.toArray n2, slots := sl } := by
    rcases hB with hB | hB
    · obtain ⟨its2, r2, pl, _⟩ := I.list hB
      obtain ⟨⟨cls, dd, data, sl⟩, ho, hc, n2, hd⟩ := id pl.isList
      simp only at hc hd
      subst hc hd
      exact ⟨its2, n2, dd, sl, "list", .inl rfl, r2, ho⟩
    · obtain ⟨its2, r2, ⟨⟨cls, dd, data, sl⟩, ho, hc, n2, hd⟩, _⟩ := I.tuple hB
      simp only at hc hd
      subst hc hd
      exact ⟨its2, n2, dd, sl, "tuple", .inr rfl, r2, ho⟩
  obtain ⟨its2, n2, dd, sl, c, hcl, r2, e2⟩ := key
  have hl2 := r2.length
  have hsz : its.toArray.size + its2.toArray.size ≤ sizeLine := by rw [List.size_toArray, List.size_toArray]; omega
  have hlong : ¬ (!its.toArray.isEmpty && Builtin.List.listTooLong (its.toArray.size + its2.toArray.size)) = true := by
    rw [notLongL hsz, Bool.and_false]
    exact Bool.false_ne_true
  refine call_meets PySem.F.slot_list_extend ⟨_, e, rfl⟩ PySem.F.entry_list_extend (PySem.F.args_list_extend_2 _ _)
    (list_extendW l its.toArray n b its2.toArray n2 dd sl c hcl hlong (by rw [List.size_toArray]; omega) (by omega)) ⟨e, e2, ?_⟩
  refine ⟨.non, _, I.lset (its' := its ++ its2) hH e (by simp) (r.append r2) ?_, rfl, q⟩
  rw [List.length_append]
  omega
def seqD : D → Option (List D)
  | .list ds => some ds
  | .tuple ds => some ds
  | _ => none
def evExA (i : Nat) (fe : EX) : EX := fun cs => if isOwnL cs i = true then (fe cs).bind fun r => (seqD r.1).bind fun zs => (upL r.2.2 i (fExt zs)).bind fun c => some (.none, false, c) else none
theorem de_exA (hv : DE X (.Name x xpos) (tVar i) (evVar i)) (he : DE X e te fe)
    (hbase : attributeBase (.Name x xpos) "extend" X.env (eval (.Name x xpos) X.env) = eval (.Name x xpos) X.env := by rfl)
    (hfew : ((backTo pos (starEach [e] X.env)).all (fun x => !x.1) && (backToKw pos (keywordEach [] X.env)).all (fun x => x.1.isSome)
      && decide ([e].length + ([] : List Keyword).length + (if ([] : List Keyword).isEmpty then 0 else 1) < 30)) = true := by rfl)
    (hline : (apos.endLine == pos.line) = true := by rfl) (hs : starEach [e] X.env = (false, eval e X.env) :: starEach [] X.env := by rfl) (hplain : (backTo pos (starEach [] X.env)).any (·.1) = false := by rfl) :
    DE X (.Call (.Attribute (.Name x xpos) "extend" apos) [e] [] pos) (tBM X.K "list" (rExtA X.K) (tVar i) (tCons te tNil)) (evExA i fe) := by
  refine ⟨pe_bm PySem.F.plainAttrs_list PySem.F.slot_list_extend PySem.F.type_list_extend mt_extA hv.pe (pa_cons he.pe pa_nil hs) hbase hfew hline hs hplain, ?_⟩
  intro B IO Z σ H cs ok d fr cs' e Q q
  unfold evExA at e
  split at e
  · rename_i ho
    obtain ⟨⟨d1, f1, c1⟩, e1, e⟩ := Option.bind_eq_some_iff.mp e
    obtain ⟨zs, ez, e⟩ := Option.bind_eq_some_iff.mp e
    dsimp only at ez e
    obtain ⟨c2, e2, e⟩ := Option.bind_eq_some_iff.mp e
    cases e
    obtain ⟨a0, xs, hs, hx, _⟩ := ok.ownL ho
    refine ⟨_, hs, .inl ⟨rfl, xs, SqL.of hx⟩, he.se ok e1 _ fun y H1 w => ?_⟩
    obtain ⟨a', d, d', h1, h2, h3, k⟩ := w.post.ok.upL e2
    rw [hs] at h1
    cases h1
    have m := ok_md (Z := Z) e2 hs
    have hp := w.post
    have rp := w.rp
    have key : ∃ b us, y = .ref b ∧ (SqL X.K (cut H1 (Md σ c1 Z)) b us ∨ SqT X.K (cut H1 (Md σ c1 Z)) b us) ∧ Paired (Rp X.K (cut H1 (Md σ c1 Z))) us zs := by
      unfold seqD at ez
      split at ez
      · cases ez
        obtain ⟨b, us, g1, g2, g3⟩ := rp.list
        exact ⟨b, us, g1, .inl g2, g3⟩
      · cases ez
        obtain ⟨b, us, g1, g2, g3⟩ := rp.tuple
        exact ⟨b, us, g1, .inr g2, g3⟩
      · cases ez
    obtain ⟨b, us, rfl, g1, g2⟩ := key
    unfold fExt at h2
    split at h2
    · split at h2
      · rename_i hl
        cases h2
        obtain ⟨ys, h4, h5⟩ := h3.list
        refine ⟨a0, b, ys, us, rfl, rfl, h4, g1.imp cut_le.sqL cut_le.sqT, by rw [Pd.len h5, Pd.len g2]; exact lim_ok hl, ?_⟩
        refine q _ _ (.dat (hp.trans (k _ upd_kept ?_)) .non)
        rw [upd_same]
        exact .lst (Rp.monoA (cut_upd m) (Pd.append h5 g2))
      · cases h2
    · cases h2
  · cases e
def kXa1 (i : Nat) (o : OE) : OE := o.bind fun r => (seqD r.1).bind fun zs => kMd (upL r.2.2 i (fExt zs))
def kXa0 (i : Nat) (fe : EX) (cs : En) (b : Bool) : OE := if b = true then kXa1 i (fe cs) else none
variable {cs c : En} {f1 : Bool} {zs : List D}
@[simp] theorem evExA_ap : evExA i fe cs = kXa0 i fe cs (isOwnL cs i) := rfl
@[simp] theorem kXa0_t : kXa0 i fe cs true = kXa1 i (fe cs) := rfl
@[simp] theorem kXa1_l : kXa1 i (some (.list zs, f1, c)) = kMd (upL c i (fExt zs)) := rfl
@[simp] theorem kXa1_t : kXa1 i (some (.tuple zs, f1, c)) = kMd (upL c i (fExt zs)) := rfl
/-! ### zip of two lists or of two tuples -/
theorem jok_zipT {F : Hp} {a b : Addr} {xs ys : List V} {ds es : List D} (h : SqT K F a xs) (p : Paired (Rp K F) xs ds) (h' : SqT K F b ys) (p' : Paired (Rp K F) ys es) : JOk K (RZ.ItzT K a b) F (zipD ds es) := by
  intro H M hm hle i
  have hq : SqT K H a xs := cut_le.sqT (hle.sqT h)
  have hq' : SqT K H b ys := cut_le.sqT (hle.sqT h')
  refine ⟨fun hi => ⟨xs, ys, hq, hq', ?_⟩, fun d hd => ?_⟩
  · rw [zipD_len] at hi
    rw [Pd.len p, Pd.len p']
    omega
  obtain ⟨x, y, g1, g2, rfl⟩ := zipD_get hd
  obtain ⟨v, h1, h2⟩ := Pd.get p g1
  obtain ⟨w, h3, h4⟩ := Pd.get p' g2
  refine ⟨⟨xs, ys, v, w, hq, hq', h1, h3⟩, fun u H' ⟨T, x', y', e1, hT, e2, y1, y2⟩ => ?_⟩
  subst e1 e2
  have z1 := y1 xs hq
  rw [h1] at z1
  cases z1
  have z2 := y2 ys hq'
  rw [h3] at z2
  cases z2
  exact ⟨Ex.new hT, sqt_new hT hm (.cons (h2.mono hle) (.cons (h4.mono hle) .nil))⟩
def ixZipA (f : AX) : IX := fun cs => (f cs).bind fun r => match r.1 with
  | [.list xs, .list ys] => some (zipD xs ys, r.2)
  | [.tuple xs, .tuple ys] => some (zipD xs ys, r.2)
  | _ => none
variable {fa' : AX} {ta' : TA} {p : Pos}
theorem di_zipA {tpos : Pos} {elts : List Expr} {kk : Nat} (hg : Gl X "zip") (hm : X.mg "zip" = none) (ha : DA X [a, b] ta' fa')
    (hs : starEach [a, b] X.env = (false, eval a X.env) :: starEach [b] X.env := by rfl) (hpl : (backTo pos (starEach [b] X.env)).any (·.1) = false := by rfl) :
    DI X (.Tuple elts kk tpos) (.Call (.Name "zip" p) [a, b] [] pos) (RZ.iZipA X.K ta') (ixZipA fa') := by
  refine ⟨RZ.pi_zipA hg hm ha.pa hs hpl, ?_⟩
  intro B IO Z σ H cs ok items cs' e R q
  unfold ixZipA at e
  obtain ⟨⟨d1, c1⟩, e1, e⟩ := Option.bind_eq_some_iff.mp e
  dsimp only at e
  split at e
  · cases e
    refine ha.sa ok e1 _ fun vs H1 p1 r1 => ?_
    cases r1 with
    | cons r1 r2 =>
      cases r2 with
      | cons r2 r3 =>
        cases r3
        obtain ⟨a', xs, rfl, h1, q1⟩ := r1.list
        obtain ⟨b', ys, rfl, h2, q2⟩ := r2.list
        exact ⟨a', b', xs, ys, rfl, .inl ⟨cut_le.sqL h1, cut_le.sqL h2, q _ H1 p1 (jok_zip h1 q1 h2 q2)⟩⟩
  · cases e
    refine ha.sa ok e1 _ fun vs H1 p1 r1 => ?_
    cases r1 with
    | cons r1 r2 =>
      cases r2 with
      | cons r2 r3 =>
        cases r3
        obtain ⟨a', xs, rfl, h1, q1⟩ := r1.tuple
        obtain ⟨b', ys, rfl, h2, q2⟩ := r2.tuple
        exact ⟨a', b', xs, ys, rfl, .inr ⟨cut_le.sqT h1, cut_le.sqT h2, q _ H1 p1 (jok_zipT h1 q1 h2 q2)⟩⟩
  · cases e
def kZipA (o : Option (List D × En)) : Option (List D × En) := o.bind fun r => match r.1 with
  | [.list xs, .list ys] => some (zipD xs ys, r.2)
  | [.tuple xs, .tuple ys] => some (zipD xs ys, r.2)
  | _ => none
@[simp] theorem ixZipA_ap : ixZipA fa' cs = kZipA (fa' cs) := rfl
@[simp] theorem kZipA_l {xs ys : List D} : kZipA (some ([.list xs, .list ys], c)) = some (zipD xs ys, c) := rfl
@[simp] theorem kZipA_t {xs ys : List D} : kZipA (some ([.tuple xs, .tuple ys], c)) = some (zipD xs ys, c) := rfl
/-! ### comprehensions over encoded items -/
theorem loopC_encF {α : Type} {enc val : α → D} {keep : α → Bool} {gt : GX} {ft : TX} {fe : EX} {vs : List Nat} : ∀ (xs : List α), (∀ x ∈ xs, ∃ c1 f1, gt (enc x) cs = some c1 ∧ ft c1 = some (keep x, c1) ∧ (keep x = true → fe c1 = some (val x, f1, c1)) ∧ noOwn c1 vs = true ∧ clr c1 vs = cs) →
    ∀ acc : List D, acc.length + xs.length ≤ LIM → loopC gt ft fe vs (xs.map enc) acc cs = some (acc ++ (xs.filter keep).map val, cs)
  | [], _, acc, _ => by simp
  | x :: r, hx, acc, hl => by
    rw [List.length_cons] at hl
    obtain ⟨c1, f1, h1, h2, h3, h4, h5⟩ := hx x List.mem_cons_self
    rw [List.map_cons]
    unfold loopC
    rw [h1, Option.bind_some, h2, Option.bind_some]
    cases hk : keep x with
    | true =>
      rw [if_pos rfl, h3 hk, Option.bind_some]
      dsimp only
      rw [h4, h5, show decide (acc.length < LIM) = true from decide_eq_true (by omega)]
      have := loopC_encF (gt := gt) (ft := ft) (fe := fe) (vs := vs) r (fun y hy => hx y (List.mem_cons_of_mem _ hy)) (acc ++ [val x]) (by rw [List.length_append, List.length_singleton]; omega)
      rw [Bool.and_self, if_pos rfl, this, List.append_assoc, List.filter_cons_of_pos hk]
      rfl
    | false =>
      rw [if_neg (fun z => Bool.noConfusion z)]
      dsimp only
      rw [h4, if_pos rfl, h5, loopC_encF (gt := gt) (ft := ft) (fe := fe) (vs := vs) r (fun y hy => hx y (List.mem_cons_of_mem _ hy)) acc (by omega), List.filter_cons_of_neg (by rw [hk]; decide)]
theorem loopC_enc {α : Type} {enc val : α → D} {gt : GX} {fe : EX} {vs : List Nat} (xs : List α) (hx : ∀ x ∈ xs, ∃ c1 f1, gt (enc x) cs = some c1 ∧ fe c1 = some (val x, f1, c1) ∧ noOwn c1 vs = true ∧ clr c1 vs = cs) (hl : xs.length ≤ LIM) :
    loopC gt evYes fe vs (xs.map enc) [] cs = some (xs.map val, cs) := by
  have := loopC_encF (gt := gt) (ft := evYes) (fe := fe) (vs := vs) (cs := cs) (enc := enc) (val := val) (keep := fun _ => true) xs (fun x h => by
    obtain ⟨c1, f1, h1, h2, h3, h4⟩ := hx x h
    exact ⟨c1, f1, h1, rfl, fun _ => h2, h3, h4⟩) [] (by rw [List.length_nil]; omega)
  rw [this]
  have e : xs.filter (fun _ => true) = xs := List.filter_eq_self.mpr fun _ _ => rfl
  rw [e]
  rfl
theorem boolsOf_map {α : Type} (f : α → Bool) : ∀ xs : List α, boolsOf (xs.map fun x => PyData.bool (f x)) = some (xs.map f)
  | [] => rfl
  | b :: r => by
    show ((boolsOf (r.map fun x => PyData.bool (f x))).bind fun t => some (f b :: t)) = _
    rw [boolsOf_map f r]
    rfl
theorem gAll_map {α : Type} (f : α → Bool) (xs : List α) : gAll (.list (xs.map fun x => PyData.bool (f x))) = some (.bool (xs.all f), false) := by
  show ((boolsOf (xs.map fun x => PyData.bool (f x))).bind fun bs => some (PyData.bool (bs.all id), false)) = _
  rw [boolsOf_map, Option.bind_some, List.all_map]
  rfl
/-- a comprehension whose element changes an in-out thing: by an invariant -/
theorem loopC_io {α : Type} {gt : GX} {fe : EX} {vs : List Nat} (I : Nat → En → Prop) (R : α → D → Prop) (enc : α → D) : ∀ (xs : List α) (i : Nat) (c : En), I i c → (∀ j x c, xs[j]? = some x → I (i + j) c → ∃ c1 f1 d c2, gt (enc x) c = some c1 ∧ fe c1 = some (d, f1, c2) ∧ noOwn c2 vs = true ∧ I (i + j + 1) (clr c2 vs) ∧ R x d) →
    ∀ acc : List D, acc.length + xs.length ≤ LIM → ∃ ds c', loopC gt evYes fe vs (xs.map enc) acc c = some (acc ++ ds, c') ∧ I (i + xs.length) c' ∧ Paired R xs ds
  | [], i, c, h, _, acc, _ => ⟨[], c, by simp, h, .nil⟩
  | x :: r, i, c, h, hx, acc, hl => by
    rw [List.length_cons] at hl
    obtain ⟨c1, f1, d, c2, h1, h2, h3, h4, h5⟩ := hx 0 x c rfl h
    obtain ⟨ds, c', q1, q2, q3⟩ := loopC_io (gt := gt) (fe := fe) (vs := vs) I R enc r (i + 1) (clr c2 vs) h4 (fun j y c hj hI => by
      have := hx (j + 1) y c hj (by rw [show i + (j + 1) = i + 1 + j by omega]; exact hI)
      rw [show i + (j + 1) + 1 = i + 1 + j + 1 by omega] at this
      exact this) (acc ++ [d]) (by rw [List.length_append, List.length_singleton]; omega)
    refine ⟨d :: ds, c', ?_, by rw [List.length_cons, show i + (r.length + 1) = i + 1 + r.length by omega]; exact q2, .cons h5 q3⟩
    rw [List.map_cons]
    unfold loopC
    rw [h1, Option.bind_some]
    rw [evYes_ap, Option.bind_some, if_pos rfl, h2, Option.bind_some]
    dsimp only
    rw [h3, show decide (acc.length < LIM) = true from decide_eq_true (by omega), Bool.and_self, if_pos rfl, q1, List.append_assoc]
    rfl
theorem gAdd_tt {xs ys : List D} (h : xs.length + ys.length ≤ LIM) : gAdd (.tuple xs) (.tuple ys) = some (.tuple (xs ++ ys), false) := if_pos h
theorem gAdd_ll {xs ys : List D} (h : xs.length + ys.length ≤ LIM) : gAdd (.list xs) (.list ys) = some (.list (xs ++ ys), true) := if_pos h
theorem lim6 : 6 ≤ LIM := by decide
@[simp] theorem gAdd_t11 {x y : D} : gAdd (.tuple [x]) (.tuple [y]) = some (.tuple [x, y], false) := gAdd_tt (Nat.le_trans (by show 2 ≤ 6; decide) lim6)
@[simp] theorem gAdd_t21 {x y z : D} : gAdd (.tuple [x, y]) (.tuple [z]) = some (.tuple [x, y, z], false) := gAdd_tt (Nat.le_trans (by show 3 ≤ 6; decide) lim6)
@[simp] theorem isNone_n : isNone .none = true := rfl
@[simp] theorem isNone_i {j : Int} : isNone (.int j) = false := rfl
@[simp] theorem isNone_b {j : Bool} : isNone (.bool j) = false := rfl
@[simp] theorem isNone_s {j : Str} : isNone (.str j) = false := rfl
@[simp] theorem isNone_t {j : List D} : isNone (.tuple j) = false := rfl
@[simp] theorem isNone_l {j : List D} : isNone (.list j) = false := rfl
@[simp] theorem isT_i {n : String} {j : Int} : isT n (.int j) = (n == "int") := rfl
@[simp] theorem isT_b {n : String} {j : Bool} : isT n (.bool j) = (n == "bool" || n == "int") := rfl
@[simp] theorem isT_s {n : String} {j : Str} : isT n (.str j) = (n == "str") := rfl
@[simp] theorem isT_l {n : String} {j : List D} : isT n (.list j) = (n == "list") := rfl
@[simp] theorem isT_t {n : String} {j : List D} : isT n (.tuple j) = (n == "tuple") := rfl
@[simp] theorem isT_d {n : String} {j : List (D × D)} : isT n (.dict j) = (n == "dict") := rfl
@[simp] theorem isT_n {n : String} : isT n .none = false := rfl
end
end Qp
end
section
set_option Elab.async false
set_option linter.all false
set_option maxRecDepth 100000
set_option maxHeartbeats 2000000
/-! Qw: zip of any two of: a list, a tuple, a text. -/
namespace Qp
open PySem PySem.Spec PyProof.Rows L2
inductive SK where
  | l | t | s
def chV (x : Str) : List V := x.cps.toList.map fun c => V.str ⟨#[c]⟩
/-- what a source holds -/
def Src (K : PySem.W.Frag) (H : Hp) : SK → V → List V → Prop
  | .l, x, vs => ∃ a, x = .ref a ∧ SqL K H a vs
  | .t, x, vs => ∃ a, x = .ref a ∧ SqT K H a vs
  | .s, x, vs => ∃ y, x = .str y ∧ vs = chV y
/-- its iterator at turn n -/
def ItS : SK → V → Addr → Nat → Heap → Prop
  | .l, .ref a, c, n, h => h.IsListIter c a n
  | .t, .ref a, c, n, h => h.IsTupleIter c a n
  | .s, .str y, c, n, h => ∃ t, h.IsStrIter c (strIterType y) y t n
  | _, _, _, _, _ => False
theorem ItS.obj {k : SK} {x : V} {c : Addr} {n : Nat} {h : Heap} (i : ItS k x c n h) : ∃ o, h.get? c = some o ∧ ∀ v, o.data ≠ .cell v := by
  cases k <;> cases x <;> first | exact i.elim | skip
  · obtain ⟨o, e, _, d⟩ := i
    exact ⟨o, e, fun v q => by rw [d] at q; cases q⟩
  · obtain ⟨o, e, _, d⟩ := i
    exact ⟨o, e, fun v q => by rw [d] at q; cases q⟩
  · obtain ⟨t, o, e, _, d⟩ := i
    exact ⟨o, e, fun v q => by rw [d] at q; cases q⟩
theorem ItS.keep {k : SK} {x : V} {c : Addr} {n : Nat} {h h' : Heap} (i : ItS k x c n h) (q : ∀ o, h.get? c = some o → h'.get? c = some o) : ItS k x c n h' := by
  cases k <;> cases x <;> first | exact i.elim | skip
  · obtain ⟨o, e, r⟩ := i
    exact ⟨o, q o e, r⟩
  · obtain ⟨o, e, r⟩ := i
    exact ⟨o, q o e, r⟩
  · obtain ⟨t, o, e, r⟩ := i
    exact ⟨t, o, q o e, r⟩
section
variable {X : Cx} {pins : List (Addr × Obj)} {σ : St} {H : Hp} {s : Shared}
/-- the address of a source lies below -/
def LtS : V → Nat → Prop
  | .ref a, n => a < n
  | _, _ => True
def fpS (x : V) (c : Addr) : List Addr := match x with
  | .ref a => [c, a]
  | _ => [c]
theorem draw_of {k : SK} {x : V} {vs : List V} {c : Addr} {i : Nat} (I : L2.Inv X pins σ H s) (hc : X.calm = true) (q : Src X.K H k x vs) (it : ItS k x c i s.heap) (hlt : LtS x c) :
    ∃ (n : Nat) (P : Nat → Value → Prop) (S : Nat → Heap → Prop), Draws X.prog X.w X.A.in1 c (fpS x c) n P S ∧ S i s.heap ∧ n = vs.length ∧ (∀ j u, P j u → ∃ y, vs[j]? = some y ∧ RelV y u) ∧ ∀ j h, S j h → ItS k x c j h := by
  have hd : X.A.in1.handled = none := I.ok.hd hc
  cases k with
  | l =>
    obtain ⟨a, rfl, hq⟩ := q
    obtain ⟨its, r, p, _⟩ := I.list hq
    refine ⟨_, _, _, Draws.list hd c a (Nat.ne_of_lt hlt) its.toArray, ⟨it, p.isList⟩, by rw [List.size_toArray]; exact r.length.symm, fun j u hu => ?_, fun j h hS => hS.1⟩
    obtain ⟨y, h1, h2⟩ := Pd.get r (by simpa using hu)
    exact ⟨y, h1, h2⟩
  | t =>
    obtain ⟨a, rfl, hq⟩ := q
    obtain ⟨its, r, p, _⟩ := I.tuple hq
    refine ⟨_, _, _, Draws.tuple hd c a (Nat.ne_of_lt hlt) its.toArray, ⟨it, p⟩, by rw [List.size_toArray]; exact r.length.symm, fun j u hu => ?_, fun j h hS => hS.1⟩
    obtain ⟨y, h1, h2⟩ := Pd.get r (by simpa using hu)
    exact ⟨y, h1, h2⟩
  | s =>
    obtain ⟨y, rfl, rfl⟩ := q
    obtain ⟨t, ht⟩ := it
    refine ⟨_, _, _, Draws.text hd c y t, ht, by simp [chV], fun j u ⟨ch, w, h1, h2⟩ => ?_, fun j h hS => ⟨t, hS⟩⟩
    refine ⟨.str ⟨#[ch]⟩, ?_, ?_⟩
    · unfold chV
      rw [List.getElem?_map, Array.getElem?_toList, h1]
      rfl
    · rw [h2]
      exact ⟨w, rfl⟩
end
def restS (x : V) : List Addr := match x with
  | .ref a => [a]
  | _ => []
theorem fpS_eq (x : V) (c : Addr) : fpS x c = c :: restS x := by cases x <;> rfl
theorem restS_lt {x : V} {n : Nat} (h : LtS x n) : ∀ b ∈ restS x, b < n := by
  intro b hb
  cases x <;> first | (cases hb; done) | skip
  rw [List.mem_singleton.mp hb]
  exact h
theorem LtS.up {x : V} {n : Nat} (h : LtS x n) : LtS x (n + 1) := by
  cases x <;> first | exact trivial | skip
  exact Nat.lt_succ_of_lt h
theorem Src.inj {X : Cx} {pins : List (Addr × Obj)} {σ : St} {H : Hp} {s : Shared} {k : SK} {x : V} {vs ws : List V} (I : L2.Inv X pins σ H s) (h : Src X.K H k x vs) (h' : Src X.K H k x ws) : vs = ws := by
  cases k with
  | l =>
    obtain ⟨a, rfl, q⟩ := h
    obtain ⟨b, e, q'⟩ := h'
    cases e
    exact I.list_inj q q'
  | t =>
    obtain ⟨a, rfl, q⟩ := h
    obtain ⟨b, e, q'⟩ := h'
    cases e
    exact I.tuple_inj q q'
  | s =>
    obtain ⟨a, rfl, rfl⟩ := h
    obtain ⟨b, e, rfl⟩ := h'
    cases e
    rfl
def ItzS (K : PySem.W.Frag) (k1 k2 : SK) (x y : V) : It :=
  ⟨fun i H => ∃ (vs ws : List V) (p q : V), Src K H k1 x vs ∧ Src K H k2 y ws ∧ vs[i]? = some p ∧ ws[i]? = some q,
    fun i H v H' => ∃ T p q, v = .ref T ∧ H T = none ∧ H' = upd H T (.tup [p, q]) ∧ (∀ vs, Src K H k1 x vs → vs[i]? = some p) ∧ ∀ ws, Src K H k2 y ws → ws[i]? = some q,
    fun i H => ∃ vs ws : List V, Src K H k1 x vs ∧ Src K H k2 y ws ∧ i = min vs.length ws.length⟩
def tnZ (k1 k2 : SK) (x y : V) (N : Nat) (i : Nat) (h : Heap) : Prop := IsZip h (N + 4) (N + 2) (N + 3) .none ∧ IsTupOf2 h (N + 2) (.ref N) (.ref (N + 1)) ∧ (∃ a b, IsTupOf2 h (N + 3) a b) ∧ ItS k1 x N i h ∧ ItS k2 y (N + 1) i h
abbrev fpZ (N : Nat) : List Addr := [N + 4, N + 2, N + 3, N, N + 1]
theorem wr_fpZ {N c : Nat} (h : c ∈ [N + 4, N + 3, N, N + 1]) : c ∈ fpZ N := by
  simp only [List.mem_cons, List.not_mem_nil, or_false] at h ⊢
  rcases h with h | h | h | h
  · exact .inl h
  · exact .inr (.inr (.inl h))
  · exact .inr (.inr (.inr (.inl h)))
  · exact .inr (.inr (.inr (.inr h)))
theorem turn_zipS {P : Program} {w : World} {K : PySem.W.Frag} {elts : List Expr} {kk : Nat} {tpos : Pos} {k1 k2 : SK} {x y : V} {N : Nat} (l1 : LtS x N) (l2 : LtS y N) :
    Turn P w K (.Tuple elts kk tpos) (ItzS K k1 k2 x y) (fpZ N) (N + 4) (tnZ k1 k2 x y N) where
  mem := List.mem_cons_self
  obj := fun i h ⟨hz, hT, ⟨a, b, hO⟩, h1, h2⟩ c hc => by
    have hc' : c = N + 4 ∨ c = N + 2 ∨ c = N + 3 ∨ c = N ∨ c = N + 1 := by simpa using hc
    rcases hc' with e | e | e | e | e <;> rw [e]
    · exact ⟨_, hz, fun v q => nomatch q⟩
    · exact ⟨_, hT, fun v q => nomatch q⟩
    · exact ⟨_, hO, fun v q => nomatch q⟩
    · exact h1.obj
    · exact h2.obj
  keep := fun i h h' ⟨hz, hT, ⟨a, b, hO⟩, h1, h2⟩ kp => ⟨kp (N + 4) (by simp) _ hz, kp (N + 2) (by simp) _ hT, ⟨a, b, kp (N + 3) (by simp) _ hO⟩, h1.keep fun o => kp N (by simp) o, h2.keep fun o => kp (N + 1) (by simp) o⟩
  item := by
    intro X eP ew eK hc i pins s σ H E I hf ⟨hz, hT, hO, h1, h2⟩ ⟨vs, ws, p, q, s1, s2, g1, g2⟩
    subst eP ew eK
    obtain ⟨n1, P1, S1, D1, d1, m1, r1, b1⟩ := draw_of I hc s1 h1 l1
    obtain ⟨n2, P2, S2, D2, d2, m2, r2, b2⟩ := draw_of I hc s2 h2 l2.up
    rw [fpS_eq] at D1 D2
    have G := GoesN.zip2 (elts := elts) (x1 := kk) (pos := tpos) (zip_sep2 (restS_lt l1) (restS_lt l2)) D1 D2
    have hi1 := (List.getElem?_eq_some_iff.mp g1).1
    have hi2 := (List.getElem?_eq_some_iff.mp g2).1
    refine G.goes i s _ E (by omega) ⟨hz, hT, hO, d1, d2⟩ fun u h' tk ⟨T, p', q', eu, hT', y1, y2, hTT⟩ ⟨gz, gT, gO, e1, e2⟩ kp _ => ?_
    subst eu
    obtain ⟨p2, f1, f2⟩ := r1 i p' y1
    obtain ⟨q2, f3, f4⟩ := r2 i q' y2
    rw [g1] at f1
    rw [g2] at f3
    cases f1
    cases f3
    have hT0 : H T = none := I.hok.fresh hT'
    have new : ObjOk X.prog X.w (upd H T (.tup [p, q])) h' T (.tup [p, q]) := ⟨by show 2 ≤ sizeLine; decide, [p', q'], .cons f2 (.cons f4 .nil), hTT⟩
    have kp' : ∀ c o, c ∉ fpZ N → s.heap.get? c = some o → h'.get? c = some o := fun c o hn e => kp c o (fun z => hn (wr_fpZ z)) e
    refine ⟨.ref T, _, I.turnedNew kp' hf hT' new, rfl, ⟨T, p, q, rfl, hT0, rfl, fun l hl => by rw [hl.inj I s1]; exact g1, fun l hl => by rw [hl.inj I s2]; exact g2⟩, ⟨gz, gT, gO, b1 _ _ e1, b2 _ _ e2⟩, fun b hb => ?_⟩
    obtain ⟨o, ho, _⟩ : ∃ o, s.heap.get? b = some o ∧ True := by
      have hb' : b = N + 4 ∨ b = N + 2 ∨ b = N + 3 ∨ b = N ∨ b = N + 1 := by simpa using hb
      obtain ⟨a0, b0, hO'⟩ := hO
      rcases hb' with e | e | e | e | e <;> rw [e]
      · exact ⟨_, hz, trivial⟩
      · exact ⟨_, hT, trivial⟩
      · exact ⟨_, hO', trivial⟩
      · obtain ⟨o, ho, _⟩ := h1.obj
        exact ⟨o, ho, trivial⟩
      · obtain ⟨o, ho, _⟩ := h2.obj
        exact ⟨o, ho, trivial⟩
    rw [upd_ne (Nat.ne_of_lt (Nat.lt_of_lt_of_le (Heap.lt_size ho) hT'))]
    exact (hf b hb).1
  done := by
    intro X eP ew eK hc i pins s σ H E I hf ⟨hz, hT, hO, h1, h2⟩ ⟨vs, ws, s1, s2, hi⟩
    subst eP ew eK
    obtain ⟨n1, P1, S1, D1, d1, m1, r1, b1⟩ := draw_of I hc s1 h1 l1
    obtain ⟨n2, P2, S2, D2, d2, m2, r2, b2⟩ := draw_of I hc s2 h2 l2.up
    rw [fpS_eq] at D1 D2
    have G := GoesN.zip2 (elts := elts) (x1 := kk) (pos := tpos) (zip_sep2 (restS_lt l1) (restS_lt l2)) D1 D2
    have hi' : i = min n1 n2 := by rw [m1, m2]; exact hi
    subst hi'
    refine wpAny_mono (G.stops s (fun s1 => L2.Inv X pins σ H s1) E ⟨hz, hT, hO, d1, d2⟩ fun h' tk kp _ => I.turnedL (ch := fpZ N) (fun c o hn e => kp c o (fun z => hn (wr_fpZ z)) e) hf) (fun _ _ q => q) fun _ _ e => e
  self := fun A i s Q E st q => wpAny_pyIter_zip st.1 q
theorem begins_of {X : Cx} {pins : List (Addr × Obj)} {σ : St} {H : Hp} {s : Shared} {k : SK} {x : V} {vs : List V} {u : Value} (I : L2.Inv X pins σ H s) (q : Src X.K H k x vs) (r : RelV x u) :
    ∃ (o : Obj) (Z : Heap → Prop), Begins u o Z ∧ Z s.heap ∧ (∀ h c, h.get? c = some o → ItS k x c 0 h) ∧ LtS x s.heap.objs.size := by
  cases k with
  | l =>
    obtain ⟨a, rfl, q⟩ := q
    cases r
    obtain ⟨its, _, p, _⟩ := I.list q
    exact ⟨_, _, begins_list a its.toArray, p.isList, fun h c e => ⟨_, e, rfl, rfl⟩, p.lt⟩
  | t =>
    obtain ⟨a, rfl, q⟩ := q
    cases r
    obtain ⟨its, _, p, _⟩ := I.tuple q
    obtain ⟨o, ho, _⟩ := id p
    exact ⟨_, _, begins_tuple a its.toArray, p, fun h c e => ⟨_, e, rfl, rfl⟩, Heap.lt_size ho⟩
  | s =>
    obtain ⟨y, rfl, rfl⟩ := q
    obtain ⟨t, rfl⟩ := r
    exact ⟨_, _, begins_text y t, trivial, fun h c e => ⟨t, _, e, rfl, rfl⟩, trivial⟩
def iZipS (K : PySem.W.Frag) (ta : TA) : TI := fun σ H R => ta σ H fun vs H1 => ∃ x y k1 k2 xs ys, vs = [x, y] ∧ Src K H1 k1 x xs ∧ Src K H1 k2 y ys ∧ R (ItzS K k1 k2 x y) H1
section
variable {X : Cx} {K : PySem.W.Frag} {e e2 : Expr} {ta : TA} {fa : AX} {p pos tpos : Pos} {elts : List Expr} {kk : Nat}
theorem pi_zipS (hg : Gl X "zip") (hm : X.mg "zip" = none) (ha : PA X [e, e2] ta) (hs : starEach [e, e2] X.env = (false, eval e X.env) :: starEach [e2] X.env := by rfl) (hpl : (backTo pos (starEach [e2] X.env)).any (·.1) = false := by rfl) :
    PI X (.Tuple elts kk tpos) (.Call (.Name "zip" p) [e, e2] [] pos) (iZipS X.K ta) := by
  refine ⟨fun pins s σ H R I hq => Call_ (ld_blt I hg hm PyProof.Rows.boot_zip (PyProof.Rows.callWith_type1 (thn (ha.run pos pins s σ H _ I hq) fun us sA ⟨vs, HA, IA, rA, qA⟩ => ?_) hs hpl))⟩
  obtain ⟨x, y, k1, k2, xs, ys, ev, s1, s2, q⟩ := qA
  subst ev
  obtain ⟨u, w, rfl, ru, rw'⟩ := rA.two
  obtain ⟨o1, Z1, B1, z1, i1, l1⟩ := begins_of IA s1 ru
  obtain ⟨o2, Z2, B2, z2, i2, l2⟩ := begins_of IA s2 rw'
  refine zip_begins2 B1 B2 z1 z2 fun h' g0 g1 g2 g3 g4 _ hk => wpAny_pyIter_zip g0 ?_
  have IB : L2.Inv X pins σ HA { sA with heap := h' } := IA.kept (t' := sA.toks) hk
  refine ⟨sA.heap.objs.size + 4, fpZ sA.heap.objs.size, _, _, HA, rfl, IB, turn_zipS l1 l2, ⟨g0, g1, ⟨_, _, g2⟩, i1 _ _ g3, i2 _ _ g4⟩, fun c hc => ?_, q⟩
  have hle : sA.heap.objs.size ≤ c := by
    have hc' : c = sA.heap.objs.size + 4 ∨ c = sA.heap.objs.size + 2 ∨ c = sA.heap.objs.size + 3 ∨ c = sA.heap.objs.size ∨ c = sA.heap.objs.size + 1 := by simpa using hc
    rcases hc' with z | z | z | z | z <;> rw [z] <;> first | exact Nat.le_add_right _ _ | exact Nat.le_refl _
  exact IA.fpOk hle (IA.hok.fresh hle)
def chD (x : Str) : List D := x.cps.toList.map fun c => PyData.str ⟨#[c]⟩
def srcD : D → Option (List D)
  | .list ds => some ds
  | .tuple ds => some ds
  | .str y => some (chD y)
  | _ => none
theorem Src.mono {F F' : Hp} (h : Le F F') {k : SK} {x : V} {vs : List V} (q : Src K F k x vs) : Src K F' k x vs := by
  cases k with
  | l =>
    obtain ⟨a, e, q⟩ := q
    exact ⟨a, e, h.sqL q⟩
  | t =>
    obtain ⟨a, e, q⟩ := q
    exact ⟨a, e, h.sqT q⟩
  | s => exact q
theorem chars_pd {F : Hp} : ∀ l : List Nat, Paired (Rp K F) (l.map fun c => V.str ⟨#[c]⟩) (l.map fun c => PyData.str ⟨#[c]⟩)
  | [] => .nil
  | c :: r => .cons (.str _) (chars_pd r)
theorem src_of {F : Hp} {x : V} {d : D} {ds : List D} (r : Rp K F x d) (h : srcD d = some ds) : ∃ k vs, Src K F k x vs ∧ Paired (Rp K F) vs ds := by
  unfold srcD at h
  split at h
  · cases h
    obtain ⟨a, xs, e, q, p⟩ := r.list
    exact ⟨.l, xs, ⟨a, e, q⟩, p⟩
  · cases h
    obtain ⟨a, xs, e, q, p⟩ := r.tuple
    exact ⟨.t, xs, ⟨a, e, q⟩, p⟩
  · cases h
    exact ⟨.s, _, ⟨_, r.str_eq, rfl⟩, chars_pd _⟩
  · cases h
/-- the thing at hand is the one that was told -/
theorem Src.inj2 {H : Hp} {k : SK} {x : V} {vs ws : List V} (h : Src K H k x vs) (h' : Src K H k x ws) (hin : ∀ a xs ys, (SqL K H a xs → SqL K H a ys → xs = ys) ∧ (SqT K H a xs → SqT K H a ys → xs = ys)) : vs = ws := by
  cases k with
  | l =>
    obtain ⟨a, rfl, q⟩ := h
    obtain ⟨b, e, q'⟩ := h'
    cases e
    exact (hin a vs ws).1 q q'
  | t =>
    obtain ⟨a, rfl, q⟩ := h
    obtain ⟨b, e, q'⟩ := h'
    cases e
    exact (hin a vs ws).2 q q'
  | s =>
    obtain ⟨a, rfl, rfl⟩ := h
    obtain ⟨b, e, rfl⟩ := h'
    cases e
    rfl
theorem jok_zipS {F : Hp} {x y : V} {k1 k2 : SK} {xs ys : List V} {ds es : List D} (h : Src K F k1 x xs) (p : Paired (Rp K F) xs ds) (h' : Src K F k2 y ys) (p' : Paired (Rp K F) ys es) : JOk K (ItzS K k1 k2 x y) F (zipD ds es) := by
  intro H M hm hle i
  have g1 : Src K H k1 x xs := (h.mono hle).mono cut_le
  have g2 : Src K H k2 y ys := (h'.mono hle).mono cut_le
  refine ⟨fun hi => ⟨xs, ys, g1, g2, ?_⟩, fun d hd => ?_⟩
  · rw [zipD_len] at hi
    rw [Pd.len p, Pd.len p']
    omega
  obtain ⟨a, b, e1, e2, rfl⟩ := zipD_get hd
  obtain ⟨v, f1, f2⟩ := Pd.get p e1
  obtain ⟨w, f3, f4⟩ := Pd.get p' e2
  refine ⟨⟨xs, ys, v, w, g1, g2, f1, f3⟩, fun u H' ⟨T, a', b', eu, hT, eH, y1, y2⟩ => ?_⟩
  subst eu eH
  have z1 := y1 xs g1
  rw [f1] at z1
  cases z1
  have z2 := y2 ys g2
  rw [f3] at z2
  cases z2
  exact ⟨Ex.new hT, sqt_new hT hm (.cons (f2.mono hle) (.cons (f4.mono hle) .nil))⟩
def ixZipS (f : AX) : IX := fun cs => (f cs).bind fun r => match r.1 with
  | [a, b] => (srcD a).bind fun xs => (srcD b).bind fun ys => some (zipD xs ys, r.2)
  | _ => none
theorem di_zipS (hg : Gl X "zip") (hm : X.mg "zip" = none) (ha : DA X [e, e2] ta fa) (hs : starEach [e, e2] X.env = (false, eval e X.env) :: starEach [e2] X.env := by rfl) (hpl : (backTo pos (starEach [e2] X.env)).any (·.1) = false := by rfl) :
    DI X (.Tuple elts kk tpos) (.Call (.Name "zip" p) [e, e2] [] pos) (iZipS X.K ta) (ixZipS fa) := by
  refine ⟨pi_zipS hg hm ha.pa hs hpl, ?_⟩
  intro B IO Z σ H cs ok items cs' e R q
  unfold ixZipS at e
  obtain ⟨⟨d1, c1⟩, e1, e⟩ := Option.bind_eq_some_iff.mp e
  dsimp only at e
  split at e
  · obtain ⟨xs, h1, e⟩ := Option.bind_eq_some_iff.mp e
    obtain ⟨ys, h2, e⟩ := Option.bind_eq_some_iff.mp e
    cases e
    refine ha.sa ok e1 _ fun vs H1 p1 r1 => ?_
    cases r1 with
    | cons r1 r2 =>
      cases r2 with
      | cons r2 r3 =>
        cases r3
        obtain ⟨k1, vs, s1, t1⟩ := src_of r1 h1
        obtain ⟨k2, ws, s2, t2⟩ := src_of r2 h2
        exact ⟨_, _, k1, k2, vs, ws, rfl, s1.mono cut_le, s2.mono cut_le, q _ H1 p1 (jok_zipS s1 t1 s2 t2)⟩
  · cases e
def kZipS2 (a b : D) (c : En) : Option (List D × En) := (srcD a).bind fun xs => (srcD b).bind fun ys => some (zipD xs ys, c)
def kZipS (o : Option (List D × En)) : Option (List D × En) := o.bind fun r => match r.1 with
  | [a, b] => kZipS2 a b r.2
  | _ => none
variable {cs c : En} {a b : D} {xs ys : List D}
@[simp] theorem ixZipS_ap : ixZipS fa cs = kZipS (fa cs) := rfl
@[simp] theorem kZipS_s : kZipS (some ([a, b], c)) = kZipS2 a b c := rfl
@[simp] theorem kZipS_ll : kZipS2 (.list xs) (.list ys) c = some (zipD xs ys, c) := rfl
@[simp] theorem kZipS_lt : kZipS2 (.list xs) (.tuple ys) c = some (zipD xs ys, c) := rfl
@[simp] theorem kZipS_tl : kZipS2 (.tuple xs) (.list ys) c = some (zipD xs ys, c) := rfl
@[simp] theorem kZipS_tt : kZipS2 (.tuple xs) (.tuple ys) c = some (zipD xs ys, c) := rfl
end
end Qp
end
section
set_option Elab.async false
set_option linter.all false
set_option maxRecDepth 100000
set_option maxHeartbeats 2000000
/-! Qx: min and max of a list of whole numbers; a[i] -= e. -/
namespace Qp
open PySem PySem.Spec PyProof.Rows L2
def minI : List Int → Int
  | [] => 0
  | [x] => x
  | x :: r => min x (minI r)
def maxI : List Int → Int
  | [] => 0
  | [x] => x
  | x :: r => max x (maxI r)
theorem minI_mem : ∀ {l : List Int}, l ≠ [] → minI l ∈ l ∧ ∀ y ∈ l, minI l ≤ y
  | [], h => absurd rfl h
  | [x], _ => ⟨List.mem_singleton.mpr rfl, fun y hy => by rw [List.mem_singleton.mp hy]; exact Int.le_refl _⟩
  | x :: y :: r, _ => by
    obtain ⟨h1, h2⟩ := minI_mem (l := y :: r) (by simp)
    show min x (minI (y :: r)) ∈ _ ∧ ∀ z ∈ _, min x (minI (y :: r)) ≤ z
    refine ⟨?_, fun z hz => ?_⟩
    · by_cases c : x ≤ minI (y :: r)
      · rw [Int.min_eq_left c]; exact List.mem_cons_self
      · rw [Int.min_eq_right (by omega)]; exact List.mem_cons_of_mem _ h1
    · rcases List.mem_cons.mp hz with rfl | hz
      · exact Int.min_le_left _ _
      · exact Int.le_trans (Int.min_le_right _ _) (h2 z hz)
theorem maxI_mem : ∀ {l : List Int}, l ≠ [] → maxI l ∈ l ∧ ∀ y ∈ l, y ≤ maxI l
  | [], h => absurd rfl h
  | [x], _ => ⟨List.mem_singleton.mpr rfl, fun y hy => by rw [List.mem_singleton.mp hy]; exact Int.le_refl _⟩
  | x :: y :: r, _ => by
    obtain ⟨h1, h2⟩ := maxI_mem (l := y :: r) (by simp)
    show max x (maxI (y :: r)) ∈ _ ∧ ∀ z ∈ _, z ≤ max x (maxI (y :: r))
    refine ⟨?_, fun z hz => ?_⟩
    · by_cases c : x ≤ maxI (y :: r)
      · rw [Int.max_eq_right c]; exact List.mem_cons_of_mem _ h1
      · rw [Int.max_eq_left (by omega)]; exact List.mem_cons_self
    · rcases List.mem_cons.mp hz with rfl | hz
      · exact Int.le_max_left _ _
      · exact Int.le_trans (h2 z hz) (Int.le_max_right _ _)
def gMinL : G1 := fun d => (listD d).bind fun ds => (intsOf ds).bind fun is => if is.isEmpty = true then none else some (.int (minI is), false)
def gMaxL : G1 := fun d => (listD d).bind fun ds => (intsOf ds).bind fun is => if is.isEmpty = true then none else some (.int (maxI is), false)
section
variable {K : PySem.W.Frag}
theorem sw_minL : SRCw K (rMin K) gMinL := by
  intro H M hm x d rx z fr q Q k
  obtain ⟨ds, h1, q⟩ := Option.bind_eq_some_iff.mp q
  obtain ⟨is, h2, q⟩ := Option.bind_eq_some_iff.mp q
  split at q
  · cases q
  · rename_i hn
    cases q
    rw [listD_eq h1] at rx
    obtain ⟨a, xs, rfl, hq, p⟩ := rx.list
    have e := ints_pd p h2
    have hne : is ≠ [] := fun z => hn (by rw [z]; rfl)
    obtain ⟨m1, m2⟩ := minI_mem hne
    refine ⟨a, is, rfl, by rw [← e]; exact hq, List.length_pos_iff.mpr hne, fun m hm1 hm2 => ?_⟩
    have : m = minI is := Int.le_antisymm (hm2 _ m1) (m2 m hm1)
    rw [this]
    exact k _ H (Ex.refl H) (VOk.of (.int _))
theorem sw_maxL : SRCw K (rMax K) gMaxL := by
  intro H M hm x d rx z fr q Q k
  obtain ⟨ds, h1, q⟩ := Option.bind_eq_some_iff.mp q
  obtain ⟨is, h2, q⟩ := Option.bind_eq_some_iff.mp q
  split at q
  · cases q
  · rename_i hn
    cases q
    rw [listD_eq h1] at rx
    obtain ⟨a, xs, rfl, hq, p⟩ := rx.list
    have e := ints_pd p h2
    have hne : is ≠ [] := fun z => hn (by rw [z]; rfl)
    obtain ⟨m1, m2⟩ := maxI_mem hne
    refine ⟨a, is, rfl, by rw [← e]; exact hq, List.length_pos_iff.mpr hne, fun m hm1 hm2 => ?_⟩
    have : m = maxI is := Int.le_antisymm (m2 m hm1) (hm2 _ m1)
    rw [this]
    exact k _ H (Ex.refl H) (VOk.of (.int _))
/-- in-place - on ints, for a[i] -= e -/
def gSubI : G2 := gII fun i j => .int (i - j)
theorem sr_ipsub : SR2 K (ipI fun i j => i - j) gSubI := by
  intro H M hm x y d e rx ry z fr q Q k
  unfold gSubI gII at q
  split at q
  · cases q
    exact ⟨_, _, rx.int_eq, ry.int_eq, k _ H (Ex.refl H) (VOk.of (.int _))⟩
  · cases q
@[simp] theorem gSubI_i {j k : Int} : gSubI (.int j) (.int k) = some (.int (j - k), false) := rfl
theorem intsOf_map {α : Type} (f : α → Int) : ∀ l : List α, intsOf (l.map fun x => PyData.int (f x)) = some (l.map f)
  | [] => rfl
  | x :: r => by
    show ((intsOf (r.map fun x => PyData.int (f x))).bind fun t => some (f x :: t)) = _
    rw [intsOf_map f r]
    rfl
theorem gSum_map {α : Type} (f : α → Int) (l : List α) : gSum (.list (l.map fun x => PyData.int (f x))) = some (.int (l.map f).sum, false) := by
  show ((intsOf (l.map fun x => PyData.int (f x))).bind fun is => some (PyData.int is.sum, false)) = _
  rw [intsOf_map]
  rfl
theorem gMinL_map {α : Type} (f : α → Int) {l : List α} (h : l ≠ []) : gMinL (.list (l.map fun x => PyData.int (f x))) = some (.int (minI (l.map f)), false) := by
  show ((intsOf (l.map fun x => PyData.int (f x))).bind fun is => if is.isEmpty = true then none else some (PyData.int (minI is), false)) = _
  rw [intsOf_map, Option.bind_some, if_neg (by cases l with | nil => exact absurd rfl h | cons _ _ => simp)]
theorem gMaxL_map {α : Type} (f : α → Int) {l : List α} (h : l ≠ []) : gMaxL (.list (l.map fun x => PyData.int (f x))) = some (.int (maxI (l.map f)), false) := by
  show ((intsOf (l.map fun x => PyData.int (f x))).bind fun is => if is.isEmpty = true then none else some (PyData.int (maxI is), false)) = _
  rw [intsOf_map, Option.bind_some, if_neg (by cases l with | nil => exact absurd rfl h | cons _ _ => simp)]
end
end Qp
end
section
set_option Elab.async false
set_option linter.all false
set_option maxRecDepth 100000
set_option maxHeartbeats 2000000
/-! Qy: written texts reckoned by simp. -/
namespace Qp
open PySem PySem.Spec PyProof.Rows L2
theorem ofS_cps (s : String) : (Str.ofString s).cps.toList = s.toList.map Char.toNat := by
  rw [Str.ofString_eq_toList]
theorem ofS_inj {a b : String} (h : Str.ofString a = Str.ofString b) : a = b := by
  have h1 := congrArg (fun s : Str => s.cps.toList) h
  simp only [ofS_cps] at h1
  have key : ∀ l m : List Char, l.map Char.toNat = m.map Char.toNat → l = m := by
    intro l
    induction l with
    | nil => intro m h; cases m with | nil => rfl | cons _ _ => cases h
    | cons c l ih =>
      intro m h
      cases m with
      | nil => cases h
      | cons d m =>
        simp only [List.map_cons, List.cons.injEq] at h
        rw [Char.toNat_inj.mp h.1, ih m h.2]
  exact String.toList_inj.mp (key _ _ h1)
@[simp] theorem ofS_beq (a b : String) : (Str.ofString a == Str.ofString b) = (a == b) := by
  rw [Bool.eq_iff_iff, beq_iff_eq, beq_iff_eq]
  exact ⟨ofS_inj, fun h => by rw [h]⟩
theorem ofS_ok (s : String) : ∀ c ∈ (Str.ofString s).cps.toList, c < 1114112 := by
  intro c hc
  rw [ofS_cps] at hc
  obtain ⟨d, _, rfl⟩ := List.mem_map.mp hc
  have := d.valid
  rcases this with h | h
  · exact Nat.lt_trans h (by decide)
  · exact h.2
def VS (s : Str) : Prop := ∀ c ∈ s.cps.toList, c < 1114112
theorem vs_lit (s : String) : VS (Str.ofString s) := ofS_ok s
theorem shaped_VS {s : Str} (h : VS s) : SeqAt.shaped (.str s) = true := by
  rw [str_cps]
  exact shaped_str h
theorem lay_VS {s : Str} (h : VS s) : PyData.canLay0 (.str s) = true := by
  have := shaped_VS h
  unfold SeqAt.shaped at this
  rw [Bool.and_eq_true] at this
  exact this.1
theorem gEq_VS {a b : Str} (ha : VS a) (hb : VS b) : gEq (.str a) (.str b) = some (.bool (a == b), false) := by
  show (if (SeqAt.shaped (.str a) && SeqAt.shaped (.str b)) = true then _ else _) = _
  rw [shaped_VS ha, shaped_VS hb]
  rfl
theorem gNe_VS {a b : Str} (ha : VS a) (hb : VS b) : gNe (.str a) (.str b) = some (.bool (!(a == b)), false) := by
  show (if (SeqAt.shaped (.str a) && SeqAt.shaped (.str b)) = true then _ else _) = _
  rw [shaped_VS ha, shaped_VS hb]
  rfl
@[simp] theorem gEq_lit (a b : String) : gEq (.str (Str.ofString a)) (.str (Str.ofString b)) = some (.bool (a == b), false) := by
  rw [gEq_VS (vs_lit a) (vs_lit b), ofS_beq]
@[simp] theorem gNe_lit (a b : String) : gNe (.str (Str.ofString a)) (.str (Str.ofString b)) = some (.bool (!(a == b)), false) := by
  rw [gNe_VS (vs_lit a) (vs_lit b), ofS_beq]
@[simp] theorem eqv_ss (a b : Str) : PyData.eqv (.str a) (.str b) = (a == b) := rfl
@[simp] theorem flatD_s (a : Str) : flatD (.str a) = true := rfl
theorem gIn_l {neg : Bool} {d : D} {ds : List D} (h : flatD d = true) (h2 : ds.all flatD = true) : gIn neg d (.list ds) = some (.bool (if neg then !(ds.any fun e => PyData.eqv e d) else ds.any fun e => PyData.eqv e d), false) := by
  show (if (flatD d && ds.all flatD) = true then _ else _) = _
  rw [h, h2]
  rfl
theorem gIn_t {neg : Bool} {d : D} {ds : List D} (h : flatD d = true) (h2 : ds.all flatD = true) : gIn neg d (.tuple ds) = some (.bool (if neg then !(ds.any fun e => PyData.eqv e d) else ds.any fun e => PyData.eqv e d), false) := by
  show (if (flatD d && ds.all flatD) = true then _ else _) = _
  rw [h, h2]
  rfl
section
variable {a b c d e f : D} {s : Str} {neg : Bool} {x y z u : Str}
@[simp] theorem gIn_l2 : gIn false (.str s) (.list [.str x, .str y]) = some (.bool (x == s || y == s), false) := by
  rw [gIn_l rfl rfl]
  simp
@[simp] theorem gIn_l3 : gIn false (.str s) (.list [.str x, .str y, .str z]) = some (.bool (x == s || (y == s || z == s)), false) := by
  rw [gIn_l rfl rfl]
  simp
@[simp] theorem gIn_t2 : gIn false (.str s) (.tuple [.str x, .str y]) = some (.bool (x == s || y == s), false) := by
  rw [gIn_t rfl rfl]
  simp
@[simp] theorem gIn_t3 : gIn false (.str s) (.tuple [.str x, .str y, .str z]) = some (.bool (x == s || (y == s || z == s)), false) := by
  rw [gIn_t rfl rfl]
  simp
@[simp] theorem atD4 {xs : List D} : atD (a :: b :: c :: d :: e :: xs) 4 = some e := by
  rw [atD_of (by decide) (by simp; try omega)]
  rfl
@[simp] theorem atD5 {xs : List D} : atD (a :: b :: c :: d :: e :: f :: xs) 5 = some f := by
  rw [atD_of (by decide) (by simp; try omega)]
  rfl
@[simp] theorem gTup5 : gTupD [a, b, c, d, e] = some (.tuple [a, b, c, d, e], false) := gTupD_of (by show 5 ≤ LIM; decide)
@[simp] theorem gTup6 : gTupD [a, b, c, d, e, f] = some (.tuple [a, b, c, d, e, f], false) := gTupD_of (by show 6 ≤ LIM; decide)
@[simp] theorem gLst5 : gLstD [a, b, c, d, e] = some (.list [a, b, c, d, e], true) := gLstD_of (by show 5 ≤ LIM; decide)
@[simp] theorem gLst6 : gLstD [a, b, c, d, e, f] = some (.list [a, b, c, d, e, f], true) := gLstD_of (by show 6 ≤ LIM; decide)
end
end Qp
end
section
set_option Elab.async false
set_option linter.all false
set_option maxRecDepth 100000
set_option maxHeartbeats 2000000
/-! Qz: x // j with a divisor below 2 ^ 128. -/
namespace Qp
open PySem PySem.Spec PyProof.Rows L2
def gFdivW : G2 := gIIc (fun _ j => decide (0 < j) && decide (j < 340282366920938463463374607431768211456)) fun i j => .int (i / j)
section
variable {K : PySem.W.Frag}
theorem sr_fdivW : SR2 K (rI CDivW fun i j => .int (i / j)) gFdivW := sr_IIc (fun i j h => by
  rw [Bool.and_eq_true, decide_eq_true_eq, decide_eq_true_eq] at h
  exact wide_div h.1 (b := 128) (by omega) (by decide) (by decide)) (by intro _ _; rfl)
theorem gFdivX_i {j k : Int} (h : 0 < k) (h2 : k < 340282366920938463463374607431768211456) : gFdivW (.int j) (.int k) = some (.int (j / k), false) := by
  show (if (decide (0 < k) && decide (k < 340282366920938463463374607431768211456)) = true then _ else _) = _
  rw [decide_eq_true h, decide_eq_true h2]
  rfl
theorem gFdivW_i {j k : Int} (h : 0 < k) (h2 : k < 18446744073709551616) : gFdivW (.int j) (.int k) = some (.int (j / k), false) := gFdivX_i h (Int.lt_trans h2 (by decide))
end
end Qp
end
section
set_option Elab.async false
set_option linter.all false
set_option maxRecDepth 100000
set_option maxHeartbeats 2000000
/-! Ra: abs, str, pop of a list, methods of texts, a text or a tuple repeated, two comparisons in a chain. -/
namespace Qp
open PySem PySem.Spec PyProof.Rows L2
section
variable {K : PySem.W.Frag} {X : Cx}
/-! ### abs, str -/
def gAbs : GA
  | [.int i] => some (.int (if i < 0 then -i else i), false)
  | _ => none
theorem sc_abs : SRC K (fun xs H Q => ∃ i, xs = [.int i] ∧ Q (.int (if i < 0 then -i else i)) H) gAbs := by
  intro H M hm xs ds p z fr q Q k
  unfold gAbs at q
  split at q
  · cases q
    cases p with
    | cons r p =>
      cases p
      exact ⟨_, by rw [r.int_eq], k _ H (Ex.refl H) (VOk.of (.int _))⟩
  · cases q
def strI (i : Int) : Str := (toString i : String)
def strB (b : Bool) : Str := if b then "True" else "False"
def gStr : GA
  | [.int i] => if i.natAbs < 115792089237316195423570985008687907853269984665640564039457584007913129639936 then some (.str (strI i), false) else none
  | [.bool b] => some (.str (strB b), false)
  | _ => none
theorem call_str_T : CallR X (.type "str") (fun xs H Q => (∃ i, xs = [.int i] ∧ i.natAbs.log2 < 1920 ∧ Q (.str (toString i)) H) ∨ ∃ b, xs = [.bl b] ∧ Q (.str (strB b)) H) := by
  intro pins s σ H xs us Q I r h
  rcases h with ⟨i, rfl, hz, q⟩ | ⟨b, rfl, q⟩
  · obtain ⟨u, rfl, t, rfl⟩ := vals1 r
    exact PySem.P.str_of_int hz ⟨.str _, H, I.tok _, ⟨_, rfl⟩, q⟩
  · obtain ⟨u, rfl, r1⟩ := vals1 r
    cases r1
    exact PySem.P.str_of_bool ⟨.str _, H, I.tok _, ⟨_, rfl⟩, q⟩
theorem sc_str : SRC K (fun xs H Q => (∃ i, xs = [.int i] ∧ i.natAbs.log2 < 1920 ∧ Q (.str (toString i)) H) ∨ ∃ b, xs = [.bl b] ∧ Q (.str (strB b)) H) gStr := by
  intro H M hm xs ds p z fr q Q k
  unfold gStr at q
  split at q
  · split at q
    · rename_i i hb
      cases q
      cases p with
      | cons r p =>
        cases p
        exact .inl ⟨_, by rw [r.int_eq], Nat.lt_trans (PySem.Flt.log2_lt_of (k := 256) (by decide) (show i.natAbs < 2 ^ 256 from hb)) (by decide), k _ H (Ex.refl H) (VOk.of (.str _))⟩
    · cases q
  · cases q
    cases p with
    | cons r p =>
      cases p
      exact .inr ⟨_, by rw [r.bool_eq], k _ H (Ex.refl H) (VOk.of (.str _))⟩
  · cases q
@[simp] theorem gAbs_i {i : Int} : gAbs [.int i] = some (.int (if i < 0 then -i else i), false) := rfl
@[simp] theorem gStr_b {b : Bool} : gStr [.bool b] = some (.str (strB b), false) := rfl
theorem gStr_i {i : Int} (h : i.natAbs < 115792089237316195423570985008687907853269984665640564039457584007913129639936) : gStr [.int i] = some (.str (strI i), false) := by
  show (if i.natAbs < 115792089237316195423570985008687907853269984665640564039457584007913129639936 then _ else _) = _
  rw [if_pos h]
/-! ### x.pop() -/
def kPop (c : D → Cell) (i : Nat) (cs : En) (ds : List D) : Option (D × Bool × En) := (ds[ds.length - 1]?).bind fun d => some (d, false, cs.set i (c (.list ds.dropLast)))
def evPop (i : Nat) : EX := fun cs => match cs[i]? with
  | some (.own (.list ds)) => kPop .own i cs ds
  | some (.io (.list ds)) => kPop .io i cs ds
  | _ => none
theorem se_pop1 {i : Nat} {B : Hp} {IO : List (Nat × Addr)} {Z : Addr → Prop} {σ : St} {H : Hp} {cs cs' : En} {ds : List D} {d : D} (ok : Ok K B IO Z σ H cs) (hd : cs[i]? = some (.own (.list ds)) ∨ cs[i]? = some (.io (.list ds))) (hl : ds[ds.length - 1]? = some d)
    (e : upL cs i (fun _ => some (.list ds.dropLast)) = some cs') (Q : VK) (q : ∀ v H', Pe K B IO Z σ H cs σ H' cs' false v d → Q v H') : tBM0 K "list" rPop (tVar i) σ H Q := by
  obtain ⟨a, hs, ow⟩ := ok.own i _ hd
  obtain ⟨xs, h4, h5⟩ := ow.list
  refine ⟨_, hs, .inl ⟨rfl, xs, SqL.of h4⟩, ?_⟩
  obtain ⟨a', d0, d', h1, h2, h3, k⟩ := ok.upL e
  rw [hs] at h1
  cases h1
  cases h2
  have m := ok_md (Z := Z) e hs
  obtain ⟨x, hx, rx⟩ := Pd.get h5 hl
  refine ⟨a, xs, x, rfl, rfl, h4, by rw [Pd.len h5]; exact hx, ?_⟩
  refine q _ _ (.dat (k _ upd_kept ?_) ?_)
  · rw [upd_same]
    exact .lst (Rp.monoA (cut_upd m) (Pd.dropLast h5))
  · have p := k (upd H a (.lst xs.dropLast)) upd_kept (by rw [upd_same]; exact .lst (Rp.monoA (cut_upd m) (Pd.dropLast h5)))
    exact rx.mono p.le
theorem se_pop {i : Nat} : SE K (tBM0 K "list" rPop (tVar i)) (evPop i) := by
  intro B IO Z σ H cs ok d fr cs' e Q q
  unfold evPop at e
  split at e
  · rename_i ds hd
    unfold kPop at e
    obtain ⟨d0, e1, e⟩ := Option.bind_eq_some_iff.mp e
    cases e
    exact se_pop1 ok (.inl hd) e1 (by unfold upL; rw [hd]; rfl) Q q
  · rename_i ds hd
    unfold kPop at e
    obtain ⟨d0, e1, e⟩ := Option.bind_eq_some_iff.mp e
    cases e
    exact se_pop1 ok (.inr hd) e1 (by unfold upL; rw [hd]; rfl) Q q
  · cases e
theorem de_pop {i : Nat} {x : Str} {xpos apos pos : Pos} (hv : DE X (.Name x xpos) (tVar i) (evVar i))
    (hbase : attributeBase (.Name x xpos) "pop" X.env (eval (.Name x xpos) X.env) = eval (.Name x xpos) X.env := by rfl) (hline : (apos.endLine == pos.line) = true := by rfl) :
    DE X (.Call (.Attribute (.Name x xpos) "pop" apos) [] [] pos) (tBM0 X.K "list" rPop (tVar i)) (evPop i) :=
  ⟨pe_bm0 PySem.F.plainAttrs_list PySem.F.slot_list_pop PySem.F.type_list_pop mt_pop hv.pe hbase hline, se_pop⟩
/-! ### methods of texts -/
def kPop' (o : OE) : OE := o
/-- a method without arguments -/
theorem se_m0 {r : V → List V → Hp → VK → Prop} {g : G1} {to : TE} {fo : EX} (ho : SE K to fo) (hg : ∀ d z fr, g d = some (z, fr) → ∃ s, d = .str s) (hr : SR1 K (fun x H Q => r x [] H Q) g) : SE K (tM0 r to) (ev1 g fo) := by
  intro B IO Z σ H cs ok d fr cs' e Q q
  unfold ev1 at e
  obtain ⟨⟨d1, f1, c1⟩, e1, e⟩ := Option.bind_eq_some_iff.mp e
  obtain ⟨⟨z, fz⟩, e3, e⟩ := Option.bind_eq_some_iff.mp e
  cases e
  refine ho ok e1 _ fun x H1 w1 => ⟨?_, ?_⟩
  · obtain ⟨s, rfl⟩ := hg _ _ _ e3
    exact ⟨s, w1.rp.str_eq⟩
  · exact hr w1.post.ok.md w1.rp e3 Q fun v H3 x3 v3 => q v H3 (.of w1.post x3 v3)
/-- a method with an argument -/
theorem se_m1 {r : V → List V → Hp → VK → Prop} {g : G2} {to te : TE} {fo fe : EX} (ho : SE K to fo) (he : SE K te fe) (hg : ∀ d e z fr, g d e = some (z, fr) → ∃ s, d = .str s) (hr : SR2 K (fun x y H Q => r x [y] H Q) g) : SE K (tM1 r to te) (ev2 g fo fe) := by
  intro B IO Z σ H cs ok d fr cs' e Q q
  unfold ev2 at e
  obtain ⟨⟨d1, f1, c1⟩, e1, e⟩ := Option.bind_eq_some_iff.mp e
  obtain ⟨⟨d2, f2, c2⟩, e2, e⟩ := Option.bind_eq_some_iff.mp e
  obtain ⟨⟨z, fz⟩, e3, e⟩ := Option.bind_eq_some_iff.mp e
  cases e
  refine ho ok e1 _ fun x H1 w1 => ⟨?_, he w1.post.ok e2 _ fun y H2 w2 => ?_⟩
  · obtain ⟨s, rfl⟩ := hg _ _ _ _ e3
    exact ⟨s, w1.rp.str_eq⟩
  · exact hr w2.post.ok.md (w1.rp.mono w2.post.le) w2.rp e3 Q fun v H3 x3 v3 => q v H3 (.of (w1.post.trans w2.post) x3 v3)
def LIMS : Nat := 1000000
def gLower : G1
  | .str a => if a.length ≤ LIMS then some (.str (Txt.lower a), false) else none
  | _ => none
theorem de_lower {o : Expr} {to : TE} {fo : EX} {apos pos : Pos} (ho : DE X o to fo) (hbase : attributeBase o "lower" X.env (eval o X.env) = eval o X.env := by rfl) (hline : (apos.endLine == pos.line) = true := by rfl) :
    DE X (.Call (.Attribute o "lower" apos) [] [] pos) (tM0 (fun x xs H Q => ∃ a, x = .str a ∧ xs = [] ∧ a.length ≤ 5592405 ∧ Q (.str (Txt.lower a)) H) to) (ev1 gLower fo) := by
  refine ⟨pe_lower ho.pe hbase hline, se_m0 ho.se (fun d z fr e => ?_) ?_⟩
  · unfold gLower at e
    split at e
    · exact ⟨_, rfl⟩
    · cases e
  · intro H M hm x d rx z fr e Q k
    unfold gLower at e
    split at e
    · split at e
      · rename_i hl
        cases e
        exact ⟨_, rx.str_eq, rfl, Nat.le_trans hl (by decide), k _ H (Ex.refl H) (VOk.of (.str _))⟩
      · cases e
    · cases e
def gSplit : G2
  | .str a, .str b => if (b.length == 0) = false ∧ a.length ≤ LIMS then some (.list ((Txt.split a b).map .str), true) else none
  | _, _ => none
theorem rp_strs {F : Hp} : ∀ l : List Str, Paired (Rp K F) (l.map V.str) (l.map PyData.str)
  | [] => .nil
  | s :: r => .cons (.str s) (rp_strs r)
theorem de_split {o e : Expr} {to te : TE} {fo fe : EX} {apos pos : Pos} (ho : DE X o to fo) (he : DE X e te fe) (hs : starEach [e] X.env = [(false, eval e X.env)] := by rfl) (hbase : attributeBase o "split" X.env (eval o X.env) = eval o X.env := by rfl) (hline : (apos.endLine == pos.line) = true := by rfl) :
    DE X (.Call (.Attribute o "split" apos) [e] [] pos) (tM1 (fun x xs H Q => ∃ a b, x = .str a ∧ xs = [.str b] ∧ (b.length == 0) = false ∧ a.length + 2 ≤ sizeLine ∧ rNewStrs (Txt.split a b) H Q) to te) (ev2 gSplit fo fe) := by
  refine ⟨pe_split ho.pe he.pe hs hbase hline, se_m1 ho.se he.se (fun d e z fr q => ?_) ?_⟩
  · unfold gSplit at q
    split at q
    · exact ⟨_, rfl⟩
    · cases q
  · intro H M hm x y d e rx ry z fr q Q k
    unfold gSplit at q
    split at q
    · split at q
      · rename_i hl
        cases q
        refine ⟨_, _, rx.str_eq, by rw [ry.str_eq], hl.1, Nat.le_trans (Nat.add_le_add_right hl.2 2) (by decide), fun p hp => ?_⟩
        exact k _ _ (Ex.new hp) (VOk.new hp hm (.lst (rp_strs _)))
      · cases q
    · cases q
/-! ### a text or a tuple repeated -/
def repS (x : Str) (n : Nat) : Str := ⟨(List.replicate n x.cps.toList).flatten.toArray⟩
theorem foldl_app : ∀ (l : List (Array Nat)) (a : Array Nat), l.foldl (· ++ ·) a = (a.toList ++ (l.map Array.toList).flatten).toArray
  | [], a => by simp
  | x :: r, a => by
    rw [List.foldl_cons, foldl_app r (a ++ x)]
    simp
theorem repS_fold (x : Str) (n : Nat) : (⟨(List.replicate n x.cps).foldl (· ++ ·) #[]⟩ : Str) = repS x n := by
  unfold repS
  rw [foldl_app]
  simp
theorem op_repS : OpR X (binaryOp .Mult) (fun x y H Q => ∃ a k, x = .str a ∧ y = .int k ∧ k ≤ 100000 ∧ -100000 ≤ k ∧ a.length ≤ 100 ∧ Q (.str (repS a k.toNat)) H) := by
  intro pins s σ H x y v u Q I rx ry h
  obtain ⟨a, k, rfl, rfl, hk, hk0, ha, q⟩ := h
  obtain ⟨t, rfl⟩ := rx
  obtain ⟨t', rfl⟩ := ry
  have hm : ¬ k < 1 → a.length * k.toNat ≤ 10000000 := fun h => by
    have := Nat.mul_le_mul ha (show k.toNat ≤ 100000 by omega)
    omega
  refine PySem.P.mul_str ?_ (fun h1 _ => ?_) (fun h1 _ => ?_) ?_
  · rw [decide_eq_false (by omega), decide_eq_false (by omega)]; rfl
  · have := hm h1
    have h3 : (9223372036854775807 : Int) / k ≥ 9223372036854775807 / 100000 := by
      have : 9223372036854775807 / (100000 : Int) * k ≤ 9223372036854775807 := by omega
      exact (Int.le_ediv_iff_mul_le (by omega)).mpr this
    intro hc
    have h4 : (9223372036854775807 : Int) / 100000 = 92233720368547 := rfl
    have : (2 ^ 63 - 1 : Int) = 9223372036854775807 := rfl
    rw [this] at hc
    omega
  · unfold Builtin.Str.tooLong
    rw [decide_eq_false]
    have := hm h1
    rw [sizeLine_eq]
    omega
  · by_cases h1 : k < 1
    · rw [if_pos h1]
      refine ⟨by decide, ⟨.str (repS a k.toNat), H, I.tok _, ⟨s.toks, ?_⟩, q⟩⟩
      have : k.toNat = 0 := by omega
      rw [this]
      rfl
    · rw [if_neg h1]
      by_cases h2 : (k == 1 || a.length == 0) = true
      · rw [if_pos h2]
        refine ⟨.str (repS a k.toNat), H, I, ⟨t, ?_⟩, q⟩
        have : repS a k.toNat = a := by
          unfold repS
          rw [Bool.or_eq_true, beq_iff_eq, beq_iff_eq] at h2
          rcases h2 with h2 | h2
          · subst h2
            simp
          · have : a.cps.toList = [] := List.eq_nil_of_length_eq_zero h2
            rw [this]
            obtain ⟨⟨l⟩⟩ := a
            simp only at this
            subst this
            simp
        rw [this]
      · rw [if_neg h2, repS_fold]
        refine ⟨?_, ⟨.str (repS a k.toNat), H, I.tok _, ⟨_, rfl⟩, q⟩⟩
        show (repS a k.toNat).cps.size ≤ _
        unfold repS
        rw [List.size_toArray, PyProof.Rows.lm_len_rep_flat, sizeLine_eq]
        have := hm h1
        have e : a.cps.toList.length = a.length := rfl
        rw [e, Nat.mul_comm]
        omega
def gRepS : G2
  | .str a, .int k => if (k ≤ 100000 ∧ -100000 ≤ k) ∧ a.length ≤ 100 then some (.str (repS a k.toNat), false) else none
  | _, _ => none
theorem sr_repS : SR2 K (fun x y H Q => ∃ a k, x = .str a ∧ y = .int k ∧ k ≤ 100000 ∧ -100000 ≤ k ∧ a.length ≤ 100 ∧ Q (.str (repS a k.toNat)) H) gRepS := by
  intro H M hm x y d e rx ry z fr q Q k
  unfold gRepS at q
  split at q
  · split at q
    · rename_i hc
      cases q
      exact ⟨_, _, rx.str_eq, ry.int_eq, hc.1.1, hc.1.2, hc.2, k _ H (Ex.refl H) (VOk.of (.str _))⟩
    · cases q
  · cases q
def gRepT : G2
  | .tuple ds, .int k => if ds.isEmpty = false ∧ (2 ≤ k ∧ k ≤ 1000) ∧ ds.length ≤ 1000 then some (.tuple (List.replicate k.toNat ds).flatten, false) else none
  | _, _ => none
theorem Pd.rep {α β : Type} {R : α → β → Prop} {xs : List α} {ys : List β} (p : Paired R xs ys) : ∀ n, Paired R (List.replicate n xs).flatten (List.replicate n ys).flatten
  | 0 => .nil
  | n + 1 => by
    rw [List.replicate_succ, List.replicate_succ, List.flatten_cons, List.flatten_cons]
    exact Pd.append p (Pd.rep p n)
theorem sr_repT : SR2 K (rRepT K) gRepT := by
  intro H M hm x y d e rx ry z fr q Q k
  unfold gRepT at q
  split at q
  · split at q
    · rename_i ds n hc
      cases q
      obtain ⟨a, xs, rfl, h1, p1⟩ := rx.tuple
      refine ⟨a, _, xs, rfl, ry.int_eq, cut_le.sqT h1, fun z => ?_, hc.2.1.1, hc.2.1.2, by rw [Pd.len p1]; exact hc.2.2, fun p hp => ?_⟩
      · subst z
        cases p1
        exact absurd hc.1 (by decide)
      · have hr : Paired (Rp K (cut H M)) (List.replicate n.toNat xs).flatten (List.replicate n.toNat ds).flatten := Pd.rep p1 _
        have nm : ¬ M p := fun z => hm p z hp
        have hle : Le (cut H M) (cut (upd H p (.tup (List.replicate n.toNat xs).flatten)) M) := le_cut fun b u e m => ⟨Ex.new hp b u e, m⟩
        refine k _ _ (Ex.new hp) (VOk.of (.tup (.inl (.inl ?_)) (Rp.monoA hle hr)))
        rw [cut_of nm, upd_same]
    · cases q
  · cases q
end
end Qp
end
section
set_option Elab.async false
set_option linter.all false
set_option maxRecDepth 100000
set_option maxHeartbeats 4000000
/-! Rb: a comprehension with two fors. -/
namespace Qp
open PySem PySem.Spec PyProof.Rows L2
theorem wipe_wipe {τ : St} {vs vs1 : List Nat} (h : ∀ j ∈ vs1, j ∈ vs) : wipe (wipe τ vs1) vs = wipe τ vs := by
  refine List.ext_getElem? fun j => ?_
  by_cases hj : j ∈ vs
  · rw [wipe_get _ j vs hj, wipe_get τ j vs hj, wipe_length]
  · rw [wipe_out hj, wipe_out hj, wipe_out fun z => hj (h j z)]
section
variable {X : Cx} {K : PySem.W.Frag} {wi wi1 : TI} {fi fi1 : IX} {g g1 : TG} {tgs tgs1 vs vs1 : List Nat} {fg fg1 : GX} {tt tt1 : TT} {ft ft1 : TX} {te : TE} {fe : EX}
def loopC2 (fg : GX) (ft : TX) (fi1 : IX) (fg1 : GX) (ft1 : TX) (fe : EX) (vs vs1 : List Nat) : List D → List D → En → Option (List D × En)
  | [], acc, cs => some (acc, cs)
  | x :: r, acc, cs => (fg x cs).bind fun c => (ft c).bind fun b => if b.1 = true then (fi1 b.2).bind fun s => if noOwn s.2 vs1 = true then (loopC fg1 ft1 fe vs1 s.1 acc (clr s.2 vs1)).bind fun z => if noOwn z.2 vs = true then loopC2 fg ft fi1 fg1 ft1 fe vs vs1 r z.1 (clr z.2 vs) else none else none
    else if noOwn b.2 vs = true then loopC2 fg ft fi1 fg1 ft1 fe vs vs1 r acc (clr b.2 vs) else none
def evLc2 (vs vs1 : List Nat) (fi : IX) (fg : GX) (ft : TX) (fi1 : IX) (fg1 : GX) (ft1 : TX) (fe : EX) : EX := fun cs => (fi cs).bind fun r => if noOwn r.2 vs = true then (loopC2 fg ft fi1 fg1 ft1 fe vs vs1 r.1 [] (clr r.2 vs)).bind fun z => some (.list z.1, true, rst z.2 r.2 vs) else none
theorem se_lc2 (hi : SI K wi fi) (hg : SG K g tgs fg) (ht : STt K tt ft) (hi1 : SI K wi1 fi1) (hg1 : SG K g1 tgs1 fg1) (ht1 : STt K tt1 ft1) (he : SE K te fe) (hv : ∀ j ∈ tgs, j ∈ vs) (hv1 : ∀ j ∈ tgs1, j ∈ vs1) (hvv : ∀ j ∈ vs1, j ∈ vs) :
    SE K (tLc2 wi g tt wi1 g1 tt1 te vs vs1) (evLc2 vs vs1 fi fg ft fi1 fg1 ft1 fe) := by
  intro B IO Z σ H cs ok d fr cs' e Q q
  unfold evLc2 at e
  obtain ⟨⟨items, c1⟩, e1, e⟩ := Option.bind_eq_some_iff.mp e
  dsimp only at e
  split at e
  · rename_i hn
    obtain ⟨⟨ds, c2⟩, e2, e⟩ := Option.bind_eq_some_iff.mp e
    cases e
    refine hi ok e1 _ fun J H1 p1 jok Dl hD => ?_
    have hB : B Dl = none := by
      cases z : B Dl with
      | none => rfl
      | some o => exact absurd hD (p1.ok.dom Dl (by rw [z]; exact fun z => nomatch z))
    have np : ¬ Z Dl := fun z => p1.ok.xin Dl z hD
    obtain ⟨ok1, le1⟩ := (p1.ok.wipe hn).newX (o := .lst []) hD
    rw [md_wipe hn] at le1
    have dom1 : ∀ a, H1 a ≠ none → upd H1 Dl (.lst []) a ≠ none := fun a h => (Ex.new hD).dom h
    have hz : ∀ a, Z a → XP Z Dl a := fun a h => .inl h
    refine ⟨fun i m H' => m = items.length - i ∧ i ≤ items.length ∧ ∃ (c : En) (acc : List D) (vals : List V), Ok K B IO (XP Z Dl) (L2.wipe σ vs) H' c ∧ Le (cut H1 (Md σ c1 Z)) (cut H' (Md (L2.wipe σ vs) c (XP Z Dl))) ∧ (∀ a, Z a → H' a = H1 a) ∧ (∀ a, H1 a ≠ none → H' a ≠ none) ∧
      H' Dl = some (.lst vals) ∧ Paired (Rp K (cut H' (Md (L2.wipe σ vs) c (XP Z Dl)))) vals acc ∧ loopC2 fg ft fi1 fg1 ft1 fe vs vs1 (items.drop i) acc c = some (ds, c2),
      ⟨_, rfl, Nat.zero_le _, clr c1 vs, [], [], ok1, le1, fun a h => upd_ne (fun z => np (by rw [← z]; exact h)), dom1, upd_same, .nil, by rw [List.drop_zero]; exact e2⟩, ?_⟩
    rintro i m H' ⟨rfl, hil, c, acc, vals, ok', le', keep', dom', hD', pa, el⟩
    obtain ⟨js, jg⟩ := jok H' _ ok'.md le' i
    by_cases hlt : i < items.length
    · have hd : items[i]? = some items[i] := List.getElem?_eq_getElem hlt
      obtain ⟨go, yl⟩ := jg _ hd
      rw [List.drop_eq_getElem_cons hlt] at el
      unfold loopC2 at el
      obtain ⟨c3, e3, el⟩ := Option.bind_eq_some_iff.mp el
      obtain ⟨⟨b, c4⟩, e4, el⟩ := Option.bind_eq_some_iff.mp el
      dsimp only at el
      refine .inr ⟨go, fun H' => ∃ (c : En) (acc : List D) (vals : List V), Ok K B IO (XP Z Dl) (L2.wipe σ vs) H' c ∧ Le (cut H1 (Md σ c1 Z)) (cut H' (Md (L2.wipe σ vs) c (XP Z Dl))) ∧ (∀ a, Z a → H' a = H1 a) ∧ (∀ a, H1 a ≠ none → H' a ≠ none) ∧
        H' Dl = some (.lst vals) ∧ Paired (Rp K (cut H' (Md (L2.wipe σ vs) c (XP Z Dl)))) vals acc ∧ loopC2 fg ft fi1 fg1 ft1 fe vs vs1 (items.drop (i + 1)) acc c = some (ds, c2), fun H3 ⟨c, acc, vals, h⟩ => ⟨items.length - (i + 1), by omega, rfl, hlt, c, acc, vals, h⟩, fun x H2 hy => ?_⟩
      obtain ⟨ex, rx⟩ := yl x H2 hy
      have p2 := ok'.ext ex
      refine hg p2.ok rx e3 _ fun σ3 H3 p3 ag => ⟨wipe_agr ag hv, ?_⟩
      have hw := wipe_agr ag hv
      refine ht p3.ok e4 _ fun H4 p4 => ?_
      have p234 := (p2.trans p3).trans p4
      cases b with
      | false =>
        refine iteF ?_
        simp only [Bool.false_eq_true, if_false] at el
        split at el
        · rename_i hn4
          have ok5 := p4.ok.wipe hn4
          rw [hw] at ok5
          have em : Md (L2.wipe σ vs) (clr c4 vs) (XP Z Dl) = Md σ3 c4 (XP Z Dl) := by rw [← hw]; exact md_wipe hn4
          exact ⟨clr c4 vs, acc, vals, ok5, by rw [em]; exact le'.trans p234.le, fun a h => (p234.keep a (hz a h)).trans (keep' a h), fun a h => p234.dom a (dom' a h), (p234.keep Dl (.inr rfl)).trans hD', by rw [em]; exact Rp.monoA p234.le pa, el⟩
        · cases el
      | true =>
        refine iteT ?_
        simp only [if_true] at el
        obtain ⟨⟨its, c5⟩, e5, el⟩ := Option.bind_eq_some_iff.mp el
        dsimp only at el
        split at el
        · rename_i hn5
          obtain ⟨⟨acc2, c6⟩, e6, el⟩ := Option.bind_eq_some_iff.mp el
          dsimp only at el
          split at el
          · rename_i hn6
            refine hi1 p4.ok e5 _ fun J1 H5 p5 j1ok => ?_
            have p25 := p234.trans p5
            have okw := p5.ok.wipe hn5
            have emw : Md (L2.wipe σ3 vs1) (clr c5 vs1) (XP Z Dl) = Md σ3 c5 (XP Z Dl) := md_wipe hn5
            refine ⟨fun j k H' => k = its.length - j ∧ j ≤ its.length ∧ ∃ (c : En) (acc : List D) (vals : List V), Ok K B IO (XP Z Dl) (L2.wipe σ3 vs1) H' c ∧ Le (cut H5 (Md σ3 c5 (XP Z Dl))) (cut H' (Md (L2.wipe σ3 vs1) c (XP Z Dl))) ∧ (∀ a, Z a → H' a = H1 a) ∧ (∀ a, H1 a ≠ none → H' a ≠ none) ∧
              H' Dl = some (.lst vals) ∧ Paired (Rp K (cut H' (Md (L2.wipe σ3 vs1) c (XP Z Dl)))) vals acc ∧ loopC fg1 ft1 fe vs1 (its.drop j) acc c = some (acc2, c6),
              ⟨_, rfl, Nat.zero_le _, clr c5 vs1, acc, vals, okw, by rw [emw]; exact Le.refl _, fun a h => (p25.keep a (hz a h)).trans (keep' a h), fun a h => p25.dom a (dom' a h), (p25.keep Dl (.inr rfl)).trans hD', by rw [emw]; exact Rp.monoA p25.le pa, by rw [List.drop_zero]; exact e6⟩, ?_⟩
            rintro j k H' ⟨rfl, hjl, c', acc', vals', ok6, le6, keep6, dom6, hD6, pa6, el6⟩
            obtain ⟨js1, jg1⟩ := j1ok H' _ ok6.md le6 j
            by_cases hlt1 : j < its.length
            · have hd1 : its[j]? = some its[j] := List.getElem?_eq_getElem hlt1
              obtain ⟨go1, yl1⟩ := jg1 _ hd1
              rw [List.drop_eq_getElem_cons hlt1] at el6
              unfold loopC at el6
              obtain ⟨c7, e7, el6⟩ := Option.bind_eq_some_iff.mp el6
              obtain ⟨⟨b, c8⟩, e8, el6⟩ := Option.bind_eq_some_iff.mp el6
              dsimp only at el6
              refine .inr ⟨go1, fun H' => ∃ (c : En) (acc : List D) (vals : List V), Ok K B IO (XP Z Dl) (L2.wipe σ3 vs1) H' c ∧ Le (cut H5 (Md σ3 c5 (XP Z Dl))) (cut H' (Md (L2.wipe σ3 vs1) c (XP Z Dl))) ∧ (∀ a, Z a → H' a = H1 a) ∧ (∀ a, H1 a ≠ none → H' a ≠ none) ∧
                H' Dl = some (.lst vals) ∧ Paired (Rp K (cut H' (Md (L2.wipe σ3 vs1) c (XP Z Dl)))) vals acc ∧ loopC fg1 ft1 fe vs1 (its.drop (j + 1)) acc c = some (acc2, c6), fun H3 ⟨c, acc, vals, h⟩ => ⟨its.length - (j + 1), by omega, rfl, hlt1, c, acc, vals, h⟩, fun x1 H7 hy1 => ?_⟩
              obtain ⟨ex1, rx1⟩ := yl1 x1 H7 hy1
              have p7 := ok6.ext ex1
              refine hg1 p7.ok rx1 e7 _ fun σ4 H8 p8 ag1 => ⟨wipe_agr ag1 hv1, ?_⟩
              have hw1 := wipe_agr ag1 hv1
              refine ht1 p8.ok e8 _ fun H9 p9 => ?_
              have p789 := (p7.trans p8).trans p9
              cases b with
              | false =>
                refine iteF ?_
                simp only [Bool.false_eq_true, if_false] at el6
                split at el6
                · rename_i hn8
                  have okA := p9.ok.wipe hn8
                  rw [hw1] at okA
                  have em : Md (L2.wipe σ3 vs1) (clr c8 vs1) (XP Z Dl) = Md σ4 c8 (XP Z Dl) := by rw [← hw1]; exact md_wipe hn8
                  exact ⟨clr c8 vs1, acc', vals', okA, by rw [em]; exact le6.trans p789.le, fun a h => (p789.keep a (hz a h)).trans (keep6 a h), fun a h => p789.dom a (dom6 a h), (p789.keep Dl (.inr rfl)).trans hD6, by rw [em]; exact Rp.monoA p789.le pa6, el6⟩
                · cases el6
              | true =>
                refine iteT ?_
                simp only [if_true] at el6
                obtain ⟨⟨z, fz, c9⟩, e9, el6⟩ := Option.bind_eq_some_iff.mp el6
                dsimp only at el6
                split at el6
                · rename_i hn9
                  rw [Bool.and_eq_true, decide_eq_true_eq] at hn9
                  refine he p9.ok e9 _ fun y HA w => ?_
                  have pA := p789.trans w.post
                  have okA := w.post.ok.wipe hn9.1
                  rw [hw1] at okA
                  have em : Md (L2.wipe σ3 vs1) (clr c9 vs1) (XP Z Dl) = Md σ4 c9 (XP Z Dl) := by rw [← hw1]; exact md_wipe hn9.1
                  have md : Md (L2.wipe σ3 vs1) (clr c9 vs1) (XP Z Dl) Dl := .inl (.inr rfl)
                  refine ⟨vals', (pA.keep Dl (.inr rfl)).trans hD6, by rw [Pd.len pa6]; exact lim_lt hn9.2, clr c9 vs1, acc' ++ [z], vals' ++ [y], okA.updX (.inr rfl) hB, ?_, fun a h => ?_, fun a h => ?_, upd_same, ?_, el6⟩
                  · rw [cut_updX md, em]
                    exact le6.trans pA.le
                  · rw [upd_ne (fun z => np (by rw [← z]; exact h))]
                    exact (pA.keep a (hz a h)).trans (keep6 a h)
                  · by_cases ea : a = Dl
                    · rw [ea, upd_same]; exact fun z => nomatch z
                    · rw [upd_ne ea]; exact pA.dom a (dom6 a h)
                  · rw [cut_updX md, em]
                    exact Pd.append (Rp.monoA pA.le pa6) (.cons w.rp .nil)
                · cases el6
            · have hj' : j = its.length := by omega
              subst hj'
              rw [List.drop_length] at el6
              cases el6
              refine .inl ⟨js1 rfl, ?_⟩
              have okF := ok6.wipe (vs := vs) hn6
              have emF : Md (L2.wipe (L2.wipe σ3 vs1) vs) (clr c6 vs) (XP Z Dl) = Md (L2.wipe σ3 vs1) c6 (XP Z Dl) := md_wipe hn6
              rw [wipe_wipe hvv, hw] at okF emF
              exact ⟨clr c6 vs, acc2, vals', okF, by rw [emF]; exact (le'.trans p25.le).trans le6, keep6, dom6, hD6, by rw [emF]; exact pa6, el⟩
          · cases el
        · cases el
    · have hi' : i = items.length := by omega
      subst hi'
      rw [List.drop_length] at el
      cases el
      refine .inl ⟨js (rfl), q _ H' ?_⟩
      have dat1 : ∀ (j : Nat) d, c1[j]? = some (.dat d) → ∃ v, σ[j]? = some (some v) ∧ Rp K (cut H' (Md (L2.wipe σ vs) c2 (XP Z Dl))) v d := fun j d hj => by
        obtain ⟨v, h1, h2⟩ := p1.ok.dat j d hj
        exact ⟨v, h1, h2.mono le'⟩
      refine ⟨Dl, rfl, ?_, ⟨ok'.restore hn dat1, by rw [md_rst hn]; exact p1.le.trans le', fun a h => (keep' a h).trans (p1.keep a h), fun a h => dom' a (p1.dom a h), np⟩, by rw [md_rst hn, hD']; exact .lst pa⟩
      cases z : H Dl with
      | none => rfl
      | some o => exact absurd hD (p1.dom Dl (by rw [z]; exact fun z => nomatch z))
  · cases e
end
end Qp
end
section
set_option Elab.async false
set_option linter.all false
set_option maxRecDepth 100000
set_option maxHeartbeats 4000000
/-! Rc: two fors in the text; constants of a module; comparisons in a chain; replace. -/
namespace Qp
open PySem PySem.Spec PyProof.Rows L2
def tiOf (K : PySem.W.Frag) (f : IX) : TI := fun σ H R => ∃ (B : Hp) (IO : List (Nat × Addr)) (Z : Addr → Prop) (cs : En) (items : List D) (cs' : En), Ok K B IO Z σ H cs ∧ f cs = some (items, cs') ∧ ∀ J H', Post K B IO Z σ H cs σ H' cs' → JOk K J (cut H' (Md σ cs' Z)) items → R J H'
theorem si_can {K : PySem.W.Frag} {f : IX} : SI K (tiOf K f) f := fun ok _ _ e _ q => ⟨_, _, _, _, _, _, ok, e, q⟩
theorem DI.can {X : Cx} {tg e : Expr} {wi : TI} {f : IX} (h : DI X tg e wi f) : PI X tg e (tiOf X.K f) := ⟨fun pins s σ H R I ⟨_, _, _, _, _, _, ok, e, q⟩ => h.pi.run pins s σ H R I (h.si ok e R q)⟩
section
variable {X : Cx} {tg elt iter tg1 iter1 : Expr} {ifs ifs1 : List Expr} {scope : Scope} {own : List (Str × Nat)} {pos spos : Pos} {wi : TI} {fi fi1 : IX} {tgs tgs1 vs vs1 : List Nat} {fg fg1 : GX} {ft ft1 : TX} {fe : EX}
theorem de_lc2 (hc : X.calm = true) (hN : X.N.Nodup) (hi : DI X tg iter wi fi) (ok : BlkOk X.N X.env.scope scope own)
    (hg : ∀ (s : Shared) (H : Hp) (C : Addr) (cl : List (Str × Addr)) (fp : List Addr), ∃ g, DG (X.blk s H scope (compEnvC scope cl C X.env) fp) tg g tgs fg) (ht : ∀ (s : Shared) (H : Hp) (C : Addr) (cl : List (Str × Addr)) (fp : List Addr), ∃ tt, DTs (X.blk s H scope (compEnvC scope cl C X.env) fp) ifs tt ft)
    (hi1 : ∀ (s : Shared) (H : Hp) (C : Addr) (cl : List (Str × Addr)) (fp : List Addr), ∃ wi1, DI (X.blk s H scope (compEnvC scope cl C X.env) fp) tg1 iter1 wi1 fi1)
    (hg1 : ∀ (s : Shared) (H : Hp) (C : Addr) (cl : List (Str × Addr)) (fp : List Addr), ∃ g, DG (X.blk s H scope (compEnvC scope cl C X.env) fp) tg1 g tgs1 fg1) (ht1 : ∀ (s : Shared) (H : Hp) (C : Addr) (cl : List (Str × Addr)) (fp : List Addr), ∃ tt, DTs (X.blk s H scope (compEnvC scope cl C X.env) fp) ifs1 tt ft1)
    (he : ∀ (s : Shared) (H : Hp) (C : Addr) (cl : List (Str × Addr)) (fp : List Addr), ∃ te, DE (X.blk s H scope (compEnvC scope cl C X.env) fp) elt te fe) (hvs : own.map (·.2) = vs := by rfl) (hv : ∀ j ∈ tgs, j ∈ vs := by decide) (hv1 : ∀ j ∈ tgs1, j ∈ vs1 := by decide) (hvv : ∀ j ∈ vs1, j ∈ vs := by decide)
    (hs : ∀ x, foldedSetIterable iter X.env x = pure x := by intro _; rfl) (hs1 : ∀ env x, foldedSetIterable iter1 env x = pure x := by intro _ _; rfl) :
    DE X (.ListComp elt [⟨tg, iter, ifs, 0⟩, ⟨tg1, iter1, ifs1, 0⟩] scope pos) (tLc2 wi (tgOf X.K tgs fg) (ttOf X.K ft) (tiOf X.K fi1) (tgOf X.K tgs1 fg1) (ttOf X.K ft1) (teOf X.K fe) (own.map (·.2)) vs1) (evLc2 vs vs1 fi fg ft fi1 fg1 ft1 fe) := by
  subst hvs
  exact ⟨pe_lc2 hc hN hi.pi ok hvv (fun s H C cl fp => (hg s H C cl fp).elim fun _ q => q.can) (fun s H C cl fp => (ht s H C cl fp).elim fun _ q => q.can) (fun s H C cl fp => (hi1 s H C cl fp).elim fun _ q => q.can)
    (fun s H C cl fp => (hg1 s H C cl fp).elim fun _ q => q.can) (fun s H C cl fp => (ht1 s H C cl fp).elim fun _ q => q.can) (fun s H C cl fp => (he s H C cl fp).elim fun _ q => q.can) hs hs1,
    se_lc2 hi.si sg_can st_can si_can sg_can st_can se_can hv hv1 hvv⟩
theorem ds_lc2 {i : Nat} {y : Str} {py : Pos} (hc : X.calm = true) (hN : X.N.Nodup) (hy : X.N[i]? = some y) (hyl : X.env.scope.names.lookup y = some .local) (hsw : swapsWith (.ListComp elt [⟨tg, iter, ifs, 0⟩, ⟨tg1, iter1, ifs1, 0⟩] scope pos) (some (.Name y py)) spos.line X.env = pure true)
    (hi : DI X tg iter wi fi) (ok : BlkOk X.N X.env.scope scope own)
    (hg : ∀ (s : Shared) (H : Hp) (C : Addr) (cl : List (Str × Addr)) (fp : List Addr), ∃ g, DG (X.blk s H scope (compEnvC scope cl C X.env) fp) tg g tgs fg) (ht : ∀ (s : Shared) (H : Hp) (C : Addr) (cl : List (Str × Addr)) (fp : List Addr), ∃ tt, DTs (X.blk s H scope (compEnvC scope cl C X.env) fp) ifs tt ft)
    (hi1 : ∀ (s : Shared) (H : Hp) (C : Addr) (cl : List (Str × Addr)) (fp : List Addr), ∃ wi1, DI (X.blk s H scope (compEnvC scope cl C X.env) fp) tg1 iter1 wi1 fi1)
    (hg1 : ∀ (s : Shared) (H : Hp) (C : Addr) (cl : List (Str × Addr)) (fp : List Addr), ∃ g, DG (X.blk s H scope (compEnvC scope cl C X.env) fp) tg1 g tgs1 fg1) (ht1 : ∀ (s : Shared) (H : Hp) (C : Addr) (cl : List (Str × Addr)) (fp : List Addr), ∃ tt, DTs (X.blk s H scope (compEnvC scope cl C X.env) fp) ifs1 tt ft1)
    (he : ∀ (s : Shared) (H : Hp) (C : Addr) (cl : List (Str × Addr)) (fp : List Addr), ∃ te, DE (X.blk s H scope (compEnvC scope cl C X.env) fp) elt te fe) (hvs : own.map (·.2) = vs := by rfl) (hv : ∀ j ∈ tgs, j ∈ vs := by decide) (hv1 : ∀ j ∈ tgs1, j ∈ vs1 := by decide) (hvv : ∀ j ∈ vs1, j ∈ vs := by decide)
    (hs : ∀ x, foldedSetIterable iter X.env x = pure x := by intro _; rfl) (hs1 : ∀ env x, foldedSetIterable iter1 env x = pure x := by intro _ _; rfl) :
    DS X (.Assign [.Name y py] (.ListComp elt [⟨tg, iter, ifs, 0⟩, ⟨tg1, iter1, ifs1, 0⟩] scope pos) spos) (tAsg (tLc2 wi (tgOf X.K tgs fg) (ttOf X.K ft) (tiOf X.K fi1) (tgOf X.K tgs1 fg1) (ttOf X.K ft1) (teOf X.K fe) (own.map (·.2)) vs1) (gName i)) (sAsg i (evLc2 vs vs1 fi fg ft fi1 fg1 ft1 fe)) := by
  subst hvs
  exact ⟨ps_setLc2 hc hN hy hyl hsw hi.pi ok hvv (fun s H C cl fp => (hg s H C cl fp).elim fun _ q => q.can) (fun s H C cl fp => (ht s H C cl fp).elim fun _ q => q.can) (fun s H C cl fp => (hi1 s H C cl fp).elim fun _ q => q.can)
    (fun s H C cl fp => (hg1 s H C cl fp).elim fun _ q => q.can) (fun s H C cl fp => (ht1 s H C cl fp).elim fun _ q => q.can) (fun s H C cl fp => (he s H C cl fp).elim fun _ q => q.can) hs hs1,
    ss_asg (se_lc2 hi.si sg_can st_can si_can sg_can st_can se_can hv hv1 hvv)⟩
end
section
variable {X : Cx} {K : PySem.W.Frag} {pos : Pos}
/-! ### a whole number of the module -/
theorem de_globI {x : Str} {i : Int} (hm : ∃ t, X.mg x = some (.int i t)) (hg : Gl X x) (hd : (x == ("__debug__" : Str)) = false := by decide) : DE X (.Name x pos) (tC (.int i)) (evC (.int i)) := by
  obtain ⟨t, hm⟩ := hm
  exact de_glob hg hm ⟨t, rfl⟩ (fun _ => .int i) hd
/-! ### a < b < c -/
def evChain (g g' : G2) (fa fb fc : EX) : EX := fun cs => (fa cs).bind fun r => (fb r.2.2).bind fun s => (g r.1 s.1).bind fun z => match z.1, z.2 with
  | .bool true, false => (fc s.2.2).bind fun u => (g' s.1 u.1).bind fun y => some (y.1, y.2, u.2.2)
  | .bool false, false => some (.bool false, false, s.2.2)
  | _, _ => none
variable {a b c : Expr} {ta tb tc : TE} {fa fb fc : EX}
theorem se_chain {r r' : R2} {g g' : G2} (ha : SE K ta fa) (hb : SE K tb fb) (hc : SE K tc fc) (hr : SR2 K r g) (hr' : SR2 K r' g') : SE K (tChain r r' ta tb tc) (evChain g g' fa fb fc) := by
  intro B IO Z σ H cs ok d fr cs' e Q q
  unfold evChain at e
  obtain ⟨⟨d1, f1, c1⟩, e1, e⟩ := Option.bind_eq_some_iff.mp e
  obtain ⟨⟨d2, f2, c2⟩, e2, e⟩ := Option.bind_eq_some_iff.mp e
  obtain ⟨⟨z, fz⟩, e3, e⟩ := Option.bind_eq_some_iff.mp e
  refine ha ok e1 _ fun x H1 w1 => hb w1.post.ok e2 _ fun y H2 w2 => ?_
  have w12 := w1.post.trans w2.post
  dsimp only at e
  split at e
  · obtain ⟨⟨d4, f4, c4⟩, e4, e⟩ := Option.bind_eq_some_iff.mp e
    obtain ⟨⟨z5, f5⟩, e5, e⟩ := Option.bind_eq_some_iff.mp e
    cases e
    refine hr w2.post.ok.md (w1.rp.mono w2.post.le) w2.rp e3 _ fun v H3 x3 v3 => ⟨true, Rp.bool_eq v3, ?_⟩
    refine iteT ?_
    have p3 := w2.post.ok.ext x3
    refine hc p3.ok e4 _ fun w' H4 w4 => ?_
    refine hr' w4.post.ok.md (w2.rp.mono (p3.le.trans w4.post.le)) w4.rp e5 Q fun v5 H5 x5 q5 => ?_
    exact q v5 H5 (.of ((w12.trans p3).trans w4.post) x5 q5)
  · cases e
    refine hr w2.post.ok.md (w1.rp.mono w2.post.le) w2.rp e3 _ fun v H3 x3 v3 => ⟨false, Rp.bool_eq v3, ?_⟩
    refine iteF ?_
    have p3 := w2.post.ok.ext x3
    exact q _ H3 (.dat (w12.trans p3) (.bl false))
  · cases e
theorem de_chain {op op' : CmpOp} {r r' : R2} {g g' : G2} (ho : OpR X (compareOp op) r) (hr : SR2 X.K r g) (ho' : OpR X (compareOp op') r') (hr' : SR2 X.K r' g') (ha : DE X a ta fa) (hb : DE X b tb fb) (hc : DE X c tc fc)
    (hm : lastMarks [op, op'] [b, c] = false := by with_unfolding_all rfl) : DE X (.Compare a [op, op'] [b, c] pos) (tChain r r' ta tb tc) (evChain g g' fa fb fc) := ⟨pe_chain ho ho' ha.pe hb.pe hc.pe hm, se_chain ha.se hb.se hc.se hr hr'⟩
theorem dt_chain {op op' : CmpOp} {r r' : R2} {g g' : G2} (ho : OpR X (compareOp op) r) (hr : SR2 X.K r g) (ho' : OpR X (compareOp op') r') (hr' : SR2 X.K r' g') (ha : DE X a ta fa) (hb : DE X b tb fb) (hc : DE X c tc fc)
    (hm : lastMarks [op, op'] [b, c] = false := by with_unfolding_all rfl) : DT X (.Compare a [op, op'] [b, c] pos) (tTest (tChain r r' ta tb tc)) (evT (evChain g g' fa fb fc)) := ⟨pt_chain ho ho' ha.pe hb.pe hc.pe hm, st_test (se_chain ha.se hb.se hc.se hr hr')⟩
/-! ### 'c' + x.replace(y, z) -/
def gRepl (y z : Str) : G1
  | .str x => if x.length + (x.length + 1) * z.length ≤ 10000000 then some (.str (Txt.replace x y z), false) else none
  | _ => none
theorem se_repl {to : TE} {fo : EX} {y z : Str} (ho : SE K to fo) : SE K (CwR.tReplC to y z) (ev1 (gRepl y z) fo) := by
  intro B IO Z σ H cs ok d fr cs' e Q q
  unfold ev1 at e
  obtain ⟨⟨d1, f1, c1⟩, e1, e⟩ := Option.bind_eq_some_iff.mp e
  obtain ⟨⟨w, fz⟩, e3, e⟩ := Option.bind_eq_some_iff.mp e
  cases e
  unfold gRepl at e3
  dsimp only at e3
  split at e3
  · split at e3
    · rename_i hl
      cases e3
      refine ho ok e1 _ fun x H1 w1 => ⟨_, w1.rp.str_eq, Nat.le_trans hl (by decide), ?_⟩
      exact q _ H1 (.dat w1.post (.str _))
    · cases e3
  · cases e3
theorem de_addRepl {o : Expr} {to : TE} {fo : EX} {s y z : Str} {l j k : Nat} {cpos c0 c1 apos rpos : Pos} (ho : DE X o to fo) (hyz : (y == z) = false := by decide)
    (hst : starEach [.Constant (.str y) j c0, .Constant (.str z) k c1] X.env = [(false, eval (.Constant (.str y) j c0) X.env), (false, eval (.Constant (.str z) k c1) X.env)] := by rfl)
    (hbase : attributeBase o "replace" X.env (eval o X.env) = eval o X.env := by rfl) (hline : (apos.endLine == rpos.line) = true := by rfl) :
    DE X (.BinOp (.Constant (.str s) l cpos) .Add (.Call (.Attribute o "replace" apos) [.Constant (.str y) j c0, .Constant (.str z) k c1] [] rpos) pos) (tOp (rAddD X.K) (tC (.str s)) (CwR.tReplC to y z)) (ev2 gAdd (evC (.str s)) (ev1 (gRepl y z) fo)) := by
  refine ⟨⟨fun pins sh σ H Q I h => ?_⟩, se_2 (se_c fun _ => .str s) (se_repl ho.se) sw_add.two⟩
  refine wpAny_BinOp (Calls.Constant_str ?_)
  have I1 := I.tok (sh.toks + 1)
  exact thn (CwR.pet_replC ho.pe hyz hst hbase hline pins _ σ H (fun y H2 => rAddD X.K (.str s) y H2 Q) (by show 1 ≤ sh.toks + 1; omega) I1 h) fun u s2 ⟨y, H2, I2, r2, q2⟩ => op_addD pins s2 σ H2 (.str s) y _ u Q I2 ⟨_, rfl⟩ r2 q2
end
end Qp
end
section
set_option Elab.async false
set_option linter.all false
set_option maxRecDepth 100000
set_option maxHeartbeats 4000000
/-! Rd: == where one side is not deep; how the codes of Ra .. Rc are reckoned. -/
namespace Qp
open PySem PySem.Spec PyProof.Rows L2
section
variable {X : Cx} {K : PySem.W.Frag}
def eqvM (d e : D) : Bool := d.canLay0 && e.canLay0 && decide (min d.depth e.depth ≤ 64)
theorem op_eqM (hu : X.A.units + 64 < cLine) : OpR X (compareOp .Eq) (fun x y H Q => ∃ d e, Dp X.K H x d ∧ Dp X.K H y e ∧ eqvM d e = true ∧ Q (.bl (PyData.eqv d e)) H) := by
  intro pins s σ H x y v u Q I rx ry h
  obtain ⟨d, e, hd, he, c, q⟩ := h
  obtain ⟨as, r1⟩ := Dp.reads I d x v hd rx
  obtain ⟨bs, r2⟩ := Dp.reads I e y u he ry
  unfold eqvM at c
  rw [Bool.and_eq_true, Bool.and_eq_true, decide_eq_true_eq] at c
  exact SeqAt.compareEq_reads r1 r2 c.1.1 c.1.2 (by omega) ⟨.bl _, H, I, rfl, q⟩
def gEqM : G2 := fun d e => if eqvM d e = true then some (.bool (PyData.eqv d e), false) else none
theorem sw_eqM : SRw K (fun x y H Q => ∃ d e, Dp K H x d ∧ Dp K H y e ∧ eqvM d e = true ∧ Q (.bl (PyData.eqv d e)) H) gEqM := by
  intro H M hm x y d e rx ry z fr q Q k
  unfold gEqM at q
  split at q
  · rename_i c
    cases q
    have c' := c
    unfold eqvM at c'
    rw [Bool.and_eq_true, Bool.and_eq_true] at c'
    exact ⟨d, e, dp_of rx.rpH (Le.refl H) c'.1.1, dp_of ry cut_le c'.1.2, c, k _ H (Ex.refl H) (VOk.of (.bl _))⟩
  · cases q
theorem gEqM_e {ds : List D} (h : PyData.canLayAll0 ds = true) : gEqM (.tuple ds) (.tuple []) = some (.bool ds.isEmpty, false) := by
  unfold gEqM
  have c : eqvM (.tuple ds) (.tuple []) = true := by
    unfold eqvM
    have h1 : PyData.canLay0 (.tuple ds) = true := by simpa [PyData.canLay0] using h
    have h2 : PyData.depth (.tuple []) = 1 := rfl
    rw [h1, h2]
    have : min (PyData.depth (.tuple ds)) 1 ≤ 64 := Nat.le_trans (Nat.min_le_right _ _) (by decide)
    rw [decide_eq_true this]
    rfl
  rw [if_pos c]
  cases ds with
  | nil => rfl
  | cons a b => rfl
end
/-! ### rules -/
section
variable {d x y z : D} {fr f1 b : Bool} {c cs c1 : En} {i n m : Nat} {f fa fb fc fe fi fk : EX} {g g' : G2} {u : G1} {G : GA} {fs : AX} {t s : TX} {xs ds zs : List D} {gt gt1 : GX}
def kPop0 (i : Nat) (cs : En) (o : Option Cell) : OE := match o with
  | some (.own (.list ds)) => kPop .own i cs ds
  | some (.io (.list ds)) => kPop .io i cs ds
  | _ => none
@[simp] theorem evPop_ap : evPop i cs = kPop0 i cs cs[i]? := by
  unfold evPop kPop0
  rfl
@[simp] theorem kPop0_o : kPop0 i cs (some (.own (.list ds))) = kPop .own i cs ds := rfl
@[simp] theorem kPop0_i : kPop0 i cs (some (.io (.list ds))) = kPop .io i cs ds := rfl
theorem kPop_of {k : D → Cell} (h : ds[ds.length - 1]? = some d) : kPop k i cs ds = some (d, false, cs.set i (k (.list ds.dropLast))) := by
  unfold kPop
  rw [h]
  rfl
theorem kPop_app {k : D → Cell} : kPop k i cs (ds ++ [d]) = some (d, false, cs.set i (k (.list ds))) := by
  rw [kPop_of (d := d) (by simp)]
  simp
def kCh3 (o : Option (D × Bool)) (c : En) : OE := o.bind fun y => some (y.1, y.2, c)
def kCh2 (g' : G2) (y : D) (o : OE) : OE := o.bind fun u => kCh3 (g' y u.1) u.2.2
def kCh1 (g' : G2) (fc : EX) (y : D) (c : En) (o : Option (D × Bool)) : OE := o.bind fun z => match z.1, z.2 with
  | .bool true, false => kCh2 g' y (fc c)
  | .bool false, false => some (.bool false, false, c)
  | _, _ => none
def kChb (g g' : G2) (fc : EX) (x : D) (o : OE) : OE := o.bind fun s => kCh1 g' fc s.1 s.2.2 (g x s.1)
def kCha (g g' : G2) (fb fc : EX) (o : OE) : OE := o.bind fun r => kChb g g' fc r.1 (fb r.2.2)
@[simp] theorem evChain_ap : evChain g g' fa fb fc cs = kCha g g' fb fc (fa cs) := by
  unfold evChain kCha kChb kCh1 kCh2 kCh3
  rfl
@[simp] theorem kCha_s : kCha g g' fb fc (some (x, f1, c)) = kChb g g' fc x (fb c) := rfl
@[simp] theorem kChb_s : kChb g g' fc x (some (y, f1, c)) = kCh1 g' fc y c (g x y) := rfl
@[simp] theorem kCh1_t : kCh1 g' fc y c (some (.bool true, false)) = kCh2 g' y (fc c) := rfl
@[simp] theorem kCh1_f : kCh1 g' fc y c (some (.bool false, false)) = some (.bool false, false, c) := rfl
@[simp] theorem kCh2_s : kCh2 g' y (some (z, f1, c)) = kCh3 (g' y z) c := rfl
@[simp] theorem kCh3_s : kCh3 (some (z, fr)) c = some (z, fr, c) := rfl
def kLc22 (vs : List Nat) (c : En) (o : Option (List D × En)) : OE := o.bind fun z => some (.list z.1, true, rst z.2 c vs)
def kLc21 (fg : GX) (ft : TX) (fi1 : IX) (fg1 : GX) (ft1 : TX) (fe : EX) (vs vs1 : List Nat) (o : Option (List D × En)) : OE := o.bind fun r => if noOwn r.2 vs = true then kLc22 vs r.2 (loopC2 fg ft fi1 fg1 ft1 fe vs vs1 r.1 [] (clr r.2 vs)) else none
@[simp] theorem evLc2_ap {vs vs1 : List Nat} {fx fi1 : IX} : evLc2 vs vs1 fx gt t fi1 gt1 s fe cs = kLc21 gt t fi1 gt1 s fe vs vs1 (fx cs) := rfl
theorem kLc21_s {vs vs1 : List Nat} {fi1 : IX} (h : noOwn c vs = true) : kLc21 gt t fi1 gt1 s fe vs vs1 (some (xs, c)) = kLc22 vs c (loopC2 gt t fi1 gt1 s fe vs vs1 xs [] (clr c vs)) := by
  show (if noOwn c vs = true then _ else _) = _
  rw [if_pos h]
@[simp] theorem kLc22_s {vs : List Nat} : kLc22 vs c (some (xs, c1)) = some (.list xs, true, rst c1 c vs) := rfl
theorem loopC2_cons {fi1 : IX} {vs vs1 : List Nat} {acc acc2 its : List D} {c2 c3 c4 : En} (h1 : gt x cs = some c1) (h2 : t c1 = some (true, c2)) (h3 : fi1 c2 = some (its, c3)) (h4 : noOwn c3 vs1 = true) (h5 : loopC gt1 s fe vs1 its acc (clr c3 vs1) = some (acc2, c4)) (h6 : noOwn c4 vs = true) :
    loopC2 gt t fi1 gt1 s fe vs vs1 (x :: xs) acc cs = loopC2 gt t fi1 gt1 s fe vs vs1 xs acc2 (clr c4 vs) := by
  show ((gt x cs).bind fun c => (t c).bind fun b => _) = _
  rw [h1, Option.bind_some, h2, Option.bind_some, if_pos rfl, h3, Option.bind_some, if_pos h4, h5, Option.bind_some, if_pos h6]
theorem gSplit_of {a b : Str} (h : (b.length == 0) = false) (h2 : a.length ≤ LIMS) : gSplit (.str a) (.str b) = some (.list ((Txt.split a b).map .str), true) := by
  show (if (b.length == 0) = false ∧ a.length ≤ LIMS then _ else _) = _
  rw [if_pos ⟨h, h2⟩]
theorem gLower_of {a : Str} (h2 : a.length ≤ LIMS) : gLower (.str a) = some (.str (Txt.lower a), false) := by
  show (if a.length ≤ LIMS then _ else _) = _
  rw [if_pos h2]
theorem gRepl_of {y z a : Str} (h2 : a.length + (a.length + 1) * z.length ≤ 10000000) : gRepl y z (.str a) = some (.str (Txt.replace a y z), false) := by
  show (if a.length + (a.length + 1) * z.length ≤ 10000000 then _ else _) = _
  rw [if_pos h2]
theorem gRepS_of {a : Str} {k : Int} (h : k ≤ 100000 ∧ -100000 ≤ k) (h2 : a.length ≤ 100) : gRepS (.str a) (.int k) = some (.str (repS a k.toNat), false) := by
  show (if (k ≤ 100000 ∧ -100000 ≤ k) ∧ a.length ≤ 100 then _ else _) = _
  rw [if_pos ⟨h, h2⟩]
theorem gRepT_of {k : Int} (h0 : ds.isEmpty = false) (h : 2 ≤ k ∧ k ≤ 1000) (h2 : ds.length ≤ 1000) : gRepT (.tuple ds) (.int k) = some (.tuple (List.replicate k.toNat ds).flatten, false) := by
  show (if ds.isEmpty = false ∧ (2 ≤ k ∧ k ≤ 1000) ∧ ds.length ≤ 1000 then _ else _) = _
  rw [if_pos ⟨h0, h, h2⟩]
end
end Qp
end
section
set_option Elab.async false
set_option linter.all false
set_option maxRecDepth 100000
set_option maxHeartbeats 4000000
/-! Re: dict comprehensions. -/
namespace Qp
open PySem PySem.Spec PyProof.Rows L2
section
variable {X : Cx} {K : PySem.W.Frag} {wi : TI} {fi : IX} {g : TG} {tgs vs : List Nat} {fg : GX} {tt : TT} {ft : TX} {tk tv : TE} {fk fv : EX}
def loopDc (fg : GX) (ft : TX) (fk fv : EX) (vs : List Nat) : List D → List (D × D) → En → Option (List (D × D) × En)
  | [], acc, cs => some (acc, cs)
  | x :: r, acc, cs => (fg x cs).bind fun c => (ft c).bind fun b => if b.1 = true then (fk b.2).bind fun y => (fv y.2.2).bind fun z => (keyD y.1).bind fun k => if (noOwn z.2.2 vs && decide (acc.length < LIM)) = true then loopDc fg ft fk fv vs r (putD acc k z.1) (clr z.2.2 vs) else none
    else if noOwn b.2 vs = true then loopDc fg ft fk fv vs r acc (clr b.2 vs) else none
def evDc (vs : List Nat) (fi : IX) (fg : GX) (ft : TX) (fk fv : EX) : EX := fun cs => (fi cs).bind fun r => if noOwn r.2 vs = true then (loopDc fg ft fk fv vs r.1 [] (clr r.2 vs)).bind fun z => some (.dict z.1, true, rst z.2 r.2 vs) else none
theorem se_dc (hi : SI K wi fi) (hg : SG K g tgs fg) (ht : STt K tt ft) (hk : SE K tk fk) (he : SE K tv fv) (hv : ∀ j ∈ tgs, j ∈ vs) : SE K (tDc wi g tt tk tv vs) (evDc vs fi fg ft fk fv) := by
  intro B IO Z σ H cs ok d fr cs' e Q q
  unfold evDc at e
  obtain ⟨⟨items, c1⟩, e1, e⟩ := Option.bind_eq_some_iff.mp e
  dsimp only at e
  split at e
  · rename_i hn
    obtain ⟨⟨ds, c2⟩, e2, e⟩ := Option.bind_eq_some_iff.mp e
    cases e
    refine hi ok e1 _ fun J H1 p1 jok Dl hD => ?_
    have hB : B Dl = none := by
      cases z : B Dl with
      | none => rfl
      | some o => exact absurd hD (p1.ok.dom Dl (by rw [z]; exact fun z => nomatch z))
    have np : ¬ Z Dl := fun z => p1.ok.xin Dl z hD
    obtain ⟨ok1, le1⟩ := (p1.ok.wipe hn).newX (o := .dK []) hD
    rw [md_wipe hn] at le1
    have dom1 : ∀ a, H1 a ≠ none → upd H1 Dl (.dK []) a ≠ none := fun a h => (Ex.new hD).dom h
    refine ⟨fun i m H' => m = items.length - i ∧ i ≤ items.length ∧ ∃ (c : En) (acc : List (D × D)) (vals : List (Key × V)), Ok K B IO (XP Z Dl) (L2.wipe σ vs) H' c ∧ Le (cut H1 (Md σ c1 Z)) (cut H' (Md (L2.wipe σ vs) c (XP Z Dl))) ∧ (∀ a, Z a → H' a = H1 a) ∧ (∀ a, H1 a ≠ none → H' a ≠ none) ∧
      H' Dl = some (.dK vals) ∧ (acc.map (·.1) = vals.map (fun p => kD p.1) ∧ Paired (Rp K (cut H' (Md (L2.wipe σ vs) c (XP Z Dl)))) (vals.map (·.2)) (acc.map (·.2))) ∧ loopDc fg ft fk fv vs (items.drop i) acc c = some (ds, c2),
      ⟨_, rfl, Nat.zero_le _, clr c1 vs, [], [], ok1, le1, fun a h => upd_ne (fun z => np (by rw [← z]; exact h)), dom1, upd_same, ⟨rfl, .nil⟩, by rw [List.drop_zero]; exact e2⟩, ?_⟩
    rintro i m H' ⟨rfl, hil, c, acc, vals, ok', le', keep', dom', hD', ⟨ka, pa⟩, el⟩
    obtain ⟨js, jg⟩ := jok H' _ ok'.md le' i
    by_cases hlt : i < items.length
    · have hd : items[i]? = some items[i] := List.getElem?_eq_getElem hlt
      obtain ⟨go, yl⟩ := jg _ hd
      rw [List.drop_eq_getElem_cons hlt] at el
      unfold loopDc at el
      obtain ⟨c3, e3, el⟩ := Option.bind_eq_some_iff.mp el
      obtain ⟨⟨b, c4⟩, e4, el⟩ := Option.bind_eq_some_iff.mp el
      dsimp only at el
      refine .inr ⟨go, fun H' => ∃ (c : En) (acc : List (D × D)) (vals : List (Key × V)), Ok K B IO (XP Z Dl) (L2.wipe σ vs) H' c ∧ Le (cut H1 (Md σ c1 Z)) (cut H' (Md (L2.wipe σ vs) c (XP Z Dl))) ∧ (∀ a, Z a → H' a = H1 a) ∧ (∀ a, H1 a ≠ none → H' a ≠ none) ∧
        H' Dl = some (.dK vals) ∧ (acc.map (·.1) = vals.map (fun p => kD p.1) ∧ Paired (Rp K (cut H' (Md (L2.wipe σ vs) c (XP Z Dl)))) (vals.map (·.2)) (acc.map (·.2))) ∧ loopDc fg ft fk fv vs (items.drop (i + 1)) acc c = some (ds, c2), fun H3 ⟨c, acc, vals, h⟩ => ⟨items.length - (i + 1), by omega, rfl, hlt, c, acc, vals, h⟩, fun x H2 hy => ?_⟩
      obtain ⟨ex, rx⟩ := yl x H2 hy
      have p2 := ok'.ext ex
      refine hg p2.ok rx e3 _ fun σ3 H3 p3 ag => ⟨wipe_agr ag hv, ?_⟩
      have hw := wipe_agr ag hv
      refine ht p3.ok e4 _ fun H4 p4 => ?_
      have p234 := (p2.trans p3).trans p4
      have hz : ∀ a, Z a → XP Z Dl a := fun a h => .inl h
      cases b with
      | false =>
        refine iteF ?_
        simp only [Bool.false_eq_true, if_false] at el
        split at el
        · rename_i hn4
          have ok5 := p4.ok.wipe hn4
          rw [hw] at ok5
          have em : Md (L2.wipe σ vs) (clr c4 vs) (XP Z Dl) = Md σ3 c4 (XP Z Dl) := by rw [← hw]; exact md_wipe hn4
          exact ⟨clr c4 vs, acc, vals, ok5, by rw [em]; exact le'.trans p234.le, fun a h => (p234.keep a (hz a h)).trans (keep' a h), fun a h => p234.dom a (dom' a h), (p234.keep Dl (.inr rfl)).trans hD', ⟨ka, by rw [em]; exact Rp.monoA p234.le pa⟩, el⟩
        · cases el
      | true =>
        refine iteT ?_
        simp only [if_true] at el
        obtain ⟨⟨y0, fy, c5⟩, e5, el⟩ := Option.bind_eq_some_iff.mp el
        obtain ⟨⟨z, fz, c6⟩, e6, el⟩ := Option.bind_eq_some_iff.mp el
        obtain ⟨k, e7, el⟩ := Option.bind_eq_some_iff.mp el
        dsimp only at el e7
        split at el
        · rename_i hn5
          rw [Bool.and_eq_true, decide_eq_true_eq] at hn5
          refine hk p4.ok e5 _ fun y H5 w5 => he w5.post.ok e6 _ fun zv H6 w => ?_
          have p5 := (p234.trans w5.post).trans w.post
          have ok5 := w.post.ok.wipe hn5.1
          rw [hw] at ok5
          have em : Md (L2.wipe σ vs) (clr c6 vs) (XP Z Dl) = Md σ3 c6 (XP Z Dl) := by rw [← hw]; exact md_wipe hn5.1
          have md : Md (L2.wipe σ vs) (clr c6 vs) (XP Z Dl) Dl := .inl (.inr rfl)
          have pp := put_pd (k := k) (R := Rp K (cut H6 (Md σ3 c6 (XP Z Dl)))) w.rp ka (Rp.monoA p5.le pa)
          refine ⟨vals, k, key_rp w5.rp e7, (p5.keep Dl (.inr rfl)).trans hD', by rw [len_pd ka]; exact lim_lt hn5.2, clr c6 vs, putD acc k z, putK vals k zv, ok5.updX (.inr rfl) hB, ?_, fun a h => ?_, fun a h => ?_, upd_same, ⟨pp.1, ?_⟩, el⟩
          · rw [cut_updX md, em]
            exact le'.trans p5.le
          · rw [upd_ne (fun z => np (by rw [← z]; exact h))]
            exact (p5.keep a (hz a h)).trans (keep' a h)
          · by_cases ea : a = Dl
            · rw [ea, upd_same]; exact fun z => nomatch z
            · rw [upd_ne ea]; exact p5.dom a (dom' a h)
          · rw [cut_updX md, em]
            exact pp.2
        · cases el
    · have hi' : i = items.length := by omega
      subst hi'
      rw [List.drop_length] at el
      cases el
      refine .inl ⟨js (rfl), q _ H' ?_⟩
      have dat1 : ∀ (j : Nat) d, c1[j]? = some (.dat d) → ∃ v, σ[j]? = some (some v) ∧ Rp K (cut H' (Md (L2.wipe σ vs) c2 (XP Z Dl))) v d := fun j d hj => by
        obtain ⟨v, h1, h2⟩ := p1.ok.dat j d hj
        exact ⟨v, h1, h2.mono le'⟩
      refine ⟨Dl, rfl, ?_, ⟨ok'.restore hn dat1, by rw [md_rst hn]; exact p1.le.trans le', fun a h => (keep' a h).trans (p1.keep a h), fun a h => dom' a (p1.dom a h), np⟩, by rw [md_rst hn, hD']; exact .dic ka pa⟩
      cases z : H Dl with
      | none => rfl
      | some o => exact absurd hD (p1.dom Dl (by rw [z]; exact fun z => nomatch z))
  · cases e
end
section
variable {X : Cx} {tg kx vx iter : Expr} {ifs : List Expr} {scope : Scope} {own : List (Str × Nat)} {pos spos : Pos} {wi : TI} {fi : IX} {tgs vs : List Nat} {fg : GX} {ft : TX} {fk fv : EX}
theorem de_dc (hc : X.calm = true) (hN : X.N.Nodup) (hi : DI X tg iter wi fi) (ok : BlkOk X.N X.env.scope scope own)
    (hg : ∀ (s : Shared) (H : Hp) (C : Addr) (cl : List (Str × Addr)) (fp : List Addr), ∃ g, DG (X.blk s H scope (compEnvC scope cl C X.env) fp) tg g tgs fg) (ht : ∀ (s : Shared) (H : Hp) (C : Addr) (cl : List (Str × Addr)) (fp : List Addr), ∃ tt, DTs (X.blk s H scope (compEnvC scope cl C X.env) fp) ifs tt ft)
    (hk : ∀ (s : Shared) (H : Hp) (C : Addr) (cl : List (Str × Addr)) (fp : List Addr), ∃ te, DE (X.blk s H scope (compEnvC scope cl C X.env) fp) kx te fk)
    (he : ∀ (s : Shared) (H : Hp) (C : Addr) (cl : List (Str × Addr)) (fp : List Addr), ∃ te, DE (X.blk s H scope (compEnvC scope cl C X.env) fp) vx te fv) (hvs : own.map (·.2) = vs := by rfl) (hv : ∀ j ∈ tgs, j ∈ vs := by decide) (hs : ∀ x, foldedSetIterable iter X.env x = pure x := by intro _; rfl) :
    DE X (.DictComp kx vx [⟨tg, iter, ifs, 0⟩] scope pos) (tDc wi (tgOf X.K tgs fg) (ttOf X.K ft) (teOf X.K fk) (teOf X.K fv) (own.map (·.2))) (evDc vs fi fg ft fk fv) := by
  subst hvs
  exact ⟨pe_dc hc hN hi.pi ok (fun s H C cl fp => (hg s H C cl fp).elim fun _ q => q.can) (fun s H C cl fp => (ht s H C cl fp).elim fun _ q => q.can) (fun s H C cl fp => (hk s H C cl fp).elim fun _ q => q.can) (fun s H C cl fp => (he s H C cl fp).elim fun _ q => q.can) hs,
    se_dc hi.si sg_can st_can se_can se_can hv⟩
theorem ps_setDc {i : Nat} {y : Str} {py : Pos} {g : TG} {tt : TT} {tk tv : TE} (hc : X.calm = true) (hN : X.N.Nodup) (hy : X.N[i]? = some y) (hyl : X.env.scope.names.lookup y = some .local)
    (hsw : swapsWith (.DictComp kx vx [⟨tg, iter, ifs, 0⟩] scope pos) (some (.Name y py)) spos.line X.env = pure true) (hi : PI X tg iter wi) (ok : BlkOk X.N X.env.scope scope own)
    (hg : ∀ (s : Shared) (H : Hp) (C : Addr) (cl : List (Str × Addr)) (fp : List Addr), PG (X.blk s H scope (compEnvC scope cl C X.env) fp) tg g) (ht : ∀ (s : Shared) (H : Hp) (C : Addr) (cl : List (Str × Addr)) (fp : List Addr), PTs (X.blk s H scope (compEnvC scope cl C X.env) fp) ifs tt)
    (hk : ∀ (s : Shared) (H : Hp) (C : Addr) (cl : List (Str × Addr)) (fp : List Addr), PE (X.blk s H scope (compEnvC scope cl C X.env) fp) kx tk)
    (he : ∀ (s : Shared) (H : Hp) (C : Addr) (cl : List (Str × Addr)) (fp : List Addr), PE (X.blk s H scope (compEnvC scope cl C X.env) fp) vx tv) (hs : ∀ x, foldedSetIterable iter X.env x = pure x := by intro _; rfl) :
    PS X (.Assign [.Name y py] (.DictComp kx vx [⟨tg, iter, ifs, 0⟩] scope pos) spos) (tAsg (tDc wi g tt tk tv (own.map (·.2))) (gName i)) := by
  refine ⟨fun pins s σ H D I h => ?_⟩
  rw [exec_Assign_Name_used _ _ _ _ hsw]
  refine wpAny_bind (wpAny_standAt (wpAny_bind ?_))
  show wpAny _ X.A (do let _ ← comprehension (.DictComp kx vx [⟨tg, iter, ifs, 0⟩] scope pos) scope X.env (firstIterPos [⟨tg, iter, ifs, 0⟩] pos) newDict false (eval iter X.env) (some (assign (.Name y py) X.env))) _ _ s
  have h : tDc wi g tt tk tv (own.map (·.2)) σ H (fun x H1 => gName i x σ H1 D.nx) := h
  refine wpAny_bind (thn (dc_core (Qf := fun _ s' => SP X pins D .next s') hc hN I hi ok hg ht hk he hs h fun L C s' m H' I' q hn f => ?_) fun _ s' hq => wpAny_pure (wpAny_pure hq))
  show wpAny _ _ (assign (.Name y py) X.env (.ref L)) _ _ _
  refine wpAny_assign_Name (store_ok2 (v := V.ref L) I' hN hy (.inl hyl) rfl (fun s2 I2 ⟨a, sb, ha⟩ => ?_) (.inr hyl))
  obtain ⟨f0, f1, f2, f3, f4, f5⟩ := f
  have haC : C ≠ a := by
    rcases ha with z | z
    · rw [z]; exact f1
    · exact fun e => f4 y a z e.symm
  refine ⟨m, hn.sameBut sb haC, fun h3 sb3 => ?_⟩
  exact ⟨_, H', I2.turned (t' := s2.toks) (fun b o hb e => (sb3.2 b hb).trans e) f0 f1 f3 f4 f5, q⟩
theorem swD_true {gs : List Comprehension} {py : Pos} {y : Str} {l : Nat} {env : Env} (hk : env.scope.kind = .function) (hy : env.scope.names.lookup y = some .local) (hl : (py.line == pos.line) = true)
    (ha : (scope.names.any fun (n, k) => n == y && (k == .local || k == .cell)) = false) : swapsWith (.DictComp kx vx gs scope pos) (some (.Name y py)) l env = pure true := by
  have ky : env.kindOf y = some .local := hy
  have hb : env.blockKind = .function := by unfold Env.blockKind; rw [hk]; rfl
  unfold swapsWith
  simp only [hb, ky, ha, Expr.pos, hl]
  rfl
theorem ds_dc {i : Nat} {y : Str} {py : Pos} (hc : X.calm = true) (hN : X.N.Nodup) (hy : X.N[i]? = some y) (hyl : X.env.scope.names.lookup y = some .local) (hsw : swapsWith (.DictComp kx vx [⟨tg, iter, ifs, 0⟩] scope pos) (some (.Name y py)) spos.line X.env = pure true)
    (hi : DI X tg iter wi fi) (ok : BlkOk X.N X.env.scope scope own)
    (hg : ∀ (s : Shared) (H : Hp) (C : Addr) (cl : List (Str × Addr)) (fp : List Addr), ∃ g, DG (X.blk s H scope (compEnvC scope cl C X.env) fp) tg g tgs fg) (ht : ∀ (s : Shared) (H : Hp) (C : Addr) (cl : List (Str × Addr)) (fp : List Addr), ∃ tt, DTs (X.blk s H scope (compEnvC scope cl C X.env) fp) ifs tt ft)
    (hk : ∀ (s : Shared) (H : Hp) (C : Addr) (cl : List (Str × Addr)) (fp : List Addr), ∃ te, DE (X.blk s H scope (compEnvC scope cl C X.env) fp) kx te fk)
    (he : ∀ (s : Shared) (H : Hp) (C : Addr) (cl : List (Str × Addr)) (fp : List Addr), ∃ te, DE (X.blk s H scope (compEnvC scope cl C X.env) fp) vx te fv) (hvs : own.map (·.2) = vs := by rfl) (hv : ∀ j ∈ tgs, j ∈ vs := by decide) (hs : ∀ x, foldedSetIterable iter X.env x = pure x := by intro _; rfl) :
    DS X (.Assign [.Name y py] (.DictComp kx vx [⟨tg, iter, ifs, 0⟩] scope pos) spos) (tAsg (tDc wi (tgOf X.K tgs fg) (ttOf X.K ft) (teOf X.K fk) (teOf X.K fv) (own.map (·.2))) (gName i)) (sAsg i (evDc vs fi fg ft fk fv)) := by
  subst hvs
  exact ⟨ps_setDc hc hN hy hyl hsw hi.pi ok (fun s H C cl fp => (hg s H C cl fp).elim fun _ q => q.can) (fun s H C cl fp => (ht s H C cl fp).elim fun _ q => q.can) (fun s H C cl fp => (hk s H C cl fp).elim fun _ q => q.can) (fun s H C cl fp => (he s H C cl fp).elim fun _ q => q.can) hs,
    ss_asg (se_dc hi.si sg_can st_can se_can se_can hv)⟩
end
end Qp
end
section
set_option Elab.async false
set_option linter.all false
set_option maxRecDepth 100000
set_option maxHeartbeats 4000000
/-! Rf: list(d), dict(d), d.get(k, x) of dicts; isupper; a text in a text; a new list repeated. -/
namespace Qp
open PySem PySem.Spec PyProof.Rows L2
section
variable {K : PySem.W.Frag} {X : Cx}
def gKeys : G1
  | .dict es => some (.list (es.map (·.1)), true)
  | _ => none
theorem keys_rp {F : Hp} : ∀ {es : List (D × D)} {kvs : List (Key × V)}, es.map (·.1) = kvs.map (fun p => kD p.1) → Paired (Rp K F) (kvs.map fun kv => kV kv.1) (es.map (·.1))
  | [], [], _ => .nil
  | [], _ :: _, h => by simp at h
  | _ :: _, [], h => by simp at h
  | e :: es, p :: kvs, h => by
    rw [List.map_cons, List.map_cons] at h
    injection h with h1 h2
    rw [List.map_cons, List.map_cons, h1]
    exact .cons (rp_kD p.1) (keys_rp h2)
theorem sw_keys : SRCw K (fun xs H Q => ∃ (a : Addr) (kvs : List (Key × V)), xs = [.ref a] ∧ Rd H a (.dK kvs) ∧ ∀ p, H p = none → Q (.ref p) (upd H p (.lst (kvs.map fun kv => kV kv.1)))) gKeys := by
  intro H M hm x d rx z fr q Q k
  unfold gKeys at q
  split at q
  · cases q
    obtain ⟨a, kvs, rfl, hr, he, hp⟩ := rx.dict
    exact ⟨a, kvs, rfl, hr, fun p hp' => k _ _ (Ex.new hp') (VOk.new hp' hm (.lst (keys_rp he)))⟩
  · cases q
def gCopyD : G1
  | .dict es => some (.dict es, true)
  | _ => none
theorem sw_copyD : SRCw K (fun xs H Q => ∃ (a : Addr) (kvs : List (Key × V)), xs = [.ref a] ∧ Rd H a (.dK kvs) ∧ ∀ p, H p = none → Q (.ref p) (upd H p (.dK kvs))) gCopyD := by
  intro H M hm x d rx z fr q Q k
  unfold gCopyD at q
  split at q
  · cases q
    obtain ⟨a, kvs, rfl, hr, he, hp⟩ := rx.dict
    exact ⟨a, kvs, rfl, hr, fun p hp' => k _ _ (Ex.new hp') (VOk.new hp' hm (.dic he hp))⟩
  · cases q
/-! ### d.get(k, x) -/
def evGet2 (i : Nat) (fk fx : EX) : EX := fun cs => (cont cs i).bind fun d0 => (fk cs).bind fun s => (fx s.2.2).bind fun r => (cont r.2.2 i).bind fun d => match d0, d with
  | .dict _, .dict es => (keyD s.1).bind fun k => some ((valD es k).getD r.1, false, r.2.2)
  | _, _ => none
theorem de_get2 {i : Nat} {x : Str} {xpos apos cpos : Pos} {a e : Expr} {tk te : TE} {fk fe : EX} (hu : X.A.units + 1 < cLine) (hv : DE X (.Name x xpos) (tVar i) (evVar i)) (hk : DE X a tk fk) (he : DE X e te fe) (m : M2 X (.Name x xpos) "get" apos a e cpos) :
    DE X (.Call (.Attribute (.Name x xpos) "get" apos) [a, e] [] cpos) (tDGet2 (tVar i) tk te) (evGet2 i fk fe) := by
  refine ⟨pe_dget2 hu hv.pe hk.pe he.pe m, ?_⟩
  intro B IO Z σ H cs ok d fr cs' e Q q
  unfold evGet2 at e
  obtain ⟨d0, e0, e⟩ := Option.bind_eq_some_iff.mp e
  obtain ⟨⟨d1, f1, c1⟩, e1, e⟩ := Option.bind_eq_some_iff.mp e
  obtain ⟨⟨d2, f2, c2⟩, e2, e⟩ := Option.bind_eq_some_iff.mp e
  obtain ⟨d3, e3, e⟩ := Option.bind_eq_some_iff.mp e
  dsimp only at e
  split at e
  · rename_i es0 es
    obtain ⟨k, e4, e⟩ := Option.bind_eq_some_iff.mp e
    cases e
    obtain ⟨v, hs, vw⟩ := ok.view e0
    obtain ⟨a0, kvs0, rfl, hr0, _, _⟩ := vw.dict
    refine ⟨_, hs, a0, rfl, .inl ⟨kvs0, hr0⟩, hk.se ok e1 _ fun y H1 w1 => he.se w1.post.ok e2 _ fun z H2 w2 => ?_⟩
    have p := w1.post.trans w2.post
    obtain ⟨v', hs', vw'⟩ := w2.post.ok.view e3
    rw [hs] at hs'
    cases hs'
    obtain ⟨a1, kvs, h1, hr, h4, h5⟩ := vw'.dict
    cases h1
    rcases val_pd h4 h5 k with ⟨n1, n2⟩ | ⟨u, o, n1, n2, n3⟩
    · refine ⟨none, .inl ⟨kvs, k, hr, key_rp w1.rp e4, n1.symm⟩, ?_⟩
      rw [n2] at q
      exact q z H2 (.dat p w2.rp)
    · refine ⟨some u, .inl ⟨kvs, k, hr, key_rp w1.rp e4, n1.symm⟩, ?_⟩
      rw [n2] at q
      exact q u H2 (.dat p n3)
  · cases e
/-! ### isupper -/
def gUpper : G1
  | .str a => some (.bool (Txt.isupper a), false)
  | _ => none
theorem de_isupper {o : Expr} {to : TE} {fo : EX} {apos pos : Pos} (ho : DE X o to fo) (hbase : attributeBase o "isupper" X.env (eval o X.env) = eval o X.env := by rfl) (hline : (apos.endLine == pos.line) = true := by rfl) :
    DE X (.Call (.Attribute o "isupper" apos) [] [] pos) (tM0 (fun x xs H Q => ∃ a, x = .str a ∧ xs = [] ∧ True ∧ Q (.bl (Txt.isupper a)) H) to) (ev1 gUpper fo) := by
  refine ⟨pe_m0 PySem.F.slot_str_isupper PySem.F.type_str_isupper mt_isupper ho.pe hbase hline, se_m0 ho.se (fun d z fr e => ?_) ?_⟩
  · unfold gUpper at e
    split at e
    · exact ⟨_, rfl⟩
    · cases e
  · intro H M hm x d rx z fr e Q k
    unfold gUpper at e
    split at e
    · cases e
      exact ⟨_, rx.str_eq, rfl, trivial, k _ H (Ex.refl H) (VOk.of (.bl _))⟩
    · cases e
/-! ### a text in a text -/
def inS (i j : Str) : Bool := !(Builtin.Str.occurrences j i 0 j.length 1).isEmpty
def gInS (neg : Bool) : G2
  | .str i, .str j => some (.bool (inS i j != neg), false)
  | _, _ => none
theorem sr_inS : SR2 K (fun x y H Q => ∃ i j, x = .str i ∧ y = .str j ∧ Q (.bl (!(Builtin.Str.occurrences j i 0 j.length 1).isEmpty)) H) (gInS false) := by
  intro H M hm x y d e rx ry z fr q Q k
  unfold gInS at q
  split at q
  · cases q
    refine ⟨_, _, rx.str_eq, ry.str_eq, k _ H (Ex.refl H) (VOk.of ?_)⟩
    rw [Bool.bne_false]
    exact .bl _
  · cases q
theorem sr_notInS : SR2 K (fun x y H Q => ∃ i j, x = .str i ∧ y = .str j ∧ Q (.bl (!(!(Builtin.Str.occurrences j i 0 j.length 1).isEmpty))) H) (gInS true) := by
  intro H M hm x y d e rx ry z fr q Q k
  unfold gInS at q
  split at q
  · cases q
    refine ⟨_, _, rx.str_eq, ry.str_eq, k _ H (Ex.refl H) (VOk.of ?_)⟩
    rw [Bool.bne_true]
    exact .bl _
  · cases q
/-! ### a new list repeated -/
def gRepL (ds : List D) (k : Int) : Option (List D) := if (k ≤ 1000 ∧ -1000 ≤ k) ∧ ds.length ≤ 1000 then some (List.replicate k.toNat ds).flatten else none
def evRepL (fa fb : EX) : EX := fun cs => (fa cs).bind fun r => match r.1, r.2.1 with
  | .list ds, true => (fb r.2.2).bind fun s => match s.1 with
    | .int k => (gRepL ds k).bind fun z => some (.list z, true, s.2.2)
    | _ => none
  | _, _ => none
theorem se_repL {ta tb : TE} {fa fb : EX} (ha : SE K ta fa) (hb : SE K tb fb) : SE K (tOp rRep ta tb) (evRepL fa fb) := by
  intro B IO Z σ H cs ok d fr cs' e Q q
  unfold evRepL at e
  obtain ⟨⟨d1, f1, c1⟩, e1, e⟩ := Option.bind_eq_some_iff.mp e
  dsimp only at e
  split at e
  · rename_i ds
    obtain ⟨⟨d2, f2, c2⟩, e2, e⟩ := Option.bind_eq_some_iff.mp e
    dsimp only at e
    split at e
    · rename_i n
      obtain ⟨zs, e3, e⟩ := Option.bind_eq_some_iff.mp e
      cases e
      refine ha ok e1 _ fun x H1 w1 => ?_
      have w1' := w1
      unfold Pe at w1'
      rw [if_pos rfl] at w1'
      obtain ⟨p, rfl, hp, pn, ow⟩ := w1'
      obtain ⟨xs, hx, px⟩ := ow.list
      refine hb pn.ok e2 _ fun y H2 w2 => ?_
      have keep : H2 p = H1 p := w2.post.keep p (.inr rfl)
      unfold gRepL at e3
      split at e3
      · rename_i hc
        cases e3
        have e4 := w2.rp.int_eq
        have hlen : xs.length * n.toNat ≤ 1000000 := by
          rw [Pd.len px]
          have := Nat.mul_le_mul hc.2 (show n.toNat ≤ 1000 by omega)
          omega
        refine ⟨p, n, xs, rfl, e4, keep.trans hx, by omega, by omega, Nat.le_trans hlen (by decide), fun r hr => ?_⟩
        have okw := w2.post.ok.weakX
        have post1 : Post K B IO Z σ H cs σ H2 _ := ⟨okw, (pn.le.trans w2.post.le).trans le_xp, fun a h => (w2.post.keep a (.inl h)).trans (pn.keep a h), fun a h => w2.post.dom a (pn.dom a h)⟩
        refine q _ _ (Pe.of post1 (Ex.new hr) (VOk.new hr okw.md (.lst ?_)))
        exact Rp.monoA (w2.post.le.trans le_xp) (Pd.rep px _)
      · cases e3
    · cases e
  · cases e
theorem de_repL {a b : Expr} {ta tb : TE} {fa fb : EX} {pos : Pos} (ha : DE X a ta fa) (hb : DE X b tb fb) : DE X (.BinOp a .Mult b pos) (tOp rRep ta tb) (evRepL fa fb) := ⟨pe_op op_rep ha.pe hb.pe, se_repL ha.se hb.se⟩
end
end Qp
end
section
set_option Elab.async false
set_option linter.all false
set_option maxRecDepth 100000
set_option maxHeartbeats 4000000
/-! Rg: a tuple of texts and whole numbers that the module keeps. -/
namespace Qp
open PySem PySem.Spec PyProof.Rows L2
def TupK (K : PySem.W.Frag) (a : Addr) (vs : List V) : Prop := ∃ (o : Obj) (its : Array Value) (n : Nat), K.lookup a = some o ∧ o.cls = .type "tuple" ∧ o.data = .seq its n ∧ its.size ≤ sizeLine ∧ Vals vs its.toList
def flatV : V → D
  | .int i => .int i
  | .str s => .str s
  | .bl b => .bool b
  | _ => .none
def flatB' : V → Bool
  | .int _ => true
  | .str _ => true
  | .bl _ => true
  | .non => true
  | _ => false
theorem flat_rp {K : PySem.W.Frag} {F : Hp} : ∀ {vs : List V}, vs.all flatB' = true → Paired (Rp K F) vs (vs.map flatV)
  | [], _ => .nil
  | v :: vs, h => by
    rw [List.all_cons, Bool.and_eq_true] at h
    refine .cons ?_ (flat_rp h.2)
    cases v with
    | int i => exact .int i
    | str s => exact .str s
    | bl b => exact .bl b
    | non => exact .non
    | _ => cases h.1
theorem de_globT {X : Cx} {pos : Pos} {x : Str} {vs : List V} (hm : ∃ a, X.mg x = some (.ref a) ∧ TupK X.K a vs) (hf : vs.all flatB' = true) (hg : Gl X x) (hd : (x == ("__debug__" : Str)) = false := by decide) : ∃ t, DE X (.Name x pos) t (evC (.tuple (vs.map flatV))) := by
  obtain ⟨a, hm, ht⟩ := hm
  exact ⟨tC (.ref a), de_glob hg hm rfl (fun F => .tup (.inr ht) (flat_rp hf)) hd⟩
/-- with its reading told by the code alone -/
theorem de_globTc {X : Cx} {pos : Pos} {x : Str} {vs : List V} (hm : ∃ a, X.mg x = some (.ref a) ∧ TupK X.K a vs) (hf : vs.all flatB' = true) (hg : Gl X x) (hd : (x == ("__debug__" : Str)) = false := by decide) : DE X (.Name x pos) (teOf X.K (evC (.tuple (vs.map flatV)))) (evC (.tuple (vs.map flatV))) :=
  (de_globT hm hf hg hd).elim fun _ h => ⟨h.can, se_can⟩
theorem tupK_of {K : PySem.W.Frag} {a : Addr} {vs : List V} {od : Option Addr} {its : Array Value} {n : Nat} {sl : Array (Option Value)} (h : K.lookup a = some ⟨.type "tuple", od, .seq its n, sl⟩) (hs : its.size ≤ sizeLine) (hv : Vals vs its.toList) : TupK K a vs := ⟨_, its, n, h, rfl, rfl, hs, hv⟩
end Qp
end
section
set_option Elab.async false
set_option linter.all false
set_option maxRecDepth 100000
set_option maxHeartbeats 4000000
/-! Rh: f(..).append(e) at a new list that nobody keeps. -/
namespace Qp
open PySem PySem.Spec PyProof.Rows L2
section
variable {K : PySem.W.Frag} {X : Cx}
def evAppT (fo fe : EX) : EX := fun cs => (fo cs).bind fun r => match r.1, r.2.1 with
  | .list ds, true => (fe r.2.2).bind fun s => if ds.length < LIM then some (.none, false, s.2.2) else none
  | _, _ => none
theorem se_appT {to te : TE} {fo fe : EX} (ho : SE K to fo) (he : SE K te fe) : SE K (tBM K "list" rAppend to (tCons te tNil)) (evAppT fo fe) := by
  intro B IO Z σ H cs ok d fr cs' e Q q
  unfold evAppT at e
  obtain ⟨⟨d1, f1, c1⟩, e1, e⟩ := Option.bind_eq_some_iff.mp e
  dsimp only at e
  split at e
  · rename_i ds
    obtain ⟨⟨d2, f2, c2⟩, e2, e⟩ := Option.bind_eq_some_iff.mp e
    dsimp only at e
    split at e
    · rename_i hl
      cases e
      refine ho ok e1 _ fun x H1 w1 => ?_
      unfold Pe at w1
      rw [if_pos rfl] at w1
      obtain ⟨p, rfl, hp, pn, ow⟩ := w1
      obtain ⟨xs, hx, px⟩ := ow.list
      refine ⟨.inl ⟨rfl, xs, SqL.of hx⟩, he pn.ok e2 _ fun y H2 w2 => ?_⟩
      have keep : H2 p = H1 p := w2.post.keep p (.inr rfl)
      have hB : B p = none := by
        cases z : B p with
        | none => rfl
        | some o => exact absurd hp (ok.dom p (by rw [z]; exact fun z => nomatch z))
      refine ⟨p, xs, y, rfl, rfl, keep.trans hx, by rw [Pd.len px]; exact lim_lt hl, ?_⟩
      have ok3 := (w2.post.ok.updX (o := .lst (xs ++ [y])) (.inr rfl) hB).weakX
      have md : Md σ cs' (XP Z p) p := .inl (.inr rfl)
      have np : ∀ a, Z a → a ≠ p := fun a h z => pn.np (by rw [← z]; exact h)
      refine q _ _ (.dat ⟨ok3, ?_, fun a h => ?_, fun a h => ?_⟩ .non)
      · have l1 := (pn.le.trans w2.post.le)
        rw [← cut_updX (o := .lst (xs ++ [y])) md] at l1
        exact l1.trans le_xp
      · rw [upd_ne (np a h)]
        exact (w2.post.keep a (.inl h)).trans (pn.keep a h)
      · by_cases ea : a = p
        · rw [ea, upd_same]; exact fun z => nomatch z
        · rw [upd_ne ea]; exact w2.post.dom a (pn.dom a h)
    · cases e
  · cases e
theorem de_appT {o e : Expr} {to te : TE} {fo fe : EX} {apos pos : Pos} (ho : DE X o to fo) (he : DE X e te fe)
    (hbase : attributeBase o "append" X.env (eval o X.env) = eval o X.env := by rfl)
    (hfew : ((backTo pos (starEach [e] X.env)).all (fun x => !x.1) && (backToKw pos (keywordEach [] X.env)).all (fun x => x.1.isSome)
      && decide ([e].length + ([] : List Keyword).length + (if ([] : List Keyword).isEmpty then 0 else 1) < 30)) = true := by rfl)
    (hline : (apos.endLine == pos.line) = true := by rfl) (hs : starEach [e] X.env = (false, eval e X.env) :: starEach [] X.env := by rfl) (hplain : (backTo pos (starEach [] X.env)).any (·.1) = false := by rfl) :
    DE X (.Call (.Attribute o "append" apos) [e] [] pos) (tBM X.K "list" rAppend to (tCons te tNil)) (evAppT fo fe) :=
  ⟨pe_bm PySem.F.plainAttrs_list PySem.F.slot_list_append PySem.F.type_list_append mt_append ho.pe (pa_cons he.pe pa_nil hs) hbase hfew hline hs hplain, se_appT ho.se he.se⟩
end
end Qp
end
section
set_option Elab.async false
set_option linter.all false
set_option maxRecDepth 100000
set_option maxHeartbeats 4000000
/-! Ri: [.. for k in d ..]. -/
namespace Qp
open PySem PySem.Spec PyProof.Rows L2
def JOkB (K : PySem.W.Frag) (B : Hp) (IO : List (Nat × Addr)) (J : It) (F : Hp) (items : List D) : Prop := ∀ {X : Addr → Prop} {σ : St} {cs : En} (H : Hp), Ok K B IO X σ H cs → Le F (cut H (Md σ cs X)) → ∀ i : Nat, (items.length = i → J.stop i H) ∧ ∀ d, items[i]? = some d → J.go i H ∧ ∀ x H', J.yld i H x H' → Ex H H' ∧ Rp K (cut H' (Md σ cs X)) x d
section
variable {X : Cx} {K : PySem.W.Frag} {wi : TI} {fi : IX} {g : TG} {tgs vs : List Nat} {fg : GX} {tt : TT} {ft : TX} {te : TE} {fe : EX}
theorem lc_at {B : Hp} {IO : List (Nat × Addr)} {Z : Addr → Prop} {σ : St} {H : Hp} {cs c1 : En} {items : List D} (ok : Ok K B IO Z σ H cs) (hi : ∀ R : It → Hp → Prop, (∀ J H', Post K B IO Z σ H cs σ H' c1 → JOkB K B IO J (cut H' (Md σ c1 Z)) items → R J H') → wi σ H R) (hn : noOwn c1 vs = true)
    (hg : SG K g tgs fg) (ht : STt K tt ft) (he : SE K te fe) (hv : ∀ j ∈ tgs, j ∈ vs) {ds : List D} {c2 : En} (e2 : loopC fg ft fe vs items [] (clr c1 vs) = some (ds, c2)) (Q : VK) (q : ∀ v H', Pe K B IO Z σ H cs σ H' (rst c2 c1 vs) true v (.list ds) → Q v H') : tLc wi g tt te vs σ H Q := by
  refine hi _ fun J H1 p1 jok Dl hD => ?_
  have hB : B Dl = none := by
    cases z : B Dl with
    | none => rfl
    | some o => exact absurd hD (p1.ok.dom Dl (by rw [z]; exact fun z => nomatch z))
  have np : ¬ Z Dl := fun z => p1.ok.xin Dl z hD
  obtain ⟨ok1, le1⟩ := (p1.ok.wipe hn).newX (o := .lst []) hD
  rw [md_wipe hn] at le1
  have dom1 : ∀ a, H1 a ≠ none → upd H1 Dl (.lst []) a ≠ none := fun a h => (Ex.new hD).dom h
  refine ⟨fun i m H' => m = items.length - i ∧ i ≤ items.length ∧ ∃ (c : En) (acc : List D) (vals : List V), Ok K B IO (XP Z Dl) (L2.wipe σ vs) H' c ∧ Le (cut H1 (Md σ c1 Z)) (cut H' (Md (L2.wipe σ vs) c (XP Z Dl))) ∧ (∀ a, Z a → H' a = H1 a) ∧ (∀ a, H1 a ≠ none → H' a ≠ none) ∧
    H' Dl = some (.lst vals) ∧ Paired (Rp K (cut H' (Md (L2.wipe σ vs) c (XP Z Dl)))) vals acc ∧ loopC fg ft fe vs (items.drop i) acc c = some (ds, c2),
    ⟨_, rfl, Nat.zero_le _, clr c1 vs, [], [], ok1, le1, fun a h => upd_ne (fun z => np (by rw [← z]; exact h)), dom1, upd_same, .nil, by rw [List.drop_zero]; exact e2⟩, ?_⟩
  rintro i m H' ⟨rfl, hil, c, acc, vals, ok', le', keep', dom', hD', pa, el⟩
  obtain ⟨js, jg⟩ := jok H' ok' le' i
  by_cases hlt : i < items.length
  · have hd : items[i]? = some items[i] := List.getElem?_eq_getElem hlt
    obtain ⟨go, yl⟩ := jg _ hd
    rw [List.drop_eq_getElem_cons hlt] at el
    unfold loopC at el
    obtain ⟨c3, e3, el⟩ := Option.bind_eq_some_iff.mp el
    obtain ⟨⟨b, c4⟩, e4, el⟩ := Option.bind_eq_some_iff.mp el
    dsimp only at el
    refine .inr ⟨go, fun H' => ∃ (c : En) (acc : List D) (vals : List V), Ok K B IO (XP Z Dl) (L2.wipe σ vs) H' c ∧ Le (cut H1 (Md σ c1 Z)) (cut H' (Md (L2.wipe σ vs) c (XP Z Dl))) ∧ (∀ a, Z a → H' a = H1 a) ∧ (∀ a, H1 a ≠ none → H' a ≠ none) ∧
      H' Dl = some (.lst vals) ∧ Paired (Rp K (cut H' (Md (L2.wipe σ vs) c (XP Z Dl)))) vals acc ∧ loopC fg ft fe vs (items.drop (i + 1)) acc c = some (ds, c2), fun H3 ⟨c, acc, vals, h⟩ => ⟨items.length - (i + 1), by omega, rfl, hlt, c, acc, vals, h⟩, fun x H2 hy => ?_⟩
    obtain ⟨ex, rx⟩ := yl x H2 hy
    have p2 := ok'.ext ex
    refine hg p2.ok rx e3 _ fun σ3 H3 p3 ag => ⟨wipe_agr ag hv, ?_⟩
    have hw := wipe_agr ag hv
    refine ht p3.ok e4 _ fun H4 p4 => ?_
    have p234 := (p2.trans p3).trans p4
    have hz : ∀ a, Z a → XP Z Dl a := fun a h => .inl h
    cases b with
    | false =>
      refine iteF ?_
      simp only [Bool.false_eq_true, if_false] at el
      split at el
      · rename_i hn4
        have ok5 := p4.ok.wipe hn4
        rw [hw] at ok5
        have em : Md (L2.wipe σ vs) (clr c4 vs) (XP Z Dl) = Md σ3 c4 (XP Z Dl) := by rw [← hw]; exact md_wipe hn4
        exact ⟨clr c4 vs, acc, vals, ok5, by rw [em]; exact le'.trans p234.le, fun a h => (p234.keep a (hz a h)).trans (keep' a h), fun a h => p234.dom a (dom' a h), (p234.keep Dl (.inr rfl)).trans hD', by rw [em]; exact Rp.monoA p234.le pa, el⟩
      · cases el
    | true =>
      refine iteT ?_
      simp only [if_true] at el
      obtain ⟨⟨z, fz, c5⟩, e5, el⟩ := Option.bind_eq_some_iff.mp el
      dsimp only at el
      split at el
      · rename_i hn5
        rw [Bool.and_eq_true, decide_eq_true_eq] at hn5
        refine he p4.ok e5 _ fun y H5 w => ?_
        have p5 := p234.trans w.post
        have ok5 := w.post.ok.wipe hn5.1
        rw [hw] at ok5
        have em : Md (L2.wipe σ vs) (clr c5 vs) (XP Z Dl) = Md σ3 c5 (XP Z Dl) := by rw [← hw]; exact md_wipe hn5.1
        have md : Md (L2.wipe σ vs) (clr c5 vs) (XP Z Dl) Dl := .inl (.inr rfl)
        refine ⟨vals, (p5.keep Dl (.inr rfl)).trans hD', by rw [Pd.len pa]; exact lim_lt hn5.2, clr c5 vs, acc ++ [z], vals ++ [y], ok5.updX (.inr rfl) hB, ?_, fun a h => ?_, fun a h => ?_, upd_same, ?_, el⟩
        · rw [cut_updX md, em]
          exact le'.trans p5.le
        · rw [upd_ne (fun z => np (by rw [← z]; exact h))]
          exact (p5.keep a (hz a h)).trans (keep' a h)
        · by_cases ea : a = Dl
          · rw [ea, upd_same]; exact fun z => nomatch z
          · rw [upd_ne ea]; exact p5.dom a (dom' a h)
        · rw [cut_updX md, em]
          exact Pd.append (Rp.monoA p5.le pa) (.cons w.rp .nil)
      · cases el
  · have hi' : i = items.length := by omega
    subst hi'
    rw [List.drop_length] at el
    cases el
    refine .inl ⟨js (rfl), q _ H' ?_⟩
    have dat1 : ∀ (j : Nat) d, c1[j]? = some (.dat d) → ∃ v, σ[j]? = some (some v) ∧ Rp K (cut H' (Md (L2.wipe σ vs) c2 (XP Z Dl))) v d := fun j d hj => by
      obtain ⟨v, h1, h2⟩ := p1.ok.dat j d hj
      exact ⟨v, h1, h2.mono le'⟩
    refine ⟨Dl, rfl, ?_, ⟨ok'.restore hn dat1, by rw [md_rst hn]; exact p1.le.trans le', fun a h => (keep' a h).trans (p1.keep a h), fun a h => dom' a (p1.dom a h), np⟩, by rw [md_rst hn, hD']; exact .lst pa⟩
    cases z : H Dl with
    | none => rfl
    | some o => exact absurd hD (p1.dom Dl (by rw [z]; exact fun z => nomatch z))
def evLcK (i : Nat) (vs : List Nat) (fg : GX) (ft : TX) (fe : EX) : EX := fun cs => (evVar i cs).bind fun r => match r.1 with
  | .dict es => if noOwn r.2.2 vs = true then (loopC fg ft fe vs (es.map (·.1)) [] (clr r.2.2 vs)).bind fun z => some (.list z.1, true, rst z.2 r.2.2 vs) else none
  | _ => none
theorem jokK {B : Hp} {IO : List (Nat × Addr)} {a : Addr} {o : Obj} {kvs : List (Key × V)} {es : List (D × D)} {F : Hp} (hB : B a = some (.frz o (.dK kvs))) (hIO : ∀ i, (i, a) ∉ IO) (he : es.map (·.1) = kvs.map (fun p => kD p.1)) : JOkB K B IO (Itk a o kvs) F (es.map (·.1)) := by
  intro X σ cs H ok _ j
  have hx := ok.base a _ hIO hB
  have hlen : (es.map (·.1)).length = kvs.length := by rw [he, List.length_map]
  refine ⟨fun h => ⟨hx, by omega⟩, fun d hd => ?_⟩
  have hj := (List.getElem?_eq_some_iff.mp hd).1
  refine ⟨⟨hx, by omega⟩, fun x H' hy => ?_⟩
  obtain ⟨rfl, k, v, hkv, rfl⟩ := hy
  have : d = kD k := by
    rw [he, List.getElem?_map, hkv] at hd
    exact (Option.some.inj hd).symm
  rw [this]
  exact ⟨Ex.refl _, rp_kD k⟩
def tLcK (i : Nat) (g : TG) (tt : TT) (te : TE) (vs : List Nat) : TE := fun σ H Q => tLc (iKeys (tVar i)) g tt te vs σ H Q ∨ tLockE (tLc (iKeys (tVar i)) g tt te vs) σ H Q
theorem se_lcK {i : Nat} (hg : SG K g tgs fg) (ht : STt K tt ft) (he : SE K te fe) (hv : ∀ j ∈ tgs, j ∈ vs) : SE K (tLcK i g tt te vs) (evLcK i vs fg ft fe) := by
  intro B IO Z σ H cs ok d fr cs' e Q q
  unfold evLcK at e
  obtain ⟨⟨d1, f1, c1⟩, e1, e⟩ := Option.bind_eq_some_iff.mp e
  dsimp only at e
  split at e
  · rename_i es
    split at e
    · rename_i hn
      obtain ⟨⟨ds, c2⟩, e2, e⟩ := Option.bind_eq_some_iff.mp e
      cases e
      have hvv : ∃ v, σ[i]? = some (some v) ∧ Post K B IO Z σ H cs σ H c1 ∧ Rp K (cut H (Md σ c1 Z)) v (.dict es) := by
        unfold evVar at e1
        split at e1
        · rename_i d' h
          cases e1
          obtain ⟨v, h1, h2⟩ := ok.dat i _ h
          exact ⟨v, h1, Post.refl ok, h2⟩
        · rename_i d' h
          cases e1
          exact ok.freeze h
        · cases e1
      obtain ⟨v, hs, p, rp⟩ := hvv
      obtain ⟨a, kvs, rfl, hr, hes⟩ : ∃ a kvs, v = .ref a ∧ Rd (cut H (Md σ c1 Z)) a (.dK kvs) ∧ es.map (·.1) = kvs.map (fun p => kD p.1) := by
        cases rp with
        | dic hr he _ => exact ⟨_, _, rfl, hr, he⟩
      have nm : ¬ Md σ c1 Z a := by
        rcases hr with h | ⟨o, h⟩ <;> exact (cut_some h).2
      have hIO : ∀ i, (i, a) ∉ IO := fun j hj => by
        obtain ⟨d, h1, h2⟩ := p.ok.ios j a hj
        exact nm (.inr ⟨j, h2, d, .inr h1⟩)
      rcases hr with h | ⟨o, h⟩
      · have hu := (cut_some h).1
        refine .inr ⟨a, _, hu, trivial, fun od => ?_⟩
        obtain ⟨o1, _⟩ := ok_in (w := .frz od (.dK kvs)) p.ok hu nm (rd_frz nf_dK)
        refine lc_at (items := es.map (·.1)) o1 (fun R hR => ⟨.ref a, hs, a, od, rfl, .inl ⟨kvs, upd_same, hR _ _ (Post.refl o1) (jokK upd_same hIO hes)⟩⟩) hn hg ht he hv e2 _ fun v H' pe => ?_
        obtain ⟨g1, g2⟩ := pe_out p.ok hu nm hIO frz_nl frz_nd (rd_frz nf_dK) rd_unf pe
        exact ⟨g1, q v _ (Pe.pre p g2)⟩
      · have hu := (cut_some h).1
        refine .inl ?_
        have hsame : upd H a (.frz o (.dK kvs)) = H := funext fun b => by
          by_cases c : b = a
          · rw [c, upd_same, hu]
          · rw [upd_ne c]
        obtain ⟨o1, _⟩ := ok_in (w := .frz o (.dK kvs)) p.ok hu nm rd_same
        have core := lc_at (items := es.map (·.1)) o1 (wi := iKeys (tVar i)) (fun R hR => ⟨.ref a, hs, a, o, rfl, .inl ⟨kvs, upd_same, hR _ _ (Post.refl o1) (jokK upd_same hIO hes)⟩⟩) hn hg ht he hv e2 Q fun v H' pe => ?_
        · rw [hsame] at core; exact core
        · obtain ⟨g1, g2⟩ := pe_out p.ok hu nm hIO frz_nl frz_nd rd_same rd_same pe
          have same2 : upd H' a (.frz o (.dK kvs)) = H' := funext fun b => by
            by_cases c : b = a
            · rw [c, upd_same, g1]
            · rw [upd_ne c]
          rw [same2] at g2
          exact q v _ (Pe.pre p g2)
    · cases e
  · cases e
end
section
variable {X : Cx} {tg elt : Expr} {ifs : List Expr} {scope : Scope} {own : List (Str × Nat)} {pos spos xpos : Pos} {tgs vs : List Nat} {fg : GX} {ft : TX} {fe : EX} {i : Nat} {x : Str}
theorem de_lcK (hc : X.calm = true) (hN : X.N.Nodup) (hx : DE X (.Name x xpos) (tVar i) (evVar i)) (ok : BlkOk X.N X.env.scope scope own)
    (hg : ∀ (s : Shared) (H : Hp) (C : Addr) (cl : List (Str × Addr)) (fp : List Addr), ∃ g, DG (X.blk s H scope (compEnvC scope cl C X.env) fp) tg g tgs fg) (ht : ∀ (s : Shared) (H : Hp) (C : Addr) (cl : List (Str × Addr)) (fp : List Addr), ∃ tt, DTs (X.blk s H scope (compEnvC scope cl C X.env) fp) ifs tt ft)
    (he : ∀ (s : Shared) (H : Hp) (C : Addr) (cl : List (Str × Addr)) (fp : List Addr), ∃ te, DE (X.blk s H scope (compEnvC scope cl C X.env) fp) elt te fe) (hvs : own.map (·.2) = vs := by rfl) (hv : ∀ j ∈ tgs, j ∈ vs := by decide) (hs : ∀ y, foldedSetIterable (.Name x xpos) X.env y = pure y := by intro _; rfl) :
    DE X (.ListComp elt [⟨tg, .Name x xpos, ifs, 0⟩] scope pos) (tLcK i (tgOf X.K tgs fg) (ttOf X.K ft) (teOf X.K fe) (own.map (·.2))) (evLcK i vs fg ft fe) := by
  subst hvs
  have pe := pe_lc (pos := pos) (g := tgOf X.K tgs fg) (tt := ttOf X.K ft) (te := teOf X.K fe) hc hN (pi_keys hx.pe) ok (fun s H C cl fp => (hg s H C cl fp).elim fun _ q => q.can) (fun s H C cl fp => (ht s H C cl fp).elim fun _ q => q.can) (fun s H C cl fp => (he s H C cl fp).elim fun _ q => q.can) hs
  refine ⟨⟨fun pins s σ H Q I h => ?_⟩, se_lcK sg_can st_can se_can hv⟩
  rcases h with h | h
  · exact pe.run pins s σ H Q I h
  · exact (pe_lock pe).run pins s σ H Q I h
theorem ds_lcK {j : Nat} {y : Str} {py : Pos} (hc : X.calm = true) (hN : X.N.Nodup) (hy : X.N[j]? = some y) (hyl : X.env.scope.names.lookup y = some .local) (hsw : swapsWith (.ListComp elt [⟨tg, .Name x xpos, ifs, 0⟩] scope pos) (some (.Name y py)) spos.line X.env = pure true)
    (hx : DE X (.Name x xpos) (tVar i) (evVar i)) (ok : BlkOk X.N X.env.scope scope own)
    (hg : ∀ (s : Shared) (H : Hp) (C : Addr) (cl : List (Str × Addr)) (fp : List Addr), ∃ g, DG (X.blk s H scope (compEnvC scope cl C X.env) fp) tg g tgs fg) (ht : ∀ (s : Shared) (H : Hp) (C : Addr) (cl : List (Str × Addr)) (fp : List Addr), ∃ tt, DTs (X.blk s H scope (compEnvC scope cl C X.env) fp) ifs tt ft)
    (he : ∀ (s : Shared) (H : Hp) (C : Addr) (cl : List (Str × Addr)) (fp : List Addr), ∃ te, DE (X.blk s H scope (compEnvC scope cl C X.env) fp) elt te fe) (hvs : own.map (·.2) = vs := by rfl) (hv : ∀ k ∈ tgs, k ∈ vs := by decide) (hs : ∀ y, foldedSetIterable (.Name x xpos) X.env y = pure y := by intro _; rfl) :
    DS X (.Assign [.Name y py] (.ListComp elt [⟨tg, .Name x xpos, ifs, 0⟩] scope pos) spos) (tAsg (tLcK i (tgOf X.K tgs fg) (ttOf X.K ft) (teOf X.K fe) (own.map (·.2))) (gName j)) (sAsg j (evLcK i vs fg ft fe)) := by
  subst hvs
  have ps := ps_setLc (pos := pos) (spos := spos) (g := tgOf X.K tgs fg) (tt := ttOf X.K ft) (te := teOf X.K fe) hc hN hy hyl hsw (pi_keys hx.pe) ok (fun s H C cl fp => (hg s H C cl fp).elim fun _ q => q.can) (fun s H C cl fp => (ht s H C cl fp).elim fun _ q => q.can) (fun s H C cl fp => (he s H C cl fp).elim fun _ q => q.can) hs
  refine ⟨⟨fun pins s σ H Dn I h => ?_⟩, ss_asg (se_lcK sg_can st_can se_can hv)⟩
  rcases h with h | h
  · exact ps.run pins s σ H Dn I h
  · exact (ps_lock ps).run pins s σ H Dn I h
end
end Qp
end
section
set_option Elab.async false
set_option linter.all false
set_option maxRecDepth 100000
set_option maxHeartbeats 4000000
/-! Rj: a tuple repeated, any count. -/
namespace L2
open PySem PySem.Spec PyProof.Rows
theorem tuple_mul0 (l : Addr) (items : Array Value) (n : Nat) (dd : Option Addr) (sl : Array (Option Value)) (x : Int) (u : Tok) (c0 : (decide (x < -(2 ^ 63)) || decide (x ≥ 2 ^ 63)) = false) (c1 : (items.isEmpty || x == 1) = false) (c2 : (decide (x ≤ 0) || items.isEmpty) = true) :
    Meets (Builtin.«tuple.__mul__» ⟨[.ref l, .int x u], []⟩) (fun _ R s => s.heap.get? l = some { cls := .type "tuple", dict := dd, data := .seq items n, slots := sl } ∧
      R (.ok (.ret (Value.ref s.heap.objs.size))) { s with heap := s.heap.push { cls := Value.type "tuple", data := Data.seq #[] }, toks := s.toks }) :=
  .of_wp fun prog w A R s h => by
    obtain ⟨hp, g, d, tk, os⟩ := s
    obtain ⟨hl, h⟩ := h
    have f1 := AutoSeq1.idx_int
    wp_walk using wpAny_loadPart' hl
    repeat (first
      | (refine wpAny_ite_false (decide_eq_false (by rw [c0]; exact Bool.false_ne_true)) ?_; wp_walk using wpAny_loadPart' hl)
      | (refine wpAny_ite_false (decide_eq_false (by rw [c1]; exact Bool.false_ne_true)) ?_; wp_walk using wpAny_loadPart' hl)
      | (refine wpAny_ite_true (decide_eq_true c2) ?_; wp_walk using wpAny_loadPart' hl))
    exact ⟨_, rfl, h⟩
theorem tuple_mul1 (l : Addr) (items : Array Value) (n : Nat) (dd : Option Addr) (sl : Array (Option Value)) (x : Int) (u : Tok) (c0 : (decide (x < -(2 ^ 63)) || decide (x ≥ 2 ^ 63)) = false) (c1 : (items.isEmpty || x == 1) = true) :
    Meets (Builtin.«tuple.__mul__» ⟨[.ref l, .int x u], []⟩) (fun _ R s => s.heap.get? l = some { cls := .type "tuple", dict := dd, data := .seq items n, slots := sl } ∧
      R (.ok (.ret (Value.ref l))) s) :=
  .of_wp fun prog w A R s h => by
    obtain ⟨hp, g, d, tk, os⟩ := s
    obtain ⟨hl, h⟩ := h
    have f1 := AutoSeq1.idx_int
    wp_walk using wpAny_loadPart' hl
    repeat (first
      | (refine wpAny_ite_false (decide_eq_false (by rw [c0]; exact Bool.false_ne_true)) ?_; wp_walk using wpAny_loadPart' hl)
      | (refine wpAny_ite_true (decide_eq_true c1) ?_; wp_walk using wpAny_loadPart' hl))
    exact ⟨_, rfl, h⟩
def rRepTA (K : PySem.W.Frag) : R2 := fun x y H Q => ∃ l k xs, x = .ref l ∧ y = .int k ∧ SqT K H l xs ∧ xs ≠ [] ∧ (-1000 ≤ k ∧ k ≤ 1000) ∧ xs.length ≤ 1000 ∧ (∀ p, H p = none → Q (.ref p) (upd H p (.tup (List.replicate k.toNat xs).flatten))) ∧ (k = 1 → Q (.ref l) H)
section
variable {X : Cx}
theorem op_repTA : OpR X (binaryOp .Mult) (rRepTA X.K) := by
  intro pins s σ H x y v u Q I rx ry h
  obtain ⟨l, k, xs, rfl, rfl, hT, hne, h1, hz, q, q1⟩ := h
  by_cases h2 : 2 ≤ k
  · exact op_repT pins s σ H _ _ v u Q I rx ry ⟨l, k, xs, rfl, rfl, hT, hne, h2, h1.2, hz, q⟩
  cases rx
  obtain ⟨t, rfl⟩ := ry
  obtain ⟨its, r, ⟨⟨cls, dd, data, sl⟩, ho, hc, n, hd⟩, hs⟩ := I.tuple hT
  simp only at hc hd
  subst hc hd
  have hle : its.length = xs.length := r.length.symm
  have hn : its ≠ [] := fun e => hne (by
    rw [e] at hle
    exact List.eq_nil_of_length_eq_zero hle.symm)
  have hi : its.toArray.isEmpty = false := by
    cases its with
    | nil => exact absurd rfl hn
    | cons a b => rfl
  have c0 : (decide (k < -(2 ^ 63)) || decide (k ≥ 2 ^ 63)) = false := by
    rw [decide_eq_false (by omega), decide_eq_false (by omega)] <;> rfl
  by_cases h3 : k = 1
  · have c1 : (its.toArray.isEmpty || k == 1) = true := by
      rw [hi, Bool.false_or]
      exact beq_iff_eq.mpr h3
    refine wpAny_binaryOp_repeat_ref (T := "tuple") (U := "int") (by decide) ⟨_, ho, rfl⟩ (fun s' => typeIs_int s' k t) noFill_tuple_mul F.fills_int_mul F.slot_int_rmul repeat_tuple F.slot_int_index.lookup
      (call_meets F.slot_int_rmul (typeIs_int s k t) F.entry_int_rmul (F.args_int_rmul_2 _ _) (int_rmul_tuple k t l its.toArray n dd sl)
        ⟨ho, rfl, ⟨_, ho, rfl⟩, call_meets F.slot_tuple_mul ⟨_, ho, rfl⟩ F.entry_tuple_mul (F.args_tuple_mul_2 _ _) (tuple_mul1 l its.toArray n dd sl k t c0 c1) ⟨ho, ?_⟩⟩)
    exact ⟨.ref l, H, I, rfl, q1 h3⟩
  · have c1 : (its.toArray.isEmpty || k == 1) = false := by
      rw [hi, Bool.false_or]
      exact beq_eq_false_iff_ne.mpr h3
    have c2 : (decide (k ≤ 0) || its.toArray.isEmpty) = true := by
      rw [decide_eq_true (by omega), Bool.true_or]
    refine wpAny_binaryOp_repeat_ref (T := "tuple") (U := "int") (by decide) ⟨_, ho, rfl⟩ (fun s' => typeIs_int s' k t) noFill_tuple_mul F.fills_int_mul F.slot_int_rmul repeat_tuple F.slot_int_index.lookup
      (call_meets F.slot_int_rmul (typeIs_int s k t) F.entry_int_rmul (F.args_int_rmul_2 _ _) (int_rmul_tuple k t l its.toArray n dd sl)
        ⟨ho, rfl, ⟨_, ho, rfl⟩, call_meets F.slot_tuple_mul ⟨_, ho, rfl⟩ F.entry_tuple_mul (F.args_tuple_mul_2 _ _) (tuple_mul0 l its.toArray n dd sl k t c0 c1 c2) ⟨ho, ?_⟩⟩)
    have e0 : (List.replicate k.toNat xs).flatten = [] := by
      have : k.toNat = 0 := by omega
      rw [this]
      rfl
    rw [e0] at q
    refine ⟨.ref s.heap.objs.size, _, I.laid (t' := s.toks) (o := .tup []) (fun b ob q => Heap.get?_push_of_some _ q) (Nat.le_refl _) ?_, rfl, q _ (I.hok.fresh (Nat.le_refl _))⟩
    exact ⟨Nat.zero_le _, _, .nil, IsTup.new _ _⟩
end
end L2
namespace Qp
open PySem PySem.Spec PyProof.Rows L2
section
variable {K : PySem.W.Frag}
def gRepTA : G2
  | .tuple ds, .int k => if ds.isEmpty = false ∧ (-1000 ≤ k ∧ k ≤ 1000) ∧ ds.length ≤ 1000 then some (.tuple (List.replicate k.toNat ds).flatten, false) else none
  | _, _ => none
theorem sr_repTA : SR2 K (rRepTA K) gRepTA := by
  intro H M hm x y d e rx ry z fr q Q k
  unfold gRepTA at q
  split at q
  · split at q
    · rename_i ds n hc
      cases q
      have rx0 := rx
      obtain ⟨a, xs, rfl, h1, p1⟩ := rx.tuple
      refine ⟨a, _, xs, rfl, ry.int_eq, cut_le.sqT h1, fun z => ?_, hc.2.1, by rw [Pd.len p1]; exact hc.2.2, fun p hp => ?_, fun h => ?_⟩
      · subst z
        cases p1
        exact absurd hc.1 (by decide)
      · have hr : Paired (Rp K (cut H M)) (List.replicate n.toNat xs).flatten (List.replicate n.toNat ds).flatten := Pd.rep p1 _
        have nm : ¬ M p := fun z => hm p z hp
        have hle : Le (cut H M) (cut (upd H p (.tup (List.replicate n.toNat xs).flatten)) M) := le_cut fun b u e m => ⟨Ex.new hp b u e, m⟩
        refine k _ _ (Ex.new hp) (VOk.of (.tup (.inl (.inl ?_)) (Rp.monoA hle hr)))
        rw [cut_of nm, upd_same]
      · subst h
        refine k _ H (Ex.refl H) (VOk.of ?_)
        have : (List.replicate (1 : Int).toNat ds).flatten = ds := by simp
        rw [this]
        exact rx0
    · cases q
  · cases q
theorem gRepTA_of {ds : List D} {k : Int} (h0 : ds.isEmpty = false) (h : -1000 ≤ k ∧ k ≤ 1000) (h2 : ds.length ≤ 1000) : gRepTA (.tuple ds) (.int k) = some (.tuple (List.replicate k.toNat ds).flatten, false) := by
  show (if ds.isEmpty = false ∧ (-1000 ≤ k ∧ k ≤ 1000) ∧ ds.length ≤ 1000 then _ else _) = _
  rw [if_pos ⟨h0, h, h2⟩]
end
end Qp
end
section
set_option Elab.async false
set_option linter.all false
set_option maxRecDepth 100000
set_option maxHeartbeats 2000000
/-! Rk: how the codes of Re .. Rj are reckoned. -/
namespace Qp
open PySem PySem.Spec PyProof.Rows L2
section
variable {d x y z : D} {fr f1 b : Bool} {c cs c1 : En} {i n m : Nat} {f fa fb fc fe fi fk fx fo : EX} {g g' : G2} {u : G1} {G : GA} {fs : AX} {t s : TX} {xs ds zs : List D} {gt gt1 : GX} {es : List (D × D)} {k : Key} {vs : List Nat} {w v : Str} {j : Int}
@[simp] theorem gKeys_d : gKeys (.dict es) = some (.list (es.map (·.1)), true) := rfl
@[simp] theorem gCopyD_d : gCopyD (.dict es) = some (.dict es, true) := rfl
@[simp] theorem gUpper_s : gUpper (.str w) = some (.bool (Txt.isupper w), false) := rfl
@[simp] theorem gInS_s {neg : Bool} : gInS neg (.str w) (.str v) = some (.bool (inS w v != neg), false) := rfl
/-! d.get(k, x) -/
def kGt4 (x : D) (c : En) (es : List (D × D)) (o : Option Key) : OE := o.bind fun k => some ((valD es k).getD x, false, c)
def kGt3 (kd x : D) (c : En) (o : Option D) : OE := match o with
  | some (.dict es) => kGt4 x c es (keyD kd)
  | _ => none
def kGt2 (i : Nat) (kd : D) (o : OE) : OE := o.bind fun r => kGt3 kd r.1 r.2.2 (cont r.2.2 i)
def kGt1 (i : Nat) (fx : EX) (o : OE) : OE := o.bind fun s => kGt2 i s.1 (fx s.2.2)
def kGt0 (i : Nat) (fk fx : EX) (cs : En) (o : Option D) : OE := match o with
  | some (.dict _) => kGt1 i fx (fk cs)
  | _ => none
@[simp] theorem evGet2_ap : evGet2 i fk fx cs = kGt0 i fk fx cs (cont cs i) := by
  unfold evGet2 kGt0
  cases h : cont cs i with
  | none => rfl
  | some d0 =>
    rw [Option.bind_some]
    cases d0 with
    | dict es0 =>
      unfold kGt1 kGt2
      cases fk cs with
      | none => rfl
      | some s =>
        rw [Option.bind_some, Option.bind_some]
        cases fx s.2.2 with
        | none => rfl
        | some r =>
          rw [Option.bind_some, Option.bind_some]
          cases cont r.2.2 i with
          | none => rfl
          | some d => cases d <;> rfl
    | _ =>
      dsimp only
      cases fk cs with
      | none => rfl
      | some s =>
        rw [Option.bind_some]
        cases fx s.2.2 with
        | none => rfl
        | some r =>
          rw [Option.bind_some]
          cases cont r.2.2 i <;> rfl
@[simp] theorem kGt0_d : kGt0 i fk fx cs (some (.dict es)) = kGt1 i fx (fk cs) := rfl
@[simp] theorem kGt1_s : kGt1 i fx (some (x, f1, c)) = kGt2 i x (fx c) := rfl
@[simp] theorem kGt2_s : kGt2 i x (some (y, f1, c)) = kGt3 x y c (cont c i) := rfl
@[simp] theorem kGt3_d : kGt3 x y c (some (.dict es)) = kGt4 y c es (keyD x) := rfl
@[simp] theorem kGt4_s : kGt4 x c es (some k) = some ((valD es k).getD x, false, c) := rfl
/-! f(..).append(e) -/
def kAt2 (ds : List D) (o : OE) : OE := o.bind fun s => if ds.length < LIM then some (.none, false, s.2.2) else none
def kAt1 (fe : EX) (o : OE) : OE := o.bind fun r => match r.1, r.2.1 with
  | .list ds, true => kAt2 ds (fe r.2.2)
  | _, _ => none
@[simp] theorem evAppT_ap : evAppT fo fe cs = kAt1 fe (fo cs) := rfl
@[simp] theorem kAt1_s : kAt1 fe (some (.list ds, true, c)) = kAt2 ds (fe c) := rfl
theorem kAt2_s (h : ds.length < LIM) : kAt2 ds (some (x, f1, c)) = some (.none, false, c) := by
  show (if ds.length < LIM then _ else _) = _
  rw [if_pos h]
/-! a list repeated -/
def kRl3 (c : En) (o : Option (List D)) : OE := o.bind fun z => some (.list z, true, c)
def kRl2 (ds : List D) (o : OE) : OE := o.bind fun s => match s.1 with
  | .int k => kRl3 s.2.2 (gRepL ds k)
  | _ => none
def kRl1 (fb : EX) (o : OE) : OE := o.bind fun r => match r.1, r.2.1 with
  | .list ds, true => kRl2 ds (fb r.2.2)
  | _, _ => none
@[simp] theorem evRepL_ap : evRepL fa fb cs = kRl1 fb (fa cs) := rfl
@[simp] theorem kRl1_s : kRl1 fb (some (.list ds, true, c)) = kRl2 ds (fb c) := rfl
@[simp] theorem kRl2_s : kRl2 ds (some (.int j, f1, c)) = kRl3 c (gRepL ds j) := rfl
@[simp] theorem kRl3_s : kRl3 c (some zs) = some (.list zs, true, c) := rfl
theorem gRepL_of (h : j ≤ 1000 ∧ -1000 ≤ j) (h2 : ds.length ≤ 1000) : gRepL ds j = some (List.replicate j.toNat ds).flatten := by
  unfold gRepL
  rw [if_pos ⟨h, h2⟩]
/-! comprehensions over a dict -/
def kLcK2 (vs : List Nat) (c : En) (o : Option (List D × En)) : OE := o.bind fun z => some (.list z.1, true, rst z.2 c vs)
def kLcK1 (gt : GX) (t : TX) (fe : EX) (vs : List Nat) (o : OE) : OE := o.bind fun r => match r.1 with
  | .dict es => if noOwn r.2.2 vs = true then kLcK2 vs r.2.2 (loopC gt t fe vs (es.map (·.1)) [] (clr r.2.2 vs)) else none
  | _ => none
@[simp] theorem evLcK_ap : evLcK i vs gt t fe cs = kLcK1 gt t fe vs (evVar i cs) := rfl
theorem kLcK1_s (h : noOwn c vs = true) : kLcK1 gt t fe vs (some (.dict es, f1, c)) = kLcK2 vs c (loopC gt t fe vs (es.map (·.1)) [] (clr c vs)) := by
  show (if noOwn c vs = true then _ else _) = _
  rw [if_pos h]
@[simp] theorem kLcK2_s : kLcK2 vs c (some (xs, c1)) = some (.list xs, true, rst c1 c vs) := rfl
/-! dict comprehensions -/
def kDc2 (vs : List Nat) (c : En) (o : Option (List (D × D) × En)) : OE := o.bind fun z => some (.dict z.1, true, rst z.2 c vs)
def kDc1 (gt : GX) (t : TX) (fk fe : EX) (vs : List Nat) (o : Option (List D × En)) : OE := o.bind fun r => if noOwn r.2 vs = true then kDc2 vs r.2 (loopDc gt t fk fe vs r.1 [] (clr r.2 vs)) else none
@[simp] theorem evDc_ap {fx : IX} : evDc vs fx gt t fk fe cs = kDc1 gt t fk fe vs (fx cs) := rfl
theorem kDc1_s (h : noOwn c vs = true) : kDc1 gt t fk fe vs (some (xs, c)) = kDc2 vs c (loopDc gt t fk fe vs xs [] (clr c vs)) := by
  show (if noOwn c vs = true then _ else _) = _
  rw [if_pos h]
@[simp] theorem kDc2_s : kDc2 vs c (some (es, c1)) = some (.dict es, true, rst c1 c vs) := rfl
theorem putD_len {es : List (D × D)} {k : Key} {d : D} : (putD es k d).length ≤ es.length + 1 := by
  unfold putD
  split
  · rw [List.length_map]; omega
  · rw [List.length_append]; simp
theorem loopDc_enc {α : Type} {enc val : α → D} {ky : α → Key} {fv : EX} : ∀ (xs : List α), (∀ x ∈ xs, ∃ c1 f1 f2 kd, gt (enc x) cs = some c1 ∧ fk c1 = some (kd, f1, c1) ∧ keyD kd = some (ky x) ∧ fv c1 = some (val x, f2, c1) ∧ noOwn c1 vs = true ∧ clr c1 vs = cs) →
    ∀ acc : List (D × D), acc.length + xs.length ≤ LIM → loopDc gt evYes fk fv vs (xs.map enc) acc cs = some (xs.foldl (fun a x => putD a (ky x) (val x)) acc, cs)
  | [], _, acc, _ => rfl
  | x :: r, hx, acc, hl => by
    rw [List.length_cons] at hl
    obtain ⟨c1, f1, f2, kd, h1, h2, h3, h4, h5, h6⟩ := hx x List.mem_cons_self
    rw [List.map_cons, List.foldl_cons]
    unfold loopDc
    rw [h1, Option.bind_some]
    show ((evYes c1).bind _) = _
    rw [show evYes c1 = some (true, c1) from rfl, Option.bind_some, if_pos rfl, h2, Option.bind_some, h4, Option.bind_some, h3, Option.bind_some]
    have hd : decide (acc.length < LIM) = true := decide_eq_true (by omega)
    rw [if_pos (by rw [h5, hd]; rfl), h6]
    have := @putD_len acc (ky x) (val x)
    exact loopDc_enc r (fun y hy => hx y (List.mem_cons_of_mem _ hy)) (putD acc (ky x) (val x)) (by omega)
end
end Qp
end
section
set_option Elab.async false
set_option linter.all false
set_option maxRecDepth 100000
set_option maxHeartbeats 4000000
/-! Rl: defs that end in `return x`: the object of x is new. -/
namespace Qp
open PySem PySem.Spec PyProof.Rows L2
/-- what a suite that ends in `return x` (slot i) must find -/
def DnV (K : PySem.W.Frag) (B : Hp) (IO : List (Nat × Addr)) (X : Addr → Prop) (σ : St) (H : Hp) (cs : En) (i : Nat) (r : Res) (Dn : Ends) : Prop := match r with
  | .nx c => ∀ σ' H', Post K B IO X σ H cs σ' H' c → ∀ v, σ'[i]? = some (some v) → Dn.rt v H'
  | r => DnOk K B IO X σ H cs r Dn
/-- .. and its own cell stands there -/
def endV (i : Nat) (r : Res) : Prop := ∀ c, r = .nx c → (∃ d, c[i]? = some (.own d)) ∨ ∃ d, c[i]? = some (.dat d)
structure DBR (X : Cx) (sts : List Stmt) (t : TS) (g : SX) (i : Nat) : Prop where
  pss : PSs X sts t
  ss : ∀ {B : Hp} {IO : List (Nat × Addr)} {Z : Addr → Prop} {σ : St} {H : Hp} {cs : En}, Ok X.K B IO Z σ H cs → ∀ {r : Res}, g cs = some r → ∀ Dn : Ends, DnV X.K B IO Z σ H cs i r Dn → endV i r → t Dn σ H
section
variable {X : Cx} {st : Stmt} {rest : List Stmt} {t u : TS} {g h : SX} {i : Nat} {pos xpos : Pos} {x : Str}
theorem dbr_ret (hx : DE X (.Name x xpos) (tVar i) (evVar i)) : DBR X [.Return (some (.Name x xpos)) pos] (tRet (tVar i)) sNx i := by
  refine ⟨pss_one (ps_ret hx.pe), ?_⟩
  intro B IO Z σ H cs ok r e Dn q hv
  cases e
  have hs : ∃ v, σ[i]? = some (some v) := by
    rcases hv cs rfl with ⟨d, hd⟩ | ⟨d, hd⟩
    · obtain ⟨a, h1, _⟩ := ok.own i d (.inl hd)
      exact ⟨_, h1⟩
    · obtain ⟨v, h1, _⟩ := ok.dat i d hd
      exact ⟨v, h1⟩
  obtain ⟨v, hv'⟩ := hs
  exact ⟨v, hv', q σ H (Post.refl ok) v hv'⟩
theorem dbr_cons (h1 : DS X st t g) (h2 : DBR X rest u h i) : DBR X (st :: rest) (tSeq t u) (sSeq g h) i := by
  refine ⟨pss_cons h1.ps h2.pss, ?_⟩
  intro B IO Z σ H cs ok r e Dn q hv
  unfold sSeq at e
  obtain ⟨r1, e1, e⟩ := Option.bind_eq_some_iff.mp e
  refine h1.ss ok e1 _ ?_
  cases r1 with
  | nx c =>
    intro σ' H' p
    refine h2.ss p.ok e Dn ?_ hv
    cases r with
    | nx c' => exact fun σ2 H2 p2 => q σ2 H2 (p.trans p2)
    | rt d fr c' => exact DnOk.pre (r := .rt d fr c') p q
    | bk c' => exact DnOk.pre (r := .bk c') p q
    | ct c' => exact DnOk.pre (r := .ct c') p q
  | rt d fr c => cases e; exact q
  | bk c => cases e; exact q
  | ct c => cases e; exact q
end
def outV (i : Nat) (r : Option Res) : Option (D × Bool) := match r with
  | some (.rt d fr _) => some (d, fr)
  | some (.nx c) => match c[i]? with
    | some (.own d) => some (d, true)
    | some (.dat d) => some (d, false)
    | _ => none
  | _ => none
def runPV (n m i : Nat) (body : SX) : GA := fun ds => if ds.length = n then outV i (body (ds.map Cell.dat ++ List.replicate m .no)) else none
section
variable {P : Program} {w : World} {K : PySem.W.Frag} {mg : Str → Option Value} {base : Heap}
theorem fn_pureV {x qual : Str} {st : Stmt} {f : Addr} {fd : FuncData} {N ps : List Str} {k n m i0 : Nat} {g : SX} (F : Fun K x qual st f fd) (S : FnScope N ps (defScope st)) (hN : N.length = n + m) (hp : ps.length = n)
    (body : ∀ (cdv : Value) (A : Around) (outer : List Env) (s : Shared) (H : Hp) (E : XK), Room k (A.deeper (envOfC qual (defScope st) s.heap.objs.size f cdv)) → ∃ t, DBR (cxOf CX0 P w K mg base N qual (defScope st) f cdv A outer s H E).nox (defBody st) t g i0) :
    FnOk P w K mg base CX0 (k + 1) f fd ps (spP K n (runPV n m i0 g)) := by
  refine F.ok S (fun vs H Q E h => ?_) (fun cdv A outer s H vs Q E hr h => ?_)
  · obtain ⟨M, ds, z, fr, _, hl, p, _⟩ := h
    rw [Pd.len p, hl, hp]
  · obtain ⟨M, ds, z, fr, hm, hl, p, e, q⟩ := h
    obtain ⟨t, d⟩ := body cdv A outer s H E hr
    refine ⟨t, d.pss, ?_⟩
    unfold runPV at e
    rw [if_pos hl] at e
    have hs : L2.start N vs = vs.map some ++ List.replicate m none := by
      unfold L2.start
      rw [Pd.len p, hl, hN, Nat.add_sub_cancel_left]
    have hmd : ∀ a, ¬ Md (L2.start N vs) (ds.map Cell.dat ++ List.replicate m .no) M a ∨ M a := fun a => by
      by_cases ha : M a
      · exact .inr ha
      · refine .inl fun z => ?_
        rcases z with z | ⟨i, _, d', z | z⟩
        · exact ha z
        · exact get_own.1 z
        · exact get_own.2 z
    have ok : Ok K H [] M (L2.start N vs) H (ds.map Cell.dat ++ List.replicate m .no) := by
      refine ⟨?_, fun i d' h => ?_, fun i d' h => ?_, fun i j a h => ?_, fun i a h => ?_, hm, fun i a d' _ h => absurd h get_own.1, fun i d' h => absurd h get_own.2, fun i a h => (by cases h), fun a o _ h => h, fun a h => h⟩
      · rw [hs, List.length_append, List.length_append, List.length_map, List.length_map, List.length_replicate, List.length_replicate, Pd.len p]
      · obtain ⟨v, h1, h2⟩ := Pd.get p (get_dat h)
        refine ⟨v, by rw [hs]; exact get_start h1, h2.mono (le_cut fun a o e' n' => ⟨e', (hmd a).resolve_right n'⟩)⟩
      · rcases h with h | h
        · exact absurd h get_own.1
        · exact absurd h get_own.2
      · obtain ⟨_, d', h | h⟩ := h
        · exact absurd h get_own.1
        · exact absurd h get_own.2
      · obtain ⟨_, d', h | h⟩ := h
        · exact absurd h get_own.1
        · exact absurd h get_own.2
    have exf : ∀ {σ' H' c}, Post K H [] M (L2.start N vs) H (ds.map Cell.dat ++ List.replicate m .no) σ' H' c → Ex H H' := fun p a o e => p.ok.base a o (fun i h => (by cases h)) e
    cases er : g (ds.map Cell.dat ++ List.replicate m .no) with
    | none => rw [er] at e; cases e
    | some r =>
      rw [er] at e
      refine d.ss ok er _ ?_ ?_
      rotate_left
      · intro c hc
        subst hc
        unfold outV at e
        dsimp only at e
        split at e
        · rename_i d' hc
          exact .inl ⟨_, hc⟩
        · rename_i d' hc
          exact .inr ⟨_, hc⟩
        · cases e
      cases r with
      | nx c =>
        intro σ' H' p' v hv
        unfold outV at e
        dsimp only at e
        split at e
        · rename_i d' hc
          cases e
          obtain ⟨a, h1, h2⟩ := p'.ok.own i0 _ (.inl hc)
          rw [hv] at h1
          cases h1
          have hB : H a = none := p'.ok.new i0 a _ hv hc
          refine q _ H' (exf p') ⟨a, rfl, hB, h2.mono (le_cut fun b o e' n' => ⟨e', fun z => n' ?_⟩)⟩
          rcases z with z | z
          · exact .inl z
          · rw [z]
            exact .inr ⟨i0, hv, _, .inl hc⟩
        · rename_i d' hc
          cases e
          obtain ⟨v', h1, h2⟩ := p'.ok.dat i0 _ hc
          rw [hv] at h1
          cases h1
          exact q _ H' (exf p') (VOk.of (h2.mono (le_cut fun b o e' n' => ⟨e', fun z => n' (.inl z)⟩)))
        · cases e
      | rt d' fr' c => cases e; exact fun v σ' H' p' => q v H' (exf p'.post) p'.vok
      | bk c => cases e
      | ct c => cases e
end
end Qp
end
section
set_option Elab.async false
set_option linter.all false
set_option maxRecDepth 100000
namespace My
open PySem PySem.Spec PyProof.Rows L2 Qp
/-! the text -/
def top (i : Nat) : Stmt := PySem.Challenge.pw_quillproof_k11_names_made_and_used.main.body.getD i (.Pass ⟨0, 0, 0, 0⟩)
abbrev s_makes : Stmt := top 2
abbrev N_makes : List Str := ["definition", "names", "maker", "_"]
theorem sc_makes : FnScope N_makes ["definition"] (defScope s_makes) := ⟨rfl, rfl, rfl, by decide +kernel, rfl, by decide +kernel, by decide +kernel⟩
abbrev s__kind_names : Stmt := top 3
abbrev N__kind_names : List Str := ["kinds", "_", "base"]
theorem sc__kind_names : FnScope N__kind_names ["kinds"] (defScope s__kind_names) := ⟨rfl, rfl, rfl, by decide +kernel, rfl, by decide +kernel, by decide +kernel⟩
abbrev s__all_names : Stmt := top 4
abbrev N__all_names : List Str := ["expressions", "local", "makers", "names", "expression"]
theorem sc__all_names : FnScope N__all_names ["expressions", "local", "makers"] (defScope s__all_names) := ⟨rfl, rfl, rfl, by decide +kernel, rfl, by decide +kernel, by decide +kernel⟩
abbrev s__match_names : Stmt := top 5
abbrev N__match_names : List Str := ["expression", "local", "makers", "names", "maker", "parts", "result"]
theorem sc__match_names : FnScope N__match_names ["expression", "local", "makers"] (defScope s__match_names) := ⟨rfl, rfl, rfl, by decide +kernel, rfl, by decide +kernel, by decide +kernel⟩
abbrev s__names : Stmt := top 6
abbrev N__names : List Str := ["expression", "local", "makers", "form", "names", "name"]
theorem sc__names : FnScope N__names ["expression", "local", "makers"] (defScope s__names) := ⟨rfl, rfl, rfl, by decide +kernel, rfl, by decide +kernel, by decide +kernel⟩
abbrev s__all_uses : Stmt := top 7
abbrev N__all_uses : List Str := ["definition", "makers", "form", "names", "cell", "expression", "_", "kinds", "name"]
theorem sc__all_uses : FnScope N__all_uses ["definition", "makers"] (defScope s__all_uses) := ⟨rfl, rfl, rfl, by decide +kernel, rfl, by decide +kernel, by decide +kernel⟩
abbrev s_makers_used : Stmt := top 8
abbrev N_makers_used : List Str := ["definition", "name"]
theorem sc_makers_used : FnScope N_makers_used ["definition"] (defScope s_makers_used) := ⟨rfl, rfl, rfl, by decide +kernel, rfl, by decide +kernel, by decide +kernel⟩
abbrev s_uses : Stmt := top 9
abbrev N_uses : List Str := ["definition", "makers", "found", "name"]
theorem sc_uses : FnScope N_uses ["definition", "makers"] (defScope s_uses) := ⟨rfl, rfl, rfl, by decide +kernel, rfl, by decide +kernel, by decide +kernel⟩
abbrev s__law_mix : Stmt := top 11
abbrev N__law_mix : List Str := ["cell", "k", "value"]
theorem sc__law_mix : FnScope N__law_mix ["cell", "k"] (defScope s__law_mix) := ⟨rfl, rfl, rfl, by decide +kernel, rfl, by decide +kernel, by decide +kernel⟩
abbrev s__law_draws : Stmt := top 12
abbrev N__law_draws : List Str := ["script", "draws", "k", "cell", "place"]
theorem sc__law_draws : FnScope N__law_draws ["script"] (defScope s__law_draws) := ⟨rfl, rfl, rfl, by decide +kernel, rfl, by decide +kernel, by decide +kernel⟩
abbrev s__law_at : Stmt := top 13
abbrev N__law_at : List Str := ["draws", "index"]
theorem sc__law_at : FnScope N__law_at ["draws", "index"] (defScope s__law_at) := ⟨rfl, rfl, rfl, by decide +kernel, rfl, by decide +kernel, by decide +kernel⟩
abbrev s__law_is_integer : Stmt := top 14
abbrev N__law_is_integer : List Str := ["actual"]
theorem sc__law_is_integer : FnScope N__law_is_integer ["actual"] (defScope s__law_is_integer) := ⟨rfl, rfl, rfl, by decide +kernel, rfl, by decide +kernel, by decide +kernel⟩
abbrev s__law_same : Stmt := top 15
abbrev N__law_same : List Str := ["actual", "expected", "k"]
theorem sc__law_same : FnScope N__law_same ["actual", "expected"] (defScope s__law_same) := ⟨rfl, rfl, rfl, by decide +kernel, rfl, by decide +kernel, by decide +kernel⟩
abbrev s__law_is_dict : Stmt := top 16
abbrev N__law_is_dict : List Str := ["actual", "expected", "key"]
theorem sc__law_is_dict : FnScope N__law_is_dict ["actual", "expected"] (defScope s__law_is_dict) := ⟨rfl, rfl, rfl, by decide +kernel, rfl, by decide +kernel, by decide +kernel⟩
abbrev s__law_next : Stmt := top 17
abbrev N__law_next : List Str := ["state", "limit"]
theorem sc__law_next : FnScope N__law_next ["state", "limit"] (defScope s__law_next) := ⟨rfl, rfl, rfl, by decide +kernel, rfl, by decide +kernel, by decide +kernel⟩
abbrev s__law_locals : Stmt := top 18
abbrev N__law_locals : List Str := ["local", "known", "name", "kind"]
theorem sc__law_locals : FnScope N__law_locals ["local"] (defScope s__law_locals) := ⟨rfl, rfl, rfl, by decide +kernel, rfl, by decide +kernel, by decide +kernel⟩
abbrev s__law_kinds : Stmt := top 19
abbrev N__law_kinds : List Str := []
theorem sc__law_kinds : FnScope N__law_kinds [] (defScope s__law_kinds) := ⟨rfl, rfl, rfl, by decide +kernel, rfl, by decide +kernel, by decide +kernel⟩
abbrev s__law_drawn_kind : Stmt := top 20
abbrev N__law_drawn_kind : List Str := ["state"]
theorem sc__law_drawn_kind : FnScope N__law_drawn_kind ["state"] (defScope s__law_drawn_kind) := ⟨rfl, rfl, rfl, by decide +kernel, rfl, by decide +kernel, by decide +kernel⟩
abbrev s__law_plan : Stmt := top 21
abbrev N__law_plan : List Str := ["state", "plan", "kinds", "name", "k"]
theorem sc__law_plan : FnScope N__law_plan ["state"] (defScope s__law_plan) := ⟨rfl, rfl, rfl, by decide +kernel, rfl, by decide +kernel, by decide +kernel⟩
abbrev s__law_plain : Stmt := top 22
abbrev N__law_plain : List Str := ["state", "kind"]
theorem sc__law_plain : FnScope N__law_plain ["state", "kind"] (defScope s__law_plain) := ⟨rfl, rfl, rfl, by decide +kernel, rfl, by decide +kernel, by decide +kernel⟩
abbrev s__law_term : Stmt := top 23
abbrev N__law_term : List Str := ["state", "plan", "local", "kind", "depth", "steady", "known", "names", "pick", "name"]
theorem sc__law_term : FnScope N__law_term ["state", "plan", "local", "kind", "depth", "steady"] (defScope s__law_term) := ⟨rfl, rfl, rfl, by decide +kernel, rfl, by decide +kernel, by decide +kernel⟩
abbrev s__law_names : Stmt := top 24
abbrev N__law_names : List Str := ["state", "count", "names", "start", "found", "k"]
theorem sc__law_names : FnScope N__law_names ["state", "count"] (defScope s__law_names) := ⟨rfl, rfl, rfl, by decide +kernel, rfl, by decide +kernel, by decide +kernel⟩
abbrev s__law_choice : Stmt := top 25
abbrev N__law_choice : List Str := ["state", "plan", "local", "kind", "depth", "steady", "pick", "other", "first", "second", "name", "head", "tail", "item", "more", "data", "arms", "maker", "kinds", "names", "calls", "parts", "k", "each"]
theorem sc__law_choice : FnScope N__law_choice ["state", "plan", "local", "kind", "depth", "steady"] (defScope s__law_choice) := ⟨rfl, rfl, rfl, by decide +kernel, rfl, by decide +kernel, by decide +kernel⟩
abbrev s__law_made : Stmt := top 26
abbrev N__law_made : List Str := ["state", "plan", "local", "kind", "depth", "steady", "item", "first", "count", "maker", "kinds", "operator", "side", "k", "each"]
theorem sc__law_made : FnScope N__law_made ["state", "plan", "local", "kind", "depth", "steady"] (defScope s__law_made) := ⟨rfl, rfl, rfl, by decide +kernel, rfl, by decide +kernel, by decide +kernel⟩
abbrev s__law_definition : Stmt := top 27
abbrev N__law_definition : List Str := ["state", "plan", "name", "form", "turn", "steady", "names", "local", "settings", "cell", "k"]
theorem sc__law_definition : FnScope N__law_definition ["state", "plan", "name"] (defScope s__law_definition) := ⟨rfl, rfl, rfl, by decide +kernel, rfl, by decide +kernel, by decide +kernel⟩
abbrev s__law_definitions : Stmt := top 28
abbrev N__law_definitions : List Str := ["state", "plan", "definitions", "name"]
theorem sc__law_definitions : FnScope N__law_definitions ["state"] (defScope s__law_definitions) := ⟨rfl, rfl, rfl, by decide +kernel, rfl, by decide +kernel, by decide +kernel⟩
abbrev s__law_makes : Stmt := top 29
abbrev N__law_makes : List Str := ["definition", "names", "maker", "kinds"]
theorem sc__law_makes : FnScope N__law_makes ["definition"] (defScope s__law_makes) := ⟨rfl, rfl, rfl, by decide +kernel, rfl, by decide +kernel, by decide +kernel⟩
abbrev s__law_used_data : Stmt := top 30
abbrev N__law_used_data : List Str := ["kinds", "levels", "base"]
theorem sc__law_used_data : FnScope N__law_used_data ["kinds"] (defScope s__law_used_data) := ⟨rfl, rfl, rfl, by decide +kernel, rfl, by decide +kernel, by decide +kernel⟩
abbrev s__law_used : Stmt := top 31
abbrev N__law_used : List Str := ["e", "local", "makers", "form", "found", "maker", "names", "result", "parts", "part"]
theorem sc__law_used : FnScope N__law_used ["e", "local", "makers"] (defScope s__law_used) := ⟨rfl, rfl, rfl, by decide +kernel, rfl, by decide +kernel, by decide +kernel⟩
abbrev s__law_uses : Stmt := top 32
abbrev N__law_uses : List Str := ["definition", "makers", "form", "found", "maker", "kinds", "cell", "e", "k"]
theorem sc__law_uses : FnScope N__law_uses ["definition", "makers"] (defScope s__law_uses) := ⟨rfl, rfl, rfl, by decide +kernel, rfl, by decide +kernel, by decide +kernel⟩
abbrev s_law : Stmt := top 33
abbrev N_law : List Str := ["script", "state", "definitions", "makers", "maker", "passed", "definition", "told", "deep", "k", "name"]
theorem sc_law : FnScope N_law ["script"] (defScope s_law) := ⟨rfl, rfl, rfl, by decide +kernel, rfl, by decide +kernel, by decide +kernel⟩
/-! what the defs say -/
def C_makes_1 : EX := evVar 2
def b_makes : SX := sSeq (sAsg 1 (evA gLstD (evCons (evIxV gIx 0 (evC (.int 1))) (evNil))))
  (sSeq (sIf (evT (ev2 gEq (evIxV gIx 0 (evC (.int 0))) (evC (.str "data")))) (sDrop (evExA 1 (evLc [2, 3] (ixSeq (evIxV gIx 0 (evC (.int 2)))) (gxTup (gxCons (gx 2) (gxCons (gx 3) (gxNil))) 2) (evYes) (C_makes_1)))) (sNx))
  (sNx))
def F_makes : GA := runPV 1 3 1 b_makes
def C__kind_names_1 : EX := evVar 2
def W__kind_names_2 : TX := evT (ev2 (gIn true) (evVar 2) (evC (.tuple [.str "num", .str "text", .str "bool"])))
def b__kind_names : SX := sRet (evLc [1, 2] (ixSeq (evVar 0)) (gxTup (gxCons (gx 1) (gxCons (gx 2) (gxNil))) 2) (W__kind_names_2) (C__kind_names_1))
def F__kind_names : GA := runP 1 2 b__kind_names
def b__law_mix : SX := sSeq (sAsg 2 (ev2 gMod (evA gInt (evCons (ev2 gAdd (ev2 gAdd (ev2 gMul (evA gInt (evCons (evVar 0) (evNil))) (evC (.int 48271))) (ev2 gMul (evVar 1) (evC (.int 69621)))) (evC (.int 12345))) (evNil))) (evC (.int 2147483647))))
  (sSeq (sAsg 2 (ev2 gMod (evA gInt (evCons (ev2 gAdd (ev2 gAdd (ev2 gMul (evVar 2) (evVar 2)) (ev2 gMul (evVar 1) (evC (.int 40692)))) (evC (.int 1))) (evNil))) (evC (.int 2147483399))))
  (sRet (ev2 gMod (ev2 gFdivW (evVar 2) (evC (.int 5))) (evC (.int 9973)))))
def F__law_mix : GA := runP 2 1 b__law_mix
def b__law_is_integer : SX := sRet (evAndV (evIsiV "int" 0) (evNotV (evIsiV "bool" 0)))
def F__law_is_integer : GA := runP 1 0 b__law_is_integer
def L__law_locals_1 : SX := sDput 1 (evVar 2) (evVar 3)
def b__law_locals : SX := sSeq (sAsg 1 (evDnew))
  (sSeq (sFor (ixSeq (evVar 0)) (gxTup (gxCons (gx 2) (gxCons (gx 3) (gxNil))) 2) (L__law_locals_1))
  (sRet (evVar 1)))
def F__law_locals : GA := runP 1 3 b__law_locals
def b__law_kinds : SX := sRet (evA gLstD (evCons (evA gTupD (evCons (evC (.int 0)) (evCons (evC (.str "num")) (evNil)))) (evCons (evA gTupD (evCons (evC (.int 0)) (evCons (evC (.str "text")) (evNil)))) (evCons (evA gTupD (evCons (evC (.int 0)) (evCons (evC (.str "bool")) (evNil)))) (evCons (evA gTupD (evCons (evC (.int 1)) (evCons (evC (.str "num")) (evNil)))) (evCons (evA gTupD (evCons (evC (.int 1)) (evCons (evC (.str "text")) (evNil)))) (evCons (evA gTupD (evCons (evC (.int 0)) (evCons (evC (.str "d")) (evNil)))) (evCons (evA gTupD (evCons (evC (.int 1)) (evCons (evC (.str "d")) (evNil)))) (evCons (evA gTupD (evCons (evC (.int 0)) (evCons (evC (.str "e")) (evNil)))) (evCons (evA gTupD (evCons (evC (.int 2)) (evCons (evC (.str "num")) (evNil)))) (evNil)))))))))))
def F__law_kinds : GA := runP 0 0 b__law_kinds
def C__law_makes_1 : EX := evVar 2
def b__law_makes : SX := sSeq (sAsg 1 (evA gLstD (evCons (evIxV gIx 0 (evC (.int 1))) (evNil))))
  (sSeq (sIf (evT (ev2 gEq (evIxV gIx 0 (evC (.int 0))) (evC (.str "data")))) (sAsg 1 (evIxV gAdd 1 (evLc [2, 3] (ixSeq (evIxV gIx 0 (evC (.int 2)))) (gxTup (gxCons (gx 2) (gxCons (gx 3) (gxNil))) 2) (evYes) (C__law_makes_1)))) (sNx))
  (sRet (evVar 1)))
def F__law_makes : GA := runP 1 3 b__law_makes
def C__law_used_data_1 : EX := evVar 2
def W__law_used_data_2 : TX := evT (ev2 (gIn true) (evVar 2) (evA gLstD (evCons (evC (.str "num")) (evCons (evC (.str "text")) (evCons (evC (.str "bool")) (evNil))))))
def b__law_used_data : SX := sRet (evLc [1, 2] (ixSeq (evVar 0)) (gxTup (gxCons (gx 1) (gxCons (gx 2) (gxNil))) 2) (W__law_used_data_2) (C__law_used_data_1))
def F__law_used_data : GA := runP 1 2 b__law_used_data
def L__law_draws_1 : SX := sIf (evT (ev2 gGt (evVar 3) (evC (.int 0)))) (sSeq (sDrop (evApp 1 (ev2 gMod (evA gInt (evCons (evVar 3) (evNil))) (evC (.int 9973)))))
  (sAsg 3 (ev2 gFdivW (evVar 3) (evC (.int 9973))))) (sNx)
def L__law_draws_2 : SX := sSeq (sAsg 3 (evA gInt (evCons (evIxV gIx 0 (evVar 2)) (evNil))))
  (sIf (evT (ev2 gLt (evVar 3) (ev2 gPow (evC (.int 10)) (evC (.int 18))))) (sDrop (evApp 1 (evA (gN 2 (F__law_mix)) (evCons (evVar 3) (evCons (evVar 2) (evNil)))))) (sFor (ixR1 (evCons (evC (.int 60)) (evNil))) (gx 4) (L__law_draws_1)))
def b__law_draws : SX := sSeq (sAsg 1 (evA gLstD (evNil)))
  (sSeq (sFor (ixR1 (evCons (evA gMin2 (evCons (evC (.int 63)) (evCons (evV1 gLen 0) (evNil)))) (evNil))) (gx 2) (L__law_draws_2))
  (sRet (evVar 1)))
def F__law_draws : GA := runP 1 4 b__law_draws
def b__law_at : SX := sSeq (sIf (evT (ev2 gLt (evVar 1) (evV1 gLen 0))) (sRet (evIxV gIx 0 (evVar 1))) (sNx))
  (sSeq (sIf (evT (ev2 gEq (evV1 gLen 0) (evC (.int 0)))) (sRet (evA (gN 2 (F__law_mix)) (evCons (evVar 1) (evCons (evC (.int 77)) (evNil))))) (sNx))
  (sRet (evA (gN 2 (F__law_mix)) (evCons (ev2 gAdd (evIxV gIx 0 (ev2 gMod (evA gInt (evCons (evVar 1) (evNil))) (evV1 gLen 0))) (ev2 gMul (evVar 1) (evC (.int 131)))) (evCons (evVar 1) (evNil))))))
def F__law_at : GA := runP 2 0 b__law_at
def b__law_next : SX := sSeq (sAugIx gAddI 0 (evC (.int 1)) (evC (.int 1)))
  (sRet (ev2 gMod (evA (gN 2 (F__law_at)) (evCons (evIxV gIx 0 (evC (.int 0))) (evCons (evIxV gIx 0 (evC (.int 1))) (evNil)))) (evVar 1)))
def F__law_next : GI := runI 2 0 b__law_next
def b__law_drawn_kind : SX := sRet (ev2 gIx (evA (gN 0 (F__law_kinds)) evNil) (evCI 2 (F__law_next) 0 (evCons (evC (.int 9)) (evNil))))
def F__law_drawn_kind : GI := runI 1 0 b__law_drawn_kind
def b__law_plain : SX := sSeq (sIf (evT (ev2 gGt (evIxV gIx 1 (evC (.int 0))) (evC (.int 0)))) (sRet (evA gTupD (evCons (evC (.str "list")) (evCons (evA gTupD (evNil)) (evNil))))) (sNx))
  (sSeq (sIf (evT (ev2 gEq (evIxV gIx 1 (evC (.int 1))) (evC (.str "num")))) (sRet (evA gTupD (evCons (evC (.str "number")) (evCons (evCI 2 (F__law_next) 0 (evCons (evC (.int 4)) (evNil))) (evNil))))) (sNx))
  (sSeq (sIf (evT (ev2 gEq (evIxV gIx 1 (evC (.int 1))) (evC (.str "text")))) (sRet (evA gTupD (evCons (evC (.str "text")) (evCons (ev2 gIx (evA gLstD (evCons (evC (.str "")) (evCons (evC (.str "a")) (evCons (evC (.str "it's")) (evNil))))) (evCI 2 (F__law_next) 0 (evCons (evC (.int 3)) (evNil)))) (evNil))))) (sNx))
  (sSeq (sIf (evT (ev2 gEq (evIxV gIx 1 (evC (.int 1))) (evC (.str "bool")))) (sRet (evA gTupD (evCons (evC (.str "bool")) (evCons (ev2 gEq (evCI 2 (F__law_next) 0 (evCons (evC (.int 2)) (evNil))) (evC (.int 0))) (evNil))))) (sNx))
  (sRet (evA gTupD (evCons (evC (.str "make")) (evCons (ev2 gIx (evA gLstD (evCons (evC (.str "Leaf")) (evCons (evC (.str "Two")) (evNil)))) (evA gInt (evCons (ev2 gEq (evIxV gIx 1 (evC (.int 1))) (evC (.str "e"))) (evNil)))) (evCons (evA gTupD (evNil)) (evNil)))))))))
def F__law_plain : GI := runI 2 0 b__law_plain
def C__law_names_1 : EX := evIxV gIx 2 (ev2 gMod (evIxV gAdd 3 (evVar 5)) (evC (.int 5)))
def b__law_names : SX := sSeq (sAsg 2 (evA gLstD (evCons (evC (.str "x")) (evCons (evC (.str "y")) (evCons (evC (.str "z")) (evCons (evC (.str "f")) (evCons (evC (.str "c")) (evNil))))))))
  (sSeq (sAsg 3 (evCI 2 (F__law_next) 0 (evCons (evC (.int 5)) (evNil))))
  (sSeq (sAsg 4 (evLc [5] (ixR1 (evCons (evVar 1) (evNil))) (gx 5) (evYes) (C__law_names_1)))
  (sSeq (sIf (evAndT (evT (ev2 gGt (evVar 1) (evC (.int 1)))) (evT (ev2 gEq (evCI 2 (F__law_next) 0 (evCons (evC (.int 25)) (evNil))) (evC (.int 0))))) (sSet 4 (evC (.int 1)) (evIxV gIx 4 (evC (.int 0)))) (sNx))
  (sRet (evV1 gTuple 4)))))
def F__law_names : GI := runI 2 4 b__law_names
def C__law_plan_1 : EX := evCI 1 (F__law_drawn_kind) 0 (evNil)
def C__law_plan_2 : EX := evCI 1 (F__law_drawn_kind) 0 (evNil)
def L__law_plan_3 : SX := sSeq (sAsg 2 (evA (gOne gTuple) (evCons (evLc [4] (ixR1 (evCons (ev2 gIx (evA gLstD (evCons (evC (.int 0)) (evCons (evC (.int 1)) (evCons (evC (.int 2)) (evCons (evC (.int 0)) (evCons (evC (.int 1)) (evCons (evC (.int 2)) (evCons (evC (.int 5)) (evNil))))))))) (evCI 2 (F__law_next) 0 (evCons (evC (.int 7)) (evNil)))) (evNil))) (gx 4) (evYes) (C__law_plan_2)) (evNil))))
  (sDput 1 (evVar 3) (evA gTupD (evCons (evC (.str "fun")) (evCons (evVar 2) (evCons (evCI 1 (F__law_drawn_kind) 0 (evNil)) (evNil))))))
def L__law_plan_4 : SX := sDput 1 (evVar 3) (evA gTupD (evCons (evC (.str "cell")) (evCons (evA gTupD (evNil)) (evCons (evCI 1 (F__law_drawn_kind) 0 (evNil)) (evNil)))))
def L__law_plan_5 : SX := sDput 1 (evVar 3) (evA gTupD (evCons (evC (.str "view")) (evCons (evA gTupD (evNil)) (evCons (evCI 1 (F__law_drawn_kind) 0 (evNil)) (evNil)))))
def C__law_plan_6 : EX := evCI 1 (F__law_drawn_kind) 0 (evNil)
def L__law_plan_7 : SX := sSeq (sAsg 2 (evA (gOne gTuple) (evCons (evLc [4] (ixR1 (evCons (evCI 2 (F__law_next) 0 (evCons (evC (.int 4)) (evNil))) (evNil))) (gx 4) (evYes) (C__law_plan_6)) (evNil))))
  (sDput 1 (evVar 3) (evA gTupD (evCons (evC (.str "act")) (evCons (evVar 2) (evCons (evCI 1 (F__law_drawn_kind) 0 (evNil)) (evNil))))))
def b__law_plan : SX := sSeq (sAsg 1 (evDnew))
  (sSeq (sDput 1 (evC (.str "d")) (evA gTupD (evCons (evC (.str "data")) (evCons (evA gTupD (evCons (evA gTupD (evCons (evC (.str "Leaf")) (evCons (evA gTupD (evNil)) (evNil)))) (evCons (evA gTupD (evCons (evC (.str "Node")) (evCons (evA gTupD (evCons (evCI 1 (F__law_drawn_kind) 0 (evNil)) (evCons (evCI 1 (F__law_drawn_kind) 0 (evNil)) (evNil)))) (evNil)))) (evNil)))) (evNil)))))
  (sSeq (sDput 1 (evC (.str "e")) (evA gTupD (evCons (evC (.str "data")) (evCons (evA gTupD (evCons (evA gTupD (evCons (evC (.str "One")) (evCons (evA gTupD (evCons (evCI 1 (F__law_drawn_kind) 0 (evNil)) (evNil))) (evNil)))) (evCons (evA gTupD (evCons (evC (.str "Two")) (evCons (evA gTupD (evNil)) (evNil)))) (evNil)))) (evNil)))))
  (sSeq (sIf (evT (ev2 gEq (evCI 2 (F__law_next) 0 (evCons (evC (.int 4)) (evNil))) (evC (.int 0)))) (sSeq (sAsg 2 (evA (gOne gTuple) (evCons (evLc [4] (ixR1 (evCons (evC (.int 3)) (evNil))) (gx 4) (evYes) (C__law_plan_1)) (evNil))))
  (sDput 1 (evC (.str "e")) (evA gTupD (evCons (evC (.str "data")) (evCons (ev2 gAdd (ev2 gIx (evIxV gDget 1 (evC (.str "e"))) (evC (.int 1))) (evA gTupD (evCons (evA gTupD (evCons (evC (.str "Six")) (evCons (evVar 2) (evNil)))) (evCons (evA gTupD (evCons (evC (.str "Nought")) (evCons (evA gTupD (evNil)) (evNil)))) (evNil))))) (evNil)))))) (sNx))
  (sSeq (sIf (evT (ev2 gEq (evCI 2 (F__law_next) 0 (evCons (evC (.int 9)) (evNil))) (evC (.int 0)))) (sDput 1 (evC (.str "e")) (evA gTupD (evCons (evC (.str "data")) (evCons (evA gTupD (evCons (evA gTupD (evCons (evC (.str "One")) (evCons (evA gTupD (evCons (evA gTupD (evCons (evC (.int 0)) (evCons (evC (.str "num")) (evNil)))) (evNil))) (evNil)))) (evCons (evA gTupD (evCons (ev2 gIx (evA gLstD (evCons (evC (.str "Leaf")) (evCons (evC (.str "One")) (evNil)))) (evCI 2 (F__law_next) 0 (evCons (evC (.int 2)) (evNil)))) (evCons (evA gTupD (evNil)) (evNil)))) (evNil)))) (evNil))))) (sNx))
  (sSeq (sFor (ixSeq (evA gLstD (evCons (evC (.str "f")) (evCons (evC (.str "g")) (evCons (evC (.str "h")) (evCons (evC (.str "k")) (evNil))))))) (gx 3) (L__law_plan_3))
  (sSeq (sFor (ixSeq (evA gLstD (evCons (evC (.str "c")) (evCons (evC (.str "m")) (evNil))))) (gx 3) (L__law_plan_4))
  (sSeq (sFor (ixSeq (evA gLstD (evCons (evC (.str "v")) (evCons (evC (.str "w")) (evNil))))) (gx 3) (L__law_plan_5))
  (sSeq (sFor (ixSeq (evA gLstD (evCons (evC (.str "a")) (evCons (evC (.str "b")) (evNil))))) (gx 3) (L__law_plan_7))
  (sRet (evVar 1))))))))))
def F__law_plan : GI := runI 1 4 b__law_plan
def L__law_same_1 (F : GA) : SX := sIf (evNotT (evT (evA (gN 2 (F)) (evCons (evIxV gIx 0 (evVar 2)) (evCons (evIxV gIx 1 (evVar 2)) (evNil)))))) (sRet (evC (.bool false))) (sNx)
def b__law_same (F : GA) : SX := sSeq (sIf (evT (evIsiTV ["list", "tuple"] 1)) (sSeq (sIf (evOrT (evT (ev2 gNe (evIsiV "list" 1) (evIsiV "list" 0))) (evT (ev2 gNe (evIsiV "tuple" 1) (evIsiV "tuple" 0)))) (sRet (evC (.bool false))) (sNx))
  (sSeq (sIf (evT (ev2 gNe (evV1 gLen 0) (evV1 gLen 1))) (sRet (evC (.bool false))) (sNx))
  (sSeq (sFor (ixR1 (evCons (evV1 gLen 1) (evNil))) (gx 2) (L__law_same_1 F))
  (sRet (evC (.bool true)))))) (sNx))
  (sSeq (sIf (evT (ev2 gIsN (evVar 1) (evC .none))) (sRet (ev2 gIsN (evVar 0) (evC .none))) (sNx))
  (sSeq (sIf (evT (evIsiV "bool" 1)) (sRet (evAndV (evIsiV "bool" 0) (evIxV gEq 0 (evVar 1)))) (sNx))
  (sSeq (sIf (evT (evIsiV "int" 1)) (sRet (evAndV (evA (gN 1 (F__law_is_integer)) (evCons (evVar 0) (evNil))) (evIxV gEq 0 (evVar 1)))) (sNx))
  (sRet (evAndV (evIsiV "str" 0) (evIxV gEq 0 (evVar 1)))))))
def F__law_same : Nat → GA
  | 0 => fun _ => none
  | k + 1 => runP 2 1 (b__law_same (F__law_same k))
def L__law_is_dict_1 : SX := sIf (evOrT (evT (evVIn (gDin true) (evVar 2) 0)) (evNotT (evT (evA (gN 2 (F__law_same 8)) (evCons (evIxV gDget 0 (evVar 2)) (evCons (evIxV gDget 1 (evVar 2)) (evNil))))))) (sRet (evC (.bool false))) (sNx)
def b__law_is_dict : SX := sSeq (sIf (evOrT (evNotT (evT (evIsiV "dict" 0))) (evT (ev2 gNe (evV1 gLenD 0) (evV1 gLenD 1)))) (sRet (evC (.bool false))) (sNx))
  (sSeq (sForK 1 (gx 2) (L__law_is_dict_1))
  (sRet (evC (.bool true))))
def F__law_is_dict : GA := runP 2 1 b__law_is_dict
def C__law_term_1 (G__law_term : GI) (G__law_choice : GI) (G__law_made : GI) : EX := evVar 9
def W__law_term_2 (G__law_term : GI) (G__law_choice : GI) (G__law_made : GI) : TX := evT (ev2 gEq (evIxV gDget 6 (evVar 9)) (evVar 3))
def C__law_term_3 (G__law_term : GI) (G__law_choice : GI) (G__law_made : GI) : EX := evVar 9
def W__law_term_4 (G__law_term : GI) (G__law_choice : GI) (G__law_made : GI) : TX := evAndT (evT (evVIn (gDin true) (evVar 9) 6)) (evT (ev2 gEq (ev2 gIx (evIxV gDget 1 (evVar 9)) (evC (.int 2))) (evVar 3)))
def b__law_term (G__law_term : GI) (G__law_choice : GI) (G__law_made : GI) : SX := sSeq (sIf (evT (ev2 gEq (evCI 2 (F__law_next) 0 (evCons (evC (.int 40)) (evNil))) (evC (.int 39)))) (sAsg 3 (evCI 1 (F__law_drawn_kind) 0 (evNil))) (sNx))
  (sSeq (sIf (evT (ev2 gEq (evCI 2 (F__law_next) 0 (evCons (evC (.int 150)) (evNil))) (evC (.int 149)))) (sRet (evA gTupD (evCons (evC (.str "name")) (evCons (ev2 gIx (evA gLstD (evCons (evC (.str "zz")) (evCons (evC (.str "f")) (evCons (evC (.str "a")) (evCons (evC (.str "d")) (evNil)))))) (evCI 2 (F__law_next) 0 (evCons (evC (.int 4)) (evNil)))) (evNil))))) (sNx))
  (sSeq (sAsg 6 (evA (gN 1 (F__law_locals)) (evCons (evVar 2) (evNil))))
  (sSeq (sAsg 7 (evLcK 6 [9] (gx 9) (W__law_term_2 G__law_term G__law_choice G__law_made) (C__law_term_1 G__law_term G__law_choice G__law_made)))
  (sSeq (sIf (evNotT (evTrV 5)) (sAsg 7 (evIxV gAdd 7 (evLc [9] (ixSeq (evA gLstD (evCons (evC (.str "c")) (evCons (evC (.str "m")) (evCons (evC (.str "v")) (evCons (evC (.str "w")) (evNil))))))) (gx 9) (W__law_term_4 G__law_term G__law_choice G__law_made) (C__law_term_3 G__law_term G__law_choice G__law_made)))) (sNx))
  (sSeq (sAsg 8 (evCI 2 (F__law_next) 0 (evCons (evC (.int 14)) (evNil))))
  (sSeq (sIf (evAndT (evT (ev2 gGt (evV1 gLen 7) (evC (.int 0)))) (evOrT (evT (ev2 gLt (evVar 8) (evC (.int 5)))) (evT (evIxV gEq 4 (evC (.int 0)))))) (sRet (evA gTupD (evCons (evC (.str "name")) (evCons (evIxV gIx 7 (evCI 2 (F__law_next) 0 (evCons (evV1 gLen 7) (evNil)))) (evNil))))) (sNx))
  (sSeq (sIf (evT (evIxV gEq 4 (evC (.int 0)))) (sRet (evCI 2 (F__law_plain) 0 (evCons (evVar 3) (evNil)))) (sNx))
  (sSeq (sIf (evT (ev2 gLt (evVar 8) (evC (.int 9)))) (sRet (evCI 6 (G__law_choice) 0 (evCons (evVar 1) (evCons (evVar 2) (evCons (evVar 3) (evCons (ev2 gSub (evVar 4) (evC (.int 1))) (evCons (evVar 5) (evNil)))))))) (sNx))
  (sRet (evCI 6 (G__law_made) 0 (evCons (evVar 1) (evCons (evVar 2) (evCons (evVar 3) (evCons (ev2 gSub (evVar 4) (evC (.int 1))) (evCons (evVar 5) (evNil))))))))))))))))
def C__law_choice_1 (G__law_term : GI) (G__law_choice : GI) (G__law_made : GI) : EX := evA gTupD (evCons (evIxV gIx 19 (evVar 22)) (evCons (evIxV gIx 18 (evVar 22)) (evNil)))
def L__law_choice_2 (G__law_term : GI) (G__law_choice : GI) (G__law_made : GI) : SX := sSeq (sAsg 19 (evCI 2 (F__law_names) 0 (evCons (evV1 gLen 18) (evNil))))
  (sSeq (sAsg 14 (evIxV gAdd 2 (evLc [22] (ixR1 (evCons (evV1 gLen 18) (evNil))) (gx 22) (evYes) (C__law_choice_1 G__law_term G__law_choice G__law_made))))
  (sDrop (evIns 16 (evCI 2 (F__law_next) 0 (evCons (ev2 gAdd (evV1 gLen 16) (evC (.int 1))) (evNil))) (evA gTupD (evCons (evVar 17) (evCons (evVar 19) (evCons (evCI 6 (G__law_term) 0 (evCons (evVar 1) (evCons (evVar 14) (evCons (evVar 3) (evCons (evVar 4) (evCons (evVar 5) (evNil))))))) (evNil))))))))
def C__law_choice_3 (G__law_term : GI) (G__law_choice : GI) (G__law_made : GI) : EX := evVar 10
def W__law_choice_4 (G__law_term : GI) (G__law_choice : GI) (G__law_made : GI) : TX := evT (ev2 gEq (ev2 gIx (evIxV gDget 1 (evVar 10)) (evC (.int 2))) (evVar 3))
def C__law_choice_5 (G__law_term : GI) (G__law_choice : GI) (G__law_made : GI) : EX := evCI 6 (G__law_term) 0 (evCons (evVar 1) (evCons (evVar 2) (evCons (evVar 23) (evCons (evVar 4) (evCons (evVar 5) (evNil))))))
def b__law_choice (G__law_term : GI) (G__law_choice : GI) (G__law_made : GI) : SX := sSeq (sAsg 6 (evCI 2 (F__law_next) 0 (evCons (evC (.int 5)) (evNil))))
  (sSeq (sAsg 7 (evCI 1 (F__law_drawn_kind) 0 (evNil)))
  (sSeq (sIf (evT (evIxV gEq 6 (evC (.int 0)))) (sSeq (sAsg 8 (evCI 6 (G__law_term) 0 (evCons (evVar 1) (evCons (evVar 2) (evCons (evA gTupD (evCons (evC (.int 0)) (evCons (evC (.str "bool")) (evNil)))) (evCons (evVar 4) (evCons (evVar 5) (evNil))))))))
  (sSeq (sAsg 9 (evCI 6 (G__law_term) 0 (evCons (evVar 1) (evCons (evVar 2) (evCons (evVar 3) (evCons (evVar 4) (evCons (evVar 5) (evNil))))))))
  (sRet (evA gTupD (evCons (evC (.str "if")) (evCons (evVar 8) (evCons (evVar 9) (evCons (evCI 6 (G__law_term) 0 (evCons (evVar 1) (evCons (evVar 2) (evCons (evVar 3) (evCons (evVar 4) (evCons (evVar 5) (evNil))))))) (evNil))))))))) (sNx))
  (sSeq (sIf (evT (evIxV gEq 6 (evC (.int 1)))) (sSeq (sAsg 10 (ev2 gIx (evCI 2 (F__law_names) 0 (evCons (evC (.int 1)) (evNil))) (evC (.int 0))))
  (sSeq (sAsg 8 (evCI 6 (G__law_term) 0 (evCons (evVar 1) (evCons (evVar 2) (evCons (evVar 7) (evCons (evVar 4) (evCons (evVar 5) (evNil))))))))
  (sRet (evA gTupD (evCons (evC (.str "let")) (evCons (evVar 10) (evCons (evVar 8) (evCons (evCI 6 (G__law_term) 0 (evCons (evVar 1) (evCons (evIxV gAdd 2 (evA gLstD (evCons (evA gTupD (evCons (evVar 10) (evCons (evVar 7) (evNil)))) (evNil)))) (evCons (evVar 3) (evCons (evVar 4) (evCons (evVar 5) (evNil))))))) (evNil))))))))) (sNx))
  (sSeq (sIf (evT (evIxV gEq 6 (evC (.int 2)))) (sSeq (sAsgT (evCI 2 (F__law_names) 0 (evCons (evC (.int 2)) (evNil))) (gxTup (gxCons (gx 11) (gxCons (gx 12) (gxNil))) 2))
  (sSeq (sAsg 13 (evA gTupD (evCons (ev2 gAdd (evIxV gIx 7 (evC (.int 0))) (evC (.int 1))) (evCons (evIxV gIx 7 (evC (.int 1))) (evNil)))))
  (sSeq (sAsg 8 (evCI 6 (G__law_term) 0 (evCons (evVar 1) (evCons (evVar 2) (evCons (evVar 13) (evCons (evVar 4) (evCons (evVar 5) (evNil))))))))
  (sSeq (sAsg 9 (evCI 6 (G__law_term) 0 (evCons (evVar 1) (evCons (evVar 2) (evCons (evVar 3) (evCons (evVar 4) (evCons (evVar 5) (evNil))))))))
  (sSeq (sAsg 14 (evIxV gAdd 2 (evA gLstD (evCons (evA gTupD (evCons (evVar 11) (evCons (evVar 7) (evNil)))) (evCons (evA gTupD (evCons (evVar 12) (evCons (evVar 13) (evNil)))) (evNil))))))
  (sRet (evA gTupD (evCons (evC (.str "split")) (evCons (evVar 8) (evCons (evVar 9) (evCons (evVar 11) (evCons (evVar 12) (evCons (evCI 6 (G__law_term) 0 (evCons (evVar 1) (evCons (evVar 14) (evCons (evVar 3) (evCons (evVar 4) (evCons (evVar 5) (evNil))))))) (evNil)))))))))))))) (sNx))
  (sSeq (sIf (evT (evIxV gEq 6 (evC (.int 3)))) (sSeq (sAsg 15 (ev2 gIx (evA gLstD (evCons (evC (.str "d")) (evCons (evC (.str "e")) (evNil)))) (evCI 2 (F__law_next) 0 (evCons (evC (.int 2)) (evNil)))))
  (sSeq (sAsg 8 (evCI 6 (G__law_term) 0 (evCons (evVar 1) (evCons (evVar 2) (evCons (evA gTupD (evCons (evC (.int 0)) (evCons (evVar 15) (evNil)))) (evCons (evVar 4) (evCons (evVar 5) (evNil))))))))
  (sSeq (sAsg 16 (evA gLstD (evNil)))
  (sSeq (sFor (ixSeq (ev2 gIx (evIxV gDget 1 (evVar 15)) (evC (.int 1)))) (gxTup (gxCons (gx 17) (gxCons (gx 18) (gxNil))) 2) (L__law_choice_2 G__law_term G__law_choice G__law_made))
  (sSeq (sIf (evT (ev2 gEq (evCI 2 (F__law_next) 0 (evCons (evC (.int 20)) (evNil))) (evC (.int 0)))) (sDrop (evPop 16)) (sNx))
  (sSeq (sIf (evT (ev2 gEq (evCI 2 (F__law_next) 0 (evCons (evC (.int 12)) (evNil))) (evC (.int 0)))) (sSeq (sAsg 14 (ev2 gIx (evA gLstD (evCons (evIxV gIx 16 (evC (.int 0))) (evCons (evA gTupD (evCons (ev2 gIx (evA gLstD (evCons (evC (.str "One")) (evCons (evC (.str "Leaf")) (evNil)))) (evA gInt (evCons (evIxV gEq 15 (evC (.str "e"))) (evNil)))) (evCons (evA gTupD (evNil)) (evCons (evA gTupD (evCons (evC (.str "number")) (evCons (evC (.int 1)) (evNil)))) (evNil))))) (evNil)))) (evCI 2 (F__law_next) 0 (evCons (evC (.int 2)) (evNil)))))
  (sDrop (evIns 16 (evCI 2 (F__law_next) 0 (evCons (ev2 gAdd (evV1 gLen 16) (evC (.int 1))) (evNil))) (evVar 14)))) (sNx))
  (sRet (evA gTupD (evCons (evC (.str "match")) (evCons (evVar 8) (evCons (evA (gOne gTuple) (evCons (evIxV gAdd 16 (evRepL (evA gLstD (evCons (evA gTupD (evCons (evC (.str "Leaf")) (evCons (evA gTupD (evNil)) (evCons (evA gTupD (evCons (evC (.str "number")) (evCons (evC (.int 1)) (evNil)))) (evNil))))) (evNil))) (evA gInt (evCons (ev2 gEq (evV1 gLen 16) (evC (.int 0))) (evNil))))) (evNil))) (evNil)))))))))))) (sNx))
  (sSeq (sIf (evT (ev2 gEq (evCI 2 (F__law_next) 0 (evCons (evC (.int 20)) (evNil))) (evC (.int 0)))) (sRet (evA gTupD (evCons (evC (.str "call")) (evCons (ev2 gIx (evA gLstD (evCons (evC (.str "a")) (evCons (evC (.str "b")) (evCons (evC (.str "c")) (evCons (evC (.str "v")) (evCons (evC (.str "d")) (evNil))))))) (evCI 2 (F__law_next) 0 (evCons (evC (.int 5)) (evNil)))) (evCons (ev2 gRepTA (evA gTupD (evCons (evA gTupD (evCons (evC (.str "number")) (evCons (evC (.int 1)) (evNil)))) (evNil))) (evCI 2 (F__law_next) 0 (evCons (evC (.int 2)) (evNil)))) (evNil)))))) (sNx))
  (sSeq (sAsg 20 (evLc [10] (ixSeq (evA gLstD (evCons (evC (.str "f")) (evCons (evC (.str "g")) (evCons (evC (.str "h")) (evCons (evC (.str "k")) (evNil))))))) (gx 10) (W__law_choice_4 G__law_term G__law_choice G__law_made) (C__law_choice_3 G__law_term G__law_choice G__law_made)))
  (sSeq (sIf (evT (ev2 gEq (evV1 gLen 20) (evC (.int 0)))) (sRet (evCI 2 (F__law_plain) 0 (evCons (evVar 3) (evNil)))) (sNx))
  (sSeq (sAsg 10 (evIxV gIx 20 (evCI 2 (F__law_next) 0 (evCons (evV1 gLen 20) (evNil)))))
  (sSeq (sAsg 21 (evLc [23] (ixSeq (ev2 gIx (evIxV gDget 1 (evVar 10)) (evC (.int 1)))) (gx 23) (evYes) (C__law_choice_5 G__law_term G__law_choice G__law_made)))
  (sRet (evA gTupD (evCons (evC (.str "call")) (evCons (evVar 10) (evCons (evA (gOne gTuple) (evCons (evIxV gAdd 21 (evRepL (evA gLstD (evCons (evA gTupD (evCons (evC (.str "number")) (evCons (evC (.int 3)) (evNil)))) (evNil))) (evA gInt (evCons (ev2 gEq (evCI 2 (F__law_next) 0 (evCons (evC (.int 30)) (evNil))) (evC (.int 0))) (evNil))))) (evNil))) (evNil))))))))))))))))
def C__law_made_1 (G__law_term : GI) (G__law_choice : GI) (G__law_made : GI) : EX := evCI 6 (G__law_term) 0 (evCons (evVar 1) (evCons (evVar 2) (evCons (evVar 6) (evCons (evVar 4) (evCons (evVar 5) (evNil))))))
def C__law_made_2 (G__law_term : GI) (G__law_choice : GI) (G__law_made : GI) : EX := evCI 6 (G__law_term) 0 (evCons (evVar 1) (evCons (evVar 2) (evCons (evVar 14) (evCons (evVar 4) (evCons (evVar 5) (evNil))))))
def b__law_made (G__law_term : GI) (G__law_choice : GI) (G__law_made : GI) : SX := sSeq (sIf (evT (ev2 gGt (evIxV gIx 3 (evC (.int 0))) (evC (.int 0)))) (sSeq (sAsg 6 (evA gTupD (evCons (ev2 gSub (evIxV gIx 3 (evC (.int 0))) (evC (.int 1))) (evCons (evIxV gIx 3 (evC (.int 1))) (evNil)))))
  (sSeq (sIf (evT (ev2 gEq (evCI 2 (F__law_next) 0 (evCons (evC (.int 2)) (evNil))) (evC (.int 0)))) (sSeq (sAsg 7 (evCI 6 (G__law_term) 0 (evCons (evVar 1) (evCons (evVar 2) (evCons (evVar 6) (evCons (evVar 4) (evCons (evVar 5) (evNil))))))))
  (sRet (evA gTupD (evCons (evC (.str "cons")) (evCons (evVar 7) (evCons (evCI 6 (G__law_term) 0 (evCons (evVar 1) (evCons (evVar 2) (evCons (evVar 3) (evCons (evVar 4) (evCons (evVar 5) (evNil))))))) (evNil))))))) (sNx))
  (sSeq (sAsg 8 (evCI 2 (F__law_next) 0 (evCons (evC (.int 3)) (evNil))))
  (sRet (evA gTupD (evCons (evC (.str "list")) (evCons (evA (gOne gTuple) (evCons (evLc [13] (ixR1 (evCons (evVar 8) (evNil))) (gx 13) (evYes) (C__law_made_1 G__law_term G__law_choice G__law_made)) (evNil))) (evNil)))))))) (sNx))
  (sSeq (sIf (evT (ev2 (gIn false) (evIxV gIx 3 (evC (.int 1))) (evA gLstD (evCons (evC (.str "d")) (evCons (evC (.str "e")) (evNil)))))) (sSeq (sAsgT (ev2 gIx (ev2 gIx (evIxV gDget 1 (evIxV gIx 3 (evC (.int 1)))) (evC (.int 1))) (evCI 2 (F__law_next) 0 (evCons (evA (gOne gLen) (evCons (ev2 gIx (evIxV gDget 1 (evIxV gIx 3 (evC (.int 1)))) (evC (.int 1))) (evNil))) (evNil)))) (gxTup (gxCons (gx 9) (gxCons (gx 10) (gxNil))) 2))
  (sRet (evA gTupD (evCons (evC (.str "make")) (evCons (evVar 9) (evCons (evA (gOne gTuple) (evCons (evLc [14] (ixSeq (evVar 10)) (gx 14) (evYes) (C__law_made_2 G__law_term G__law_choice G__law_made)) (evNil))) (evNil))))))) (sNx))
  (sSeq (sAsg 11 (ev2 gDget (evDisp (evPc (evC (.str "num")) (evA gLstD (evCons (evC (.str "+")) (evCons (evC (.str "-")) (evCons (evC (.str "*")) (evCons (evC (.str "/")) (evCons (evC (.str "mod")) (evNil))))))) (evPc (evC (.str "text")) (evA gLstD (evCons (evC (.str "++")) (evNil))) (evPc (evC (.str "bool")) (evA gLstD (evCons (evC (.str "=")) (evCons (evC (.str "<")) (evCons (evC (.str "and")) (evCons (evC (.str "or")) (evCons (evC (.str "not")) (evNil))))))) (evPn))))) (evIxV gIx 3 (evC (.int 1)))))
  (sSeq (sAsg 11 (evIxV gIx 11 (evCI 2 (F__law_next) 0 (evCons (evV1 gLen 11) (evNil)))))
  (sSeq (sAsg 12 (evVar 3))
  (sSeq (sIf (evT (evIxV gEq 11 (evC (.str "=")))) (sAsg 12 (evCI 1 (F__law_drawn_kind) 0 (evNil))) (sNx))
  (sSeq (sIf (evT (evIxV gEq 11 (evC (.str "<")))) (sAsg 12 (evA gTupD (evCons (evC (.int 0)) (evCons (evC (.str "num")) (evNil))))) (sNx))
  (sSeq (sAsg 7 (evCI 6 (G__law_term) 0 (evCons (evVar 1) (evCons (evVar 2) (evCons (evVar 12) (evCons (evVar 4) (evCons (evVar 5) (evNil))))))))
  (sSeq (sIf (evT (evIxV gEq 11 (evC (.str "not")))) (sRet (evA gTupD (evCons (evC (.str "not")) (evCons (evVar 7) (evNil))))) (sNx))
  (sRet (evA gTupD (evCons (evC (.str "binary")) (evCons (evVar 11) (evCons (evVar 7) (evCons (evCI 6 (G__law_term) 0 (evCons (evVar 1) (evCons (evVar 2) (evCons (evVar 12) (evCons (evVar 4) (evCons (evVar 5) (evNil))))))) (evNil)))))))))))))))
mutual
def F__law_term : Nat → GI
  | 0 => fun _ _ => none
  | k + 1 => runI 6 4 (b__law_term (F__law_term k) (F__law_choice k) (F__law_made k))
def F__law_choice : Nat → GI
  | 0 => fun _ _ => none
  | k + 1 => runI 6 18 (b__law_choice (F__law_term k) (F__law_choice k) (F__law_made k))
def F__law_made : Nat → GI
  | 0 => fun _ _ => none
  | k + 1 => runI 6 9 (b__law_made (F__law_term k) (F__law_choice k) (F__law_made k))
end
def C__law_definition_1 : EX := evA gTupD (evCons (evIxV gIx 6 (evVar 10)) (evCons (ev2 gIx (ev2 gIx (evIxV gDget 1 (evVar 2)) (evC (.int 1))) (evVar 10)) (evNil)))
def L__law_definition_2 : SX := sDrop (evApp 8 (evA gTupD (evCons (evVar 9) (evCons (evCI 6 (F__law_term 12) 0 (evCons (evVar 1) (evCons (evVar 7) (evCons (ev2 gIx (evIxV gDget 1 (evVar 9)) (evC (.int 2))) (evCons (evC (.int 2)) (evCons (evC (.bool false)) (evNil))))))) (evNil)))))
def b__law_definition : SX := sSeq (sAsg 3 (ev2 gIx (evIxV gDget 1 (evVar 2)) (evC (.int 0))))
  (sSeq (sIf (evT (evIxV gEq 3 (evC (.str "data")))) (sRet (evA gTupD (evCons (evC (.str "data")) (evCons (evVar 2) (evCons (ev2 gIx (evIxV gDget 1 (evVar 2)) (evC (.int 1))) (evNil)))))) (sNx))
  (sSeq (sIf (evT (evIxV gEq 3 (evC (.str "view")))) (sRet (evA gTupD (evCons (evC (.str "view")) (evCons (evVar 2) (evCons (evCI 6 (F__law_term 12) 0 (evCons (evVar 1) (evCons (evA gLstD (evNil)) (evCons (ev2 gIx (evIxV gDget 1 (evVar 2)) (evC (.int 2))) (evCons (evC (.int 3)) (evCons (evC (.bool false)) (evNil))))))) (evNil)))))) (sNx))
  (sSeq (sIf (evT (evIxV gEq 3 (evC (.str "cell")))) (sSeq (sAsg 4 (ev2 gIx (evA gLstD (evCons (evC .none) (evCons (evC .none) (evCons (evC (.str "f")) (evCons (evC (.str "g")) (evCons (evC (.str "v")) (evCons (evC (.str "a")) (evCons (evC (.str "b")) (evNil))))))))) (evCI 2 (F__law_next) 0 (evCons (evC (.int 7)) (evNil)))))
  (sSeq (sAsg 5 (ev2 gGt (evCI 2 (F__law_next) 0 (evCons (evC (.int 4)) (evNil))) (evC (.int 0))))
  (sRet (evA gTupD (evCons (evC (.str "cell")) (evCons (evVar 2) (evCons (ev2 gIx (evIxV gDget 1 (evVar 2)) (evC (.int 2))) (evCons (evCI 6 (F__law_term 12) 0 (evCons (evVar 1) (evCons (evA gLstD (evNil)) (evCons (ev2 gIx (evIxV gDget 1 (evVar 2)) (evC (.int 2))) (evCons (evC (.int 2)) (evCons (evVar 5) (evNil))))))) (evCons (evVar 4) (evNil)))))))))) (sNx))
  (sSeq (sAsg 6 (evCI 2 (F__law_names) 0 (evCons (evA (gOne gLen) (evCons (ev2 gIx (evIxV gDget 1 (evVar 2)) (evC (.int 1))) (evNil))) (evNil))))
  (sSeq (sAsg 7 (evLc [10] (ixR1 (evCons (evV1 gLen 6) (evNil))) (gx 10) (evYes) (C__law_definition_1)))
  (sSeq (sIf (evT (evIxV gEq 3 (evC (.str "fun")))) (sRet (evA gTupD (evCons (evC (.str "fun")) (evCons (evVar 2) (evCons (evVar 6) (evCons (evCI 6 (F__law_term 12) 0 (evCons (evVar 1) (evCons (evVar 7) (evCons (ev2 gIx (evIxV gDget 1 (evVar 2)) (evC (.int 2))) (evCons (evC (.int 3)) (evCons (ev2 gGt (evCI 2 (F__law_next) 0 (evCons (evC (.int 3)) (evNil))) (evC (.int 0))) (evNil))))))) (evNil))))))) (sNx))
  (sSeq (sAsg 8 (evA gLstD (evNil)))
  (sSeq (sFor (ixSeq (ev2 gIx (evA gLstD (evCons (evA gLstD (evCons (evC (.str "c")) (evNil))) (evCons (evA gLstD (evCons (evC (.str "m")) (evNil))) (evCons (evA gLstD (evCons (evC (.str "c")) (evCons (evC (.str "m")) (evNil)))) (evCons (evA gLstD (evCons (evC (.str "m")) (evCons (evC (.str "m")) (evNil)))) (evCons (evA gLstD (evCons (evC (.str "v")) (evNil))) (evCons (evA gLstD (evNil)) (evCons (evA gLstD (evCons (evC (.str "m")) (evCons (evC (.str "c")) (evNil)))) (evNil))))))))) (evCI 2 (F__law_next) 0 (evCons (evC (.int 7)) (evNil))))) (gx 9) (L__law_definition_2))
  (sRet (evA gTupD (evCons (evC (.str "act")) (evCons (evVar 2) (evCons (evVar 6) (evCons (evV1 gTuple 8) (evCons (evCI 6 (F__law_term 12) 0 (evCons (evVar 1) (evCons (evVar 7) (evCons (ev2 gIx (evIxV gDget 1 (evVar 2)) (evC (.int 2))) (evCons (evC (.int 2)) (evCons (evC (.bool false)) (evNil))))))) (evNil))))))))))))))))
def F__law_definition : GI := runI 3 8 b__law_definition
def L__law_definitions_1 : SX := sSeq (sIf (evT (ev2 gGt (evCI 2 (F__law_next) 0 (evCons (evC (.int 7)) (evNil))) (evC (.int 0)))) (sDrop (evIns 2 (evCI 2 (F__law_next) 0 (evCons (ev2 gAdd (evV1 gLen 2) (evC (.int 1))) (evNil))) (evCI 3 (F__law_definition) 0 (evCons (evVar 1) (evCons (evVar 3) (evNil)))))) (sNx))
  (sIf (evT (ev2 gEq (evCI 2 (F__law_next) 0 (evCons (evC (.int 25)) (evNil))) (evC (.int 0)))) (sDrop (evApp 2 (evCI 3 (F__law_definition) 0 (evCons (evVar 1) (evCons (evVar 3) (evNil)))))) (sNx))
def b__law_definitions : SX := sSeq (sAsg 1 (evCI 1 (F__law_plan) 0 (evNil)))
  (sSeq (sAsg 2 (evA gLstD (evNil)))
  (sSeq (sFor (ixSeq (evA gLstD (evCons (evC (.str "d")) (evCons (evC (.str "e")) (evCons (evC (.str "f")) (evCons (evC (.str "g")) (evCons (evC (.str "h")) (evCons (evC (.str "k")) (evCons (evC (.str "c")) (evCons (evC (.str "m")) (evCons (evC (.str "v")) (evCons (evC (.str "w")) (evCons (evC (.str "a")) (evCons (evC (.str "b")) (evNil))))))))))))))) (gx 3) (L__law_definitions_1))
  (sRet (evVar 2))))
def F__law_definitions : GI := runI 1 3 b__law_definitions
def L__law_used_1 (F : GA) : SX := sAsg 4 (ev2 gAdd (evIxV gAdd 4 (evA gLstD (evCons (evGet2 2 (evVar 5) (evVar 5)) (evNil)))) (evA (gN 3 (F)) (evCons (evVar 7) (evCons (evIxV gAdd 1 (evV1 gList 6)) (evCons (evVar 2) (evNil))))))
def L__law_used_2 (F : GA) : SX := sAsg 4 (evIxV gAdd 4 (evA (gN 3 (F)) (evCons (evVar 9) (evCons (evVar 1) (evCons (evVar 2) (evNil))))))
def b__law_used (F : GA) : SX := sSeq (sAsg 3 (evIxV gIx 0 (evC (.int 0))))
  (sSeq (sIf (evT (ev2 (gIn false) (evVar 3) (evA gLstD (evCons (evC (.str "number")) (evCons (evC (.str "text")) (evCons (evC (.str "bool")) (evNil))))))) (sRet (evA gLstD (evNil))) (sNx))
  (sSeq (sIf (evT (evIxV gEq 3 (evC (.str "name")))) (sRet (evRepL (evA gLstD (evCons (evIxV gIx 0 (evC (.int 1))) (evNil))) (evA gInt (evCons (evVIn (gIn true) (evIxV gIx 0 (evC (.int 1))) 1) (evNil))))) (sNx))
  (sSeq (sIf (evT (evIxV gEq 3 (evC (.str "let")))) (sRet (ev2 gAdd (evA (gN 3 (F)) (evCons (evIxV gIx 0 (evC (.int 2))) (evCons (evVar 1) (evCons (evVar 2) (evNil))))) (evA (gN 3 (F)) (evCons (evIxV gIx 0 (evC (.int 3))) (evCons (evIxV gAdd 1 (evA gLstD (evCons (evIxV gIx 0 (evC (.int 1))) (evNil)))) (evCons (evVar 2) (evNil))))))) (sNx))
  (sSeq (sIf (evT (evIxV gEq 3 (evC (.str "split")))) (sSeq (sAsg 4 (ev2 gAdd (evA (gN 3 (F)) (evCons (evIxV gIx 0 (evC (.int 1))) (evCons (evVar 1) (evCons (evVar 2) (evNil))))) (evA (gN 3 (F)) (evCons (evIxV gIx 0 (evC (.int 2))) (evCons (evVar 1) (evCons (evVar 2) (evNil)))))))
  (sRet (evIxV gAdd 4 (evA (gN 3 (F)) (evCons (evIxV gIx 0 (evC (.int 5))) (evCons (evIxV gAdd 1 (evA gLstD (evCons (evIxV gIx 0 (evC (.int 3))) (evCons (evIxV gIx 0 (evC (.int 4))) (evNil))))) (evCons (evVar 2) (evNil)))))))) (sNx))
  (sSeq (sIf (evT (evIxV gEq 3 (evC (.str "match")))) (sSeq (sAsg 4 (evA (gN 3 (F)) (evCons (evIxV gIx 0 (evC (.int 1))) (evCons (evVar 1) (evCons (evVar 2) (evNil))))))
  (sSeq (sFor (ixSeq (evIxV gIx 0 (evC (.int 2)))) (gxTup (gxCons (gx 5) (gxCons (gx 6) (gxCons (gx 7) (gxNil)))) 3) (L__law_used_1 F))
  (sRet (evVar 4)))) (sNx))
  (sSeq (sAsg 4 (evA gLstD (evNil)))
  (sSeq (sAsg 8 (evSlV 0 (evO1 (evC (.int 1))) (evO0)))
  (sSeq (sIf (evT (evIxV gEq 3 (evC (.str "list")))) (sAsg 8 (evIxV gIx 0 (evC (.int 1)))) (sNx))
  (sSeq (sIf (evT (evIxV gEq 3 (evC (.str "binary")))) (sAsg 8 (evSlV 0 (evO1 (evC (.int 2))) (evO0))) (sNx))
  (sSeq (sIf (evOrT (evT (evIxV gEq 3 (evC (.str "call")))) (evT (evIxV gEq 3 (evC (.str "make"))))) (sSeq (sAsg 8 (evIxV gIx 0 (evC (.int 2))))
  (sAsg 4 (evA gLstD (evCons (evIxV gIx 0 (evC (.int 1))) (evNil))))) (sNx))
  (sSeq (sIf (evT (evIxV gEq 3 (evC (.str "make")))) (sAsg 4 (evA gLstD (evCons (evGet2 2 (evIxV gIx 0 (evC (.int 1))) (evIxV gIx 0 (evC (.int 1)))) (evNil)))) (sNx))
  (sSeq (sFor (ixSeq (evVar 8)) (gx 9) (L__law_used_2 F))
  (sRet (evVar 4))))))))))))))
def F__law_used : Nat → GA
  | 0 => fun _ => none
  | k + 1 => runP 3 7 (b__law_used (F__law_used k))
def L__law_uses_1 : SX := sAsg 3 (evIxV gAdd 3 (evA (gN 1 (F__law_used_data)) (evCons (evVar 5) (evNil))))
def L__law_uses_2 : SX := sAsg 3 (ev2 gAdd (evIxV gAdd 3 (evA gLstD (evCons (evVar 6) (evNil)))) (evA (gN 3 (F__law_used 60)) (evCons (evVar 7) (evCons (evA (gOne gList) (evCons (evIxV gIx 0 (evC (.int 2))) (evNil))) (evCons (evVar 1) (evNil))))))
def C__law_uses_3 : EX := evIxV gIx 3 (evVar 8)
def W__law_uses_4 : TX := evT (ev2 (gIn true) (evIxV gIx 3 (evVar 8)) (evSlV 3 (evO0) (evO1 (evVar 8))))
def b__law_uses : SX := sSeq (sAsg 2 (evIxV gIx 0 (evC (.int 0))))
  (sSeq (sAsg 3 (evA gLstD (evNil)))
  (sSeq (sIf (evT (evIxV gEq 2 (evC (.str "data")))) (sFor (ixSeq (evIxV gIx 0 (evC (.int 2)))) (gxTup (gxCons (gx 4) (gxCons (gx 5) (gxNil))) 2) (L__law_uses_1)) (sNx))
  (sSeq (sIf (evT (evIxV gEq 2 (evC (.str "fun")))) (sAsg 3 (evA (gN 3 (F__law_used 60)) (evCons (evIxV gIx 0 (evC (.int 3))) (evCons (evA (gOne gList) (evCons (evIxV gIx 0 (evC (.int 2))) (evNil))) (evCons (evVar 1) (evNil)))))) (sNx))
  (sSeq (sIf (evT (evIxV gEq 2 (evC (.str "view")))) (sAsg 3 (evA (gN 3 (F__law_used 60)) (evCons (evIxV gIx 0 (evC (.int 2))) (evCons (evA gLstD (evNil)) (evCons (evVar 1) (evNil)))))) (sNx))
  (sSeq (sIf (evT (evIxV gEq 2 (evC (.str "cell")))) (sSeq (sAsg 3 (ev2 gAdd (evA (gN 1 (F__law_used_data)) (evCons (evA gLstD (evCons (evIxV gIx 0 (evC (.int 2))) (evNil))) (evNil))) (evA (gN 3 (F__law_used 60)) (evCons (evIxV gIx 0 (evC (.int 3))) (evCons (evA gLstD (evNil)) (evCons (evVar 1) (evNil)))))))
  (sAsg 3 (evIxV gAdd 3 (evRepL (evA gLstD (evCons (evIxV gIx 0 (evC (.int 4))) (evNil))) (evA gInt (evCons (ev2 gNotN (evIxV gIx 0 (evC (.int 4))) (evC .none)) (evNil))))))) (sNx))
  (sSeq (sIf (evT (evIxV gEq 2 (evC (.str "act")))) (sSeq (sFor (ixSeq (evIxV gIx 0 (evC (.int 3)))) (gxTup (gxCons (gx 6) (gxCons (gx 7) (gxNil))) 2) (L__law_uses_2))
  (sAsg 3 (evIxV gAdd 3 (evA (gN 3 (F__law_used 60)) (evCons (evIxV gIx 0 (evC (.int 4))) (evCons (evA (gOne gList) (evCons (evIxV gIx 0 (evC (.int 2))) (evNil))) (evCons (evVar 1) (evNil)))))))) (sNx))
  (sRet (evLc [8] (ixR1 (evCons (evV1 gLen 3) (evNil))) (gx 8) (W__law_uses_4) (C__law_uses_3)))))))))
def F__law_uses : GA := runP 2 7 b__law_uses
def L__all_names_1 (G__all_names : GA) (G__match_names : GA) (G__names : GA) : SX := sDrop (evExA 3 (evA (gN 3 (G__names)) (evCons (evVar 4) (evCons (evVar 1) (evCons (evVar 2) (evNil))))))
def b__all_names (G__all_names : GA) (G__match_names : GA) (G__names : GA) : SX := sSeq (sAsg 3 (evA gLstD (evNil)))
  (sSeq (sFor (ixSeq (evVar 0)) (gx 4) (L__all_names_1 G__all_names G__match_names G__names))
  (sNx))
def L__match_names_1 (G__all_names : GA) (G__match_names : GA) (G__names : GA) : SX := sSeq (sDrop (evApp 3 (evGet2 2 (evVar 4) (evVar 4))))
  (sDrop (evExA 3 (evA (gN 3 (G__names)) (evCons (evVar 6) (evCons (evA gLstD (evStar (evVar 1) (evStar (evVar 5) (evNil)))) (evCons (evVar 2) (evNil)))))))
def b__match_names (G__all_names : GA) (G__match_names : GA) (G__names : GA) : SX := sSeq (sAsg 3 (evA (gN 3 (G__names)) (evCons (evIxV gIx 0 (evC (.int 1))) (evCons (evVar 1) (evCons (evVar 2) (evNil))))))
  (sSeq (sFor (ixSeq (evIxV gIx 0 (evC (.int 2)))) (gxTup (gxCons (gx 4) (gxCons (gx 5) (gxCons (gx 6) (gxNil)))) 3) (L__match_names_1 G__all_names G__match_names G__names))
  (sNx))
def C__names_1 (G__all_names : GA) (G__match_names : GA) (G__names : GA) : EX := evVar 5
def W__names_2 (G__all_names : GA) (G__match_names : GA) (G__names : GA) : TX := evT (evVIn (gIn true) (evVar 5) 1)
def b__names (G__all_names : GA) (G__match_names : GA) (G__names : GA) : SX := sSeq (sAsg 3 (evIxV gIx 0 (evC (.int 0))))
  (sSeq (sIf (evT (evIxV gEq 3 (evC (.str "name")))) (sRet (evLc [5] (ixSeq (evSlV 0 (evO1 (evC (.int 1))) (evO0))) (gx 5) (W__names_2 G__all_names G__match_names G__names) (C__names_1 G__all_names G__match_names G__names))) (sNx))
  (sSeq (sIf (evT (evIxV gEq 3 (evC (.str "list")))) (sRet (evA (gN 3 (G__all_names)) (evCons (evIxV gIx 0 (evC (.int 1))) (evCons (evVar 1) (evCons (evVar 2) (evNil)))))) (sNx))
  (sSeq (sIf (evT (ev2 (gIn false) (evVar 3) (evA gTupD (evCons (evC (.str "cons")) (evCons (evC (.str "not")) (evCons (evC (.str "if")) (evNil))))))) (sRet (evA (gN 3 (G__all_names)) (evCons (evSlV 0 (evO1 (evC (.int 1))) (evO0)) (evCons (evVar 1) (evCons (evVar 2) (evNil)))))) (sNx))
  (sSeq (sIf (evT (evIxV gEq 3 (evC (.str "binary")))) (sRet (evA (gN 3 (G__all_names)) (evCons (evSlV 0 (evO1 (evC (.int 2))) (evO0)) (evCons (evVar 1) (evCons (evVar 2) (evNil)))))) (sNx))
  (sSeq (sIf (evT (evIxV gEq 3 (evC (.str "let")))) (sRet (ev2 gAdd (evA (gN 3 (G__names)) (evCons (evIxV gIx 0 (evC (.int 2))) (evCons (evVar 1) (evCons (evVar 2) (evNil))))) (evA (gN 3 (G__names)) (evCons (evIxV gIx 0 (evC (.int 3))) (evCons (evA gLstD (evStar (evVar 1) (evCons (evIxV gIx 0 (evC (.int 1))) (evNil)))) (evCons (evVar 2) (evNil))))))) (sNx))
  (sSeq (sIf (evT (evIxV gEq 3 (evC (.str "call")))) (sRet (ev2 gAdd (evA gLstD (evCons (evIxV gIx 0 (evC (.int 1))) (evNil))) (evA (gN 3 (G__all_names)) (evCons (evIxV gIx 0 (evC (.int 2))) (evCons (evVar 1) (evCons (evVar 2) (evNil))))))) (sNx))
  (sSeq (sIf (evT (evIxV gEq 3 (evC (.str "make")))) (sRet (ev2 gAdd (evA gLstD (evCons (evGet2 2 (evIxV gIx 0 (evC (.int 1))) (evIxV gIx 0 (evC (.int 1)))) (evNil))) (evA (gN 3 (G__all_names)) (evCons (evIxV gIx 0 (evC (.int 2))) (evCons (evVar 1) (evCons (evVar 2) (evNil))))))) (sNx))
  (sSeq (sIf (evT (evIxV gEq 3 (evC (.str "split")))) (sSeq (sAsg 4 (evA (gN 3 (G__all_names)) (evCons (evSlV 0 (evO1 (evC (.int 1))) (evO1 (evC (.int 3)))) (evCons (evVar 1) (evCons (evVar 2) (evNil))))))
  (sRet (evIxV gAdd 4 (evA (gN 3 (G__names)) (evCons (evIxV gIx 0 (evC (.int 5))) (evCons (evA gLstD (evStar (evVar 1) (evCons (evIxV gIx 0 (evC (.int 3))) (evCons (evIxV gIx 0 (evC (.int 4))) (evNil))))) (evCons (evVar 2) (evNil)))))))) (sNx))
  (sSeq (sIf (evT (evIxV gEq 3 (evC (.str "match")))) (sRet (evA (gN 3 (G__match_names)) (evCons (evVar 0) (evCons (evVar 1) (evCons (evVar 2) (evNil)))))) (sNx))
  (sRet (evA gLstD (evNil))))))))))))
mutual
def F__all_names : Nat → GA
  | 0 => fun _ => none
  | k + 1 => runPV 3 2 3 (b__all_names (F__all_names k) (F__match_names k) (F__names k))
def F__match_names : Nat → GA
  | 0 => fun _ => none
  | k + 1 => runPV 3 4 3 (b__match_names (F__all_names k) (F__match_names k) (F__names k))
def F__names : Nat → GA
  | 0 => fun _ => none
  | k + 1 => runP 3 3 (b__names (F__all_names k) (F__match_names k) (F__names k))
end
def J__all_uses_1 : IX := ixSeq (evA (gN 1 (F__kind_names)) (evCons (evVar 7) (evNil)))
def C__all_uses_2 : EX := evVar 8
def L__all_uses_3 : SX := sSeq (sDrop (evApp 3 (evVar 4)))
  (sDrop (evExA 3 (evA (gN 3 (F__names 100)) (evCons (evVar 5) (evCons (evIxV gIx 0 (evC (.int 2))) (evCons (evVar 1) (evNil)))))))
def b__all_uses : SX := sSeq (sAsg 2 (evIxV gIx 0 (evC (.int 0))))
  (sSeq (sIf (evT (evIxV gEq 2 (evC (.str "data")))) (sRet (evLc2 [6, 7, 8] [8] (ixSeq (evIxV gIx 0 (evC (.int 2)))) (gxTup (gxCons (gx 6) (gxCons (gx 7) (gxNil))) 2) (evYes) (J__all_uses_1) (gx 8) (evYes) (C__all_uses_2))) (sNx))
  (sSeq (sIf (evT (evIxV gEq 2 (evC (.str "fun")))) (sRet (evA (gN 3 (F__names 100)) (evCons (evIxV gIx 0 (evC (.int 3))) (evCons (evIxV gIx 0 (evC (.int 2))) (evCons (evVar 1) (evNil)))))) (sNx))
  (sSeq (sIf (evT (evIxV gEq 2 (evC (.str "view")))) (sRet (evA (gN 3 (F__names 100)) (evCons (evIxV gIx 0 (evC (.int 2))) (evCons (evA gLstD (evNil)) (evCons (evVar 1) (evNil)))))) (sNx))
  (sSeq (sIf (evT (evIxV gEq 2 (evC (.str "cell")))) (sSeq (sAsg 3 (ev2 gAdd (evA (gN 1 (F__kind_names)) (evCons (evA gLstD (evCons (evIxV gIx 0 (evC (.int 2))) (evNil))) (evNil))) (evA (gN 3 (F__names 100)) (evCons (evIxV gIx 0 (evC (.int 3))) (evCons (evA gLstD (evNil)) (evCons (evVar 1) (evNil)))))))
  (sRet (evIf (evT (ev2 gIsN (evIxV gIx 0 (evC (.int 4))) (evC .none))) (evVar 3) (evIxV gAdd 3 (evA gLstD (evCons (evIxV gIx 0 (evC (.int 4))) (evNil))))))) (sNx))
  (sSeq (sAsg 3 (evA gLstD (evNil)))
  (sSeq (sFor (ixSeq (evIxV gIx 0 (evC (.int 3)))) (gxTup (gxCons (gx 4) (gxCons (gx 5) (gxNil))) 2) (L__all_uses_3))
  (sRet (evIxV gAdd 3 (evA (gN 3 (F__names 100)) (evCons (evIxV gIx 0 (evC (.int 4))) (evCons (evIxV gIx 0 (evC (.int 2))) (evCons (evVar 1) (evNil)))))))))))))
def F__all_uses : GA := runP 2 7 b__all_uses
def K_uses_1 : EX := evVar 3
def C_uses_2 : EX := evC (.bool true)
def b_uses : SX := sSeq (sAsg 2 (evDc [3] (ixSeq (evA (gN 2 (F__all_uses)) (evCons (evVar 0) (evCons (evVar 1) (evNil))))) (gx 3) (evYes) (K_uses_1) (C_uses_2)))
  (sRet (evV1 gKeys 2))
def F_uses : GA := runP 2 2 b_uses
def C_makers_used_1 : EX := evVar 1
def W_makers_used_2 : TX := evTr (ev1 gUpper (evSlV 1 (evO0) (evO1 (evC (.int 1)))))
def b_makers_used : SX := sRet (evLc [1] (ixSeq (evA (gN 2 (F_uses)) (evCons (evVar 0) (evCons (evDnew) (evNil))))) (gx 1) (W_makers_used_2) (C_makers_used_1))
def F_makers_used : GA := runP 1 1 b_makers_used
def L_law_1 : SX := sIf (evT (ev2 gGt (evCI 2 (F__law_next) 1 (evCons (evC (.int 3)) (evNil))) (evC (.int 0)))) (sDput 3 (evVar 4) (ev2 gIx (evA gLstD (evCons (evC (.str "d")) (evCons (evC (.str "e")) (evCons (evC (.str "dd")) (evNil))))) (evCI 2 (F__law_next) 1 (evCons (evC (.int 3)) (evNil))))) (sNx)
def C_law_2 : EX := evVar 10
def W_law_3 : TX := evT (ev2 (gInS false) (evIxV gIx 10 (evC (.int 0))) (evC (.str "LNOTS")))
def C_law_4 : EX := evVar 10
def W_law_5 : TX := evT (ev2 (gInS false) (evIxV gIx 10 (evC (.int 0))) (evC (.str "LNOTS")))
def L_law_6 : SX := sSeq (sIf (evNotT (evT (evA (gN 2 (F__law_same 8)) (evCons (evA (gN 1 (F_makes)) (evCons (evVar 6) (evNil))) (evCons (evA (gN 1 (F__law_makes)) (evCons (evVar 6) (evNil))) (evNil)))))) (sRet (evC (.bool false))) (sNx))
  (sSeq (sAsg 7 (evA (gN 2 (F_uses)) (evCons (evVar 6) (evCons (evVar 5) (evNil)))))
  (sSeq (sIf (evNotT (evT (evCB (gN 2 (F__law_same 8)) (evBor 7 (evCons (evCB (gN 2 (F__law_uses)) (evCons (evVar 6) (evBor 3 (evNil)))) (evNil)))))) (sRet (evC (.bool false))) (sNx))
  (sSeq (sIf (evNotT (evT (evA (gN 2 (F__law_same 8)) (evCons (evA (gN 1 (F_makers_used)) (evCons (evVar 6) (evNil))) (evCons (evLc [10] (ixSeq (evA (gN 2 (F__law_uses)) (evCons (evVar 6) (evCons (evDnew) (evNil))))) (gx 10) (W_law_3) (C_law_2)) (evNil)))))) (sRet (evC (.bool false))) (sNx))
  (sSeq (sDrop (evApp 7 (evC (.str "z"))))
  (sSeq (sDrop (evAppT (evA (gN 1 (F_makes)) (evCons (evVar 6) (evNil))) (evC (.str "z"))))
  (sSeq (sDrop (evAppT (evA (gN 1 (F_makers_used)) (evCons (evVar 6) (evNil))) (evC (.str "z"))))
  (sSeq (sIf (evNotT (evT (evA (gN 2 (F__law_same 8)) (evCons (evA (gN 2 (F_uses)) (evCons (evVar 6) (evCons (evDnew) (evNil)))) (evCons (evA (gN 2 (F__law_uses)) (evCons (evVar 6) (evCons (evDnew) (evNil)))) (evNil)))))) (sRet (evC (.bool false))) (sNx))
  (sSeq (sIf (evNotT (evT (evA (gN 2 (F__law_same 8)) (evCons (evA (gN 1 (F_makers_used)) (evCons (evVar 6) (evNil))) (evCons (evLc [10] (ixSeq (evA (gN 2 (F__law_uses)) (evCons (evVar 6) (evCons (evDnew) (evNil))))) (gx 10) (W_law_5) (C_law_4)) (evNil)))))) (sRet (evC (.bool false))) (sNx))
  (sSeq (sIf (evNotT (evT (evA (gN 2 (F__law_same 8)) (evCons (evA (gN 2 (F_uses)) (evCons (evVar 6) (evCons (evVar 5) (evNil)))) (evCons (evCB (gN 2 (F__law_uses)) (evCons (evVar 6) (evBor 3 (evNil)))) (evNil)))))) (sRet (evC (.bool false))) (sNx))
  (sIf (evNotT (evT (evA (gN 2 (F__law_same 8)) (evCons (evA (gN 1 (F_makes)) (evCons (evVar 6) (evNil))) (evCons (evA (gN 1 (F__law_makes)) (evCons (evVar 6) (evNil))) (evNil)))))) (sRet (evC (.bool false))) (sNx)))))))))))
def L_law_7 : SX := sAsg 8 (ev2 gIx (evA gLstD (evCons (evA gTupD (evCons (evC (.str "let")) (evCons (evC (.str "y")) (evCons (evA gTupD (evCons (evC (.str "number")) (evCons (evVar 9) (evNil)))) (evCons (evVar 8) (evNil)))))) (evCons (evA gTupD (evCons (evC (.str "binary")) (evCons (evC (.str "+")) (evCons (evVar 8) (evCons (evA gTupD (evCons (evC (.str "number")) (evCons (evVar 9) (evNil)))) (evNil)))))) (evNil)))) (evCI 2 (F__law_next) 1 (evCons (evC (.int 2)) (evNil))))
def b_law : SX := sSeq (sAsg 1 (evA gLstD (evCons (evA (gN 1 (F__law_draws)) (evCons (evVar 0) (evNil))) (evCons (evC (.int 20)) (evNil)))))
  (sSeq (sAsg 2 (evCI 1 (F__law_definitions) 1 (evNil)))
  (sSeq (sAsg 3 (evDnew))
  (sSeq (sFor (ixSeq (evA gLstD (evCons (evC (.str "Leaf")) (evCons (evC (.str "Node")) (evCons (evC (.str "One")) (evCons (evC (.str "Two")) (evCons (evC (.str "Six")) (evCons (evC (.str "Nought")) (evNil))))))))) (gx 4) (L_law_1))
  (sSeq (sAsg 5 (evV1 gCopyD 3))
  (sSeq (sFor (ixSeq (evVar 2)) (gx 6) (L_law_6))
  (sSeq (sAsg 8 (evA gTupD (evCons (evC (.str "name")) (evCons (evC (.str "deepest")) (evNil)))))
  (sSeq (sFor (ixR1 (evCons (evCI 2 (F__law_next) 1 (evCons (evC (.int 41)) (evNil))) (evNil))) (gx 9) (L_law_7))
  (sSeq (sIf (evNotT (evT (evA (gN 2 (F__law_same 8)) (evCons (evA (gN 2 (F_uses)) (evCons (evA gTupD (evCons (evC (.str "view")) (evCons (evC (.str "q")) (evCons (evVar 8) (evNil))))) (evCons (evVar 5) (evNil)))) (evCons (evA gLstD (evCons (evC (.str "deepest")) (evNil))) (evNil)))))) (sRet (evC (.bool false))) (sNx))
  (sRet (evCB (gN 2 (F__law_is_dict)) (evCons (evVar 5) (evBor 3 (evNil)))))))))))))
def F_law : GA := runP 1 10 b_law
end My
end
section
set_option Elab.async false
set_option linter.all false
set_option maxRecDepth 100000
set_option maxHeartbeats 2000000
namespace My
open PySem PySem.Spec PyProof.Rows L2 Qp
/-! expressions and the names that they use, by themselves -/
inductive E where
  | num (i : Int) | text (s : Str) | bool (b : Bool) | name (s : Str) | list (es : List E) | cons (a b : E) | bin (o : Str) (a b : E) | not (a : E) | ite (c a b : E) | lett (x : Str) (a b : E)
  | call (f : Str) (es : List E) | make (m : Str) (es : List E) | split (a b : E) (h t : Str) (c : E) | mat (a : E) (ms : List Str) (ns : List (List Str)) (es : List E)
def armsD : List Str → List (List Str) → List D → List D
  | m :: ms, l :: ls, d :: ds => .tuple [.str m, .tuple (l.map .str), d] :: armsD ms ls ds
  | _, _, _ => []
mutual
def encE : E → D
  | .num i => .tuple [.str "number", .int i]
  | .text s => .tuple [.str "text", .str s]
  | .bool b => .tuple [.str "bool", .bool b]
  | .name s => .tuple [.str "name", .str s]
  | .list es => .tuple [.str "list", .tuple (encEs es)]
  | .cons a b => .tuple [.str "cons", encE a, encE b]
  | .bin o a b => .tuple [.str "binary", .str o, encE a, encE b]
  | .not a => .tuple [.str "not", encE a]
  | .ite c a b => .tuple [.str "if", encE c, encE a, encE b]
  | .lett x a b => .tuple [.str "let", .str x, encE a, encE b]
  | .call f es => .tuple [.str "call", .str f, .tuple (encEs es)]
  | .make m es => .tuple [.str "make", .str m, .tuple (encEs es)]
  | .split a b h t c => .tuple [.str "split", encE a, encE b, .str h, .str t, encE c]
  | .mat a ms ls es => .tuple [.str "match", encE a, .tuple (armsD ms ls (encEs es))]
def encEs : List E → List D
  | [] => []
  | e :: es => encE e :: encEs es
end
theorem encEs_map : ∀ es : List E, encEs es = es.map encE
  | [] => rfl
  | e :: es => by show encE e :: encEs es = _; rw [encEs_map es]; rfl
@[simp] theorem encEs_len (es : List E) : (encEs es).length = es.length := by rw [encEs_map, List.length_map]
/-- where a maker belongs -/
abbrev Mks := List (Str × Str)
def own (mk : Mks) (m : Str) : Str := match mk.find? (fun p => p.1 == m) with
  | some p => p.2
  | none => m
mutual
def us (mk : Mks) : E → List Str → List Str
  | .num _, _ => []
  | .text _, _ => []
  | .bool _, _ => []
  | .name x, l => if l.contains x = true then [] else [x]
  | .list es, l => uss mk es l
  | .cons a b, l => us mk a l ++ us mk b l
  | .bin _ a b, l => us mk a l ++ us mk b l
  | .not a, l => us mk a l
  | .ite c a b, l => us mk c l ++ us mk a l ++ us mk b l
  | .lett x a b, l => us mk a l ++ us mk b (l ++ [x])
  | .call f es, l => [f] ++ uss mk es l
  | .make m es, l => [own mk m] ++ uss mk es l
  | .split a b h t c, l => us mk a l ++ us mk b l ++ us mk c (l ++ [h, t])
  | .mat a ms ls es, l => us mk a l ++ usa mk ms ls es l
def uss (mk : Mks) : List E → List Str → List Str
  | [], _ => []
  | e :: es, l => us mk e l ++ uss mk es l
def usa (mk : Mks) : List Str → List (List Str) → List E → List Str → List Str
  | m :: ms, n :: ns, e :: es, l => [own mk m] ++ us mk e (l ++ n) ++ usa mk ms ns es l
  | _, _, _, _ => []
end
mutual
/-- how many forms -/
def nd : E → Nat
  | .num _ => 1
  | .text _ => 1
  | .bool _ => 1
  | .name _ => 1
  | .list es => 1 + nds es
  | .cons a b => 3 + nd a + nd b
  | .bin _ a b => 3 + nd a + nd b
  | .not a => 2 + nd a
  | .ite c a b => 4 + nd c + nd a + nd b
  | .lett _ a b => 1 + nd a + nd b
  | .call _ es => 1 + nds es
  | .make _ es => 1 + nds es
  | .split a b _ _ c => 1 + nd a + nd b + nd c
  | .mat a _ _ es => 1 + nd a + nds es
def nds : List E → Nat
  | [] => 0
  | e :: es => 1 + nd e + nds es
end
mutual
theorem us_len (mk : Mks) : ∀ (e : E) (l : List Str), (us mk e l).length ≤ nd e
  | .num _, _ => by simp [us]
  | .text _, _ => by simp [us]
  | .bool _, _ => by simp [us]
  | .name x, l => by simp only [us, nd]; split <;> simp
  | .list es, l => by have := uss_len mk es l; simp only [us, nd]; omega
  | .cons a b, l => by have := us_len mk a l; have := us_len mk b l; simp only [us, nd, List.length_append]; omega
  | .bin _ a b, l => by have := us_len mk a l; have := us_len mk b l; simp only [us, nd, List.length_append]; omega
  | .not a, l => by have := us_len mk a l; simp only [us, nd]; omega
  | .ite c a b, l => by have := us_len mk c l; have := us_len mk a l; have := us_len mk b l; simp only [us, nd, List.length_append]; omega
  | .lett x a b, l => by have := us_len mk a l; have := us_len mk b (l ++ [x]); simp only [us, nd, List.length_append]; omega
  | .call f es, l => by have := uss_len mk es l; simp only [us, nd, List.length_append, List.length_singleton]; omega
  | .make m es, l => by have := uss_len mk es l; simp only [us, nd, List.length_append, List.length_singleton]; omega
  | .split a b h t c, l => by have := us_len mk a l; have := us_len mk b l; have := us_len mk c (l ++ [h, t]); simp only [us, nd, List.length_append]; omega
  | .mat a ms ls es, l => by have := us_len mk a l; have := usa_len mk ms ls es l; simp only [us, nd, List.length_append]; omega
theorem uss_len (mk : Mks) : ∀ (es : List E) (l : List Str), (uss mk es l).length ≤ nds es
  | [], _ => by simp [uss]
  | e :: es, l => by have := us_len mk e l; have := uss_len mk es l; simp only [uss, nds, List.length_append]; omega
theorem usa_len (mk : Mks) : ∀ (ms : List Str) (ns : List (List Str)) (es : List E) (l : List Str), (usa mk ms ns es l).length ≤ nds es
  | m :: ms, n :: ns, e :: es, l => by have := us_len mk e (l ++ n); have := usa_len mk ms ns es l; simp only [usa, nds, List.length_append, List.length_singleton]; omega
  | [], _, _, _ => by simp [usa]
  | _ :: _, [], _, _ => by simp [usa]
  | _ :: _, _ :: _, [], _ => by simp [usa]
end
def NMS : List Str := ["x", "y", "z", "f", "g", "h", "k", "c", "m", "v", "w", "a", "b", "d", "e", "zz", "dd", "q", "deepest", "Leaf", "Node", "One", "Two", "Six", "Nought"]
/-- a name that the law draws -/
def Sok (s : Str) : Prop := s ∈ NMS
/-- bounded: k deep -/
def EOk : Nat → E → Prop
  | 0, _ => False
  | k + 1, e => match e with
    | .num _ => True
    | .bool _ => True
    | .text _ => True
    | .name s => Sok s
    | .list es => es.length ≤ 10 ∧ ∀ x ∈ es, EOk k x
    | .cons a b => EOk k a ∧ EOk k b
    | .bin _ a b => True ∧ EOk k a ∧ EOk k b
    | .not a => EOk k a
    | .ite c a b => EOk k c ∧ EOk k a ∧ EOk k b
    | .lett x a b => Sok x ∧ EOk k a ∧ EOk k b
    | .call f es => Sok f ∧ es.length ≤ 10 ∧ ∀ x ∈ es, EOk k x
    | .make m es => Sok m ∧ es.length ≤ 10 ∧ ∀ x ∈ es, EOk k x
    | .split a b h t c => Sok h ∧ Sok t ∧ EOk k a ∧ EOk k b ∧ EOk k c
    | .mat a ms ls es => EOk k a ∧ (∀ m ∈ ms, Sok m) ∧ (∀ l ∈ ls, l.length ≤ 5 ∧ ∀ s ∈ l, Sok s) ∧ es.length ≤ 10 ∧ ms.length = es.length ∧ ls.length = es.length ∧ ∀ x ∈ es, EOk k x
end My
end
section
set_option Elab.async false
set_option linter.all false
set_option maxRecDepth 100000
set_option maxHeartbeats 8000000
namespace My
open PySem PySem.Spec PyProof.Rows L2 Qp
def mkD (mk : Mks) : D := .dict (mk.map fun p => (.str p.1, .str p.2))
theorem val_mk : ∀ (mk : Mks) (m : Str), (valD (mk.map fun p => ((.str p.1, .str p.2) : D × D)) (.inr m)).getD (.str m) = .str (own mk m)
  | [], _ => rfl
  | p :: r, m => by
    have ih := val_mk r m
    unfold valD own at *
    rw [List.map_cons, List.find?_cons, List.find?_cons]
    have e : isK (.inr m) (.str p.1) = (p.1 == m) := by
      show decide ((.inr p.1 : Key) = .inr m) = _
      by_cases h : p.1 = m
      · subst h; simp
      · have h2 : (p.1 == m) = false := by simp [h]
        rw [h2, decide_eq_false]
        intro z
        exact h (Sum.inr.inj z)
    dsimp only
    rw [e]
    cases c : p.1 == m with
    | true => rfl
    | false => exact ih
theorem LIMle {n : Nat} (h : n ≤ 1000000) : n ≤ LIM := Nat.le_trans h (by decide)
theorem addS {a b : List Str} (h : a.length + b.length ≤ 1000000) : gAdd (.list (a.map .str)) (.list (b.map .str)) = some (.list ((a ++ b).map .str), true) := by
  rw [gAdd_ll (LIMle (by rw [List.length_map, List.length_map]; exact h)), List.map_append]
theorem loopF_step {gt : GX} {p : SX} {x : D} {r : List D} {cs c1 c2 : En} (h1 : gt x cs = some c1) (h2 : p c1 = some (.nx c2)) : loopF gt p (x :: r) cs = loopF gt p r c2 := by
  rw [loopF_cons, h1, kL1_s, h2, kL2_n]
theorem in_strs {l : List Str} {x : Str} : gIn true (.str x) (.list (l.map .str)) = some (.bool (!l.contains x), false) := by
  have h1 : (flatD (.str x) && (l.map PyData.str).all flatD) = true := by
    rw [Bool.and_eq_true]
    refine ⟨rfl, List.all_eq_true.mpr fun d hd => ?_⟩
    obtain ⟨s, _, rfl⟩ := List.mem_map.mp hd
    rfl
  show (if (flatD (.str x) && (l.map PyData.str).all flatD) = true then _ else _) = _
  rw [if_pos h1]
  have h2 : ∀ l : List Str, ((l.map PyData.str).any fun e => PyData.eqv e (.str x)) = l.contains x := by
    intro l
    induction l with
    | nil => rfl
    | cons s r ih =>
      rw [List.map_cons, List.any_cons, ih, List.contains_cons]
      have e : PyData.eqv (.str s) (.str x) = (s == x) := rfl
      rw [e]
      have : (s == x) = (x == s) := by
        rw [Bool.eq_iff_iff, beq_iff_eq, beq_iff_eq]
        exact eq_comm
      rw [this]
  rw [h2]
  rfl
/-- a loop over parts -/
theorem lu_parts {mk : Mks} {l : List Str} {F : GA} {P : E → Prop} (ih : ∀ e, P e → ∃ fr, F [encE e, .list (l.map .str), mkD mk] = some (.list ((us mk e l).map .str), fr)) {a0 a3 c5 c6 c7 c8 : Cell} :
    ∀ (es : List E), (∀ e ∈ es, P e) → ∀ (acc : List Str) (x : Cell), acc.length + nds es ≤ 500000 → kNo (some x) = true →
      ∃ y, loopF (gx 9) (L__law_used_2 F) (encEs es) [a0, .dat (.list (l.map .str)), .dat (mkD mk), a3, .own (.list (acc.map .str)), c5, c6, c7, c8, x] = some (.nx [a0, .dat (.list (l.map .str)), .dat (mkD mk), a3, .own (.list ((acc ++ uss mk es l).map .str)), c5, c6, c7, c8, y])
  | [], _, acc, x, _, _ => ⟨x, by simp [encEs, uss]⟩
  | e :: r, ho, acc, x, hl, hx => by
    obtain ⟨fr, he⟩ := ih e (ho e List.mem_cons_self)
    have h1 := us_len mk e l
    simp only [nds] at hl
    have ea := addS (a := acc) (b := us mk e l) (by omega)
    obtain ⟨y, q⟩ := lu_parts (a0 := a0) (a3 := a3) (c5 := c5) (c6 := c6) (c7 := c7) (c8 := c8) ih r (fun x hx => ho x (List.mem_cons_of_mem _ hx)) (acc ++ us mk e l) (.dat (encE e)) (by rw [List.length_append]; omega) rfl
    refine ⟨y, ?_⟩
    rw [List.append_assoc] at q
    show loopF _ _ (encE e :: encEs r) _ = _
    generalize l.map PyData.str = L at *
    generalize mkD mk = M at *
    have hb : L__law_used_2 F [a0, .dat (.list L), .dat M, a3, .own (.list (acc.map .str)), c5, c6, c7, c8, .dat (encE e)] = some (.nx [a0, .dat (.list L), .dat M, a3, .own (.list ((acc ++ us mk e l).map .str)), c5, c6, c7, c8, .dat (encE e)]) := by
      simp -implicitDefEqProofs [L__law_used_2, he, ea]
    rw [loopF_step (c1 := [a0, .dat (.list L), .dat M, a3, .own (.list (acc.map .str)), c5, c6, c7, c8, .dat (encE e)]) (by simp [hx]) hb, q]
    rfl
end My
end
section
set_option Elab.async false
set_option linter.all false
set_option maxRecDepth 100000
set_option maxHeartbeats 8000000
namespace My
open PySem PySem.Spec PyProof.Rows L2 Qp
theorem nd_mem : ∀ {es : List E} {e : E}, e ∈ es → nd e ≤ nds es
  | [], _, h => by cases h
  | x :: es, e, h => by
    simp only [nds]
    rcases List.mem_cons.mp h with rfl | h
    · omega
    · have := nd_mem h
      omega
theorem val_mk' (mk : Mks) (m : Str) : (valD (mk.map fun p => ((.str p.1, .str p.2) : D × D)) (.inr m)).getD (.str m) = .str (own mk m) := val_mk mk m
theorem lu_arms {mk : Mks} {l : List Str} {F : GA} {P : E → Prop} (hl : l.length ≤ 1000) (ih : ∀ e n, P e → n.length ≤ 5 → ∃ fr, F [encE e, .list ((l ++ n).map .str), mkD mk] = some (.list ((us mk e (l ++ n)).map .str), fr)) {a0 a3 c8 c9 : Cell} :
    ∀ (ms : List Str) (ns : List (List Str)) (es : List E), (∀ n ∈ ns, n.length ≤ 5) → (∀ e ∈ es, P e) → ∀ (acc : List Str) (b4 : Bool) (x y z : Cell), acc.length + nds es ≤ 500000 → kNo (some x) = true → kNo (some y) = true → kNo (some z) = true →
      ∃ b4' x' y' z', loopF (gxTup (gxCons (gx 5) (gxCons (gx 6) (gxCons (gx 7) (gxNil)))) 3) (L__law_used_1 F) (armsD ms ns (encEs es)) [a0, .dat (.list (l.map .str)), .dat (mkD mk), a3, Qp.cellOf b4 (.list (acc.map .str)), x, y, z, c8, c9] = some (.nx [a0, .dat (.list (l.map .str)), .dat (mkD mk), a3, Qp.cellOf b4' (.list ((acc ++ usa mk ms ns es l).map .str)), x', y', z', c8, c9])
  | [], _, _, _, _, acc, b4, x, y, z, _, _, _, _ => ⟨b4, x, y, z, by simp [armsD, usa]⟩
  | _ :: _, [], _, _, _, acc, b4, x, y, z, _, _, _, _ => ⟨b4, x, y, z, by simp [armsD, usa]⟩
  | _ :: _, _ :: _, [], _, _, acc, b4, x, y, z, _, _, _, _ => ⟨b4, x, y, z, by simp [armsD, usa, encEs]⟩
  | m :: ms, n :: ns, e :: r, hn, ho, acc, b4, x, y, z, hb, hx, hy, hz => by
    have hn5 := hn n List.mem_cons_self
    obtain ⟨fr, he⟩ := ih e n (ho e List.mem_cons_self) hn5
    have h1 := us_len mk e (l ++ n)
    simp only [nds] at hb
    have ea := addS (a := acc) (b := [own mk m]) (by simp; omega)
    have eb := addS (a := acc ++ [own mk m]) (b := us mk e (l ++ n)) (by simp; omega)
    have el := addS (a := l) (b := n) (by omega)
    obtain ⟨b5, x', y', z', q⟩ := lu_arms (a0 := a0) (a3 := a3) (c8 := c8) (c9 := c9) hl ih ms ns r (fun x hx => hn x (List.mem_cons_of_mem _ hx)) (fun x hx => ho x (List.mem_cons_of_mem _ hx)) (acc ++ [own mk m] ++ us mk e (l ++ n)) true (.dat (.str m)) (.dat (.tuple (n.map .str))) (.dat (encE e)) (by simp; omega) rfl rfl rfl
    refine ⟨b5, x', y', z', ?_⟩
    have hv := val_mk mk m
    have hu : acc ++ usa mk (m :: ms) (n :: ns) (e :: r) l = acc ++ [own mk m] ++ us mk e (l ++ n) ++ usa mk ms ns r l := by simp [usa]
    rw [hu]
    show loopF _ _ (.tuple [.str m, .tuple (n.map .str), encE e] :: armsD ms ns (encEs r)) _ = _
    have hM : mkD mk = .dict (mk.map fun p => (.str p.1, .str p.2)) := rfl
    have hk : keyD (.str m) = some (.inr m) := rfl
    simp only [List.map_cons, List.map_nil] at ea
    have hb : L__law_used_1 F [a0, .dat (.list (l.map .str)), .dat (mkD mk), a3, Qp.cellOf b4 (.list (acc.map .str)), .dat (.str m), .dat (.tuple (n.map .str)), .dat (encE e), c8, c9] = some (.nx [a0, .dat (.list (l.map .str)), .dat (mkD mk), a3, .own (.list ((acc ++ [own mk m] ++ us mk e (l ++ n)).map .str)), .dat (.str m), .dat (.tuple (n.map .str)), .dat (encE e), c8, c9]) := by
      have he : F [encE e, .list ((l ++ n).map .str), .dict (mk.map fun p => ((.str p.1, .str p.2) : D × D))] = some (.list ((us mk e (l ++ n)).map .str), fr) := he
      rw [hM]
      generalize (mk.map fun p => ((.str p.1, .str p.2) : D × D)) = MM at *
      generalize (acc ++ [own mk m] ++ us mk e (l ++ n)).map PyData.str = Z1 at *
      generalize (acc ++ [own mk m]).map PyData.str = Z2 at *
      generalize (us mk e (l ++ n)).map PyData.str = Z3 at *
      generalize (l ++ n).map PyData.str = Z4 at *
      generalize l.map PyData.str = Z5 at *
      generalize n.map PyData.str = Z6 at *
      generalize acc.map PyData.str = Z7 at *
      cases b4 with
      | true =>
        show L__law_used_1 F [a0, .dat (.list Z5), .dat (.dict MM), a3, .own (.list Z7), .dat (.str m), .dat (.tuple Z6), .dat (encE e), c8, c9] = _
        simp -implicitDefEqProofs [L__law_used_1, hk, hv, ea, el, he, eb]
      | false =>
        show L__law_used_1 F [a0, .dat (.list Z5), .dat (.dict MM), a3, .dat (.list Z7), .dat (.str m), .dat (.tuple Z6), .dat (encE e), c8, c9] = _
        simp -implicitDefEqProofs [L__law_used_1, hk, hv, ea, el, he, eb]
    rw [loopF_step (c1 := [a0, .dat (.list (l.map .str)), .dat (mkD mk), a3, Qp.cellOf b4 (.list (acc.map .str)), .dat (.str m), .dat (.tuple (n.map .str)), .dat (encE e), c8, c9]) (by cases b4 <;> simp [hx, hy, hz]) hb]
    exact q
end My
end
section
set_option Elab.async false
set_option linter.all false
set_option maxRecDepth 100000
set_option maxHeartbeats 8000000
namespace My
open PySem PySem.Spec PyProof.Rows L2 Qp
theorem s_cut1 {a b : D} : cutL [a, b] (some 1) none = [b] := rfl
theorem s_cut2 {a b c : D} : cutL [a, b, c] (some 1) none = [b, c] := rfl
theorem s_cut3 {a b c d : D} : cutL [a, b, c, d] (some 1) none = [b, c, d] := rfl
theorem s_cut4 {a b c d : D} : cutL [a, b, c, d] (some 2) none = [c, d] := rfl
theorem law_used_ok (mk : Mks) : ∀ (k : Nat) (e : E) (l : List Str), EOk k e → l.length + 10 * k ≤ 1000 → nd e ≤ 400000 → ∃ fr, F__law_used k [encE e, .list (l.map .str), mkD mk] = some (.list ((us mk e l).map .str), fr)
  | 0, _, _, h, _, _ => h.elim
  | k + 1, e, l, h, hl, hn => by
    have ih := fun e l h hl hn => law_used_ok mk k e l h hl hn
    have hM : mkD mk = .dict (mk.map fun p => (.str p.1, .str p.2)) := rfl
    have pl := fun (es : List E) (ho : ∀ x ∈ es, EOk k x) (hb : nds es ≤ 400000) (acc : List Str) (ha : acc.length ≤ 10) (a0 a3 c5 c6 c7 c8 : Cell) =>
      lu_parts (mk := mk) (l := l) (F := F__law_used k) (P := fun e => e ∈ es) (fun e he => ih e l (ho e he) (by omega) (by have := nd_mem he; omega)) (a0 := a0) (a3 := a3) (c5 := c5) (c6 := c6) (c7 := c7) (c8 := c8) es (fun e he => he) acc .no (by omega) rfl
    show ∃ fr, runP 3 7 (b__law_used (F__law_used k)) [encE e, .list (l.map .str), mkD mk] = some (.list ((us mk e l).map .str), fr)
    unfold runP b__law_used
    cases e with
    | num i => exact ⟨true, by simp -implicitDefEqProofs [encE, us]⟩
    | text i => exact ⟨true, by simp -implicitDefEqProofs [encE, us]⟩
    | bool i => exact ⟨true, by simp -implicitDefEqProofs [encE, us]⟩
    | name x =>
      have g := in_strs (l := l) (x := x)
      simp only [encE, us]
      generalize l.map PyData.str = L at *
      generalize mkD mk = M at *
      cases c : l.contains x with
      | true =>
        rw [c] at g
        have gr := gRepL_of (ds := [.str x]) (j := 0) (by decide) (by simp)
        exact ⟨true, by simp -implicitDefEqProofs [g, gr]⟩
      | false =>
        rw [c] at g
        have gr := gRepL_of (ds := [.str x]) (j := 1) (by decide) (by simp)
        exact ⟨true, by simp -implicitDefEqProofs [g, gr]⟩
    | list es =>
      simp only [nd] at hn
      obtain ⟨y, q⟩ := pl es h.2 (by omega) [] (by simp) (.dat (encE (.list es))) (.dat (.str "list")) .no .no .no (.dat (.tuple (encEs es)))
      simp only [encE, us, List.nil_append, List.map_nil] at *
      generalize encEs es = DS at *
      generalize (uss mk es l).map PyData.str = R at *
      generalize l.map PyData.str = L at *
      generalize mkD mk = M at *
      exact ⟨false, by simp -implicitDefEqProofs [q, s_cut1]⟩
    | cons a b =>
      simp only [nd] at hn
      obtain ⟨y, q⟩ := pl [a, b] (by simp; exact ⟨h.1, h.2⟩) (by simp only [nds]; omega) [] (by simp) (.dat (encE (.cons a b))) (.dat (.str "cons")) .no .no .no (.dat (.tuple (encEs [a, b])))
      simp only [encE, us, uss, encEs, List.nil_append, List.append_nil, List.map_nil] at *
      generalize (us mk a l ++ us mk b l).map PyData.str = R at *
      generalize l.map PyData.str = L at *
      generalize mkD mk = M at *
      exact ⟨false, by simp -implicitDefEqProofs [q, s_cut2]⟩
    | bin o a b =>
      simp only [nd] at hn
      obtain ⟨y, q⟩ := pl [a, b] (by simp; exact ⟨h.2.1, h.2.2⟩) (by simp only [nds]; omega) [] (by simp) (.dat (encE (.bin o a b))) (.dat (.str "binary")) .no .no .no (.dat (.tuple (encEs [a, b])))
      simp only [encE, us, uss, encEs, List.nil_append, List.append_nil, List.map_nil] at *
      generalize (us mk a l ++ us mk b l).map PyData.str = R at *
      generalize l.map PyData.str = L at *
      generalize mkD mk = M at *
      exact ⟨false, by simp -implicitDefEqProofs [q, s_cut4]⟩
    | not a =>
      simp only [nd] at hn
      have ha : EOk k a := h
      obtain ⟨y, q⟩ := pl [a] (by simp; exact ha) (by simp only [nds]; omega) [] (by simp) (.dat (encE (.not a))) (.dat (.str "not")) .no .no .no (.dat (.tuple (encEs [a])))
      simp only [encE, us, uss, encEs, List.nil_append, List.append_nil, List.map_nil] at *
      generalize (us mk a l).map PyData.str = R at *
      generalize l.map PyData.str = L at *
      generalize mkD mk = M at *
      exact ⟨false, by simp -implicitDefEqProofs [q, s_cut1]⟩
    | ite c a b =>
      simp only [nd] at hn
      obtain ⟨y, q⟩ := pl [c, a, b] (by simp; exact ⟨h.1, h.2.1, h.2.2⟩) (by simp only [nds]; omega) [] (by simp) (.dat (encE (.ite c a b))) (.dat (.str "if")) .no .no .no (.dat (.tuple (encEs [c, a, b])))
      simp only [encE, us, uss, encEs, List.nil_append, List.append_nil, List.map_nil, ← List.append_assoc] at *
      generalize (us mk c l ++ us mk a l ++ us mk b l).map PyData.str = R at *
      generalize l.map PyData.str = L at *
      generalize mkD mk = M at *
      exact ⟨false, by simp -implicitDefEqProofs [q, s_cut3]⟩
    | call f es =>
      simp only [nd] at hn
      obtain ⟨y, q⟩ := pl es h.2.2 (by omega) [f] (by simp) (.dat (encE (.call f es))) (.dat (.str "call")) .no .no .no (.dat (.tuple (encEs es)))
      simp only [encE, us, List.map_cons, List.map_nil] at *
      generalize encEs es = DS at *
      generalize ([f] ++ uss mk es l).map PyData.str = R at *
      generalize l.map PyData.str = L at *
      generalize mkD mk = M at *
      exact ⟨false, by simp -implicitDefEqProofs [q, s_cut2]⟩
    | make m es =>
      simp only [nd] at hn
      have hv := val_mk mk m
      have hk : keyD (.str m) = some (.inr m) := rfl
      obtain ⟨y, q⟩ := pl es h.2.2 (by omega) [own mk m] (by simp) (.dat (encE (.make m es))) (.dat (.str "make")) .no .no .no (.dat (.tuple (encEs es)))
      simp only [encE, us, List.map_cons, List.map_nil, hM] at *
      generalize encEs es = DS at *
      generalize ([own mk m] ++ uss mk es l).map PyData.str = R at *
      generalize l.map PyData.str = L at *
      generalize (mk.map fun p => ((.str p.1, .str p.2) : D × D)) = MM at *
      exact ⟨false, by simp -implicitDefEqProofs [q, s_cut2, hv, hk]⟩
    | lett x a b =>
      simp only [nd] at hn
      obtain ⟨f1, e1⟩ := ih a l h.2.1 (by omega) (by omega)
      obtain ⟨f2, e2⟩ := ih b (l ++ [x]) h.2.2 (by simp; omega) (by omega)
      have u1 := us_len mk a l
      have u2 := us_len mk b (l ++ [x])
      have el := addS (a := l) (b := [x]) (by simp; omega)
      have ea := addS (a := us mk a l) (b := us mk b (l ++ [x])) (by omega)
      simp only [encE, us, List.map_cons, List.map_nil] at *
      generalize (us mk a l ++ us mk b (l ++ [x])).map PyData.str = R at *
      generalize (us mk a l).map PyData.str = R1 at *
      generalize (us mk b (l ++ [x])).map PyData.str = R2 at *
      generalize (l ++ [x]).map PyData.str = L2 at *
      generalize l.map PyData.str = L at *
      generalize mkD mk = M at *
      exact ⟨true, by simp -implicitDefEqProofs [e1, e2, el, ea]⟩
    | split a b u t c =>
      simp only [nd] at hn
      obtain ⟨f1, e1⟩ := ih a l h.2.2.1 (by omega) (by omega)
      obtain ⟨f2, e2⟩ := ih b l h.2.2.2.1 (by omega) (by omega)
      obtain ⟨f3, e3⟩ := ih c (l ++ [u, t]) h.2.2.2.2 (by simp; omega) (by omega)
      have u1 := us_len mk a l
      have u2 := us_len mk b l
      have u3 := us_len mk c (l ++ [u, t])
      have el := addS (a := l) (b := [u, t]) (by simp; omega)
      have ea := addS (a := us mk a l) (b := us mk b l) (by omega)
      have eb := addS (a := us mk a l ++ us mk b l) (b := us mk c (l ++ [u, t])) (by rw [List.length_append]; omega)
      simp only [encE, us, List.map_cons, List.map_nil] at *
      generalize (us mk a l ++ us mk b l ++ us mk c (l ++ [u, t])).map PyData.str = R at *
      generalize (us mk a l ++ us mk b l).map PyData.str = R0 at *
      generalize (us mk a l).map PyData.str = R1 at *
      generalize (us mk b l).map PyData.str = R2 at *
      generalize (us mk c (l ++ [u, t])).map PyData.str = R3 at *
      generalize (l ++ [u, t]).map PyData.str = L2 at *
      generalize l.map PyData.str = L at *
      generalize mkD mk = M at *
      exact ⟨true, by simp -implicitDefEqProofs [e1, e2, e3, el, ea, eb]⟩
    | mat a ms ls es =>
      simp only [nd] at hn
      obtain ⟨ha, hms, hls, h10, hm1, hl1, ho⟩ := h
      obtain ⟨f1, e1⟩ := ih a l ha (by omega) (by omega)
      have u1 := us_len mk a l
      obtain ⟨b4, x', y', z', q⟩ := lu_arms (mk := mk) (l := l) (F := F__law_used k) (P := fun e => e ∈ es) (by omega) (fun e n he hn5 => ih e (l ++ n) (ho e he) (by rw [List.length_append]; omega) (by have := nd_mem he; omega)) (a0 := .dat (encE (.mat a ms ls es))) (a3 := .dat (.str "match")) (c8 := .no) (c9 := .no) ms ls es (fun n hn => (hls n hn).1) (fun e he => he) (us mk a l) f1 .no .no .no (by omega) rfl rfl rfl
      simp only [encE, us] at *
      generalize armsD ms ls (encEs es) = AD at *
      generalize (us mk a l ++ usa mk ms ls es l).map PyData.str = R at *
      generalize (us mk a l).map PyData.str = R1 at *
      generalize l.map PyData.str = L at *
      generalize mkD mk = M at *
      refine ⟨false, ?_⟩
      cases b4 with
      | true =>
        have q : loopF _ _ _ _ = some (.nx [_, _, _, _, .own (.list R), _, _, _, _, _]) := q
        simp -implicitDefEqProofs [e1, q]
      | false =>
        have q : loopF _ _ _ _ = some (.nx [_, _, _, _, .dat (.list R), _, _, _, _, _]) := q
        simp -implicitDefEqProofs [e1, q]
end My
end
section
set_option Elab.async false
set_option linter.all false
set_option maxRecDepth 100000
set_option maxHeartbeats 8000000
namespace My
open PySem PySem.Spec PyProof.Rows L2 Qp
def kOv (o : Option Cell) : Option (D × Bool) := match o with
  | some (.own d) => some (d, true)
  | some (.dat d) => some (d, false)
  | _ => none
@[simp] theorem outV_rt {i : Nat} {d : D} {fr : Bool} {c : En} : outV i (some (.rt d fr c)) = some (d, fr) := rfl
@[simp] theorem outV_nx {i : Nat} {c : En} : outV i (some (.nx c)) = kOv c[i]? := rfl
@[simp] theorem kOv_o {d : D} : kOv (some (.own d)) = some (d, true) := rfl
@[simp] theorem kOv_d {d : D} : kOv (some (.dat d)) = some (d, false) := rfl
/-- the local names: a list or a tuple -/
inductive LD (l : List Str) : D → Prop
  | l : LD l (.list (l.map .str))
  | t : LD l (.tuple (l.map .str))
theorem extS {a b : List Str} (h : a.length + b.length ≤ 1000000) : fExt (b.map .str) (.list (a.map .str)) = some (.list ((a ++ b).map .str)) := by
  have h' : (a.map PyData.str).length + (b.map PyData.str).length ≤ LIM := by rw [List.length_map, List.length_map]; exact LIMle h
  show (if (a.map PyData.str).length + (b.map PyData.str).length ≤ LIM then _ else _) = _
  rw [if_pos h', List.map_append]
abbrev NM (k : Nat) : GA := F__names k
/-- all names of several expressions -/
theorem all_names_ok {mk : Mks} {k : Nat} {l : List Str} {dl : D} {P : E → Prop} (ih : ∀ e, P e → F__names k [encE e, dl, mkD mk] = some (.list ((us mk e l).map .str), true)) {es : List E} (ho : ∀ e ∈ es, P e) (hb : nds es ≤ 400000) {X : List D → D} (hX : X = PyData.list ∨ X = PyData.tuple) :
    F__all_names (k + 1) [X (encEs es), dl, mkD mk] = some (.list ((uss mk es l).map .str), true) := by
  show runPV 3 2 3 (b__all_names (F__all_names k) (F__match_names k) (F__names k)) [_, _, _] = _
  have lp : ∀ (a0 : D) (es : List E), (∀ e ∈ es, P e) → ∀ (acc : List Str) (x : Cell), acc.length + nds es ≤ 500000 → kNo (some x) = true →
      ∃ y, loopF (gx 4) (L__all_names_1 (F__all_names k) (F__match_names k) (F__names k)) (encEs es) [.dat a0, .dat dl, .dat (mkD mk), .own (.list (acc.map .str)), x] = some (.nx [.dat a0, .dat dl, .dat (mkD mk), .own (.list ((acc ++ uss mk es l).map .str)), y]) := by
    intro a0 es
    induction es with
    | nil => intro _ acc x _ _; exact ⟨x, by simp [encEs, uss]⟩
    | cons e r ihr =>
      intro ho acc x hl hx
      have he := ih e (ho e List.mem_cons_self)
      have h1 := us_len mk e l
      simp only [nds] at hl
      have ea := extS (a := acc) (b := us mk e l) (by omega)
      obtain ⟨y, q⟩ := ihr (fun x hx => ho x (List.mem_cons_of_mem _ hx)) (acc ++ us mk e l) (.dat (encE e)) (by rw [List.length_append]; omega) rfl
      refine ⟨y, ?_⟩
      rw [List.append_assoc] at q
      show loopF _ _ (encE e :: encEs r) _ = _
      generalize mkD mk = M at *
      have hb : L__all_names_1 (F__all_names k) (F__match_names k) (F__names k) [.dat a0, .dat dl, .dat M, .own (.list (acc.map .str)), .dat (encE e)] = some (.nx [.dat a0, .dat dl, .dat M, .own (.list ((acc ++ us mk e l).map .str)), .dat (encE e)]) := by
        generalize (us mk e l).map PyData.str = U at *
        simp -implicitDefEqProofs [L__all_names_1, he, ea]
      rw [loopF_step (c1 := [.dat a0, .dat dl, .dat M, .own (.list (acc.map .str)), .dat (encE e)]) (by simp [hx]) hb, q]
      rfl
  unfold runPV b__all_names
  rcases hX with rfl | rfl
  · obtain ⟨y, q⟩ := lp (.list (encEs es)) es ho [] .no (by simp; omega) rfl
    rw [List.nil_append, List.map_nil] at q
    generalize encEs es = DS at *
    generalize (uss mk es l).map PyData.str = R at *
    generalize mkD mk = M at *
    simp -implicitDefEqProofs [q]
  · obtain ⟨y, q⟩ := lp (.tuple (encEs es)) es ho [] .no (by simp; omega) rfl
    rw [List.nil_append, List.map_nil] at q
    generalize encEs es = DS at *
    generalize (uss mk es l).map PyData.str = R at *
    generalize mkD mk = M at *
    simp -implicitDefEqProofs [q]
end My
end
section
set_option Elab.async false
set_option linter.all false
set_option maxRecDepth 100000
set_option maxHeartbeats 8000000
namespace My
open PySem PySem.Spec PyProof.Rows L2 Qp
theorem fAppS {a : List Str} {x : Str} (h : a.length ≤ 900000) : fApp (.str x) (.list (a.map .str)) = some (.list ((a ++ [x]).map .str)) := by
  rw [fApp_of (Nat.lt_of_le_of_lt (by rw [List.length_map]; exact h) (by decide)), List.map_append]
  rfl
theorem mn_loop {mk : Mks} {k : Nat} {l : List Str} {dl : D} {P : E → Prop} (hl : l.length ≤ 1000) (hd : LD l dl) (ih : ∀ e n, P e → n.length ≤ 5 → F__names k [encE e, .list ((l ++ n).map .str), mkD mk] = some (.list ((us mk e (l ++ n)).map .str), true)) {a0 : Cell} :
    ∀ (ms : List Str) (ns : List (List Str)) (es : List E), (∀ n ∈ ns, n.length ≤ 5) → (∀ e ∈ es, P e) → ∀ (acc : List Str) (x y z : Cell), acc.length + nds es ≤ 500000 → kNo (some x) = true → kNo (some y) = true → kNo (some z) = true →
      ∃ x' y' z', loopF (gxTup (gxCons (gx 4) (gxCons (gx 5) (gxCons (gx 6) (gxNil)))) 3) (L__match_names_1 (F__all_names k) (F__match_names k) (F__names k)) (armsD ms ns (encEs es)) [a0, .dat dl, .dat (mkD mk), .own (.list (acc.map .str)), x, y, z] = some (.nx [a0, .dat dl, .dat (mkD mk), .own (.list ((acc ++ usa mk ms ns es l).map .str)), x', y', z'])
  | [], _, _, _, _, acc, x, y, z, _, _, _, _ => ⟨x, y, z, by simp [armsD, usa]⟩
  | _ :: _, [], _, _, _, acc, x, y, z, _, _, _, _ => ⟨x, y, z, by simp [armsD, usa]⟩
  | _ :: _, _ :: _, [], _, _, acc, x, y, z, _, _, _, _ => ⟨x, y, z, by simp [armsD, usa, encEs]⟩
  | m :: ms, n :: ns, e :: r, hn, ho, acc, x, y, z, hb, hx, hy, hz => by
    have hn5 := hn n List.mem_cons_self
    have he := ih e n (ho e List.mem_cons_self) hn5
    have h1 := us_len mk e (l ++ n)
    simp only [nds] at hb
    have ea := fAppS (a := acc) (x := own mk m) (by omega)
    have eb := extS (a := acc ++ [own mk m]) (b := us mk e (l ++ n)) (by simp; omega)
    obtain ⟨x', y', z', q⟩ := mn_loop (a0 := a0) hl hd ih ms ns r (fun x hx => hn x (List.mem_cons_of_mem _ hx)) (fun x hx => ho x (List.mem_cons_of_mem _ hx)) (acc ++ [own mk m] ++ us mk e (l ++ n)) (.dat (.str m)) (.dat (.tuple (n.map .str))) (.dat (encE e)) (by simp; omega) rfl rfl rfl
    refine ⟨x', y', z', ?_⟩
    have hv := val_mk mk m
    have hu : acc ++ usa mk (m :: ms) (n :: ns) (e :: r) l = acc ++ [own mk m] ++ us mk e (l ++ n) ++ usa mk ms ns r l := by simp [usa]
    rw [hu]
    show loopF _ _ (.tuple [.str m, .tuple (n.map .str), encE e] :: armsD ms ns (encEs r)) _ = _
    have hk : keyD (.str m) = some (.inr m) := rfl
    have he : F__names k [encE e, .list ((l ++ n).map .str), .dict (mk.map fun p => ((.str p.1, .str p.2) : D × D))] = some (.list ((us mk e (l ++ n)).map .str), true) := he
    have gl : gLstD (l.map PyData.str ++ n.map PyData.str) = some (.list ((l ++ n).map .str), true) := by
      rw [List.map_append]
      show (if (l.map PyData.str ++ n.map PyData.str).length ≤ LIM then _ else _) = _
      rw [if_pos (LIMle (by simp; omega))]
    have hbd : L__match_names_1 (F__all_names k) (F__match_names k) (F__names k) [a0, .dat dl, .dat (mkD mk), .own (.list (acc.map .str)), .dat (.str m), .dat (.tuple (n.map .str)), .dat (encE e)] = some (.nx [a0, .dat dl, .dat (mkD mk), .own (.list ((acc ++ [own mk m] ++ us mk e (l ++ n)).map .str)), .dat (.str m), .dat (.tuple (n.map .str)), .dat (encE e)]) := by
      have hM : mkD mk = .dict (mk.map fun p => (.str p.1, .str p.2)) := rfl
      rw [hM]
      generalize (mk.map fun p => ((.str p.1, .str p.2) : D × D)) = MM at *
      generalize (acc ++ [own mk m] ++ us mk e (l ++ n)).map PyData.str = Z1 at *
      generalize (acc ++ [own mk m]).map PyData.str = Z2 at *
      generalize (us mk e (l ++ n)).map PyData.str = Z3 at *
      generalize (l ++ n).map PyData.str = Z4 at *
      generalize n.map PyData.str = Z6 at *
      generalize acc.map PyData.str = Z7 at *
      cases hd with
      | l =>
        generalize l.map PyData.str = Z5 at *
        simp -implicitDefEqProofs [L__match_names_1, hk, hv, ea, gl, he, eb]
      | t =>
        generalize l.map PyData.str = Z5 at *
        simp -implicitDefEqProofs [L__match_names_1, hk, hv, ea, gl, he, eb]
    rw [loopF_step (c1 := [a0, .dat dl, .dat (mkD mk), .own (.list (acc.map .str)), .dat (.str m), .dat (.tuple (n.map .str)), .dat (encE e)]) (by simp [hx, hy, hz]) hbd]
    exact q
end My
end
section
set_option Elab.async false
set_option linter.all false
set_option maxRecDepth 100000
set_option maxHeartbeats 8000000
namespace My
open PySem PySem.Spec PyProof.Rows L2 Qp
theorem match_names_ok {mk : Mks} {k : Nat} {l : List Str} {dl : D} {P : E → Prop} (hl : l.length ≤ 1000) (hd : LD l dl) (ih0 : ∀ e, P e → F__names k [encE e, dl, mkD mk] = some (.list ((us mk e l).map .str), true))
    (ih : ∀ e n, P e → n.length ≤ 5 → F__names k [encE e, .list ((l ++ n).map .str), mkD mk] = some (.list ((us mk e (l ++ n)).map .str), true)) {a : E} {ms : List Str} {ls : List (List Str)} {es : List E} (hn : ∀ n ∈ ls, n.length ≤ 5) (ha : P a) (ho : ∀ e ∈ es, P e) (hb : nd a + nds es ≤ 400000) :
    F__match_names (k + 1) [encE (.mat a ms ls es), dl, mkD mk] = some (.list ((us mk (.mat a ms ls es) l).map .str), true) := by
  have e1 := ih0 a ha
  have u1 := us_len mk a l
  obtain ⟨x', y', z', q⟩ := mn_loop (mk := mk) (k := k) hl hd ih (a0 := .dat (encE (.mat a ms ls es))) ms ls es hn ho (us mk a l) .no .no .no (by omega) rfl rfl rfl
  show runPV 3 4 3 (b__match_names (F__all_names k) (F__match_names k) (F__names k)) [_, _, _] = _
  unfold runPV b__match_names
  simp only [encE, us] at *
  generalize armsD ms ls (encEs es) = AD at *
  generalize (us mk a l ++ usa mk ms ls es l).map PyData.str = R at *
  generalize (us mk a l).map PyData.str = R1 at *
  generalize mkD mk = M at *
  simp -implicitDefEqProofs [e1, q]
theorem ld_star {l : List Str} {dl : D} (h : LD l dl) (n : List Str) (hl : l.length + n.length ≤ 100000) : gLstD (l.map PyData.str ++ n.map PyData.str) = some (.list ((l ++ n).map .str), true) := by
  rw [List.map_append]
  show (if (l.map PyData.str ++ n.map PyData.str).length ≤ LIM then _ else _) = _
  rw [if_pos (LIMle (by simp; omega))]
theorem s_cut13 {a b c d e f : D} : cutL [a, b, c, d, e, f] (some 1) (some 3) = [b, c] := rfl
theorem names_ok (mk : Mks) : ∀ (k f : Nat) (e : E) (l : List Str) (dl : D), 2 * k ≤ f → EOk k e → LD l dl → l.length + 10 * k ≤ 1000 → nd e ≤ 400000 → F__names f [encE e, dl, mkD mk] = some (.list ((us mk e l).map .str), true)
  | 0, _, _, _, _, _, h, _, _, _ => h.elim
  | k + 1, 0, _, _, _, h, _, _, _, _ => absurd h (by omega)
  | k + 1, 1, _, _, _, h, _, _, _, _ => absurd h (by omega)
  | k + 1, f + 2, e, l, dl, hf, h, hd, hl, hn => by
    have ih0 := fun e l dl h hd hl hn => names_ok mk k f e l dl (by omega) h hd hl hn
    have ih1 := fun e l dl h hd hl hn => names_ok mk k (f + 1) e l dl (by omega) h hd hl hn
    have an := fun (es : List E) (ho : ∀ x ∈ es, EOk k x) (hb : nds es ≤ 400000) (X : List D → D) (hX : X = PyData.list ∨ X = PyData.tuple) =>
      all_names_ok (mk := mk) (k := f) (l := l) (dl := dl) (P := fun e => e ∈ es) (fun e he => ih0 e l dl (ho e he) hd (by omega) (by have := nd_mem he; omega)) (es := es) (fun e he => he) hb hX
    show runP 3 3 (b__names (F__all_names (f + 1)) (F__match_names (f + 1)) (F__names (f + 1))) [encE e, dl, mkD mk] = _
    unfold runP b__names
    cases e with
    | num i => simp -implicitDefEqProofs [encE, us]
    | text i => simp -implicitDefEqProofs [encE, us]
    | bool i => simp -implicitDefEqProofs [encE, us]
    | list es =>
      simp only [nd] at hn
      have q := an es h.2 (by omega) _ (.inr rfl)
      simp only [encE, us] at *
      generalize mkD mk = M at *
      simp -implicitDefEqProofs [q]
    | cons a b =>
      simp only [nd] at hn
      have q := an [a, b] (by simp; exact ⟨h.1, h.2⟩) (by simp only [nds]; omega) _ (.inr rfl)
      simp only [encE, us, uss, encEs, List.append_nil] at *
      generalize mkD mk = M at *
      simp -implicitDefEqProofs [q, s_cut2, -List.map_append]
    | bin o a b =>
      simp only [nd] at hn
      have q := an [a, b] (by simp; exact ⟨h.2.1, h.2.2⟩) (by simp only [nds]; omega) _ (.inr rfl)
      simp only [encE, us, uss, encEs, List.append_nil] at *
      generalize mkD mk = M at *
      simp -implicitDefEqProofs [q, s_cut4, -List.map_append]
    | not a =>
      simp only [nd] at hn
      have ha : EOk k a := h
      have q := an [a] (by simp; exact ha) (by simp only [nds]; omega) _ (.inr rfl)
      simp only [encE, us, uss, encEs, List.append_nil] at *
      generalize mkD mk = M at *
      simp -implicitDefEqProofs [q, s_cut1]
    | ite c a b =>
      simp only [nd] at hn
      have q := an [c, a, b] (by simp; exact ⟨h.1, h.2.1, h.2.2⟩) (by simp only [nds]; omega) _ (.inr rfl)
      simp only [encE, us, uss, encEs, List.append_nil, ← List.append_assoc] at *
      generalize mkD mk = M at *
      generalize (us mk c l ++ us mk a l ++ us mk b l).map PyData.str = R at *
      simp -implicitDefEqProofs [q, s_cut3]
    | mat a ms ls es =>
      simp only [nd] at hn
      obtain ⟨ha, hms, hls, h10, hm1, hl1, ho⟩ := h
      have q := match_names_ok (mk := mk) (k := f) (l := l) (dl := dl) (P := fun e => e ∈ a :: es) (by omega) hd (fun e he => ih0 e l dl (by rcases List.mem_cons.mp he with rfl | he; exact ha; exact ho e he) hd (by omega) (by rcases List.mem_cons.mp he with rfl | he; omega; have := nd_mem he; omega))
        (fun e n he hn5 => ih0 e (l ++ n) _ (by rcases List.mem_cons.mp he with rfl | he; exact ha; exact ho e he) .l (by rw [List.length_append]; omega) (by rcases List.mem_cons.mp he with rfl | he; omega; have := nd_mem he; omega)) (a := a) (ms := ms) (ls := ls) (es := es) (fun n hn => (hls n hn).1) List.mem_cons_self (fun e he => List.mem_cons_of_mem _ he) (by omega)
      simp only [encE] at *
      generalize (us mk (.mat a ms ls es) l).map PyData.str = R at *
      generalize armsD ms ls (encEs es) = AD at *
      generalize mkD mk = M at *
      simp -implicitDefEqProofs [q]
    | name x =>
      have g := in_strs (l := l) (x := x)
      have gt : gIn true (.str x) (.tuple (l.map .str)) = some (.bool (!l.contains x), false) := g
      simp only [encE, us]
      have lp : ∀ A : D, loopC (gx 5) (W__names_2 (F__all_names (f + 1)) (F__match_names (f + 1)) (F__names (f + 1))) (C__names_1 (F__all_names (f + 1)) (F__match_names (f + 1)) (F__names (f + 1))) [5] [.str x] [] [.dat A, .dat dl, .dat (mkD mk), .dat (.str "name"), .no, .no] = some ((if l.contains x = true then [] else [x]).map .str, [.dat A, .dat dl, .dat (mkD mk), .dat (.str "name"), .no, .no]) := fun A => by
        have := loopC_encF (gt := gx 5) (ft := W__names_2 (F__all_names (f + 1)) (F__match_names (f + 1)) (F__names (f + 1))) (fe := C__names_1 (F__all_names (f + 1)) (F__match_names (f + 1)) (F__names (f + 1))) (vs := [5]) (cs := [.dat A, .dat dl, .dat (mkD mk), .dat (.str "name"), .no, .no]) (enc := PyData.str) (val := PyData.str) (keep := fun x => !l.contains x) [x] (fun y hy => by
          rw [List.mem_singleton.mp hy]
          refine ⟨[.dat A, .dat dl, .dat (mkD mk), .dat (.str "name"), .no, .dat (.str x)], false, by simp, ?_, fun _ => by simp [C__names_1], by simp, by simp⟩
          generalize mkD mk = M at *
          cases hd with
          | l =>
            generalize l.map PyData.str = L at *
            simp -implicitDefEqProofs [W__names_2, g]
          | t =>
            generalize l.map PyData.str = L at *
            simp -implicitDefEqProofs [W__names_2, gt]) [] (LIMle (by simp))
        rw [show [PyData.str x] = [x].map PyData.str from rfl, this]
        cases c : l.contains x with
        | true =>
          have c' : x ∈ l := by simpa using c
          simp [c']
        | false =>
          have c' : ¬ x ∈ l := by simpa using c
          simp [c']
      have lp := lp (.tuple [.str "name", .str x])
      generalize (if l.contains x = true then [] else [x]).map PyData.str = R at *
      generalize mkD mk = M at *
      simp -implicitDefEqProofs [s_cut1, lp]
    | call g es =>
      simp only [nd] at hn
      have q := an es h.2.2 (by omega) _ (.inr rfl)
      have u1 := uss_len mk es l
      have ea := addS (a := [g]) (b := uss mk es l) (by simp; omega)
      simp only [encE, us, List.map_cons, List.map_nil] at *
      generalize ([g] ++ uss mk es l).map PyData.str = R at *
      generalize (uss mk es l).map PyData.str = R1 at *
      generalize mkD mk = M at *
      simp -implicitDefEqProofs [q, ea]
    | make m es =>
      simp only [nd] at hn
      have q := an es h.2.2 (by omega) _ (.inr rfl)
      have u1 := uss_len mk es l
      have ea := addS (a := [own mk m]) (b := uss mk es l) (by simp; omega)
      have hv := val_mk mk m
      have hk : keyD (.str m) = some (.inr m) := rfl
      have hM : mkD mk = .dict (mk.map fun p => (.str p.1, .str p.2)) := rfl
      rw [hM] at q ⊢
      simp only [encE, us, List.map_cons, List.map_nil] at *
      generalize ([own mk m] ++ uss mk es l).map PyData.str = R at *
      generalize (uss mk es l).map PyData.str = R1 at *
      generalize (mk.map fun p => ((.str p.1, .str p.2) : D × D)) = MM at *
      simp -implicitDefEqProofs [q, ea, hv, hk]
    | lett x a b =>
      simp only [nd] at hn
      have e1 := ih1 a l dl h.2.1 hd (by omega) (by omega)
      have e2 := ih1 b (l ++ [x]) _ h.2.2 .l (by simp; omega) (by omega)
      have u1 := us_len mk a l
      have u2 := us_len mk b (l ++ [x])
      have gs := ld_star hd [x] (by simp; omega)
      have ea := addS (a := us mk a l) (b := us mk b (l ++ [x])) (by omega)
      simp only [encE, us, List.map_cons, List.map_nil] at *
      generalize (us mk a l ++ us mk b (l ++ [x])).map PyData.str = R at *
      generalize (us mk a l).map PyData.str = R1 at *
      generalize (us mk b (l ++ [x])).map PyData.str = R2 at *
      generalize (l ++ [x]).map PyData.str = L2 at *
      generalize mkD mk = M at *
      cases hd with
      | l =>
        generalize l.map PyData.str = L at *
        simp -implicitDefEqProofs [e1, e2, gs, ea]
      | t =>
        generalize l.map PyData.str = L at *
        simp -implicitDefEqProofs [e1, e2, gs, ea]
    | split a b u t c =>
      simp only [nd] at hn
      have hc1 : 1 ≤ nd c := by cases c <;> simp [nd] <;> omega
      have q := an [a, b] (by simp; exact ⟨h.2.2.1, h.2.2.2.1⟩) (by simp only [nds]; omega) _ (.inr rfl)
      have e3 := ih1 c (l ++ [u, t]) _ h.2.2.2.2 .l (by simp; omega) (by omega)
      have u1 := us_len mk a l
      have u2 := us_len mk b l
      have u3 := us_len mk c (l ++ [u, t])
      have gs := ld_star hd [u, t] (by simp; omega)
      have eb := addS (a := us mk a l ++ us mk b l) (b := us mk c (l ++ [u, t])) (by rw [List.length_append]; omega)
      simp only [encE, us, uss, encEs, List.append_nil, List.map_cons, List.map_nil] at *
      generalize (us mk a l ++ us mk b l ++ us mk c (l ++ [u, t])).map PyData.str = R at *
      generalize (us mk a l ++ us mk b l).map PyData.str = R0 at *
      generalize (us mk c (l ++ [u, t])).map PyData.str = R3 at *
      generalize (l ++ [u, t]).map PyData.str = L2 at *
      generalize mkD mk = M at *
      cases hd with
      | l =>
        generalize l.map PyData.str = L at *
        simp -implicitDefEqProofs [q, s_cut13, e3, gs, eb]
      | t =>
        generalize l.map PyData.str = L at *
        simp -implicitDefEqProofs [q, s_cut13, e3, gs, eb]
end My
end
section
set_option Elab.async false
set_option linter.all false
set_option maxRecDepth 100000
set_option maxHeartbeats 8000000
namespace My
open PySem PySem.Spec PyProof.Rows L2 Qp
/-! kinds and definitions -/
abbrev Kn := Int × Str
def knD (k : Kn) : D := .tuple [.int k.1, .str k.2]
def PLN : List Str := ["num", "text", "bool"]
def bases (ks : List Kn) : List Str := (ks.filter fun k => !PLN.contains k.2).map (·.2)
theorem bases_len (ks : List Kn) : (bases ks).length ≤ ks.length := by
  unfold bases
  rw [List.length_map]
  exact List.length_filter_le _ _
theorem in_pln {b : Str} : gIn true (.str b) (.tuple [.str "num", .str "text", .str "bool"]) = some (.bool (!PLN.contains b), false) := in_strs (l := PLN) (x := b)
theorem in_plnL {b : Str} : gIn true (.str b) (.list [.str "num", .str "text", .str "bool"]) = some (.bool (!PLN.contains b), false) := in_strs (l := PLN) (x := b)
theorem kind_names_ok {ks : List Kn} (hl : ks.length ≤ 1000) {X : List D → D} (hX : X = PyData.list ∨ X = PyData.tuple) : F__kind_names [X (ks.map knD)] = some (.list ((bases ks).map .str), true) := by
  show runP 1 2 b__kind_names [_] = _
  unfold runP b__kind_names
  have q := loopC_encF (gt := gxTup (gxCons (gx 1) (gxCons (gx 2) (gxNil))) 2) (ft := W__kind_names_2) (fe := C__kind_names_1) (vs := [1, 2]) (cs := [.dat (X (ks.map knD)), .no, .no]) (enc := knD) (val := fun k => .str k.2) (keep := fun k => !PLN.contains k.2) ks (fun k hk => by
    refine ⟨[.dat (X (ks.map knD)), .dat (.int k.1), .dat (.str k.2)], false, by simp [knD], ?_, fun _ => by simp [C__kind_names_1], by simp, by simp⟩
    have g := @in_pln k.2
    simp -implicitDefEqProofs [W__kind_names_2, g]) [] (LIMle (by simp; omega))
  rw [List.nil_append, show (ks.filter fun k => !PLN.contains k.2).map (fun k => PyData.str k.2) = (bases ks).map .str by unfold bases; rw [List.map_map]; rfl] at q
  generalize (bases ks).map PyData.str = B at *
  generalize ks.map knD = KS at *
  rcases hX with rfl | rfl
  · simp -implicitDefEqProofs [q]
  · simp -implicitDefEqProofs [q]
theorem used_data_ok {ks : List Kn} (hl : ks.length ≤ 1000) {X : List D → D} (hX : X = PyData.list ∨ X = PyData.tuple) : F__law_used_data [X (ks.map knD)] = some (.list ((bases ks).map .str), true) := by
  show runP 1 2 b__law_used_data [_] = _
  unfold runP b__law_used_data
  have q := loopC_encF (gt := gxTup (gxCons (gx 1) (gxCons (gx 2) (gxNil))) 2) (ft := W__law_used_data_2) (fe := C__law_used_data_1) (vs := [1, 2]) (cs := [.dat (X (ks.map knD)), .no, .no]) (enc := knD) (val := fun k => .str k.2) (keep := fun k => !PLN.contains k.2) ks (fun k hk => by
    refine ⟨[.dat (X (ks.map knD)), .dat (.int k.1), .dat (.str k.2)], false, by simp [knD], ?_, fun _ => by simp [C__law_used_data_1], by simp, by simp⟩
    have g := @in_plnL k.2
    simp -implicitDefEqProofs [W__law_used_data_2, g]) [] (LIMle (by simp; omega))
  rw [List.nil_append, show (ks.filter fun k => !PLN.contains k.2).map (fun k => PyData.str k.2) = (bases ks).map .str by unfold bases; rw [List.map_map]; rfl] at q
  generalize (bases ks).map PyData.str = B at *
  generalize ks.map knD = KS at *
  rcases hX with rfl | rfl
  · simp -implicitDefEqProofs [q]
  · simp -implicitDefEqProofs [q]
inductive Df where
  | data (n : Str) (ms : List (Str × List Kn))
  | fn (n : Str) (ps : List Str) (e : E)
  | view (n : Str) (e : E)
  | cell (n : Str) (k : Kn) (e : E) (t : Option Str)
  | act (n : Str) (ps : List Str) (ss : List (Str × E)) (e : E)
def mkrD (p : Str × List Kn) : D := .tuple [.str p.1, .tuple (p.2.map knD)]
def setD (p : Str × E) : D := .tuple [.str p.1, encE p.2]
def optD : Option Str → D
  | none => .none
  | some t => .str t
def dfD : Df → D
  | .data n ms => .tuple [.str "data", .str n, .tuple (ms.map mkrD)]
  | .fn n ps e => .tuple [.str "fun", .str n, .tuple (ps.map .str), encE e]
  | .view n e => .tuple [.str "view", .str n, encE e]
  | .cell n k e t => .tuple [.str "cell", .str n, knD k, encE e, optD t]
  | .act n ps ss e => .tuple [.str "act", .str n, .tuple (ps.map .str), .tuple (ss.map setD), encE e]
/-- what it uses, one after another -/
def au (mk : Mks) : Df → List Str
  | .data _ ms => (ms.map fun p => bases p.2).flatten
  | .fn _ ps e => us mk e ps
  | .view _ e => us mk e []
  | .cell _ k e t => bases [k] ++ us mk e [] ++ t.toList
  | .act _ ps ss e => (ss.map fun p => p.1 :: us mk p.2 ps).flatten ++ us mk e ps
def SZ : Nat := 40000
structure EG (e : E) : Prop where
  ok : EOk 45 e
  sz : nd e ≤ SZ
def DOk : Df → Prop
  | .data n ms => Sok n ∧ ms.length ≤ 10 ∧ ∀ p ∈ ms, Sok p.1 ∧ p.2.length ≤ 10 ∧ ∀ k ∈ p.2, PLN.contains k.2 = true ∨ Sok k.2
  | .fn n ps e => Sok n ∧ ps.length ≤ 5 ∧ EG e
  | .view n e => Sok n ∧ EG e
  | .cell n k e t => Sok n ∧ (PLN.contains k.2 = true ∨ Sok k.2) ∧ EG e ∧ ∀ x, t = some x → Sok x
  | .act n ps ss e => Sok n ∧ ps.length ≤ 5 ∧ ss.length ≤ 2 ∧ (∀ p ∈ ss, Sok p.1 ∧ EG p.2) ∧ EG e
theorem names_g {mk : Mks} {e : E} {l : List Str} {dl : D} (h : EG e) (hd : LD l dl) (hl : l.length ≤ 5) : F__names 100 [encE e, dl, mkD mk] = some (.list ((us mk e l).map .str), true) :=
  names_ok mk 45 100 e l dl (by omega) h.ok hd (by omega) (Nat.le_trans h.sz (by decide))
theorem used_g {mk : Mks} {e : E} {l : List Str} (h : EG e) (hl : l.length ≤ 5) : ∃ fr, F__law_used 60 [encE e, .list (l.map .str), mkD mk] = some (.list ((us mk e l).map .str), fr) := by
  have mono : ∀ (k : Nat) (e : E), EOk k e → EOk (k + 1) e := by
    intro k
    induction k with
    | zero => intro e h; exact h.elim
    | succ k ih =>
      intro e h
      cases e with
      | num | bool | text => trivial
      | name s => exact h
      | list es => exact ⟨h.1, fun x hx => ih x (h.2 x hx)⟩
      | cons a b => exact ⟨ih a h.1, ih b h.2⟩
      | bin o a b => exact ⟨trivial, ih a h.2.1, ih b h.2.2⟩
      | not a => exact ih a h
      | ite c a b => exact ⟨ih c h.1, ih a h.2.1, ih b h.2.2⟩
      | lett x a b => exact ⟨h.1, ih a h.2.1, ih b h.2.2⟩
      | call f es => exact ⟨h.1, h.2.1, fun x hx => ih x (h.2.2 x hx)⟩
      | make f es => exact ⟨h.1, h.2.1, fun x hx => ih x (h.2.2 x hx)⟩
      | split a b u t c => exact ⟨h.1, h.2.1, ih a h.2.2.1, ih b h.2.2.2.1, ih c h.2.2.2.2⟩
      | mat a ms ls es => exact ⟨ih a h.1, h.2.1, h.2.2.1, h.2.2.2.1, h.2.2.2.2.1, h.2.2.2.2.2.1, fun x hx => ih x (h.2.2.2.2.2.2 x hx)⟩
  have m : ∀ j, EOk (45 + j) e := fun j => by
    induction j with
    | zero => exact h.ok
    | succ j ih => exact mono _ e ih
  exact law_used_ok mk 60 e l (m 15) (by omega) (Nat.le_trans h.sz (by decide))
end My
end
section
set_option Elab.async false
set_option linter.all false
set_option maxRecDepth 100000
set_option maxHeartbeats 8000000
namespace My
open PySem PySem.Spec PyProof.Rows L2 Qp
theorem encs_self {vs : List Nat} {gt : GX} {fe : EX} {cs : En} (l : List Str) (h : ∀ s ∈ l, ∃ c1 f1, gt (.str s) cs = some c1 ∧ fe c1 = some (.str s, f1, c1) ∧ noOwn c1 vs = true ∧ clr c1 vs = cs) (acc : List Str) (hl : acc.length + l.length ≤ 500000) :
    loopC gt evYes fe vs (l.map .str) (acc.map .str) cs = some ((acc ++ l).map .str, cs) := by
  have := loopC_encF (gt := gt) (ft := evYes) (fe := fe) (vs := vs) (cs := cs) (enc := PyData.str) (val := PyData.str) (keep := fun _ => true) l (fun x hx => by
    obtain ⟨c1, f1, h1, h2, h3, h4⟩ := h x hx
    exact ⟨c1, f1, h1, rfl, fun _ => h2, h3, h4⟩) (acc.map .str) (LIMle (by rw [List.length_map]; omega))
  rw [this, show l.filter (fun _ => true) = l from List.filter_eq_self.mpr fun _ _ => rfl, List.map_append]
theorem au_data {A M : D} : ∀ (ms : List (Str × List Kn)) (acc : List Str), (∀ p ∈ ms, p.2.length ≤ 10) → acc.length + 11 * ms.length ≤ 1000 →
    loopC2 (gxTup (gxCons (gx 6) (gxCons (gx 7) (gxNil))) 2) evYes J__all_uses_1 (gx 8) evYes C__all_uses_2 [6, 7, 8] [8] (ms.map mkrD) (acc.map .str) [.dat A, .dat M, .dat (.str "data"), .no, .no, .no, .no, .no, .no] = some ((acc ++ (ms.map fun p => bases p.2).flatten).map .str, [.dat A, .dat M, .dat (.str "data"), .no, .no, .no, .no, .no, .no])
  | [], acc, _, _ => by simp [loopC2]
  | p :: r, acc, hp, hl => by
    have h1 := hp p List.mem_cons_self
    have hb := bases_len p.2
    rw [List.length_cons] at hl
    have g := kind_names_ok (ks := p.2) (by omega) (.inr rfl)
    rw [List.map_cons, loopC2_cons (c1 := [.dat A, .dat M, .dat (.str "data"), .no, .no, .no, .dat (.str p.1), .dat (.tuple (p.2.map knD)), .no]) (c2 := [.dat A, .dat M, .dat (.str "data"), .no, .no, .no, .dat (.str p.1), .dat (.tuple (p.2.map knD)), .no])
      (its := (bases p.2).map .str) (c3 := [.dat A, .dat M, .dat (.str "data"), .no, .no, .no, .dat (.str p.1), .dat (.tuple (p.2.map knD)), .no]) (acc2 := (acc ++ bases p.2).map .str) (c4 := [.dat A, .dat M, .dat (.str "data"), .no, .no, .no, .dat (.str p.1), .dat (.tuple (p.2.map knD)), .no])
      (by simp [mkrD]) rfl (by simp -implicitDefEqProofs [J__all_uses_1, g]) (by simp) (by
        rw [show clr [.dat A, .dat M, .dat (.str "data"), .no, .no, .no, .dat (.str p.1), .dat (.tuple (p.2.map knD)), .no] [8] = [Cell.dat A, .dat M, .dat (.str "data"), .no, .no, .no, .dat (.str p.1), .dat (.tuple (p.2.map knD)), .no] from rfl]
        exact encs_self (bases p.2) (fun s _ => ⟨[.dat A, .dat M, .dat (.str "data"), .no, .no, .no, .dat (.str p.1), .dat (.tuple (p.2.map knD)), .dat (.str s)], false, by simp, by simp [C__all_uses_2], by simp, by simp⟩) acc (by omega)) (by simp)]
    have q := au_data (A := A) (M := M) r (acc ++ bases p.2) (fun x hx => hp x (List.mem_cons_of_mem _ hx)) (by rw [List.length_append]; omega)
    rw [show clr [.dat A, .dat M, .dat (.str "data"), .no, .no, .no, .dat (.str p.1), .dat (.tuple (p.2.map knD)), .no] [6, 7, 8] = [Cell.dat A, .dat M, .dat (.str "data"), .no, .no, .no, .no, .no, .no] from rfl, q, List.map_cons, List.flatten_cons, List.append_assoc]
theorem au_sets {mk : Mks} {ps : List Str} {A a2 : Cell} (hp : ps.length ≤ 5) {n e : D} {ss0 : D} (hA : A = .dat (.tuple [.str "act", n, .tuple (ps.map .str), ss0, e])) : ∀ (ss : List (Str × E)) (acc : List Str) (x y : Cell), (∀ p ∈ ss, EG p.2) → acc.length + (SZ + 1) * ss.length ≤ 500000 → kNo (some x) = true → kNo (some y) = true →
    ∃ x' y', loopF (gxTup (gxCons (gx 4) (gxCons (gx 5) (gxNil))) 2) L__all_uses_3 (ss.map setD) [A, .dat (mkD mk), a2, .own (.list (acc.map .str)), x, y, .no, .no, .no] = some (.nx [A, .dat (mkD mk), a2, .own (.list ((acc ++ (ss.map fun p => p.1 :: us mk p.2 ps).flatten).map .str)), x', y', .no, .no, .no])
  | [], acc, x, y, _, _, _, _ => ⟨x, y, by simp⟩
  | p :: r, acc, x, y, hs, hl, hx, hy => by
    rw [List.length_cons, Nat.mul_succ] at hl
    have h1 := hs p List.mem_cons_self
    have g := names_g (mk := mk) (l := ps) h1 .t hp
    have u1 := us_len mk p.2 ps
    have sz := h1.sz
    have ea := fAppS (a := acc) (x := p.1) (by omega)
    have eb := extS (a := acc ++ [p.1]) (b := us mk p.2 ps) (by simp; omega)
    obtain ⟨x', y', q⟩ := au_sets (mk := mk) (a2 := a2) hp hA r (acc ++ [p.1] ++ us mk p.2 ps) (.dat (.str p.1)) (.dat (encE p.2)) (fun x hx => hs x (List.mem_cons_of_mem _ hx)) (by rw [List.length_append, List.length_append, List.length_singleton]; omega) rfl rfl
    refine ⟨x', y', ?_⟩
    have hb : L__all_uses_3 [A, .dat (mkD mk), a2, .own (.list (acc.map .str)), .dat (.str p.1), .dat (encE p.2), .no, .no, .no] = some (.nx [A, .dat (mkD mk), a2, .own (.list ((acc ++ [p.1] ++ us mk p.2 ps).map .str)), .dat (.str p.1), .dat (encE p.2), .no, .no, .no]) := by
      subst hA
      generalize (acc ++ [p.1] ++ us mk p.2 ps).map PyData.str = Z1 at *
      generalize (acc ++ [p.1]).map PyData.str = Z2 at *
      generalize (us mk p.2 ps).map PyData.str = Z3 at *
      generalize acc.map PyData.str = Z4 at *
      generalize ps.map PyData.str = Z5 at *
      generalize mkD mk = M at *
      simp -implicitDefEqProofs [L__all_uses_3, ea, g, eb]
    rw [List.map_cons, loopF_step (c1 := [A, .dat (mkD mk), a2, .own (.list (acc.map .str)), .dat (.str p.1), .dat (encE p.2), .no, .no, .no]) (by simp [setD, hx, hy]) hb, q, List.map_cons, List.flatten_cons]
    simp
theorem all_uses_ok {mk : Mks} {d : Df} (h : DOk d) : ∃ fr, F__all_uses [dfD d, mkD mk] = some (.list ((au mk d).map .str), fr) := by
  show ∃ fr, runP 2 7 b__all_uses [_, _] = _
  unfold runP b__all_uses
  cases d with
  | data n ms =>
    obtain ⟨h1, h2, h3⟩ := h
    have q := au_data (A := dfD (.data n ms)) (M := mkD mk) ms [] (fun p hp => (h3 p hp).2.1) (by simp; omega)
    simp only [dfD, au, List.nil_append, List.map_nil] at *
    generalize ((ms.map fun p => bases p.2).flatten).map PyData.str = R at *
    generalize ms.map mkrD = MS at *
    generalize mkD mk = M at *
    refine ⟨true, ?_⟩
    simp -implicitDefEqProofs [kLc21_s, q]
  | fn n ps e =>
    obtain ⟨h1, h2, h3⟩ := h
    have g := names_g (mk := mk) (l := ps) h3 .t h2
    simp only [dfD, au] at *
    generalize (us mk e ps).map PyData.str = R at *
    generalize ps.map PyData.str = P at *
    generalize mkD mk = M at *
    exact ⟨true, by simp -implicitDefEqProofs [g]⟩
  | view n e =>
    obtain ⟨h1, h3⟩ := h
    have g := names_g (mk := mk) (l := []) h3 .l (by simp)
    simp only [dfD, au, List.map_nil] at *
    generalize (us mk e []).map PyData.str = R at *
    generalize mkD mk = M at *
    exact ⟨true, by simp -implicitDefEqProofs [g]⟩
  | cell n k e t =>
    obtain ⟨h1, hk, h3, ht⟩ := h
    have g := names_g (mk := mk) (l := []) h3 .l (by simp)
    have gk := kind_names_ok (ks := [k]) (by simp) (.inl rfl)
    have u1 := us_len mk e []
    have u2 := bases_len [k]
    have sz := h3.sz
    unfold SZ at sz
    have ea := addS (a := bases [k]) (b := us mk e []) (by simp at u2; omega)
    simp only [dfD, au, List.map_nil, List.map_cons] at *
    cases t with
    | none =>
      simp only [Option.toList, List.append_nil, optD] at *
      generalize (bases [k] ++ us mk e []).map PyData.str = R at *
      generalize (us mk e []).map PyData.str = R1 at *
      generalize (bases [k]).map PyData.str = R2 at *
      generalize mkD mk = M at *
      exact ⟨_, by simp -implicitDefEqProofs [g, gk, ea]; rfl⟩
    | some t =>
      have eb := addS (a := bases [k] ++ us mk e []) (b := [t]) (by simp at u2 ⊢; omega)
      simp only [Option.toList, optD, List.map_cons, List.map_nil] at *
      generalize (bases [k] ++ us mk e [] ++ [t]).map PyData.str = R at *
      generalize (bases [k] ++ us mk e []).map PyData.str = R0 at *
      generalize (us mk e []).map PyData.str = R1 at *
      generalize (bases [k]).map PyData.str = R2 at *
      generalize mkD mk = M at *
      exact ⟨_, by simp -implicitDefEqProofs [g, gk, ea, eb]; rfl⟩
  | act n ps ss e =>
    obtain ⟨h1, h2, h3, h4, h5⟩ := h
    have g := names_g (mk := mk) (l := ps) h5 .t h2
    obtain ⟨x', y', q⟩ := au_sets (mk := mk) (ps := ps) (A := .dat (dfD (.act n ps ss e))) (a2 := .dat (.str "act")) h2 rfl ss [] .no .no (fun p hp => (h4 p hp).2) (by have := Nat.mul_le_mul_left (SZ + 1) h3; unfold SZ at *; simp; omega) rfl rfl
    have u1 := us_len mk e ps
    have sz := h5.sz
    have u2 : ((ss.map fun p => p.1 :: us mk p.2 ps).flatten).length ≤ 100000 := by
      have : ∀ ss : List (Str × E), (∀ p ∈ ss, EG p.2) → ((ss.map fun p => p.1 :: us mk p.2 ps).flatten).length ≤ 40001 * ss.length := by
        intro ss
        induction ss with
        | nil => intro _; simp
        | cons p r ih =>
          intro hs
          have := ih fun x hx => hs x (List.mem_cons_of_mem _ hx)
          have a := us_len mk p.2 ps
          have b := (hs p List.mem_cons_self).sz
          unfold SZ at b
          rw [List.map_cons, List.flatten_cons, List.length_append, List.length_cons, List.length_cons]
          omega
      have := this ss fun p hp => (h4 p hp).2
      omega
    unfold SZ at sz
    have eb := addS (a := (ss.map fun p => p.1 :: us mk p.2 ps).flatten) (b := us mk e ps) (by omega)
    simp only [dfD, au, List.nil_append, List.map_nil] at *
    generalize ((ss.map fun p => p.1 :: us mk p.2 ps).flatten ++ us mk e ps).map PyData.str = R at *
    generalize (us mk e ps).map PyData.str = R0 at *
    generalize (ss.map fun p => p.1 :: us mk p.2 ps).flatten.map PyData.str = R1 at *
    generalize ss.map setD = SS at *
    generalize ps.map PyData.str = P at *
    generalize mkD mk = M at *
    exact ⟨_, by simp -implicitDefEqProofs [q, g, eb]; rfl⟩
end My
end
section
set_option Elab.async false
set_option linter.all false
set_option maxRecDepth 100000
set_option maxHeartbeats 8000000
namespace My
open PySem PySem.Spec PyProof.Rows L2 Qp
/-- each once, at its first place -/
def ddL (l : List Str) : List Str := l.foldl (fun a x => if a.contains x = true then a else a ++ [x]) []
/-- those at places that are the first ones -/
def fst1 (l : List Str) : List Str := ((List.range l.length).filter fun k => !(l.take k).contains (l.getD k "")).map fun k => l.getD k ""
theorem snoc_ind {α : Type} {P : List α → Prop} (h0 : P []) (h1 : ∀ l x, P l → P (l ++ [x])) (l : List α) : P l := by
  have : ∀ (r : List α), P r.reverse := by
    intro r
    induction r with
    | nil => exact h0
    | cons x r ih => rw [List.reverse_cons]; exact h1 _ _ ih
  have h := this l.reverse
  rwa [List.reverse_reverse] at h
theorem dd_snoc (l : List Str) (x : Str) : ddL (l ++ [x]) = if (ddL l).contains x = true then ddL l else ddL l ++ [x] := by
  unfold ddL
  rw [List.foldl_append]
  rfl
theorem dd_mem (l : List Str) : ∀ x, x ∈ ddL l ↔ x ∈ l := by
  induction l using snoc_ind with
  | h0 => intro x; simp [ddL]
  | h1 l y ih =>
    intro x
    rw [dd_snoc]
    split
    · rename_i c
      rw [ih, List.mem_append, List.mem_singleton]
      have : y ∈ l := (ih y).mp (by simpa using c)
      constructor
      · exact .inl
      · rintro (h | rfl)
        · exact h
        · exact this
    · rw [List.mem_append, List.mem_append, ih]
theorem dd_cont (l : List Str) (x : Str) : (ddL l).contains x = l.contains x := by
  rw [Bool.eq_iff_iff, List.contains_iff_mem, List.contains_iff_mem, dd_mem]
theorem dd_len (l : List Str) : (ddL l).length ≤ l.length := by
  induction l using snoc_ind with
  | h0 => simp [ddL]
  | h1 l y ih =>
    rw [dd_snoc, List.length_append, List.length_singleton]
    split
    · omega
    · rw [List.length_append, List.length_singleton]; omega
theorem fst_dd (l : List Str) : fst1 l = ddL l := by
  induction l using snoc_ind with
  | h0 => rfl
  | h1 l y ih =>
    rw [dd_snoc, dd_cont, ← ih]
    unfold fst1
    rw [List.length_append, List.length_singleton, List.range_succ, List.filter_append, List.map_append]
    have e1 : ∀ k ∈ List.range l.length, (l ++ [y]).getD k "" = l.getD k "" := fun k hk => by
      have := List.mem_range.mp hk
      rw [List.getD_eq_getElem?_getD, List.getD_eq_getElem?_getD, List.getElem?_append_left this]
    have e2 : ∀ k ∈ List.range l.length, (l ++ [y]).take k = l.take k := fun k hk => by
      have := List.mem_range.mp hk
      rw [List.take_append_of_le_length (by omega)]
    have e3 : (l ++ [y]).getD l.length "" = y := by simp
    have e4 : (l ++ [y]).take l.length = l := by simp
    have e5 : (List.range l.length).filter (fun k => !((l ++ [y]).take k).contains ((l ++ [y]).getD k "")) = (List.range l.length).filter (fun k => !(l.take k).contains (l.getD k "")) :=
      List.filter_congr fun k hk => by rw [e1 k hk, e2 k hk]
    rw [e5]
    have e6 : ((List.range l.length).filter (fun k => !(l.take k).contains (l.getD k ""))).map (fun k => (l ++ [y]).getD k "") = ((List.range l.length).filter (fun k => !(l.take k).contains (l.getD k ""))).map (fun k => l.getD k "") :=
      List.map_congr_left fun k hk => e1 k (List.mem_filter.mp hk).1
    rw [e6]
    cases c : l.contains y with
    | true => rw [List.filter_cons_of_neg (by rw [e3, e4, c]; decide)]; simp
    | false => rw [List.filter_cons_of_pos (by rw [e3, e4, c]; decide)]; simp
/-- the dict of it -/
theorem dict_dd (l : List Str) : l.foldl (fun a x => putD a (.inr x) (.bool true)) [] = (ddL l).map fun s => ((.str s, .bool true) : D × D) := by
  induction l using snoc_ind with
  | h0 => rfl
  | h1 l y ih =>
    rw [List.foldl_append, ih, dd_snoc]
    show putD _ (.inr y) (.bool true) = _
    unfold putD
    have e : ((ddL l).map fun s => ((.str s, .bool true) : D × D)).any (fun p => isK (.inr y) p.1) = (ddL l).contains y := by
      generalize ddL l = m
      induction m with
      | nil => rfl
      | cons s r ih =>
        rw [List.map_cons, List.any_cons, ih, List.contains_cons]
        have : isK (.inr y) (.str s) = (y == s) := by
          show decide ((.inr s : Key) = .inr y) = _
          rw [Bool.eq_iff_iff, decide_eq_true_eq, beq_iff_eq]
          constructor
          · intro z; exact (Sum.inr.inj z).symm
          · rintro rfl; rfl
        rw [this]
    rw [e]
    cases c : (ddL l).contains y with
    | true =>
      rw [if_pos rfl, if_pos rfl, List.map_map]
      refine List.map_congr_left fun s _ => ?_
      show (if isK (.inr y) (.str s) = true then _ else _) = _
      split <;> rfl
    | false =>
      rw [if_neg (by decide), if_neg (by decide), List.map_append]
      rfl
theorem uses_ok {mk : Mks} {d : Df} (h : DOk d) (hl : (au mk d).length ≤ 500000) : F_uses [dfD d, mkD mk] = some (.list ((ddL (au mk d)).map .str), true) := by
  obtain ⟨fr, g⟩ := all_uses_ok (mk := mk) h
  show runP 2 2 b_uses [_, _] = _
  unfold runP b_uses
  have q := loopDc_enc (gt := gx 3) (fk := K_uses_1) (fv := C_uses_2) (vs := [3]) (cs := [.dat (dfD d), .dat (mkD mk), .no, .no]) (enc := PyData.str) (val := fun _ => .bool true) (ky := fun x => .inr x) (au mk d) (fun x _ =>
    ⟨[.dat (dfD d), .dat (mkD mk), .no, .dat (.str x)], false, false, .str x, by simp, by simp [K_uses_1], rfl, by simp [C_uses_2], by simp, by simp⟩) [] (LIMle (by simp; omega))
  rw [dict_dd] at q
  have e : ((ddL (au mk d)).map fun s => ((.str s, .bool true) : D × D)).map (·.1) = (ddL (au mk d)).map .str := by rw [List.map_map]; rfl
  generalize ((ddL (au mk d)).map fun s => ((.str s, .bool true) : D × D)) = ES at *
  generalize (au mk d).map PyData.str = R at *
  rw [← e]
  generalize dfD d = A at *
  generalize mkD mk = M at *
  simp -implicitDefEqProofs [g, kDc1_s, q]
end My
end
section
set_option Elab.async false
set_option linter.all false
set_option maxRecDepth 100000
set_option maxHeartbeats 1000000
namespace My
open PySem PySem.Spec PyProof.Rows L2 Qp
/-! the numbers that a law draws of its script -/
theorem mix_ok (cell k : Int) : ∃ v, F__law_mix [.int cell, .int k] = some (.int v, false) ∧ 0 ≤ v ∧ v < 9973 := by
  unfold F__law_mix runP b__law_mix
  have a1 : 0 ≤ (cell * 48271 + k * 69621 + 12345) % 2147483647 := Int.emod_nonneg _ (by decide)
  have a2 : (cell * 48271 + k * 69621 + 12345) % 2147483647 < 2147483647 := Int.emod_lt_of_pos _ (by decide)
  generalize hv : (cell * 48271 + k * 69621 + 12345) % 2147483647 = v at a1 a2
  have hm : gMul (.int v) (.int v) = some (.int (v * v), false) := gMul_l (by omega) (by omega)
  refine ⟨(v * v + k * 40692 + 1) % 2147483399 / 5 % 9973, ?_, Int.emod_nonneg _ (by decide), Int.emod_lt_of_pos _ (by decide)⟩
  simp [gMul_l, gMul_r, gMod_i, gFdivW_i, hv, hm]
/-- draws -/
def Dr (d : D) : Prop := ∃ ds : List Int, d = .list (ds.map .int) ∧ ds.length ≤ 10000 ∧ ∀ v ∈ ds, 0 ≤ v ∧ v < 9973
theorem map_int_snoc (ds : List Int) (v : Int) : ds.map PyData.int ++ [.int v] = (ds ++ [v]).map PyData.int := by simp
theorem draws_ok {ns : List Int} (hl : ns.length ≤ 63) : ∃ d, F__law_draws [.list (ns.map .int)] = some (d, false) ∧ Dr d := by
  unfold F__law_draws runP b__law_draws
  have em : (if (ns.length : Int) < 63 then (ns.length : Int) else 63) = ns.length := by
    by_cases h : (ns.length : Int) < 63
    · rw [if_pos h]
    · rw [if_neg h]; omega
  have hsm : Qp.small (ns.length : Int) = true := by unfold Qp.small; simp; omega
  have h60 : Qp.small 60 = true := by decide
  obtain ⟨c, q, ds, x2, x3, x4, rfl, h2, h3, h4, hd, hv⟩ := loopF_inv (ft := gx 2) (body := L__law_draws_2)
    (fun i c => ∃ ds x2 x3 x4, c = [.dat (.list (ns.map .int)), .own (.list (ds.map .int)), x2, x3, x4] ∧ kNo (some x2) = true ∧ kNo (some x3) = true ∧ kNo (some x4) = true ∧ ds.length ≤ 60 * i ∧ ∀ v ∈ ds, (0 : Int) ≤ v ∧ v < 9973) (rngD 0 ns.length)
    (fun i x c hi ⟨ds, x2, x3, x4, hc, h2, h3, h4, hd, hv⟩ => by
      subst hc
      obtain ⟨hi', rfl⟩ := rng_item hi
      rw [Int.zero_add]
      obtain ⟨cell, _, hcell⟩ := atD_ints (ns := ns) (j := (i : Int)) (by omega) (by omega)
      have hap : ∀ (l : List Int) (d : D), l.length ≤ 60 * i + 60 → fApp d (.list (l.map .int)) = some (.list (l.map .int ++ [d])) := fun l d hl' => fApp_of (by rw [List.length_map]; unfold LIM; omega)
      by_cases h18 : cell < 1000000000000000000
      · obtain ⟨v, ev, v0, v1⟩ := mix_ok cell i
        refine ⟨_, _, by simp [h2]; rfl, ?_, ds ++ [v], .dat (.int i), .dat (.int cell), x4, rfl, rfl, rfl, h4, by simp; omega, ?_⟩
        · have := hap ds (.int v) (by omega)
          rw [← map_int_snoc]
          simp [L__law_draws_2, hcell, h3, h18, ev, this]
        · intro u hu
          rcases List.mem_append.mp hu with hu | hu
          · exact hv u hu
          · rw [List.mem_singleton.mp hu]; exact ⟨v0, v1⟩
      · obtain ⟨c', q, ds', w', x4', rfl, g4, gd, gv⟩ := loopF_inv (ft := gx 4) (body := L__law_draws_1)
          (fun m c => ∃ ds' w x4', c = [.dat (.list (ns.map .int)), .own (.list (ds'.map .int)), .dat (.int i), .dat (.int w), x4'] ∧ kNo (some x4') = true ∧ ds'.length ≤ 60 * i + m ∧ ∀ v ∈ ds', (0 : Int) ≤ v ∧ v < 9973) (rngD 0 60)
          (fun m x c hm ⟨ds', w, x4', hc, g4, gd, gv⟩ => by
            subst hc
            obtain ⟨hm', rfl⟩ := rng_item hm
            by_cases hw : 0 < w
            · have := hap ds' (.int (w % 9973)) (by omega)
              refine ⟨_, _, by simp [g4]; rfl, ?_, ds' ++ [w % 9973], w / 9973, .dat (.int (0 + (m : Int))), rfl, rfl, by simp; omega, ?_⟩
              · rw [← map_int_snoc]
                simp [L__law_draws_1, hw, gMod_i, gFdivW_i, this]
              · intro u hu
                rcases List.mem_append.mp hu with hu | hu
                · exact gv u hu
                · rw [List.mem_singleton.mp hu]
                  exact ⟨Int.emod_nonneg _ (by decide), Int.emod_lt_of_pos _ (by decide)⟩
            · refine ⟨_, _, by simp [g4]; rfl, ?_, ds', w, .dat (.int (0 + (m : Int))), rfl, rfl, by omega, gv⟩
              simp [L__law_draws_1, hw])
          (cs := [.dat (.list (ns.map .int)), .own (.list (ds.map .int)), .dat (.int i), .dat (.int cell), x4]) ⟨ds, cell, x4, rfl, h4, by omega, hv⟩
        rw [rngD_len] at gd
        refine ⟨_, _, by simp [h2]; rfl, ?_, ds', .dat (.int i), .dat (.int w'), x4', rfl, rfl, rfl, g4, by omega, gv⟩
        simp [L__law_draws_2, hcell, h3, h18, kR1_of h60, q])
    (cs := [.dat (.list (ns.map .int)), .own (.list ([] : List D)), .no, .no, .no]) ⟨[], _, _, _, rfl, rfl, rfl, rfl, by simp, fun v h => (by cases h)⟩
  refine ⟨.list (ds.map .int), ?_, ds, rfl, by rw [rngD_len] at hd; omega, hv⟩
  simp [em, kR1_of hsm, q]
theorem at_ok {d : D} {i : Int} (h : Dr d) (h0 : 0 ≤ i) : ∃ v, F__law_at [d, .int i] = some (.int v, false) ∧ 0 ≤ v ∧ v < 9973 := by
  obtain ⟨ds, rfl, hl, hv⟩ := h
  unfold F__law_at runP b__law_at
  by_cases hi : i < ds.length
  · obtain ⟨v, h1, h2⟩ := atD_ints h0 hi
    refine ⟨v, ?_, hv v (List.mem_of_getElem? h1)⟩
    simp [hi, h2]
  · by_cases hz : ds.length = 0
    · have e : ds = [] := List.length_eq_zero_iff.mp hz
      subst e
      obtain ⟨v, ev, h1, h2⟩ := mix_ok i 77
      refine ⟨v, ?_, h1, h2⟩
      have hi' : ¬ i < 0 := by omega
      simp [hi', ev]
    · have hp : (0 : Int) < ds.length := by omega
      obtain ⟨u, _, h3⟩ := atD_ints (ns := ds) (j := i % ds.length) (Int.emod_nonneg _ (by omega)) (Int.emod_lt_of_pos _ hp)
      obtain ⟨v, ev, h1, h2⟩ := mix_ok (u + i * 131) i
      refine ⟨v, ?_, h1, h2⟩
      have hz' : ((ds.length : Int) == 0) = false := by simp; intro z; exact hz (by rw [z]; rfl)
      have em : gMod (.int i) (.int ds.length) = some (.int (i % ds.length), false) := gMod_i hp
      simp [hi, hz', em, gMul_r, h3, ev]
/-! the state of draws: the draws and a number -/
def Stt (d : D) : Prop := ∃ (x : D) (i : Int), d = .list [x, .int i] ∧ Dr x ∧ 0 ≤ i
theorem next_ok {d : D} {lim : Int} (h : Stt d) (hl : 0 < lim) : ∃ v d', F__law_next d [.int lim] = some (.int v, false, d') ∧ Stt d' ∧ 0 ≤ v ∧ v < lim := by
  obtain ⟨x, i, rfl, hx, hi⟩ := h
  obtain ⟨v, ev, h1, h2⟩ := at_ok (i := i + 1) hx (by omega)
  refine ⟨v % lim, .list [x, .int (i + 1)], ?_, ⟨x, i + 1, rfl, hx, by omega⟩, Int.emod_nonneg _ (by omega), Int.emod_lt_of_pos _ hl⟩
  unfold F__law_next runI b__law_next
  have g1 : getL (.list [x, .int i]) (.int 1) = some (.int i) := rfl
  have g2 : fSet (.int 1) (.int (i + 1)) (.list [x, .int i]) = some (.list [x, .int (i + 1)]) := rfl
  simp -implicitDefEqProofs [g1, g2, ev, gMod_i, hl]
end My
end
section
set_option Elab.async false
set_option linter.all false
set_option maxRecDepth 100000
set_option maxHeartbeats 8000000
namespace My
open PySem PySem.Spec PyProof.Rows L2 Qp
/-! kinds, names, plain expressions that are drawn -/
def BS : List Str := ["num", "text", "bool", "d", "e"]
structure KOk (k : Kn) : Prop where
  lo : 0 ≤ k.1
  bs : k.2 ∈ BS
def KDS : List Kn := [(0, "num"), (0, "text"), (0, "bool"), (1, "num"), (1, "text"), (0, "d"), (1, "d"), (0, "e"), (2, "num")]
theorem kds_ok : ∀ k ∈ KDS, KOk k := by
  intro k hk
  simp only [KDS, List.mem_cons, List.not_mem_nil, or_false] at hk
  rcases hk with rfl | rfl | rfl | rfl | rfl | rfl | rfl | rfl | rfl <;> exact ⟨by decide, by simp [BS]⟩
theorem kinds_ok : F__law_kinds [] = some (.list (KDS.map knD), true) := by
  unfold F__law_kinds runP b__law_kinds
  have g : gLstD [.tuple [.int 0, .str "num"], .tuple [.int 0, .str "text"], .tuple [.int 0, .str "bool"], .tuple [.int 1, .str "num"], .tuple [.int 1, .str "text"], .tuple [.int 0, .str "d"], .tuple [.int 1, .str "d"], .tuple [.int 0, .str "e"], .tuple [.int 2, .str "num"]] = some (.list (KDS.map knD), true) := rfl
  simp -implicitDefEqProofs [g]
theorem at_map {α : Type} (f : α → D) (l : List α) {v : Int} (h : 0 ≤ v) (h2 : v < l.length) : ∃ x ∈ l, atD (l.map f) v = some (f x) := by
  refine ⟨l[v.toNat]'(by omega), List.getElem_mem _, ?_⟩
  rw [atD_of h (by simpa using h2), List.getElem?_map, List.getElem?_eq_getElem (by omega)]
  rfl
theorem drawn_ok {d : D} (h : Stt d) : ∃ k d', F__law_drawn_kind d [] = some (knD k, false, d') ∧ Stt d' ∧ KOk k := by
  obtain ⟨v, d', e, h', p, q⟩ := next_ok h (lim := 9) (by decide)
  obtain ⟨k, hk, ek⟩ := at_map knD KDS p q
  refine ⟨k, d', ?_, h', kds_ok k hk⟩
  unfold F__law_drawn_kind runI b__law_drawn_kind
  have g := kinds_ok
  generalize KDS.map knD = L at *
  simp -implicitDefEqProofs [g, e, ek]
def NS : List Str := ["x", "y", "z", "f", "c"]
/-- drawn local names -/
structure NOk (ns : List Str) : Prop where
  ln : ns.length ≤ 5
  ok : ∀ s ∈ ns, s ∈ NS
theorem ns_sok {s : Str} (h : s ∈ NS) : Sok s := by
  have : ∀ s ∈ NS, s ∈ NMS := by decide +kernel
  exact this s h
theorem names_ok' {d : D} {n : Int} (h : Stt d) (h0 : 0 ≤ n) (h5 : n ≤ 5) : ∃ ns fr d', F__law_names d [.int n] = some (.tuple (ns.map .str), fr, d') ∧ Stt d' ∧ NOk ns ∧ (ns.length : Int) = n := by
  obtain ⟨v, d1, e1, h1, p, q⟩ := next_ok h (lim := 5) (by decide)
  show ∃ ns fr d', runI 2 4 b__law_names d [.int n] = _ ∧ _
  unfold runI b__law_names
  obtain ⟨m, rfl⟩ := Int.eq_ofNat_of_zero_le h0
  obtain ⟨ns, hns, hin, qc⟩ : ∃ ns : List Str, ns.length = m ∧ (∀ s ∈ ns, s ∈ NS) ∧ loopC (gx 5) evYes C__law_names_1 [5] (rngD 0 m) [] [.io d1, .dat (.int (m : Int)), .own (.list (NS.map .str)), .dat (.int v), .no, .no] = some (ns.map .str, [.io d1, .dat (.int (m : Int)), .own (.list (NS.map .str)), .dat (.int v), .no, .no]) := by
    have hr : rngD 0 m = (List.range m).map fun k : Nat => PyData.int (k : Int) := by
      refine List.ext_getElem (by rw [rngD_len, List.length_map, List.length_range]) fun i h1 h2 => ?_
      have := (rng_item (lo := 0) (n := m) (i := i) (x := (rngD 0 m)[i]) (List.getElem?_eq_getElem h1)).2
      rw [this, List.getElem_map, List.getElem_range, Int.zero_add]
    let g : Nat → Str := fun k => NS.getD ((v + (k : Int)) % 5).toNat ""
    refine ⟨(List.range m).map g, by simp, fun s hs => ?_, ?_⟩
    · obtain ⟨k, _, rfl⟩ := List.mem_map.mp hs
      have : ((v + (k : Int)) % 5).toNat < NS.length := by
        have := Int.emod_lt_of_pos (v + (k : Int)) (b := 5) (by decide)
        have : NS.length = 5 := rfl
        omega
      show NS.getD _ _ ∈ NS
      rw [List.getD_eq_getElem?_getD, List.getElem?_eq_getElem this]
      exact List.getElem_mem _
    · rw [hr, List.map_map]
      refine loopC_enc (List.range m) (fun k hk => ?_) (by rw [List.length_range]; exact Nat.le_trans (by omega) lim6)
      refine ⟨[.io d1, .dat (.int (m : Int)), .own (.list (NS.map .str)), .dat (.int v), .no, .dat (.int (k : Int))], false, by simp, ?_, by simp, by simp⟩
      have hk' : ((v + (k : Int)) % 5) < 5 := Int.emod_lt_of_pos _ (by decide)
      have hk0 : 0 ≤ ((v + (k : Int)) % 5) := Int.emod_nonneg _ (by decide)
      have ea : atD (NS.map PyData.str) ((v + (k : Int)) % 5) = some (.str (g k)) := by
        rw [atD_of hk0 (by rw [List.length_map]; exact hk'), List.getElem?_map]
        have hl : ((v + (k : Int)) % 5).toNat < NS.length := by have : NS.length = 5 := rfl; omega
        show Option.map _ _ = some (PyData.str (NS.getD _ _))
        rw [List.getD_eq_getElem?_getD, List.getElem?_eq_getElem hl]
        rfl
      generalize NS.map PyData.str = L at *
      simp -implicitDefEqProofs [C__law_names_1, gMod_i, ea]
  have hsm : Qp.small (m : Int) = true := by unfold Qp.small; simp; omega
  have gl : gLstD [.str "x", .str "y", .str "z", .str "f", .str "c"] = some (.list (NS.map .str), true) := rfl
  have r1 : ∀ c : En, kR1 (some ([PyData.int (m : Int)], c)) = some (rngD 0 m, c) := fun c => by rw [kR1_of hsm]; rfl
  by_cases hm : 1 < m
  · obtain ⟨w, d2, e2, h2, p2, q2⟩ := next_ok h1 (lim := 25) (by decide)
    have hm' : (1 : Int) < (m : Int) := by omega
    by_cases hw : w = 0
    · subst hw
      obtain ⟨a, b, r, rfl⟩ : ∃ a b r, ns = a :: b :: r := by
        match ns, hns with
        | a :: b :: r, _ => exact ⟨a, b, r, rfl⟩
        | [a], hh => simp at hh; omega
        | [], hh => simp at hh; omega
      refine ⟨a :: a :: r, false, d2, ?_, h2, ⟨by simp at hns ⊢; omega, fun s hs => ?_⟩, by simp at hns ⊢; omega⟩
      · generalize NS.map PyData.str = L at *
        have g2 : fSet (.int 1) (.str a) (.list (.str a :: .str b :: r.map .str)) = some (.list (.str a :: .str a :: r.map .str)) := by
          rw [fSet_of (by decide) (by simp; try omega)]
          rfl
        simp -implicitDefEqProofs [gl, e1, r1, qc, hm', e2, g2]
      · have := hin s
        simp only [List.mem_cons] at hs this
        rcases hs with rfl | rfl | hs
        · exact this (.inl rfl)
        · exact this (.inl rfl)
        · exact this (.inr (.inr hs))
    · refine ⟨ns, false, d2, ?_, h2, ⟨by omega, hin⟩, by omega⟩
      have hw' : (w == 0) = false := by simp [hw]
      generalize NS.map PyData.str = L at *
      generalize ns.map PyData.str = L2 at *
      simp -implicitDefEqProofs [gl, e1, r1, qc, hm', e2, hw']
  · refine ⟨ns, false, d1, ?_, h1, ⟨by omega, hin⟩, by omega⟩
    have hm' : ¬ (1 : Int) < (m : Int) := by omega
    generalize NS.map PyData.str = L at *
    generalize ns.map PyData.str = L2 at *
    simp -implicitDefEqProofs [gl, e1, r1, qc, hm']
end My
end
section
set_option Elab.async false
set_option linter.all false
set_option maxRecDepth 100000
set_option maxHeartbeats 8000000
namespace My
open PySem PySem.Spec PyProof.Rows L2 Qp
def Sz : Nat → Nat
  | 0 => 2
  | k + 1 => 7 * Sz k + 8
/-- an expression that is k deep -/
structure Tm (k : Nat) (e : E) : Prop where
  ok : EOk (k + 1) e
  sz : nd e ≤ Sz k
theorem sok_d {s : Str} (h : s ∈ NMS) : Sok s := h
theorem plain_ok {d : D} {k : Kn} (h : Stt d) (hk : KOk k) : ∃ e fr d', F__law_plain d [knD k] = some (encE e, fr, d') ∧ Stt d' ∧ Tm 0 e := by
  obtain ⟨l, b⟩ := k
  obtain ⟨h0, hb⟩ := hk
  show ∃ e fr d', runI 2 0 b__law_plain d [_] = _ ∧ _
  unfold runI b__law_plain
  by_cases hl : 0 < l
  · exact ⟨.list [], false, d, by simp -implicitDefEqProofs [knD, hl, encE, encEs], h, ⟨by simp [EOk], by simp [nd, nds, Sz]⟩⟩
  · have hl' : decide (0 < l) = false := by simp at hl ⊢; omega
    simp only [BS, List.mem_cons, List.not_mem_nil, or_false] at hb
    obtain ⟨w4, d4, e4, h4, p4, q4⟩ := next_ok h (lim := 4) (by decide)
    obtain ⟨w3, d3, e3, h3, p3, q3⟩ := next_ok h (lim := 3) (by decide)
    obtain ⟨w2, d2, e2, h2, p2, q2⟩ := next_ok h (lim := 2) (by decide)
    obtain ⟨s, _, es⟩ := at_map PyData.str ["", "a", "it's"] p3 q3
    simp only [List.map_cons, List.map_nil] at es
    rcases hb with rfl | rfl | rfl | rfl | rfl
    · exact ⟨.num w4, false, d4, by simp -implicitDefEqProofs [knD, hl', encE, e4], h4, ⟨trivial, by simp [nd, Sz]⟩⟩
    · exact ⟨.text s, false, d3, by simp -implicitDefEqProofs [knD, hl', encE, e3, es], h3, ⟨trivial, by simp [nd, Sz]⟩⟩
    · exact ⟨.bool (w2 == 0), false, d2, by simp -implicitDefEqProofs [knD, hl', encE, e2], h2, ⟨trivial, by simp [nd, Sz]⟩⟩
    · exact ⟨.make "Leaf" [], false, d, by simp -implicitDefEqProofs [knD, hl', encE, encEs], h, ⟨⟨sok_d (by decide +kernel), by simp, by simp⟩, by simp [nd, nds, Sz]⟩⟩
    · exact ⟨.make "Two" [], false, d, by simp -implicitDefEqProofs [knD, hl', encE, encEs], h, ⟨⟨sok_d (by decide +kernel), by simp, by simp⟩, by simp [nd, nds, Sz]⟩⟩
/-! the plan -/
structure KsOk (ks : List Kn) : Prop where
  ln : ks.length ≤ 5
  ok : ∀ k ∈ ks, KOk k
structure MsOk (ms : List (Str × List Kn)) : Prop where
  l0 : 2 ≤ ms.length
  ln : ms.length ≤ 4
  ok : ∀ p ∈ ms, Sok p.1 ∧ p.2.length ≤ 3 ∧ ∀ k ∈ p.2, KOk k
def FORM : Str → Str := fun n => if n ∈ (["f", "g", "h", "k"] : List Str) then "fun" else if n ∈ (["c", "m"] : List Str) then "cell" else if n ∈ (["v", "w"] : List Str) then "view" else "act"
def PNS : List Str := ["f", "g", "h", "k", "c", "m", "v", "w", "a", "b"]
def DataAt (es : List (D × D)) (n : Str) : Prop := ∃ ms, valD es (.inr n) = some (.tuple [.str "data", .tuple (ms.map mkrD)]) ∧ MsOk ms
def ThingAt (es : List (D × D)) (n : Str) : Prop := ∃ ks k, valD es (.inr n) = some (.tuple [.str (FORM n), .tuple (ks.map knD), knD k]) ∧ KsOk ks ∧ KOk k
/-- a plan that has some names -/
structure Pl (ds ts : List Str) (es : List (D × D)) : Prop where
  ln : es.length ≤ 100
  dt : ∀ n ∈ ds, DataAt es n
  th : ∀ n ∈ ts, ThingAt es n
theorem Pl.put {ds ts : List Str} {es : List (D × D)} (h : Pl ds ts es) {n : Str} {ks : List Kn} {k : Kn} (hn : n ∉ ds) (hk : KsOk ks) (hk' : KOk k) (hl : es.length < 100) : Pl ds (n :: ts) (putD es (.inr n) (.tuple [.str (FORM n), .tuple (ks.map knD), knD k])) := by
  refine ⟨Nat.le_trans putD_len (by omega), fun m hm => ?_, fun m hm => ?_⟩
  · obtain ⟨ms, e, o⟩ := h.dt m hm
    refine ⟨ms, ?_, o⟩
    rw [valD_put, if_neg (fun z => hn (by cases z; exact hm)), e]
  · by_cases e : m = n
    · subst e
      exact ⟨ks, k, by rw [valD_put, if_pos rfl], hk, hk'⟩
    · rcases List.mem_cons.mp hm with z | z
      · exact absurd z e
      · obtain ⟨ks, k, e', o⟩ := h.th m z
        refine ⟨ks, k, ?_, o⟩
        rw [valD_put, if_neg (fun z => e (by cases z; rfl)), e']
theorem Pl.putD {ds : List Str} {es : List (D × D)} (h : Pl ds [] es) {n : Str} {ms : List (Str × List Kn)} (hm : MsOk ms) (hl : es.length < 100) : Pl (n :: ds) [] (Qp.putD es (.inr n) (.tuple [.str "data", .tuple (ms.map mkrD)])) := by
  refine ⟨Nat.le_trans putD_len (by omega), fun m hm' => ?_, fun m hm' => by cases hm'⟩
  by_cases e : m = n
  · subst e
    exact ⟨ms, by rw [valD_put, if_pos rfl], hm⟩
  · rcases List.mem_cons.mp hm' with z | z
    · exact absurd z e
    · obtain ⟨ms, e', o⟩ := h.dt m z
      refine ⟨ms, ?_, o⟩
      rw [valD_put, if_neg (fun z => e (by cases z; rfl)), e']
theorem rngD_map (n : Nat) : rngD 0 n = (List.range n).map fun k : Nat => PyData.int (k : Int) := by
  refine List.ext_getElem (by rw [rngD_len, List.length_map, List.length_range]) fun i h1 h2 => ?_
  have := (rng_item (lo := 0) (n := n) (i := i) (x := (rngD 0 n)[i]) (List.getElem?_eq_getElem h1)).2
  rw [this, List.getElem_map, List.getElem_range, Int.zero_add]
theorem paired_kn {α : Type} : ∀ {xs : List α} {ds : List D}, Paired (fun _ d => ∃ k, d = knD k ∧ KOk k) xs ds → ∃ ks : List Kn, ds = ks.map knD ∧ ks.length = xs.length ∧ ∀ k ∈ ks, KOk k
  | _, _, .nil => ⟨[], rfl, rfl, fun p h => by cases h⟩
  | _, _, .cons ⟨p, h1, h2⟩ t => by
    obtain ⟨ps, rfl, hl, hr⟩ := paired_kn t
    refine ⟨p :: ps, by rw [h1]; rfl, by simp [hl], fun q hq => ?_⟩
    rcases List.mem_cons.mp hq with rfl | hq
    · exact h2
    · exact hr q hq
/-- some drawn kinds in a comprehension over range -/
theorem kinds_loop {d : D} (h : Stt d) {fe : EX} (hfe : fe = evCI 1 (F__law_drawn_kind) 0 evNil) {r1 r2 r3 : Cell} (n : Nat) (hn : n ≤ 5) : ∃ (ks : List Kn) (d' : D), loopC (gx 4) evYes fe [4] (rngD 0 n) [] [.io d, r1, r2, r3, .no] = some (ks.map knD, [.io d', r1, r2, r3, .no]) ∧ Stt d' ∧ ks.length = n ∧ ∀ k ∈ ks, KOk k := by
  obtain ⟨ds, cc, q1, ⟨d3, rfl, h3⟩, q3⟩ := loopC_io (gt := gx 4) (fe := fe) (vs := [4]) (fun _ cs => ∃ d', cs = [.io d', r1, r2, r3, .no] ∧ Stt d') (fun _ d => ∃ k, d = knD k ∧ KOk k) (fun i : Nat => PyData.int (i : Int)) (List.range n) 0 [.io d, r1, r2, r3, .no] ⟨d, rfl, h⟩
    (fun j x cs hj ⟨d', hc, hs⟩ => by
      subst hc hfe
      obtain ⟨k, d'', e, h', hk⟩ := drawn_ok hs
      exact ⟨[.io d', r1, r2, r3, .dat (.int (x : Int))], false, knD k, [.io d'', r1, r2, r3, .dat (.int (x : Int))], by simp, by simp -implicitDefEqProofs [e], by simp, ⟨d'', by simp, h'⟩, k, rfl, hk⟩) [] (by rw [List.length_range, List.length_nil]; exact Nat.le_trans (show _ ≤ 6 by omega) lim6)
  obtain ⟨ks, rfl, hl, hr⟩ := paired_kn q3
  rw [List.length_range] at hl
  rw [← rngD_map, List.nil_append] at q1
  exact ⟨ks, d3, q1, h3, hl, hr⟩
end My
end
section
set_option Elab.async false
set_option linter.all false
set_option maxRecDepth 100000
set_option maxHeartbeats 8000000
namespace My
open PySem PySem.Spec PyProof.Rows L2 Qp
theorem plan_loop {ds : List Str} {body : SX} : ∀ (ns : List Str) (d : D) (es : List (D × D)) (ts : List Str) (x2 x3 : Cell),
    (∀ n ∈ ns, ∀ d es ts x2, Stt d → Pl ds ts es → es.length < 100 → kNo (some x2) = true → ∃ d' ks k x2', body [.io d, .own (.dict es), x2, .dat (.str n), .no] = some (.nx [.io d', .own (.dict (putD es (.inr n) (.tuple [.str (FORM n), .tuple (ks.map knD), knD k]))), x2', .dat (.str n), .no]) ∧ Stt d' ∧ KsOk ks ∧ KOk k ∧ kNo (some x2') = true) →
    (∀ n ∈ ns, n ∉ ds) → Stt d → Pl ds ts es → es.length + ns.length < 100 → kNo (some x2) = true → kNo (some x3) = true →
    ∃ d' es' x2' x3', loopF (gx 3) body (ns.map .str) [.io d, .own (.dict es), x2, x3, .no] = some (.nx [.io d', .own (.dict es'), x2', x3', .no]) ∧ Stt d' ∧ Pl ds (ns.reverse ++ ts) es' ∧ es'.length ≤ es.length + ns.length ∧ kNo (some x2') = true ∧ kNo (some x3') = true
  | [], d, es, ts, x2, x3, _, _, h, hp, hl, h2, h3 => ⟨d, es, x2, x3, by simp, h, by simpa using hp, by simp, h2, h3⟩
  | n :: r, d, es, ts, x2, x3, hb, hn, h, hp, hl, h2, h3 => by
    rw [List.length_cons] at hl
    obtain ⟨d1, ks, k, y2, e1, h1, ok1, ok2, hy⟩ := hb n List.mem_cons_self d es ts x2 h hp (by omega) h2
    have p1 := hp.put (hn n List.mem_cons_self) ok1 ok2 (by omega)
    have le1 : (putD es (.inr n) (.tuple [.str (FORM n), .tuple (ks.map knD), knD k])).length ≤ es.length + 1 := putD_len
    obtain ⟨d', es', x2', x3', q, a1, a2, a3, a4, a5⟩ := plan_loop (ds := ds) (body := body) r d1 _ (n :: ts) y2 (.dat (.str n)) (fun m hm => hb m (List.mem_cons_of_mem _ hm)) (fun m hm => hn m (List.mem_cons_of_mem _ hm)) h1 p1 (by omega) hy rfl
    refine ⟨d', es', x2', x3', ?_, a1, by simpa using a2, by rw [List.length_cons]; omega, a4, a5⟩
    rw [List.map_cons, loopF_step (c1 := [.io d, .own (.dict es), x2, .dat (.str n), .no]) (by simp [h3]) e1, q]
theorem fPutL {es : List (D × D)} {k : Key} {d : D} (h : es.length < 100) : fPut k d (.dict es) = some (.dict (putD es k d)) := fPut_of (Nat.lt_of_lt_of_le h (by decide))
theorem form_f {n : Str} (h : n ∈ (["f", "g", "h", "k"] : List Str)) : FORM n = "fun" := if_pos h
theorem form_c {n : Str} (h : n ∈ (["c", "m"] : List Str)) : FORM n = "cell" := by
  simp only [List.mem_cons, List.not_mem_nil, or_false] at h
  rcases h with rfl | rfl <;> decide +kernel
theorem form_v {n : Str} (h : n ∈ (["v", "w"] : List Str)) : FORM n = "view" := by
  simp only [List.mem_cons, List.not_mem_nil, or_false] at h
  rcases h with rfl | rfl <;> decide +kernel
theorem form_a {n : Str} (h : n ∈ (["a", "b"] : List Str)) : FORM n = "act" := by
  simp only [List.mem_cons, List.not_mem_nil, or_false] at h
  rcases h with rfl | rfl <;> decide +kernel
theorem step3 {ds : List Str} : ∀ n ∈ (["f", "g", "h", "k"] : List Str), ∀ d es ts x2, Stt d → Pl ds ts es → es.length < 100 → kNo (some x2) = true → ∃ d' ks k x2', L__law_plan_3 [.io d, .own (.dict es), x2, .dat (.str n), .no] = some (.nx [.io d', .own (.dict (putD es (.inr n) (.tuple [.str (FORM n), .tuple (ks.map knD), knD k]))), x2', .dat (.str n), .no]) ∧ Stt d' ∧ KsOk ks ∧ KOk k ∧ kNo (some x2') = true := by
  intro n hn d es ts x2 h hp hl h2
  rw [form_f hn]
  obtain ⟨v, d1, e1, h1, p1, q1⟩ := next_ok h (lim := 7) (by decide)
  obtain ⟨m, hm, em⟩ := at_map PyData.int [0, 1, 2, 0, 1, 2, 5] p1 q1
  obtain ⟨m, rfl⟩ : ∃ j : Nat, m = (j : Int) := ⟨m.toNat, by simp at hm; omega⟩
  have hm5 : m ≤ 5 := by simp at hm; omega
  obtain ⟨ks, d2, e2, h2', l2, o2⟩ := kinds_loop h1 (fe := C__law_plan_2) rfl (r1 := .own (.dict es)) (r2 := x2) (r3 := .dat (.str n)) m hm5
  obtain ⟨k, d3, e3, h3, o3⟩ := drawn_ok h2'
  have hsm : Qp.small (m : Int) = true := by unfold Qp.small; simp; omega
  have r1 : ∀ c : En, kR1 (some ([PyData.int (m : Int)], c)) = some (rngD 0 m, c) := fun c => by rw [kR1_of hsm]; rfl
  have gl : gLstD [.int 0, .int 1, .int 2, .int 0, .int 1, .int 2, .int 5] = some (.list (([0, 1, 2, 0, 1, 2, 5] : List Int).map .int), true) := rfl
  refine ⟨d3, ks, k, .dat (.tuple (ks.map knD)), ?_, h3, ⟨by omega, o2⟩, o3, rfl⟩
  have gp := fPutL (k := .inr n) (d := .tuple [.str "fun", .tuple (ks.map knD), knD k]) hl
  generalize putD es (.inr n) (.tuple [.str "fun", .tuple (ks.map knD), knD k]) = ES at *
  generalize ([0, 1, 2, 0, 1, 2, 5] : List Int).map PyData.int = L at *
  generalize ks.map knD = KS at *
  generalize knD k = kk at *
  simp -implicitDefEqProofs [L__law_plan_3, gl, e1, em, r1, e2, h2, e3, gp]
theorem step7 {ds : List Str} : ∀ n ∈ (["a", "b"] : List Str), ∀ d es ts x2, Stt d → Pl ds ts es → es.length < 100 → kNo (some x2) = true → ∃ d' ks k x2', L__law_plan_7 [.io d, .own (.dict es), x2, .dat (.str n), .no] = some (.nx [.io d', .own (.dict (putD es (.inr n) (.tuple [.str (FORM n), .tuple (ks.map knD), knD k]))), x2', .dat (.str n), .no]) ∧ Stt d' ∧ KsOk ks ∧ KOk k ∧ kNo (some x2') = true := by
  intro n hn d es ts x2 h hp hl h2
  rw [form_a hn]
  obtain ⟨v, d1, e1, h1, p1, q1⟩ := next_ok h (lim := 4) (by decide)
  obtain ⟨m, rfl⟩ := Int.eq_ofNat_of_zero_le p1
  obtain ⟨ks, d2, e2, h2', l2, o2⟩ := kinds_loop h1 (fe := C__law_plan_6) rfl (r1 := .own (.dict es)) (r2 := x2) (r3 := .dat (.str n)) m (by omega)
  obtain ⟨k, d3, e3, h3, o3⟩ := drawn_ok h2'
  have hsm : Qp.small (m : Int) = true := by unfold Qp.small; simp; omega
  have r1 : ∀ c : En, kR1 (some ([PyData.int (m : Int)], c)) = some (rngD 0 m, c) := fun c => by rw [kR1_of hsm]; rfl
  refine ⟨d3, ks, k, .dat (.tuple (ks.map knD)), ?_, h3, ⟨by omega, o2⟩, o3, rfl⟩
  have gp := fPutL (k := .inr n) (d := .tuple [.str "act", .tuple (ks.map knD), knD k]) hl
  generalize putD es (.inr n) (.tuple [.str "act", .tuple (ks.map knD), knD k]) = ES at *
  generalize ks.map knD = KS at *
  generalize knD k = kk at *
  simp -implicitDefEqProofs [L__law_plan_7, e1, r1, e2, h2, e3, gp]
theorem step4 {ds : List Str} : ∀ n ∈ (["c", "m"] : List Str), ∀ d es ts x2, Stt d → Pl ds ts es → es.length < 100 → kNo (some x2) = true → ∃ d' ks k x2', L__law_plan_4 [.io d, .own (.dict es), x2, .dat (.str n), .no] = some (.nx [.io d', .own (.dict (putD es (.inr n) (.tuple [.str (FORM n), .tuple (ks.map knD), knD k]))), x2', .dat (.str n), .no]) ∧ Stt d' ∧ KsOk ks ∧ KOk k ∧ kNo (some x2') = true := by
  intro n hn d es ts x2 h hp hl h2
  rw [form_c hn]
  obtain ⟨k, d3, e3, h3, o3⟩ := drawn_ok h
  refine ⟨d3, [], k, x2, ?_, h3, ⟨by simp, by simp⟩, o3, h2⟩
  have gp := fPutL (k := .inr n) (d := .tuple [.str "cell", .tuple (([] : List Kn).map knD), knD k]) hl
  simp only [List.map_nil] at *
  generalize putD es (.inr n) (.tuple [.str "cell", .tuple [], knD k]) = ES at *
  generalize knD k = kk at *
  simp -implicitDefEqProofs [L__law_plan_4, e3, gp]
theorem step5 {ds : List Str} : ∀ n ∈ (["v", "w"] : List Str), ∀ d es ts x2, Stt d → Pl ds ts es → es.length < 100 → kNo (some x2) = true → ∃ d' ks k x2', L__law_plan_5 [.io d, .own (.dict es), x2, .dat (.str n), .no] = some (.nx [.io d', .own (.dict (putD es (.inr n) (.tuple [.str (FORM n), .tuple (ks.map knD), knD k]))), x2', .dat (.str n), .no]) ∧ Stt d' ∧ KsOk ks ∧ KOk k ∧ kNo (some x2') = true := by
  intro n hn d es ts x2 h hp hl h2
  rw [form_v hn]
  obtain ⟨k, d3, e3, h3, o3⟩ := drawn_ok h
  refine ⟨d3, [], k, x2, ?_, h3, ⟨by simp, by simp⟩, o3, h2⟩
  have gp := fPutL (k := .inr n) (d := .tuple [.str "view", .tuple (([] : List Kn).map knD), knD k]) hl
  simp only [List.map_nil] at *
  generalize putD es (.inr n) (.tuple [.str "view", .tuple [], knD k]) = ES at *
  generalize knD k = kk at *
  simp -implicitDefEqProofs [L__law_plan_5, e3, gp]
end My
end
section
set_option Elab.async false
set_option linter.all false
set_option maxRecDepth 100000
set_option maxHeartbeats 8000000
namespace My
open PySem PySem.Spec PyProof.Rows L2 Qp
def pp0 : SX := sAsg 1 (evDnew)
def pp1 : SX := sDput 1 (evC (.str "d")) (evA gTupD (evCons (evC (.str "data")) (evCons (evA gTupD (evCons (evA gTupD (evCons (evC (.str "Leaf")) (evCons (evA gTupD (evNil)) (evNil)))) (evCons (evA gTupD (evCons (evC (.str "Node")) (evCons (evA gTupD (evCons (evCI 1 (F__law_drawn_kind) 0 (evNil)) (evCons (evCI 1 (F__law_drawn_kind) 0 (evNil)) (evNil)))) (evNil)))) (evNil)))) (evNil))))
def pp2 : SX := sDput 1 (evC (.str "e")) (evA gTupD (evCons (evC (.str "data")) (evCons (evA gTupD (evCons (evA gTupD (evCons (evC (.str "One")) (evCons (evA gTupD (evCons (evCI 1 (F__law_drawn_kind) 0 (evNil)) (evNil))) (evNil)))) (evCons (evA gTupD (evCons (evC (.str "Two")) (evCons (evA gTupD (evNil)) (evNil)))) (evNil)))) (evNil))))
def pp3 : SX := sIf (evT (ev2 gEq (evCI 2 (F__law_next) 0 (evCons (evC (.int 4)) (evNil))) (evC (.int 0)))) (sSeq (sAsg 2 (evA (gOne gTuple) (evCons (evLc [4] (ixR1 (evCons (evC (.int 3)) (evNil))) (gx 4) (evYes) (C__law_plan_1)) (evNil))))
  (sDput 1 (evC (.str "e")) (evA gTupD (evCons (evC (.str "data")) (evCons (ev2 gAdd (ev2 gIx (evIxV gDget 1 (evC (.str "e"))) (evC (.int 1))) (evA gTupD (evCons (evA gTupD (evCons (evC (.str "Six")) (evCons (evVar 2) (evNil)))) (evCons (evA gTupD (evCons (evC (.str "Nought")) (evCons (evA gTupD (evNil)) (evNil)))) (evNil))))) (evNil)))))) (sNx)
def pp4 : SX := sIf (evT (ev2 gEq (evCI 2 (F__law_next) 0 (evCons (evC (.int 9)) (evNil))) (evC (.int 0)))) (sDput 1 (evC (.str "e")) (evA gTupD (evCons (evC (.str "data")) (evCons (evA gTupD (evCons (evA gTupD (evCons (evC (.str "One")) (evCons (evA gTupD (evCons (evA gTupD (evCons (evC (.int 0)) (evCons (evC (.str "num")) (evNil)))) (evNil))) (evNil)))) (evCons (evA gTupD (evCons (ev2 gIx (evA gLstD (evCons (evC (.str "Leaf")) (evCons (evC (.str "One")) (evNil)))) (evCI 2 (F__law_next) 0 (evCons (evC (.int 2)) (evNil)))) (evCons (evA gTupD (evNil)) (evNil)))) (evNil)))) (evNil))))) (sNx)
def pp5 : SX := sFor (ixSeq (evA gLstD (evCons (evC (.str "f")) (evCons (evC (.str "g")) (evCons (evC (.str "h")) (evCons (evC (.str "k")) (evNil))))))) (gx 3) (L__law_plan_3)
def pp6 : SX := sFor (ixSeq (evA gLstD (evCons (evC (.str "c")) (evCons (evC (.str "m")) (evNil))))) (gx 3) (L__law_plan_4)
def pp7 : SX := sFor (ixSeq (evA gLstD (evCons (evC (.str "v")) (evCons (evC (.str "w")) (evNil))))) (gx 3) (L__law_plan_5)
def pp8 : SX := sFor (ixSeq (evA gLstD (evCons (evC (.str "a")) (evCons (evC (.str "b")) (evNil))))) (gx 3) (L__law_plan_7)
def pp9 : SX := sRet (evVar 1)
def ppt9 : SX := pp9
def ppt8 : SX := sSeq (pp8) (ppt9)
def ppt7 : SX := sSeq (pp7) (ppt8)
def ppt6 : SX := sSeq (pp6) (ppt7)
def ppt5 : SX := sSeq (pp5) (ppt6)
def ppt4 : SX := sSeq (pp4) (ppt5)
def ppt3 : SX := sSeq (pp3) (ppt4)
def ppt2 : SX := sSeq (pp2) (ppt3)
def ppt1 : SX := sSeq (pp1) (ppt2)
def ppt0 : SX := sSeq (pp0) (ppt1)
theorem pp_eq : b__law_plan = ppt0 := rfl
theorem Pl.mono {ds ts ds' ts' : List Str} {es : List (D × D)} (h : Pl ds ts es) (h1 : ∀ n ∈ ds', n ∈ ds) (h2 : ∀ n ∈ ts', n ∈ ts) : Pl ds' ts' es := ⟨h.ln, fun n hn => h.dt n (h1 n hn), fun n hn => h.th n (h2 n hn)⟩
theorem pp_tail {d : D} {es : List (D × D)} {x2 : Cell} (h : Stt d) (hp : Pl ["d", "e"] [] es) (hl : es.length ≤ 50) (h2 : kNo (some x2) = true) : ∃ es' d' cs, ppt5 [.io d, .own (.dict es), x2, .no, .no] = some (.rt (.dict es') false (.io d' :: cs)) ∧ Stt d' ∧ Pl ["d", "e"] PNS es' := by
  obtain ⟨d1, es1, y1, z1, e1, h1, p1, l1, a1, b1⟩ := plan_loop ["f", "g", "h", "k"] d es [] x2 .no (fun n hn d es ts x2 => step3 n hn d es ts x2) (by decide +kernel) h hp (by simp; omega) h2 rfl
  obtain ⟨d2, es2, y2, z2, e2, h2, p2, l2, a2, b2⟩ := plan_loop ["c", "m"] d1 es1 _ y1 z1 (fun n hn d es ts x2 => step4 n hn d es ts x2) (by decide +kernel) h1 p1 (by simp at l1 ⊢; omega) a1 b1
  obtain ⟨d3, es3, y3, z3, e3, h3, p3, l3, a3, b3⟩ := plan_loop ["v", "w"] d2 es2 _ y2 z2 (fun n hn d es ts x2 => step5 n hn d es ts x2) (by decide +kernel) h2 p2 (by simp at l1 l2 ⊢; omega) a2 b2
  obtain ⟨d4, es4, y4, z4, e4, h4, p4, l4, a4, b4⟩ := plan_loop ["a", "b"] d3 es3 _ y3 z3 (fun n hn d es ts x2 => step7 n hn d es ts x2) (by decide +kernel) h3 p3 (by simp at l1 l2 l3 ⊢; omega) a3 b3
  refine ⟨es4, d4, [.dat (.dict es4), y4, z4, .no], ?_, h4, p4.mono (fun n h => h) (by decide +kernel)⟩
  have g1 : gLstD [.str "f", .str "g", .str "h", .str "k"] = some (.list ((["f", "g", "h", "k"] : List Str).map .str), true) := rfl
  have g2 : gLstD [.str "c", .str "m"] = some (.list ((["c", "m"] : List Str).map .str), true) := rfl
  have g3 : gLstD [.str "v", .str "w"] = some (.list ((["v", "w"] : List Str).map .str), true) := rfl
  have g4 : gLstD [.str "a", .str "b"] = some (.list ((["a", "b"] : List Str).map .str), true) := rfl
  generalize ((["f", "g", "h", "k"] : List Str).map PyData.str) = L1 at *
  generalize ((["c", "m"] : List Str).map PyData.str) = L2 at *
  generalize ((["v", "w"] : List Str).map PyData.str) = L3 at *
  generalize ((["a", "b"] : List Str).map PyData.str) = L4 at *
  simp -implicitDefEqProofs [ppt5, ppt6, ppt7, ppt8, ppt9, pp5, pp6, pp7, pp8, pp9, g1, g2, g3, g4, e1, e2, e3, e4]
abbrev dM (ms : List (Str × List Kn)) : D := .tuple [.str "data", .tuple (ms.map mkrD)]
theorem ms_tuple {ms : List (Str × List Kn)} : PyData.tuple (ms.map mkrD) = .tuple (ms.map mkrD) := rfl
theorem nm_Node : Sok "Node" := sok_d (by decide +kernel)
theorem nm_One : Sok "One" := sok_d (by decide +kernel)
theorem nm_Six : Sok "Six" := sok_d (by decide +kernel)
theorem nm_Leaf : Sok "Leaf" := sok_d (by decide +kernel)
theorem nm_Two : Sok "Two" := sok_d (by decide +kernel)
theorem nm_Nought : Sok "Nought" := sok_d (by decide +kernel)
theorem msok {ms : List (Str × List Kn)} (h0 : 2 ≤ ms.length) (hl : ms.length ≤ 4) (h : ∀ p ∈ ms, Sok p.1 ∧ p.2.length ≤ 3 ∧ ∀ k ∈ p.2, KOk k) : MsOk ms := ⟨h0, hl, h⟩
theorem plan_ok {d : D} (h : Stt d) : ∃ es d', F__law_plan d [] = some (.dict es, false, d') ∧ Stt d' ∧ Pl ["d", "e"] PNS es := by
  obtain ⟨k1, d1, e1, h1, o1⟩ := drawn_ok h
  obtain ⟨k2, d2, e2, h2, o2⟩ := drawn_ok h1
  have p0 : Pl [] [] [] := ⟨by simp, fun n h => (by cases h), fun n h => (by cases h)⟩
  have m1 : MsOk [("Leaf", []), ("Node", [k1, k2])] := msok (by simp) (by simp) (by
    intro p hp
    simp only [List.mem_cons, List.not_mem_nil, or_false] at hp
    rcases hp with rfl | rfl
    · exact ⟨by first | exact nm_Node | exact nm_One | exact nm_Six | exact nm_Leaf | exact nm_Two | exact nm_Nought, by simp, by simp⟩
    · exact ⟨by first | exact nm_Node | exact nm_One | exact nm_Six | exact nm_Leaf | exact nm_Two | exact nm_Nought, by simp, by simp; exact ⟨o1, o2⟩⟩)
  have p1 := p0.putD (n := "d") m1 (by simp)
  have s1 : pp1 [.io d, .own (.dict []), .no, .no, .no] = some (.nx [.io d2, .own (.dict (putD [] (.inr "d") (dM [("Leaf", []), ("Node", [k1, k2])]))), .no, .no, .no]) := by
    have gp := fPutL (es := []) (k := .inr "d") (d := dM [("Leaf", []), ("Node", [k1, k2])]) (by simp)
    generalize putD [] (.inr "d") (dM [("Leaf", []), ("Node", [k1, k2])]) = ES at *
    simp only [dM, List.map_cons, List.map_nil, mkrD] at gp
    generalize knD k1 = K1 at *
    generalize knD k2 = K2 at *
    simp -implicitDefEqProofs [pp1, e1, e2, gp]
  have l1 : (putD [] (.inr "d") (dM [("Leaf", []), ("Node", [k1, k2])])).length ≤ 0 + 1 := putD_len
  generalize putD [] (.inr "d") (dM [("Leaf", []), ("Node", [k1, k2])]) = es1 at *
  obtain ⟨k3, d3, e3, h3, o3⟩ := drawn_ok h2
  have m2 : MsOk [("One", [k3]), ("Two", [])] := msok (by simp) (by simp) (by
    intro p hp
    simp only [List.mem_cons, List.not_mem_nil, or_false] at hp
    rcases hp with rfl | rfl
    · exact ⟨by first | exact nm_Node | exact nm_One | exact nm_Six | exact nm_Leaf | exact nm_Two | exact nm_Nought, by simp, by simp; exact o3⟩
    · exact ⟨by first | exact nm_Node | exact nm_One | exact nm_Six | exact nm_Leaf | exact nm_Two | exact nm_Nought, by simp, by simp⟩)
  have p2 := p1.putD (n := "e") m2 (by omega)
  have s2 : pp2 [.io d2, .own (.dict es1), .no, .no, .no] = some (.nx [.io d3, .own (.dict (putD es1 (.inr "e") (dM [("One", [k3]), ("Two", [])]))), .no, .no, .no]) := by
    have gp := fPutL (es := es1) (k := .inr "e") (d := dM [("One", [k3]), ("Two", [])]) (by omega)
    generalize putD es1 (.inr "e") (dM [("One", [k3]), ("Two", [])]) = ES at *
    simp only [dM, List.map_cons, List.map_nil, mkrD] at gp
    generalize knD k3 = K1 at *
    simp -implicitDefEqProofs [pp2, e3, gp]
  have v2 : valD (putD es1 (.inr "e") (dM [("One", [k3]), ("Two", [])])) (.inr "e") = some (dM [("One", [k3]), ("Two", [])]) := by rw [valD_put, if_pos rfl]
  have l2 : (putD es1 (.inr "e") (dM [("One", [k3]), ("Two", [])])).length ≤ es1.length + 1 := putD_len
  generalize putD es1 (.inr "e") (dM [("One", [k3]), ("Two", [])]) = es2 at *
  obtain ⟨v4, d4, e4, h4, a4, b4⟩ := next_ok h3 (lim := 4) (by decide)
  obtain ⟨es3, d5, x2, s3, h5, p3, l3, hx2⟩ : ∃ es3 d5 x2, pp3 [.io d3, .own (.dict es2), .no, .no, .no] = some (.nx [.io d5, .own (.dict es3), x2, .no, .no]) ∧ Stt d5 ∧ Pl ["d", "e"] [] es3 ∧ es3.length ≤ 4 ∧ kNo (some x2) = true := by
    by_cases hv : v4 = 0
    · subst hv
      obtain ⟨ks, d5, q5, h5, l5, o5⟩ := kinds_loop h4 (fe := C__law_plan_1) rfl (r1 := .own (.dict es2)) (r2 := .no) (r3 := .no) 3 (by decide)
      have m3 : MsOk [("One", [k3]), ("Two", []), ("Six", ks), ("Nought", [])] := msok (by simp) (by simp) (by
        intro p hp
        simp only [List.mem_cons, List.not_mem_nil, or_false] at hp
        rcases hp with rfl | rfl | rfl | rfl
        · exact ⟨by first | exact nm_Node | exact nm_One | exact nm_Six | exact nm_Leaf | exact nm_Two | exact nm_Nought, by simp, by simp; exact o3⟩
        · exact ⟨by first | exact nm_Node | exact nm_One | exact nm_Six | exact nm_Leaf | exact nm_Two | exact nm_Nought, by simp, by simp⟩
        · exact ⟨nm_Six, by simp [l5], o5⟩
        · exact ⟨by first | exact nm_Node | exact nm_One | exact nm_Six | exact nm_Leaf | exact nm_Two | exact nm_Nought, by simp, by simp⟩)
      have p3 := p2.putD (n := "e") m3 (by omega)
      have l3 : (putD es2 (.inr "e") (dM [("One", [k3]), ("Two", []), ("Six", ks), ("Nought", [])])).length ≤ es2.length + 1 := putD_len
      have gp := fPutL (es := es2) (k := .inr "e") (d := dM [("One", [k3]), ("Two", []), ("Six", ks), ("Nought", [])]) (by omega)
      refine ⟨putD es2 (.inr "e") (dM [("One", [k3]), ("Two", []), ("Six", ks), ("Nought", [])]), d5, .dat (.tuple (ks.map knD)), ?_, h5, p3.mono (ds' := ["d", "e"]) (by decide +kernel) (fun n h => h), by omega, rfl⟩
      have r3 : ∀ c : En, kR1 (some ([PyData.int 3], c)) = some (rngD 0 3, c) := fun c => rfl
      generalize putD es2 (.inr "e") (dM [("One", [k3]), ("Two", []), ("Six", ks), ("Nought", [])]) = ES at *
      simp only [dM, List.map_cons, List.map_nil, mkrD] at gp v2
      have ga : gAdd (.tuple [.tuple [.str "One", .tuple [knD k3]], .tuple [.str "Two", .tuple []]]) (.tuple [.tuple [.str "Six", .tuple (ks.map knD)], .tuple [.str "Nought", .tuple []]]) = some (.tuple [.tuple [.str "One", .tuple [knD k3]], .tuple [.str "Two", .tuple []], .tuple [.str "Six", .tuple (ks.map knD)], .tuple [.str "Nought", .tuple []]], false) := gAdd_tt (Nat.le_trans (by show 4 ≤ 6; decide) lim6)
      generalize ks.map knD = KS at *
      generalize knD k3 = K1 at *
      simp -implicitDefEqProofs [pp3, e4, r3, q5, v2, ga, gp]
    · have hv' : (v4 == 0) = false := by simp [hv]
      exact ⟨es2, d4, .no, by simp -implicitDefEqProofs [pp3, e4, hv'], h4, p2.mono (ds' := ["d", "e"]) (by decide +kernel) (fun n h => h), by omega, rfl⟩
  obtain ⟨v6, d6, e6, h6, a6, b6⟩ := next_ok h5 (lim := 9) (by decide)
  obtain ⟨es4, d7, s4, h7, p4, l4⟩ : ∃ es4 d7, pp4 [.io d5, .own (.dict es3), x2, .no, .no] = some (.nx [.io d7, .own (.dict es4), x2, .no, .no]) ∧ Stt d7 ∧ Pl ["d", "e"] [] es4 ∧ es4.length ≤ 5 := by
    by_cases hv : v6 = 0
    · subst hv
      obtain ⟨v7, d7, e7, h7, a7, b7⟩ := next_ok h6 (lim := 2) (by decide)
      obtain ⟨s, hs, es⟩ := at_map PyData.str ["Leaf", "One"] a7 b7
      have m3 : MsOk [("One", [(0, "num")]), (s, [])] := msok (by simp) (by simp) (by
        intro p hp
        simp only [List.mem_cons, List.not_mem_nil, or_false] at hp
        rcases hp with rfl | rfl
        · exact ⟨by first | exact nm_Node | exact nm_One | exact nm_Six | exact nm_Leaf | exact nm_Two | exact nm_Nought, by simp, by simp; exact kds_ok _ (by decide +kernel)⟩
        · refine ⟨?_, by simp, by simp⟩
          simp only [List.mem_cons, List.not_mem_nil, or_false] at hs
          rcases hs with rfl | rfl
          · exact sok_d (by decide +kernel)
          · exact sok_d (by decide +kernel))
      have p4 := p3.putD (n := "e") m3 (by omega)
      have l4 : (putD es3 (.inr "e") (dM [("One", [(0, "num")]), (s, [])])).length ≤ es3.length + 1 := putD_len
      have gp := fPutL (es := es3) (k := .inr "e") (d := dM [("One", [(0, "num")]), (s, [])]) (by omega)
      refine ⟨putD es3 (.inr "e") (dM [("One", [(0, "num")]), (s, [])]), d7, ?_, h7, p4.mono (ds' := ["d", "e"]) (by decide +kernel) (fun n h => h), by omega⟩
      generalize putD es3 (.inr "e") (dM [("One", [(0, "num")]), (s, [])]) = ES at *
      simp only [dM, List.map_cons, List.map_nil, mkrD, knD] at gp es
      simp -implicitDefEqProofs [pp4, e6, e7, es, gp]
    · have hv' : (v6 == 0) = false := by simp [hv]
      exact ⟨es3, d6, by simp -implicitDefEqProofs [pp4, e6, hv'], h6, p3, by omega⟩
  obtain ⟨es', d', cs, q, h', p'⟩ := pp_tail h7 p4 (by omega) hx2
  refine ⟨es', d', ?_, h', p'⟩
  show runI 1 4 b__law_plan d [] = _
  rw [pp_eq]
  unfold runI
  simp -implicitDefEqProofs [ppt0, pp0, ppt1, s1, ppt2, s2, ppt3, s3, ppt4, s4, q]
end My
end
section
set_option Elab.async false
set_option linter.all false
set_option maxRecDepth 100000
set_option maxHeartbeats 8000000
namespace My
open PySem PySem.Spec PyProof.Rows L2 Qp
/-! local names with their kinds -/
def locD (p : Str × Kn) : D := .tuple [.str p.1, knD p.2]
structure LOk (n : Nat) (l : List (Str × Kn)) : Prop where
  ln : l.length ≤ n
  ok : ∀ p ∈ l, p.1 ∈ NS ∧ KOk p.2
def lput (ls : List (Str × Kn)) (n : Str) (k : Kn) : List (Str × Kn) := if ls.any (fun p => n == p.1) = true then ls.map (fun p => if (n == p.1) = true then (p.1, k) else p) else ls ++ [(n, k)]
def esL (ls : List (Str × Kn)) : List (D × D) := ls.map fun p => (.str p.1, knD p.2)
theorem isK_str (n s : Str) : isK (.inr n) (.str s) = (n == s) := by
  show decide ((.inr s : Key) = .inr n) = _
  rw [Bool.eq_iff_iff, decide_eq_true_eq, beq_iff_eq]
  constructor
  · intro z; exact (Sum.inr.inj z).symm
  · rintro rfl; rfl
theorem put_es (ls : List (Str × Kn)) (n : Str) (k : Kn) : putD (esL ls) (.inr n) (knD k) = esL (lput ls n k) := by
  have e : (esL ls).any (fun p => isK (.inr n) p.1) = ls.any (fun p => n == p.1) := by
    unfold esL
    rw [List.any_map]
    exact List.any_congr rfl fun p => isK_str n p.1
  unfold putD lput
  rw [e]
  split
  · unfold esL
    rw [List.map_map, List.map_map]
    refine List.map_congr_left fun p _ => ?_
    show (if isK (.inr n) (.str p.1) = true then _ else _) = _
    rw [isK_str]
    show _ = ((.str (if (n == p.1) = true then (p.1, k) else p).1, knD (if (n == p.1) = true then (p.1, k) else p).2) : D × D)
    split <;> rfl
  · unfold esL
    rw [List.map_append]
    rfl
theorem lput_ok {m : Nat} {ls : List (Str × Kn)} {n : Str} {k : Kn} (h : LOk m ls) (hn : n ∈ NS) (hk : KOk k) : LOk (m + 1) (lput ls n k) := by
  unfold lput
  split
  · refine ⟨by rw [List.length_map]; exact Nat.le_succ_of_le h.ln, fun p hp => ?_⟩
    obtain ⟨q, hq, rfl⟩ := List.mem_map.mp hp
    split
    · exact ⟨(h.ok q hq).1, hk⟩
    · exact h.ok q hq
  · refine ⟨by rw [List.length_append, List.length_singleton]; exact Nat.succ_le_succ h.ln, fun p hp => ?_⟩
    rcases List.mem_append.mp hp with hp | hp
    · exact h.ok p hp
    · rw [List.mem_singleton.mp hp]; exact ⟨hn, hk⟩
def lval (ls : List (Str × Kn)) (n : Str) : Option Kn := (ls.find? fun p => n == p.1).map (·.2)
theorem val_es (ls : List (Str × Kn)) (n : Str) : valD (esL ls) (.inr n) = (lval ls n).map knD := by
  unfold valD lval esL
  induction ls with
  | nil => rfl
  | cons p r ih =>
    rw [List.map_cons, List.find?_cons, List.find?_cons]
    show ((match isK (.inr n) (.str p.1) with | true => _ | false => _) : Option (D × D)).map _ = _
    rw [isK_str]
    cases (n == p.1) with
    | true => rfl
    | false => exact ih
theorem lval_ok {m : Nat} {ls : List (Str × Kn)} (h : LOk m ls) {p : Str × Kn} (hp : p ∈ ls) : ∃ k, lval ls p.1 = some k ∧ KOk k := by
  cases e : ls.find? (fun q => p.1 == q.1) with
  | none => 
    have := List.find?_eq_none.mp e p hp
    simp at this
  | some q =>
    have hq := List.mem_of_find?_eq_some e
    exact ⟨q.2, by unfold lval; rw [e]; rfl, (h.ok q hq).2⟩
theorem bs_vs {s : Str} (h : s ∈ BS) : VS s := by
  simp only [BS, List.mem_cons, List.not_mem_nil, or_false] at h
  rcases h with rfl | rfl | rfl | rfl | rfl <;> exact vs_lit _
theorem shaped_kn {k : Kn} (h : KOk k) : SeqAt.shaped (knD k) = true := by
  have h1 := lay_VS (bs_vs h.bs)
  unfold SeqAt.shaped knD
  simp only [PyData.canLay0, PyData.canLayAll0, PyData.depth, PyData.depthAll] at h1 ⊢
  rw [h1]
  rfl
theorem gEq_kn {a b : Kn} (ha : KOk a) (hb : KOk b) : gEq (knD a) (knD b) = some (.bool (PyData.eqv (knD a) (knD b)), false) := by
  unfold gEq
  rw [shaped_kn ha, shaped_kn hb]
  rfl
theorem locals_loop : ∀ (r : List (Str × Kn)) (ls : List (Str × Kn)) (m : Nat) (A x y : Cell), LOk m ls → (∀ p ∈ r, p.1 ∈ NS ∧ KOk p.2) → m + r.length ≤ 1000 → kNo (some x) = true → kNo (some y) = true →
    ∃ ls' x' y', loopF (gxTup (gxCons (gx 2) (gxCons (gx 3) (gxNil))) 2) L__law_locals_1 (r.map locD) [A, .own (.dict (esL ls)), x, y] = some (.nx [A, .own (.dict (esL ls')), x', y']) ∧ LOk (m + r.length) ls'
  | [], ls, m, A, x, y, h, _, _, _, _ => ⟨ls, x, y, by simp, h⟩
  | p :: r, ls, m, A, x, y, h, hr, hl, hx, hy => by
    obtain ⟨a, b⟩ := hr p List.mem_cons_self
    rw [List.length_cons] at hl
    have hle : (esL ls).length = ls.length := List.length_map ..
    have hln := h.ln
    have gp : fPut (.inr p.1) (knD p.2) (.dict (esL ls)) = some (.dict (esL (lput ls p.1 p.2))) := by
      rw [fPut_of (Nat.lt_of_lt_of_le (by omega : _ < 1000) (by decide)), put_es]
    obtain ⟨ls', x', y', q, o⟩ := locals_loop r (lput ls p.1 p.2) (m + 1) A (.dat (.str p.1)) (.dat (knD p.2)) (lput_ok h a b) (fun q hq => hr q (List.mem_cons_of_mem _ hq)) (by omega) rfl rfl
    refine ⟨ls', x', y', ?_, by rw [List.length_cons, show m + (r.length + 1) = m + 1 + r.length by omega]; exact o⟩
    rw [List.map_cons, loopF_step (c1 := [A, .own (.dict (esL ls)), .dat (.str p.1), .dat (knD p.2)]) (c2 := [A, .own (.dict (esL (lput ls p.1 p.2))), .dat (.str p.1), .dat (knD p.2)]) (by simp [locD, hx, hy]) ?_, q]
    generalize esL ls = E1 at *
    generalize esL (lput ls p.1 p.2) = E2 at *
    generalize knD p.2 = kk at *
    simp -implicitDefEqProofs [L__law_locals_1, gp]
theorem locals_ok {m : Nat} {l : List (Str × Kn)} (h : LOk m l) (hm : m ≤ 100) : ∃ ls, F__law_locals [.list (l.map locD)] = some (.dict (esL ls), false) ∧ LOk m ls := by
  have hln := h.ln
  obtain ⟨ls, x, y, q, o⟩ := locals_loop l [] 0 (.dat (.list (l.map locD))) .no .no ⟨by simp, by simp⟩ h.ok (by omega) rfl rfl
  refine ⟨ls, ?_, ⟨Nat.le_trans o.ln (by omega), o.ok⟩⟩
  show runP 1 3 b__law_locals [_] = _
  unfold runP b__law_locals
  rw [show esL [] = [] from rfl] at q
  generalize l.map locD = L at *
  generalize esL ls = E at *
  simp -implicitDefEqProofs [q]
end My
end
section
set_option Elab.async false
set_option linter.all false
set_option maxRecDepth 100000
set_option maxHeartbeats 8000000
namespace My
open PySem PySem.Spec PyProof.Rows L2 Qp
def tt0 (G__law_term : GI) (G__law_choice : GI) (G__law_made : GI) : SX := sIf (evT (ev2 gEq (evCI 2 (F__law_next) 0 (evCons (evC (.int 40)) (evNil))) (evC (.int 39)))) (sAsg 3 (evCI 1 (F__law_drawn_kind) 0 (evNil))) (sNx)
def tt1 (G__law_term : GI) (G__law_choice : GI) (G__law_made : GI) : SX := sIf (evT (ev2 gEq (evCI 2 (F__law_next) 0 (evCons (evC (.int 150)) (evNil))) (evC (.int 149)))) (sRet (evA gTupD (evCons (evC (.str "name")) (evCons (ev2 gIx (evA gLstD (evCons (evC (.str "zz")) (evCons (evC (.str "f")) (evCons (evC (.str "a")) (evCons (evC (.str "d")) (evNil)))))) (evCI 2 (F__law_next) 0 (evCons (evC (.int 4)) (evNil)))) (evNil))))) (sNx)
def tt2 (G__law_term : GI) (G__law_choice : GI) (G__law_made : GI) : SX := sAsg 6 (evA (gN 1 (F__law_locals)) (evCons (evVar 2) (evNil)))
def tt3 (G__law_term : GI) (G__law_choice : GI) (G__law_made : GI) : SX := sAsg 7 (evLcK 6 [9] (gx 9) (W__law_term_2 G__law_term G__law_choice G__law_made) (C__law_term_1 G__law_term G__law_choice G__law_made))
def tt4 (G__law_term : GI) (G__law_choice : GI) (G__law_made : GI) : SX := sIf (evNotT (evTrV 5)) (sAsg 7 (evIxV gAdd 7 (evLc [9] (ixSeq (evA gLstD (evCons (evC (.str "c")) (evCons (evC (.str "m")) (evCons (evC (.str "v")) (evCons (evC (.str "w")) (evNil))))))) (gx 9) (W__law_term_4 G__law_term G__law_choice G__law_made) (C__law_term_3 G__law_term G__law_choice G__law_made)))) (sNx)
def tt5 (G__law_term : GI) (G__law_choice : GI) (G__law_made : GI) : SX := sAsg 8 (evCI 2 (F__law_next) 0 (evCons (evC (.int 14)) (evNil)))
def tt6 (G__law_term : GI) (G__law_choice : GI) (G__law_made : GI) : SX := sIf (evAndT (evT (ev2 gGt (evV1 gLen 7) (evC (.int 0)))) (evOrT (evT (ev2 gLt (evVar 8) (evC (.int 5)))) (evT (evIxV gEq 4 (evC (.int 0)))))) (sRet (evA gTupD (evCons (evC (.str "name")) (evCons (evIxV gIx 7 (evCI 2 (F__law_next) 0 (evCons (evV1 gLen 7) (evNil)))) (evNil))))) (sNx)
def tt7 (G__law_term : GI) (G__law_choice : GI) (G__law_made : GI) : SX := sIf (evT (evIxV gEq 4 (evC (.int 0)))) (sRet (evCI 2 (F__law_plain) 0 (evCons (evVar 3) (evNil)))) (sNx)
def tt8 (G__law_term : GI) (G__law_choice : GI) (G__law_made : GI) : SX := sIf (evT (ev2 gLt (evVar 8) (evC (.int 9)))) (sRet (evCI 6 (G__law_choice) 0 (evCons (evVar 1) (evCons (evVar 2) (evCons (evVar 3) (evCons (ev2 gSub (evVar 4) (evC (.int 1))) (evCons (evVar 5) (evNil)))))))) (sNx)
def tt9 (G__law_term : GI) (G__law_choice : GI) (G__law_made : GI) : SX := sRet (evCI 6 (G__law_made) 0 (evCons (evVar 1) (evCons (evVar 2) (evCons (evVar 3) (evCons (ev2 gSub (evVar 4) (evC (.int 1))) (evCons (evVar 5) (evNil)))))))
def ttt9 (G__law_term : GI) (G__law_choice : GI) (G__law_made : GI) : SX := tt9 G__law_term G__law_choice G__law_made
def ttt8 (G__law_term : GI) (G__law_choice : GI) (G__law_made : GI) : SX := sSeq (tt8 G__law_term G__law_choice G__law_made) (ttt9 G__law_term G__law_choice G__law_made)
def ttt7 (G__law_term : GI) (G__law_choice : GI) (G__law_made : GI) : SX := sSeq (tt7 G__law_term G__law_choice G__law_made) (ttt8 G__law_term G__law_choice G__law_made)
def ttt6 (G__law_term : GI) (G__law_choice : GI) (G__law_made : GI) : SX := sSeq (tt6 G__law_term G__law_choice G__law_made) (ttt7 G__law_term G__law_choice G__law_made)
def ttt5 (G__law_term : GI) (G__law_choice : GI) (G__law_made : GI) : SX := sSeq (tt5 G__law_term G__law_choice G__law_made) (ttt6 G__law_term G__law_choice G__law_made)
def ttt4 (G__law_term : GI) (G__law_choice : GI) (G__law_made : GI) : SX := sSeq (tt4 G__law_term G__law_choice G__law_made) (ttt5 G__law_term G__law_choice G__law_made)
def ttt3 (G__law_term : GI) (G__law_choice : GI) (G__law_made : GI) : SX := sSeq (tt3 G__law_term G__law_choice G__law_made) (ttt4 G__law_term G__law_choice G__law_made)
def ttt2 (G__law_term : GI) (G__law_choice : GI) (G__law_made : GI) : SX := sSeq (tt2 G__law_term G__law_choice G__law_made) (ttt3 G__law_term G__law_choice G__law_made)
def ttt1 (G__law_term : GI) (G__law_choice : GI) (G__law_made : GI) : SX := sSeq (tt1 G__law_term G__law_choice G__law_made) (ttt2 G__law_term G__law_choice G__law_made)
def ttt0 (G__law_term : GI) (G__law_choice : GI) (G__law_made : GI) : SX := sSeq (tt0 G__law_term G__law_choice G__law_made) (ttt1 G__law_term G__law_choice G__law_made)
theorem tt_eq (G__law_term : GI) (G__law_choice : GI) (G__law_made : GI) : b__law_term G__law_term G__law_choice G__law_made = ttt0 G__law_term G__law_choice G__law_made := rfl
abbrev LN (k : Nat) : Nat := 40 - 5 * k
def TermAt (k f : Nat) : Prop := ∀ d es l kind (st : Bool), Stt d → Pl ["d", "e"] PNS es → LOk (LN k) l → KOk kind → ∃ e d', F__law_term f d [.dict es, .list (l.map locD), knD kind, .int (k : Int), .bool st] = some (encE e, false, d') ∧ Stt d' ∧ Tm k e
def ChoiceAt (k f : Nat) : Prop := ∀ d es l kind (st : Bool), Stt d → Pl ["d", "e"] PNS es → LOk (LN (k + 1)) l → KOk kind → ∃ e fr d', F__law_choice f d [.dict es, .list (l.map locD), knD kind, .int (k : Int), .bool st] = some (encE e, fr, d') ∧ Stt d' ∧ Tm (k + 1) e
def MadeAt (k f : Nat) : Prop := ∀ d es l kind (st : Bool), Stt d → Pl ["d", "e"] PNS es → LOk (LN (k + 1)) l → KOk kind → ∃ e fr d', F__law_made f d [.dict es, .list (l.map locD), knD kind, .int (k : Int), .bool st] = some (encE e, fr, d') ∧ Stt d' ∧ Tm (k + 1) e
section
variable {X Y Z : GI}
def NS2 : List Str := ["x", "y", "z", "f", "c", "m", "v", "w"]
theorem ns2_sok {s : Str} (h : s ∈ NS2) : Sok s := by
  have : ∀ s ∈ NS2, s ∈ NMS := by decide +kernel
  exact this s h
theorem t_names {ls : List (Str × Kn)} {m : Nat} (ho : LOk m ls) (hm : m ≤ 100) {kind : Kn} (hk : KOk kind) {a0 a1 a2 a4 a5 : Cell} :
    ∃ nm : List Str, tt3 X Y Z [a0, a1, a2, .dat (knD kind), a4, a5, .dat (.dict (esL ls)), .no, .no, .no] = some (.nx [a0, a1, a2, .dat (knD kind), a4, a5, .dat (.dict (esL ls)), .own (.list (nm.map .str)), .no, .no]) ∧ nm.length ≤ m ∧ ∀ s ∈ nm, s ∈ NS := by
  have hln := ho.ln
  have q := loopC_encF (gt := gx 9) (ft := W__law_term_2 X Y Z) (fe := C__law_term_1 X Y Z) (vs := [9]) (cs := [a0, a1, a2, .dat (knD kind), a4, a5, .dat (.dict (esL ls)), .no, .no, .no]) (enc := fun p : Str × Kn => PyData.str p.1) (val := fun p => .str p.1) (keep := fun p => PyData.eqv (knD ((lval ls p.1).getD (0, ""))) (knD kind)) ls (fun p hp => by
    obtain ⟨k, ek, ok⟩ := lval_ok ho hp
    refine ⟨[a0, a1, a2, .dat (knD kind), a4, a5, .dat (.dict (esL ls)), .no, .no, .dat (.str p.1)], false, by simp, ?_, fun _ => by simp [C__law_term_1], by simp, by simp⟩
    have ev : valD (esL ls) (.inr p.1) = some (knD k) := by rw [val_es, ek]; rfl
    have g := gEq_kn ok hk
    rw [ek, Option.getD_some]
    generalize esL ls = E at *
    generalize PyData.eqv (knD k) (knD kind) = bb at *
    generalize knD k = K1 at *
    generalize knD kind = K2 at *
    simp -implicitDefEqProofs [W__law_term_2, ev, g]) [] (LIMle (by simp; omega))
  refine ⟨(ls.filter (fun p => PyData.eqv (knD ((lval ls p.1).getD (0, ""))) (knD kind))).map (·.1), ?_, by rw [List.length_map]; exact Nat.le_trans (List.length_filter_le _ _) hln, fun s hs => ?_⟩
  · rw [List.map_map]
    rw [List.nil_append] at q
    have e : (esL ls).map (·.1) = ls.map (fun p => PyData.str p.1) := by unfold esL; rw [List.map_map]; rfl
    rw [← e] at q
    rw [show (ls.filter (fun p => PyData.eqv (knD ((lval ls p.1).getD (0, ""))) (knD kind))).map (PyData.str ∘ fun p => p.1) = (ls.filter (fun p => PyData.eqv (knD ((lval ls p.1).getD (0, ""))) (knD kind))).map (fun p => PyData.str p.1) from rfl]
    generalize (ls.filter (fun p => PyData.eqv (knD ((lval ls p.1).getD (0, ""))) (knD kind))).map (fun p => PyData.str p.1) = R at *
    generalize esL ls = E at *
    generalize knD kind = K2 at *
    simp -implicitDefEqProofs [tt3, kLcK1_s, q]
  · obtain ⟨p, hp, rfl⟩ := List.mem_map.mp hs
    exact (ho.ok p (List.mem_filter.mp hp).1).1
theorem t_more {ls : List (Str × Kn)} {m : Nat} {es : List (D × D)} (hp : Pl ["d", "e"] PNS es) {nm : List Str} (hn : nm.length ≤ 100 ∧ ∀ s ∈ nm, s ∈ NS) {kind : Kn} (hk : KOk kind) {a0 a2 a4 : Cell} {st : Bool} :
    ∃ (nm' : List Str), tt4 X Y Z [a0, .dat (.dict es), a2, .dat (knD kind), a4, .dat (.bool st), .dat (.dict (esL ls)), .own (.list (nm.map .str)), .no, .no] = some (.nx [a0, .dat (.dict es), a2, .dat (knD kind), a4, .dat (.bool st), .dat (.dict (esL ls)), .own (.list (nm'.map .str)), .no, .no]) ∧ nm'.length ≤ 104 ∧ ∀ s ∈ nm', s ∈ NS2 := by
  have sub : ∀ s ∈ NS, s ∈ NS2 := by decide +kernel
  cases st with
  | true =>
    refine ⟨nm, ?_, by omega, fun s hs => sub s (hn.2 s hs)⟩
    generalize nm.map PyData.str = N at *
    generalize esL ls = E at *
    generalize knD kind = K2 at *
    have tb : truD (.bool true) = some true := rfl
    simp -implicitDefEqProofs [tt4, tb]
  | false =>
    have th : ∀ n ∈ (["c", "m", "v", "w"] : List Str), ThingAt es n := fun n h => hp.th n (by
      have : ∀ n ∈ (["c", "m", "v", "w"] : List Str), n ∈ PNS := by decide +kernel
      exact this n h)
    have hex : ∀ n : Str, ∃ k : Kn, n ∈ (["c", "m", "v", "w"] : List Str) → ∃ ks : List Kn, valD es (.inr n) = some (.tuple [.str (FORM n), .tuple (ks.map knD), knD k]) ∧ KOk k := fun n => by
      by_cases h : n ∈ (["c", "m", "v", "w"] : List Str)
      · obtain ⟨ks, k, e, _, o⟩ := th n h
        exact ⟨k, fun _ => ⟨ks, e, o⟩⟩
      · exact ⟨(0, "num"), fun z => absurd z h⟩
    obtain ⟨knd, hknd⟩ := Classical.skolem.mp hex
    have q := loopC_encF (gt := gx 9) (ft := W__law_term_4 X Y Z) (fe := C__law_term_3 X Y Z) (vs := [9]) (cs := [a0, .dat (.dict es), a2, .dat (knD kind), a4, .dat (.bool false), .dat (.dict (esL ls)), .own (.list (nm.map .str)), .no, .no]) (enc := PyData.str) (val := PyData.str) (keep := fun n => !(valD (esL ls) (.inr n)).isSome && PyData.eqv (knD (knd n)) (knD kind)) ["c", "m", "v", "w"] (fun n hn' => by
      refine ⟨[a0, .dat (.dict es), a2, .dat (knD kind), a4, .dat (.bool false), .dat (.dict (esL ls)), .own (.list (nm.map .str)), .no, .dat (.str n)], false, by simp, ?_, fun _ => by simp [C__law_term_3], by simp, by simp⟩
      obtain ⟨ks, e2, e3⟩ := hknd n hn'
      have g := gEq_kn e3 hk
      generalize knd n = K0 at *
      generalize PyData.eqv (knD K0) (knD kind) = bb at *
      generalize ks.map knD = KS at *
      generalize esL ls = E at *
      generalize nm.map PyData.str = N at *
      generalize knD K0 = K1 at *
      generalize knD kind = K2 at *
      cases hs : (valD E (.inr n)).isSome <;> simp -implicitDefEqProofs [W__law_term_4, hs, e2, g]) [] (Nat.le_trans (by simp : _ ≤ 6) lim6)
    rw [List.nil_append] at q
    refine ⟨nm ++ ((["c", "m", "v", "w"] : List Str).filter (fun n => !(valD (esL ls) (.inr n)).isSome && PyData.eqv (knD (knd n)) (knD kind))), ?_, ?_, fun s hs => ?_⟩
    · have ea := addS (a := nm) (b := ((["c", "m", "v", "w"] : List Str).filter (fun n => !(valD (esL ls) (.inr n)).isSome && PyData.eqv (knD (knd n)) (knD kind)))) (by
        have := List.length_filter_le (fun n => !(valD (esL ls) (.inr n)).isSome && PyData.eqv (knD (knd n)) (knD kind)) (["c", "m", "v", "w"] : List Str)
        simp only [List.length_cons, List.length_nil] at this
        omega)
      have g4 : gLstD [.str "c", .str "m", .str "v", .str "w"] = some (.list ((["c", "m", "v", "w"] : List Str).map .str), true) := rfl
      generalize (nm ++ ((["c", "m", "v", "w"] : List Str).filter (fun n => !(valD (esL ls) (.inr n)).isSome && PyData.eqv (knD (knd n)) (knD kind)))).map PyData.str = R1 at *
      generalize ((["c", "m", "v", "w"] : List Str).filter (fun n => !(valD (esL ls) (.inr n)).isSome && PyData.eqv (knD (knd n)) (knD kind))).map PyData.str = R2 at *
      generalize ((["c", "m", "v", "w"] : List Str)).map PyData.str = R3 at *
      generalize nm.map PyData.str = N at *
      generalize esL ls = E at *
      generalize knD kind = K2 at *
      have tb : truD (.bool false) = some false := rfl
      simp -implicitDefEqProofs [tt4, tb, g4, q, ea]
    · have := List.length_filter_le (fun n => !(valD (esL ls) (.inr n)).isSome && PyData.eqv (knD (knd n)) (knD kind)) (["c", "m", "v", "w"] : List Str)
      simp only [List.length_cons, List.length_nil] at this
      rw [List.length_append]
      omega
    · rcases List.mem_append.mp hs with hs | hs
      · exact sub s (hn.2 s hs)
      · have := (List.mem_filter.mp hs).1
        have sb : ∀ s ∈ (["c", "m", "v", "w"] : List Str), s ∈ NS2 := by decide +kernel
        exact sb s this
end
end My
end
section
set_option Elab.async false
set_option linter.all false
set_option maxRecDepth 100000
set_option maxHeartbeats 8000000
namespace My
open PySem PySem.Spec PyProof.Rows L2 Qp
theorem name_at {ns : List Str} {v : Int} (h : 0 ≤ v) (h2 : v < ns.length) : ∃ s ∈ ns, atD (ns.map PyData.str) v = some (.str s) := at_map PyData.str ns h h2
theorem EOk.succ : ∀ (k : Nat) (e : E), EOk k e → EOk (k + 1) e := by
  intro k
  induction k with
  | zero => intro e h; exact h.elim
  | succ k ih =>
    intro e h
    cases e with
    | num | bool | text => trivial
    | name s => exact h
    | list es => exact ⟨h.1, fun x hx => ih x (h.2 x hx)⟩
    | cons a b => exact ⟨ih a h.1, ih b h.2⟩
    | bin o a b => exact ⟨trivial, ih a h.2.1, ih b h.2.2⟩
    | not a => exact ih a h
    | ite c a b => exact ⟨ih c h.1, ih a h.2.1, ih b h.2.2⟩
    | lett x a b => exact ⟨h.1, ih a h.2.1, ih b h.2.2⟩
    | call f es => exact ⟨h.1, h.2.1, fun x hx => ih x (h.2.2 x hx)⟩
    | make f es => exact ⟨h.1, h.2.1, fun x hx => ih x (h.2.2 x hx)⟩
    | split a b u t c => exact ⟨h.1, h.2.1, ih a h.2.2.1, ih b h.2.2.2.1, ih c h.2.2.2.2⟩
    | mat a ms ls es => exact ⟨ih a h.1, h.2.1, h.2.2.1, h.2.2.2.1, h.2.2.2.2.1, h.2.2.2.2.2.1, fun x hx => ih x (h.2.2.2.2.2.2 x hx)⟩
theorem EOk.up {k m : Nat} {e : E} (h : EOk k e) (hm : k ≤ m) : EOk m e := by
  obtain ⟨j, rfl⟩ := Nat.exists_eq_add_of_le hm
  induction j with
  | zero => exact h
  | succ j ih => exact EOk.succ _ e (ih (by omega))
theorem Sz_up (k : Nat) : Sz 0 ≤ Sz k := by
  induction k with
  | zero => exact Nat.le_refl _
  | succ k ih => show Sz 0 ≤ 7 * Sz k + 8; omega
theorem Tm.up {e : E} (h : Tm 0 e) (k : Nat) : Tm k e := ⟨h.ok.up (by omega), Nat.le_trans h.sz (Sz_up k)⟩
theorem tm_name {s : Str} (h : Sok s) (k : Nat) : Tm k (.name s) := Tm.up (e := .name s) ⟨h, by simp [nd, Sz]⟩ k
theorem t_tail {k f : Nat} (hk : k = 0 ∨ ∃ k', k = k' + 1 ∧ ChoiceAt k' f ∧ MadeAt k' f) {d : D} {es : List (D × D)} {l ls : List (Str × Kn)} {kind : Kn} {nm : List Str} {st : Bool} {pick : Int} (h : Stt d) (hp : Pl ["d", "e"] PNS es) (hl : LOk (LN k) l) (ok : KOk kind) (hn : nm.length ≤ 104) (hn2 : ∀ s ∈ nm, s ∈ NS2) :
    ∃ e d' cs, ttt6 (F__law_term f) (F__law_choice f) (F__law_made f) [.io d, .dat (.dict es), .dat (.list (l.map locD)), .dat (knD kind), .dat (.int (k : Int)), .dat (.bool st), .dat (.dict (esL ls)), .own (.list (nm.map .str)), .dat (.int pick), .no] = some (.rt (encE e) false (.io d' :: cs)) ∧ Stt d' ∧ Tm k e := by
  have hlen : (nm.map PyData.str).length = nm.length := List.length_map ..
  by_cases c1 : 0 < nm.length ∧ (pick < 5 ∨ k = 0)
  · obtain ⟨w, d1, e1, h1, p1, q1⟩ := next_ok h (lim := (nm.length : Int)) (by omega)
    obtain ⟨s, hs, ea⟩ := name_at p1 q1
    have c0 := c1.1
    refine ⟨.name s, d1, [.dat (.dict es), .dat (.list (l.map locD)), .dat (knD kind), .dat (.int (k : Int)), .dat (.bool st), .dat (.dict (esL ls)), .own (.list (nm.map .str)), .dat (.int pick), .no], ?_, h1, tm_name (ns2_sok (hn2 s hs)) k⟩
    generalize nm.map PyData.str = N at *
    generalize esL ls = E at *
    generalize l.map locD = L at *
    generalize knD kind = K2 at *
    by_cases c5 : pick < 5
    · simp -implicitDefEqProofs [ttt6, tt6, hlen, c0, c5, e1, ea, encE]
    · have hk0 : k = 0 := by omega
      subst hk0
      simp -implicitDefEqProofs [ttt6, tt6, hlen, c0, c5, e1, ea, encE]
  · rcases hk with rfl | ⟨k, rfl, hc, hm⟩
    · obtain ⟨e, fr, d1, e1, h1, o1⟩ := plain_ok h ok
      have c0 : ¬ 0 < nm.length := by omega
      refine ⟨e, d1, [.dat (.dict es), .dat (.list (l.map locD)), .dat (knD kind), .dat (.int ((0 : Nat) : Int)), .dat (.bool st), .dat (.dict (esL ls)), .own (.list (nm.map .str)), .dat (.int pick), .no], ?_, h1, o1⟩
      generalize nm.map PyData.str = N at *
      generalize esL ls = E at *
      generalize l.map locD = L at *
      generalize knD kind = K2 at *
      simp -implicitDefEqProofs [ttt6, tt6, ttt7, tt7, hlen, c0, e1]
    · have hk1 : ((k + 1 : Nat) : Int) - 1 = (k : Int) := by omega
      have hk0 : ((((k + 1 : Nat) : Int)) == 0) = false := by simp; omega
      have c5 : ¬ (0 < nm.length ∧ pick < 5) := by omega
      obtain ⟨e, fr, d1, e1, h1, o1⟩ := hc d es l kind st h hp hl ok
      obtain ⟨e', fr', d1', e1', h1', o1'⟩ := hm d es l kind st h hp hl ok
      generalize nm.map PyData.str = N at *
      generalize esL ls = E at *
      generalize l.map locD = L at *
      generalize knD kind = K2 at *
      generalize ((k + 1 : Nat) : Int) = K at *
      by_cases c9 : pick < 9
      · refine ⟨e, d1, [.dat (.dict es), .dat (.list L), .dat K2, .dat (.int K), .dat (.bool st), .dat (.dict E), .own (.list N), .dat (.int pick), .no], ?_, h1, o1⟩
        by_cases c0 : 0 < nm.length
        · have c5' : ¬ pick < 5 := by omega
          simp -implicitDefEqProofs [ttt6, tt6, ttt7, tt7, ttt8, tt8, hlen, c0, c5', hk0, hk1, c9, e1]
        · simp -implicitDefEqProofs [ttt6, tt6, ttt7, tt7, ttt8, tt8, hlen, c0, hk0, hk1, c9, e1]
      · refine ⟨e', d1', [.dat (.dict es), .dat (.list L), .dat K2, .dat (.int K), .dat (.bool st), .dat (.dict E), .own (.list N), .dat (.int pick), .no], ?_, h1', o1'⟩
        by_cases c0 : 0 < nm.length
        · have c5' : ¬ pick < 5 := by omega
          simp -implicitDefEqProofs [ttt6, tt6, ttt7, tt7, ttt8, tt8, ttt9, tt9, hlen, c0, c5', hk0, hk1, c9, e1']
        · simp -implicitDefEqProofs [ttt6, tt6, ttt7, tt7, ttt8, tt8, ttt9, tt9, hlen, c0, hk0, hk1, c9, e1']
theorem term_ok {k f : Nat} (hk : k = 0 ∨ ∃ k', k = k' + 1 ∧ ChoiceAt k' f ∧ MadeAt k' f) (hk8 : k ≤ 8) : TermAt k (f + 1) := by
  intro d es l kind st h hp hl ok
  show ∃ e d', runI 6 4 (b__law_term (F__law_term f) (F__law_choice f) (F__law_made f)) d [_, _, _, _, _] = _ ∧ _
  rw [tt_eq]
  obtain ⟨v1, d1, e1, h1, p1, q1⟩ := next_ok h (lim := 40) (by decide)
  obtain ⟨kind2, d2, s0, h2, ok2⟩ : ∃ kind2 d2, tt0 (F__law_term f) (F__law_choice f) (F__law_made f) [.io d, .dat (.dict es), .dat (.list (l.map locD)), .dat (knD kind), .dat (.int (k : Int)), .dat (.bool st), .no, .no, .no, .no] = some (.nx [.io d2, .dat (.dict es), .dat (.list (l.map locD)), .dat (knD kind2), .dat (.int (k : Int)), .dat (.bool st), .no, .no, .no, .no]) ∧ Stt d2 ∧ KOk kind2 := by
    by_cases c : v1 = 39
    · subst c
      obtain ⟨k2, d2, e2, h2, o2⟩ := drawn_ok h1
      exact ⟨k2, d2, by simp -implicitDefEqProofs [tt0, e1, e2], h2, o2⟩
    · have c' : (v1 == 39) = false := by simp [c]
      exact ⟨kind, d1, by simp -implicitDefEqProofs [tt0, e1, c'], h1, ok⟩
  obtain ⟨v3, d3, e3, h3, p3, q3⟩ := next_ok h2 (lim := 150) (by decide)
  by_cases c : v3 = 149
  · subst c
    obtain ⟨v4, d4, e4, h4, p4, q4⟩ := next_ok h3 (lim := 4) (by decide)
    obtain ⟨s, hs, ea⟩ := name_at (ns := ["zz", "f", "a", "d"]) p4 q4
    have so : Sok s := by
      have : ∀ s ∈ (["zz", "f", "a", "d"] : List Str), s ∈ NMS := by decide +kernel
      exact this s hs
    simp only [List.map_cons, List.map_nil] at ea
    refine ⟨.name s, d4, ?_, h4, tm_name so k⟩
    unfold runI
    generalize l.map locD = L at *
    generalize knD kind = K1 at *
    generalize knD kind2 = K2 at *
    simp -implicitDefEqProofs [ttt0, s0, ttt1, tt1, e3, e4, ea, encE]
  · have c' : (v3 == 149) = false := by simp [c]
    have hLN : LN k ≤ 40 := Nat.sub_le _ _
    obtain ⟨ls, el, lo⟩ := locals_ok hl (by omega)
    obtain ⟨nm, s3, n1, n2⟩ := t_names (X := F__law_term f) (Y := F__law_choice f) (Z := F__law_made f) lo (by omega) ok2 (a0 := .io d3) (a1 := .dat (.dict es)) (a2 := .dat (.list (l.map locD))) (a4 := .dat (.int (k : Int))) (a5 := .dat (.bool st))
    obtain ⟨nm', s4, n3, n4⟩ := t_more (X := F__law_term f) (Y := F__law_choice f) (Z := F__law_made f) (ls := ls) (m := 40) hp ⟨Nat.le_trans n1 (by omega), n2⟩ ok2 (a0 := .io d3) (a2 := .dat (.list (l.map locD))) (a4 := .dat (.int (k : Int))) (st := st)
    obtain ⟨v5, d5, e5, h5, p5, q5⟩ := next_ok h3 (lim := 14) (by decide)
    obtain ⟨e, d', cs, q, h', t⟩ := t_tail hk (ls := ls) (st := st) (pick := v5) h5 hp hl ok2 n3 n4
    refine ⟨e, d', ?_, h', t⟩
    unfold runI
    generalize l.map locD = L at *
    generalize nm.map PyData.str = N1 at *
    generalize nm'.map PyData.str = N2 at *
    generalize knD kind = K1 at *
    generalize knD kind2 = K2 at *
    generalize esL ls = E at *
    simp -implicitDefEqProofs [ttt0, s0, ttt1, tt1, e3, c', ttt2, tt2, el, ttt3, s3, ttt4, s4, ttt5, tt5, e5, q]
end My
end
section
set_option Elab.async false
set_option linter.all false
set_option maxRecDepth 100000
set_option maxHeartbeats 8000000
namespace My
open PySem PySem.Spec PyProof.Rows L2 Qp
def mm0 (G__law_term : GI) (G__law_choice : GI) (G__law_made : GI) : SX := sIf (evT (ev2 gGt (evIxV gIx 3 (evC (.int 0))) (evC (.int 0)))) (sSeq (sAsg 6 (evA gTupD (evCons (ev2 gSub (evIxV gIx 3 (evC (.int 0))) (evC (.int 1))) (evCons (evIxV gIx 3 (evC (.int 1))) (evNil)))))
  (sSeq (sIf (evT (ev2 gEq (evCI 2 (F__law_next) 0 (evCons (evC (.int 2)) (evNil))) (evC (.int 0)))) (sSeq (sAsg 7 (evCI 6 (G__law_term) 0 (evCons (evVar 1) (evCons (evVar 2) (evCons (evVar 6) (evCons (evVar 4) (evCons (evVar 5) (evNil))))))))
  (sRet (evA gTupD (evCons (evC (.str "cons")) (evCons (evVar 7) (evCons (evCI 6 (G__law_term) 0 (evCons (evVar 1) (evCons (evVar 2) (evCons (evVar 3) (evCons (evVar 4) (evCons (evVar 5) (evNil))))))) (evNil))))))) (sNx))
  (sSeq (sAsg 8 (evCI 2 (F__law_next) 0 (evCons (evC (.int 3)) (evNil))))
  (sRet (evA gTupD (evCons (evC (.str "list")) (evCons (evA (gOne gTuple) (evCons (evLc [13] (ixR1 (evCons (evVar 8) (evNil))) (gx 13) (evYes) (C__law_made_1 G__law_term G__law_choice G__law_made)) (evNil))) (evNil)))))))) (sNx)
def mm1 (G__law_term : GI) (G__law_choice : GI) (G__law_made : GI) : SX := sIf (evT (ev2 (gIn false) (evIxV gIx 3 (evC (.int 1))) (evA gLstD (evCons (evC (.str "d")) (evCons (evC (.str "e")) (evNil)))))) (sSeq (sAsgT (ev2 gIx (ev2 gIx (evIxV gDget 1 (evIxV gIx 3 (evC (.int 1)))) (evC (.int 1))) (evCI 2 (F__law_next) 0 (evCons (evA (gOne gLen) (evCons (ev2 gIx (evIxV gDget 1 (evIxV gIx 3 (evC (.int 1)))) (evC (.int 1))) (evNil))) (evNil)))) (gxTup (gxCons (gx 9) (gxCons (gx 10) (gxNil))) 2))
  (sRet (evA gTupD (evCons (evC (.str "make")) (evCons (evVar 9) (evCons (evA (gOne gTuple) (evCons (evLc [14] (ixSeq (evVar 10)) (gx 14) (evYes) (C__law_made_2 G__law_term G__law_choice G__law_made)) (evNil))) (evNil))))))) (sNx)
def mm2 (G__law_term : GI) (G__law_choice : GI) (G__law_made : GI) : SX := sAsg 11 (ev2 gDget (evDisp (evPc (evC (.str "num")) (evA gLstD (evCons (evC (.str "+")) (evCons (evC (.str "-")) (evCons (evC (.str "*")) (evCons (evC (.str "/")) (evCons (evC (.str "mod")) (evNil))))))) (evPc (evC (.str "text")) (evA gLstD (evCons (evC (.str "++")) (evNil))) (evPc (evC (.str "bool")) (evA gLstD (evCons (evC (.str "=")) (evCons (evC (.str "<")) (evCons (evC (.str "and")) (evCons (evC (.str "or")) (evCons (evC (.str "not")) (evNil))))))) (evPn))))) (evIxV gIx 3 (evC (.int 1))))
def mm3 (G__law_term : GI) (G__law_choice : GI) (G__law_made : GI) : SX := sAsg 11 (evIxV gIx 11 (evCI 2 (F__law_next) 0 (evCons (evV1 gLen 11) (evNil))))
def mm4 (G__law_term : GI) (G__law_choice : GI) (G__law_made : GI) : SX := sAsg 12 (evVar 3)
def mm5 (G__law_term : GI) (G__law_choice : GI) (G__law_made : GI) : SX := sIf (evT (evIxV gEq 11 (evC (.str "=")))) (sAsg 12 (evCI 1 (F__law_drawn_kind) 0 (evNil))) (sNx)
def mm6 (G__law_term : GI) (G__law_choice : GI) (G__law_made : GI) : SX := sIf (evT (evIxV gEq 11 (evC (.str "<")))) (sAsg 12 (evA gTupD (evCons (evC (.int 0)) (evCons (evC (.str "num")) (evNil))))) (sNx)
def mm7 (G__law_term : GI) (G__law_choice : GI) (G__law_made : GI) : SX := sAsg 7 (evCI 6 (G__law_term) 0 (evCons (evVar 1) (evCons (evVar 2) (evCons (evVar 12) (evCons (evVar 4) (evCons (evVar 5) (evNil)))))))
def mm8 (G__law_term : GI) (G__law_choice : GI) (G__law_made : GI) : SX := sIf (evT (evIxV gEq 11 (evC (.str "not")))) (sRet (evA gTupD (evCons (evC (.str "not")) (evCons (evVar 7) (evNil))))) (sNx)
def mm9 (G__law_term : GI) (G__law_choice : GI) (G__law_made : GI) : SX := sRet (evA gTupD (evCons (evC (.str "binary")) (evCons (evVar 11) (evCons (evVar 7) (evCons (evCI 6 (G__law_term) 0 (evCons (evVar 1) (evCons (evVar 2) (evCons (evVar 12) (evCons (evVar 4) (evCons (evVar 5) (evNil))))))) (evNil))))))
def mmt9 (G__law_term : GI) (G__law_choice : GI) (G__law_made : GI) : SX := mm9 G__law_term G__law_choice G__law_made
def mmt8 (G__law_term : GI) (G__law_choice : GI) (G__law_made : GI) : SX := sSeq (mm8 G__law_term G__law_choice G__law_made) (mmt9 G__law_term G__law_choice G__law_made)
def mmt7 (G__law_term : GI) (G__law_choice : GI) (G__law_made : GI) : SX := sSeq (mm7 G__law_term G__law_choice G__law_made) (mmt8 G__law_term G__law_choice G__law_made)
def mmt6 (G__law_term : GI) (G__law_choice : GI) (G__law_made : GI) : SX := sSeq (mm6 G__law_term G__law_choice G__law_made) (mmt7 G__law_term G__law_choice G__law_made)
def mmt5 (G__law_term : GI) (G__law_choice : GI) (G__law_made : GI) : SX := sSeq (mm5 G__law_term G__law_choice G__law_made) (mmt6 G__law_term G__law_choice G__law_made)
def mmt4 (G__law_term : GI) (G__law_choice : GI) (G__law_made : GI) : SX := sSeq (mm4 G__law_term G__law_choice G__law_made) (mmt5 G__law_term G__law_choice G__law_made)
def mmt3 (G__law_term : GI) (G__law_choice : GI) (G__law_made : GI) : SX := sSeq (mm3 G__law_term G__law_choice G__law_made) (mmt4 G__law_term G__law_choice G__law_made)
def mmt2 (G__law_term : GI) (G__law_choice : GI) (G__law_made : GI) : SX := sSeq (mm2 G__law_term G__law_choice G__law_made) (mmt3 G__law_term G__law_choice G__law_made)
def mmt1 (G__law_term : GI) (G__law_choice : GI) (G__law_made : GI) : SX := sSeq (mm1 G__law_term G__law_choice G__law_made) (mmt2 G__law_term G__law_choice G__law_made)
def mmt0 (G__law_term : GI) (G__law_choice : GI) (G__law_made : GI) : SX := sSeq (mm0 G__law_term G__law_choice G__law_made) (mmt1 G__law_term G__law_choice G__law_made)
theorem mm_eq (G__law_term : GI) (G__law_choice : GI) (G__law_made : GI) : b__law_made G__law_term G__law_choice G__law_made = mmt0 G__law_term G__law_choice G__law_made := rfl
theorem LOk.mono {m n : Nat} {l : List (Str × Kn)} (h : LOk m l) (hm : m ≤ n) : LOk n l := ⟨Nat.le_trans h.ln hm, h.ok⟩
theorem paired_tm {α : Type} {k : Nat} : ∀ {xs : List α} {ds : List D}, Paired (fun _ d => ∃ p, d = encE p ∧ Tm k p) xs ds → ∃ ps, ds = encEs ps ∧ ps.length = xs.length ∧ ∀ p ∈ ps, Tm k p
  | _, _, .nil => ⟨[], rfl, rfl, fun p h => by cases h⟩
  | _, _, .cons ⟨p, h1, h2⟩ t => by
    obtain ⟨ps, rfl, hl, hr⟩ := paired_tm t
    refine ⟨p :: ps, by rw [h1]; rfl, by simp [hl], fun q hq => ?_⟩
    rcases List.mem_cons.mp hq with rfl | hq
    · exact h2
    · exact hr q hq
theorem nds_le {k : Nat} : ∀ (ps : List E), (∀ p ∈ ps, Tm k p) → nds ps ≤ ps.length * (1 + Sz k)
  | [], _ => by simp [nds]
  | p :: r, h => by
    have h1 := (h p List.mem_cons_self).sz
    have h2 := nds_le r fun q hq => h q (List.mem_cons_of_mem _ hq)
    rw [List.length_cons, Nat.succ_mul]
    simp only [nds]
    omega
theorem nds_le6 {k : Nat} {ps : List E} (h : ∀ p ∈ ps, Tm k p) (h6 : ps.length ≤ 6) : nds ps ≤ 6 * (1 + Sz k) := Nat.le_trans (nds_le ps h) (Nat.mul_le_mul_right _ h6)
section
variable {k f : Nat} (IH : TermAt k f)
include IH
theorem made_list {X Y : GI} {d : D} {es : List (D × D)} {l : List (Str × Kn)} {kind : Kn} {st : Bool} {r3 r7 r8 r9 r10 r11 r12 r14 : Cell} (h : Stt d) (hp : Pl ["d", "e"] PNS es) (hl : LOk (LN k) l) (ok : KOk kind) (n : Nat) (hn : n ≤ 5) :
    ∃ (ps : List E) (d' : D), loopC (gx 13) evYes (C__law_made_1 (F__law_term f) X Y) [13] (rngD 0 n) [] [.io d, .dat (.dict es), .dat (.list (l.map locD)), r3, .dat (.int (k : Int)), .dat (.bool st), .dat (knD kind), r7, r8, r9, r10, r11, r12, .no, r14] = some (encEs ps, [.io d', .dat (.dict es), .dat (.list (l.map locD)), r3, .dat (.int (k : Int)), .dat (.bool st), .dat (knD kind), r7, r8, r9, r10, r11, r12, .no, r14]) ∧ Stt d' ∧ ps.length = n ∧ ∀ p ∈ ps, Tm k p := by
  obtain ⟨ds, cc, q1, ⟨d3, rfl, h3⟩, q3⟩ := loopC_io (gt := gx 13) (fe := C__law_made_1 (F__law_term f) X Y) (vs := [13]) (fun _ cs => ∃ d', cs = [.io d', .dat (.dict es), .dat (.list (l.map locD)), r3, .dat (.int (k : Int)), .dat (.bool st), .dat (knD kind), r7, r8, r9, r10, r11, r12, .no, r14] ∧ Stt d') (fun _ d => ∃ p, d = encE p ∧ Tm k p) (fun i : Nat => PyData.int (i : Int)) (List.range n) 0 _ ⟨d, rfl, h⟩
    (fun j x cs hj ⟨d', hc, hs⟩ => by
      subst hc
      obtain ⟨p, d'', e, h', hp⟩ := IH d' es l kind st hs hp hl ok
      refine ⟨_, false, encE p, [.io d'', .dat (.dict es), .dat (.list (l.map locD)), r3, .dat (.int (k : Int)), .dat (.bool st), .dat (knD kind), r7, r8, r9, r10, r11, r12, .dat (.int (x : Int)), r14], by simp; rfl, ?_, by simp, ⟨d'', by simp, h'⟩, p, rfl, hp⟩
      generalize l.map locD = L at *
      generalize knD kind = K1 at *
      simp -implicitDefEqProofs [C__law_made_1, e]) [] (by rw [List.length_range, List.length_nil]; exact Nat.le_trans (show _ ≤ 6 by omega) lim6)
  obtain ⟨ps, rfl, hl, hr⟩ := paired_tm q3
  rw [List.length_range] at hl
  rw [← rngD_map, List.nil_append] at q1
  exact ⟨ps, d3, q1, h3, hl, hr⟩
theorem made_make {X Y : GI} {d : D} {es : List (D × D)} {l : List (Str × Kn)} {st : Bool} {r3 r6 r7 r8 r9 r10 r11 r12 r13 : Cell} (h : Stt d) (hp : Pl ["d", "e"] PNS es) (hl : LOk (LN k) l) (ks : List Kn) (ok : ∀ k ∈ ks, KOk k) (hn : ks.length ≤ 5) :
    ∃ (ps : List E) (d' : D), loopC (gx 14) evYes (C__law_made_2 (F__law_term f) X Y) [14] (ks.map knD) [] [.io d, .dat (.dict es), .dat (.list (l.map locD)), r3, .dat (.int (k : Int)), .dat (.bool st), r6, r7, r8, r9, r10, r11, r12, r13, .no] = some (encEs ps, [.io d', .dat (.dict es), .dat (.list (l.map locD)), r3, .dat (.int (k : Int)), .dat (.bool st), r6, r7, r8, r9, r10, r11, r12, r13, .no]) ∧ Stt d' ∧ ps.length = ks.length ∧ ∀ p ∈ ps, Tm k p := by
  obtain ⟨ds, cc, q1, ⟨d3, rfl, h3⟩, q3⟩ := loopC_io (gt := gx 14) (fe := C__law_made_2 (F__law_term f) X Y) (vs := [14]) (fun _ cs => ∃ d', cs = [.io d', .dat (.dict es), .dat (.list (l.map locD)), r3, .dat (.int (k : Int)), .dat (.bool st), r6, r7, r8, r9, r10, r11, r12, r13, .no] ∧ Stt d') (fun _ d => ∃ p, d = encE p ∧ Tm k p) knD ks 0 _ ⟨d, rfl, h⟩
    (fun j x cs hj ⟨d', hc, hs⟩ => by
      subst hc
      obtain ⟨p, d'', e, h', hp⟩ := IH d' es l x st hs hp hl (ok x (List.mem_of_getElem? hj))
      refine ⟨_, false, encE p, [.io d'', .dat (.dict es), .dat (.list (l.map locD)), r3, .dat (.int (k : Int)), .dat (.bool st), r6, r7, r8, r9, r10, r11, r12, r13, .dat (knD x)], by simp; rfl, ?_, by simp, ⟨d'', by simp, h'⟩, p, rfl, hp⟩
      generalize l.map locD = L at *
      generalize knD x = K1 at *
      simp -implicitDefEqProofs [C__law_made_2, e]) [] (by rw [List.length_nil]; exact Nat.le_trans (show _ ≤ 6 by omega) lim6)
  obtain ⟨ps, rfl, hl, hr⟩ := paired_tm q3
  rw [List.nil_append] at q1
  exact ⟨ps, d3, q1, h3, hl, hr⟩
theorem made_data {d : D} {es : List (D × D)} {l : List (Str × Kn)} {lv : Int} {b : Str} {st : Bool} (h : Stt d) (hp : Pl ["d", "e"] PNS es) (hl : LOk (LN k) l) (hlv : ¬ 0 < lv) (hb : b ∈ (["d", "e"] : List Str)) (gi : gIn false (.str b) (.list [.str "d", .str "e"]) = some (.bool true, false)) :
    ∃ e fr d', outI (mmt0 (F__law_term f) (F__law_choice f) (F__law_made f) [.io d, .dat (.dict es), .dat (.list (l.map locD)), .dat (knD (lv, b)), .dat (.int (k : Int)), .dat (.bool st), .no, .no, .no, .no, .no, .no, .no, .no, .no]) = some (encE e, fr, d') ∧ Stt d' ∧ Tm (k + 1) e := by
  obtain ⟨ms, ev, mo⟩ := hp.dt b hb
  have hl0 := mo.l0
  have hl4 := mo.ln
  obtain ⟨v1, d1, e1, h1, p1, q1⟩ := next_ok h (lim := (ms.length : Int)) (by omega)
  obtain ⟨p, hpm, ea⟩ := at_map mkrD ms p1 q1
  obtain ⟨s1, s2, s3⟩ := mo.ok p hpm
  obtain ⟨ps, d3, e3, h3, l3, t3⟩ := made_make IH (X := F__law_choice f) (Y := F__law_made f) (st := st) (r3 := .dat (knD (lv, b))) (r6 := .no) (r7 := .no) (r8 := .no) (r9 := .dat (.str p.1)) (r10 := .dat (.tuple (p.2.map knD))) (r11 := .no) (r12 := .no) (r13 := .no) h1 hp hl p.2 s3 (by omega)
  have hlen : (ms.map mkrD).length = ms.length := List.length_map ..
  refine ⟨.make p.1 ps, false, d3, ?_, h3, ⟨⟨s1, by omega, fun x hx => (t3 x hx).ok⟩, ?_⟩⟩
  · generalize l.map locD = L at *
    generalize ms.map mkrD = MS at *
    unfold mkrD at ea
    generalize p.2.map knD = KS at *
    simp -implicitDefEqProofs [mmt0, mm0, mmt1, mm1, knD, hlv, gi, ev, hlen, e1, ea, encE] at e3 ⊢
    simp -implicitDefEqProofs [e3]
  · have := nds_le6 t3 (by omega); simp only [nd, Sz]; omega
omit IH in
theorem op_num {X Y Z : GI} {a0 a1 a2 a4 a5 : Cell} {lv : Int} : mm2 X Y Z [a0, a1, a2, .dat (.tuple [.int lv, .str "num"]), a4, a5, .no, .no, .no, .no, .no, .no, .no, .no, .no] = some (.nx [a0, a1, a2, .dat (.tuple [.int lv, .str "num"]), a4, a5, .no, .no, .no, .no, .no, .dat (.list ((["+", "-", "*", "/", "mod"] : List Str).map .str)), .no, .no, .no]) := rfl
omit IH in
theorem op_text {X Y Z : GI} {a0 a1 a2 a4 a5 : Cell} {lv : Int} : mm2 X Y Z [a0, a1, a2, .dat (.tuple [.int lv, .str "text"]), a4, a5, .no, .no, .no, .no, .no, .no, .no, .no, .no] = some (.nx [a0, a1, a2, .dat (.tuple [.int lv, .str "text"]), a4, a5, .no, .no, .no, .no, .no, .dat (.list ((["++"] : List Str).map .str)), .no, .no, .no]) := rfl
omit IH in
theorem op_bool {X Y Z : GI} {a0 a1 a2 a4 a5 : Cell} {lv : Int} : mm2 X Y Z [a0, a1, a2, .dat (.tuple [.int lv, .str "bool"]), a4, a5, .no, .no, .no, .no, .no, .no, .no, .no, .no] = some (.nx [a0, a1, a2, .dat (.tuple [.int lv, .str "bool"]), a4, a5, .no, .no, .no, .no, .no, .dat (.list ((["=", "<", "and", "or", "not"] : List Str).map .str)), .no, .no, .no]) := rfl
theorem made_bin {d : D} {es : List (D × D)} {l : List (Str × Kn)} {lv : Int} {b : Str} {os : List Str} {st : Bool} (h : Stt d) (hp : Pl ["d", "e"] PNS es) (hl : LOk (LN k) l) (ok : KOk (lv, b)) (hlv : ¬ 0 < lv) (gi : gIn false (.str b) (.list [.str "d", .str "e"]) = some (.bool false, false))
    (s2 : ∀ d, mm2 (F__law_term f) (F__law_choice f) (F__law_made f) [.io d, .dat (.dict es), .dat (.list (l.map locD)), .dat (.tuple [.int lv, .str b]), .dat (.int (k : Int)), .dat (.bool st), .no, .no, .no, .no, .no, .no, .no, .no, .no] = some (.nx [.io d, .dat (.dict es), .dat (.list (l.map locD)), .dat (.tuple [.int lv, .str b]), .dat (.int (k : Int)), .dat (.bool st), .no, .no, .no, .no, .no, .dat (.list (os.map .str)), .no, .no, .no]))
    (h0 : 0 < os.length) (vo : ∀ s ∈ os, VS s) :
    ∃ e fr d', outI (mmt0 (F__law_term f) (F__law_choice f) (F__law_made f) [.io d, .dat (.dict es), .dat (.list (l.map locD)), .dat (knD (lv, b)), .dat (.int (k : Int)), .dat (.bool st), .no, .no, .no, .no, .no, .no, .no, .no, .no]) = some (encE e, fr, d') ∧ Stt d' ∧ Tm (k + 1) e := by
  obtain ⟨v1, d1, e1, h1, p1, q1⟩ := next_ok h (lim := (os.length : Int)) (by omega)
  obtain ⟨o, ho, ea⟩ := name_at p1 q1
  have vso := vo o ho
  have hlen : (os.map PyData.str).length = os.length := List.length_map ..
  have g1 : gEq (.str o) (.str "=") = some (.bool (o == "="), false) := gEq_VS vso (vs_lit _)
  have g2 : gEq (.str o) (.str "<") = some (.bool (o == "<"), false) := gEq_VS vso (vs_lit _)
  have g3 : gEq (.str o) (.str "not") = some (.bool (o == "not"), false) := gEq_VS vso (vs_lit _)
  obtain ⟨kd2, d2, s5, h2, o2⟩ : ∃ kd2 d2, sSeq (mm5 (F__law_term f) (F__law_choice f) (F__law_made f)) (mm6 (F__law_term f) (F__law_choice f) (F__law_made f)) [.io d1, .dat (.dict es), .dat (.list (l.map locD)), .dat (.tuple [.int lv, .str b]), .dat (.int (k : Int)), .dat (.bool st), .no, .no, .no, .no, .no, .dat (.str o), .dat (.tuple [.int lv, .str b]), .no, .no] = some (.nx [.io d2, .dat (.dict es), .dat (.list (l.map locD)), .dat (.tuple [.int lv, .str b]), .dat (.int (k : Int)), .dat (.bool st), .no, .no, .no, .no, .no, .dat (.str o), .dat (knD kd2), .no, .no]) ∧ Stt d2 ∧ KOk kd2 := by
    by_cases c1 : o = "="
    · subst c1
      obtain ⟨kd2, d2, e2, h2, o2⟩ := drawn_ok h1
      exact ⟨kd2, d2, by simp -implicitDefEqProofs [mm5, mm6, e2], h2, o2⟩
    · have c1' : (o == "=") = false := by simp [c1]
      by_cases c2 : o = "<"
      · subst c2
        exact ⟨(0, "num"), d1, by simp -implicitDefEqProofs [mm5, mm6, knD], h1, kds_ok _ (by decide +kernel)⟩
      · have c2' : (o == "<") = false := by simp [c2]
        exact ⟨(lv, b), d1, by simp -implicitDefEqProofs [mm5, mm6, g1, g2, c1', c2', knD], h1, ok⟩
  obtain ⟨a, d3, e3, h3, ta⟩ := IH d2 es l kd2 st h2 hp hl o2
  have hs5 : ∀ c, kSeq (mmt7 (F__law_term f) (F__law_choice f) (F__law_made f)) (sSeq (mm5 (F__law_term f) (F__law_choice f) (F__law_made f)) (mm6 (F__law_term f) (F__law_choice f) (F__law_made f)) c) = mmt5 (F__law_term f) (F__law_choice f) (F__law_made f) c := by
    intro c
    show kSeq _ (kSeq _ (mm5 _ _ _ c)) = kSeq _ (mm5 _ _ _ c)
    cases mm5 (F__law_term f) (F__law_choice f) (F__law_made f) c with
    | none => rfl
    | some r => cases r <;> rfl
  have s5' := hs5 [.io d1, .dat (.dict es), .dat (.list (l.map locD)), .dat (.tuple [.int lv, .str b]), .dat (.int (k : Int)), .dat (.bool st), .no, .no, .no, .no, .no, .dat (.str o), .dat (.tuple [.int lv, .str b]), .no, .no]
  rw [s5, kSeq_n] at s5'
  have s2' := s2 d
  have pre : mmt0 (F__law_term f) (F__law_choice f) (F__law_made f) [.io d, .dat (.dict es), .dat (.list (l.map locD)), .dat (knD (lv, b)), .dat (.int (k : Int)), .dat (.bool st), .no, .no, .no, .no, .no, .no, .no, .no, .no] = mmt7 (F__law_term f) (F__law_choice f) (F__law_made f) [.io d2, .dat (.dict es), .dat (.list (l.map locD)), .dat (.tuple [.int lv, .str b]), .dat (.int (k : Int)), .dat (.bool st), .no, .no, .no, .no, .no, .dat (.str o), .dat (knD kd2), .no, .no] := by
    rw [s5']
    generalize l.map locD = L at *
    generalize os.map PyData.str = OS at *
    simp -implicitDefEqProofs [mmt0, mm0, mmt1, mm1, knD, hlv, gi, mmt2, s2', mmt3, mm3, hlen, e1, ea, mmt4, mm4]
  rw [pre]
  clear pre s5 s5' hs5 s2' s2
  by_cases c3 : o = "not"
  · subst c3
    refine ⟨.not a, false, d3, ?_, h3, ⟨ta.ok, ?_⟩⟩
    · generalize l.map locD = L at *
      generalize knD kd2 = K2 at *
      simp -implicitDefEqProofs [mmt7, mm7, e3, mmt8, mm8, encE]
    · have := ta.sz; simp only [nd, Sz]; omega
  · have c3' : (o == "not") = false := by simp [c3]
    obtain ⟨c, d4, e4, h4, tc⟩ := IH d3 es l kd2 st h3 hp hl o2
    refine ⟨.bin o a c, false, d4, ?_, h4, ⟨⟨trivial, ta.ok, tc.ok⟩, ?_⟩⟩
    · generalize l.map locD = L at *
      generalize knD kd2 = K2 at *
      simp -implicitDefEqProofs [mmt7, mm7, e3, mmt8, mm8, g3, c3', mmt9, mm9, e4, encE]
    · have := ta.sz; have := tc.sz; simp only [nd, Sz]; omega
theorem made_ok : MadeAt k (f + 1) := by
  intro d es l kind st h hp hl ok
  have hl' : LOk (LN k) l := hl.mono (by unfold LN; omega)
  show ∃ e fr d', runI 6 9 (b__law_made (F__law_term f) (F__law_choice f) (F__law_made f)) d [_, _, _, _, _] = _ ∧ _
  rw [mm_eq]
  unfold runI
  obtain ⟨lv, b⟩ := kind
  by_cases hlv : 0 < lv
  · have ok' : KOk (lv - 1, b) := ⟨by show 0 ≤ lv - 1; omega, ok.bs⟩
    obtain ⟨v1, d1, e1, h1, p1, q1⟩ := next_ok h (lim := 2) (by decide)
    by_cases hv : v1 = 0
    · subst hv
      obtain ⟨a, d2, e2, h2, ta⟩ := IH d1 es l (lv - 1, b) st h1 hp hl' ok'
      obtain ⟨c, d3, e3, h3, tc⟩ := IH d2 es l (lv, b) st h2 hp hl' ok
      refine ⟨.cons a c, false, d3, ?_, h3, ⟨⟨ta.ok, tc.ok⟩, ?_⟩⟩
      · generalize l.map locD = L at *
        simp -implicitDefEqProofs [mmt0, mm0, knD, hlv, e1, encE] at e2 e3 ⊢
        simp -implicitDefEqProofs [e2, e3]
      · have := ta.sz; have := tc.sz; simp only [nd, Sz]; omega
    · have hv' : (v1 == 0) = false := by simp [hv]
      obtain ⟨v2, d2, e2, h2, p2, q2⟩ := next_ok h1 (lim := 3) (by decide)
      obtain ⟨m, rfl⟩ := Int.eq_ofNat_of_zero_le p2
      obtain ⟨ps, d3, e3, h3, l3, t3⟩ := made_list IH (X := F__law_choice f) (Y := F__law_made f) (kind := (lv - 1, b)) (st := st) (r3 := .dat (knD (lv, b))) (r7 := .no) (r8 := .dat (.int (m : Int))) (r9 := .no) (r10 := .no) (r11 := .no) (r12 := .no) (r14 := .no) h2 hp hl' ok' m (by omega)
      refine ⟨.list ps, false, d3, ?_, h3, ⟨⟨by omega, fun x hx => (t3 x hx).ok⟩, ?_⟩⟩
      · have hsm : Qp.small (m : Int) = true := by unfold Qp.small; simp; omega
        have r1 : ∀ c : En, kR1 (some ([PyData.int (m : Int)], c)) = some (rngD 0 m, c) := fun c => by rw [kR1_of hsm]; rfl
        generalize l.map locD = L at *
        simp -implicitDefEqProofs [mmt0, mm0, knD, hlv, e1, hv', e2, r1, encE] at e3 ⊢
        simp -implicitDefEqProofs [e3]
      · have := nds_le6 t3 (by omega); simp only [nd, Sz]; omega
  · have hb := ok.bs
    simp only [BS, List.mem_cons, List.not_mem_nil, or_false] at hb
    have hcase : b = "d" ∨ b = "e" ∨ b = "num" ∨ b = "text" ∨ b = "bool" := by
      rcases hb with h | h | h | h | h <;> simp [h]
    clear hb
    rcases hcase with rfl | rfl | rfl | rfl | rfl
    · exact made_data IH h hp hl' hlv (by simp) rfl
    · exact made_data IH h hp hl' hlv (by simp) rfl
    · exact made_bin IH h hp hl' ok hlv rfl (fun d => op_num) (by decide) (by intro s hs; simp only [List.mem_cons, List.not_mem_nil, or_false] at hs; rcases hs with rfl | rfl | rfl | rfl | rfl <;> exact vs_lit _)
    · exact made_bin IH h hp hl' ok hlv rfl (fun d => op_text) (by decide) (by intro s hs; simp only [List.mem_cons, List.not_mem_nil, or_false] at hs; rcases hs with rfl; exact vs_lit _)
    · exact made_bin IH h hp hl' ok hlv rfl (fun d => op_bool) (by decide) (by intro s hs; simp only [List.mem_cons, List.not_mem_nil, or_false] at hs; rcases hs with rfl | rfl | rfl | rfl | rfl <;> exact vs_lit _)
end
end My
end
section
set_option Elab.async false
set_option linter.all false
set_option maxRecDepth 100000
set_option maxHeartbeats 8000000
namespace My
open PySem PySem.Spec PyProof.Rows L2 Qp
def cc0 (G__law_term : GI) (G__law_choice : GI) (G__law_made : GI) : SX := sAsg 6 (evCI 2 (F__law_next) 0 (evCons (evC (.int 5)) (evNil)))
def cc1 (G__law_term : GI) (G__law_choice : GI) (G__law_made : GI) : SX := sAsg 7 (evCI 1 (F__law_drawn_kind) 0 (evNil))
def cc2 (G__law_term : GI) (G__law_choice : GI) (G__law_made : GI) : SX := sIf (evT (evIxV gEq 6 (evC (.int 0)))) (sSeq (sAsg 8 (evCI 6 (G__law_term) 0 (evCons (evVar 1) (evCons (evVar 2) (evCons (evA gTupD (evCons (evC (.int 0)) (evCons (evC (.str "bool")) (evNil)))) (evCons (evVar 4) (evCons (evVar 5) (evNil))))))))
  (sSeq (sAsg 9 (evCI 6 (G__law_term) 0 (evCons (evVar 1) (evCons (evVar 2) (evCons (evVar 3) (evCons (evVar 4) (evCons (evVar 5) (evNil))))))))
  (sRet (evA gTupD (evCons (evC (.str "if")) (evCons (evVar 8) (evCons (evVar 9) (evCons (evCI 6 (G__law_term) 0 (evCons (evVar 1) (evCons (evVar 2) (evCons (evVar 3) (evCons (evVar 4) (evCons (evVar 5) (evNil))))))) (evNil))))))))) (sNx)
def cc3 (G__law_term : GI) (G__law_choice : GI) (G__law_made : GI) : SX := sIf (evT (evIxV gEq 6 (evC (.int 1)))) (sSeq (sAsg 10 (ev2 gIx (evCI 2 (F__law_names) 0 (evCons (evC (.int 1)) (evNil))) (evC (.int 0))))
  (sSeq (sAsg 8 (evCI 6 (G__law_term) 0 (evCons (evVar 1) (evCons (evVar 2) (evCons (evVar 7) (evCons (evVar 4) (evCons (evVar 5) (evNil))))))))
  (sRet (evA gTupD (evCons (evC (.str "let")) (evCons (evVar 10) (evCons (evVar 8) (evCons (evCI 6 (G__law_term) 0 (evCons (evVar 1) (evCons (evIxV gAdd 2 (evA gLstD (evCons (evA gTupD (evCons (evVar 10) (evCons (evVar 7) (evNil)))) (evNil)))) (evCons (evVar 3) (evCons (evVar 4) (evCons (evVar 5) (evNil))))))) (evNil))))))))) (sNx)
def cc4 (G__law_term : GI) (G__law_choice : GI) (G__law_made : GI) : SX := sIf (evT (evIxV gEq 6 (evC (.int 2)))) (sSeq (sAsgT (evCI 2 (F__law_names) 0 (evCons (evC (.int 2)) (evNil))) (gxTup (gxCons (gx 11) (gxCons (gx 12) (gxNil))) 2))
  (sSeq (sAsg 13 (evA gTupD (evCons (ev2 gAdd (evIxV gIx 7 (evC (.int 0))) (evC (.int 1))) (evCons (evIxV gIx 7 (evC (.int 1))) (evNil)))))
  (sSeq (sAsg 8 (evCI 6 (G__law_term) 0 (evCons (evVar 1) (evCons (evVar 2) (evCons (evVar 13) (evCons (evVar 4) (evCons (evVar 5) (evNil))))))))
  (sSeq (sAsg 9 (evCI 6 (G__law_term) 0 (evCons (evVar 1) (evCons (evVar 2) (evCons (evVar 3) (evCons (evVar 4) (evCons (evVar 5) (evNil))))))))
  (sSeq (sAsg 14 (evIxV gAdd 2 (evA gLstD (evCons (evA gTupD (evCons (evVar 11) (evCons (evVar 7) (evNil)))) (evCons (evA gTupD (evCons (evVar 12) (evCons (evVar 13) (evNil)))) (evNil))))))
  (sRet (evA gTupD (evCons (evC (.str "split")) (evCons (evVar 8) (evCons (evVar 9) (evCons (evVar 11) (evCons (evVar 12) (evCons (evCI 6 (G__law_term) 0 (evCons (evVar 1) (evCons (evVar 14) (evCons (evVar 3) (evCons (evVar 4) (evCons (evVar 5) (evNil))))))) (evNil)))))))))))))) (sNx)
def cc5 (G__law_term : GI) (G__law_choice : GI) (G__law_made : GI) : SX := sIf (evT (evIxV gEq 6 (evC (.int 3)))) (sSeq (sAsg 15 (ev2 gIx (evA gLstD (evCons (evC (.str "d")) (evCons (evC (.str "e")) (evNil)))) (evCI 2 (F__law_next) 0 (evCons (evC (.int 2)) (evNil)))))
  (sSeq (sAsg 8 (evCI 6 (G__law_term) 0 (evCons (evVar 1) (evCons (evVar 2) (evCons (evA gTupD (evCons (evC (.int 0)) (evCons (evVar 15) (evNil)))) (evCons (evVar 4) (evCons (evVar 5) (evNil))))))))
  (sSeq (sAsg 16 (evA gLstD (evNil)))
  (sSeq (sFor (ixSeq (ev2 gIx (evIxV gDget 1 (evVar 15)) (evC (.int 1)))) (gxTup (gxCons (gx 17) (gxCons (gx 18) (gxNil))) 2) (L__law_choice_2 G__law_term G__law_choice G__law_made))
  (sSeq (sIf (evT (ev2 gEq (evCI 2 (F__law_next) 0 (evCons (evC (.int 20)) (evNil))) (evC (.int 0)))) (sDrop (evPop 16)) (sNx))
  (sSeq (sIf (evT (ev2 gEq (evCI 2 (F__law_next) 0 (evCons (evC (.int 12)) (evNil))) (evC (.int 0)))) (sSeq (sAsg 14 (ev2 gIx (evA gLstD (evCons (evIxV gIx 16 (evC (.int 0))) (evCons (evA gTupD (evCons (ev2 gIx (evA gLstD (evCons (evC (.str "One")) (evCons (evC (.str "Leaf")) (evNil)))) (evA gInt (evCons (evIxV gEq 15 (evC (.str "e"))) (evNil)))) (evCons (evA gTupD (evNil)) (evCons (evA gTupD (evCons (evC (.str "number")) (evCons (evC (.int 1)) (evNil)))) (evNil))))) (evNil)))) (evCI 2 (F__law_next) 0 (evCons (evC (.int 2)) (evNil)))))
  (sDrop (evIns 16 (evCI 2 (F__law_next) 0 (evCons (ev2 gAdd (evV1 gLen 16) (evC (.int 1))) (evNil))) (evVar 14)))) (sNx))
  (sRet (evA gTupD (evCons (evC (.str "match")) (evCons (evVar 8) (evCons (evA (gOne gTuple) (evCons (evIxV gAdd 16 (evRepL (evA gLstD (evCons (evA gTupD (evCons (evC (.str "Leaf")) (evCons (evA gTupD (evNil)) (evCons (evA gTupD (evCons (evC (.str "number")) (evCons (evC (.int 1)) (evNil)))) (evNil))))) (evNil))) (evA gInt (evCons (ev2 gEq (evV1 gLen 16) (evC (.int 0))) (evNil))))) (evNil))) (evNil)))))))))))) (sNx)
def cc6 (G__law_term : GI) (G__law_choice : GI) (G__law_made : GI) : SX := sIf (evT (ev2 gEq (evCI 2 (F__law_next) 0 (evCons (evC (.int 20)) (evNil))) (evC (.int 0)))) (sRet (evA gTupD (evCons (evC (.str "call")) (evCons (ev2 gIx (evA gLstD (evCons (evC (.str "a")) (evCons (evC (.str "b")) (evCons (evC (.str "c")) (evCons (evC (.str "v")) (evCons (evC (.str "d")) (evNil))))))) (evCI 2 (F__law_next) 0 (evCons (evC (.int 5)) (evNil)))) (evCons (ev2 gRepTA (evA gTupD (evCons (evA gTupD (evCons (evC (.str "number")) (evCons (evC (.int 1)) (evNil)))) (evNil))) (evCI 2 (F__law_next) 0 (evCons (evC (.int 2)) (evNil)))) (evNil)))))) (sNx)
def cc7 (G__law_term : GI) (G__law_choice : GI) (G__law_made : GI) : SX := sAsg 20 (evLc [10] (ixSeq (evA gLstD (evCons (evC (.str "f")) (evCons (evC (.str "g")) (evCons (evC (.str "h")) (evCons (evC (.str "k")) (evNil))))))) (gx 10) (W__law_choice_4 G__law_term G__law_choice G__law_made) (C__law_choice_3 G__law_term G__law_choice G__law_made))
def cc8 (G__law_term : GI) (G__law_choice : GI) (G__law_made : GI) : SX := sIf (evT (ev2 gEq (evV1 gLen 20) (evC (.int 0)))) (sRet (evCI 2 (F__law_plain) 0 (evCons (evVar 3) (evNil)))) (sNx)
def cc9 (G__law_term : GI) (G__law_choice : GI) (G__law_made : GI) : SX := sAsg 10 (evIxV gIx 20 (evCI 2 (F__law_next) 0 (evCons (evV1 gLen 20) (evNil))))
def cc10 (G__law_term : GI) (G__law_choice : GI) (G__law_made : GI) : SX := sAsg 21 (evLc [23] (ixSeq (ev2 gIx (evIxV gDget 1 (evVar 10)) (evC (.int 1)))) (gx 23) (evYes) (C__law_choice_5 G__law_term G__law_choice G__law_made))
def cc11 (G__law_term : GI) (G__law_choice : GI) (G__law_made : GI) : SX := sRet (evA gTupD (evCons (evC (.str "call")) (evCons (evVar 10) (evCons (evA (gOne gTuple) (evCons (evIxV gAdd 21 (evRepL (evA gLstD (evCons (evA gTupD (evCons (evC (.str "number")) (evCons (evC (.int 3)) (evNil)))) (evNil))) (evA gInt (evCons (ev2 gEq (evCI 2 (F__law_next) 0 (evCons (evC (.int 30)) (evNil))) (evC (.int 0))) (evNil))))) (evNil))) (evNil)))))
def cct11 (G__law_term : GI) (G__law_choice : GI) (G__law_made : GI) : SX := cc11 G__law_term G__law_choice G__law_made
def cct10 (G__law_term : GI) (G__law_choice : GI) (G__law_made : GI) : SX := sSeq (cc10 G__law_term G__law_choice G__law_made) (cct11 G__law_term G__law_choice G__law_made)
def cct9 (G__law_term : GI) (G__law_choice : GI) (G__law_made : GI) : SX := sSeq (cc9 G__law_term G__law_choice G__law_made) (cct10 G__law_term G__law_choice G__law_made)
def cct8 (G__law_term : GI) (G__law_choice : GI) (G__law_made : GI) : SX := sSeq (cc8 G__law_term G__law_choice G__law_made) (cct9 G__law_term G__law_choice G__law_made)
def cct7 (G__law_term : GI) (G__law_choice : GI) (G__law_made : GI) : SX := sSeq (cc7 G__law_term G__law_choice G__law_made) (cct8 G__law_term G__law_choice G__law_made)
def cct6 (G__law_term : GI) (G__law_choice : GI) (G__law_made : GI) : SX := sSeq (cc6 G__law_term G__law_choice G__law_made) (cct7 G__law_term G__law_choice G__law_made)
def cct5 (G__law_term : GI) (G__law_choice : GI) (G__law_made : GI) : SX := sSeq (cc5 G__law_term G__law_choice G__law_made) (cct6 G__law_term G__law_choice G__law_made)
def cct4 (G__law_term : GI) (G__law_choice : GI) (G__law_made : GI) : SX := sSeq (cc4 G__law_term G__law_choice G__law_made) (cct5 G__law_term G__law_choice G__law_made)
def cct3 (G__law_term : GI) (G__law_choice : GI) (G__law_made : GI) : SX := sSeq (cc3 G__law_term G__law_choice G__law_made) (cct4 G__law_term G__law_choice G__law_made)
def cct2 (G__law_term : GI) (G__law_choice : GI) (G__law_made : GI) : SX := sSeq (cc2 G__law_term G__law_choice G__law_made) (cct3 G__law_term G__law_choice G__law_made)
def cct1 (G__law_term : GI) (G__law_choice : GI) (G__law_made : GI) : SX := sSeq (cc1 G__law_term G__law_choice G__law_made) (cct2 G__law_term G__law_choice G__law_made)
def cct0 (G__law_term : GI) (G__law_choice : GI) (G__law_made : GI) : SX := sSeq (cc0 G__law_term G__law_choice G__law_made) (cct1 G__law_term G__law_choice G__law_made)
theorem cc_eq (G__law_term : GI) (G__law_choice : GI) (G__law_made : GI) : b__law_choice G__law_term G__law_choice G__law_made = cct0 G__law_term G__law_choice G__law_made := rfl
theorem LOk.app {n m : Nat} {l r : List (Str × Kn)} (h : LOk n l) (hr : ∀ p ∈ r, p.1 ∈ NS ∧ KOk p.2) (hm : n + r.length ≤ m) : LOk m (l ++ r) := ⟨by have := h.ln; rw [List.length_append]; omega, fun p hp => (List.mem_append.mp hp).elim (h.ok p) (hr p)⟩
theorem addLoc {n : Nat} {l r : List (Str × Kn)} (h : LOk n l) (hn : n ≤ 100) (hr : r.length ≤ 100) : gAdd (.list (l.map locD)) (.list (r.map locD)) = some (.list ((l ++ r).map locD), true) := by
  rw [List.map_append]
  exact gAdd_ll (Nat.le_trans (by have := h.ln; rw [List.length_map, List.length_map]; omega : _ ≤ 200) (by decide))
theorem LN_succ {k : Nat} (h : k ≤ 7) : LN (k + 1) + 5 ≤ LN k := by unfold LN; omega
section
variable {k f : Nat} (IH : TermAt k f) (k7 : k ≤ 7)
include IH k7
abbrev CC (d : D) (es : List (D × D)) (l : List (Str × Kn)) (kind : Kn) (k : Nat) (st : Bool) (p : Int) (other : Kn) : En := [.io d, .dat (.dict es), .dat (.list (l.map locD)), .dat (knD kind), .dat (.int (k : Int)), .dat (.bool st), .dat (.int p), .dat (knD other), .no, .no, .no, .no, .no, .no, .no, .no, .no, .no, .no, .no, .no, .no, .no, .no]
def CG (k f : Nat) (d : D) (es : List (D × D)) (l : List (Str × Kn)) (kind : Kn) (st : Bool) (p : Int) (other : Kn) : Prop :=
  ∃ e fr d', outI (cct2 (F__law_term f) (F__law_choice f) (F__law_made f) (CC d es l kind k st p other)) = some (encE e, fr, d') ∧ Stt d' ∧ Tm (k + 1) e
variable {d : D} {es : List (D × D)} {l : List (Str × Kn)} {kind : Kn} {st : Bool} {other : Kn} (h : Stt d) (hp : Pl ["d", "e"] PNS es) (hl : LOk (LN (k + 1)) l) (ok : KOk kind) (oo : KOk other)
include h hp hl ok oo
theorem choice0 : CG k f d es l kind st 0 other := by
  have hl' : LOk (LN k) l := hl.mono (by have := LN_succ k7; omega)
  obtain ⟨a, d1, e1, h1, ta⟩ := IH d es l (0, "bool") st h hp hl' (kds_ok _ (by decide +kernel))
  obtain ⟨b, d2, e2, h2, tb⟩ := IH d1 es l kind st h1 hp hl' ok
  obtain ⟨c, d3, e3, h3, tc⟩ := IH d2 es l kind st h2 hp hl' ok
  refine ⟨.ite a b c, false, d3, ?_, h3, ⟨⟨ta.ok, tb.ok, tc.ok⟩, ?_⟩⟩
  · unfold CC
    generalize l.map locD = L at *
    generalize knD kind = K2 at *
    generalize knD other = K3 at *
    simp only [knD] at e1
    simp -implicitDefEqProofs [CC, cct2, cc2, e1, e2, e3, encE]
  · have := ta.sz; have := tb.sz; have := tc.sz; simp only [nd, Sz]; omega
theorem choice1 : CG k f d es l kind st 1 other := by
  have hl' : LOk (LN k) l := hl.mono (by have := LN_succ k7; omega)
  obtain ⟨ns, fr, d1, e1, h1, n1, l1⟩ := names_ok' h (n := 1) (by decide) (by decide)
  obtain ⟨x, rfl⟩ : ∃ x, ns = [x] := by
    match ns, l1 with
    | [x], _ => exact ⟨x, rfl⟩
    | [], hh => simp at hh
    | _ :: _ :: _, hh => simp at hh; omega
  have xo := n1.ok x (by simp)
  have hl2 : LOk (LN k) (l ++ [(x, other)]) := hl.app (by intro p hp; simp at hp; subst hp; exact ⟨xo, oo⟩) (by have := LN_succ k7; simp; omega)
  have ga := addLoc (r := [(x, other)]) hl (by unfold LN; omega) (by simp)
  obtain ⟨a, d2, e2, h2, ta⟩ := IH d1 es l other st h1 hp hl' oo
  obtain ⟨b, d3, e3, h3, tb⟩ := IH d2 es (l ++ [(x, other)]) kind st h2 hp hl2 ok
  refine ⟨.lett x a b, false, d3, ?_, h3, ⟨⟨ns_sok xo, ta.ok, tb.ok⟩, ?_⟩⟩
  · unfold CC
    generalize (l ++ [(x, other)]).map locD = L2 at *
    generalize l.map locD = L at *
    simp only [List.map_cons, List.map_nil, locD] at ga
    generalize knD kind = K2 at *
    generalize knD other = K3 at *
    simp only [List.map_cons, List.map_nil] at e1
    simp -implicitDefEqProofs [CC, cct2, cc2, cct3, cc3, e1, e2, ga, e3, encE]
  · have := ta.sz; have := tb.sz; simp only [nd, Sz]; omega
theorem choice2 : CG k f d es l kind st 2 other := by
  have hl' : LOk (LN k) l := hl.mono (by have := LN_succ k7; omega)
  obtain ⟨ns, fr, d1, e1, h1, n1, l1⟩ := names_ok' h (n := 2) (by decide) (by decide)
  obtain ⟨x, y, rfl⟩ : ∃ x y, ns = [x, y] := by
    match ns, l1 with
    | [x, y], _ => exact ⟨x, y, rfl⟩
    | [], hh => simp at hh
    | [_], hh => simp at hh
    | _ :: _ :: _ :: _, hh => simp at hh; omega
  have xo := n1.ok x (by simp)
  have yo := n1.ok y (by simp)
  obtain ⟨lv, b0⟩ := other
  have io : KOk (lv + 1, b0) := ⟨by have := oo.lo; show 0 ≤ lv + 1; simp at this; omega, oo.bs⟩
  have hl2 : LOk (LN k) (l ++ [(x, (lv, b0)), (y, (lv + 1, b0))]) := hl.app (by
    intro p hp
    simp only [List.mem_cons, List.not_mem_nil, or_false] at hp
    rcases hp with rfl | rfl
    · exact ⟨xo, oo⟩
    · exact ⟨yo, io⟩) (by have := LN_succ k7; simp; omega)
  have ga := addLoc (r := [(x, (lv, b0)), (y, (lv + 1, b0))]) hl (by unfold LN; omega) (by simp)
  obtain ⟨a, d2, e2, h2, ta⟩ := IH d1 es l (lv + 1, b0) st h1 hp hl' io
  obtain ⟨b, d3, e3, h3, tb⟩ := IH d2 es l kind st h2 hp hl' ok
  obtain ⟨c, d4, e4, h4, tc⟩ := IH d3 es (l ++ [(x, (lv, b0)), (y, (lv + 1, b0))]) kind st h3 hp hl2 ok
  refine ⟨.split a b x y c, false, d4, ?_, h4, ⟨⟨ns_sok xo, ns_sok yo, ta.ok, tb.ok, tc.ok⟩, ?_⟩⟩
  · unfold CC
    generalize (l ++ [(x, (lv, b0)), (y, (lv + 1, b0))]).map locD = L2 at *
    generalize l.map locD = L at *
    simp only [List.map_cons, List.map_nil, locD] at ga
    generalize knD kind = K2 at *
    simp only [List.map_cons, List.map_nil] at e1
    simp only [knD] at *
    simp -implicitDefEqProofs [CC, cct2, cc2, cct3, cc3, cct4, cc4, knD, e1, e2, e3, ga, e4, encE]
  · have := ta.sz; have := tb.sz; have := tc.sz; simp only [nd, Sz]; omega
end
end My
end
section
set_option Elab.async false
set_option linter.all false
set_option maxRecDepth 100000
set_option maxHeartbeats 8000000
namespace My
open PySem PySem.Spec PyProof.Rows L2 Qp
/-! arms -/
abbrev Arm := Str × List Str × E
def armD (a : Arm) : D := .tuple [.str a.1, .tuple (a.2.1.map .str), encE a.2.2]
theorem arms_map : ∀ as : List Arm, as.map armD = armsD (as.map (·.1)) (as.map (·.2.1)) (encEs (as.map (·.2.2)))
  | [] => rfl
  | a :: r => by
    rw [List.map_cons, arms_map r]
    rfl
structure AOk (k : Nat) (a : Arm) : Prop where
  m : Sok a.1
  ln : a.2.1.length ≤ 5
  ns : ∀ s ∈ a.2.1, Sok s
  t : Tm k a.2.2
theorem mat_tm {k : Nat} {a : E} {as : List Arm} (ha : Tm k a) (h : ∀ x ∈ as, AOk k x) (hl : as.length ≤ 6) : Tm (k + 1) (.mat a (as.map (·.1)) (as.map (·.2.1)) (as.map (·.2.2))) := by
  refine ⟨⟨ha.ok, fun m hm => ?_, fun l hl => ?_, by simp; omega, by simp, by simp, fun x hx => ?_⟩, ?_⟩
  · obtain ⟨x, hx, rfl⟩ := List.mem_map.mp hm
    exact (h x hx).m
  · obtain ⟨x, hx, rfl⟩ := List.mem_map.mp hl
    exact ⟨(h x hx).ln, (h x hx).ns⟩
  · obtain ⟨y, hy, rfl⟩ := List.mem_map.mp hx
    exact (h y hy).t.ok
  · have := nds_le6 (k := k) (ps := as.map (·.2.2)) (fun p hp => by
      obtain ⟨y, hy, rfl⟩ := List.mem_map.mp hp
      exact (h y hy).t) (by simpa using hl)
    have := ha.sz
    simp only [nd, Sz]
    omega
theorem zip_loc {ns : List Str} {ks : List Kn} (h : ns.length = ks.length) : ∀ p ∈ ns.zip ks, p.1 ∈ ns ∧ p.2 ∈ ks := fun p hp => ⟨(List.of_mem_zip hp).1, (List.of_mem_zip hp).2⟩
theorem comp_loc {X Y Z : GI} {ns : List Str} {ks : List Kn} (h : ns.length = ks.length) (hn : ks.length ≤ 5) {a0 a1 a2 a3 a4 a5 a6 a7 a8 a9 a10 a11 a12 a13 a14 a15 a16 a17 a20 a21 a23 : Cell} :
    loopC (gx 22) evYes (C__law_choice_1 X Y Z) [22] (rngD 0 ks.length) [] [a0, a1, a2, a3, a4, a5, a6, a7, a8, a9, a10, a11, a12, a13, a14, a15, a16, a17, .dat (.tuple (ks.map knD)), .dat (.tuple (ns.map .str)), a20, a21, .no, a23]
      = some ((ns.zip ks).map locD, [a0, a1, a2, a3, a4, a5, a6, a7, a8, a9, a10, a11, a12, a13, a14, a15, a16, a17, .dat (.tuple (ks.map knD)), .dat (.tuple (ns.map .str)), a20, a21, .no, a23]) := by
  have q := loopC_enc (gt := gx 22) (fe := C__law_choice_1 X Y Z) (vs := [22]) (cs := [a0, a1, a2, a3, a4, a5, a6, a7, a8, a9, a10, a11, a12, a13, a14, a15, a16, a17, .dat (.tuple (ks.map knD)), .dat (.tuple (ns.map .str)), a20, a21, .no, a23]) (enc := fun i : Nat => PyData.int (i : Int)) (val := fun i => .tuple [.str (ns.getD i ""), knD (ks.getD i (0, ""))]) (List.range ks.length) (fun i hi => by
    have hi := List.mem_range.mp hi
    refine ⟨_, false, by simp; rfl, ?_, by simp, by simp⟩
    have e1 : atD (ns.map PyData.str) (i : Int) = some (.str (ns.getD i "")) := by
      rw [atD_of (by omega) (by rw [List.length_map]; omega), Int.toNat_natCast, List.getElem?_map, List.getD_eq_getElem?_getD, List.getElem?_eq_getElem (by omega)]
      rfl
    have e2 : atD (ks.map knD) (i : Int) = some (knD (ks.getD i (0, ""))) := by
      rw [atD_of (by omega) (by rw [List.length_map]; omega), Int.toNat_natCast, List.getElem?_map, List.getD_eq_getElem?_getD, List.getElem?_eq_getElem (by omega)]
      rfl
    generalize ns.map PyData.str = N at *
    generalize ks.map knD = K at *
    generalize knD (ks.getD i (0, "")) = kk at *
    simp -implicitDefEqProofs [C__law_choice_1, e1, e2]) (by rw [List.length_range]; exact Nat.le_trans (show _ ≤ 6 by omega) lim6)
  rw [rngD_map, q]
  congr 2
  refine List.ext_getElem (by simp; omega) fun i h1 h2 => ?_
  rw [List.length_map, List.length_range] at h1
  rw [List.getElem_map, List.getElem_map, List.getElem_range, List.getElem_zip]
  show PyData.tuple [.str (ns.getD i ""), knD (ks.getD i (0, ""))] = .tuple [.str (ns[i]'(by omega)), knD (ks[i]'h1)]
  rw [List.getD_eq_getElem?_getD, List.getElem?_eq_getElem (by omega), List.getD_eq_getElem?_getD, List.getElem?_eq_getElem h1]
  rfl
section
variable {k f : Nat} (IH : TermAt k f) (k7 : k ≤ 7)
include IH k7
theorem arms_loop {es : List (D × D)} {l : List (Str × Kn)} {kind : Kn} {st : Bool} {a6 a7 a8 a15 : Cell} (hp : Pl ["d", "e"] PNS es) (hl : LOk (LN (k + 1)) l) (ok : KOk kind) : ∀ (ms : List (Str × List Kn)) (as : List Arm) (d : D) (x14 x17 x18 x19 : Cell),
    Stt d → (∀ p ∈ ms, Sok p.1 ∧ p.2.length ≤ 3 ∧ ∀ k ∈ p.2, KOk k) → (∀ a ∈ as, AOk k a) → as.length + ms.length ≤ 10 → kNo (some x14) = true → kNo (some x17) = true → kNo (some x18) = true → kNo (some x19) = true →
    ∃ (as' : List Arm) (d' : D) (y14 y17 y18 y19 : Cell), loopF (gxTup (gxCons (gx 17) (gxCons (gx 18) (gxNil))) 2) (L__law_choice_2 (F__law_term f) (F__law_choice f) (F__law_made f)) (ms.map mkrD) [.io d, .dat (.dict es), .dat (.list (l.map locD)), .dat (knD kind), .dat (.int (k : Int)), .dat (.bool st), a6, a7, a8, .no, .no, .no, .no, .no, x14, a15, .own (.list (as.map armD)), x17, x18, x19, .no, .no, .no, .no]
      = some (.nx [.io d', .dat (.dict es), .dat (.list (l.map locD)), .dat (knD kind), .dat (.int (k : Int)), .dat (.bool st), a6, a7, a8, .no, .no, .no, .no, .no, y14, a15, .own (.list (as'.map armD)), y17, y18, y19, .no, .no, .no, .no]) ∧ Stt d' ∧ (∀ a ∈ as', AOk k a) ∧ as'.length = as.length + ms.length ∧ kNo (some y14) = true
  | [], as, d, x14, x17, x18, x19, h, _, ha, _, h14, _, _, _ => ⟨as, d, x14, x17, x18, x19, by simp, h, ha, by simp, h14⟩
  | p :: r, as, d, x14, x17, x18, x19, h, hm, ha, hlen, h14, h17, h18, h19 => by
    obtain ⟨s1, s2, s3⟩ := hm p List.mem_cons_self
    rw [List.length_cons] at hlen
    obtain ⟨ns, fr, d1, e1, h1, n1, l1⟩ := names_ok' h (n := (p.2.length : Int)) (by omega) (by omega)
    have l1' : ns.length = p.2.length := by omega
    have zl := zip_loc l1'
    have hl2 : LOk (LN k) (l ++ ns.zip p.2) := hl.app (fun q hq => ⟨n1.ok _ (zl q hq).1, s3 _ (zl q hq).2⟩) (by have := LN_succ k7; rw [List.length_zip]; omega)
    have ga := addLoc (r := ns.zip p.2) hl (by unfold LN; omega) (by rw [List.length_zip]; omega)
    obtain ⟨v, d2, e2, h2, p2, q2⟩ := next_ok h1 (lim := (as.length : Int) + 1) (by omega)
    obtain ⟨e, d3, e3, h3, te⟩ := IH d2 es (l ++ ns.zip p.2) kind st h2 hp hl2 ok
    have qc := comp_loc (X := F__law_term f) (Y := F__law_choice f) (Z := F__law_made f) l1' (by omega) (a0 := .io d1) (a1 := .dat (.dict es)) (a2 := .dat (.list (l.map locD))) (a3 := .dat (knD kind)) (a4 := .dat (.int (k : Int))) (a5 := .dat (.bool st)) (a6 := a6) (a7 := a7) (a8 := a8) (a9 := .no) (a10 := .no) (a11 := .no) (a12 := .no) (a13 := .no) (a14 := x14) (a15 := a15) (a16 := .own (.list (as.map armD))) (a17 := .dat (.str p.1)) (a20 := .no) (a21 := .no) (a23 := .no)
    have ao : AOk k (p.1, ns, e) := ⟨s1, n1.ln, fun s hs => ns_sok (n1.ok s hs), te⟩
    have ei : fIns v (armD (p.1, ns, e)) (.list (as.map armD)) = some (.list ((as.take v.toNat ++ [(p.1, ns, e)] ++ as.drop v.toNat).map armD)) := by
      rw [fIns_of p2 (by omega) (by rw [List.length_map]; exact Nat.lt_of_lt_of_le (by omega : _ < 100) (by decide))]
      simp [List.map_take, List.map_drop]
    obtain ⟨as', d', y14, y17, y18, y19, q, a1, a2, a3, a4⟩ := arms_loop (st := st) (a6 := a6) (a7 := a7) (a8 := a8) (a15 := a15) hp hl ok r (as.take v.toNat ++ [(p.1, ns, e)] ++ as.drop v.toNat) d3 (.dat (.list ((l ++ ns.zip p.2).map locD))) (.dat (.str p.1)) (.dat (.tuple (p.2.map knD))) (.dat (.tuple (ns.map .str))) h3 (fun x hx => hm x (List.mem_cons_of_mem _ hx)) (fun x hx => by
      rcases List.mem_append.mp hx with hx | hx
      · rcases List.mem_append.mp hx with hx | hx
        · exact ha x (List.mem_of_mem_take hx)
        · rw [List.mem_singleton.mp hx]; exact ao
      · exact ha x (List.mem_of_mem_drop hx)) (by simp; omega) rfl rfl rfl rfl
    refine ⟨as', d', y14, y17, y18, y19, ?_, a1, a2, by rw [a3]; simp; omega, a4⟩
    have hb : L__law_choice_2 (F__law_term f) (F__law_choice f) (F__law_made f) [.io d, .dat (.dict es), .dat (.list (l.map locD)), .dat (knD kind), .dat (.int (k : Int)), .dat (.bool st), a6, a7, a8, .no, .no, .no, .no, .no, x14, a15, .own (.list (as.map armD)), .dat (.str p.1), .dat (.tuple (p.2.map knD)), x19, .no, .no, .no, .no]
        = some (.nx [.io d3, .dat (.dict es), .dat (.list (l.map locD)), .dat (knD kind), .dat (.int (k : Int)), .dat (.bool st), a6, a7, a8, .no, .no, .no, .no, .no, .dat (.list ((l ++ ns.zip p.2).map locD)), a15, .own (.list ((as.take v.toNat ++ [(p.1, ns, e)] ++ as.drop v.toNat).map armD)), .dat (.str p.1), .dat (.tuple (p.2.map knD)), .dat (.tuple (ns.map .str)), .no, .no, .no, .no]) := by
      have hk := List.length_map (as := p.2) (f := knD)
      have hk2 := List.length_map (as := as) (f := armD)
      have hsm : Qp.small ((p.2.length : Nat) : Int) = true := by unfold Qp.small; simp; omega
      have r1 : ∀ c : En, kR1 (some ([PyData.int ((p.2.length : Nat) : Int)], c)) = some (rngD 0 p.2.length, c) := fun c => by rw [kR1_of hsm]; rfl
      simp only [armD] at ei
      generalize (as.take v.toNat ++ [(p.1, ns, e)] ++ as.drop v.toNat).map armD = A2 at *
      generalize as.map armD = A1 at *
      generalize (l ++ ns.zip p.2).map locD = L2 at *
      generalize (ns.zip p.2).map locD = LZ at *
      generalize l.map locD = L at *
      generalize ns.map PyData.str = N at *
      generalize p.2.map knD = KS at *
      generalize knD kind = K1 at *
      simp -implicitDefEqProofs [L__law_choice_2, hk, e1, h19, r1, qc, ga, h14, hk2, e2, e3, ei]
    rw [List.map_cons, loopF_step (c1 := [.io d, .dat (.dict es), .dat (.list (l.map locD)), .dat (knD kind), .dat (.int (k : Int)), .dat (.bool st), a6, a7, a8, .no, .no, .no, .no, .no, x14, a15, .own (.list (as.map armD)), .dat (.str p.1), .dat (.tuple (p.2.map knD)), x19, .no, .no, .no, .no]) (by simp [mkrD, h17, h18]) hb, q]
end
end My
end
section
set_option Elab.async false
set_option linter.all false
set_option maxRecDepth 100000
set_option maxHeartbeats 8000000
namespace My
open PySem PySem.Spec PyProof.Rows L2 Qp
def cm0 (G__law_term : GI) (G__law_choice : GI) (G__law_made : GI) : SX := sAsg 15 (ev2 gIx (evA gLstD (evCons (evC (.str "d")) (evCons (evC (.str "e")) (evNil)))) (evCI 2 (F__law_next) 0 (evCons (evC (.int 2)) (evNil))))
def cm1 (G__law_term : GI) (G__law_choice : GI) (G__law_made : GI) : SX := sAsg 8 (evCI 6 (G__law_term) 0 (evCons (evVar 1) (evCons (evVar 2) (evCons (evA gTupD (evCons (evC (.int 0)) (evCons (evVar 15) (evNil)))) (evCons (evVar 4) (evCons (evVar 5) (evNil)))))))
def cm2 (G__law_term : GI) (G__law_choice : GI) (G__law_made : GI) : SX := sAsg 16 (evA gLstD (evNil))
def cm3 (G__law_term : GI) (G__law_choice : GI) (G__law_made : GI) : SX := sFor (ixSeq (ev2 gIx (evIxV gDget 1 (evVar 15)) (evC (.int 1)))) (gxTup (gxCons (gx 17) (gxCons (gx 18) (gxNil))) 2) (L__law_choice_2 G__law_term G__law_choice G__law_made)
def cm4 (G__law_term : GI) (G__law_choice : GI) (G__law_made : GI) : SX := sIf (evT (ev2 gEq (evCI 2 (F__law_next) 0 (evCons (evC (.int 20)) (evNil))) (evC (.int 0)))) (sDrop (evPop 16)) (sNx)
def cm5 (G__law_term : GI) (G__law_choice : GI) (G__law_made : GI) : SX := sIf (evT (ev2 gEq (evCI 2 (F__law_next) 0 (evCons (evC (.int 12)) (evNil))) (evC (.int 0)))) (sSeq (sAsg 14 (ev2 gIx (evA gLstD (evCons (evIxV gIx 16 (evC (.int 0))) (evCons (evA gTupD (evCons (ev2 gIx (evA gLstD (evCons (evC (.str "One")) (evCons (evC (.str "Leaf")) (evNil)))) (evA gInt (evCons (evIxV gEq 15 (evC (.str "e"))) (evNil)))) (evCons (evA gTupD (evNil)) (evCons (evA gTupD (evCons (evC (.str "number")) (evCons (evC (.int 1)) (evNil)))) (evNil))))) (evNil)))) (evCI 2 (F__law_next) 0 (evCons (evC (.int 2)) (evNil)))))
  (sDrop (evIns 16 (evCI 2 (F__law_next) 0 (evCons (ev2 gAdd (evV1 gLen 16) (evC (.int 1))) (evNil))) (evVar 14)))) (sNx)
def cm6 (G__law_term : GI) (G__law_choice : GI) (G__law_made : GI) : SX := sRet (evA gTupD (evCons (evC (.str "match")) (evCons (evVar 8) (evCons (evA (gOne gTuple) (evCons (evIxV gAdd 16 (evRepL (evA gLstD (evCons (evA gTupD (evCons (evC (.str "Leaf")) (evCons (evA gTupD (evNil)) (evCons (evA gTupD (evCons (evC (.str "number")) (evCons (evC (.int 1)) (evNil)))) (evNil))))) (evNil))) (evA gInt (evCons (ev2 gEq (evV1 gLen 16) (evC (.int 0))) (evNil))))) (evNil))) (evNil)))))
def cmt6 (G__law_term : GI) (G__law_choice : GI) (G__law_made : GI) : SX := cm6 G__law_term G__law_choice G__law_made
def cmt5 (G__law_term : GI) (G__law_choice : GI) (G__law_made : GI) : SX := sSeq (cm5 G__law_term G__law_choice G__law_made) (cmt6 G__law_term G__law_choice G__law_made)
def cmt4 (G__law_term : GI) (G__law_choice : GI) (G__law_made : GI) : SX := sSeq (cm4 G__law_term G__law_choice G__law_made) (cmt5 G__law_term G__law_choice G__law_made)
def cmt3 (G__law_term : GI) (G__law_choice : GI) (G__law_made : GI) : SX := sSeq (cm3 G__law_term G__law_choice G__law_made) (cmt4 G__law_term G__law_choice G__law_made)
def cmt2 (G__law_term : GI) (G__law_choice : GI) (G__law_made : GI) : SX := sSeq (cm2 G__law_term G__law_choice G__law_made) (cmt3 G__law_term G__law_choice G__law_made)
def cmt1 (G__law_term : GI) (G__law_choice : GI) (G__law_made : GI) : SX := sSeq (cm1 G__law_term G__law_choice G__law_made) (cmt2 G__law_term G__law_choice G__law_made)
def cmt0 (G__law_term : GI) (G__law_choice : GI) (G__law_made : GI) : SX := sSeq (cm0 G__law_term G__law_choice G__law_made) (cmt1 G__law_term G__law_choice G__law_made)
theorem aok_num {k : Nat} {s : Str} (h : Sok s) : AOk k (s, [], .num 1) := ⟨h, by simp, by simp, Tm.up (e := .num 1) ⟨trivial, by simp [nd, Sz]⟩ k⟩
section
variable {k : Nat} {X Y Z : GI} {b : Str} {d : D} {as : List Arm} {c1 c2 c3 c4 c5 c6 c7 c8 c9 c10 c11 c12 c13 x14 y17 y18 y19 y20 y21 y22 y23 : Cell}
theorem cm4_ok (h : Stt d) (ha : ∀ a ∈ as, AOk k a) (h2 : 2 ≤ as.length) : ∃ (as' : List Arm) (d' : D), cm4 X Y Z [.io d, c1, c2, c3, c4, c5, c6, c7, c8, c9, c10, c11, c12, c13, x14, .dat (.str b), .own (.list (as.map armD)), y17, y18, y19, y20, y21, y22, y23] = some (.nx [.io d', c1, c2, c3, c4, c5, c6, c7, c8, c9, c10, c11, c12, c13, x14, .dat (.str b), .own (.list (as'.map armD)), y17, y18, y19, y20, y21, y22, y23]) ∧ Stt d' ∧ (∀ a ∈ as', AOk k a) ∧ 1 ≤ as'.length ∧ as'.length ≤ as.length := by
  obtain ⟨v, d1, e1, h1, p1, q1⟩ := next_ok h (lim := 20) (by decide)
  by_cases hv : v = 0
  · subst hv
    refine ⟨as.dropLast, d1, ?_, h1, fun a ha' => ha a (List.dropLast_subset as ha'), by simp; omega, by simp⟩
    have hlast : (as.map armD)[(as.map armD).length - 1]? = some (armD (as[as.length - 1]'(by omega))) := by
      rw [List.length_map, List.getElem?_map, List.getElem?_eq_getElem (by omega)]
      rfl
    have hd : (as.map armD).dropLast = as.dropLast.map armD := by rw [List.map_dropLast]
    have kp := fun cs => kPop_of (k := Cell.own) (i := 16) (cs := cs) hlast
    rw [hd] at kp
    generalize as.map armD = A at *
    generalize as.dropLast.map armD = A2 at *
    simp -implicitDefEqProofs [cm4, e1, kp]
  · have hv' : (v == 0) = false := by simp [hv]
    exact ⟨as, d1, by simp -implicitDefEqProofs [cm4, e1, hv'], h1, ha, by omega, Nat.le_refl _⟩
theorem cm5_ok (h : Stt d) (ha : ∀ a ∈ as, AOk k a) (h1 : 1 ≤ as.length) (h4 : as.length ≤ 4) (hb : b ∈ (["d", "e"] : List Str)) (h14 : kNo (some x14) = true) : ∃ (as' : List Arm) (d' : D) (y14 : Cell), cm5 X Y Z [.io d, c1, c2, c3, c4, c5, c6, c7, c8, c9, c10, c11, c12, c13, x14, .dat (.str b), .own (.list (as.map armD)), y17, y18, y19, y20, y21, y22, y23] = some (.nx [.io d', c1, c2, c3, c4, c5, c6, c7, c8, c9, c10, c11, c12, c13, y14, .dat (.str b), .own (.list (as'.map armD)), y17, y18, y19, y20, y21, y22, y23]) ∧ Stt d' ∧ (∀ a ∈ as', AOk k a) ∧ 1 ≤ as'.length ∧ as'.length ≤ 5 := by
  obtain ⟨v, d1, e1, s1, p1, q1⟩ := next_ok h (lim := 12) (by decide)
  by_cases hv : v = 0
  · subst hv
    obtain ⟨v2, d2, e2, s2, p2, q2⟩ := next_ok s1 (lim := 2) (by decide)
    obtain ⟨a, r, rfl⟩ : ∃ a r, as = a :: r := by
      cases as with
      | nil => simp at h1
      | cons a r => exact ⟨a, r, rfl⟩
    obtain ⟨m, gm, om⟩ : ∃ m : Str, atD [.str "One", .str "Leaf"] (if b = "e" then 1 else 0) = some (.str m) ∧ Sok m := by
      simp only [List.mem_cons, List.not_mem_nil, or_false] at hb
      rcases hb with rfl | rfl
      · exact ⟨"One", by rw [if_neg (by decide +kernel)]; rfl, nm_One⟩
      · exact ⟨"Leaf", by rw [if_pos rfl]; rfl, nm_Leaf⟩
    have vb : VS b := by
      simp only [List.mem_cons, List.not_mem_nil, or_false] at hb
      rcases hb with rfl | rfl <;> exact vs_lit _
    have ge : gEq (.str b) (.str "e") = some (.bool (b == "e"), false) := gEq_VS vb (vs_lit _)
    obtain ⟨x, hx, ea⟩ := at_map armD [a, (m, [], .num 1)] p2 q2
    have ox : AOk k x := by
      simp only [List.mem_cons, List.not_mem_nil, or_false] at hx
      rcases hx with rfl | rfl
      · exact ha _ List.mem_cons_self
      · exact aok_num om
    simp only [List.map_cons, List.map_nil] at ea
    obtain ⟨v3, d3, e3, s3, p3, q3⟩ := next_ok s2 (lim := ((a :: r).length : Int) + 1) (by omega)
    have ei : fIns v3 (armD x) (.list ((a :: r).map armD)) = some (.list (((a :: r).take v3.toNat ++ [x] ++ (a :: r).drop v3.toNat).map armD)) := by
      rw [fIns_of p3 (by omega) (by rw [List.length_map]; exact Nat.lt_of_lt_of_le (by omega : _ < 100) (by decide))]
      simp [List.map_take, List.map_drop]
    refine ⟨(a :: r).take v3.toNat ++ [x] ++ (a :: r).drop v3.toNat, d3, .dat (armD x), ?_, s3, fun y hy => ?_, by simp; omega, by simp at h4 ⊢; omega⟩
    · have a0 : atD ((a :: r).map armD) 0 = some (armD a) := by simp
      have hlen : ((a :: r).map armD).length = (a :: r).length := List.length_map ..
      have en : armD (m, [], .num 1) = .tuple [.str m, .tuple [], .tuple [.str "number", .int 1]] := by simp [armD, encE]
      rw [en] at ea
      generalize ((a :: r).take v3.toNat ++ [x] ++ (a :: r).drop v3.toNat).map armD = A2 at *
      generalize (a :: r).map armD = A at *
      generalize (a :: r).length = LN at *
      generalize armD a = AA at *
      generalize armD x = XX at *
      simp -implicitDefEqProofs [cm5, e1, a0, ge, gm, e2, ea, hlen, e3, ei, h14]
    · rcases List.mem_append.mp hy with hy | hy
      · rcases List.mem_append.mp hy with hy | hy
        · exact ha y (List.mem_of_mem_take hy)
        · rw [List.mem_singleton.mp hy]; exact ox
      · exact ha y (List.mem_of_mem_drop hy)
  · have hv' : (v == 0) = false := by simp [hv]
    exact ⟨as, d1, x14, by simp -implicitDefEqProofs [cm5, e1, hv'], s1, ha, h1, by omega⟩
end
end My
end
section
set_option Elab.async false
set_option linter.all false
set_option maxRecDepth 100000
set_option maxHeartbeats 8000000
namespace My
open PySem PySem.Spec PyProof.Rows L2 Qp
section
variable {k f : Nat} (IH : TermAt k f) (k7 : k ≤ 7)
include IH k7
variable {d : D} {es : List (D × D)} {l : List (Str × Kn)} {kind : Kn} {st : Bool} {other : Kn} (h : Stt d) (hp : Pl ["d", "e"] PNS es) (hl : LOk (LN (k + 1)) l) (ok : KOk kind) (oo : KOk other)
include h hp hl ok oo
theorem choice3 : CG k f d es l kind st 3 other := by
  have hl' : LOk (LN k) l := hl.mono (by have := LN_succ k7; omega)
  obtain ⟨v, d1, e1, h1, p1, q1⟩ := next_ok h (lim := 2) (by decide)
  obtain ⟨b, hb, eb⟩ := name_at (ns := ["d", "e"]) p1 q1
  obtain ⟨ms, ev, mo⟩ := hp.dt b hb
  have l2 := mo.l0
  have l4 := mo.ln
  have kb : KOk (0, b) := by
    refine ⟨Int.le_refl _, ?_⟩
    have : ∀ s ∈ (["d", "e"] : List Str), s ∈ BS := by decide +kernel
    exact this b hb
  obtain ⟨a, d2, e2, h2, ta⟩ := IH d1 es l (0, b) st h1 hp hl' kb
  obtain ⟨as1, d3, y14, y17, y18, y19, e3, h3, o3, n3, k14⟩ := arms_loop IH k7 (st := st) (a6 := .dat (.int 3)) (a7 := .dat (knD other)) (a8 := .dat (encE a)) (a15 := .dat (.str b)) hp hl ok ms [] d2 .no .no .no .no h2 mo.ok (by simp) (by simp; omega) rfl rfl rfl rfl
  rw [List.length_nil, Nat.zero_add] at n3
  obtain ⟨as2, d4, e4, h4, o4, n4, n4'⟩ := cm4_ok (X := F__law_term f) (Y := F__law_choice f) (Z := F__law_made f) (b := b) (c1 := .dat (.dict es)) (c2 := .dat (.list (l.map locD))) (c3 := .dat (knD kind)) (c4 := .dat (.int (k : Int))) (c5 := .dat (.bool st)) (c6 := .dat (.int 3)) (c7 := .dat (knD other)) (c8 := .dat (encE a)) (c9 := .no) (c10 := .no) (c11 := .no) (c12 := .no) (c13 := .no) (x14 := y14) (y17 := y17) (y18 := y18) (y19 := y19) (y20 := .no) (y21 := .no) (y22 := .no) (y23 := .no) h3 o3 (by omega)
  obtain ⟨as3, d5, z14, e5, h5, o5, n5, n5'⟩ := cm5_ok (X := F__law_term f) (Y := F__law_choice f) (Z := F__law_made f) (b := b) (c1 := .dat (.dict es)) (c2 := .dat (.list (l.map locD))) (c3 := .dat (knD kind)) (c4 := .dat (.int (k : Int))) (c5 := .dat (.bool st)) (c6 := .dat (.int 3)) (c7 := .dat (knD other)) (c8 := .dat (encE a)) (c9 := .no) (c10 := .no) (c11 := .no) (c12 := .no) (c13 := .no) (x14 := y14) (y17 := y17) (y18 := y18) (y19 := y19) (y20 := .no) (y21 := .no) (y22 := .no) (y23 := .no) h4 o4 n4 (by omega) hb k14
  refine ⟨.mat a (as3.map (·.1)) (as3.map (·.2.1)) (as3.map (·.2.2)), false, d5, ?_, h5, mat_tm ta o5 (by omega)⟩
  have hlen : (as3.map armD).length = as3.length := List.length_map ..
  have hz : ((as3.length : Int) == 0) = false := by simp; intro z; rw [z] at n5; simp at n5
  have gr : gRepL [.tuple [.str "Leaf", .tuple [], .tuple [.str "number", .int 1]]] 0 = some [] := rfl
  have ga : gAdd (.list (as3.map armD)) (.list []) = some (.list (as3.map armD), true) := by
    have := gAdd_ll (xs := as3.map armD) (ys := []) (Nat.le_trans (by rw [hlen]; simp; omega : _ ≤ 6) lim6)
    rwa [List.append_nil] at this
  have em : encE (.mat a (as3.map (·.1)) (as3.map (·.2.1)) (as3.map (·.2.2))) = .tuple [.str "match", encE a, .tuple (as3.map armD)] := by rw [arms_map]; simp only [encE]
  rw [em]
  simp only [List.map_cons, List.map_nil] at eb
  have cm_eq : ∀ X Y Z c, cct5 X Y Z c = kSeq (cct6 X Y Z) (kIf (cmt0 X Y Z) sNx (evT (evIxV gEq 6 (evC (.int 3))) c)) := fun X Y Z c => rfl
  unfold CC
  have gl2 : gLstD [.str "d", .str "e"] = some (.list [.str "d", .str "e"], true) := rfl
  rw [show knD (0, b) = .tuple [.int 0, .str b] from rfl] at e2
  simp only [List.map_nil] at e3
  generalize as1.map armD = A1 at *
  generalize as2.map armD = A2 at *
  generalize as3.map armD = A3 at *
  generalize ms.map mkrD = MS at *
  generalize l.map locD = L at *
  generalize knD other = K0 at *
  generalize knD kind = K1 at *
  simp -implicitDefEqProofs [cct2, cc2, cct3, cc3, cct4, cc4, cm_eq, cmt0, cm0, e1, eb, gl2, cmt1, cm1, e2, cmt2, cm2, cmt3, cm3, ev, e3, cmt4, e4, cmt5, e5, cmt6, cm6, hlen, hz, gr, ga]
end
end My
end
section
set_option Elab.async false
set_option linter.all false
set_option maxRecDepth 100000
set_option maxHeartbeats 8000000
namespace My
open PySem PySem.Spec PyProof.Rows L2 Qp
theorem encEs_app (a b : List E) : encEs a ++ encEs b = encEs (a ++ b) := by rw [encEs_map, encEs_map, encEs_map, List.map_append]
section
variable {k f : Nat} (IH : TermAt k f) (k7 : k ≤ 7)
include IH k7
variable {d : D} {es : List (D × D)} {l : List (Str × Kn)} {kind : Kn} {st : Bool} {other : Kn} (h : Stt d) (hp : Pl ["d", "e"] PNS es) (hl : LOk (LN (k + 1)) l) (ok : KOk kind) (oo : KOk other)
include h hp hl ok oo
omit IH k7 h hl in
theorem call_names {X Y Z : GI} {a0 a2 a4 a5 a6 a7 : Cell} : ∃ cs : List Str, loopC (gx 10) (W__law_choice_4 X Y Z) (C__law_choice_3 X Y Z) [10] ((["f", "g", "h", "k"] : List Str).map .str) [] [a0, .dat (.dict es), a2, .dat (knD kind), a4, a5, a6, a7, .no, .no, .no, .no, .no, .no, .no, .no, .no, .no, .no, .no, .no, .no, .no, .no] = some (cs.map .str, [a0, .dat (.dict es), a2, .dat (knD kind), a4, a5, a6, a7, .no, .no, .no, .no, .no, .no, .no, .no, .no, .no, .no, .no, .no, .no, .no, .no]) ∧ cs.length ≤ 4 ∧ ∀ s ∈ cs, s ∈ (["f", "g", "h", "k"] : List Str) := by
  have th : ∀ n ∈ (["f", "g", "h", "k"] : List Str), ThingAt es n := fun n h => hp.th n (by
    have : ∀ n ∈ (["f", "g", "h", "k"] : List Str), n ∈ PNS := by decide +kernel
    exact this n h)
  have hex : ∀ n : Str, ∃ k : Kn, n ∈ (["f", "g", "h", "k"] : List Str) → ∃ ks : List Kn, valD es (.inr n) = some (.tuple [.str (FORM n), .tuple (ks.map knD), knD k]) ∧ KOk k := fun n => by
    by_cases h : n ∈ (["f", "g", "h", "k"] : List Str)
    · obtain ⟨ks, k, e, _, o⟩ := th n h
      exact ⟨k, fun _ => ⟨ks, e, o⟩⟩
    · exact ⟨(0, "num"), fun z => absurd z h⟩
  obtain ⟨knd, hknd⟩ := Classical.skolem.mp hex
  have q := loopC_encF (gt := gx 10) (ft := W__law_choice_4 X Y Z) (fe := C__law_choice_3 X Y Z) (vs := [10]) (cs := [a0, .dat (.dict es), a2, .dat (knD kind), a4, a5, a6, a7, .no, .no, .no, .no, .no, .no, .no, .no, .no, .no, .no, .no, .no, .no, .no, .no]) (enc := PyData.str) (val := PyData.str) (keep := fun n => PyData.eqv (knD (knd n)) (knD kind)) ["f", "g", "h", "k"] (fun n hn => by
    refine ⟨_, false, by simp; rfl, ?_, fun _ => by simp [C__law_choice_3], by simp, by simp⟩
    obtain ⟨ks, e2, e3⟩ := hknd n hn
    have g := gEq_kn e3 ok
    generalize PyData.eqv (knD (knd n)) (knD kind) = bb at *
    generalize knD (knd n) = K1 at *
    generalize ks.map knD = KS at *
    generalize knD kind = K2 at *
    simp -implicitDefEqProofs [W__law_choice_4, e2, g]) [] (Nat.le_trans (by simp : _ ≤ 6) lim6)
  rw [List.nil_append] at q
  refine ⟨_, q, by have := List.length_filter_le (fun n => PyData.eqv (knD (knd n)) (knD kind)) (["f", "g", "h", "k"] : List Str); simpa using this, fun s hs => (List.mem_filter.mp hs).1⟩
theorem call_parts {X Y : GI} {a0 : D} {a3 a6 a7 a10 a20 : Cell} (h' : Stt a0) (ks : List Kn) (okk : ∀ k ∈ ks, KOk k) (hn : ks.length ≤ 5) :
    ∃ (ps : List E) (d' : D), loopC (gx 23) evYes (C__law_choice_5 (F__law_term f) X Y) [23] (ks.map knD) [] [.io a0, .dat (.dict es), .dat (.list (l.map locD)), a3, .dat (.int (k : Int)), .dat (.bool st), a6, a7, .no, .no, a10, .no, .no, .no, .no, .no, .no, .no, .no, .no, a20, .no, .no, .no] = some (encEs ps, [.io d', .dat (.dict es), .dat (.list (l.map locD)), a3, .dat (.int (k : Int)), .dat (.bool st), a6, a7, .no, .no, a10, .no, .no, .no, .no, .no, .no, .no, .no, .no, a20, .no, .no, .no]) ∧ Stt d' ∧ ps.length = ks.length ∧ ∀ p ∈ ps, Tm k p := by
  have hl' : LOk (LN k) l := hl.mono (by have := LN_succ k7; omega)
  obtain ⟨ds, cc, q1, ⟨d3, rfl, h3⟩, q3⟩ := loopC_io (gt := gx 23) (fe := C__law_choice_5 (F__law_term f) X Y) (vs := [23]) (fun _ cs => ∃ d', cs = [.io d', .dat (.dict es), .dat (.list (l.map locD)), a3, .dat (.int (k : Int)), .dat (.bool st), a6, a7, .no, .no, a10, .no, .no, .no, .no, .no, .no, .no, .no, .no, a20, .no, .no, .no] ∧ Stt d') (fun _ d => ∃ p, d = encE p ∧ Tm k p) knD ks 0 _ ⟨a0, rfl, h'⟩
    (fun j x cs hj ⟨d', hc, hs⟩ => by
      subst hc
      obtain ⟨p, d'', e, h', hp⟩ := IH d' es l x st hs hp hl' (okk x (List.mem_of_getElem? hj))
      refine ⟨_, false, encE p, [.io d'', .dat (.dict es), .dat (.list (l.map locD)), a3, .dat (.int (k : Int)), .dat (.bool st), a6, a7, .no, .no, a10, .no, .no, .no, .no, .no, .no, .no, .no, .no, a20, .no, .no, .dat (knD x)], by simp; rfl, ?_, by simp, ⟨d'', by simp, h'⟩, p, rfl, hp⟩
      generalize l.map locD = L at *
      generalize knD x = K1 at *
      simp -implicitDefEqProofs [C__law_choice_5, e]) [] (by rw [List.length_nil]; exact Nat.le_trans (show _ ≤ 6 by omega) lim6)
  obtain ⟨ps, rfl, hl, hr⟩ := paired_tm q3
  rw [List.nil_append] at q1
  exact ⟨ps, d3, q1, h3, hl, hr⟩
theorem choice4 : CG k f d es l kind st 4 other := by
  have hl' : LOk (LN k) l := hl.mono (by have := LN_succ k7; omega)
  have n1 : Tm k (.num 1) := Tm.up (e := .num 1) ⟨trivial, by simp [nd, Sz]⟩ k
  have n3 : Tm k (.num 3) := Tm.up (e := .num 3) ⟨trivial, by simp [nd, Sz]⟩ k
  obtain ⟨v, d1, e1, h1, p1, q1⟩ := next_ok h (lim := 20) (by decide)
  by_cases hv : v = 0
  · subst hv
    obtain ⟨v2, d2, e2, h2, p2, q2⟩ := next_ok h1 (lim := 5) (by decide)
    obtain ⟨s, hs, ea⟩ := name_at (ns := ["a", "b", "c", "v", "d"]) p2 q2
    have so : Sok s := by
      have : ∀ s ∈ (["a", "b", "c", "v", "d"] : List Str), s ∈ NMS := by decide +kernel
      exact this s hs
    simp only [List.map_cons, List.map_nil] at ea
    obtain ⟨v3, d3, e3, h3, p3, q3⟩ := next_ok h2 (lim := 2) (by decide)
    have gl : gLstD [.str "a", .str "b", .str "c", .str "v", .str "d"] = some (.list [.str "a", .str "b", .str "c", .str "v", .str "d"], true) := rfl
    have gt : gTupD [.tuple [.str "number", .int 1]] = some (.tuple [.tuple [.str "number", .int 1]], false) := rfl
    unfold CG CC
    generalize l.map locD = L at *
    generalize knD kind = K1 at *
    generalize knD other = K2 at *
    have : v3 = 0 ∨ v3 = 1 := by omega
    rcases this with rfl | rfl
    · have gr : gRepTA (.tuple [.tuple [.str "number", .int 1]]) (.int 0) = some (.tuple [], false) := rfl
      exact ⟨.call s [], false, d3, by simp -implicitDefEqProofs [cct2, cc2, cct3, cc3, cct4, cc4, cct5, cc5, cct6, cc6, e1, gl, e2, ea, gt, e3, gr, encE, encEs], h3, ⟨⟨so, by simp, by simp⟩, by simp only [nd, nds, Sz]; omega⟩⟩
    · have gr : gRepTA (.tuple [.tuple [.str "number", .int 1]]) (.int 1) = some (.tuple [.tuple [.str "number", .int 1]], false) := rfl
      exact ⟨.call s [.num 1], false, d3, by simp -implicitDefEqProofs [cct2, cc2, cct3, cc3, cct4, cc4, cct5, cc5, cct6, cc6, e1, gl, e2, ea, gt, e3, gr, encE, encEs], h3, ⟨⟨so, by simp, by intro x hx; rw [List.mem_singleton.mp hx]; exact n1.ok⟩, by simp only [nd, nds, Sz]; omega⟩⟩
  · have hv' : (v == 0) = false := by simp [hv]
    obtain ⟨cs, qc, c4, csin⟩ := call_names hp ok oo (X := F__law_term f) (Y := F__law_choice f) (Z := F__law_made f) (a0 := .io d1) (a2 := .dat (.list (l.map locD))) (a4 := .dat (.int (k : Int))) (a5 := .dat (.bool st)) (a6 := .dat (.int 4)) (a7 := .dat (knD other))
    have gl : gLstD [.str "f", .str "g", .str "h", .str "k"] = some (.list ((["f", "g", "h", "k"] : List Str).map .str), true) := rfl
    have hlen : (cs.map PyData.str).length = cs.length := List.length_map ..
    by_cases hc : cs.length = 0
    · obtain ⟨e, fr, d2, e2, h2, t2⟩ := plain_ok h1 ok
      have hz : ((cs.length : Int) == 0) = true := by simp; exact List.length_eq_zero_iff.mp hc
      unfold CG CC
      generalize l.map locD = L at *
      generalize cs.map PyData.str = CS at *
      generalize (["f", "g", "h", "k"] : List Str).map PyData.str = FS at *
      generalize knD kind = K1 at *
      generalize knD other = K2 at *
      exact ⟨e, _, d2, by simp -implicitDefEqProofs [cct2, cc2, cct3, cc3, cct4, cc4, cct5, cc5, cct6, cc6, e1, hv', gl, cct7, cc7, qc, cct8, cc8, hlen, hc, hz, e2]; rfl, h2, t2.up (k + 1)⟩
    · have hz : ((cs.length : Int) == 0) = false := by simp; intro z; exact hc (by rw [z]; rfl)
      obtain ⟨v2, d2, e2, h2, p2, q2⟩ := next_ok h1 (lim := (cs.length : Int)) (by omega)
      obtain ⟨s, hs, ea⟩ := name_at p2 q2
      have sf := csin s hs
      have so : Sok s := by
        have : ∀ s ∈ (["f", "g", "h", "k"] : List Str), s ∈ NMS := by decide +kernel
        exact this s sf
      obtain ⟨ks, kk, ev, kso, kko⟩ := hp.th s (by
        have : ∀ s ∈ (["f", "g", "h", "k"] : List Str), s ∈ PNS := by decide +kernel
        exact this s sf)
      obtain ⟨ps, d3, e3, h3, l3, t3⟩ := call_parts IH k7 h hp hl ok oo (st := st) (X := F__law_choice f) (Y := F__law_made f) (a3 := .dat (knD kind)) (a6 := .dat (.int 4)) (a7 := .dat (knD other)) (a10 := .dat (.str s)) (a20 := .own (.list (cs.map .str))) h2 ks kso.ok kso.ln
      obtain ⟨v4, d4, e4, h4, p4, q4⟩ := next_ok h3 (lim := 30) (by decide)
      have kl := kso.ln
      by_cases hv4 : v4 = 0
      · subst hv4
        refine ⟨.call s (ps ++ [.num 3]), false, d4, ?_, h4, ⟨⟨so, by simp; omega, fun x hx => ?_⟩, ?_⟩⟩
        · have gr : gRepL [.tuple [.str "number", .int 3]] 1 = some [.tuple [.str "number", .int 3]] := rfl
          have ga : gAdd (.list (encEs ps)) (.list [.tuple [.str "number", .int 3]]) = some (.list (encEs (ps ++ [.num 3])), true) := by
            rw [gAdd_ll (Nat.le_trans (by rw [encEs_len]; simp; omega : _ ≤ 6) lim6), ← encEs_app]
            simp only [encEs, encE]
          unfold CC
          rw [show encE (.call s (ps ++ [.num 3])) = .tuple [.str "call", .str s, .tuple (encEs (ps ++ [.num 3]))] by simp only [encE]]
          generalize encEs (ps ++ [.num 3]) = EP at *
          generalize l.map locD = L at *
          generalize cs.map PyData.str = CS at *
          generalize (["f", "g", "h", "k"] : List Str).map PyData.str = FS at *
          generalize knD kind = K1 at *
          generalize knD other = K2 at *
          generalize knD kk = K3 at *
          generalize ks.map knD = KS at *
          generalize encEs ps = PS at *
          simp -implicitDefEqProofs [cct2, cc2, cct3, cc3, cct4, cc4, cct5, cc5, cct6, cc6, e1, hv', gl, cct7, cc7, qc, cct8, cc8, hlen, hc, hz, cct9, cc9, e2, ea, cct10, cc10, ev, e3, cct11, cc11, e4, gr, ga]
        · rcases List.mem_append.mp hx with hx | hx
          · exact (t3 x hx).ok
          · rw [List.mem_singleton.mp hx]; exact n3.ok
        · have := nds_le6 (k := k) (ps := ps ++ [.num 3]) (fun p hp => by
            rcases List.mem_append.mp hp with hp | hp
            · exact t3 p hp
            · rw [List.mem_singleton.mp hp]; exact n3) (by simp; omega)
          simp only [nd, Sz]
          omega
      · have hv4' : (v4 == 0) = false := by simp [hv4]
        refine ⟨.call s ps, false, d4, ?_, h4, ⟨⟨so, by omega, fun x hx => (t3 x hx).ok⟩, ?_⟩⟩
        · have gr : gRepL [.tuple [.str "number", .int 3]] 0 = some [] := rfl
          have ga : gAdd (.list (encEs ps)) (.list []) = some (.list (encEs ps), true) := by
            rw [gAdd_ll (Nat.le_trans (by rw [encEs_len]; simp; omega : _ ≤ 6) lim6), List.append_nil]
          unfold CC
          rw [show encE (.call s ps) = .tuple [.str "call", .str s, .tuple (encEs ps)] by simp only [encE]]
          generalize l.map locD = L at *
          generalize cs.map PyData.str = CS at *
          generalize (["f", "g", "h", "k"] : List Str).map PyData.str = FS at *
          generalize knD kind = K1 at *
          generalize knD other = K2 at *
          generalize knD kk = K3 at *
          generalize ks.map knD = KS at *
          generalize encEs ps = PS at *
          simp -implicitDefEqProofs [cct2, cc2, cct3, cc3, cct4, cc4, cct5, cc5, cct6, cc6, e1, hv', gl, cct7, cc7, qc, cct8, cc8, hlen, hc, hz, cct9, cc9, e2, ea, cct10, cc10, ev, e3, cct11, cc11, e4, hv4, gr, ga]
        · have := nds_le6 t3 (by omega)
          simp only [nd, Sz]
          omega
end
theorem choice_ok {k f : Nat} (IH : TermAt k f) (k7 : k ≤ 7) : ChoiceAt k (f + 1) := by
  intro d es l kind st h hp hl ok
  show ∃ e fr d', runI 6 18 (b__law_choice (F__law_term f) (F__law_choice f) (F__law_made f)) d [_, _, _, _, _] = _ ∧ _
  rw [cc_eq]
  obtain ⟨v, d1, e1, h1, p1, q1⟩ := next_ok h (lim := 5) (by decide)
  obtain ⟨other, d2, e2, h2, oo⟩ := drawn_ok h1
  have pre : runI 6 18 (cct0 (F__law_term f) (F__law_choice f) (F__law_made f)) d [.dict es, .list (l.map locD), knD kind, .int (k : Int), .bool st] = outI (cct2 (F__law_term f) (F__law_choice f) (F__law_made f) (CC d2 es l kind k st v other)) := by
    unfold runI CC
    generalize l.map locD = L at *
    generalize knD kind = K1 at *
    generalize knD other = K2 at *
    simp -implicitDefEqProofs [cct0, cc0, e1, cct1, cc1, e2]
  rw [pre]
  have : v = 0 ∨ v = 1 ∨ v = 2 ∨ v = 3 ∨ v = 4 := by omega
  rcases this with rfl | rfl | rfl | rfl | rfl
  · exact choice0 IH k7 h2 hp hl ok oo
  · exact choice1 IH k7 h2 hp hl ok oo
  · exact choice2 IH k7 h2 hp hl ok oo
  · exact choice3 IH k7 h2 hp hl ok oo
  · exact choice4 IH k7 h2 hp hl ok oo
theorem term_at : ∀ k, k ≤ 7 → ∀ f, 2 * k + 1 ≤ f → TermAt k f := by
  intro k
  induction k with
  | zero =>
    intro _ f hf
    obtain ⟨g, rfl⟩ : ∃ g, f = g + 1 := ⟨f - 1, by omega⟩
    exact term_ok (.inl rfl) (by omega)
  | succ k ih =>
    intro hk f hf
    obtain ⟨g, rfl⟩ : ∃ g, f = g + 1 + 1 := ⟨f - 2, by omega⟩
    have t := ih (by omega) g (by omega)
    exact term_ok (.inr ⟨k, rfl, choice_ok t (by omega), made_ok t⟩) (by omega)
end My
end
section
set_option Elab.async false
set_option linter.all false
set_option maxRecDepth 100000
set_option maxHeartbeats 8000000
namespace My
open PySem PySem.Spec PyProof.Rows L2 Qp
def df0 : SX := sAsg 3 (ev2 gIx (evIxV gDget 1 (evVar 2)) (evC (.int 0)))
def df1 : SX := sIf (evT (evIxV gEq 3 (evC (.str "data")))) (sRet (evA gTupD (evCons (evC (.str "data")) (evCons (evVar 2) (evCons (ev2 gIx (evIxV gDget 1 (evVar 2)) (evC (.int 1))) (evNil)))))) (sNx)
def df2 : SX := sIf (evT (evIxV gEq 3 (evC (.str "view")))) (sRet (evA gTupD (evCons (evC (.str "view")) (evCons (evVar 2) (evCons (evCI 6 (F__law_term 12) 0 (evCons (evVar 1) (evCons (evA gLstD (evNil)) (evCons (ev2 gIx (evIxV gDget 1 (evVar 2)) (evC (.int 2))) (evCons (evC (.int 3)) (evCons (evC (.bool false)) (evNil))))))) (evNil)))))) (sNx)
def df3 : SX := sIf (evT (evIxV gEq 3 (evC (.str "cell")))) (sSeq (sAsg 4 (ev2 gIx (evA gLstD (evCons (evC .none) (evCons (evC .none) (evCons (evC (.str "f")) (evCons (evC (.str "g")) (evCons (evC (.str "v")) (evCons (evC (.str "a")) (evCons (evC (.str "b")) (evNil))))))))) (evCI 2 (F__law_next) 0 (evCons (evC (.int 7)) (evNil)))))
  (sSeq (sAsg 5 (ev2 gGt (evCI 2 (F__law_next) 0 (evCons (evC (.int 4)) (evNil))) (evC (.int 0))))
  (sRet (evA gTupD (evCons (evC (.str "cell")) (evCons (evVar 2) (evCons (ev2 gIx (evIxV gDget 1 (evVar 2)) (evC (.int 2))) (evCons (evCI 6 (F__law_term 12) 0 (evCons (evVar 1) (evCons (evA gLstD (evNil)) (evCons (ev2 gIx (evIxV gDget 1 (evVar 2)) (evC (.int 2))) (evCons (evC (.int 2)) (evCons (evVar 5) (evNil))))))) (evCons (evVar 4) (evNil)))))))))) (sNx)
def df4 : SX := sAsg 6 (evCI 2 (F__law_names) 0 (evCons (evA (gOne gLen) (evCons (ev2 gIx (evIxV gDget 1 (evVar 2)) (evC (.int 1))) (evNil))) (evNil)))
def df5 : SX := sAsg 7 (evLc [10] (ixR1 (evCons (evV1 gLen 6) (evNil))) (gx 10) (evYes) (C__law_definition_1))
def df6 : SX := sIf (evT (evIxV gEq 3 (evC (.str "fun")))) (sRet (evA gTupD (evCons (evC (.str "fun")) (evCons (evVar 2) (evCons (evVar 6) (evCons (evCI 6 (F__law_term 12) 0 (evCons (evVar 1) (evCons (evVar 7) (evCons (ev2 gIx (evIxV gDget 1 (evVar 2)) (evC (.int 2))) (evCons (evC (.int 3)) (evCons (ev2 gGt (evCI 2 (F__law_next) 0 (evCons (evC (.int 3)) (evNil))) (evC (.int 0))) (evNil))))))) (evNil))))))) (sNx)
def df7 : SX := sAsg 8 (evA gLstD (evNil))
def df8 : SX := sFor (ixSeq (ev2 gIx (evA gLstD (evCons (evA gLstD (evCons (evC (.str "c")) (evNil))) (evCons (evA gLstD (evCons (evC (.str "m")) (evNil))) (evCons (evA gLstD (evCons (evC (.str "c")) (evCons (evC (.str "m")) (evNil)))) (evCons (evA gLstD (evCons (evC (.str "m")) (evCons (evC (.str "m")) (evNil)))) (evCons (evA gLstD (evCons (evC (.str "v")) (evNil))) (evCons (evA gLstD (evNil)) (evCons (evA gLstD (evCons (evC (.str "m")) (evCons (evC (.str "c")) (evNil)))) (evNil))))))))) (evCI 2 (F__law_next) 0 (evCons (evC (.int 7)) (evNil))))) (gx 9) (L__law_definition_2)
def df9 : SX := sRet (evA gTupD (evCons (evC (.str "act")) (evCons (evVar 2) (evCons (evVar 6) (evCons (evV1 gTuple 8) (evCons (evCI 6 (F__law_term 12) 0 (evCons (evVar 1) (evCons (evVar 7) (evCons (ev2 gIx (evIxV gDget 1 (evVar 2)) (evC (.int 2))) (evCons (evC (.int 2)) (evCons (evC (.bool false)) (evNil))))))) (evNil)))))))
def dft9 : SX := df9
def dft8 : SX := sSeq (df8) (dft9)
def dft7 : SX := sSeq (df7) (dft8)
def dft6 : SX := sSeq (df6) (dft7)
def dft5 : SX := sSeq (df5) (dft6)
def dft4 : SX := sSeq (df4) (dft5)
def dft3 : SX := sSeq (df3) (dft4)
def dft2 : SX := sSeq (df2) (dft3)
def dft1 : SX := sSeq (df1) (dft2)
def dft0 : SX := sSeq (df0) (dft1)
theorem df_eq : b__law_definition = dft0 := rfl
theorem Tm.eg {k : Nat} {e : E} (h : Tm k e) (hk : k ≤ 3) : EG e := by
  have m : ∀ k, k ≤ 3 → Sz k ≤ SZ := by decide
  exact ⟨h.ok.up (by omega), Nat.le_trans h.sz (m k hk)⟩
theorem bs_or {s : Str} (h : s ∈ BS) : PLN.contains s = true ∨ Sok s := by
  have : ∀ s ∈ BS, PLN.contains s = true ∨ s ∈ NMS := by decide +kernel
  exact this s h
def PlanE (es : List (D × D)) : Prop := Pl ["d", "e"] PNS es
theorem df_data {d : D} {es : List (D × D)} {n : Str} (h : Stt d) (hp : Pl ["d", "e"] PNS es) (hn : n ∈ (["d", "e"] : List Str)) : ∃ df fr d', F__law_definition d [.dict es, .str n] = some (dfD df, fr, d') ∧ Stt d' ∧ DOk df := by
  obtain ⟨ms, ev, mo⟩ := hp.dt n hn
  have so : Sok n := by
    have : ∀ s ∈ (["d", "e"] : List Str), s ∈ NMS := by decide +kernel
    exact this n hn
  refine ⟨.data n ms, false, d, ?_, h, so, by have := mo.ln; omega, fun p hp => ?_⟩
  · show runI 3 8 b__law_definition d [_, _] = _
    rw [df_eq]
    unfold runI
    simp only [dfD]
    generalize ms.map mkrD = MS at *
    simp -implicitDefEqProofs [dft0, df0, ev, dft1, df1]
  · obtain ⟨h1, h2, h3⟩ := mo.ok p hp
    exact ⟨h1, by omega, fun k hk => bs_or (h3 k hk).bs⟩
theorem nil_map {α β : Type} (f : α → β) : [].map f = [] := rfl
theorem pns_sok {n : Str} (h : n ∈ PNS) : Sok n := by
  have : ∀ s ∈ PNS, s ∈ NMS := by decide +kernel
  exact this n h
theorem df_view {d : D} {es : List (D × D)} {n : Str} (h : Stt d) (hp : Pl ["d", "e"] PNS es) (hn : n ∈ (["v", "w"] : List Str)) : ∃ df fr d', F__law_definition d [.dict es, .str n] = some (dfD df, fr, d') ∧ Stt d' ∧ DOk df := by
  have hn' : n ∈ PNS := by
    have : ∀ s ∈ (["v", "w"] : List Str), s ∈ PNS := by decide +kernel
    exact this n hn
  obtain ⟨ks, k, ev, kso, ko⟩ := hp.th n hn'
  rw [form_v hn] at ev
  obtain ⟨e, d1, e1, h1, t1⟩ := term_at 3 (by omega) 12 (by omega) d es [] k false h hp ⟨by simp, by simp⟩ ko
  refine ⟨.view n e, false, d1, ?_, h1, pns_sok hn', t1.eg (by omega)⟩
  show runI 3 8 b__law_definition d [_, _] = _
  rw [df_eq]
  unfold runI
  simp only [dfD]
  rw [nil_map] at e1
  generalize ks.map knD = KS at *
  generalize knD k = K at *
  simp -implicitDefEqProofs at e1
  simp -implicitDefEqProofs [dft0, df0, ev, dft1, df1, dft2, df2, e1]
theorem df_cell {d : D} {es : List (D × D)} {n : Str} (h : Stt d) (hp : Pl ["d", "e"] PNS es) (hn : n ∈ (["c", "m"] : List Str)) : ∃ df fr d', F__law_definition d [.dict es, .str n] = some (dfD df, fr, d') ∧ Stt d' ∧ DOk df := by
  have hn' : n ∈ PNS := by
    have : ∀ s ∈ (["c", "m"] : List Str), s ∈ PNS := by decide +kernel
    exact this n hn
  obtain ⟨ks, k, ev, kso, ko⟩ := hp.th n hn'
  rw [form_c hn] at ev
  obtain ⟨v, d1, e1, h1, p1, q1⟩ := next_ok h (lim := 7) (by decide)
  obtain ⟨t, ht, ea⟩ := at_map optD [none, none, some "f", some "g", some "v", some "a", some "b"] p1 q1
  have to : ∀ x, t = some x → Sok x := by
    intro x hx
    subst hx
    have : ∀ s ∈ (["f", "g", "v", "a", "b"] : List Str), s ∈ NMS := by decide +kernel
    refine this x ?_
    simpa using ht
  obtain ⟨v2, d2, e2, h2, p2, q2⟩ := next_ok h1 (lim := 4) (by decide)
  obtain ⟨e, d3, e3, h3, t3⟩ := term_at 2 (by omega) 12 (by omega) d2 es [] k (decide (0 < v2)) h2 hp ⟨by simp, by simp⟩ ko
  refine ⟨.cell n k e t, false, d3, ?_, h3, pns_sok hn', bs_or ko.bs, t3.eg (by omega), to⟩
  show runI 3 8 b__law_definition d [_, _] = _
  rw [df_eq]
  unfold runI
  simp only [dfD]
  rw [nil_map] at e3
  generalize ks.map knD = KS at *
  generalize knD k = K at *
  simp only [List.map_cons, List.map_nil, optD] at ea
  have gl : gLstD [.none, .none, .str "f", .str "g", .str "v", .str "a", .str "b"] = some (.list [.none, .none, .str "f", .str "g", .str "v", .str "a", .str "b"], true) := rfl
  simp -implicitDefEqProofs at e3
  cases t with
  | none =>
    simp only [optD] at ea ⊢
    simp -implicitDefEqProofs [dft0, df0, ev, dft1, df1, dft2, df2, dft3, df3, gl, e1, ea, e2, e3]
  | some t =>
    simp only [optD] at ea ⊢
    simp -implicitDefEqProofs [dft0, df0, ev, dft1, df1, dft2, df2, dft3, df3, gl, e1, ea, e2, e3]
theorem comp_df {es : List (D × D)} {n : Str} {F : D} {k : Kn} {ns : List Str} {ks : List Kn} (ev : valD es (.inr n) = some (.tuple [F, .tuple (ks.map knD), knD k])) (h : ns.length = ks.length) (hn : ks.length ≤ 5) {a0 a3 a4 a5 a7 a8 a9 : Cell} :
    loopC (gx 10) evYes C__law_definition_1 [10] (rngD 0 ks.length) [] [a0, .dat (.dict es), .dat (.str n), a3, a4, a5, .dat (.tuple (ns.map .str)), a7, a8, a9, .no]
      = some ((ns.zip ks).map locD, [a0, .dat (.dict es), .dat (.str n), a3, a4, a5, .dat (.tuple (ns.map .str)), a7, a8, a9, .no]) := by
  have q := loopC_enc (gt := gx 10) (fe := C__law_definition_1) (vs := [10]) (cs := [a0, .dat (.dict es), .dat (.str n), a3, a4, a5, .dat (.tuple (ns.map .str)), a7, a8, a9, .no]) (enc := fun i : Nat => PyData.int (i : Int)) (val := fun i => .tuple [.str (ns.getD i ""), knD (ks.getD i (0, ""))]) (List.range ks.length) (fun i hi => by
    have hi := List.mem_range.mp hi
    refine ⟨_, false, by simp; rfl, ?_, by simp, by simp⟩
    have e1 : atD (ns.map PyData.str) (i : Int) = some (.str (ns.getD i "")) := by
      rw [atD_of (by omega) (by rw [List.length_map]; omega), Int.toNat_natCast, List.getElem?_map, List.getD_eq_getElem?_getD, List.getElem?_eq_getElem (by omega)]
      rfl
    have e2 : atD (ks.map knD) (i : Int) = some (knD (ks.getD i (0, ""))) := by
      rw [atD_of (by omega) (by rw [List.length_map]; omega), Int.toNat_natCast, List.getElem?_map, List.getD_eq_getElem?_getD, List.getElem?_eq_getElem (by omega)]
      rfl
    generalize ns.map PyData.str = N at *
    generalize ks.map knD = K at *
    generalize knD (ks.getD i (0, "")) = kk at *
    generalize knD k = k2 at *
    simp -implicitDefEqProofs [C__law_definition_1, e1, ev, e2]) (by rw [List.length_range]; exact Nat.le_trans (show _ ≤ 6 by omega) lim6)
  rw [rngD_map, q]
  congr 2
  refine List.ext_getElem (by simp; omega) fun i h1 h2 => ?_
  rw [List.length_map, List.length_range] at h1
  rw [List.getElem_map, List.getElem_map, List.getElem_range, List.getElem_zip]
  show PyData.tuple [.str (ns.getD i ""), knD (ks.getD i (0, ""))] = .tuple [.str (ns[i]'(by omega)), knD (ks[i]'h1)]
  rw [List.getD_eq_getElem?_getD, List.getElem?_eq_getElem (by omega), List.getD_eq_getElem?_getD, List.getElem?_eq_getElem h1]
  rfl
theorem df_fun {d : D} {es : List (D × D)} {n : Str} (h : Stt d) (hp : Pl ["d", "e"] PNS es) (hn : n ∈ (["f", "g", "h", "k"] : List Str)) : ∃ df fr d', F__law_definition d [.dict es, .str n] = some (dfD df, fr, d') ∧ Stt d' ∧ DOk df := by
  have hn' : n ∈ PNS := by
    have : ∀ s ∈ (["f", "g", "h", "k"] : List Str), s ∈ PNS := by decide +kernel
    exact this n hn
  obtain ⟨ks, k, ev, kso, ko⟩ := hp.th n hn'
  rw [form_f hn] at ev
  have kl := kso.ln
  obtain ⟨ns, fr, d1, e1, h1, n1, l1⟩ := names_ok' h (n := (ks.length : Int)) (by omega) (by omega)
  have l1' : ns.length = ks.length := by omega
  have zl := zip_loc l1'
  have lo : LOk (LN 3) (ns.zip ks) := ⟨by have := List.length_zip (l₁ := ns) (l₂ := ks); unfold LN; omega, fun q hq => ⟨n1.ok _ (zl q hq).1, kso.ok _ (zl q hq).2⟩⟩
  have qc := comp_df ev l1' kl (a0 := .io d1) (a3 := .dat (.str "fun")) (a4 := .no) (a5 := .no) (a7 := .no) (a8 := .no) (a9 := .no)
  obtain ⟨v2, d2, e2, h2, p2, q2⟩ := next_ok h1 (lim := 3) (by decide)
  obtain ⟨e, d3, e3, h3, t3⟩ := term_at 3 (by omega) 12 (by omega) d2 es (ns.zip ks) k (decide (0 < v2)) h2 hp lo ko
  refine ⟨.fn n ns e, false, d3, ?_, h3, pns_sok hn', n1.ln, t3.eg (by omega)⟩
  show runI 3 8 b__law_definition d [_, _] = _
  rw [df_eq]
  unfold runI
  simp only [dfD]
  have hk := List.length_map (as := ks) (f := knD)
  have hk2 := List.length_map (as := ns) (f := PyData.str)
  rw [l1'] at hk2
  have hsm : Qp.small ((ks.length : Nat) : Int) = true := by unfold Qp.small; simp; omega
  have r1 : ∀ c : En, kR1 (some ([PyData.int ((ks.length : Nat) : Int)], c)) = some (rngD 0 ks.length, c) := fun c => by rw [kR1_of hsm]; rfl
  generalize (ns.zip ks).map locD = ZL at *
  generalize ns.map PyData.str = N at *
  generalize ks.map knD = KS at *
  generalize knD k = K at *
  simp -implicitDefEqProofs at e3
  simp -implicitDefEqProofs [dft0, df0, ev, dft1, df1, dft2, df2, dft3, df3, dft4, df4, hk, e1, dft5, df5, hk2, r1, qc, dft6, df6, e2, e3]
end My
end
section
set_option Elab.async false
set_option linter.all false
set_option maxRecDepth 100000
set_option maxHeartbeats 8000000
namespace My
open PySem PySem.Spec PyProof.Rows L2 Qp
theorem fAppSet {ss : List (Str × E)} {p : Str × E} (h : ss.length ≤ 100) : fApp (setD p) (.list (ss.map setD)) = some (.list ((ss ++ [p]).map setD)) := by
  rw [fApp_of (by rw [List.length_map]; exact Nat.lt_of_lt_of_le (by omega : _ < 200) (by decide)), List.map_append]
  rfl
theorem act_loop {es : List (D × D)} (hp : Pl ["d", "e"] PNS es) {l : List (Str × Kn)} (lo : LOk (LN 2) l) {n : Str} {a3 a4 a5 a6 : Cell} : ∀ (cs : List Str) (d : D) (ss : List (Str × E)) (x7 x9 : Cell), Stt d → (∀ c ∈ cs, c ∈ (["c", "m", "v"] : List Str)) → ss.length + cs.length ≤ 10 → (∀ p ∈ ss, Sok p.1 ∧ EG p.2) → (x7 = .own (.list (l.map locD)) ∨ x7 = .dat (.list (l.map locD))) → kNo (some x9) = true →
    ∃ (ss' : List (Str × E)) (d' : D) (y7 y9 : Cell), loopF (gx 9) L__law_definition_2 (cs.map .str) [.io d, .dat (.dict es), .dat (.str n), a3, a4, a5, a6, x7, .own (.list (ss.map setD)), x9, .no] = some (.nx [.io d', .dat (.dict es), .dat (.str n), a3, a4, a5, a6, y7, .own (.list (ss'.map setD)), y9, .no]) ∧ Stt d' ∧ ss'.length = ss.length + cs.length ∧ (∀ p ∈ ss', Sok p.1 ∧ EG p.2) ∧ (y7 = .own (.list (l.map locD)) ∨ y7 = .dat (.list (l.map locD)))
  | [], d, ss, x7, x9, h, _, _, ho, h7, _ => ⟨ss, d, x7, x9, by simp, h, by simp, ho, h7⟩
  | c :: r, d, ss, x7, x9, h, hc, hl, ho, h7, h9 => by
    rw [List.length_cons] at hl
    have c1 := hc c List.mem_cons_self
    obtain ⟨ks, k, ev, kso, ko⟩ := hp.th c (by
      have : ∀ s ∈ (["c", "m", "v"] : List Str), s ∈ PNS := by decide +kernel
      exact this c c1)
    have so : Sok c := by
      have : ∀ s ∈ (["c", "m", "v"] : List Str), s ∈ NMS := by decide +kernel
      exact this c c1
    obtain ⟨e, d1, e1, h1, t1⟩ := term_at 2 (by omega) 12 (by omega) d es l k false h hp lo ko
    have ea := fAppSet (ss := ss) (p := (c, e)) (by omega)
    obtain ⟨ss', d', y7, y9, q, a1, a2, a3', a4'⟩ := act_loop hp lo (n := n) (a3 := a3) (a4 := a4) (a5 := a5) (a6 := a6) r d1 (ss ++ [(c, e)]) (.dat (.list (l.map locD))) (.dat (.str c)) h1 (fun x hx => hc x (List.mem_cons_of_mem _ hx)) (by simp; omega) (fun p hp => by
      rcases List.mem_append.mp hp with hp | hp
      · exact ho p hp
      · rw [List.mem_singleton.mp hp]; exact ⟨so, t1.eg (by omega)⟩) (.inr rfl) rfl
    refine ⟨ss', d', y7, y9, ?_, a1, by rw [a2]; simp; omega, a3', a4'⟩
    rw [List.map_cons, loopF_step (c1 := [.io d, .dat (.dict es), .dat (.str n), a3, a4, a5, a6, x7, .own (.list (ss.map setD)), .dat (.str c), .no]) (c2 := [.io d1, .dat (.dict es), .dat (.str n), a3, a4, a5, a6, .dat (.list (l.map locD)), .own (.list ((ss ++ [(c, e)]).map setD)), .dat (.str c), .no]) (by simp [h9]) ?_, q]
    simp -implicitDefEqProofs at e1
    simp only [setD] at ea
    clear q
    generalize (ss ++ [(c, e)]).map setD = S2 at *
    generalize ss.map setD = S1 at *
    generalize l.map locD = L at *
    generalize ks.map knD = KS at *
    generalize knD k = K at *
    rcases h7 with rfl | rfl
    · simp -implicitDefEqProofs [L__law_definition_2, ev, e1, ea]
    · simp -implicitDefEqProofs [L__law_definition_2, ev, e1, ea]
def CLS : List (List Str) := [["c"], ["m"], ["c", "m"], ["m", "m"], ["v"], [], ["m", "c"]]
def clD (l : List Str) : D := .list (l.map .str)
theorem df_act {d : D} {es : List (D × D)} {n : Str} (h : Stt d) (hp : Pl ["d", "e"] PNS es) (hn : n ∈ (["a", "b"] : List Str)) : ∃ df fr d', F__law_definition d [.dict es, .str n] = some (dfD df, fr, d') ∧ Stt d' ∧ DOk df := by
  have hn' : n ∈ PNS := by
    have : ∀ s ∈ (["a", "b"] : List Str), s ∈ PNS := by decide +kernel
    exact this n hn
  obtain ⟨ks, k, ev, kso, ko⟩ := hp.th n hn'
  rw [form_a hn] at ev
  have kl := kso.ln
  obtain ⟨ns, fr, d1, e1, h1, n1, l1⟩ := names_ok' h (n := (ks.length : Int)) (by omega) (by omega)
  have l1' : ns.length = ks.length := by omega
  have zl := zip_loc l1'
  have lo : LOk (LN 2) (ns.zip ks) := ⟨by have := List.length_zip (l₁ := ns) (l₂ := ks); unfold LN; omega, fun q hq => ⟨n1.ok _ (zl q hq).1, kso.ok _ (zl q hq).2⟩⟩
  have qc := comp_df ev l1' kl (a0 := .io d1) (a3 := .dat (.str "act")) (a4 := .no) (a5 := .no) (a7 := .no) (a8 := .no) (a9 := .no)
  obtain ⟨v2, d2, e2, h2, p2, q2⟩ := next_ok h1 (lim := 7) (by decide)
  obtain ⟨cl, hcl, ea⟩ := at_map clD CLS p2 q2
  have hcl2 : cl.length ≤ 2 ∧ ∀ c ∈ cl, c ∈ (["c", "m", "v"] : List Str) := by
    have : ∀ cl ∈ CLS, cl.length ≤ 2 ∧ ∀ c ∈ cl, c ∈ (["c", "m", "v"] : List Str) := by decide +kernel
    exact this cl hcl
  obtain ⟨ss, d3, y7, y9, e3, h3, l3, o3, h7⟩ := act_loop hp lo (n := n) (a3 := .dat (.str "act")) (a4 := .no) (a5 := .no) (a6 := .dat (.tuple (ns.map .str))) cl d2 [] (.own (.list ((ns.zip ks).map locD))) .no h2 hcl2.2 (by simp; omega) (by simp) (.inl rfl) rfl
  obtain ⟨e, d4, e4, h4, t4⟩ := term_at 2 (by omega) 12 (by omega) d3 es (ns.zip ks) k false h3 hp lo ko
  refine ⟨.act n ns ss e, false, d4, ?_, h4, pns_sok hn', n1.ln, by rw [l3]; simp; omega, o3, t4.eg (by omega)⟩
  show runI 3 8 b__law_definition d [_, _] = _
  rw [df_eq]
  unfold runI
  simp only [dfD]
  have hk := List.length_map (as := ks) (f := knD)
  have hk2 := List.length_map (as := ns) (f := PyData.str)
  rw [l1'] at hk2
  have hsm : Qp.small ((ks.length : Nat) : Int) = true := by unfold Qp.small; simp; omega
  have r1 : ∀ c : En, kR1 (some ([PyData.int ((ks.length : Nat) : Int)], c)) = some (rngD 0 ks.length, c) := fun c => by rw [kR1_of hsm]; rfl
  have gl : gLstD [.list [.str "c"], .list [.str "m"], .list [.str "c", .str "m"], .list [.str "m", .str "m"], .list [.str "v"], .list [], .list [.str "m", .str "c"]] = some (.list (CLS.map clD), true) := rfl
  unfold clD at ea gl
  simp only [List.map_nil] at e3
  clear l1 lo zl
  generalize (ns.zip ks).map locD = ZL at *
  generalize CLS.map (fun l => PyData.list (l.map PyData.str)) = CL at *
  generalize cl.map PyData.str = C1 at *
  generalize ss.map setD = SS at *
  generalize ns.map PyData.str = N at *
  generalize ks.map knD = KS at *
  generalize knD k = K at *
  simp -implicitDefEqProofs at e4
  rcases h7 with rfl | rfl
  · simp -implicitDefEqProofs [dft0, df0, ev, dft1, df1, dft2, df2, dft3, df3, dft4, df4, hk, e1, dft5, df5, hk2, r1, qc, dft6, df6, dft7, df7, dft8, df8, gl, e2, ea, e3, dft9, df9, e4]
  · simp -implicitDefEqProofs [dft0, df0, ev, dft1, df1, dft2, df2, dft3, df3, dft4, df4, hk, e1, dft5, df5, hk2, r1, qc, dft6, df6, dft7, df7, dft8, df8, gl, e2, ea, e3, dft9, df9, e4]
def ANS : List Str := ["d", "e", "f", "g", "h", "k", "c", "m", "v", "w", "a", "b"]
theorem definition_ok {d : D} {es : List (D × D)} {n : Str} (h : Stt d) (hp : Pl ["d", "e"] PNS es) (hn : n ∈ ANS) : ∃ df fr d', F__law_definition d [.dict es, .str n] = some (dfD df, fr, d') ∧ Stt d' ∧ DOk df := by
  have : n ∈ (["d", "e"] : List Str) ∨ n ∈ (["f", "g", "h", "k"] : List Str) ∨ n ∈ (["c", "m"] : List Str) ∨ n ∈ (["v", "w"] : List Str) ∨ n ∈ (["a", "b"] : List Str) := by
    have : ∀ n ∈ ANS, n ∈ (["d", "e"] : List Str) ∨ n ∈ (["f", "g", "h", "k"] : List Str) ∨ n ∈ (["c", "m"] : List Str) ∨ n ∈ (["v", "w"] : List Str) ∨ n ∈ (["a", "b"] : List Str) := by decide +kernel
    exact this n hn
  rcases this with hn | hn | hn | hn | hn
  · exact df_data h hp hn
  · exact df_fun h hp hn
  · exact df_cell h hp hn
  · exact df_view h hp hn
  · exact df_act h hp hn
theorem defs_loop {es : List (D × D)} (hp : Pl ["d", "e"] PNS es) : ∀ (ns : List Str) (d : D) (ds : List Df) (x3 : Cell), Stt d → (∀ n ∈ ns, n ∈ ANS) → (∀ df ∈ ds, DOk df) → ds.length + 2 * ns.length ≤ 100 → kNo (some x3) = true →
    ∃ (ds' : List Df) (d' : D) (y3 : Cell), loopF (gx 3) L__law_definitions_1 (ns.map .str) [.io d, .dat (.dict es), .own (.list (ds.map dfD)), x3] = some (.nx [.io d', .dat (.dict es), .own (.list (ds'.map dfD)), y3]) ∧ Stt d' ∧ (∀ df ∈ ds', DOk df) ∧ ds'.length ≤ 100
  | [], d, ds, x3, h, _, ho, hl, _ => ⟨ds, d, x3, by simp, h, ho, by simp at hl; exact hl⟩
  | n :: r, d, ds, x3, h, hn, ho, hl, h3 => by
    rw [List.length_cons] at hl
    have hnn := hn n List.mem_cons_self
    obtain ⟨v1, d1, e1, h1, p1, q1⟩ := next_ok h (lim := 7) (by decide)
    have hlen : ∀ ds : List Df, (ds.map dfD).length = ds.length := fun ds => List.length_map ..
    obtain ⟨ds2, d2, s1, h2, o2, l2⟩ : ∃ (ds2 : List Df) (d2 : D), sIf (evT (ev2 gGt (evCI 2 (F__law_next) 0 (evCons (evC (.int 7)) (evNil))) (evC (.int 0)))) (sDrop (evIns 2 (evCI 2 (F__law_next) 0 (evCons (ev2 gAdd (evV1 gLen 2) (evC (.int 1))) (evNil))) (evCI 3 (F__law_definition) 0 (evCons (evVar 1) (evCons (evVar 3) (evNil)))))) (sNx) [.io d, .dat (.dict es), .own (.list (ds.map dfD)), .dat (.str n)] = some (.nx [.io d2, .dat (.dict es), .own (.list (ds2.map dfD)), .dat (.str n)]) ∧ Stt d2 ∧ (∀ df ∈ ds2, DOk df) ∧ ds2.length ≤ ds.length + 1 := by
      by_cases hv : 0 < v1
      · obtain ⟨v2, d2, e2, h2, p2, q2⟩ := next_ok h1 (lim := (ds.length : Int) + 1) (by omega)
        obtain ⟨df, fr, d3, e3, h3, o3⟩ := definition_ok h2 hp hnn
        have ei : fIns v2 (dfD df) (.list (ds.map dfD)) = some (.list ((ds.take v2.toNat ++ [df] ++ ds.drop v2.toNat).map dfD)) := by
          rw [fIns_of p2 (by omega) (by rw [List.length_map]; exact Nat.lt_of_lt_of_le (by omega : _ < 200) (by decide))]
          simp [List.map_take, List.map_drop]
        have hh := hlen ds
        refine ⟨ds.take v2.toNat ++ [df] ++ ds.drop v2.toNat, d3, ?_, h3, fun x hx => ?_, by simp; omega⟩
        · generalize (ds.take v2.toNat ++ [df] ++ ds.drop v2.toNat).map dfD = D2 at *
          generalize ds.map dfD = D1 at *
          generalize dfD df = DF at *
          simp -implicitDefEqProofs [e1, hv, hh, e2, e3, ei]
        · rcases List.mem_append.mp hx with hx | hx
          · rcases List.mem_append.mp hx with hx | hx
            · exact ho x (List.mem_of_mem_take hx)
            · rw [List.mem_singleton.mp hx]; exact o3
          · exact ho x (List.mem_of_mem_drop hx)
      · have hv' : decide (0 < v1) = false := decide_eq_false hv
        exact ⟨ds, d1, by simp -implicitDefEqProofs [e1, hv'], h1, ho, by omega⟩
    obtain ⟨v4, d4, e4, h4, p4, q4⟩ := next_ok h2 (lim := 25) (by decide)
    obtain ⟨ds3, d5, s2, h5, o5, l5⟩ : ∃ (ds3 : List Df) (d5 : D), sIf (evT (ev2 gEq (evCI 2 (F__law_next) 0 (evCons (evC (.int 25)) (evNil))) (evC (.int 0)))) (sDrop (evApp 2 (evCI 3 (F__law_definition) 0 (evCons (evVar 1) (evCons (evVar 3) (evNil)))))) (sNx) [.io d2, .dat (.dict es), .own (.list (ds2.map dfD)), .dat (.str n)] = some (.nx [.io d5, .dat (.dict es), .own (.list (ds3.map dfD)), .dat (.str n)]) ∧ Stt d5 ∧ (∀ df ∈ ds3, DOk df) ∧ ds3.length ≤ ds2.length + 1 := by
      by_cases hv : v4 = 0
      · subst hv
        obtain ⟨df, fr, d5, e5, h5, o5⟩ := definition_ok h4 hp hnn
        have ea : fApp (dfD df) (.list (ds2.map dfD)) = some (.list ((ds2 ++ [df]).map dfD)) := by
          rw [fApp_of (by rw [List.length_map]; exact Nat.lt_of_lt_of_le (by omega : _ < 200) (by decide)), List.map_append]
          rfl
        refine ⟨ds2 ++ [df], d5, ?_, h5, fun x hx => ?_, by simp⟩
        · generalize (ds2 ++ [df]).map dfD = D2 at *
          generalize ds2.map dfD = D1 at *
          generalize dfD df = DF at *
          simp -implicitDefEqProofs [e4, e5, ea]
        · rcases List.mem_append.mp hx with hx | hx
          · exact o2 x hx
          · rw [List.mem_singleton.mp hx]; exact o5
      · have hv' : (v4 == 0) = false := by simp [hv]
        exact ⟨ds2, d4, by simp -implicitDefEqProofs [e4, hv'], h4, o2, by omega⟩
    obtain ⟨ds', d', y3, q, a1, a2, a3⟩ := defs_loop hp r d5 ds3 (.dat (.str n)) h5 (fun x hx => hn x (List.mem_cons_of_mem _ hx)) o5 (by omega) rfl
    refine ⟨ds', d', y3, ?_, a1, a2, a3⟩
    have hb : L__law_definitions_1 [.io d, .dat (.dict es), .own (.list (ds.map dfD)), .dat (.str n)] = some (.nx [.io d5, .dat (.dict es), .own (.list (ds3.map dfD)), .dat (.str n)]) := by
      unfold L__law_definitions_1
      rw [sSeq_ap, s1, kSeq_n, s2]
    rw [List.map_cons, loopF_step (c1 := [.io d, .dat (.dict es), .own (.list (ds.map dfD)), .dat (.str n)]) (by simp [h3]) hb, q]
theorem definitions_ok {d : D} (h : Stt d) : ∃ (ds : List Df) (d' : D), F__law_definitions d [] = some (.list (ds.map dfD), false, d') ∧ Stt d' ∧ (∀ df ∈ ds, DOk df) ∧ ds.length ≤ 100 := by
  obtain ⟨es, d1, e1, h1, hp⟩ := plan_ok h
  obtain ⟨ds, d2, y3, q, h2, o2, l2⟩ := defs_loop hp ANS d1 [] .no h1 (fun n hn => hn) (by simp) (by decide) rfl
  refine ⟨ds, d2, ?_, h2, o2, l2⟩
  show runI 1 3 b__law_definitions d [] = _
  unfold runI b__law_definitions
  have gl : gLstD [.str "d", .str "e", .str "f", .str "g", .str "h", .str "k", .str "c", .str "m", .str "v", .str "w", .str "a", .str "b"] = some (.list (ANS.map .str), true) := rfl
  simp only [List.map_nil] at q
  generalize ds.map dfD = D2 at *
  generalize ANS.map PyData.str = AN at *
  simp -implicitDefEqProofs [e1, gl, q]
end My
end
section
set_option Elab.async false
set_option linter.all false
set_option maxRecDepth 100000
set_option maxHeartbeats 8000000
namespace My
open PySem PySem.Spec PyProof.Rows L2 Qp
def lu0 : SX := sAsg 2 (evIxV gIx 0 (evC (.int 0)))
def lu1 : SX := sAsg 3 (evA gLstD (evNil))
def lu2 : SX := sIf (evT (evIxV gEq 2 (evC (.str "data")))) (sFor (ixSeq (evIxV gIx 0 (evC (.int 2)))) (gxTup (gxCons (gx 4) (gxCons (gx 5) (gxNil))) 2) (L__law_uses_1)) (sNx)
def lu3 : SX := sIf (evT (evIxV gEq 2 (evC (.str "fun")))) (sAsg 3 (evA (gN 3 (F__law_used 60)) (evCons (evIxV gIx 0 (evC (.int 3))) (evCons (evA (gOne gList) (evCons (evIxV gIx 0 (evC (.int 2))) (evNil))) (evCons (evVar 1) (evNil)))))) (sNx)
def lu4 : SX := sIf (evT (evIxV gEq 2 (evC (.str "view")))) (sAsg 3 (evA (gN 3 (F__law_used 60)) (evCons (evIxV gIx 0 (evC (.int 2))) (evCons (evA gLstD (evNil)) (evCons (evVar 1) (evNil)))))) (sNx)
def lu5 : SX := sIf (evT (evIxV gEq 2 (evC (.str "cell")))) (sSeq (sAsg 3 (ev2 gAdd (evA (gN 1 (F__law_used_data)) (evCons (evA gLstD (evCons (evIxV gIx 0 (evC (.int 2))) (evNil))) (evNil))) (evA (gN 3 (F__law_used 60)) (evCons (evIxV gIx 0 (evC (.int 3))) (evCons (evA gLstD (evNil)) (evCons (evVar 1) (evNil)))))))
  (sAsg 3 (evIxV gAdd 3 (evRepL (evA gLstD (evCons (evIxV gIx 0 (evC (.int 4))) (evNil))) (evA gInt (evCons (ev2 gNotN (evIxV gIx 0 (evC (.int 4))) (evC .none)) (evNil))))))) (sNx)
def lu6 : SX := sIf (evT (evIxV gEq 2 (evC (.str "act")))) (sSeq (sFor (ixSeq (evIxV gIx 0 (evC (.int 3)))) (gxTup (gxCons (gx 6) (gxCons (gx 7) (gxNil))) 2) (L__law_uses_2))
  (sAsg 3 (evIxV gAdd 3 (evA (gN 3 (F__law_used 60)) (evCons (evIxV gIx 0 (evC (.int 4))) (evCons (evA (gOne gList) (evCons (evIxV gIx 0 (evC (.int 2))) (evNil))) (evCons (evVar 1) (evNil)))))))) (sNx)
def lu7 : SX := sRet (evLc [8] (ixR1 (evCons (evV1 gLen 3) (evNil))) (gx 8) (W__law_uses_4) (C__law_uses_3))
def lut7 : SX := lu7
def lut6 : SX := sSeq (lu6) (lut7)
def lut5 : SX := sSeq (lu5) (lut6)
def lut4 : SX := sSeq (lu4) (lut5)
def lut3 : SX := sSeq (lu3) (lut4)
def lut2 : SX := sSeq (lu2) (lut3)
def lut1 : SX := sSeq (lu1) (lut2)
def lut0 : SX := sSeq (lu0) (lut1)
theorem lu_eq : b__law_uses = lut0 := rfl
def mkn : Df → List Str
  | .data n ms => n :: ms.map (·.1)
  | .fn n _ _ => [n]
  | .view n _ => [n]
  | .cell n _ _ _ => [n]
  | .act n _ _ _ => [n]
theorem makers_loop {fe : EX} (hfe : fe = evVar 2) {a0 a1 : Cell} (ms : List (Str × List Kn)) (hl : ms.length ≤ 1000) : loopC (gxTup (gxCons (gx 2) (gxCons (gx 3) (gxNil))) 2) evYes fe [2, 3] (ms.map mkrD) [] [a0, a1, .no, .no] = some ((ms.map (·.1)).map .str, [a0, a1, .no, .no]) := by
  subst hfe
  rw [List.map_map]
  exact loopC_enc ms (fun p hp => ⟨[a0, a1, .dat (.str p.1), .dat (.tuple (p.2.map knD))], false, by simp [mkrD], by simp, by simp, by simp⟩) (LIMle (by omega))
theorem makes_ok {d : Df} (h : DOk d) : F_makes [dfD d] = some (.list ((mkn d).map .str), true) := by
  show runPV 1 3 1 b_makes [_] = _
  unfold runPV b_makes
  cases d with
  | data n ms =>
    obtain ⟨h1, h2, h3⟩ := h
    have q := makers_loop (fe := C_makes_1) rfl (a0 := .dat (dfD (.data n ms))) (a1 := .own (.list [.str n])) ms (by omega)
    have ex := extS (a := [n]) (b := ms.map (·.1)) (by simp; omega)
    rw [show [n] ++ ms.map (·.1) = mkn (.data n ms) from rfl] at ex
    simp only [dfD, List.map_cons, List.map_nil] at *
    generalize (mkn (.data n ms)).map PyData.str = R at *
    generalize (ms.map (·.1)).map PyData.str = R1 at *
    generalize ms.map mkrD = MS at *
    simp -implicitDefEqProofs [q, ex]
  | fn n ps e => simp -implicitDefEqProofs [dfD, mkn]
  | view n e => simp -implicitDefEqProofs [dfD, mkn]
  | cell n k e t => simp -implicitDefEqProofs [dfD, mkn]
  | act n ps ss e => simp -implicitDefEqProofs [dfD, mkn]
theorem law_makes_ok {d : Df} (h : DOk d) : F__law_makes [dfD d] = some (.list ((mkn d).map .str), false) := by
  show runP 1 3 b__law_makes [_] = _
  unfold runP b__law_makes
  cases d with
  | data n ms =>
    obtain ⟨h1, h2, h3⟩ := h
    have q := makers_loop (fe := C__law_makes_1) rfl (a0 := .dat (dfD (.data n ms))) (a1 := .own (.list [.str n])) ms (by omega)
    have ex := addS (a := [n]) (b := ms.map (·.1)) (by simp; omega)
    rw [show [n] ++ ms.map (·.1) = mkn (.data n ms) from rfl] at ex
    simp only [dfD, List.map_cons, List.map_nil] at *
    generalize (mkn (.data n ms)).map PyData.str = R at *
    generalize (ms.map (·.1)).map PyData.str = R1 at *
    generalize ms.map mkrD = MS at *
    simp -implicitDefEqProofs [q, ex]
  | fn n ps e => simp -implicitDefEqProofs [dfD, mkn]
  | view n e => simp -implicitDefEqProofs [dfD, mkn]
  | cell n k e t => simp -implicitDefEqProofs [dfD, mkn]
  | act n ps ss e => simp -implicitDefEqProofs [dfD, mkn]
theorem au_len {mk : Mks} {d : Df} (h : DOk d) : (au mk d).length ≤ 130000 := by
  cases d with
  | data n ms =>
    obtain ⟨h1, h2, h3⟩ := h
    have : ∀ ms : List (Str × List Kn), (∀ p ∈ ms, p.2.length ≤ 10) → ((ms.map fun p => bases p.2).flatten).length ≤ 10 * ms.length := by
      intro ms
      induction ms with
      | nil => intro _; simp
      | cons p r ih =>
        intro hh
        have a := ih fun x hx => hh x (List.mem_cons_of_mem _ hx)
        have b := bases_len p.2
        have c := hh p List.mem_cons_self
        rw [List.map_cons, List.flatten_cons, List.length_append, List.length_cons]
        omega
    have := this ms fun p hp => (h3 p hp).2.1
    show ((ms.map fun p => bases p.2).flatten).length ≤ _
    omega
  | fn n ps e => have := us_len mk e ps; have := h.2.2.sz; unfold SZ at *; show (us mk e ps).length ≤ _; omega
  | view n e => have := us_len mk e []; have := h.2.sz; unfold SZ at *; show (us mk e []).length ≤ _; omega
  | cell n k e t =>
    have := us_len mk e []
    have := h.2.2.1.sz
    have : (bases [k]).length ≤ 1 := bases_len [k]
    unfold SZ at *
    show (bases [k] ++ us mk e [] ++ t.toList).length ≤ _
    rw [List.length_append, List.length_append]
    have : t.toList.length ≤ 1 := by cases t <;> simp
    omega
  | act n ps ss e =>
    obtain ⟨h1, h2, h3, h4, h5⟩ := h
    have : ∀ ss : List (Str × E), (∀ p ∈ ss, EG p.2) → ((ss.map fun p => p.1 :: us mk p.2 ps).flatten).length ≤ 40001 * ss.length := by
      intro ss
      induction ss with
      | nil => intro _; simp
      | cons p r ih =>
        intro hs
        have := ih fun x hx => hs x (List.mem_cons_of_mem _ hx)
        have a := us_len mk p.2 ps
        have b := (hs p List.mem_cons_self).sz
        unfold SZ at b
        rw [List.map_cons, List.flatten_cons, List.length_append, List.length_cons, List.length_cons]
        omega
    have := this ss fun p hp => (h4 p hp).2
    have := us_len mk e ps
    have := h5.sz
    unfold SZ at *
    show ((ss.map fun p => p.1 :: us mk p.2 ps).flatten ++ us mk e ps).length ≤ _
    rw [List.length_append]
    omega
/-- the last row: each once -/
theorem lu_end {l : List Str} (hl : l.length ≤ 500000) {c3 a0 a1 a2 a4 a5 a6 a7 : Cell} (h3 : c3 = .own (.list (l.map .str)) ∨ c3 = .dat (.list (l.map .str))) : lut7 [a0, a1, a2, c3, a4, a5, a6, a7, .no] = some (.rt (.list ((fst1 l).map .str)) true [a0, a1, a2, c3, a4, a5, a6, a7, .no]) := by
  have hlen : (l.map PyData.str).length = l.length := List.length_map ..
  have q := loopC_encF (gt := gx 8) (ft := W__law_uses_4) (fe := C__law_uses_3) (vs := [8]) (cs := [a0, a1, a2, c3, a4, a5, a6, a7, .no]) (enc := fun i : Nat => PyData.int (i : Int)) (val := fun i => .str (l.getD i "")) (keep := fun k => !(l.take k).contains (l.getD k "")) (List.range l.length) (fun i hi => by
    have hi := List.mem_range.mp hi
    have e1 : atD (l.map PyData.str) (i : Int) = some (.str (l.getD i "")) := by
      rw [atD_of (by omega) (by rw [List.length_map]; omega), Int.toNat_natCast, List.getElem?_map, List.getD_eq_getElem?_getD, List.getElem?_eq_getElem (by omega)]
      rfl
    have e2 : gSl (.list (l.map PyData.str)) none (some (i : Int)) = some (.list ((l.take i).map .str), true) := by
      show some (PyData.list (cutL (l.map PyData.str) none (some (i : Int))), true) = _
      rw [cutL_to, List.map_take]
    have e3 := in_strs (l := l.take i) (x := l.getD i "")
    refine ⟨[a0, a1, a2, c3, a4, a5, a6, a7, .dat (.int (i : Int))], false, by simp, ?_, fun _ => ?_, by simp, by simp⟩
    · generalize (l.take i).map PyData.str = T at *
      generalize l.map PyData.str = L at *
      generalize (l.take i).contains (l.getD i "") = bb at *
      generalize l.getD i "" = xx at *
      rcases h3 with rfl | rfl
      · simp -implicitDefEqProofs [W__law_uses_4, e1, e2, e3]
      · simp -implicitDefEqProofs [W__law_uses_4, e1, e2, e3]
    · generalize l.map PyData.str = L at *
      generalize l.getD i "" = xx at *
      rcases h3 with rfl | rfl
      · simp -implicitDefEqProofs [C__law_uses_3, e1]
      · simp -implicitDefEqProofs [C__law_uses_3, e1]) [] (LIMle (by rw [List.length_range]; simp; omega))
  rw [List.nil_append] at q
  have rm : rngD 0 l.length = (List.range l.length).map fun k : Nat => PyData.int (k : Int) := by
    refine List.ext_getElem (by rw [rngD_len, List.length_map, List.length_range]) fun i h1 h2 => ?_
    have := (rng_item (lo := 0) (n := l.length) (i := i) (x := (rngD 0 l.length)[i]) (List.getElem?_eq_getElem h1)).2
    rw [this, List.getElem_map, List.getElem_range, Int.zero_add]
  rw [← rm] at q
  have hsm : Qp.small ((l.length : Nat) : Int) = true := by unfold Qp.small; simp; omega
  have r1 : ∀ c : En, kR1 (some ([PyData.int ((l.length : Nat) : Int)], c)) = some (rngD 0 l.length, c) := fun c => by rw [kR1_of hsm]; rfl
  unfold fst1
  rw [List.map_map]
  rw [show ((List.range l.length).filter fun k => !(l.take k).contains (l.getD k "")).map (PyData.str ∘ fun k => l.getD k "") = ((List.range l.length).filter fun k => !(l.take k).contains (l.getD k "")).map (fun i => PyData.str (l.getD i "")) from rfl]
  generalize ((List.range l.length).filter fun k => !(l.take k).contains (l.getD k "")).map (fun i => PyData.str (l.getD i "")) = R at *
  generalize l.map PyData.str = L at *
  rcases h3 with rfl | rfl
  · simp -implicitDefEqProofs [lut7, lu7, hlen, r1, q]
  · simp -implicitDefEqProofs [lut7, lu7, hlen, r1, q]
end My
end
section
set_option Elab.async false
set_option linter.all false
set_option maxRecDepth 100000
set_option maxHeartbeats 8000000
namespace My
open PySem PySem.Spec PyProof.Rows L2 Qp
theorem lu_data {A a1 a2 : Cell} : ∀ (ms : List (Str × List Kn)) (acc : List Str) (x4 x5 : Cell), (∀ p ∈ ms, p.2.length ≤ 10) → acc.length + 11 * ms.length ≤ 1000 → kNo (some x4) = true → kNo (some x5) = true →
    ∃ y4 y5, loopF (gxTup (gxCons (gx 4) (gxCons (gx 5) (gxNil))) 2) L__law_uses_1 (ms.map mkrD) [A, a1, a2, .own (.list (acc.map .str)), x4, x5, .no, .no, .no] = some (.nx [A, a1, a2, .own (.list ((acc ++ (ms.map fun p => bases p.2).flatten).map .str)), y4, y5, .no, .no, .no])
  | [], acc, x4, x5, _, _, _, _ => ⟨x4, x5, by simp⟩
  | p :: r, acc, x4, x5, hp, hl, h4, h5 => by
    have h1 := hp p List.mem_cons_self
    have hb := bases_len p.2
    rw [List.length_cons] at hl
    have g := used_data_ok (ks := p.2) (by omega) (.inr rfl)
    have ea := addS (a := acc) (b := bases p.2) (by omega)
    obtain ⟨y4, y5, q⟩ := lu_data (A := A) (a1 := a1) (a2 := a2) r (acc ++ bases p.2) (.dat (.str p.1)) (.dat (.tuple (p.2.map knD))) (fun x hx => hp x (List.mem_cons_of_mem _ hx)) (by rw [List.length_append]; omega) rfl rfl
    refine ⟨y4, y5, ?_⟩
    rw [List.map_cons, loopF_step (c1 := [A, a1, a2, .own (.list (acc.map .str)), .dat (.str p.1), .dat (.tuple (p.2.map knD)), .no, .no, .no]) (c2 := [A, a1, a2, .own (.list ((acc ++ bases p.2).map .str)), .dat (.str p.1), .dat (.tuple (p.2.map knD)), .no, .no, .no]) (by simp [mkrD, h4, h5]) ?_, q, List.map_cons, List.flatten_cons, List.append_assoc]
    clear q
    generalize (acc ++ bases p.2).map PyData.str = R1 at *
    generalize (bases p.2).map PyData.str = R2 at *
    generalize acc.map PyData.str = R3 at *
    generalize p.2.map knD = KS at *
    simp -implicitDefEqProofs [L__law_uses_1, g, ea]
theorem lu_act {mk : Mks} {ps : List Str} {A a2 : Cell} (hp : ps.length ≤ 5) {n e : D} {ss0 : D} (hA : A = .dat (.tuple [.str "act", n, .tuple (ps.map .str), ss0, e])) : ∀ (ss : List (Str × E)) (acc : List Str) (x y : Cell), (∀ p ∈ ss, EG p.2) → acc.length + (SZ + 1) * ss.length ≤ 500000 → kNo (some x) = true → kNo (some y) = true →
    ∃ x' y', loopF (gxTup (gxCons (gx 6) (gxCons (gx 7) (gxNil))) 2) L__law_uses_2 (ss.map setD) [A, .dat (mkD mk), a2, .own (.list (acc.map .str)), .no, .no, x, y, .no] = some (.nx [A, .dat (mkD mk), a2, .own (.list ((acc ++ (ss.map fun p => p.1 :: us mk p.2 ps).flatten).map .str)), .no, .no, x', y', .no])
  | [], acc, x, y, _, _, _, _ => ⟨x, y, by simp⟩
  | p :: r, acc, x, y, hs, hl, hx, hy => by
    rw [List.length_cons, Nat.mul_succ] at hl
    have h1 := hs p List.mem_cons_self
    obtain ⟨fr, g⟩ := used_g (mk := mk) (l := ps) h1 hp
    have u1 := us_len mk p.2 ps
    have sz := h1.sz
    have ea := addS (a := acc) (b := [p.1]) (by simp; omega)
    have eb := addS (a := acc ++ [p.1]) (b := us mk p.2 ps) (by simp; omega)
    obtain ⟨x', y', q⟩ := lu_act (mk := mk) (a2 := a2) hp hA r (acc ++ [p.1] ++ us mk p.2 ps) (.dat (.str p.1)) (.dat (encE p.2)) (fun x hx => hs x (List.mem_cons_of_mem _ hx)) (by rw [List.length_append, List.length_append, List.length_singleton]; omega) rfl rfl
    refine ⟨x', y', ?_⟩
    have hb : L__law_uses_2 [A, .dat (mkD mk), a2, .own (.list (acc.map .str)), .no, .no, .dat (.str p.1), .dat (encE p.2), .no] = some (.nx [A, .dat (mkD mk), a2, .own (.list ((acc ++ [p.1] ++ us mk p.2 ps).map .str)), .no, .no, .dat (.str p.1), .dat (encE p.2), .no]) := by
      subst hA
      simp only [List.map_cons, List.map_nil] at ea
      clear q
      generalize (acc ++ [p.1] ++ us mk p.2 ps).map PyData.str = Z1 at *
      generalize (acc ++ [p.1]).map PyData.str = Z2 at *
      generalize (us mk p.2 ps).map PyData.str = Z3 at *
      generalize acc.map PyData.str = Z4 at *
      generalize ps.map PyData.str = Z5 at *
      generalize mkD mk = M at *
      simp -implicitDefEqProofs [L__law_uses_2, ea, g, eb]
    rw [List.map_cons, loopF_step (c1 := [A, .dat (mkD mk), a2, .own (.list (acc.map .str)), .no, .no, .dat (.str p.1), .dat (encE p.2), .no]) (by simp [setD, hx, hy]) hb, q, List.map_cons, List.flatten_cons]
    simp
theorem law_uses_ok {mk : Mks} {d : Df} (h : DOk d) : F__law_uses [dfD d, mkD mk] = some (.list ((ddL (au mk d)).map .str), true) := by
  have hau := au_len (mk := mk) h
  rw [← fst_dd]
  show runP 2 7 b__law_uses [_, _] = _
  rw [lu_eq]
  unfold runP
  cases d with
  | data n ms =>
    obtain ⟨h1, h2, h3⟩ := h
    obtain ⟨y4, y5, q⟩ := lu_data (A := .dat (dfD (.data n ms))) (a1 := .dat (mkD mk)) (a2 := .dat (.str "data")) ms [] .no .no (fun p hp => (h3 p hp).2.1) (by simp; omega) rfl rfl
    have ee := lu_end (l := au mk (.data n ms)) (by omega) (c3 := .own (.list ((au mk (.data n ms)).map .str))) (a0 := .dat (dfD (.data n ms))) (a1 := .dat (mkD mk)) (a2 := .dat (.str "data")) (a4 := y4) (a5 := y5) (a6 := .no) (a7 := .no) (.inl rfl)
    simp only [List.nil_append, List.map_nil, dfD] at *
    rw [show ((ms.map fun p => bases p.2).flatten) = au mk (.data n ms) from rfl] at q
    generalize (fst1 (au mk (.data n ms))).map PyData.str = R0 at *
    generalize (au mk (.data n ms)).map PyData.str = R at *
    generalize ms.map mkrD = MS at *
    generalize mkD mk = M at *
    simp -implicitDefEqProofs [lut0, lu0, lut1, lu1, lut2, lu2, q, lut3, lu3, lut4, lu4, lut5, lu5, lut6, lu6, ee]
  | fn n ps e =>
    obtain ⟨h1, h2, h3⟩ := h
    obtain ⟨fr, g⟩ := used_g (mk := mk) (l := ps) h3 h2
    have ee := fun c3 => lu_end (l := au mk (.fn n ps e)) (by omega) (c3 := c3) (a0 := .dat (dfD (.fn n ps e))) (a1 := .dat (mkD mk)) (a2 := .dat (.str "fun")) (a4 := .no) (a5 := .no) (a6 := .no) (a7 := .no)
    have ee1 := ee _ (.inl rfl)
    have ee2 := ee _ (.inr rfl)
    clear ee
    simp only [dfD] at *
    rw [show us mk e ps = au mk (.fn n ps e) from rfl] at g
    generalize (fst1 (au mk (.fn n ps e))).map PyData.str = R0 at *
    generalize (au mk (.fn n ps e)).map PyData.str = R at *
    generalize ps.map PyData.str = P at *
    generalize mkD mk = M at *
    cases fr with
    | true => simp -implicitDefEqProofs [lut0, lu0, lut1, lu1, lut2, lu2, lut3, lu3, g, lut4, lu4, lut5, lu5, lut6, lu6, ee1]
    | false => simp -implicitDefEqProofs [lut0, lu0, lut1, lu1, lut2, lu2, lut3, lu3, g, lut4, lu4, lut5, lu5, lut6, lu6, ee2]
  | view n e =>
    obtain ⟨h1, h3⟩ := h
    obtain ⟨fr, g⟩ := used_g (mk := mk) (l := []) h3 (by simp)
    have ee := fun c3 => lu_end (l := au mk (.view n e)) (by omega) (c3 := c3) (a0 := .dat (dfD (.view n e))) (a1 := .dat (mkD mk)) (a2 := .dat (.str "view")) (a4 := .no) (a5 := .no) (a6 := .no) (a7 := .no)
    have ee1 := ee _ (.inl rfl)
    have ee2 := ee _ (.inr rfl)
    clear ee
    simp only [dfD, List.map_nil] at *
    rw [show us mk e [] = au mk (.view n e) from rfl] at g
    generalize (fst1 (au mk (.view n e))).map PyData.str = R0 at *
    generalize (au mk (.view n e)).map PyData.str = R at *
    generalize mkD mk = M at *
    cases fr with
    | true => simp -implicitDefEqProofs [lut0, lu0, lut1, lu1, lut2, lu2, lut3, lu3, lut4, lu4, g, lut5, lu5, lut6, lu6, ee1]
    | false => simp -implicitDefEqProofs [lut0, lu0, lut1, lu1, lut2, lu2, lut3, lu3, lut4, lu4, g, lut5, lu5, lut6, lu6, ee2]
  | cell n k e t =>
    obtain ⟨h1, hk, h3, ht⟩ := h
    obtain ⟨fr, g⟩ := used_g (mk := mk) (l := []) h3 (by simp)
    have gk := used_data_ok (ks := [k]) (by simp) (.inl rfl)
    have u1 := us_len mk e []
    have u2 : (bases [k]).length ≤ 1 := bases_len [k]
    have sz := h3.sz
    unfold SZ at sz
    have ea := addS (a := bases [k]) (b := us mk e []) (by omega)
    have eb := addS (a := bases [k] ++ us mk e []) (b := t.toList) (by have : t.toList.length ≤ 1 := (by cases t <;> simp); simp; omega)
    have ee := lu_end (l := au mk (.cell n k e t)) (by omega) (c3 := .own (.list ((au mk (.cell n k e t)).map .str))) (a0 := .dat (dfD (.cell n k e t))) (a1 := .dat (mkD mk)) (a2 := .dat (.str "cell")) (a4 := .no) (a5 := .no) (a6 := .no) (a7 := .no) (.inl rfl)
    simp only [dfD, List.map_nil, List.map_cons] at *
    rw [show bases [k] ++ us mk e [] ++ t.toList = au mk (.cell n k e t) from rfl] at eb
    cases t with
    | none =>
      have gr := gRepL_of (ds := [.none]) (j := 0) (by decide) (by simp)
      simp only [optD, Option.toList, List.map_nil] at *
      generalize (fst1 (au mk (.cell n k e none))).map PyData.str = R0 at *
      generalize (au mk (.cell n k e none)).map PyData.str = R at *
      generalize (bases [k] ++ us mk e []).map PyData.str = R1 at *
      generalize (us mk e []).map PyData.str = R2 at *
      generalize (bases [k]).map PyData.str = R3 at *
      generalize mkD mk = M at *
      simp -implicitDefEqProofs [lut0, lu0, lut1, lu1, lut2, lu2, lut3, lu3, lut4, lu4, lut5, lu5, gk, g, ea, gr, eb, lut6, lu6, ee]
    | some t =>
      have gr := gRepL_of (ds := [.str t]) (j := 1) (by decide) (by simp)
      simp only [optD, Option.toList, List.map_nil, List.map_cons] at *
      generalize (fst1 (au mk (.cell n k e (some t)))).map PyData.str = R0 at *
      generalize (au mk (.cell n k e (some t))).map PyData.str = R at *
      generalize (bases [k] ++ us mk e []).map PyData.str = R1 at *
      generalize (us mk e []).map PyData.str = R2 at *
      generalize (bases [k]).map PyData.str = R3 at *
      generalize mkD mk = M at *
      simp -implicitDefEqProofs [lut0, lu0, lut1, lu1, lut2, lu2, lut3, lu3, lut4, lu4, lut5, lu5, gk, g, ea, gr, eb, lut6, lu6, ee]
  | act n ps ss e =>
    obtain ⟨h1, h2, h3, h4, h5⟩ := h
    obtain ⟨fr, g⟩ := used_g (mk := mk) (l := ps) h5 h2
    obtain ⟨x', y', q⟩ := lu_act (mk := mk) (ps := ps) (A := .dat (dfD (.act n ps ss e))) (a2 := .dat (.str "act")) h2 rfl ss [] .no .no (fun p hp => (h4 p hp).2) (by have := Nat.mul_le_mul_left (SZ + 1) h3; unfold SZ at *; simp; omega) rfl rfl
    have eb := addS (a := (ss.map fun p => p.1 :: us mk p.2 ps).flatten) (b := us mk e ps) (by
      have : (au mk (.act n ps ss e)).length = ((ss.map fun p => p.1 :: us mk p.2 ps).flatten).length + (us mk e ps).length := List.length_append
      omega)
    have ee := lu_end (l := au mk (.act n ps ss e)) (by omega) (c3 := .own (.list ((au mk (.act n ps ss e)).map .str))) (a0 := .dat (dfD (.act n ps ss e))) (a1 := .dat (mkD mk)) (a2 := .dat (.str "act")) (a4 := .no) (a5 := .no) (a6 := x') (a7 := y') (.inl rfl)
    simp only [dfD, List.nil_append, List.map_nil] at *
    rw [show (ss.map fun p => p.1 :: us mk p.2 ps).flatten ++ us mk e ps = au mk (.act n ps ss e) from rfl] at eb
    generalize (fst1 (au mk (.act n ps ss e))).map PyData.str = R0 at *
    generalize (au mk (.act n ps ss e)).map PyData.str = R at *
    generalize (us mk e ps).map PyData.str = R1 at *
    generalize (ss.map fun p => p.1 :: us mk p.2 ps).flatten.map PyData.str = R2 at *
    generalize ss.map setD = SS at *
    generalize ps.map PyData.str = P at *
    generalize mkD mk = M at *
    simp -implicitDefEqProofs [lut0, lu0, lut1, lu1, lut2, lu2, lut3, lu3, lut4, lu4, lut5, lu5, lut6, lu6, q, g, eb, ee]
end My
end
section
set_option Elab.async false
set_option linter.all false
set_option maxRecDepth 100000
set_option maxHeartbeats 8000000
namespace My
open PySem PySem.Spec PyProof.Rows L2 Qp
/-! _law_same tells that a thing is like itself -/
def Dt : Nat → D → Prop
  | 0, _ => False
  | k + 1, d => match d with
    | .none => True
    | .bool _ => True
    | .int _ => True
    | .str s => ∀ c ∈ s.cps.toList, c < 1114112
    | .list ds => ds.length ≤ 1000000 ∧ ∀ d ∈ ds, Dt k d
    | .tuple ds => ds.length ≤ 1000000 ∧ ∀ d ∈ ds, Dt k d
    | .dict _ => False
theorem gEq_b (a b : Bool) : gEq (.bool a) (.bool b) = some (.bool (a == b), false) := rfl
theorem gNe_b (a b : Bool) : gNe (.bool a) (.bool b) = some (.bool (!(a == b)), false) := rfl
theorem isi_ok (d : D) (h : isT "bool" d = false) : F__law_is_integer [d] = some (.bool (isT "int" d), false) := by
  unfold F__law_is_integer runP b__law_is_integer
  cases e : isT "int" d <;> simp -implicitDefEqProofs [e, h]
theorem same_loop {k : Nat} {ds : List D} (ih : ∀ d ∈ ds, F__law_same k [d, d] = some (.bool true, false)) {X : List D → D} (hX : (X = PyData.list) ∨ X = PyData.tuple) {x : Cell} (hx : kNo (some x) = true) :
    ∃ c, loopF (gx 2) (L__law_same_1 (F__law_same k)) (rngD 0 ds.length) [.dat (X ds), .dat (X ds), x] = some (.nx c) := by
  obtain ⟨c, q, _⟩ := loopF_inv (ft := gx 2) (body := L__law_same_1 (F__law_same k)) (fun _ c => ∃ x, c = [.dat (X ds), .dat (X ds), x] ∧ kNo (some x) = true) (rngD 0 ds.length) (fun i x c hi ⟨y, hc, hy⟩ => by
    subst hc
    obtain ⟨hi', e⟩ := rng_item hi
    rw [Int.zero_add] at e
    subst e
    have ea : atD ds (i : Int) = some ds[i] := atD_nat hi'
    have es := ih ds[i] (List.getElem_mem _)
    refine ⟨[.dat (X ds), .dat (X ds), .dat (.int (i : Int))], [.dat (X ds), .dat (X ds), .dat (.int (i : Int))], by simp -implicitDefEqProofs [hy], ?_, _, rfl, rfl⟩
    rcases hX with rfl | rfl
    · simp -implicitDefEqProofs [L__law_same_1, ea, es]
    · simp -implicitDefEqProofs [L__law_same_1, ea, es]) (cs := [.dat (X ds), .dat (X ds), x]) ⟨x, rfl, hx⟩
  exact ⟨c, q⟩
theorem same_refl : ∀ (k : Nat) (d : D), Dt k d → F__law_same k [d, d] = some (.bool true, false)
  | 0, _, h => h.elim
  | k + 1, d, h => by
    show runP 2 1 (b__law_same (F__law_same k)) [d, d] = _
    unfold runP b__law_same
    cases d with
    | none => simp -implicitDefEqProofs [isNone, isT]
    | bool b => simp -implicitDefEqProofs [isNone, isT, gEq_b]
    | int i =>
      have := isi_ok (.int i) rfl
      simp -implicitDefEqProofs [isNone, isT, this]
    | str s =>
      have h' : ∀ c ∈ s.cps.toList, c < 1114112 := h
      rw [str_cps]
      simp -implicitDefEqProofs [gEq_str h' h']
    | list ds =>
      obtain ⟨hl, hd⟩ : ds.length ≤ 1000000 ∧ ∀ d ∈ ds, Dt k d := h
      have hsm : Qp.small (ds.length : Int) = true := by unfold Qp.small; simp; omega
      obtain ⟨c, q⟩ := same_loop (k := k) (ds := ds) (fun d hd' => same_refl k d (hd d hd')) (X := PyData.list) (.inl rfl) (x := .no) rfl
      simp -implicitDefEqProofs [isNone, isT, kR1_of hsm, q, gNe_b]
    | tuple ds =>
      obtain ⟨hl, hd⟩ : ds.length ≤ 1000000 ∧ ∀ d ∈ ds, Dt k d := h
      have hsm : Qp.small (ds.length : Int) = true := by unfold Qp.small; simp; omega
      obtain ⟨c, q⟩ := same_loop (k := k) (ds := ds) (fun d hd' => same_refl k d (hd d hd')) (X := PyData.tuple) (.inr rfl) (x := .no) rfl
      simp -implicitDefEqProofs [isNone, isT, kR1_of hsm, q, gNe_b]
    | dict _ => exact h.elim
/-! names that are used are drawn ones -/
def MkOk (mk : Mks) : Prop := ∀ p ∈ mk, Sok p.2
theorem own_sok {mk : Mks} (h : MkOk mk) {m : Str} (hm : Sok m) : Sok (own mk m) := by
  unfold own
  split
  · rename_i p hp
    exact h p (List.mem_of_find?_eq_some hp)
  · exact hm
theorem us_sok {mk : Mks} (h : MkOk mk) : ∀ (k : Nat) (e : E) (l : List Str), EOk k e → ∀ s ∈ us mk e l, Sok s := by
  intro k
  induction k with
  | zero => intro e l h; exact h.elim
  | succ k ih =>
    have ihs : ∀ (es : List E) (l : List Str), (∀ x ∈ es, EOk k x) → ∀ s ∈ uss mk es l, Sok s := by
      intro es l
      induction es with
      | nil => intro _ s hs; simp [uss] at hs
      | cons e r ih2 =>
        intro ho s hs
        rw [uss, List.mem_append] at hs
        rcases hs with hs | hs
        · exact ih e l (ho e List.mem_cons_self) s hs
        · exact ih2 (fun x hx => ho x (List.mem_cons_of_mem _ hx)) s hs
    have iha : ∀ (ms : List Str) (ns : List (List Str)) (es : List E) (l : List Str), (∀ m ∈ ms, Sok m) → (∀ x ∈ es, EOk k x) → ∀ s ∈ usa mk ms ns es l, Sok s := by
      intro ms
      induction ms with
      | nil => intro ns es l _ _ s hs; simp [usa] at hs
      | cons m ms ih2 =>
        intro ns es l hm ho s hs
        cases ns with
        | nil => simp [usa] at hs
        | cons n ns =>
          cases es with
          | nil => simp [usa] at hs
          | cons e es =>
            rw [usa, List.mem_append, List.mem_append, List.mem_singleton] at hs
            rcases hs with (rfl | hs) | hs
            · exact own_sok h (hm m List.mem_cons_self)
            · exact ih e _ (ho e List.mem_cons_self) s hs
            · exact ih2 ns es l (fun x hx => hm x (List.mem_cons_of_mem _ hx)) (fun x hx => ho x (List.mem_cons_of_mem _ hx)) s hs
    intro e l ok s hs
    cases e with
    | num | text | bool => simp [us] at hs
    | name x =>
      simp only [us] at hs
      split at hs
      · cases hs
      · rw [List.mem_singleton.mp hs]; exact ok
    | list es => exact ihs es l ok.2 s (by simpa [us] using hs)
    | cons a b =>
      rw [us, List.mem_append] at hs
      exact hs.elim (ih a l ok.1 s) (ih b l ok.2 s)
    | bin o a b =>
      rw [us, List.mem_append] at hs
      exact hs.elim (ih a l ok.2.1 s) (ih b l ok.2.2 s)
    | not a => exact ih a l ok s (by simpa [us] using hs)
    | ite c a b =>
      rw [us, List.mem_append, List.mem_append] at hs
      exact hs.elim (fun hs => hs.elim (ih c l ok.1 s) (ih a l ok.2.1 s)) (ih b l ok.2.2 s)
    | lett x a b =>
      rw [us, List.mem_append] at hs
      exact hs.elim (ih a l ok.2.1 s) (ih b _ ok.2.2 s)
    | call f es =>
      rw [us, List.mem_append, List.mem_singleton] at hs
      rcases hs with rfl | hs
      · exact ok.1
      · exact ihs es l ok.2.2 s hs
    | make f es =>
      rw [us, List.mem_append, List.mem_singleton] at hs
      rcases hs with rfl | hs
      · exact own_sok h ok.1
      · exact ihs es l ok.2.2 s hs
    | split a b u t c =>
      rw [us, List.mem_append, List.mem_append] at hs
      exact hs.elim (fun hs => hs.elim (ih a l ok.2.2.1 s) (ih b l ok.2.2.2.1 s)) (ih c _ ok.2.2.2.2 s)
    | mat a ms ls es =>
      rw [us, List.mem_append] at hs
      exact hs.elim (ih a l ok.1 s) (iha ms ls es l ok.2.1 ok.2.2.2.2.2.2 s)
theorem bases_sok {ks : List Kn} (h : ∀ k ∈ ks, PLN.contains k.2 = true ∨ Sok k.2) : ∀ s ∈ bases ks, Sok s := by
  intro s hs
  obtain ⟨k, hk, rfl⟩ := List.mem_map.mp hs
  obtain ⟨h1, h2⟩ := List.mem_filter.mp hk
  rcases h k h1 with h3 | h3
  · rw [h3] at h2; cases h2
  · exact h3
theorem au_sok {mk : Mks} (h : MkOk mk) {d : Df} (hd : DOk d) : ∀ s ∈ au mk d, Sok s := by
  intro s hs
  cases d with
  | data n ms =>
    obtain ⟨l, hl, hs⟩ := List.mem_flatten.mp hs
    obtain ⟨p, hp, rfl⟩ := List.mem_map.mp hl
    exact bases_sok (hd.2.2 p hp).2.2 s hs
  | fn n ps e => exact us_sok h 45 e ps hd.2.2.ok s hs
  | view n e => exact us_sok h 45 e [] hd.2.ok s hs
  | cell n k e t =>
    rw [au, List.mem_append, List.mem_append] at hs
    rcases hs with (hs | hs) | hs
    · exact bases_sok (ks := [k]) (by intro x hx; rw [List.mem_singleton.mp hx]; exact hd.2.1) s hs
    · exact us_sok h 45 e [] hd.2.2.1.ok s hs
    · cases t with
      | none => cases hs
      | some t => rw [show s = t by simpa using hs]; exact hd.2.2.2 t rfl
  | act n ps ss e =>
    rw [au, List.mem_append] at hs
    rcases hs with hs | hs
    · obtain ⟨l, hl, hs⟩ := List.mem_flatten.mp hs
      obtain ⟨p, hp, rfl⟩ := List.mem_map.mp hl
      rcases List.mem_cons.mp hs with rfl | hs
      · exact (hd.2.2.2.1 p hp).1
      · exact us_sok h 45 p.2 ps (hd.2.2.2.1 p hp).2.ok s hs
    · exact us_sok h 45 e ps hd.2.2.2.2.ok s hs
def up1 (s : Str) : Bool := Txt.isupper (cutS s none (some 1))
def hd1 (s : Str) : Str := ⟨#[s.cps.toList.headD 0]⟩
theorem up_same : ∀ s ∈ NMS, inS (hd1 s) "LNOTS" = up1 s := by decide +kernel
theorem nm_facts : ∀ s ∈ NMS, VS s ∧ gSl (.str s) none (some 1) = some (.str (cutS s none (some 1)), false) ∧ gIx (.str s) (.int 0) = some (.str (hd1 s), false) := by
  intro s hs
  simp only [NMS, List.mem_cons, List.not_mem_nil, or_false] at hs
  rcases hs with rfl | rfl | rfl | rfl | rfl | rfl | rfl | rfl | rfl | rfl | rfl | rfl | rfl | rfl | rfl | rfl | rfl | rfl | rfl | rfl | rfl | rfl | rfl | rfl | rfl <;> exact ⟨vs_lit _, rfl, rfl⟩
theorem dt_strs {k : Nat} {l : List Str} (h : ∀ s ∈ l, Sok s) (hl : l.length ≤ 1000000) : Dt (k + 2) (.list (l.map .str)) := by
  refine ⟨by simpa using hl, fun d hd => ?_⟩
  obtain ⟨s, hs, rfl⟩ := List.mem_map.mp hd
  exact (nm_facts s (h s hs)).1
theorem same_strs {l : List Str} (h : ∀ s ∈ l, Sok s) (hl : l.length ≤ 1000000) : F__law_same 8 [.list (l.map .str), .list (l.map .str)] = some (.bool true, false) := same_refl 8 _ (dt_strs h hl)
theorem dd_sok {l : List Str} (h : ∀ s ∈ l, Sok s) : ∀ s ∈ ddL l, Sok s := fun s hs => h s ((dd_mem l s).mp hs)
theorem makers_used_ok {d : Df} (h : DOk d) : F_makers_used [dfD d] = some (.list (((ddL (au [] d)).filter up1).map .str), true) := by
  have hau := au_len (mk := []) h
  have so := dd_sok (au_sok (mk := []) (fun p hp => by cases hp) h)
  have hl := dd_len (au [] d)
  have g := uses_ok (mk := []) h (by omega)
  show runP 1 1 b_makers_used [_] = _
  unfold runP b_makers_used
  have q := loopC_encF (gt := gx 1) (ft := W_makers_used_2) (fe := C_makers_used_1) (vs := [1]) (cs := [.dat (dfD d), .no]) (enc := PyData.str) (val := PyData.str) (keep := up1) (ddL (au [] d)) (fun s hs => by
    obtain ⟨h1, h2, h3⟩ := nm_facts s (so s hs)
    refine ⟨[.dat (dfD d), .dat (.str s)], false, by simp, ?_, fun _ => by simp [C_makers_used_1], by simp, by simp⟩
    have h2' : gSl (.str s) none (some 1) = some (.str (cutS s none (some 1)), false) := h2
    generalize dfD d = A at *
    show W_makers_used_2 _ = some (Txt.isupper (cutS s none (some 1)), _)
    generalize cutS s none (some 1) = cc at *
    have tb : truD (.bool (Txt.isupper cc)) = some (Txt.isupper cc) := rfl
    simp -implicitDefEqProofs [W_makers_used_2, h2', tb]) [] (LIMle (by simp; omega))
  rw [List.nil_append] at q
  rw [show mkD [] = .dict [] from rfl] at g
  generalize (((ddL (au [] d)).filter up1).map PyData.str) = R at *
  generalize (ddL (au [] d)).map PyData.str = R1 at *
  generalize dfD d = A at *
  simp -implicitDefEqProofs [g, q]
end My
end
section
set_option Elab.async false
set_option linter.all false
set_option maxRecDepth 100000
set_option maxHeartbeats 8000000
namespace My
open PySem PySem.Spec PyProof.Rows L2 Qp
def lb0 : SX := sIf (evNotT (evT (evA (gN 2 (F__law_same 8)) (evCons (evA (gN 1 (F_makes)) (evCons (evVar 6) (evNil))) (evCons (evA (gN 1 (F__law_makes)) (evCons (evVar 6) (evNil))) (evNil)))))) (sRet (evC (.bool false))) (sNx)
def lb1 : SX := sAsg 7 (evA (gN 2 (F_uses)) (evCons (evVar 6) (evCons (evVar 5) (evNil))))
def lb2 : SX := sIf (evNotT (evT (evCB (gN 2 (F__law_same 8)) (evBor 7 (evCons (evCB (gN 2 (F__law_uses)) (evCons (evVar 6) (evBor 3 (evNil)))) (evNil)))))) (sRet (evC (.bool false))) (sNx)
def lb3 : SX := sIf (evNotT (evT (evA (gN 2 (F__law_same 8)) (evCons (evA (gN 1 (F_makers_used)) (evCons (evVar 6) (evNil))) (evCons (evLc [10] (ixSeq (evA (gN 2 (F__law_uses)) (evCons (evVar 6) (evCons (evDnew) (evNil))))) (gx 10) (W_law_3) (C_law_2)) (evNil)))))) (sRet (evC (.bool false))) (sNx)
def lb4 : SX := sDrop (evApp 7 (evC (.str "z")))
def lb5 : SX := sDrop (evAppT (evA (gN 1 (F_makes)) (evCons (evVar 6) (evNil))) (evC (.str "z")))
def lb6 : SX := sDrop (evAppT (evA (gN 1 (F_makers_used)) (evCons (evVar 6) (evNil))) (evC (.str "z")))
def lb7 : SX := sIf (evNotT (evT (evA (gN 2 (F__law_same 8)) (evCons (evA (gN 2 (F_uses)) (evCons (evVar 6) (evCons (evDnew) (evNil)))) (evCons (evA (gN 2 (F__law_uses)) (evCons (evVar 6) (evCons (evDnew) (evNil)))) (evNil)))))) (sRet (evC (.bool false))) (sNx)
def lb8 : SX := sIf (evNotT (evT (evA (gN 2 (F__law_same 8)) (evCons (evA (gN 1 (F_makers_used)) (evCons (evVar 6) (evNil))) (evCons (evLc [10] (ixSeq (evA (gN 2 (F__law_uses)) (evCons (evVar 6) (evCons (evDnew) (evNil))))) (gx 10) (W_law_5) (C_law_4)) (evNil)))))) (sRet (evC (.bool false))) (sNx)
def lb9 : SX := sIf (evNotT (evT (evA (gN 2 (F__law_same 8)) (evCons (evA (gN 2 (F_uses)) (evCons (evVar 6) (evCons (evVar 5) (evNil)))) (evCons (evCB (gN 2 (F__law_uses)) (evCons (evVar 6) (evBor 3 (evNil)))) (evNil)))))) (sRet (evC (.bool false))) (sNx)
def lb10 : SX := sIf (evNotT (evT (evA (gN 2 (F__law_same 8)) (evCons (evA (gN 1 (F_makes)) (evCons (evVar 6) (evNil))) (evCons (evA (gN 1 (F__law_makes)) (evCons (evVar 6) (evNil))) (evNil)))))) (sRet (evC (.bool false))) (sNx)
def lbt10 : SX := lb10
def lbt9 : SX := sSeq (lb9) (lbt10)
def lbt8 : SX := sSeq (lb8) (lbt9)
def lbt7 : SX := sSeq (lb7) (lbt8)
def lbt6 : SX := sSeq (lb6) (lbt7)
def lbt5 : SX := sSeq (lb5) (lbt6)
def lbt4 : SX := sSeq (lb4) (lbt5)
def lbt3 : SX := sSeq (lb3) (lbt4)
def lbt2 : SX := sSeq (lb2) (lbt3)
def lbt1 : SX := sSeq (lb1) (lbt2)
def lbt0 : SX := sSeq (lb0) (lbt1)
theorem lb_eq : L_law_6 = lbt0 := rfl
theorem mkn_sok {d : Df} (h : DOk d) : ∀ s ∈ mkn d, Sok s := by
  intro s hs
  cases d with
  | data n ms =>
    rcases List.mem_cons.mp hs with rfl | hs
    · exact h.1
    · obtain ⟨p, hp, rfl⟩ := List.mem_map.mp hs
      exact (h.2.2 p hp).1
  | fn n ps e => rw [List.mem_singleton.mp hs]; exact h.1
  | view n e => rw [List.mem_singleton.mp hs]; exact h.1
  | cell n k e t => rw [List.mem_singleton.mp hs]; exact h.1
  | act n ps ss e => rw [List.mem_singleton.mp hs]; exact h.1
theorem mkn_len {d : Df} (h : DOk d) : (mkn d).length ≤ 100 := by
  cases d with
  | data n ms => have := h.2.1; simp [mkn]; omega
  | fn n ps e => simp [mkn]
  | view n e => simp [mkn]
  | cell n k e t => simp [mkn]
  | act n ps ss e => simp [mkn]
theorem noMut_strs (l : List Str) : noMutF true (.list (l.map PyData.str)) = true := by
  show noMutAll (l.map PyData.str) = true
  induction l with
  | nil => rfl
  | cons s r ih => show (noMut (.str s) && noMutAll (r.map PyData.str)) = true; rw [ih]; rfl
theorem upper_comp {w : TX} {fe : EX} (hw : w = evT (ev2 (gInS false) (evIxV gIx 10 (evC (.int 0))) (evC (.str "LNOTS")))) (hf : fe = evVar 10) {l : List Str} (so : ∀ s ∈ l, Sok s) (hl : l.length ≤ 1000000) {a0 a1 a2 a3 a4 a5 a6 a7 a8 a9 : Cell} :
    loopC (gx 10) w fe [10] (l.map .str) [] [a0, a1, a2, a3, a4, a5, a6, a7, a8, a9, .no] = some ((l.filter up1).map .str, [a0, a1, a2, a3, a4, a5, a6, a7, a8, a9, .no]) := by
  subst hw hf
  have q := loopC_encF (gt := gx 10) (ft := evT (ev2 (gInS false) (evIxV gIx 10 (evC (.int 0))) (evC (.str "LNOTS")))) (fe := evVar 10) (vs := [10]) (cs := [a0, a1, a2, a3, a4, a5, a6, a7, a8, a9, .no]) (enc := PyData.str) (val := PyData.str) (keep := up1) l (fun s hs => by
    obtain ⟨h1, h2, h3⟩ := nm_facts s (so s hs)
    have hu := up_same s (so s hs)
    rw [← hu]
    rw [gIx] at h3
    refine ⟨[a0, a1, a2, a3, a4, a5, a6, a7, a8, a9, .dat (.str s)], false, by simp, ?_, fun _ => by simp, by simp, by simp⟩
    have h3' : gIx (.str s) (.int 0) = some (.str (hd1 s), false) := h3
    simp -implicitDefEqProofs [h3']) [] (LIMle (by simpa using hl))
  rw [List.nil_append] at q
  exact q
theorem lb_ok {mk : Mks} {d : Df} (hm : MkOk mk) (h : DOk d) {A S Ds c3 x4 c5 x7 : Cell} (h3 : c3 = .own (mkD mk)) (h5 : c5 = .own (mkD mk) ∨ c5 = .dat (mkD mk)) (h7 : kNo (some x7) = true) :
    ∃ y7, L_law_6 [A, S, Ds, c3, x4, c5, .dat (dfD d), x7, .no, .no, .no] = some (.nx [A, S, Ds, c3, x4, .dat (mkD mk), .dat (dfD d), y7, .no, .no, .no]) ∧ kNo (some y7) = true := by
  have hau := au_len (mk := mk) h
  have hau0 := au_len (mk := []) h
  have hl := dd_len (au mk d)
  have hl0 := dd_len (au [] d)
  have so := dd_sok (au_sok hm h)
  have m0 : MkOk [] := fun p hp => by cases hp
  have so0 := dd_sok (au_sok m0 h)
  have g1 := makes_ok h
  have g2 := law_makes_ok h
  have g3 := same_strs (mkn_sok h) (by have := mkn_len h; omega)
  have g4 := uses_ok (mk := mk) h (by omega)
  have g5 := law_uses_ok (mk := mk) h
  have g6 := same_strs so (by omega)
  have g7 := makers_used_ok h
  have g8 := law_uses_ok (mk := []) h
  have g9 := uses_ok (mk := []) h (by omega)
  have g10 := same_strs so0 (by omega)
  have sou : ∀ s ∈ (ddL (au [] d)).filter up1, Sok s := fun s hs => so0 s (List.mem_filter.mp hs).1
  have lu : ((ddL (au [] d)).filter up1).length ≤ 1000000 := Nat.le_trans (List.length_filter_le _ _) (by omega)
  have g11 := same_strs sou lu
  have nm := noMut_strs (ddL (au mk d))
  have q1 := fun c7 => upper_comp (w := W_law_3) (fe := C_law_2) rfl rfl so0 (by omega) (a0 := A) (a1 := S) (a2 := Ds) (a3 := c3) (a4 := x4) (a5 := .dat (mkD mk)) (a6 := .dat (dfD d)) (a7 := c7) (a8 := .no) (a9 := .no)
  have q2 := fun c7 => upper_comp (w := W_law_5) (fe := C_law_4) rfl rfl so0 (by omega) (a0 := A) (a1 := S) (a2 := Ds) (a3 := c3) (a4 := x4) (a5 := .dat (mkD mk)) (a6 := .dat (dfD d)) (a7 := c7) (a8 := .no) (a9 := .no)
  have ea : fApp (.str "z") (.list ((ddL (au mk d)).map .str)) = some (.list ((ddL (au mk d) ++ [("z" : Str)]).map .str)) := fAppS (a := ddL (au mk d)) (x := "z") (by omega)
  have k1 : ∀ c : En, kAt2 ((mkn d).map PyData.str) (some (.str "z", false, c)) = some (.none, false, c) := fun c => kAt2_s (by rw [List.length_map]; have := mkn_len h; exact Nat.lt_of_le_of_lt this (by decide))
  have k2 : ∀ c : En, kAt2 (((ddL (au [] d)).filter up1).map PyData.str) (some (.str "z", false, c)) = some (.none, false, c) := fun c => kAt2_s (by rw [List.length_map]; exact Nat.lt_of_le_of_lt lu (by decide))
  have kb : ∀ (c : En), kCB2 c (some (PyData.list ((ddL (au mk d)).map .str), true)) = some (PyData.list ((ddL (au mk d)).map .str), true, c) := fun c => kCB2_of nm
  rw [show mkD [] = .dict [] from rfl] at g8 g9
  refine ⟨.own (.list ((ddL (au mk d) ++ [("z" : Str)]).map .str)), ?_, rfl⟩
  rw [lb_eq]
  subst h3
  have q1a := q1 (.own (.list ((ddL (au mk d)).map .str)))
  have q2a := q2 (.own (.list ((ddL (au mk d) ++ [("z" : Str)]).map .str)))
  clear q1 q2
  generalize (ddL (au mk d) ++ [("z" : Str)]).map PyData.str = RZ at *
  generalize (ddL (au mk d)).map PyData.str = R at *
  generalize ((ddL (au [] d)).filter up1).map PyData.str = U at *
  generalize (ddL (au [] d)).map PyData.str = R0 at *
  generalize (mkn d).map PyData.str = MN at *
  generalize dfD d = DD at *
  generalize mkD mk = M at *
  rcases h5 with rfl | rfl
  · simp -implicitDefEqProofs [lbt0, lb0, g1, g2, g3, lbt1, lb1, g4, h7, lbt2, lb2, g5, kb, g6, lbt3, lb3, g7, g8, q1a, g11, lbt4, lb4, ea, lbt5, lb5, k1, lbt6, lb6, k2, lbt7, lb7, g9, g10, lbt8, lb8, q2a, lbt9, lb9, lbt10, lb10]
  · simp -implicitDefEqProofs [lbt0, lb0, g1, g2, g3, lbt1, lb1, g4, h7, lbt2, lb2, g5, kb, g6, lbt3, lb3, g7, g8, q1a, g11, lbt4, lb4, ea, lbt5, lb5, k1, lbt6, lb6, k2, lbt7, lb7, g9, g10, lbt8, lb8, q2a, lbt9, lb9, lbt10, lb10]
end My
end
section
set_option Elab.async false
set_option linter.all false
set_option maxRecDepth 100000
set_option maxHeartbeats 8000000
namespace My
open PySem PySem.Spec PyProof.Rows L2 Qp
def ll0 : SX := sAsg 1 (evA gLstD (evCons (evA (gN 1 (F__law_draws)) (evCons (evVar 0) (evNil))) (evCons (evC (.int 20)) (evNil))))
def ll1 : SX := sAsg 2 (evCI 1 (F__law_definitions) 1 (evNil))
def ll2 : SX := sAsg 3 (evDnew)
def ll3 : SX := sFor (ixSeq (evA gLstD (evCons (evC (.str "Leaf")) (evCons (evC (.str "Node")) (evCons (evC (.str "One")) (evCons (evC (.str "Two")) (evCons (evC (.str "Six")) (evCons (evC (.str "Nought")) (evNil))))))))) (gx 4) (L_law_1)
def ll4 : SX := sAsg 5 (evV1 gCopyD 3)
def ll5 : SX := sFor (ixSeq (evVar 2)) (gx 6) (L_law_6)
def ll6 : SX := sAsg 8 (evA gTupD (evCons (evC (.str "name")) (evCons (evC (.str "deepest")) (evNil))))
def ll7 : SX := sFor (ixR1 (evCons (evCI 2 (F__law_next) 1 (evCons (evC (.int 41)) (evNil))) (evNil))) (gx 9) (L_law_7)
def ll8 : SX := sIf (evNotT (evT (evA (gN 2 (F__law_same 8)) (evCons (evA (gN 2 (F_uses)) (evCons (evA gTupD (evCons (evC (.str "view")) (evCons (evC (.str "q")) (evCons (evVar 8) (evNil))))) (evCons (evVar 5) (evNil)))) (evCons (evA gLstD (evCons (evC (.str "deepest")) (evNil))) (evNil)))))) (sRet (evC (.bool false))) (sNx)
def ll9 : SX := sRet (evCB (gN 2 (F__law_is_dict)) (evCons (evVar 5) (evBor 3 (evNil))))
def llt9 : SX := ll9
def llt8 : SX := sSeq (ll8) (llt9)
def llt7 : SX := sSeq (ll7) (llt8)
def llt6 : SX := sSeq (ll6) (llt7)
def llt5 : SX := sSeq (ll5) (llt6)
def llt4 : SX := sSeq (ll4) (llt5)
def llt3 : SX := sSeq (ll3) (llt4)
def llt2 : SX := sSeq (ll2) (llt3)
def llt1 : SX := sSeq (ll1) (llt2)
def llt0 : SX := sSeq (ll0) (llt1)
theorem ll_eq : b_law = llt0 := rfl
def mkE (mk : Mks) : List (D × D) := mk.map fun p => (.str p.1, .str p.2)
theorem mkD_E (mk : Mks) : mkD mk = .dict (mkE mk) := rfl
def mput (ls : Mks) (n : Str) (k : Str) : Mks := if ls.any (fun p => n == p.1) = true then ls.map (fun p => if (n == p.1) = true then (p.1, k) else p) else ls ++ [(n, k)]
theorem put_mk (ls : Mks) (n k : Str) : putD (mkE ls) (.inr n) (.str k) = mkE (mput ls n k) := by
  have e : (mkE ls).any (fun p => isK (.inr n) p.1) = ls.any (fun p => n == p.1) := by
    unfold mkE
    rw [List.any_map]
    exact List.any_congr rfl fun p => isK_str n p.1
  unfold putD mput
  rw [e]
  split
  · unfold mkE
    rw [List.map_map, List.map_map]
    refine List.map_congr_left fun p _ => ?_
    show (if isK (.inr n) (.str p.1) = true then _ else _) = _
    rw [isK_str]
    show _ = ((.str (if (n == p.1) = true then (p.1, k) else p).1, .str (if (n == p.1) = true then (p.1, k) else p).2) : D × D)
    split <;> rfl
  · unfold mkE
    rw [List.map_append]
    rfl
structure MGo (n : Nat) (mk : Mks) : Prop where
  ln : mk.length ≤ n
  ok : ∀ p ∈ mk, Sok p.1 ∧ Sok p.2
theorem mput_ok {m : Nat} {ls : Mks} {n k : Str} (h : MGo m ls) (hn : Sok n) (hk : Sok k) : MGo (m + 1) (mput ls n k) := by
  unfold mput
  split
  · refine ⟨by rw [List.length_map]; exact Nat.le_succ_of_le h.ln, fun p hp => ?_⟩
    obtain ⟨q, hq, rfl⟩ := List.mem_map.mp hp
    split
    · exact ⟨(h.ok q hq).1, hk⟩
    · exact h.ok q hq
  · refine ⟨by rw [List.length_append, List.length_singleton]; exact Nat.succ_le_succ h.ln, fun p hp => ?_⟩
    rcases List.mem_append.mp hp with hp | hp
    · exact h.ok p hp
    · rw [List.mem_singleton.mp hp]; exact ⟨hn, hk⟩
theorem MGo.val {m : Nat} {mk : Mks} (h : MGo m mk) {p : Str × Str} (hp : p ∈ mk) : ∃ v, valD (mkE mk) (.inr p.1) = some (.str v) ∧ Sok v := by
  have e : valD (mkE mk) (.inr p.1) = (mk.find? fun q => p.1 == q.1).map (fun q => PyData.str q.2) := by
    unfold valD mkE
    clear h hp
    induction mk with
    | nil => rfl
    | cons q r ih =>
      rw [List.map_cons, List.find?_cons, List.find?_cons]
      show ((match isK (.inr p.1) (.str q.1) with | true => _ | false => _) : Option (D × D)).map _ = _
      rw [isK_str]
      cases (p.1 == q.1) with
      | true => rfl
      | false => exact ih
  cases f : mk.find? (fun q => p.1 == q.1) with
  | none =>
    have := List.find?_eq_none.mp f p hp
    simp at this
  | some q => exact ⟨q.2, by rw [e, f]; rfl, (h.ok q (List.mem_of_find?_eq_some f)).2⟩
def M6 : List Str := ["Leaf", "Node", "One", "Two", "Six", "Nought"]
theorem makers_ok {A Ds : Cell} : ∀ (ns : List Str) (d : D) (mk : Mks) (m : Nat) (x4 : Cell), Stt d → MGo m mk → (∀ n ∈ ns, Sok n) → m + ns.length ≤ 50 → kNo (some x4) = true →
    ∃ (mk' : Mks) (d' : D) (y4 : Cell), loopF (gx 4) L_law_1 (ns.map .str) [A, .own d, Ds, .own (.dict (mkE mk)), x4, .no, .no, .no, .no, .no, .no] = some (.nx [A, .own d', Ds, .own (.dict (mkE mk')), y4, .no, .no, .no, .no, .no, .no]) ∧ Stt d' ∧ MGo 50 mk'
  | [], d, mk, m, x4, h, hm, _, hl, _ => ⟨mk, d, x4, by simp, h, ⟨Nat.le_trans hm.ln (by simp at hl; omega), hm.ok⟩⟩
  | n :: r, d, mk, m, x4, h, hm, hn, hl, h4 => by
    rw [List.length_cons] at hl
    obtain ⟨v1, d1, e1, h1, p1, q1⟩ := next_ok h (lim := 3) (by decide)
    have hln := hm.ln
    by_cases hv : 0 < v1
    · obtain ⟨v2, d2, e2, h2, p2, q2⟩ := next_ok h1 (lim := 3) (by decide)
      obtain ⟨s, hs, ea⟩ := name_at (ns := ["d", "e", "dd"]) p2 q2
      have so : Sok s := by
        have : ∀ s ∈ (["d", "e", "dd"] : List Str), s ∈ NMS := by decide +kernel
        exact this s hs
      simp only [List.map_cons, List.map_nil] at ea
      have gp : fPut (.inr n) (.str s) (.dict (mkE mk)) = some (.dict (mkE (mput mk n s))) := by
        rw [fPut_of (by unfold mkE; rw [List.length_map]; exact Nat.lt_of_lt_of_le (by omega : _ < 100) (by decide)), put_mk]
      obtain ⟨mk', d', y4, q, a1, a2⟩ := makers_ok (A := A) (Ds := Ds) r d2 (mput mk n s) (m + 1) (.dat (.str n)) h2 (mput_ok hm (hn n List.mem_cons_self) so) (fun x hx => hn x (List.mem_cons_of_mem _ hx)) (by omega) rfl
      refine ⟨mk', d', y4, ?_, a1, a2⟩
      rw [List.map_cons, loopF_step (c1 := [A, .own d, Ds, .own (.dict (mkE mk)), .dat (.str n), .no, .no, .no, .no, .no, .no]) (c2 := [A, .own d2, Ds, .own (.dict (mkE (mput mk n s))), .dat (.str n), .no, .no, .no, .no, .no, .no]) (by simp [h4]) ?_, q]
      clear q
      generalize mkE (mput mk n s) = M2 at *
      generalize mkE mk = M at *
      have gl : gLstD [.str "d", .str "e", .str "dd"] = some (.list [.str "d", .str "e", .str "dd"], true) := rfl
      simp -implicitDefEqProofs [L_law_1, e1, hv, gl, e2, ea, gp]
    · obtain ⟨mk', d', y4, q, a1, a2⟩ := makers_ok (A := A) (Ds := Ds) r d1 mk m (.dat (.str n)) h1 hm (fun x hx => hn x (List.mem_cons_of_mem _ hx)) (by omega) rfl
      refine ⟨mk', d', y4, ?_, a1, a2⟩
      rw [List.map_cons, loopF_step (c1 := [A, .own d, Ds, .own (.dict (mkE mk)), .dat (.str n), .no, .no, .no, .no, .no, .no]) (c2 := [A, .own d1, Ds, .own (.dict (mkE mk)), .dat (.str n), .no, .no, .no, .no, .no, .no]) (by simp [h4]) ?_, q]
      have hv' : decide (0 < v1) = false := decide_eq_false hv
      generalize mkE mk = M at *
      simp -implicitDefEqProofs [L_law_1, e1, hv']
theorem defs_check {mk : Mks} (hm : MkOk mk) {A S Ds x4 : Cell} : ∀ (ds : List Df) (c5 x6 x7 : Cell), (∀ d ∈ ds, DOk d) → (c5 = .own (mkD mk) ∨ c5 = .dat (mkD mk)) → kNo (some x6) = true → kNo (some x7) = true →
    ∃ y5 y6 y7, loopF (gx 6) L_law_6 (ds.map dfD) [A, S, Ds, .own (mkD mk), x4, c5, x6, x7, .no, .no, .no] = some (.nx [A, S, Ds, .own (mkD mk), x4, y5, y6, y7, .no, .no, .no]) ∧ (y5 = .own (mkD mk) ∨ y5 = .dat (mkD mk))
  | [], c5, x6, x7, _, h5, _, _ => ⟨c5, x6, x7, by simp, h5⟩
  | d :: r, c5, x6, x7, ho, h5, h6, h7 => by
    obtain ⟨y7, e, k7⟩ := lb_ok hm (ho d List.mem_cons_self) (A := A) (S := S) (Ds := Ds) (c3 := .own (mkD mk)) (x4 := x4) (c5 := c5) (x7 := x7) rfl h5 h7
    obtain ⟨z5, z6, z7, q, a1⟩ := defs_check hm (A := A) (S := S) (Ds := Ds) (x4 := x4) r (.dat (mkD mk)) (.dat (dfD d)) y7 (fun x hx => ho x (List.mem_cons_of_mem _ hx)) (.inr rfl) rfl k7
    refine ⟨z5, z6, z7, ?_, a1⟩
    rw [List.map_cons, loopF_step (c1 := [A, S, Ds, .own (mkD mk), x4, c5, .dat (dfD d), x7, .no, .no, .no]) (by simp [h6]) e, q]
structure Dp (mk : Mks) (n : Nat) (e : E) : Prop where
  ok : EOk (n + 1) e
  sz : nd e ≤ 1 + 5 * n
  ul : ∀ l : List Str, (∀ s ∈ l, s = "y") → us mk e l = [("deepest" : Str)]
theorem deep_loop {mk : Mks} {A Ds c3 x4 c5 x6 x7 : Cell} {d : D} (h : Stt d) (n : Nat) : ∀ (i : Nat) (d : D) (e : E) (x9 : Cell), Stt d → Dp mk (n - i) e → i ≤ n → kNo (some x9) = true →
    ∃ (e' : E) (d' : D) (y9 : Cell), loopF (gx 9) L_law_7 ((List.range' (n - i) i).map fun k : Nat => PyData.int (k : Int)) [A, .own d, Ds, c3, x4, c5, x6, x7, .dat (encE e), x9, .no] = some (.nx [A, .own d', Ds, c3, x4, c5, x6, x7, .dat (encE e'), y9, .no]) ∧ Stt d' ∧ Dp mk n e'
  | 0, d, e, x9, h, he, _, _ => ⟨e, d, x9, by simp, h, he⟩
  | i + 1, d, e, x9, h, he, hi, h9 => by
    obtain ⟨v, d1, e1, h1, p1, q1⟩ := next_ok h (lim := 2) (by decide)
    have hni : n - (i + 1) + 1 = n - i := by omega
    obtain ⟨e2, ea, h2⟩ : ∃ e2, atD [.tuple [.str "let", .str "y", .tuple [.str "number", .int ((n - (i + 1) : Nat) : Int)], encE e], .tuple [.str "binary", .str "+", encE e, .tuple [.str "number", .int ((n - (i + 1) : Nat) : Int)]]] v = some (encE e2) ∧ Dp mk (n - i) e2 := by
      have ny : Sok "y" := sok_d (by decide +kernel)
      have : v = 0 ∨ v = 1 := by omega
      rcases this with rfl | rfl
      · refine ⟨.lett "y" (.num ((n - (i + 1) : Nat) : Int)) e, by simp [encE], ⟨⟨ny, ?_, ?_⟩, ?_, ?_⟩⟩
        · rw [← hni]; trivial
        · rw [← hni]; exact he.ok
        · have := he.sz; simp only [nd]; omega
        · intro l hl
          show ([] : List Str) ++ us mk e (l ++ [("y" : Str)]) = _
          rw [List.nil_append]
          exact he.ul _ (fun s hs => by
            rcases List.mem_append.mp hs with hs | hs
            · exact hl s hs
            · exact List.mem_singleton.mp hs)
      · refine ⟨.bin "+" e (.num ((n - (i + 1) : Nat) : Int)), by simp [encE], ⟨⟨trivial, ?_, ?_⟩, ?_, ?_⟩⟩
        · rw [← hni]; exact he.ok
        · rw [← hni]; trivial
        · have := he.sz; simp only [nd]; omega
        · intro l hl
          show us mk e l ++ ([] : List Str) = _
          rw [List.append_nil]
          exact he.ul l hl
    obtain ⟨e', d', y9, q, a1, a2⟩ := deep_loop (mk := mk) (A := A) (Ds := Ds) (c3 := c3) (x4 := x4) (c5 := c5) (x6 := x6) (x7 := x7) h n i d1 e2 (.dat (.int ((n - (i + 1) : Nat) : Int))) h1 h2 (by omega) rfl
    refine ⟨e', d', y9, ?_, a1, a2⟩
    rw [List.range'_succ, List.map_cons, hni, loopF_step (c1 := [A, .own d, Ds, c3, x4, c5, x6, x7, .dat (encE e), .dat (.int ((n - (i + 1) : Nat) : Int)), .no]) (c2 := [A, .own d1, Ds, c3, x4, c5, x6, x7, .dat (encE e2), .dat (.int ((n - (i + 1) : Nat) : Int)), .no]) (by simp [h9]) ?_, q]
    clear q
    generalize encE e2 = E2 at *
    generalize encE e = E1 at *
    generalize ((n - (i + 1) : Nat) : Int) = N at *
    simp -implicitDefEqProofs [L_law_7, e1, ea]
theorem is_dict_loop {m : Nat} {mk : Mks} (h : MGo m mk) {A B : Cell} (hA : A = .dat (mkD mk)) (hB : B = .dat (mkD mk)) : ∀ (r : Mks) (x2 : Cell), (∀ p ∈ r, p ∈ mk) → kNo (some x2) = true → ∃ y2, loopF (gx 2) L__law_is_dict_1 (r.map fun p => PyData.str p.1) [A, B, x2] = some (.nx [A, B, y2])
  | [], x2, _, _ => ⟨x2, by simp⟩
  | p :: r, x2, hr, h2 => by
    obtain ⟨v, ev, sv⟩ := h.val (hr p List.mem_cons_self)
    obtain ⟨y2, q⟩ := is_dict_loop h hA hB r (.dat (.str p.1)) (fun x hx => hr x (List.mem_cons_of_mem _ hx)) rfl
    refine ⟨y2, ?_⟩
    rw [List.map_cons, loopF_step (c1 := [A, B, .dat (.str p.1)]) (c2 := [A, B, .dat (.str p.1)]) (by simp [h2]) ?_, q]
    have hs : F__law_same 8 [.str v, .str v] = some (.bool true, false) := same_refl 8 _ (nm_facts v sv).1
    subst hA hB
    rw [mkD_E]
    clear q
    generalize mkE mk = M at *
    simp -implicitDefEqProofs [L__law_is_dict_1, ev, hs]
theorem is_dict_ok {m : Nat} {mk : Mks} (h : MGo m mk) : F__law_is_dict [mkD mk, mkD mk] = some (.bool true, false) := by
  obtain ⟨y2, q⟩ := is_dict_loop h (A := .dat (mkD mk)) (B := .dat (mkD mk)) rfl rfl mk .no (fun p hp => hp) rfl
  show runP 2 1 b__law_is_dict [_, _] = _
  unfold runP b__law_is_dict
  rw [mkD_E] at *
  have e : (mkE mk).map (·.1) = mk.map fun p => PyData.str p.1 := by unfold mkE; rw [List.map_map]; rfl
  rw [← e] at q
  generalize mkE mk = M at *
  simp -implicitDefEqProofs [q]
theorem main : ∀ ns : List Int, ns.length ≤ 63 → F_law [.list (ns.map .int)] = some (.bool true, false) := by
  intro ns hns
  obtain ⟨dr, e0, hd⟩ := draws_ok hns
  have h0 : Stt (.list [dr, .int 20]) := ⟨dr, 20, rfl, hd, by decide⟩
  obtain ⟨ds, d1, e1, h1, o1, l1⟩ := definitions_ok h0
  obtain ⟨mk, d2, y4, e2, h2, m2⟩ := makers_ok (A := .dat (.list (ns.map .int))) (Ds := .dat (.list (ds.map dfD))) M6 d1 [] 0 .no h1 ⟨by simp, by simp⟩ (fun n hn => (by decide +kernel : ∀ n ∈ M6, n ∈ NMS) n hn) (by decide) rfl
  have mo : MkOk mk := fun p hp => (m2.ok p hp).2
  obtain ⟨y5, y6, y7, e3, h5⟩ := defs_check mo (A := .dat (.list (ns.map .int))) (S := .own d2) (Ds := .dat (.list (ds.map dfD))) (x4 := y4) ds (.own (mkD mk)) .no .no o1 (.inl rfl) rfl rfl
  obtain ⟨v, d3, e4, h3, p3, q3⟩ := next_ok h2 (lim := 41) (by decide)
  obtain ⟨n, rfl⟩ := Int.eq_ofNat_of_zero_le p3
  have dp0 : Dp mk 0 (.name "deepest") := ⟨sok_d (by decide +kernel), by simp [nd], fun l hl => by
    have : l.contains "deepest" = false := by
      rw [Bool.eq_false_iff]
      intro z
      have := hl _ (List.contains_iff_mem.mp z)
      exact absurd this (by decide +kernel)
    show (if l.contains "deepest" = true then [] else [("deepest" : Str)]) = _
    rw [this]
    rfl⟩
  obtain ⟨e, d4, y9, e5, h4, dp⟩ := deep_loop (mk := mk) (A := .dat (.list (ns.map .int))) (Ds := .dat (.list (ds.map dfD))) (c3 := .own (mkD mk)) (x4 := y4) (c5 := y5) (x6 := y6) (x7 := y7) h3 n n d3 (.name "deepest") .no h3 (by rw [Nat.sub_self]; exact dp0) (Nat.le_refl _) rfl
  rw [Nat.sub_self, ← List.range_eq_range', ← rngD_map] at e5
  have dok : DOk (.view "q" e) := ⟨sok_d (by decide +kernel), ⟨dp.ok.up (by omega), by have := dp.sz; unfold SZ; omega⟩⟩
  have au1 : au mk (.view "q" e) = [("deepest" : Str)] := dp.ul [] (by simp)
  have g1 := uses_ok (mk := mk) dok (by rw [au1]; simp)
  rw [au1] at g1
  have g2 : F__law_same 8 [.list [.str "deepest"], .list [.str "deepest"]] = some (.bool true, false) := same_strs (l := ["deepest"]) (fun s hs => (by decide +kernel : ∀ s ∈ [("deepest" : Str)], s ∈ NMS) s hs) (by simp)
  have g3 := is_dict_ok m2
  have hsm : Qp.small (n : Int) = true := by unfold Qp.small; simp; omega
  have r1 : ∀ c : En, kR1 (some ([PyData.int (n : Int)], c)) = some (rngD 0 n, c) := fun c => by rw [kR1_of hsm]; rfl
  have gl : gLstD [.str "Leaf", .str "Node", .str "One", .str "Two", .str "Six", .str "Nought"] = some (.list (M6.map .str), true) := rfl
  have gd : (ddL [("deepest" : Str)]).map PyData.str = [.str "deepest"] := rfl
  rw [gd] at g1
  rw [show encE (.name "deepest") = .tuple [.str "name", .str "deepest"] from rfl] at e5
  rw [show dfD (.view "q" e) = .tuple [.str "view", .str "q", encE e] from rfl] at g1
  show runP 1 10 b_law [_] = _
  rw [ll_eq]
  unfold runP
  rw [show mkE [] = [] from rfl, ← mkD_E] at e2
  clear m2 mo dok au1 dp dp0
  have gM : ∃ es, mkD mk = .dict es := ⟨_, rfl⟩
  obtain ⟨es, gM⟩ := gM
  generalize M6.map PyData.str = M6' at *
  generalize ds.map dfD = DS at *
  generalize ns.map PyData.int = NS' at *
  generalize encE e = EE at *
  have k1 : ∀ c : En, kCB2 c (some (PyData.bool true, false)) = some (.bool true, false, c) := fun c => rfl
  rcases h5 with rfl | rfl
  · rw [gM] at e2 e3 e5 g1 g3
    simp -implicitDefEqProofs [llt0, ll0, e0, llt1, ll1, e1, llt2, ll2, llt3, ll3, gl, e2, llt4, ll4, llt5, ll5, e3, llt6, ll6, llt7, ll7, e4, r1, e5, llt8, ll8, g1, g2, llt9, ll9, g3]
  · rw [gM] at e2 e3 e5 g1 g3
    simp -implicitDefEqProofs [llt0, ll0, e0, llt1, ll1, e1, llt2, ll2, llt3, ll3, gl, e2, llt4, ll4, llt5, ll5, e3, llt6, ll6, llt7, ll7, e4, r1, e5, llt8, ll8, g1, g2, llt9, ll9, g3]
end My
end
section
set_option Elab.async false
set_option linter.all false
set_option maxRecDepth 100000
set_option maxHeartbeats 4000000
namespace My
open PySem PySem.Spec PyProof.Rows L2 Qp
structure Tx (K : PySem.W.Frag) (mg : Str → Option Value) : Prop where
  b_bool : mg "bool" = none
  b_dict : mg "dict" = none
  b_int : mg "int" = none
  b_isinstance : mg "isinstance" = none
  b_len : mg "len" = none
  b_list : mg "list" = none
  b_min : mg "min" = none
  b_range : mg "range" = none
  b_str : mg "str" = none
  b_tuple : mg "tuple" = none
  g_PLAIN : ∃ a, mg "PLAIN" = some (.ref a) ∧ TupK K a [.str "num", .str "text", .str "bool"]
section
variable {P : Program} {w : World} {K : PySem.W.Frag} {mg : Str → Option Value} {base : Heap}
theorem ok_makes {f : Addr} {fd : FuncData} (F : Fun K "makes" "makes" s_makes f fd) (T : Tx K mg) : FnOk P w K mg base CX0 1 f fd ["definition"] (spP K 1 F_makes) := by
  refine fn_pureV (P := P) (w := w) (mg := mg) (base := base) (k := 0) F sc_makes rfl rfl (fun cdv A outer s H E hr => ?_)
  exact ⟨_, (dbr_cons (ds_asg (i := 1) sc_makes.nd rfl (by first | exact Or.inl rfl | exact Or.inr rfl) (de_lst (da_cons (de_ixV (dv 0) de_int) da_nil)))
    (dbr_cons (ds_if (dt_cmp (op_eqD hr.units) sw_eq.two (de_ixV (dv 0) de_int) de_str) (db_one (ds_expr (de_exA (dv 1) (de_lc rfl sc_makes.nd (di_seq (de_ixV (dv 0) de_int)) (blkOk_by (own := [("maker", 2), ("_", 3)]) (N := N_makes) (sc := defScope s_makes) (by decide +kernel)) (fun _ _ _ _ _ => ⟨_, (dg_tup rfl (dgs_cons (dg_name (i := 2) sc_makes.nd rfl (by first | exact Or.inl rfl | exact Or.inr rfl)) (dgs_cons (dg_name (i := 3) sc_makes.nd rfl (by first | exact Or.inl rfl | exact Or.inr rfl)) dgs_nil)))⟩) (fun _ _ _ _ _ => ⟨_, dts_nil⟩) (fun _ _ _ _ _ => ⟨_, (dv 2)⟩))))) db_nil)
    (dbr_ret (dv 1))))⟩
theorem ok__kind_names {f : Addr} {fd : FuncData} (F : Fun K "_kind_names" "_kind_names" s__kind_names f fd) (T : Tx K mg) : FnOk P w K mg base CX0 1 f fd ["kinds"] (spP K 1 F__kind_names) := by
  refine fn_pure (P := P) (w := w) (mg := mg) (base := base) (k := 0) F sc__kind_names rfl rfl (fun cdv A outer s H E hr => ?_)
  exact ⟨_, (db_one (ds_ret (de_lc rfl sc__kind_names.nd (di_seq (dv 0)) (blkOk_by (own := [("_", 1), ("base", 2)]) (N := N__kind_names) (sc := defScope s__kind_names) (by decide +kernel)) (fun _ _ _ _ _ => ⟨_, (dg_tup rfl (dgs_cons (dg_name (i := 1) sc__kind_names.nd rfl (by first | exact Or.inl rfl | exact Or.inr rfl)) (dgs_cons (dg_name (i := 2) sc__kind_names.nd rfl (by first | exact Or.inl rfl | exact Or.inr rfl)) dgs_nil)))⟩) (fun _ _ _ _ _ => ⟨_, (dts_one (dt_cmp op_notIn_seq sw_in.two (dv 2) (de_globTc (vs := [.str "num", .str "text", .str "bool"]) T.g_PLAIN rfl (by rfl))))⟩) (fun _ _ _ _ _ => ⟨_, (dv 2)⟩))))⟩
theorem ok__law_mix {f : Addr} {fd : FuncData} (F : Fun K "_law_mix" "_law_mix" s__law_mix f fd) (T : Tx K mg) : FnOk P w K mg base CX0 1 f fd ["cell", "k"] (spP K 2 F__law_mix) := by
  refine fn_pure (P := P) (w := w) (mg := mg) (base := base) (k := 0) F sc__law_mix rfl rfl (fun cdv A outer s H E hr => ?_)
  exact ⟨_, (db_cons (ds_asg (i := 2) sc__law_mix.nd rfl (by first | exact Or.inl rfl | exact Or.inr rfl) (de_op op_mod sr_mod (de_cT (call_int1) sc_int (by rfl) T.b_int (by decide +kernel) (da_cons (de_op op_addD sw_add.two (de_op op_addD sw_add.two (de_op op_mul sr_mul (de_cT (call_int1) sc_int (by rfl) T.b_int (by decide +kernel) (da_cons (dv 0) da_nil)) de_int) (de_op op_mul sr_mul (dv 1) de_int)) de_int) da_nil)) de_int))
    (db_cons (ds_asg (i := 2) sc__law_mix.nd rfl (by first | exact Or.inl rfl | exact Or.inr rfl) (de_op op_mod sr_mod (de_cT (call_int1) sc_int (by rfl) T.b_int (by decide +kernel) (da_cons (de_op op_addD sw_add.two (de_op op_addD sw_add.two (de_op op_mul sr_mul (dv 2) (dv 2)) (de_op op_mul sr_mul (dv 1) de_int)) de_int) da_nil)) de_int))
    (db_one (ds_ret (de_op op_mod sr_mod (de_op op_fdivW sr_fdivW (dv 2) de_int) de_int)))))⟩
theorem ok__law_is_integer {f : Addr} {fd : FuncData} (F : Fun K "_law_is_integer" "_law_is_integer" s__law_is_integer f fd) (T : Tx K mg) : FnOk P w K mg base CX0 1 f fd ["actual"] (spP K 1 F__law_is_integer) := by
  refine fn_pure (P := P) (w := w) (mg := mg) (base := base) (k := 0) F sc__law_is_integer rfl rfl (fun cdv A outer s H E hr => ?_)
  exact ⟨_, (db_one (ds_ret (de_and (de_isiV (n := "int") (by rfl) T.b_isinstance (by rfl) T.b_int (by decide +kernel) (dv 0)) (de_one (de_not (de_isiV (n := "bool") (by rfl) T.b_isinstance (by rfl) T.b_bool (by decide +kernel) (dv 0)))))))⟩
theorem ok__law_locals {f : Addr} {fd : FuncData} (F : Fun K "_law_locals" "_law_locals" s__law_locals f fd) (T : Tx K mg) : FnOk P w K mg base CX0 1 f fd ["local"] (spP K 1 F__law_locals) := by
  refine fn_pure (P := P) (w := w) (mg := mg) (base := base) (k := 0) F sc__law_locals rfl rfl (fun cdv A outer s H E hr => ?_)
  exact ⟨_, (db_cons (ds_asg (i := 1) sc__law_locals.nd rfl (by first | exact Or.inl rfl | exact Or.inr rfl) de_dnew)
    (db_cons (ds_for PassesOwn.never rfl (di_seq (dv 0)) (dg_tup rfl (dgs_cons (dg_name (i := 2) sc__law_locals.nd rfl (by first | exact Or.inl rfl | exact Or.inr rfl)) (dgs_cons (dg_name (i := 3) sc__law_locals.nd rfl (by first | exact Or.inl rfl | exact Or.inr rfl)) dgs_nil))) (db_one (ds_dput (hu_of hr) (dv 1) (dv 2) (dv 3))))
    (db_one (ds_ret (dv 1)))))⟩
theorem ok__law_kinds {f : Addr} {fd : FuncData} (F : Fun K "_law_kinds" "_law_kinds" s__law_kinds f fd) (T : Tx K mg) : FnOk P w K mg base CX0 1 f fd [] (spP K 0 F__law_kinds) := by
  refine fn_pure (P := P) (w := w) (mg := mg) (base := base) (k := 0) F sc__law_kinds rfl rfl (fun cdv A outer s H E hr => ?_)
  exact ⟨_, (db_one (ds_ret (de_lst (da_cons (de_tup (da_cons de_int (da_cons de_str da_nil))) (da_cons (de_tup (da_cons de_int (da_cons de_str da_nil))) (da_cons (de_tup (da_cons de_int (da_cons de_str da_nil))) (da_cons (de_tup (da_cons de_int (da_cons de_str da_nil))) (da_cons (de_tup (da_cons de_int (da_cons de_str da_nil))) (da_cons (de_tup (da_cons de_int (da_cons de_str da_nil))) (da_cons (de_tup (da_cons de_int (da_cons de_str da_nil))) (da_cons (de_tup (da_cons de_int (da_cons de_str da_nil))) (da_cons (de_tup (da_cons de_int (da_cons de_str da_nil))) da_nil))))))))))))⟩
theorem ok__law_makes {f : Addr} {fd : FuncData} (F : Fun K "_law_makes" "_law_makes" s__law_makes f fd) (T : Tx K mg) : FnOk P w K mg base CX0 1 f fd ["definition"] (spP K 1 F__law_makes) := by
  refine fn_pure (P := P) (w := w) (mg := mg) (base := base) (k := 0) F sc__law_makes rfl rfl (fun cdv A outer s H E hr => ?_)
  exact ⟨_, (db_cons (ds_asg (i := 1) sc__law_makes.nd rfl (by first | exact Or.inl rfl | exact Or.inr rfl) (de_lst (da_cons (de_ixV (dv 0) de_int) da_nil)))
    (db_cons (ds_if (dt_cmp (op_eqD hr.units) sw_eq.two (de_ixV (dv 0) de_int) de_str) (db_one (ds_asg (i := 1) sc__law_makes.nd rfl (by first | exact Or.inl rfl | exact Or.inr rfl) (de_opV op_addD sw_add (dv 1) (de_lc rfl sc__law_makes.nd (di_seq (de_ixV (dv 0) de_int)) (blkOk_by (own := [("maker", 2), ("kinds", 3)]) (N := N__law_makes) (sc := defScope s__law_makes) (by decide +kernel)) (fun _ _ _ _ _ => ⟨_, (dg_tup rfl (dgs_cons (dg_name (i := 2) sc__law_makes.nd rfl (by first | exact Or.inl rfl | exact Or.inr rfl)) (dgs_cons (dg_name (i := 3) sc__law_makes.nd rfl (by first | exact Or.inl rfl | exact Or.inr rfl)) dgs_nil)))⟩) (fun _ _ _ _ _ => ⟨_, dts_nil⟩) (fun _ _ _ _ _ => ⟨_, (dv 2)⟩))))) db_nil)
    (db_one (ds_ret (dv 1)))))⟩
theorem ok__law_used_data {f : Addr} {fd : FuncData} (F : Fun K "_law_used_data" "_law_used_data" s__law_used_data f fd) (T : Tx K mg) : FnOk P w K mg base CX0 1 f fd ["kinds"] (spP K 1 F__law_used_data) := by
  refine fn_pure (P := P) (w := w) (mg := mg) (base := base) (k := 0) F sc__law_used_data rfl rfl (fun cdv A outer s H E hr => ?_)
  exact ⟨_, (db_one (ds_ret (de_lc rfl sc__law_used_data.nd (di_seq (dv 0)) (blkOk_by (own := [("levels", 1), ("base", 2)]) (N := N__law_used_data) (sc := defScope s__law_used_data) (by decide +kernel)) (fun _ _ _ _ _ => ⟨_, (dg_tup rfl (dgs_cons (dg_name (i := 1) sc__law_used_data.nd rfl (by first | exact Or.inl rfl | exact Or.inr rfl)) (dgs_cons (dg_name (i := 2) sc__law_used_data.nd rfl (by first | exact Or.inl rfl | exact Or.inr rfl)) dgs_nil)))⟩) (fun _ _ _ _ _ => ⟨_, (dts_one (dt_cmp op_notIn_seq sw_in.two (dv 2) (de_lst (da_cons de_str (da_cons de_str (da_cons de_str da_nil))))))⟩) (fun _ _ _ _ _ => ⟨_, (dv 2)⟩))))⟩
theorem ok__law_draws {f : Addr} {fd : FuncData} (F : Fun K "_law_draws" "_law_draws" s__law_draws f fd) (T : Tx K mg) (c__law_mix : Cal P w K mg base "_law_mix" 1 ["cell", "k"] (spP K 2 (F__law_mix))) : FnOk P w K mg base CX0 2 f fd ["script"] (spP K 1 F__law_draws) := by
  refine fn_pure (P := P) (w := w) (mg := mg) (base := base) (k := 1) F sc__law_draws rfl rfl (fun cdv A outer s H E hr => ?_)
  exact ⟨_, (db_cons (ds_asg (i := 1) sc__law_draws.nd rfl (by first | exact Or.inl rfl | exact Or.inr rfl) (de_lst da_nil))
    (db_cons (ds_for PassesOwn.never rfl (di_r1 (by rfl) T.b_range (da_cons (de_cB (call_min2 rfl) sc_min2 (by rfl) T.b_min (by decide +kernel) (da_cons de_int (da_cons (de_cBV call_len sw_len (by rfl) T.b_len PySem.boot_len (dv 0)) da_nil))) da_nil)) (dg_name (i := 2) sc__law_draws.nd rfl (by first | exact Or.inl rfl | exact Or.inr rfl)) (db_cons (ds_asg (i := 3) sc__law_draws.nd rfl (by first | exact Or.inl rfl | exact Or.inr rfl) (de_cT (call_int1) sc_int (by rfl) T.b_int (by decide +kernel) (da_cons (de_ixV (dv 0) (dv 2)) da_nil)))
    (db_one (ds_if (dt_cmp op_lt sr_lt (dv 3) (de_op op_pow sr_pow de_int de_int)) (db_one (ds_expr (de_app (dv 1) (dc c__law_mix (hr.mono (by decide)) (da_cons (dv 3) (da_cons (dv 2) da_nil)))))) (db_one (ds_for PassesOwn.never rfl (di_r1 (by rfl) T.b_range (da_cons de_int da_nil)) (dg_name (i := 4) sc__law_draws.nd rfl (by first | exact Or.inl rfl | exact Or.inr rfl)) (db_one (ds_if (dt_cmp op_gt sr_gt (dv 3) de_int) (db_cons (ds_expr (de_app (dv 1) (de_op op_mod sr_mod (de_cT (call_int1) sc_int (by rfl) T.b_int (by decide +kernel) (da_cons (dv 3) da_nil)) de_int)))
    (db_one (ds_asg (i := 3) sc__law_draws.nd rfl (by first | exact Or.inl rfl | exact Or.inr rfl) (de_op op_fdivW sr_fdivW (dv 3) de_int)))) db_nil))))))))
    (db_one (ds_ret (dv 1)))))⟩
theorem ok__law_at {f : Addr} {fd : FuncData} (F : Fun K "_law_at" "_law_at" s__law_at f fd) (T : Tx K mg) (c__law_mix : Cal P w K mg base "_law_mix" 1 ["cell", "k"] (spP K 2 (F__law_mix))) : FnOk P w K mg base CX0 2 f fd ["draws", "index"] (spP K 2 F__law_at) := by
  refine fn_pure (P := P) (w := w) (mg := mg) (base := base) (k := 1) F sc__law_at rfl rfl (fun cdv A outer s H E hr => ?_)
  exact ⟨_, (db_cons (ds_if (dt_cmp op_lt sr_lt (dv 1) (de_cBV call_len sw_len (by rfl) T.b_len PySem.boot_len (dv 0))) (db_one (ds_ret (de_ixV (dv 0) (dv 1)))) db_nil)
    (db_cons (ds_if (dt_cmp (op_eqD hr.units) sw_eq.two (de_cBV call_len sw_len (by rfl) T.b_len PySem.boot_len (dv 0)) de_int) (db_one (ds_ret (dc c__law_mix (hr.mono (by decide)) (da_cons (dv 1) (da_cons de_int da_nil))))) db_nil)
    (db_one (ds_ret (dc c__law_mix (hr.mono (by decide)) (da_cons (de_op op_addD sw_add.two (de_ixV (dv 0) (de_op op_mod sr_mod (de_cT (call_int1) sc_int (by rfl) T.b_int (by decide +kernel) (da_cons (dv 1) da_nil)) (de_cBV call_len sw_len (by rfl) T.b_len PySem.boot_len (dv 0)))) (de_op op_mul sr_mul (dv 1) de_int)) (da_cons (dv 1) da_nil)))))))⟩
theorem ok__law_next {f : Addr} {fd : FuncData} (F : Fun K "_law_next" "_law_next" s__law_next f fd) (T : Tx K mg) (c__law_at : Cal P w K mg base "_law_at" 2 ["draws", "index"] (spP K 2 (F__law_at))) : FnOk P w K mg base CX0 3 f fd ["state", "limit"] (spI K 2 F__law_next) := by
  refine fn_inout (P := P) (w := w) (mg := mg) (base := base) (k := 2) F sc__law_next rfl rfl (fun cdv A outer s H E hr => ?_)
  exact ⟨_, (db_cons (ds_augIx (dv 0) de_int ip_add sr_ipadd de_int)
    (db_one (ds_ret (de_op op_mod sr_mod (dc c__law_at (hr.mono (by decide)) (da_cons (de_ixV (dv 0) de_int) (da_cons (de_ixV (dv 0) de_int) da_nil))) (dv 1)))))⟩
theorem ok__law_drawn_kind {f : Addr} {fd : FuncData} (F : Fun K "_law_drawn_kind" "_law_drawn_kind" s__law_drawn_kind f fd) (T : Tx K mg) (c__law_next : Cal P w K mg base "_law_next" 3 ["state", "limit"] (spI K 2 (F__law_next))) (c__law_kinds : Cal P w K mg base "_law_kinds" 1 [] (spP K 0 (F__law_kinds))) : FnOk P w K mg base CX0 4 f fd ["state"] (spI K 1 F__law_drawn_kind) := by
  refine fn_inout (P := P) (w := w) (mg := mg) (base := base) (k := 3) F sc__law_drawn_kind rfl rfl (fun cdv A outer s H E hr => ?_)
  exact ⟨_, (db_one (ds_ret (de_ix (dc0 c__law_kinds (hr.mono (by decide))) (dcI c__law_next (hr.mono (by decide)) (dv 0) (da_cons de_int da_nil)))))⟩
theorem ok__law_plain {f : Addr} {fd : FuncData} (F : Fun K "_law_plain" "_law_plain" s__law_plain f fd) (T : Tx K mg) (c__law_next : Cal P w K mg base "_law_next" 3 ["state", "limit"] (spI K 2 (F__law_next))) : FnOk P w K mg base CX0 4 f fd ["state", "kind"] (spI K 2 F__law_plain) := by
  refine fn_inout (P := P) (w := w) (mg := mg) (base := base) (k := 3) F sc__law_plain rfl rfl (fun cdv A outer s H E hr => ?_)
  exact ⟨_, (db_cons (ds_if (dt_cmp op_gt sr_gt (de_ixV (dv 1) de_int) de_int) (db_one (ds_ret (de_tup (da_cons de_str (da_cons (de_tup da_nil) da_nil))))) db_nil)
    (db_cons (ds_if (dt_cmp (op_eqD hr.units) sw_eq.two (de_ixV (dv 1) de_int) de_str) (db_one (ds_ret (de_tup (da_cons de_str (da_cons (dcI c__law_next (hr.mono (by decide)) (dv 0) (da_cons de_int da_nil)) da_nil))))) db_nil)
    (db_cons (ds_if (dt_cmp (op_eqD hr.units) sw_eq.two (de_ixV (dv 1) de_int) de_str) (db_one (ds_ret (de_tup (da_cons de_str (da_cons (de_ix (de_lst (da_cons de_str (da_cons de_str (da_cons de_str da_nil)))) (dcI c__law_next (hr.mono (by decide)) (dv 0) (da_cons de_int da_nil))) da_nil))))) db_nil)
    (db_cons (ds_if (dt_cmp (op_eqD hr.units) sw_eq.two (de_ixV (dv 1) de_int) de_str) (db_one (ds_ret (de_tup (da_cons de_str (da_cons (de_cmp (op_eqD hr.units) sw_eq.two (dcI c__law_next (hr.mono (by decide)) (dv 0) (da_cons de_int da_nil)) de_int) da_nil))))) db_nil)
    (db_one (ds_ret (de_tup (da_cons de_str (da_cons (de_ix (de_lst (da_cons de_str (da_cons de_str da_nil))) (de_cT (call_int1) sc_int (by rfl) T.b_int (by decide +kernel) (da_cons (de_cmp (op_eqD hr.units) sw_eq.two (de_ixV (dv 1) de_int) de_str) da_nil))) (da_cons (de_tup da_nil) da_nil))))))))))⟩
theorem ok__law_names {f : Addr} {fd : FuncData} (F : Fun K "_law_names" "_law_names" s__law_names f fd) (T : Tx K mg) (c__law_next : Cal P w K mg base "_law_next" 3 ["state", "limit"] (spI K 2 (F__law_next))) : FnOk P w K mg base CX0 4 f fd ["state", "count"] (spI K 2 F__law_names) := by
  refine fn_inout (P := P) (w := w) (mg := mg) (base := base) (k := 3) F sc__law_names rfl rfl (fun cdv A outer s H E hr => ?_)
  exact ⟨_, (db_cons (ds_asg (i := 2) sc__law_names.nd rfl (by first | exact Or.inl rfl | exact Or.inr rfl) (de_lst (da_cons de_str (da_cons de_str (da_cons de_str (da_cons de_str (da_cons de_str da_nil)))))))
    (db_cons (ds_asg (i := 3) sc__law_names.nd rfl (by first | exact Or.inl rfl | exact Or.inr rfl) (dcI c__law_next (hr.mono (by decide)) (dv 0) (da_cons de_int da_nil)))
    (db_cons (ds_lc (i := 4) rfl sc__law_names.nd rfl rfl (sw_true rfl rfl rfl (by decide +kernel)) (di_r1 (by rfl) T.b_range (da_cons (dv 1) da_nil)) (blkOk_by (own := [("k", 5)]) (N := N__law_names) (sc := defScope s__law_names) (by decide +kernel)) (fun _ _ _ _ _ => ⟨_, (dg_name (i := 5) sc__law_names.nd rfl (by first | exact Or.inl rfl | exact Or.inr rfl))⟩) (fun _ _ _ _ _ => ⟨_, dts_nil⟩) (fun _ _ _ _ _ => ⟨_, (de_ixV (dv 2) (de_op op_mod sr_mod (de_opV op_addD sw_add (dv 3) (dv 5)) de_int))⟩))
    (db_cons (ds_if (DW.dt (dw_and (dt_cmp op_gt sr_gt (dv 1) de_int) (dw_and1 (dt_cmp (op_eqD hr.units) sw_eq.two (dcI c__law_next (hr.mono (by decide)) (dv 0) (da_cons de_int da_nil)) de_int)))) (db_one (ds_set (dv 4) de_int (de_ixV (dv 4) de_int))) db_nil)
    (db_one (ds_ret (de_cTV call_tuple_of sw_tuple (by rfl) T.b_tuple (by decide +kernel) (dv 4))))))))⟩
theorem ok__law_plan {f : Addr} {fd : FuncData} (F : Fun K "_law_plan" "_law_plan" s__law_plan f fd) (T : Tx K mg) (c__law_next : Cal P w K mg base "_law_next" 3 ["state", "limit"] (spI K 2 (F__law_next))) (c__law_drawn_kind : Cal P w K mg base "_law_drawn_kind" 4 ["state"] (spI K 1 (F__law_drawn_kind))) : FnOk P w K mg base CX0 5 f fd ["state"] (spI K 1 F__law_plan) := by
  refine fn_inout (P := P) (w := w) (mg := mg) (base := base) (k := 4) F sc__law_plan rfl rfl (fun cdv A outer s H E hr => ?_)
  exact ⟨_, (db_cons (ds_asg (i := 1) sc__law_plan.nd rfl (by first | exact Or.inl rfl | exact Or.inr rfl) de_dnew)
    (db_cons (ds_dput (hu_of hr) (dv 1) de_str (de_tup (da_cons de_str (da_cons (de_tup (da_cons (de_tup (da_cons de_str (da_cons (de_tup da_nil) da_nil))) (da_cons (de_tup (da_cons de_str (da_cons (de_tup (da_cons (dcI c__law_drawn_kind (hr.mono (by decide)) (dv 0) da_nil) (da_cons (dcI c__law_drawn_kind (hr.mono (by decide)) (dv 0) da_nil) da_nil))) da_nil))) da_nil))) da_nil))))
    (db_cons (ds_dput (hu_of hr) (dv 1) de_str (de_tup (da_cons de_str (da_cons (de_tup (da_cons (de_tup (da_cons de_str (da_cons (de_tup (da_cons (dcI c__law_drawn_kind (hr.mono (by decide)) (dv 0) da_nil) da_nil)) da_nil))) (da_cons (de_tup (da_cons de_str (da_cons (de_tup da_nil) da_nil))) da_nil))) da_nil))))
    (db_cons (ds_if (dt_cmp (op_eqD hr.units) sw_eq.two (dcI c__law_next (hr.mono (by decide)) (dv 0) (da_cons de_int da_nil)) de_int) (db_cons (ds_asg (i := 2) sc__law_plan.nd rfl (by first | exact Or.inl rfl | exact Or.inr rfl) (de_cT call_tuple_of sw_tuple.all (by rfl) T.b_tuple (by decide +kernel) (da_cons (de_lc rfl sc__law_plan.nd (di_r1 (by rfl) T.b_range (da_cons de_int da_nil)) (blkOk_by (own := [("k", 4)]) (N := N__law_plan) (sc := defScope s__law_plan) (by decide +kernel)) (fun _ _ _ _ _ => ⟨_, (dg_name (i := 4) sc__law_plan.nd rfl (by first | exact Or.inl rfl | exact Or.inr rfl))⟩) (fun _ _ _ _ _ => ⟨_, dts_nil⟩) (fun _ _ _ _ _ => ⟨_, (dcI c__law_drawn_kind (hr.mono (by decide)) (dv 0) da_nil)⟩)) da_nil)))
    (db_one (ds_dput (hu_of hr) (dv 1) de_str (de_tup (da_cons de_str (da_cons (de_op op_addD sw_add.two (de_ix (de_dgetV (hu_of hr) (dv 1) de_str) de_int) (de_tup (da_cons (de_tup (da_cons de_str (da_cons (dv 2) da_nil))) (da_cons (de_tup (da_cons de_str (da_cons (de_tup da_nil) da_nil))) da_nil)))) da_nil)))))) db_nil)
    (db_cons (ds_if (dt_cmp (op_eqD hr.units) sw_eq.two (dcI c__law_next (hr.mono (by decide)) (dv 0) (da_cons de_int da_nil)) de_int) (db_one (ds_dput (hu_of hr) (dv 1) de_str (de_tup (da_cons de_str (da_cons (de_tup (da_cons (de_tup (da_cons de_str (da_cons (de_tup (da_cons (de_tup (da_cons de_int (da_cons de_str da_nil))) da_nil)) da_nil))) (da_cons (de_tup (da_cons (de_ix (de_lst (da_cons de_str (da_cons de_str da_nil))) (dcI c__law_next (hr.mono (by decide)) (dv 0) (da_cons de_int da_nil))) (da_cons (de_tup da_nil) da_nil))) da_nil))) da_nil))))) db_nil)
    (db_cons (ds_for PassesOwn.never rfl (di_seq (de_lst (da_cons de_str (da_cons de_str (da_cons de_str (da_cons de_str da_nil)))))) (dg_name (i := 3) sc__law_plan.nd rfl (by first | exact Or.inl rfl | exact Or.inr rfl)) (db_cons (ds_asg (i := 2) sc__law_plan.nd rfl (by first | exact Or.inl rfl | exact Or.inr rfl) (de_cT call_tuple_of sw_tuple.all (by rfl) T.b_tuple (by decide +kernel) (da_cons (de_lc rfl sc__law_plan.nd (di_r1 (by rfl) T.b_range (da_cons (de_ix (de_lst (da_cons de_int (da_cons de_int (da_cons de_int (da_cons de_int (da_cons de_int (da_cons de_int (da_cons de_int da_nil)))))))) (dcI c__law_next (hr.mono (by decide)) (dv 0) (da_cons de_int da_nil))) da_nil)) (blkOk_by (own := [("k", 4)]) (N := N__law_plan) (sc := defScope s__law_plan) (by decide +kernel)) (fun _ _ _ _ _ => ⟨_, (dg_name (i := 4) sc__law_plan.nd rfl (by first | exact Or.inl rfl | exact Or.inr rfl))⟩) (fun _ _ _ _ _ => ⟨_, dts_nil⟩) (fun _ _ _ _ _ => ⟨_, (dcI c__law_drawn_kind (hr.mono (by decide)) (dv 0) da_nil)⟩)) da_nil)))
    (db_one (ds_dput (hu_of hr) (dv 1) (dv 3) (de_tup (da_cons de_str (da_cons (dv 2) (da_cons (dcI c__law_drawn_kind (hr.mono (by decide)) (dv 0) da_nil) da_nil))))))))
    (db_cons (ds_for PassesOwn.never rfl (di_seq (de_lst (da_cons de_str (da_cons de_str da_nil)))) (dg_name (i := 3) sc__law_plan.nd rfl (by first | exact Or.inl rfl | exact Or.inr rfl)) (db_one (ds_dput (hu_of hr) (dv 1) (dv 3) (de_tup (da_cons de_str (da_cons (de_tup da_nil) (da_cons (dcI c__law_drawn_kind (hr.mono (by decide)) (dv 0) da_nil) da_nil)))))))
    (db_cons (ds_for PassesOwn.never rfl (di_seq (de_lst (da_cons de_str (da_cons de_str da_nil)))) (dg_name (i := 3) sc__law_plan.nd rfl (by first | exact Or.inl rfl | exact Or.inr rfl)) (db_one (ds_dput (hu_of hr) (dv 1) (dv 3) (de_tup (da_cons de_str (da_cons (de_tup da_nil) (da_cons (dcI c__law_drawn_kind (hr.mono (by decide)) (dv 0) da_nil) da_nil)))))))
    (db_cons (ds_for PassesOwn.never rfl (di_seq (de_lst (da_cons de_str (da_cons de_str da_nil)))) (dg_name (i := 3) sc__law_plan.nd rfl (by first | exact Or.inl rfl | exact Or.inr rfl)) (db_cons (ds_asg (i := 2) sc__law_plan.nd rfl (by first | exact Or.inl rfl | exact Or.inr rfl) (de_cT call_tuple_of sw_tuple.all (by rfl) T.b_tuple (by decide +kernel) (da_cons (de_lc rfl sc__law_plan.nd (di_r1 (by rfl) T.b_range (da_cons (dcI c__law_next (hr.mono (by decide)) (dv 0) (da_cons de_int da_nil)) da_nil)) (blkOk_by (own := [("k", 4)]) (N := N__law_plan) (sc := defScope s__law_plan) (by decide +kernel)) (fun _ _ _ _ _ => ⟨_, (dg_name (i := 4) sc__law_plan.nd rfl (by first | exact Or.inl rfl | exact Or.inr rfl))⟩) (fun _ _ _ _ _ => ⟨_, dts_nil⟩) (fun _ _ _ _ _ => ⟨_, (dcI c__law_drawn_kind (hr.mono (by decide)) (dv 0) da_nil)⟩)) da_nil)))
    (db_one (ds_dput (hu_of hr) (dv 1) (dv 3) (de_tup (da_cons de_str (da_cons (dv 2) (da_cons (dcI c__law_drawn_kind (hr.mono (by decide)) (dv 0) da_nil) da_nil))))))))
    (db_one (ds_ret (dv 1))))))))))))⟩
theorem ok__law_same {f : Addr} {fd : FuncData} (F : Fun K "_law_same" "_law_same" s__law_same f fd) (T : Tx K mg) (c__law_is_integer : Cal P w K mg base "_law_is_integer" 1 ["actual"] (spP K 1 (F__law_is_integer))) (b : Binds K fd ["actual", "expected"] []) (m : mg "_law_same" = some (.ref f)) : ∀ k : Nat, FnOk P w K mg base CX0 (1 + k) f fd ["actual", "expected"] (spP K 2 (F__law_same k))
  | 0 => (fn_none rfl).mono (Nat.zero_le _)
  | k + 1 => by
    have ih := ok__law_same F T c__law_is_integer b m k
    have c__law_same : Cal P w K mg base "_law_same" (1 + k) ["actual", "expected"] (spP K 2 (F__law_same k)) := ⟨f, fd, ih, b, F.kp, m⟩
    show FnOk P w K mg base CX0 ((1 + k) + 1) f fd ["actual", "expected"] (spP K 2 (runP 2 1 (b__law_same (F__law_same k))))
    refine fn_pure (P := P) (w := w) (mg := mg) (base := base) F sc__law_same rfl rfl (fun cdv A outer s H E hr => ?_)
    exact ⟨_, (db_cons (ds_if (dt_val (de_isiTV (by rfl) T.b_isinstance (tya_cons (by rfl) T.b_list (by decide +kernel) (tya_cons (by rfl) T.b_tuple (by decide +kernel) tya_nil)) (dv 1))) (db_cons (ds_if (DW.dt (dw_or (dt_cmp (op_neD hr.units) sw_ne.two (de_isiV (n := "list") (by rfl) T.b_isinstance (by rfl) T.b_list (by decide +kernel) (dv 1)) (de_isiV (n := "list") (by rfl) T.b_isinstance (by rfl) T.b_list (by decide +kernel) (dv 0))) (dw_or1 (dt_cmp (op_neD hr.units) sw_ne.two (de_isiV (n := "tuple") (by rfl) T.b_isinstance (by rfl) T.b_tuple (by decide +kernel) (dv 1)) (de_isiV (n := "tuple") (by rfl) T.b_isinstance (by rfl) T.b_tuple (by decide +kernel) (dv 0)))))) (db_one (ds_ret de_bl)) db_nil)
    (db_cons (ds_if (dt_cmp (op_neD hr.units) sw_ne.two (de_cBV call_len sw_len (by rfl) T.b_len PySem.boot_len (dv 0)) (de_cBV call_len sw_len (by rfl) T.b_len PySem.boot_len (dv 1))) (db_one (ds_ret de_bl)) db_nil)
    (db_cons (ds_for PassesOwn.never rfl (di_r1 (by rfl) T.b_range (da_cons (de_cBV call_len sw_len (by rfl) T.b_len PySem.boot_len (dv 1)) da_nil)) (dg_name (i := 2) sc__law_same.nd rfl (by first | exact Or.inl rfl | exact Or.inr rfl)) (db_one (ds_if (dt_not (dt_val (dc c__law_same (hr.mono (by omega)) (da_cons (de_ixV (dv 0) (dv 2)) (da_cons (de_ixV (dv 1) (dv 2)) da_nil))))) (db_one (ds_ret de_bl)) db_nil)))
    (db_one (ds_ret de_bl))))) db_nil)
    (db_cons (ds_if (dt_cmp op_isN sr_isN (dv 1) de_non) (db_one (ds_ret (de_cmp op_isN sr_isN (dv 0) de_non))) db_nil)
    (db_cons (ds_if (dt_val (de_isiV (n := "bool") (by rfl) T.b_isinstance (by rfl) T.b_bool (by decide +kernel) (dv 1))) (db_one (ds_ret (de_and (de_isiV (n := "bool") (by rfl) T.b_isinstance (by rfl) T.b_bool (by decide +kernel) (dv 0)) (de_one (de_cmpV (op_eqD hr.units) sw_eq (dv 0) (dv 1)))))) db_nil)
    (db_cons (ds_if (dt_val (de_isiV (n := "int") (by rfl) T.b_isinstance (by rfl) T.b_int (by decide +kernel) (dv 1))) (db_one (ds_ret (de_and (dc c__law_is_integer (hr.mono (by omega)) (da_cons (dv 0) da_nil)) (de_one (de_cmpV (op_eqD hr.units) sw_eq (dv 0) (dv 1)))))) db_nil)
    (db_one (ds_ret (de_and (de_isiV (n := "str") (by rfl) T.b_isinstance (by rfl) T.b_str (by decide +kernel) (dv 0)) (de_one (de_cmpV (op_eqD hr.units) sw_eq (dv 0) (dv 1))))))))))⟩
theorem ok__law_is_dict {f : Addr} {fd : FuncData} (F : Fun K "_law_is_dict" "_law_is_dict" s__law_is_dict f fd) (T : Tx K mg) (c__law_same : Cal P w K mg base "_law_same" 9 ["actual", "expected"] (spP K 2 (F__law_same 8))) : FnOk P w K mg base CX0 10 f fd ["actual", "expected"] (spP K 2 F__law_is_dict) := by
  refine fn_pure (P := P) (w := w) (mg := mg) (base := base) (k := 9) F sc__law_is_dict rfl rfl (fun cdv A outer s H E hr => ?_)
  exact ⟨_, (db_cons (ds_if (DW.dt (dw_or (dt_not (dt_val (de_isiV (n := "dict") (by rfl) T.b_isinstance (by rfl) T.b_dict (by decide +kernel) (dv 0)))) (dw_or1 (dt_cmp (op_neD hr.units) sw_ne.two (de_cBV call_lenR sw_lenD (by rfl) T.b_len PySem.boot_len (dv 0)) (de_cBV call_lenR sw_lenD (by rfl) T.b_len PySem.boot_len (dv 1)))))) (db_one (ds_ret de_bl)) db_nil)
    (db_cons (ds_forK PassesOwn.never rfl (dv 1) (dg_name (i := 2) sc__law_is_dict.nd rfl (by first | exact Or.inl rfl | exact Or.inr rfl)) (db_one (ds_if (DW.dt (dw_or (dt_dnotinV (hu_of hr) (dv 2) (dv 0)) (dw_or1 (dt_not (dt_val (dc c__law_same (hr.mono (by decide)) (da_cons (de_dgetV (hu_of hr) (dv 0) (dv 2)) (da_cons (de_dgetV (hu_of hr) (dv 1) (dv 2)) da_nil)))))))) (db_one (ds_ret de_bl)) db_nil)))
    (db_one (ds_ret de_bl))))⟩
theorem ok_grp__law_term {f__law_term f__law_choice f__law_made : Addr} {fd__law_term fd__law_choice fd__law_made : FuncData} (F__law_term : Fun K "_law_term" "_law_term" s__law_term f__law_term fd__law_term) (F__law_choice : Fun K "_law_choice" "_law_choice" s__law_choice f__law_choice fd__law_choice) (F__law_made : Fun K "_law_made" "_law_made" s__law_made f__law_made fd__law_made) (T : Tx K mg) (c__law_next : Cal P w K mg base "_law_next" 3 ["state", "limit"] (spI K 2 (F__law_next))) (c__law_locals : Cal P w K mg base "_law_locals" 1 ["local"] (spP K 1 (F__law_locals))) (c__law_drawn_kind : Cal P w K mg base "_law_drawn_kind" 4 ["state"] (spI K 1 (F__law_drawn_kind))) (c__law_plain : Cal P w K mg base "_law_plain" 4 ["state", "kind"] (spI K 2 (F__law_plain))) (c__law_names : Cal P w K mg base "_law_names" 4 ["state", "count"] (spI K 2 (F__law_names))) (b__law_term : Binds K fd__law_term ["state", "plan", "local", "kind", "depth", "steady"] []) (b__law_choice : Binds K fd__law_choice ["state", "plan", "local", "kind", "depth", "steady"] []) (b__law_made : Binds K fd__law_made ["state", "plan", "local", "kind", "depth", "steady"] []) (m__law_term : mg "_law_term" = some (.ref f__law_term)) (m__law_choice : mg "_law_choice" = some (.ref f__law_choice)) (m__law_made : mg "_law_made" = some (.ref f__law_made)) : ∀ k : Nat, (FnOk P w K mg base CX0 (4 + k) f__law_term fd__law_term ["state", "plan", "local", "kind", "depth", "steady"] (spI K 6 (My.F__law_term k))) ∧ (FnOk P w K mg base CX0 (4 + k) f__law_choice fd__law_choice ["state", "plan", "local", "kind", "depth", "steady"] (spI K 6 (My.F__law_choice k))) ∧ (FnOk P w K mg base CX0 (4 + k) f__law_made fd__law_made ["state", "plan", "local", "kind", "depth", "steady"] (spI K 6 (My.F__law_made k)))
  | 0 => ⟨(fn_noneI rfl).mono (Nat.zero_le _), (fn_noneI rfl).mono (Nat.zero_le _), (fn_noneI rfl).mono (Nat.zero_le _)⟩
  | k + 1 => by
    have ih := ok_grp__law_term F__law_term F__law_choice F__law_made T c__law_next c__law_locals c__law_drawn_kind c__law_plain c__law_names b__law_term b__law_choice b__law_made m__law_term m__law_choice m__law_made k
    have c__law_term : Cal P w K mg base "_law_term" (4 + k) ["state", "plan", "local", "kind", "depth", "steady"] (spI K 6 (My.F__law_term k)) := ⟨f__law_term, fd__law_term, ih.1, b__law_term, F__law_term.kp, m__law_term⟩
    have c__law_choice : Cal P w K mg base "_law_choice" (4 + k) ["state", "plan", "local", "kind", "depth", "steady"] (spI K 6 (My.F__law_choice k)) := ⟨f__law_choice, fd__law_choice, ih.2.1, b__law_choice, F__law_choice.kp, m__law_choice⟩
    have c__law_made : Cal P w K mg base "_law_made" (4 + k) ["state", "plan", "local", "kind", "depth", "steady"] (spI K 6 (My.F__law_made k)) := ⟨f__law_made, fd__law_made, ih.2.2, b__law_made, F__law_made.kp, m__law_made⟩
    refine ⟨?_, ?_, ?_⟩
    · show FnOk P w K mg base CX0 ((4 + k) + 1) f__law_term fd__law_term ["state", "plan", "local", "kind", "depth", "steady"] (spI K 6 (runI 6 4 (My.b__law_term (My.F__law_term k) (My.F__law_choice k) (My.F__law_made k))))
      refine fn_inout (P := P) (w := w) (mg := mg) (base := base) F__law_term sc__law_term rfl rfl (fun cdv A outer s H E hr => ?_)
      exact ⟨_, (db_cons (ds_if (dt_cmp (op_eqD hr.units) sw_eq.two (dcI c__law_next (hr.mono (by omega)) (dv 0) (da_cons de_int da_nil)) de_int) (db_one (ds_asg (i := 3) sc__law_term.nd rfl (by first | exact Or.inl rfl | exact Or.inr rfl) (dcI c__law_drawn_kind (hr.mono (by omega)) (dv 0) da_nil))) db_nil)
    (db_cons (ds_if (dt_cmp (op_eqD hr.units) sw_eq.two (dcI c__law_next (hr.mono (by omega)) (dv 0) (da_cons de_int da_nil)) de_int) (db_one (ds_ret (de_tup (da_cons de_str (da_cons (de_ix (de_lst (da_cons de_str (da_cons de_str (da_cons de_str (da_cons de_str da_nil))))) (dcI c__law_next (hr.mono (by omega)) (dv 0) (da_cons de_int da_nil))) da_nil))))) db_nil)
    (db_cons (ds_asg (i := 6) sc__law_term.nd rfl (by first | exact Or.inl rfl | exact Or.inr rfl) (dc c__law_locals (hr.mono (by omega)) (da_cons (dv 2) da_nil)))
    (db_cons (ds_lcK (j := 7) rfl sc__law_term.nd rfl rfl (sw_true rfl rfl rfl (by decide +kernel)) (dv 6) (blkOk_by (own := [("name", 9)]) (N := N__law_term) (sc := defScope s__law_term) (by decide +kernel)) (fun _ _ _ _ _ => ⟨_, (dg_name (i := 9) sc__law_term.nd rfl (by first | exact Or.inl rfl | exact Or.inr rfl))⟩) (fun _ _ _ _ _ => ⟨_, (dts_one (dt_cmp (op_eqD hr.units) sw_eq.two (de_dgetV (hu_of hr) (dv 6) (dv 9)) (dv 3)))⟩) (fun _ _ _ _ _ => ⟨_, (dv 9)⟩))
    (db_cons (ds_if (dt_not (dt_trV (dv 5))) (db_one (ds_asg (i := 7) sc__law_term.nd rfl (by first | exact Or.inl rfl | exact Or.inr rfl) (de_opV op_addD sw_add (dv 7) (de_lc rfl sc__law_term.nd (di_seq (de_lst (da_cons de_str (da_cons de_str (da_cons de_str (da_cons de_str da_nil)))))) (blkOk_by (own := [("name", 9)]) (N := N__law_term) (sc := defScope s__law_term) (by decide +kernel)) (fun _ _ _ _ _ => ⟨_, (dg_name (i := 9) sc__law_term.nd rfl (by first | exact Or.inl rfl | exact Or.inr rfl))⟩) (fun _ _ _ _ _ => ⟨_, (dts_one (DW.dt (dw_and (dt_dnotinV (hu_of hr) (dv 9) (dv 6)) (dw_and1 (dt_cmp (op_eqD hr.units) sw_eq.two (de_ix (de_dgetV (hu_of hr) (dv 1) (dv 9)) de_int) (dv 3))))))⟩) (fun _ _ _ _ _ => ⟨_, (dv 9)⟩))))) db_nil)
    (db_cons (ds_asg (i := 8) sc__law_term.nd rfl (by first | exact Or.inl rfl | exact Or.inr rfl) (dcI c__law_next (hr.mono (by omega)) (dv 0) (da_cons de_int da_nil)))
    (db_cons (ds_if (DW.dt (dw_and (dt_cmp op_gt sr_gt (de_cBV call_len sw_len (by rfl) T.b_len PySem.boot_len (dv 7)) de_int) (dw_and1 (DW.dt (dw_or (dt_cmp op_lt sr_lt (dv 8) de_int) (dw_or1 (dt_cmpV (op_eqD hr.units) sw_eq (dv 4) de_int))))))) (db_one (ds_ret (de_tup (da_cons de_str (da_cons (de_ixV (dv 7) (dcI c__law_next (hr.mono (by omega)) (dv 0) (da_cons (de_cBV call_len sw_len (by rfl) T.b_len PySem.boot_len (dv 7)) da_nil))) da_nil))))) db_nil)
    (db_cons (ds_if (dt_cmpV (op_eqD hr.units) sw_eq (dv 4) de_int) (db_one (ds_ret (dcI c__law_plain (hr.mono (by omega)) (dv 0) (da_cons (dv 3) da_nil)))) db_nil)
    (db_cons (ds_if (dt_cmp op_lt sr_lt (dv 8) de_int) (db_one (ds_ret (dcI c__law_choice (hr.mono (by omega)) (dv 0) (da_cons (dv 1) (da_cons (dv 2) (da_cons (dv 3) (da_cons (de_op op_sub sr_sub (dv 4) de_int) (da_cons (dv 5) da_nil)))))))) db_nil)
    (db_one (ds_ret (dcI c__law_made (hr.mono (by omega)) (dv 0) (da_cons (dv 1) (da_cons (dv 2) (da_cons (dv 3) (da_cons (de_op op_sub sr_sub (dv 4) de_int) (da_cons (dv 5) da_nil)))))))))))))))))⟩
    · show FnOk P w K mg base CX0 ((4 + k) + 1) f__law_choice fd__law_choice ["state", "plan", "local", "kind", "depth", "steady"] (spI K 6 (runI 6 18 (My.b__law_choice (My.F__law_term k) (My.F__law_choice k) (My.F__law_made k))))
      refine fn_inout (P := P) (w := w) (mg := mg) (base := base) F__law_choice sc__law_choice rfl rfl (fun cdv A outer s H E hr => ?_)
      exact ⟨_, (db_cons (ds_asg (i := 6) sc__law_choice.nd rfl (by first | exact Or.inl rfl | exact Or.inr rfl) (dcI c__law_next (hr.mono (by omega)) (dv 0) (da_cons de_int da_nil)))
    (db_cons (ds_asg (i := 7) sc__law_choice.nd rfl (by first | exact Or.inl rfl | exact Or.inr rfl) (dcI c__law_drawn_kind (hr.mono (by omega)) (dv 0) da_nil))
    (db_cons (ds_if (dt_cmpV (op_eqD hr.units) sw_eq (dv 6) de_int) (db_cons (ds_asg (i := 8) sc__law_choice.nd rfl (by first | exact Or.inl rfl | exact Or.inr rfl) (dcI c__law_term (hr.mono (by omega)) (dv 0) (da_cons (dv 1) (da_cons (dv 2) (da_cons (de_tup (da_cons de_int (da_cons de_str da_nil))) (da_cons (dv 4) (da_cons (dv 5) da_nil)))))))
    (db_cons (ds_asg (i := 9) sc__law_choice.nd rfl (by first | exact Or.inl rfl | exact Or.inr rfl) (dcI c__law_term (hr.mono (by omega)) (dv 0) (da_cons (dv 1) (da_cons (dv 2) (da_cons (dv 3) (da_cons (dv 4) (da_cons (dv 5) da_nil)))))))
    (db_one (ds_ret (de_tup (da_cons de_str (da_cons (dv 8) (da_cons (dv 9) (da_cons (dcI c__law_term (hr.mono (by omega)) (dv 0) (da_cons (dv 1) (da_cons (dv 2) (da_cons (dv 3) (da_cons (dv 4) (da_cons (dv 5) da_nil)))))) da_nil))))))))) db_nil)
    (db_cons (ds_if (dt_cmpV (op_eqD hr.units) sw_eq (dv 6) de_int) (db_cons (ds_asg (i := 10) sc__law_choice.nd rfl (by first | exact Or.inl rfl | exact Or.inr rfl) (de_ix (dcI c__law_names (hr.mono (by omega)) (dv 0) (da_cons de_int da_nil)) de_int))
    (db_cons (ds_asg (i := 8) sc__law_choice.nd rfl (by first | exact Or.inl rfl | exact Or.inr rfl) (dcI c__law_term (hr.mono (by omega)) (dv 0) (da_cons (dv 1) (da_cons (dv 2) (da_cons (dv 7) (da_cons (dv 4) (da_cons (dv 5) da_nil)))))))
    (db_one (ds_ret (de_tup (da_cons de_str (da_cons (dv 10) (da_cons (dv 8) (da_cons (dcI c__law_term (hr.mono (by omega)) (dv 0) (da_cons (dv 1) (da_cons (de_opV op_addD sw_add (dv 2) (de_lst (da_cons (de_tup (da_cons (dv 10) (da_cons (dv 7) da_nil))) da_nil))) (da_cons (dv 3) (da_cons (dv 4) (da_cons (dv 5) da_nil)))))) da_nil))))))))) db_nil)
    (db_cons (ds_if (dt_cmpV (op_eqD hr.units) sw_eq (dv 6) de_int) (db_cons (ds_asgT (dcI c__law_names (hr.mono (by omega)) (dv 0) (da_cons de_int da_nil)) (dg_tup rfl (dgs_cons (dg_name (i := 11) sc__law_choice.nd rfl (by first | exact Or.inl rfl | exact Or.inr rfl)) (dgs_cons (dg_name (i := 12) sc__law_choice.nd rfl (by first | exact Or.inl rfl | exact Or.inr rfl)) dgs_nil))))
    (db_cons (ds_asg (i := 13) sc__law_choice.nd rfl (by first | exact Or.inl rfl | exact Or.inr rfl) (de_tup (da_cons (de_op op_addD sw_add.two (de_ixV (dv 7) de_int) de_int) (da_cons (de_ixV (dv 7) de_int) da_nil))))
    (db_cons (ds_asg (i := 8) sc__law_choice.nd rfl (by first | exact Or.inl rfl | exact Or.inr rfl) (dcI c__law_term (hr.mono (by omega)) (dv 0) (da_cons (dv 1) (da_cons (dv 2) (da_cons (dv 13) (da_cons (dv 4) (da_cons (dv 5) da_nil)))))))
    (db_cons (ds_asg (i := 9) sc__law_choice.nd rfl (by first | exact Or.inl rfl | exact Or.inr rfl) (dcI c__law_term (hr.mono (by omega)) (dv 0) (da_cons (dv 1) (da_cons (dv 2) (da_cons (dv 3) (da_cons (dv 4) (da_cons (dv 5) da_nil)))))))
    (db_cons (ds_asg (i := 14) sc__law_choice.nd rfl (by first | exact Or.inl rfl | exact Or.inr rfl) (de_opV op_addD sw_add (dv 2) (de_lst (da_cons (de_tup (da_cons (dv 11) (da_cons (dv 7) da_nil))) (da_cons (de_tup (da_cons (dv 12) (da_cons (dv 13) da_nil))) da_nil)))))
    (db_one (ds_ret (de_tup (da_cons de_str (da_cons (dv 8) (da_cons (dv 9) (da_cons (dv 11) (da_cons (dv 12) (da_cons (dcI c__law_term (hr.mono (by omega)) (dv 0) (da_cons (dv 1) (da_cons (dv 14) (da_cons (dv 3) (da_cons (dv 4) (da_cons (dv 5) da_nil)))))) da_nil)))))))))))))) db_nil)
    (db_cons (ds_if (dt_cmpV (op_eqD hr.units) sw_eq (dv 6) de_int) (db_cons (ds_asg (i := 15) sc__law_choice.nd rfl (by first | exact Or.inl rfl | exact Or.inr rfl) (de_ix (de_lst (da_cons de_str (da_cons de_str da_nil))) (dcI c__law_next (hr.mono (by omega)) (dv 0) (da_cons de_int da_nil))))
    (db_cons (ds_asg (i := 8) sc__law_choice.nd rfl (by first | exact Or.inl rfl | exact Or.inr rfl) (dcI c__law_term (hr.mono (by omega)) (dv 0) (da_cons (dv 1) (da_cons (dv 2) (da_cons (de_tup (da_cons de_int (da_cons (dv 15) da_nil))) (da_cons (dv 4) (da_cons (dv 5) da_nil)))))))
    (db_cons (ds_asg (i := 16) sc__law_choice.nd rfl (by first | exact Or.inl rfl | exact Or.inr rfl) (de_lst da_nil))
    (db_cons (ds_for PassesOwn.never rfl (di_seq (de_ix (de_dgetV (hu_of hr) (dv 1) (dv 15)) de_int)) (dg_tup rfl (dgs_cons (dg_name (i := 17) sc__law_choice.nd rfl (by first | exact Or.inl rfl | exact Or.inr rfl)) (dgs_cons (dg_name (i := 18) sc__law_choice.nd rfl (by first | exact Or.inl rfl | exact Or.inr rfl)) dgs_nil))) (db_cons (ds_asg (i := 19) sc__law_choice.nd rfl (by first | exact Or.inl rfl | exact Or.inr rfl) (dcI c__law_names (hr.mono (by omega)) (dv 0) (da_cons (de_cBV call_len sw_len (by rfl) T.b_len PySem.boot_len (dv 18)) da_nil)))
    (db_cons (ds_asg (i := 14) sc__law_choice.nd rfl (by first | exact Or.inl rfl | exact Or.inr rfl) (de_opV op_addD sw_add (dv 2) (de_lc rfl sc__law_choice.nd (di_r1 (by rfl) T.b_range (da_cons (de_cBV call_len sw_len (by rfl) T.b_len PySem.boot_len (dv 18)) da_nil)) (blkOk_by (own := [("k", 22)]) (N := N__law_choice) (sc := defScope s__law_choice) (by decide +kernel)) (fun _ _ _ _ _ => ⟨_, (dg_name (i := 22) sc__law_choice.nd rfl (by first | exact Or.inl rfl | exact Or.inr rfl))⟩) (fun _ _ _ _ _ => ⟨_, dts_nil⟩) (fun _ _ _ _ _ => ⟨_, (de_tup (da_cons (de_ixV (dv 19) (dv 22)) (da_cons (de_ixV (dv 18) (dv 22)) da_nil)))⟩))))
    (db_one (ds_expr (de_ins (dv 16) (dcI c__law_next (hr.mono (by omega)) (dv 0) (da_cons (de_op op_addD sw_add.two (de_cBV call_len sw_len (by rfl) T.b_len PySem.boot_len (dv 16)) de_int) da_nil)) (de_tup (da_cons (dv 17) (da_cons (dv 19) (da_cons (dcI c__law_term (hr.mono (by omega)) (dv 0) (da_cons (dv 1) (da_cons (dv 14) (da_cons (dv 3) (da_cons (dv 4) (da_cons (dv 5) da_nil)))))) da_nil))))))))))
    (db_cons (ds_if (dt_cmp (op_eqD hr.units) sw_eq.two (dcI c__law_next (hr.mono (by omega)) (dv 0) (da_cons de_int da_nil)) de_int) (db_one (ds_expr (de_pop (dv 16)))) db_nil)
    (db_cons (ds_if (dt_cmp (op_eqD hr.units) sw_eq.two (dcI c__law_next (hr.mono (by omega)) (dv 0) (da_cons de_int da_nil)) de_int) (db_cons (ds_asg (i := 14) sc__law_choice.nd rfl (by first | exact Or.inl rfl | exact Or.inr rfl) (de_ix (de_lst (da_cons (de_ixV (dv 16) de_int) (da_cons (de_tup (da_cons (de_ix (de_lst (da_cons de_str (da_cons de_str da_nil))) (de_cT (call_int1) sc_int (by rfl) T.b_int (by decide +kernel) (da_cons (de_cmpV (op_eqD hr.units) sw_eq (dv 15) de_str) da_nil))) (da_cons (de_tup da_nil) (da_cons (de_tup (da_cons de_str (da_cons de_int da_nil))) da_nil)))) da_nil))) (dcI c__law_next (hr.mono (by omega)) (dv 0) (da_cons de_int da_nil))))
    (db_one (ds_expr (de_ins (dv 16) (dcI c__law_next (hr.mono (by omega)) (dv 0) (da_cons (de_op op_addD sw_add.two (de_cBV call_len sw_len (by rfl) T.b_len PySem.boot_len (dv 16)) de_int) da_nil)) (dv 14))))) db_nil)
    (db_one (ds_ret (de_tup (da_cons de_str (da_cons (dv 8) (da_cons (de_cT call_tuple_of sw_tuple.all (by rfl) T.b_tuple (by decide +kernel) (da_cons (de_opV op_addD sw_add (dv 16) (de_repL (de_lst (da_cons (de_tup (da_cons de_str (da_cons (de_tup da_nil) (da_cons (de_tup (da_cons de_str (da_cons de_int da_nil))) da_nil)))) da_nil)) (de_cT (call_int1) sc_int (by rfl) T.b_int (by decide +kernel) (da_cons (de_cmp (op_eqD hr.units) sw_eq.two (de_cBV call_len sw_len (by rfl) T.b_len PySem.boot_len (dv 16)) de_int) da_nil)))) da_nil)) da_nil)))))))))))) db_nil)
    (db_cons (ds_if (dt_cmp (op_eqD hr.units) sw_eq.two (dcI c__law_next (hr.mono (by omega)) (dv 0) (da_cons de_int da_nil)) de_int) (db_one (ds_ret (de_tup (da_cons de_str (da_cons (de_ix (de_lst (da_cons de_str (da_cons de_str (da_cons de_str (da_cons de_str (da_cons de_str da_nil)))))) (dcI c__law_next (hr.mono (by omega)) (dv 0) (da_cons de_int da_nil))) (da_cons (de_op op_repTA sr_repTA (de_tup (da_cons (de_tup (da_cons de_str (da_cons de_int da_nil))) da_nil)) (dcI c__law_next (hr.mono (by omega)) (dv 0) (da_cons de_int da_nil))) da_nil)))))) db_nil)
    (db_cons (ds_lc (i := 20) rfl sc__law_choice.nd rfl rfl (sw_true rfl rfl rfl (by decide +kernel)) (di_seq (de_lst (da_cons de_str (da_cons de_str (da_cons de_str (da_cons de_str da_nil)))))) (blkOk_by (own := [("name", 10)]) (N := N__law_choice) (sc := defScope s__law_choice) (by decide +kernel)) (fun _ _ _ _ _ => ⟨_, (dg_name (i := 10) sc__law_choice.nd rfl (by first | exact Or.inl rfl | exact Or.inr rfl))⟩) (fun _ _ _ _ _ => ⟨_, (dts_one (dt_cmp (op_eqD hr.units) sw_eq.two (de_ix (de_dgetV (hu_of hr) (dv 1) (dv 10)) de_int) (dv 3)))⟩) (fun _ _ _ _ _ => ⟨_, (dv 10)⟩))
    (db_cons (ds_if (dt_cmp (op_eqD hr.units) sw_eq.two (de_cBV call_len sw_len (by rfl) T.b_len PySem.boot_len (dv 20)) de_int) (db_one (ds_ret (dcI c__law_plain (hr.mono (by omega)) (dv 0) (da_cons (dv 3) da_nil)))) db_nil)
    (db_cons (ds_asg (i := 10) sc__law_choice.nd rfl (by first | exact Or.inl rfl | exact Or.inr rfl) (de_ixV (dv 20) (dcI c__law_next (hr.mono (by omega)) (dv 0) (da_cons (de_cBV call_len sw_len (by rfl) T.b_len PySem.boot_len (dv 20)) da_nil))))
    (db_cons (ds_lc (i := 21) rfl sc__law_choice.nd rfl rfl (sw_true rfl rfl rfl (by decide +kernel)) (di_seq (de_ix (de_dgetV (hu_of hr) (dv 1) (dv 10)) de_int)) (blkOk_by (own := [("each", 23)]) (N := N__law_choice) (sc := defScope s__law_choice) (by decide +kernel)) (fun _ _ _ _ _ => ⟨_, (dg_name (i := 23) sc__law_choice.nd rfl (by first | exact Or.inl rfl | exact Or.inr rfl))⟩) (fun _ _ _ _ _ => ⟨_, dts_nil⟩) (fun _ _ _ _ _ => ⟨_, (dcI c__law_term (hr.mono (by omega)) (dv 0) (da_cons (dv 1) (da_cons (dv 2) (da_cons (dv 23) (da_cons (dv 4) (da_cons (dv 5) da_nil))))))⟩))
    (db_one (ds_ret (de_tup (da_cons de_str (da_cons (dv 10) (da_cons (de_cT call_tuple_of sw_tuple.all (by rfl) T.b_tuple (by decide +kernel) (da_cons (de_opV op_addD sw_add (dv 21) (de_repL (de_lst (da_cons (de_tup (da_cons de_str (da_cons de_int da_nil))) da_nil)) (de_cT (call_int1) sc_int (by rfl) T.b_int (by decide +kernel) (da_cons (de_cmp (op_eqD hr.units) sw_eq.two (dcI c__law_next (hr.mono (by omega)) (dv 0) (da_cons de_int da_nil)) de_int) da_nil)))) da_nil)) da_nil)))))))))))))))))⟩
    · show FnOk P w K mg base CX0 ((4 + k) + 1) f__law_made fd__law_made ["state", "plan", "local", "kind", "depth", "steady"] (spI K 6 (runI 6 9 (My.b__law_made (My.F__law_term k) (My.F__law_choice k) (My.F__law_made k))))
      refine fn_inout (P := P) (w := w) (mg := mg) (base := base) F__law_made sc__law_made rfl rfl (fun cdv A outer s H E hr => ?_)
      exact ⟨_, (db_cons (ds_if (dt_cmp op_gt sr_gt (de_ixV (dv 3) de_int) de_int) (db_cons (ds_asg (i := 6) sc__law_made.nd rfl (by first | exact Or.inl rfl | exact Or.inr rfl) (de_tup (da_cons (de_op op_sub sr_sub (de_ixV (dv 3) de_int) de_int) (da_cons (de_ixV (dv 3) de_int) da_nil))))
    (db_cons (ds_if (dt_cmp (op_eqD hr.units) sw_eq.two (dcI c__law_next (hr.mono (by omega)) (dv 0) (da_cons de_int da_nil)) de_int) (db_cons (ds_asg (i := 7) sc__law_made.nd rfl (by first | exact Or.inl rfl | exact Or.inr rfl) (dcI c__law_term (hr.mono (by omega)) (dv 0) (da_cons (dv 1) (da_cons (dv 2) (da_cons (dv 6) (da_cons (dv 4) (da_cons (dv 5) da_nil)))))))
    (db_one (ds_ret (de_tup (da_cons de_str (da_cons (dv 7) (da_cons (dcI c__law_term (hr.mono (by omega)) (dv 0) (da_cons (dv 1) (da_cons (dv 2) (da_cons (dv 3) (da_cons (dv 4) (da_cons (dv 5) da_nil)))))) da_nil))))))) db_nil)
    (db_cons (ds_asg (i := 8) sc__law_made.nd rfl (by first | exact Or.inl rfl | exact Or.inr rfl) (dcI c__law_next (hr.mono (by omega)) (dv 0) (da_cons de_int da_nil)))
    (db_one (ds_ret (de_tup (da_cons de_str (da_cons (de_cT call_tuple_of sw_tuple.all (by rfl) T.b_tuple (by decide +kernel) (da_cons (de_lc rfl sc__law_made.nd (di_r1 (by rfl) T.b_range (da_cons (dv 8) da_nil)) (blkOk_by (own := [("k", 13)]) (N := N__law_made) (sc := defScope s__law_made) (by decide +kernel)) (fun _ _ _ _ _ => ⟨_, (dg_name (i := 13) sc__law_made.nd rfl (by first | exact Or.inl rfl | exact Or.inr rfl))⟩) (fun _ _ _ _ _ => ⟨_, dts_nil⟩) (fun _ _ _ _ _ => ⟨_, (dcI c__law_term (hr.mono (by omega)) (dv 0) (da_cons (dv 1) (da_cons (dv 2) (da_cons (dv 6) (da_cons (dv 4) (da_cons (dv 5) da_nil))))))⟩)) da_nil)) da_nil)))))))) db_nil)
    (db_cons (ds_if (dt_cmp op_in_seq sw_in.two (de_ixV (dv 3) de_int) (de_lst (da_cons de_str (da_cons de_str da_nil)))) (db_cons (ds_asgT (de_ix (de_ix (de_dgetV (hu_of hr) (dv 1) (de_ixV (dv 3) de_int)) de_int) (dcI c__law_next (hr.mono (by omega)) (dv 0) (da_cons (de_cB call_len sw_len.all (by rfl) T.b_len PySem.boot_len (da_cons (de_ix (de_dgetV (hu_of hr) (dv 1) (de_ixV (dv 3) de_int)) de_int) da_nil)) da_nil))) (dg_tup rfl (dgs_cons (dg_name (i := 9) sc__law_made.nd rfl (by first | exact Or.inl rfl | exact Or.inr rfl)) (dgs_cons (dg_name (i := 10) sc__law_made.nd rfl (by first | exact Or.inl rfl | exact Or.inr rfl)) dgs_nil))))
    (db_one (ds_ret (de_tup (da_cons de_str (da_cons (dv 9) (da_cons (de_cT call_tuple_of sw_tuple.all (by rfl) T.b_tuple (by decide +kernel) (da_cons (de_lc rfl sc__law_made.nd (di_seq (dv 10)) (blkOk_by (own := [("each", 14)]) (N := N__law_made) (sc := defScope s__law_made) (by decide +kernel)) (fun _ _ _ _ _ => ⟨_, (dg_name (i := 14) sc__law_made.nd rfl (by first | exact Or.inl rfl | exact Or.inr rfl))⟩) (fun _ _ _ _ _ => ⟨_, dts_nil⟩) (fun _ _ _ _ _ => ⟨_, (dcI c__law_term (hr.mono (by omega)) (dv 0) (da_cons (dv 1) (da_cons (dv 2) (da_cons (dv 14) (da_cons (dv 4) (da_cons (dv 5) da_nil))))))⟩)) da_nil)) da_nil))))))) db_nil)
    (db_cons (ds_asg (i := 11) sc__law_made.nd rfl (by first | exact Or.inl rfl | exact Or.inr rfl) (de_dget (hu_of hr) (de_disp (dp_cons de_str (de_lst (da_cons de_str (da_cons de_str (da_cons de_str (da_cons de_str (da_cons de_str da_nil)))))) (dp_cons de_str (de_lst (da_cons de_str da_nil)) (dp_cons de_str (de_lst (da_cons de_str (da_cons de_str (da_cons de_str (da_cons de_str (da_cons de_str da_nil)))))) dp_nil))) rfl rfl (fun z => nomatch z) (by decide)) (de_ixV (dv 3) de_int)))
    (db_cons (ds_asg (i := 11) sc__law_made.nd rfl (by first | exact Or.inl rfl | exact Or.inr rfl) (de_ixV (dv 11) (dcI c__law_next (hr.mono (by omega)) (dv 0) (da_cons (de_cBV call_len sw_len (by rfl) T.b_len PySem.boot_len (dv 11)) da_nil))))
    (db_cons (ds_asg (i := 12) sc__law_made.nd rfl (by first | exact Or.inl rfl | exact Or.inr rfl) (dv 3))
    (db_cons (ds_if (dt_cmpV (op_eqD hr.units) sw_eq (dv 11) de_str) (db_one (ds_asg (i := 12) sc__law_made.nd rfl (by first | exact Or.inl rfl | exact Or.inr rfl) (dcI c__law_drawn_kind (hr.mono (by omega)) (dv 0) da_nil))) db_nil)
    (db_cons (ds_if (dt_cmpV (op_eqD hr.units) sw_eq (dv 11) de_str) (db_one (ds_asg (i := 12) sc__law_made.nd rfl (by first | exact Or.inl rfl | exact Or.inr rfl) (de_tup (da_cons de_int (da_cons de_str da_nil))))) db_nil)
    (db_cons (ds_asg (i := 7) sc__law_made.nd rfl (by first | exact Or.inl rfl | exact Or.inr rfl) (dcI c__law_term (hr.mono (by omega)) (dv 0) (da_cons (dv 1) (da_cons (dv 2) (da_cons (dv 12) (da_cons (dv 4) (da_cons (dv 5) da_nil)))))))
    (db_cons (ds_if (dt_cmpV (op_eqD hr.units) sw_eq (dv 11) de_str) (db_one (ds_ret (de_tup (da_cons de_str (da_cons (dv 7) da_nil))))) db_nil)
    (db_one (ds_ret (de_tup (da_cons de_str (da_cons (dv 11) (da_cons (dv 7) (da_cons (dcI c__law_term (hr.mono (by omega)) (dv 0) (da_cons (dv 1) (da_cons (dv 2) (da_cons (dv 12) (da_cons (dv 4) (da_cons (dv 5) da_nil)))))) da_nil))))))))))))))))⟩
theorem ok__law_definition {f : Addr} {fd : FuncData} (F : Fun K "_law_definition" "_law_definition" s__law_definition f fd) (T : Tx K mg) (c__law_next : Cal P w K mg base "_law_next" 3 ["state", "limit"] (spI K 2 (F__law_next))) (c__law_term : Cal P w K mg base "_law_term" 16 ["state", "plan", "local", "kind", "depth", "steady"] (spI K 6 (F__law_term 12))) (c__law_names : Cal P w K mg base "_law_names" 4 ["state", "count"] (spI K 2 (F__law_names))) : FnOk P w K mg base CX0 17 f fd ["state", "plan", "name"] (spI K 3 F__law_definition) := by
  refine fn_inout (P := P) (w := w) (mg := mg) (base := base) (k := 16) F sc__law_definition rfl rfl (fun cdv A outer s H E hr => ?_)
  exact ⟨_, (db_cons (ds_asg (i := 3) sc__law_definition.nd rfl (by first | exact Or.inl rfl | exact Or.inr rfl) (de_ix (de_dgetV (hu_of hr) (dv 1) (dv 2)) de_int))
    (db_cons (ds_if (dt_cmpV (op_eqD hr.units) sw_eq (dv 3) de_str) (db_one (ds_ret (de_tup (da_cons de_str (da_cons (dv 2) (da_cons (de_ix (de_dgetV (hu_of hr) (dv 1) (dv 2)) de_int) da_nil)))))) db_nil)
    (db_cons (ds_if (dt_cmpV (op_eqD hr.units) sw_eq (dv 3) de_str) (db_one (ds_ret (de_tup (da_cons de_str (da_cons (dv 2) (da_cons (dcI c__law_term (hr.mono (by decide)) (dv 0) (da_cons (dv 1) (da_cons (de_lst da_nil) (da_cons (de_ix (de_dgetV (hu_of hr) (dv 1) (dv 2)) de_int) (da_cons de_int (da_cons de_bl da_nil)))))) da_nil)))))) db_nil)
    (db_cons (ds_if (dt_cmpV (op_eqD hr.units) sw_eq (dv 3) de_str) (db_cons (ds_asg (i := 4) sc__law_definition.nd rfl (by first | exact Or.inl rfl | exact Or.inr rfl) (de_ix (de_lst (da_cons de_non (da_cons de_non (da_cons de_str (da_cons de_str (da_cons de_str (da_cons de_str (da_cons de_str da_nil)))))))) (dcI c__law_next (hr.mono (by decide)) (dv 0) (da_cons de_int da_nil))))
    (db_cons (ds_asg (i := 5) sc__law_definition.nd rfl (by first | exact Or.inl rfl | exact Or.inr rfl) (de_cmp op_gt sr_gt (dcI c__law_next (hr.mono (by decide)) (dv 0) (da_cons de_int da_nil)) de_int))
    (db_one (ds_ret (de_tup (da_cons de_str (da_cons (dv 2) (da_cons (de_ix (de_dgetV (hu_of hr) (dv 1) (dv 2)) de_int) (da_cons (dcI c__law_term (hr.mono (by decide)) (dv 0) (da_cons (dv 1) (da_cons (de_lst da_nil) (da_cons (de_ix (de_dgetV (hu_of hr) (dv 1) (dv 2)) de_int) (da_cons de_int (da_cons (dv 5) da_nil)))))) (da_cons (dv 4) da_nil)))))))))) db_nil)
    (db_cons (ds_asg (i := 6) sc__law_definition.nd rfl (by first | exact Or.inl rfl | exact Or.inr rfl) (dcI c__law_names (hr.mono (by decide)) (dv 0) (da_cons (de_cB call_len sw_len.all (by rfl) T.b_len PySem.boot_len (da_cons (de_ix (de_dgetV (hu_of hr) (dv 1) (dv 2)) de_int) da_nil)) da_nil)))
    (db_cons (ds_lc (i := 7) rfl sc__law_definition.nd rfl rfl (sw_true rfl rfl rfl (by decide +kernel)) (di_r1 (by rfl) T.b_range (da_cons (de_cBV call_len sw_len (by rfl) T.b_len PySem.boot_len (dv 6)) da_nil)) (blkOk_by (own := [("k", 10)]) (N := N__law_definition) (sc := defScope s__law_definition) (by decide +kernel)) (fun _ _ _ _ _ => ⟨_, (dg_name (i := 10) sc__law_definition.nd rfl (by first | exact Or.inl rfl | exact Or.inr rfl))⟩) (fun _ _ _ _ _ => ⟨_, dts_nil⟩) (fun _ _ _ _ _ => ⟨_, (de_tup (da_cons (de_ixV (dv 6) (dv 10)) (da_cons (de_ix (de_ix (de_dgetV (hu_of hr) (dv 1) (dv 2)) de_int) (dv 10)) da_nil)))⟩))
    (db_cons (ds_if (dt_cmpV (op_eqD hr.units) sw_eq (dv 3) de_str) (db_one (ds_ret (de_tup (da_cons de_str (da_cons (dv 2) (da_cons (dv 6) (da_cons (dcI c__law_term (hr.mono (by decide)) (dv 0) (da_cons (dv 1) (da_cons (dv 7) (da_cons (de_ix (de_dgetV (hu_of hr) (dv 1) (dv 2)) de_int) (da_cons de_int (da_cons (de_cmp op_gt sr_gt (dcI c__law_next (hr.mono (by decide)) (dv 0) (da_cons de_int da_nil)) de_int) da_nil)))))) da_nil))))))) db_nil)
    (db_cons (ds_asg (i := 8) sc__law_definition.nd rfl (by first | exact Or.inl rfl | exact Or.inr rfl) (de_lst da_nil))
    (db_cons (ds_for PassesOwn.never rfl (di_seq (de_ix (de_lst (da_cons (de_lst (da_cons de_str da_nil)) (da_cons (de_lst (da_cons de_str da_nil)) (da_cons (de_lst (da_cons de_str (da_cons de_str da_nil))) (da_cons (de_lst (da_cons de_str (da_cons de_str da_nil))) (da_cons (de_lst (da_cons de_str da_nil)) (da_cons (de_lst da_nil) (da_cons (de_lst (da_cons de_str (da_cons de_str da_nil))) da_nil)))))))) (dcI c__law_next (hr.mono (by decide)) (dv 0) (da_cons de_int da_nil)))) (dg_name (i := 9) sc__law_definition.nd rfl (by first | exact Or.inl rfl | exact Or.inr rfl)) (db_one (ds_expr (de_app (dv 8) (de_tup (da_cons (dv 9) (da_cons (dcI c__law_term (hr.mono (by decide)) (dv 0) (da_cons (dv 1) (da_cons (dv 7) (da_cons (de_ix (de_dgetV (hu_of hr) (dv 1) (dv 9)) de_int) (da_cons de_int (da_cons de_bl da_nil)))))) da_nil)))))))
    (db_one (ds_ret (de_tup (da_cons de_str (da_cons (dv 2) (da_cons (dv 6) (da_cons (de_cTV call_tuple_of sw_tuple (by rfl) T.b_tuple (by decide +kernel) (dv 8)) (da_cons (dcI c__law_term (hr.mono (by decide)) (dv 0) (da_cons (dv 1) (da_cons (dv 7) (da_cons (de_ix (de_dgetV (hu_of hr) (dv 1) (dv 2)) de_int) (da_cons de_int (da_cons de_bl da_nil)))))) da_nil)))))))))))))))))⟩
theorem ok__law_definitions {f : Addr} {fd : FuncData} (F : Fun K "_law_definitions" "_law_definitions" s__law_definitions f fd) (T : Tx K mg) (c__law_next : Cal P w K mg base "_law_next" 3 ["state", "limit"] (spI K 2 (F__law_next))) (c__law_plan : Cal P w K mg base "_law_plan" 5 ["state"] (spI K 1 (F__law_plan))) (c__law_definition : Cal P w K mg base "_law_definition" 17 ["state", "plan", "name"] (spI K 3 (F__law_definition))) : FnOk P w K mg base CX0 18 f fd ["state"] (spI K 1 F__law_definitions) := by
  refine fn_inout (P := P) (w := w) (mg := mg) (base := base) (k := 17) F sc__law_definitions rfl rfl (fun cdv A outer s H E hr => ?_)
  exact ⟨_, (db_cons (ds_asg (i := 1) sc__law_definitions.nd rfl (by first | exact Or.inl rfl | exact Or.inr rfl) (dcI c__law_plan (hr.mono (by decide)) (dv 0) da_nil))
    (db_cons (ds_asg (i := 2) sc__law_definitions.nd rfl (by first | exact Or.inl rfl | exact Or.inr rfl) (de_lst da_nil))
    (db_cons (ds_for PassesOwn.never rfl (di_seq (de_lst (da_cons de_str (da_cons de_str (da_cons de_str (da_cons de_str (da_cons de_str (da_cons de_str (da_cons de_str (da_cons de_str (da_cons de_str (da_cons de_str (da_cons de_str (da_cons de_str da_nil)))))))))))))) (dg_name (i := 3) sc__law_definitions.nd rfl (by first | exact Or.inl rfl | exact Or.inr rfl)) (db_cons (ds_if (dt_cmp op_gt sr_gt (dcI c__law_next (hr.mono (by decide)) (dv 0) (da_cons de_int da_nil)) de_int) (db_one (ds_expr (de_ins (dv 2) (dcI c__law_next (hr.mono (by decide)) (dv 0) (da_cons (de_op op_addD sw_add.two (de_cBV call_len sw_len (by rfl) T.b_len PySem.boot_len (dv 2)) de_int) da_nil)) (dcI c__law_definition (hr.mono (by decide)) (dv 0) (da_cons (dv 1) (da_cons (dv 3) da_nil)))))) db_nil)
    (db_one (ds_if (dt_cmp (op_eqD hr.units) sw_eq.two (dcI c__law_next (hr.mono (by decide)) (dv 0) (da_cons de_int da_nil)) de_int) (db_one (ds_expr (de_app (dv 2) (dcI c__law_definition (hr.mono (by decide)) (dv 0) (da_cons (dv 1) (da_cons (dv 3) da_nil)))))) db_nil))))
    (db_one (ds_ret (dv 2))))))⟩
theorem ok__law_used {f : Addr} {fd : FuncData} (F : Fun K "_law_used" "_law_used" s__law_used f fd) (T : Tx K mg) (b : Binds K fd ["e", "local", "makers"] []) (m : mg "_law_used" = some (.ref f)) : ∀ k : Nat, FnOk P w K mg base CX0 (0 + k) f fd ["e", "local", "makers"] (spP K 3 (F__law_used k))
  | 0 => (fn_none rfl).mono (Nat.zero_le _)
  | k + 1 => by
    have ih := ok__law_used F T  b m k
    have c__law_used : Cal P w K mg base "_law_used" (0 + k) ["e", "local", "makers"] (spP K 3 (F__law_used k)) := ⟨f, fd, ih, b, F.kp, m⟩
    show FnOk P w K mg base CX0 ((0 + k) + 1) f fd ["e", "local", "makers"] (spP K 3 (runP 3 7 (b__law_used (F__law_used k))))
    refine fn_pure (P := P) (w := w) (mg := mg) (base := base) F sc__law_used rfl rfl (fun cdv A outer s H E hr => ?_)
    exact ⟨_, (db_cons (ds_asg (i := 3) sc__law_used.nd rfl (by first | exact Or.inl rfl | exact Or.inr rfl) (de_ixV (dv 0) de_int))
    (db_cons (ds_if (dt_cmp op_in_seq sw_in.two (dv 3) (de_lst (da_cons de_str (da_cons de_str (da_cons de_str da_nil))))) (db_one (ds_ret (de_lst da_nil))) db_nil)
    (db_cons (ds_if (dt_cmpV (op_eqD hr.units) sw_eq (dv 3) de_str) (db_one (ds_ret (de_repL (de_lst (da_cons (de_ixV (dv 0) de_int) da_nil)) (de_cT (call_int1) sc_int (by rfl) T.b_int (by decide +kernel) (da_cons (de_inV op_notIn_seq sw_in (de_ixV (dv 0) de_int) (dv 1)) da_nil))))) db_nil)
    (db_cons (ds_if (dt_cmpV (op_eqD hr.units) sw_eq (dv 3) de_str) (db_one (ds_ret (de_op op_addD sw_add.two (dc c__law_used (hr.mono (by omega)) (da_cons (de_ixV (dv 0) de_int) (da_cons (dv 1) (da_cons (dv 2) da_nil)))) (dc c__law_used (hr.mono (by omega)) (da_cons (de_ixV (dv 0) de_int) (da_cons (de_opV op_addD sw_add (dv 1) (de_lst (da_cons (de_ixV (dv 0) de_int) da_nil))) (da_cons (dv 2) da_nil))))))) db_nil)
    (db_cons (ds_if (dt_cmpV (op_eqD hr.units) sw_eq (dv 3) de_str) (db_cons (ds_asg (i := 4) sc__law_used.nd rfl (by first | exact Or.inl rfl | exact Or.inr rfl) (de_op op_addD sw_add.two (dc c__law_used (hr.mono (by omega)) (da_cons (de_ixV (dv 0) de_int) (da_cons (dv 1) (da_cons (dv 2) da_nil)))) (dc c__law_used (hr.mono (by omega)) (da_cons (de_ixV (dv 0) de_int) (da_cons (dv 1) (da_cons (dv 2) da_nil))))))
    (db_one (ds_ret (de_opV op_addD sw_add (dv 4) (dc c__law_used (hr.mono (by omega)) (da_cons (de_ixV (dv 0) de_int) (da_cons (de_opV op_addD sw_add (dv 1) (de_lst (da_cons (de_ixV (dv 0) de_int) (da_cons (de_ixV (dv 0) de_int) da_nil)))) (da_cons (dv 2) da_nil)))))))) db_nil)
    (db_cons (ds_if (dt_cmpV (op_eqD hr.units) sw_eq (dv 3) de_str) (db_cons (ds_asg (i := 4) sc__law_used.nd rfl (by first | exact Or.inl rfl | exact Or.inr rfl) (dc c__law_used (hr.mono (by omega)) (da_cons (de_ixV (dv 0) de_int) (da_cons (dv 1) (da_cons (dv 2) da_nil)))))
    (db_cons (ds_for PassesOwn.never rfl (di_seq (de_ixV (dv 0) de_int)) (dg_tup rfl (dgs_cons (dg_name (i := 5) sc__law_used.nd rfl (by first | exact Or.inl rfl | exact Or.inr rfl)) (dgs_cons (dg_name (i := 6) sc__law_used.nd rfl (by first | exact Or.inl rfl | exact Or.inr rfl)) (dgs_cons (dg_name (i := 7) sc__law_used.nd rfl (by first | exact Or.inl rfl | exact Or.inr rfl)) dgs_nil)))) (db_one (ds_asg (i := 4) sc__law_used.nd rfl (by first | exact Or.inl rfl | exact Or.inr rfl) (de_op op_addD sw_add.two (de_opV op_addD sw_add (dv 4) (de_lst (da_cons (de_get2 (hu_of hr) (dv 2) (dv 5) (dv 5) ⟨rfl, rfl, rfl, rfl⟩) da_nil))) (dc c__law_used (hr.mono (by omega)) (da_cons (dv 7) (da_cons (de_opV op_addD sw_add (dv 1) (de_cTV call_list_of sw_list (by rfl) T.b_list (by decide +kernel) (dv 6))) (da_cons (dv 2) da_nil))))))))
    (db_one (ds_ret (dv 4))))) db_nil)
    (db_cons (ds_asg (i := 4) sc__law_used.nd rfl (by first | exact Or.inl rfl | exact Or.inr rfl) (de_lst da_nil))
    (db_cons (ds_asg (i := 8) sc__law_used.nd rfl (by first | exact Or.inl rfl | exact Or.inr rfl) (de_slV (dv 0) (do_some de_int) do_none))
    (db_cons (ds_if (dt_cmpV (op_eqD hr.units) sw_eq (dv 3) de_str) (db_one (ds_asg (i := 8) sc__law_used.nd rfl (by first | exact Or.inl rfl | exact Or.inr rfl) (de_ixV (dv 0) de_int))) db_nil)
    (db_cons (ds_if (dt_cmpV (op_eqD hr.units) sw_eq (dv 3) de_str) (db_one (ds_asg (i := 8) sc__law_used.nd rfl (by first | exact Or.inl rfl | exact Or.inr rfl) (de_slV (dv 0) (do_some de_int) do_none))) db_nil)
    (db_cons (ds_if (DW.dt (dw_or (dt_cmpV (op_eqD hr.units) sw_eq (dv 3) de_str) (dw_or1 (dt_cmpV (op_eqD hr.units) sw_eq (dv 3) de_str)))) (db_cons (ds_asg (i := 8) sc__law_used.nd rfl (by first | exact Or.inl rfl | exact Or.inr rfl) (de_ixV (dv 0) de_int))
    (db_one (ds_asg (i := 4) sc__law_used.nd rfl (by first | exact Or.inl rfl | exact Or.inr rfl) (de_lst (da_cons (de_ixV (dv 0) de_int) da_nil))))) db_nil)
    (db_cons (ds_if (dt_cmpV (op_eqD hr.units) sw_eq (dv 3) de_str) (db_one (ds_asg (i := 4) sc__law_used.nd rfl (by first | exact Or.inl rfl | exact Or.inr rfl) (de_lst (da_cons (de_get2 (hu_of hr) (dv 2) (de_ixV (dv 0) de_int) (de_ixV (dv 0) de_int) ⟨rfl, rfl, rfl, rfl⟩) da_nil)))) db_nil)
    (db_cons (ds_for PassesOwn.never rfl (di_seq (dv 8)) (dg_name (i := 9) sc__law_used.nd rfl (by first | exact Or.inl rfl | exact Or.inr rfl)) (db_one (ds_asg (i := 4) sc__law_used.nd rfl (by first | exact Or.inl rfl | exact Or.inr rfl) (de_opV op_addD sw_add (dv 4) (dc c__law_used (hr.mono (by omega)) (da_cons (dv 9) (da_cons (dv 1) (da_cons (dv 2) da_nil))))))))
    (db_one (ds_ret (dv 4))))))))))))))))⟩
theorem ok__law_uses {f : Addr} {fd : FuncData} (F : Fun K "_law_uses" "_law_uses" s__law_uses f fd) (T : Tx K mg) (c__law_used_data : Cal P w K mg base "_law_used_data" 1 ["kinds"] (spP K 1 (F__law_used_data))) (c__law_used : Cal P w K mg base "_law_used" 60 ["e", "local", "makers"] (spP K 3 (F__law_used 60))) : FnOk P w K mg base CX0 61 f fd ["definition", "makers"] (spP K 2 F__law_uses) := by
  refine fn_pure (P := P) (w := w) (mg := mg) (base := base) (k := 60) F sc__law_uses rfl rfl (fun cdv A outer s H E hr => ?_)
  exact ⟨_, (db_cons (ds_asg (i := 2) sc__law_uses.nd rfl (by first | exact Or.inl rfl | exact Or.inr rfl) (de_ixV (dv 0) de_int))
    (db_cons (ds_asg (i := 3) sc__law_uses.nd rfl (by first | exact Or.inl rfl | exact Or.inr rfl) (de_lst da_nil))
    (db_cons (ds_if (dt_cmpV (op_eqD hr.units) sw_eq (dv 2) de_str) (db_one (ds_for PassesOwn.never rfl (di_seq (de_ixV (dv 0) de_int)) (dg_tup rfl (dgs_cons (dg_name (i := 4) sc__law_uses.nd rfl (by first | exact Or.inl rfl | exact Or.inr rfl)) (dgs_cons (dg_name (i := 5) sc__law_uses.nd rfl (by first | exact Or.inl rfl | exact Or.inr rfl)) dgs_nil))) (db_one (ds_asg (i := 3) sc__law_uses.nd rfl (by first | exact Or.inl rfl | exact Or.inr rfl) (de_opV op_addD sw_add (dv 3) (dc c__law_used_data (hr.mono (by decide)) (da_cons (dv 5) da_nil))))))) db_nil)
    (db_cons (ds_if (dt_cmpV (op_eqD hr.units) sw_eq (dv 2) de_str) (db_one (ds_asg (i := 3) sc__law_uses.nd rfl (by first | exact Or.inl rfl | exact Or.inr rfl) (dc c__law_used (hr.mono (by decide)) (da_cons (de_ixV (dv 0) de_int) (da_cons (de_cT call_list_of sw_list.all (by rfl) T.b_list (by decide +kernel) (da_cons (de_ixV (dv 0) de_int) da_nil)) (da_cons (dv 1) da_nil)))))) db_nil)
    (db_cons (ds_if (dt_cmpV (op_eqD hr.units) sw_eq (dv 2) de_str) (db_one (ds_asg (i := 3) sc__law_uses.nd rfl (by first | exact Or.inl rfl | exact Or.inr rfl) (dc c__law_used (hr.mono (by decide)) (da_cons (de_ixV (dv 0) de_int) (da_cons (de_lst da_nil) (da_cons (dv 1) da_nil)))))) db_nil)
    (db_cons (ds_if (dt_cmpV (op_eqD hr.units) sw_eq (dv 2) de_str) (db_cons (ds_asg (i := 3) sc__law_uses.nd rfl (by first | exact Or.inl rfl | exact Or.inr rfl) (de_op op_addD sw_add.two (dc c__law_used_data (hr.mono (by decide)) (da_cons (de_lst (da_cons (de_ixV (dv 0) de_int) da_nil)) da_nil)) (dc c__law_used (hr.mono (by decide)) (da_cons (de_ixV (dv 0) de_int) (da_cons (de_lst da_nil) (da_cons (dv 1) da_nil))))))
    (db_one (ds_asg (i := 3) sc__law_uses.nd rfl (by first | exact Or.inl rfl | exact Or.inr rfl) (de_opV op_addD sw_add (dv 3) (de_repL (de_lst (da_cons (de_ixV (dv 0) de_int) da_nil)) (de_cT (call_int1) sc_int (by rfl) T.b_int (by decide +kernel) (da_cons (de_cmp op_notN sr_notN (de_ixV (dv 0) de_int) de_non) da_nil))))))) db_nil)
    (db_cons (ds_if (dt_cmpV (op_eqD hr.units) sw_eq (dv 2) de_str) (db_cons (ds_for PassesOwn.never rfl (di_seq (de_ixV (dv 0) de_int)) (dg_tup rfl (dgs_cons (dg_name (i := 6) sc__law_uses.nd rfl (by first | exact Or.inl rfl | exact Or.inr rfl)) (dgs_cons (dg_name (i := 7) sc__law_uses.nd rfl (by first | exact Or.inl rfl | exact Or.inr rfl)) dgs_nil))) (db_one (ds_asg (i := 3) sc__law_uses.nd rfl (by first | exact Or.inl rfl | exact Or.inr rfl) (de_op op_addD sw_add.two (de_opV op_addD sw_add (dv 3) (de_lst (da_cons (dv 6) da_nil))) (dc c__law_used (hr.mono (by decide)) (da_cons (dv 7) (da_cons (de_cT call_list_of sw_list.all (by rfl) T.b_list (by decide +kernel) (da_cons (de_ixV (dv 0) de_int) da_nil)) (da_cons (dv 1) da_nil))))))))
    (db_one (ds_asg (i := 3) sc__law_uses.nd rfl (by first | exact Or.inl rfl | exact Or.inr rfl) (de_opV op_addD sw_add (dv 3) (dc c__law_used (hr.mono (by decide)) (da_cons (de_ixV (dv 0) de_int) (da_cons (de_cT call_list_of sw_list.all (by rfl) T.b_list (by decide +kernel) (da_cons (de_ixV (dv 0) de_int) da_nil)) (da_cons (dv 1) da_nil)))))))) db_nil)
    (db_one (ds_ret (de_lc rfl sc__law_uses.nd (di_r1 (by rfl) T.b_range (da_cons (de_cBV call_len sw_len (by rfl) T.b_len PySem.boot_len (dv 3)) da_nil)) (blkOk_by (own := [("k", 8)]) (N := N__law_uses) (sc := defScope s__law_uses) (by decide +kernel)) (fun _ _ _ _ _ => ⟨_, (dg_name (i := 8) sc__law_uses.nd rfl (by first | exact Or.inl rfl | exact Or.inr rfl))⟩) (fun _ _ _ _ _ => ⟨_, (dts_one (dt_cmp op_notIn_seq sw_in.two (de_ixV (dv 3) (dv 8)) (de_slV (dv 3) do_none (do_some (dv 8)))))⟩) (fun _ _ _ _ _ => ⟨_, (de_ixV (dv 3) (dv 8))⟩)))))))))))⟩
theorem ok_grp__all_names {f__all_names f__match_names f__names : Addr} {fd__all_names fd__match_names fd__names : FuncData} (F__all_names : Fun K "_all_names" "_all_names" s__all_names f__all_names fd__all_names) (F__match_names : Fun K "_match_names" "_match_names" s__match_names f__match_names fd__match_names) (F__names : Fun K "_names" "_names" s__names f__names fd__names) (T : Tx K mg) (b__all_names : Binds K fd__all_names ["expressions", "local", "makers"] []) (b__match_names : Binds K fd__match_names ["expression", "local", "makers"] []) (b__names : Binds K fd__names ["expression", "local", "makers"] []) (m__all_names : mg "_all_names" = some (.ref f__all_names)) (m__match_names : mg "_match_names" = some (.ref f__match_names)) (m__names : mg "_names" = some (.ref f__names)) : ∀ k : Nat, (FnOk P w K mg base CX0 (0 + k) f__all_names fd__all_names ["expressions", "local", "makers"] (spP K 3 (My.F__all_names k))) ∧ (FnOk P w K mg base CX0 (0 + k) f__match_names fd__match_names ["expression", "local", "makers"] (spP K 3 (My.F__match_names k))) ∧ (FnOk P w K mg base CX0 (0 + k) f__names fd__names ["expression", "local", "makers"] (spP K 3 (My.F__names k)))
  | 0 => ⟨(fn_none rfl).mono (Nat.zero_le _), (fn_none rfl).mono (Nat.zero_le _), (fn_none rfl).mono (Nat.zero_le _)⟩
  | k + 1 => by
    have ih := ok_grp__all_names F__all_names F__match_names F__names T  b__all_names b__match_names b__names m__all_names m__match_names m__names k
    have c__all_names : Cal P w K mg base "_all_names" (0 + k) ["expressions", "local", "makers"] (spP K 3 (My.F__all_names k)) := ⟨f__all_names, fd__all_names, ih.1, b__all_names, F__all_names.kp, m__all_names⟩
    have c__match_names : Cal P w K mg base "_match_names" (0 + k) ["expression", "local", "makers"] (spP K 3 (My.F__match_names k)) := ⟨f__match_names, fd__match_names, ih.2.1, b__match_names, F__match_names.kp, m__match_names⟩
    have c__names : Cal P w K mg base "_names" (0 + k) ["expression", "local", "makers"] (spP K 3 (My.F__names k)) := ⟨f__names, fd__names, ih.2.2, b__names, F__names.kp, m__names⟩
    refine ⟨?_, ?_, ?_⟩
    · show FnOk P w K mg base CX0 ((0 + k) + 1) f__all_names fd__all_names ["expressions", "local", "makers"] (spP K 3 (runPV 3 2 3 (My.b__all_names (My.F__all_names k) (My.F__match_names k) (My.F__names k))))
      refine fn_pureV (P := P) (w := w) (mg := mg) (base := base) F__all_names sc__all_names rfl rfl (fun cdv A outer s H E hr => ?_)
      exact ⟨_, (dbr_cons (ds_asg (i := 3) sc__all_names.nd rfl (by first | exact Or.inl rfl | exact Or.inr rfl) (de_lst da_nil))
    (dbr_cons (ds_for PassesOwn.never rfl (di_seq (dv 0)) (dg_name (i := 4) sc__all_names.nd rfl (by first | exact Or.inl rfl | exact Or.inr rfl)) (db_one (ds_expr (de_exA (dv 3) (dc c__names (hr.mono (by omega)) (da_cons (dv 4) (da_cons (dv 1) (da_cons (dv 2) da_nil))))))))
    (dbr_ret (dv 3))))⟩
    · show FnOk P w K mg base CX0 ((0 + k) + 1) f__match_names fd__match_names ["expression", "local", "makers"] (spP K 3 (runPV 3 4 3 (My.b__match_names (My.F__all_names k) (My.F__match_names k) (My.F__names k))))
      refine fn_pureV (P := P) (w := w) (mg := mg) (base := base) F__match_names sc__match_names rfl rfl (fun cdv A outer s H E hr => ?_)
      exact ⟨_, (dbr_cons (ds_asg (i := 3) sc__match_names.nd rfl (by first | exact Or.inl rfl | exact Or.inr rfl) (dc c__names (hr.mono (by omega)) (da_cons (de_ixV (dv 0) de_int) (da_cons (dv 1) (da_cons (dv 2) da_nil)))))
    (dbr_cons (ds_for PassesOwn.never rfl (di_seq (de_ixV (dv 0) de_int)) (dg_tup rfl (dgs_cons (dg_name (i := 4) sc__match_names.nd rfl (by first | exact Or.inl rfl | exact Or.inr rfl)) (dgs_cons (dg_name (i := 5) sc__match_names.nd rfl (by first | exact Or.inl rfl | exact Or.inr rfl)) (dgs_cons (dg_name (i := 6) sc__match_names.nd rfl (by first | exact Or.inl rfl | exact Or.inr rfl)) dgs_nil)))) (db_cons (ds_expr (de_app (dv 3) (de_get2 (hu_of hr) (dv 2) (dv 4) (dv 4) ⟨rfl, rfl, rfl, rfl⟩)))
    (db_one (ds_expr (de_exA (dv 3) (dc c__names (hr.mono (by omega)) (da_cons (dv 6) (da_cons (de_lst (da_star (dv 1) (da_star (dv 5) da_nil))) (da_cons (dv 2) da_nil)))))))))
    (dbr_ret (dv 3))))⟩
    · show FnOk P w K mg base CX0 ((0 + k) + 1) f__names fd__names ["expression", "local", "makers"] (spP K 3 (runP 3 3 (My.b__names (My.F__all_names k) (My.F__match_names k) (My.F__names k))))
      refine fn_pure (P := P) (w := w) (mg := mg) (base := base) F__names sc__names rfl rfl (fun cdv A outer s H E hr => ?_)
      exact ⟨_, (db_cons (ds_asg (i := 3) sc__names.nd rfl (by first | exact Or.inl rfl | exact Or.inr rfl) (de_ixV (dv 0) de_int))
    (db_cons (ds_if (dt_cmpV (op_eqD hr.units) sw_eq (dv 3) de_str) (db_one (ds_ret (de_lc rfl sc__names.nd (di_seq (de_slV (dv 0) (do_some de_int) do_none)) (blkOk_by (own := [("name", 5)]) (N := N__names) (sc := defScope s__names) (by decide +kernel)) (fun _ _ _ _ _ => ⟨_, (dg_name (i := 5) sc__names.nd rfl (by first | exact Or.inl rfl | exact Or.inr rfl))⟩) (fun _ _ _ _ _ => ⟨_, (dts_one (dt_inV op_notIn_seq sw_in (dv 5) (dv 1)))⟩) (fun _ _ _ _ _ => ⟨_, (dv 5)⟩)))) db_nil)
    (db_cons (ds_if (dt_cmpV (op_eqD hr.units) sw_eq (dv 3) de_str) (db_one (ds_ret (dc c__all_names (hr.mono (by omega)) (da_cons (de_ixV (dv 0) de_int) (da_cons (dv 1) (da_cons (dv 2) da_nil)))))) db_nil)
    (db_cons (ds_if (dt_cmp op_in_seq sw_in.two (dv 3) (de_tup (da_cons de_str (da_cons de_str (da_cons de_str da_nil))))) (db_one (ds_ret (dc c__all_names (hr.mono (by omega)) (da_cons (de_slV (dv 0) (do_some de_int) do_none) (da_cons (dv 1) (da_cons (dv 2) da_nil)))))) db_nil)
    (db_cons (ds_if (dt_cmpV (op_eqD hr.units) sw_eq (dv 3) de_str) (db_one (ds_ret (dc c__all_names (hr.mono (by omega)) (da_cons (de_slV (dv 0) (do_some de_int) do_none) (da_cons (dv 1) (da_cons (dv 2) da_nil)))))) db_nil)
    (db_cons (ds_if (dt_cmpV (op_eqD hr.units) sw_eq (dv 3) de_str) (db_one (ds_ret (de_op op_addD sw_add.two (dc c__names (hr.mono (by omega)) (da_cons (de_ixV (dv 0) de_int) (da_cons (dv 1) (da_cons (dv 2) da_nil)))) (dc c__names (hr.mono (by omega)) (da_cons (de_ixV (dv 0) de_int) (da_cons (de_lst (da_star (dv 1) (da_cons (de_ixV (dv 0) de_int) da_nil))) (da_cons (dv 2) da_nil))))))) db_nil)
    (db_cons (ds_if (dt_cmpV (op_eqD hr.units) sw_eq (dv 3) de_str) (db_one (ds_ret (de_op op_addD sw_add.two (de_lst (da_cons (de_ixV (dv 0) de_int) da_nil)) (dc c__all_names (hr.mono (by omega)) (da_cons (de_ixV (dv 0) de_int) (da_cons (dv 1) (da_cons (dv 2) da_nil))))))) db_nil)
    (db_cons (ds_if (dt_cmpV (op_eqD hr.units) sw_eq (dv 3) de_str) (db_one (ds_ret (de_op op_addD sw_add.two (de_lst (da_cons (de_get2 (hu_of hr) (dv 2) (de_ixV (dv 0) de_int) (de_ixV (dv 0) de_int) ⟨rfl, rfl, rfl, rfl⟩) da_nil)) (dc c__all_names (hr.mono (by omega)) (da_cons (de_ixV (dv 0) de_int) (da_cons (dv 1) (da_cons (dv 2) da_nil))))))) db_nil)
    (db_cons (ds_if (dt_cmpV (op_eqD hr.units) sw_eq (dv 3) de_str) (db_cons (ds_asg (i := 4) sc__names.nd rfl (by first | exact Or.inl rfl | exact Or.inr rfl) (dc c__all_names (hr.mono (by omega)) (da_cons (de_slV (dv 0) (do_some de_int) (do_some de_int)) (da_cons (dv 1) (da_cons (dv 2) da_nil)))))
    (db_one (ds_ret (de_opV op_addD sw_add (dv 4) (dc c__names (hr.mono (by omega)) (da_cons (de_ixV (dv 0) de_int) (da_cons (de_lst (da_star (dv 1) (da_cons (de_ixV (dv 0) de_int) (da_cons (de_ixV (dv 0) de_int) da_nil)))) (da_cons (dv 2) da_nil)))))))) db_nil)
    (db_cons (ds_if (dt_cmpV (op_eqD hr.units) sw_eq (dv 3) de_str) (db_one (ds_ret (dc c__match_names (hr.mono (by omega)) (da_cons (dv 0) (da_cons (dv 1) (da_cons (dv 2) da_nil)))))) db_nil)
    (db_one (ds_ret (de_lst da_nil)))))))))))))⟩
theorem ok__all_uses {f : Addr} {fd : FuncData} (F : Fun K "_all_uses" "_all_uses" s__all_uses f fd) (T : Tx K mg) (c__kind_names : Cal P w K mg base "_kind_names" 1 ["kinds"] (spP K 1 (F__kind_names))) (c__names : Cal P w K mg base "_names" 100 ["expression", "local", "makers"] (spP K 3 (F__names 100))) : FnOk P w K mg base CX0 101 f fd ["definition", "makers"] (spP K 2 F__all_uses) := by
  refine fn_pure (P := P) (w := w) (mg := mg) (base := base) (k := 100) F sc__all_uses rfl rfl (fun cdv A outer s H E hr => ?_)
  exact ⟨_, (db_cons (ds_asg (i := 2) sc__all_uses.nd rfl (by first | exact Or.inl rfl | exact Or.inr rfl) (de_ixV (dv 0) de_int))
    (db_cons (ds_if (dt_cmpV (op_eqD hr.units) sw_eq (dv 2) de_str) (db_one (ds_ret (de_lc2 rfl sc__all_uses.nd (di_seq (de_ixV (dv 0) de_int)) (blkOk_by (own := [("_", 6), ("kinds", 7), ("name", 8)]) (N := N__all_uses) (sc := defScope s__all_uses) (by decide +kernel)) (fun _ _ _ _ _ => ⟨_, (dg_tup rfl (dgs_cons (dg_name (i := 6) sc__all_uses.nd rfl (by first | exact Or.inl rfl | exact Or.inr rfl)) (dgs_cons (dg_name (i := 7) sc__all_uses.nd rfl (by first | exact Or.inl rfl | exact Or.inr rfl)) dgs_nil)))⟩) (fun _ _ _ _ _ => ⟨_, dts_nil⟩) (fun _ _ _ _ _ => ⟨_, (di_seq (dc c__kind_names (hr.mono (by decide)) (da_cons (dv 7) da_nil)))⟩) (fun _ _ _ _ _ => ⟨_, (dg_name (i := 8) sc__all_uses.nd rfl (by first | exact Or.inl rfl | exact Or.inr rfl))⟩) (fun _ _ _ _ _ => ⟨_, dts_nil⟩) (fun _ _ _ _ _ => ⟨_, (dv 8)⟩)))) db_nil)
    (db_cons (ds_if (dt_cmpV (op_eqD hr.units) sw_eq (dv 2) de_str) (db_one (ds_ret (dc c__names (hr.mono (by decide)) (da_cons (de_ixV (dv 0) de_int) (da_cons (de_ixV (dv 0) de_int) (da_cons (dv 1) da_nil)))))) db_nil)
    (db_cons (ds_if (dt_cmpV (op_eqD hr.units) sw_eq (dv 2) de_str) (db_one (ds_ret (dc c__names (hr.mono (by decide)) (da_cons (de_ixV (dv 0) de_int) (da_cons (de_lst da_nil) (da_cons (dv 1) da_nil)))))) db_nil)
    (db_cons (ds_if (dt_cmpV (op_eqD hr.units) sw_eq (dv 2) de_str) (db_cons (ds_asg (i := 3) sc__all_uses.nd rfl (by first | exact Or.inl rfl | exact Or.inr rfl) (de_op op_addD sw_add.two (dc c__kind_names (hr.mono (by decide)) (da_cons (de_lst (da_cons (de_ixV (dv 0) de_int) da_nil)) da_nil)) (dc c__names (hr.mono (by decide)) (da_cons (de_ixV (dv 0) de_int) (da_cons (de_lst da_nil) (da_cons (dv 1) da_nil))))))
    (db_one (ds_ret (de_if (dt_cmp op_isN sr_isN (de_ixV (dv 0) de_int) de_non) (dv 3) (de_opV op_addD sw_add (dv 3) (de_lst (da_cons (de_ixV (dv 0) de_int) da_nil))))))) db_nil)
    (db_cons (ds_asg (i := 3) sc__all_uses.nd rfl (by first | exact Or.inl rfl | exact Or.inr rfl) (de_lst da_nil))
    (db_cons (ds_for PassesOwn.never rfl (di_seq (de_ixV (dv 0) de_int)) (dg_tup rfl (dgs_cons (dg_name (i := 4) sc__all_uses.nd rfl (by first | exact Or.inl rfl | exact Or.inr rfl)) (dgs_cons (dg_name (i := 5) sc__all_uses.nd rfl (by first | exact Or.inl rfl | exact Or.inr rfl)) dgs_nil))) (db_cons (ds_expr (de_app (dv 3) (dv 4)))
    (db_one (ds_expr (de_exA (dv 3) (dc c__names (hr.mono (by decide)) (da_cons (dv 5) (da_cons (de_ixV (dv 0) de_int) (da_cons (dv 1) da_nil)))))))))
    (db_one (ds_ret (de_opV op_addD sw_add (dv 3) (dc c__names (hr.mono (by decide)) (da_cons (de_ixV (dv 0) de_int) (da_cons (de_ixV (dv 0) de_int) (da_cons (dv 1) da_nil))))))))))))))⟩
theorem ok_uses {f : Addr} {fd : FuncData} (F : Fun K "uses" "uses" s_uses f fd) (T : Tx K mg) (c__all_uses : Cal P w K mg base "_all_uses" 101 ["definition", "makers"] (spP K 2 (F__all_uses))) : FnOk P w K mg base CX0 102 f fd ["definition", "makers"] (spP K 2 F_uses) := by
  refine fn_pure (P := P) (w := w) (mg := mg) (base := base) (k := 101) F sc_uses rfl rfl (fun cdv A outer s H E hr => ?_)
  exact ⟨_, (db_cons (ds_dc (i := 2) rfl sc_uses.nd rfl rfl (swD_true rfl rfl rfl (by decide +kernel)) (di_seq (dc c__all_uses (hr.mono (by decide)) (da_cons (dv 0) (da_cons (dv 1) da_nil)))) (blkOk_by (own := [("name", 3)]) (N := N_uses) (sc := defScope s_uses) (by decide +kernel)) (fun _ _ _ _ _ => ⟨_, (dg_name (i := 3) sc_uses.nd rfl (by first | exact Or.inl rfl | exact Or.inr rfl))⟩) (fun _ _ _ _ _ => ⟨_, dts_nil⟩) (fun _ _ _ _ _ => ⟨_, (dv 3)⟩) (fun _ _ _ _ _ => ⟨_, de_bl⟩))
    (db_one (ds_ret (de_cTV (call_listD rfl) sw_keys (by rfl) T.b_list (by decide +kernel) (dv 2)))))⟩
theorem ok_makers_used {f : Addr} {fd : FuncData} (F : Fun K "makers_used" "makers_used" s_makers_used f fd) (T : Tx K mg) (c_uses : Cal P w K mg base "uses" 102 ["definition", "makers"] (spP K 2 (F_uses))) : FnOk P w K mg base CX0 103 f fd ["definition"] (spP K 1 F_makers_used) := by
  refine fn_pure (P := P) (w := w) (mg := mg) (base := base) (k := 102) F sc_makers_used rfl rfl (fun cdv A outer s H E hr => ?_)
  exact ⟨_, (db_one (ds_ret (de_lc rfl sc_makers_used.nd (di_seq (dc c_uses (hr.mono (by decide)) (da_cons (dv 0) (da_cons de_dnew da_nil)))) (blkOk_by (own := [("name", 1)]) (N := N_makers_used) (sc := defScope s_makers_used) (by decide +kernel)) (fun _ _ _ _ _ => ⟨_, (dg_name (i := 1) sc_makers_used.nd rfl (by first | exact Or.inl rfl | exact Or.inr rfl))⟩) (fun _ _ _ _ _ => ⟨_, (dts_one (dt_tr (de_isupper (de_slV (dv 1) do_none (do_some de_int)))))⟩) (fun _ _ _ _ _ => ⟨_, (dv 1)⟩))))⟩
theorem ok_law {f : Addr} {fd : FuncData} (F : Fun K "law" "law" s_law f fd) (T : Tx K mg) (c_makes : Cal P w K mg base "makes" 1 ["definition"] (spP K 1 (F_makes))) (c_makers_used : Cal P w K mg base "makers_used" 103 ["definition"] (spP K 1 (F_makers_used))) (c_uses : Cal P w K mg base "uses" 102 ["definition", "makers"] (spP K 2 (F_uses))) (c__law_draws : Cal P w K mg base "_law_draws" 2 ["script"] (spP K 1 (F__law_draws))) (c__law_same : Cal P w K mg base "_law_same" 9 ["actual", "expected"] (spP K 2 (F__law_same 8))) (c__law_is_dict : Cal P w K mg base "_law_is_dict" 10 ["actual", "expected"] (spP K 2 (F__law_is_dict))) (c__law_next : Cal P w K mg base "_law_next" 3 ["state", "limit"] (spI K 2 (F__law_next))) (c__law_definitions : Cal P w K mg base "_law_definitions" 18 ["state"] (spI K 1 (F__law_definitions))) (c__law_makes : Cal P w K mg base "_law_makes" 1 ["definition"] (spP K 1 (F__law_makes))) (c__law_uses : Cal P w K mg base "_law_uses" 61 ["definition", "makers"] (spP K 2 (F__law_uses))) : FnOk P w K mg base CX0 104 f fd ["script"] (spP K 1 F_law) := by
  refine fn_pure (P := P) (w := w) (mg := mg) (base := base) (k := 103) F sc_law rfl rfl (fun cdv A outer s H E hr => ?_)
  exact ⟨_, (db_cons (ds_asg (i := 1) sc_law.nd rfl (by first | exact Or.inl rfl | exact Or.inr rfl) (de_lst (da_cons (dc c__law_draws (hr.mono (by decide)) (da_cons (dv 0) da_nil)) (da_cons de_int da_nil))))
    (db_cons (ds_asg (i := 2) sc_law.nd rfl (by first | exact Or.inl rfl | exact Or.inr rfl) (dcI c__law_definitions (hr.mono (by decide)) (dv 1) da_nil))
    (db_cons (ds_asg (i := 3) sc_law.nd rfl (by first | exact Or.inl rfl | exact Or.inr rfl) de_dnew)
    (db_cons (ds_for PassesOwn.never rfl (di_seq (de_lst (da_cons de_str (da_cons de_str (da_cons de_str (da_cons de_str (da_cons de_str (da_cons de_str da_nil)))))))) (dg_name (i := 4) sc_law.nd rfl (by first | exact Or.inl rfl | exact Or.inr rfl)) (db_one (ds_if (dt_cmp op_gt sr_gt (dcI c__law_next (hr.mono (by decide)) (dv 1) (da_cons de_int da_nil)) de_int) (db_one (ds_dput (hu_of hr) (dv 3) (dv 4) (de_ix (de_lst (da_cons de_str (da_cons de_str (da_cons de_str da_nil)))) (dcI c__law_next (hr.mono (by decide)) (dv 1) (da_cons de_int da_nil))))) db_nil)))
    (db_cons (ds_asg (i := 5) sc_law.nd rfl (by first | exact Or.inl rfl | exact Or.inr rfl) (de_cTV call_dictD sw_copyD (by rfl) T.b_dict (by decide +kernel) (dv 3)))
    (db_cons (ds_for PassesOwn.never rfl (di_seq (dv 2)) (dg_name (i := 6) sc_law.nd rfl (by first | exact Or.inl rfl | exact Or.inr rfl)) (db_cons (ds_if (dt_not (dt_val (dc c__law_same (hr.mono (by decide)) (da_cons (dc c_makes (hr.mono (by decide)) (da_cons (dv 6) da_nil)) (da_cons (dc c__law_makes (hr.mono (by decide)) (da_cons (dv 6) da_nil)) da_nil))))) (db_one (ds_ret de_bl)) db_nil)
    (db_cons (ds_asg (i := 7) sc_law.nd rfl (by first | exact Or.inl rfl | exact Or.inr rfl) (dc c_uses (hr.mono (by decide)) (da_cons (dv 6) (da_cons (dv 5) da_nil))))
    (db_cons (ds_if (dt_not (dt_val (dcB [7] c__law_same (hr.mono (by decide)) (dab_bor (dv 7) (dab_cons (dcB [3] c__law_uses (hr.mono (by decide)) (dab_cons (dv 6) (dab_bor (dv 3) dab_nil (by decide)))) dab_nil) (by decide))))) (db_one (ds_ret de_bl)) db_nil)
    (db_cons (ds_if (dt_not (dt_val (dc c__law_same (hr.mono (by decide)) (da_cons (dc c_makers_used (hr.mono (by decide)) (da_cons (dv 6) da_nil)) (da_cons (de_lc rfl sc_law.nd (di_seq (dc c__law_uses (hr.mono (by decide)) (da_cons (dv 6) (da_cons de_dnew da_nil)))) (blkOk_by (own := [("name", 10)]) (N := N_law) (sc := defScope s_law) (by decide +kernel)) (fun _ _ _ _ _ => ⟨_, (dg_name (i := 10) sc_law.nd rfl (by first | exact Or.inl rfl | exact Or.inr rfl))⟩) (fun _ _ _ _ _ => ⟨_, (dts_one (dt_cmp op_in_str sr_inS (de_ixV (dv 10) de_int) de_str))⟩) (fun _ _ _ _ _ => ⟨_, (dv 10)⟩)) da_nil))))) (db_one (ds_ret de_bl)) db_nil)
    (db_cons (ds_expr (de_app (dv 7) de_str))
    (db_cons (ds_expr (de_appT (dc c_makes (hr.mono (by decide)) (da_cons (dv 6) da_nil)) de_str))
    (db_cons (ds_expr (de_appT (dc c_makers_used (hr.mono (by decide)) (da_cons (dv 6) da_nil)) de_str))
    (db_cons (ds_if (dt_not (dt_val (dc c__law_same (hr.mono (by decide)) (da_cons (dc c_uses (hr.mono (by decide)) (da_cons (dv 6) (da_cons de_dnew da_nil))) (da_cons (dc c__law_uses (hr.mono (by decide)) (da_cons (dv 6) (da_cons de_dnew da_nil))) da_nil))))) (db_one (ds_ret de_bl)) db_nil)
    (db_cons (ds_if (dt_not (dt_val (dc c__law_same (hr.mono (by decide)) (da_cons (dc c_makers_used (hr.mono (by decide)) (da_cons (dv 6) da_nil)) (da_cons (de_lc rfl sc_law.nd (di_seq (dc c__law_uses (hr.mono (by decide)) (da_cons (dv 6) (da_cons de_dnew da_nil)))) (blkOk_by (own := [("name", 10)]) (N := N_law) (sc := defScope s_law) (by decide +kernel)) (fun _ _ _ _ _ => ⟨_, (dg_name (i := 10) sc_law.nd rfl (by first | exact Or.inl rfl | exact Or.inr rfl))⟩) (fun _ _ _ _ _ => ⟨_, (dts_one (dt_cmp op_in_str sr_inS (de_ixV (dv 10) de_int) de_str))⟩) (fun _ _ _ _ _ => ⟨_, (dv 10)⟩)) da_nil))))) (db_one (ds_ret de_bl)) db_nil)
    (db_cons (ds_if (dt_not (dt_val (dc c__law_same (hr.mono (by decide)) (da_cons (dc c_uses (hr.mono (by decide)) (da_cons (dv 6) (da_cons (dv 5) da_nil))) (da_cons (dcB [3] c__law_uses (hr.mono (by decide)) (dab_cons (dv 6) (dab_bor (dv 3) dab_nil (by decide)))) da_nil))))) (db_one (ds_ret de_bl)) db_nil)
    (db_one (ds_if (dt_not (dt_val (dc c__law_same (hr.mono (by decide)) (da_cons (dc c_makes (hr.mono (by decide)) (da_cons (dv 6) da_nil)) (da_cons (dc c__law_makes (hr.mono (by decide)) (da_cons (dv 6) da_nil)) da_nil))))) (db_one (ds_ret de_bl)) db_nil)))))))))))))
    (db_cons (ds_asg (i := 8) sc_law.nd rfl (by first | exact Or.inl rfl | exact Or.inr rfl) (de_tup (da_cons de_str (da_cons de_str da_nil))))
    (db_cons (ds_for PassesOwn.never rfl (di_r1 (by rfl) T.b_range (da_cons (dcI c__law_next (hr.mono (by decide)) (dv 1) (da_cons de_int da_nil)) da_nil)) (dg_name (i := 9) sc_law.nd rfl (by first | exact Or.inl rfl | exact Or.inr rfl)) (db_one (ds_asg (i := 8) sc_law.nd rfl (by first | exact Or.inl rfl | exact Or.inr rfl) (de_ix (de_lst (da_cons (de_tup (da_cons de_str (da_cons de_str (da_cons (de_tup (da_cons de_str (da_cons (dv 9) da_nil))) (da_cons (dv 8) da_nil))))) (da_cons (de_tup (da_cons de_str (da_cons de_str (da_cons (dv 8) (da_cons (de_tup (da_cons de_str (da_cons (dv 9) da_nil))) da_nil))))) da_nil))) (dcI c__law_next (hr.mono (by decide)) (dv 1) (da_cons de_int da_nil))))))
    (db_cons (ds_if (dt_not (dt_val (dc c__law_same (hr.mono (by decide)) (da_cons (dc c_uses (hr.mono (by decide)) (da_cons (de_tup (da_cons de_str (da_cons de_str (da_cons (dv 8) da_nil)))) (da_cons (dv 5) da_nil))) (da_cons (de_lst (da_cons de_str da_nil)) da_nil))))) (db_one (ds_ret de_bl)) db_nil)
    (db_one (ds_ret (dcB [3] c__law_is_dict (hr.mono (by decide)) (dab_cons (dv 5) (dab_bor (dv 3) dab_nil (by decide)))))))))))))))⟩
end
theorem all_mk {l : PySem.W.OpenLaw} {w : World} {K : PySem.W.Frag} {h : Heap} {mg : Str → Option Value} {fa f0 f1 f2 f3 f4 f5 f6 f7 f8 f9 f10 f11 f12 f13 f14 f15 f16 f17 f18 f19 f20 f21 f22 f23 f24 f25 f26 f27 f28 f29 f30 : Addr} (X : K.In h) (G : h.Ns mainGlobals mg) (hfa : mg "law" = some (.ref fa))
    {od0 an0 od1 an1 od2 an2 od3 an3 od4 an4 od5 an5 od6 an6 od7 an7 od8 an8 od9 an9 od10 an10 od11 an11 od12 an12 od13 an13 od14 an14 od15 an15 od16 an16 od17 an17 od18 an18 od19 an19 od20 an20 od21 an21 od22 an22 od23 an23 od24 an24 od25 an25 od26 an26 od27 an27 od28 an28 od29 an29 od30 an30 : Option Addr} {sl0 sl1 sl2 sl3 sl4 sl5 sl6 sl7 sl8 sl9 sl10 sl11 sl12 sl13 sl14 sl15 sl16 sl17 sl18 sl19 sl20 sl21 sl22 sl23 sl24 sl25 sl26 sl27 sl28 sl29 sl30 : Array (Option Value)} {oc0 kV0 dc0 pm0 cd0 ct0 oc1 kV1 dc1 pm1 cd1 ct1 oc2 kV2 dc2 pm2 cd2 ct2 oc3 kV3 dc3 pm3 cd3 ct3 oc4 kV4 dc4 pm4 cd4 ct4 oc5 kV5 dc5 pm5 cd5 ct5 oc6 kV6 dc6 pm6 cd6 ct6 oc7 kV7 dc7 pm7 cd7 ct7 oc8 kV8 dc8 pm8 cd8 ct8 oc9 kV9 dc9 pm9 cd9 ct9 oc10 kV10 dc10 pm10 cd10 ct10 oc11 kV11 dc11 pm11 cd11 ct11 oc12 kV12 dc12 pm12 cd12 ct12 oc13 kV13 dc13 pm13 cd13 ct13 oc14 kV14 dc14 pm14 cd14 ct14 oc15 kV15 dc15 pm15 cd15 ct15 oc16 kV16 dc16 pm16 cd16 ct16 oc17 kV17 dc17 pm17 cd17 ct17 oc18 kV18 dc18 pm18 cd18 ct18 oc19 kV19 dc19 pm19 cd19 ct19 oc20 kV20 dc20 pm20 cd20 ct20 oc21 kV21 dc21 pm21 cd21 ct21 oc22 kV22 dc22 pm22 cd22 ct22 oc23 kV23 dc23 pm23 cd23 ct23 oc24 kV24 dc24 pm24 cd24 ct24 oc25 kV25 dc25 pm25 cd25 ct25 oc26 kV26 dc26 pm26 cd26 ct26 oc27 kV27 dc27 pm27 cd27 ct27 oc28 kV28 dc28 pm28 cd28 ct28 oc29 kV29 dc29 pm29 cd29 ct29 oc30 kV30 dc30 pm30 cd30 ct30 : Value}
    (a0 : PySem.W.nsIn K mainGlobals "makes" = some (some (.ref f0))) (l0 : K.lookup f0 = some ⟨oc0, od0, .func (PySem.W.fnOf "makes" "makes" (defArgs s_makes) (defBody s_makes) (defScope s_makes) .none kV0 dc0 pm0 an0 cd0 ct0), sl0⟩) (c0 : PySem.W.codeIn K cd0 "makes" = true) (k0 : PySem.W.keepIn K (.ref f0) = true)
    (a1 : PySem.W.nsIn K mainGlobals "_kind_names" = some (some (.ref f1))) (l1 : K.lookup f1 = some ⟨oc1, od1, .func (PySem.W.fnOf "_kind_names" "_kind_names" (defArgs s__kind_names) (defBody s__kind_names) (defScope s__kind_names) .none kV1 dc1 pm1 an1 cd1 ct1), sl1⟩) (c1 : PySem.W.codeIn K cd1 "_kind_names" = true) (k1 : PySem.W.keepIn K (.ref f1) = true)
    (a2 : PySem.W.nsIn K mainGlobals "_all_names" = some (some (.ref f2))) (l2 : K.lookup f2 = some ⟨oc2, od2, .func (PySem.W.fnOf "_all_names" "_all_names" (defArgs s__all_names) (defBody s__all_names) (defScope s__all_names) .none kV2 dc2 pm2 an2 cd2 ct2), sl2⟩) (c2 : PySem.W.codeIn K cd2 "_all_names" = true) (k2 : PySem.W.keepIn K (.ref f2) = true)
    (a3 : PySem.W.nsIn K mainGlobals "_match_names" = some (some (.ref f3))) (l3 : K.lookup f3 = some ⟨oc3, od3, .func (PySem.W.fnOf "_match_names" "_match_names" (defArgs s__match_names) (defBody s__match_names) (defScope s__match_names) .none kV3 dc3 pm3 an3 cd3 ct3), sl3⟩) (c3 : PySem.W.codeIn K cd3 "_match_names" = true) (k3 : PySem.W.keepIn K (.ref f3) = true)
    (a4 : PySem.W.nsIn K mainGlobals "_names" = some (some (.ref f4))) (l4 : K.lookup f4 = some ⟨oc4, od4, .func (PySem.W.fnOf "_names" "_names" (defArgs s__names) (defBody s__names) (defScope s__names) .none kV4 dc4 pm4 an4 cd4 ct4), sl4⟩) (c4 : PySem.W.codeIn K cd4 "_names" = true) (k4 : PySem.W.keepIn K (.ref f4) = true)
    (a5 : PySem.W.nsIn K mainGlobals "_all_uses" = some (some (.ref f5))) (l5 : K.lookup f5 = some ⟨oc5, od5, .func (PySem.W.fnOf "_all_uses" "_all_uses" (defArgs s__all_uses) (defBody s__all_uses) (defScope s__all_uses) .none kV5 dc5 pm5 an5 cd5 ct5), sl5⟩) (c5 : PySem.W.codeIn K cd5 "_all_uses" = true) (k5 : PySem.W.keepIn K (.ref f5) = true)
    (a6 : PySem.W.nsIn K mainGlobals "makers_used" = some (some (.ref f6))) (l6 : K.lookup f6 = some ⟨oc6, od6, .func (PySem.W.fnOf "makers_used" "makers_used" (defArgs s_makers_used) (defBody s_makers_used) (defScope s_makers_used) .none kV6 dc6 pm6 an6 cd6 ct6), sl6⟩) (c6 : PySem.W.codeIn K cd6 "makers_used" = true) (k6 : PySem.W.keepIn K (.ref f6) = true)
    (a7 : PySem.W.nsIn K mainGlobals "uses" = some (some (.ref f7))) (l7 : K.lookup f7 = some ⟨oc7, od7, .func (PySem.W.fnOf "uses" "uses" (defArgs s_uses) (defBody s_uses) (defScope s_uses) .none kV7 dc7 pm7 an7 cd7 ct7), sl7⟩) (c7 : PySem.W.codeIn K cd7 "uses" = true) (k7 : PySem.W.keepIn K (.ref f7) = true)
    (a8 : PySem.W.nsIn K mainGlobals "_law_mix" = some (some (.ref f8))) (l8 : K.lookup f8 = some ⟨oc8, od8, .func (PySem.W.fnOf "_law_mix" "_law_mix" (defArgs s__law_mix) (defBody s__law_mix) (defScope s__law_mix) .none kV8 dc8 pm8 an8 cd8 ct8), sl8⟩) (c8 : PySem.W.codeIn K cd8 "_law_mix" = true) (k8 : PySem.W.keepIn K (.ref f8) = true)
    (a9 : PySem.W.nsIn K mainGlobals "_law_draws" = some (some (.ref f9))) (l9 : K.lookup f9 = some ⟨oc9, od9, .func (PySem.W.fnOf "_law_draws" "_law_draws" (defArgs s__law_draws) (defBody s__law_draws) (defScope s__law_draws) .none kV9 dc9 pm9 an9 cd9 ct9), sl9⟩) (c9 : PySem.W.codeIn K cd9 "_law_draws" = true) (k9 : PySem.W.keepIn K (.ref f9) = true)
    (a10 : PySem.W.nsIn K mainGlobals "_law_at" = some (some (.ref f10))) (l10 : K.lookup f10 = some ⟨oc10, od10, .func (PySem.W.fnOf "_law_at" "_law_at" (defArgs s__law_at) (defBody s__law_at) (defScope s__law_at) .none kV10 dc10 pm10 an10 cd10 ct10), sl10⟩) (c10 : PySem.W.codeIn K cd10 "_law_at" = true) (k10 : PySem.W.keepIn K (.ref f10) = true)
    (a11 : PySem.W.nsIn K mainGlobals "_law_is_integer" = some (some (.ref f11))) (l11 : K.lookup f11 = some ⟨oc11, od11, .func (PySem.W.fnOf "_law_is_integer" "_law_is_integer" (defArgs s__law_is_integer) (defBody s__law_is_integer) (defScope s__law_is_integer) .none kV11 dc11 pm11 an11 cd11 ct11), sl11⟩) (c11 : PySem.W.codeIn K cd11 "_law_is_integer" = true) (k11 : PySem.W.keepIn K (.ref f11) = true)
    (a12 : PySem.W.nsIn K mainGlobals "_law_same" = some (some (.ref f12))) (l12 : K.lookup f12 = some ⟨oc12, od12, .func (PySem.W.fnOf "_law_same" "_law_same" (defArgs s__law_same) (defBody s__law_same) (defScope s__law_same) .none kV12 dc12 pm12 an12 cd12 ct12), sl12⟩) (c12 : PySem.W.codeIn K cd12 "_law_same" = true) (k12 : PySem.W.keepIn K (.ref f12) = true)
    (a13 : PySem.W.nsIn K mainGlobals "_law_is_dict" = some (some (.ref f13))) (l13 : K.lookup f13 = some ⟨oc13, od13, .func (PySem.W.fnOf "_law_is_dict" "_law_is_dict" (defArgs s__law_is_dict) (defBody s__law_is_dict) (defScope s__law_is_dict) .none kV13 dc13 pm13 an13 cd13 ct13), sl13⟩) (c13 : PySem.W.codeIn K cd13 "_law_is_dict" = true) (k13 : PySem.W.keepIn K (.ref f13) = true)
    (a14 : PySem.W.nsIn K mainGlobals "_law_next" = some (some (.ref f14))) (l14 : K.lookup f14 = some ⟨oc14, od14, .func (PySem.W.fnOf "_law_next" "_law_next" (defArgs s__law_next) (defBody s__law_next) (defScope s__law_next) .none kV14 dc14 pm14 an14 cd14 ct14), sl14⟩) (c14 : PySem.W.codeIn K cd14 "_law_next" = true) (k14 : PySem.W.keepIn K (.ref f14) = true)
    (a15 : PySem.W.nsIn K mainGlobals "_law_locals" = some (some (.ref f15))) (l15 : K.lookup f15 = some ⟨oc15, od15, .func (PySem.W.fnOf "_law_locals" "_law_locals" (defArgs s__law_locals) (defBody s__law_locals) (defScope s__law_locals) .none kV15 dc15 pm15 an15 cd15 ct15), sl15⟩) (c15 : PySem.W.codeIn K cd15 "_law_locals" = true) (k15 : PySem.W.keepIn K (.ref f15) = true)
    (a16 : PySem.W.nsIn K mainGlobals "_law_kinds" = some (some (.ref f16))) (l16 : K.lookup f16 = some ⟨oc16, od16, .func (PySem.W.fnOf "_law_kinds" "_law_kinds" (defArgs s__law_kinds) (defBody s__law_kinds) (defScope s__law_kinds) .none kV16 dc16 pm16 an16 cd16 ct16), sl16⟩) (c16 : PySem.W.codeIn K cd16 "_law_kinds" = true) (k16 : PySem.W.keepIn K (.ref f16) = true)
    (a17 : PySem.W.nsIn K mainGlobals "_law_drawn_kind" = some (some (.ref f17))) (l17 : K.lookup f17 = some ⟨oc17, od17, .func (PySem.W.fnOf "_law_drawn_kind" "_law_drawn_kind" (defArgs s__law_drawn_kind) (defBody s__law_drawn_kind) (defScope s__law_drawn_kind) .none kV17 dc17 pm17 an17 cd17 ct17), sl17⟩) (c17 : PySem.W.codeIn K cd17 "_law_drawn_kind" = true) (k17 : PySem.W.keepIn K (.ref f17) = true)
    (a18 : PySem.W.nsIn K mainGlobals "_law_plan" = some (some (.ref f18))) (l18 : K.lookup f18 = some ⟨oc18, od18, .func (PySem.W.fnOf "_law_plan" "_law_plan" (defArgs s__law_plan) (defBody s__law_plan) (defScope s__law_plan) .none kV18 dc18 pm18 an18 cd18 ct18), sl18⟩) (c18 : PySem.W.codeIn K cd18 "_law_plan" = true) (k18 : PySem.W.keepIn K (.ref f18) = true)
    (a19 : PySem.W.nsIn K mainGlobals "_law_plain" = some (some (.ref f19))) (l19 : K.lookup f19 = some ⟨oc19, od19, .func (PySem.W.fnOf "_law_plain" "_law_plain" (defArgs s__law_plain) (defBody s__law_plain) (defScope s__law_plain) .none kV19 dc19 pm19 an19 cd19 ct19), sl19⟩) (c19 : PySem.W.codeIn K cd19 "_law_plain" = true) (k19 : PySem.W.keepIn K (.ref f19) = true)
    (a20 : PySem.W.nsIn K mainGlobals "_law_term" = some (some (.ref f20))) (l20 : K.lookup f20 = some ⟨oc20, od20, .func (PySem.W.fnOf "_law_term" "_law_term" (defArgs s__law_term) (defBody s__law_term) (defScope s__law_term) .none kV20 dc20 pm20 an20 cd20 ct20), sl20⟩) (c20 : PySem.W.codeIn K cd20 "_law_term" = true) (k20 : PySem.W.keepIn K (.ref f20) = true)
    (a21 : PySem.W.nsIn K mainGlobals "_law_names" = some (some (.ref f21))) (l21 : K.lookup f21 = some ⟨oc21, od21, .func (PySem.W.fnOf "_law_names" "_law_names" (defArgs s__law_names) (defBody s__law_names) (defScope s__law_names) .none kV21 dc21 pm21 an21 cd21 ct21), sl21⟩) (c21 : PySem.W.codeIn K cd21 "_law_names" = true) (k21 : PySem.W.keepIn K (.ref f21) = true)
    (a22 : PySem.W.nsIn K mainGlobals "_law_choice" = some (some (.ref f22))) (l22 : K.lookup f22 = some ⟨oc22, od22, .func (PySem.W.fnOf "_law_choice" "_law_choice" (defArgs s__law_choice) (defBody s__law_choice) (defScope s__law_choice) .none kV22 dc22 pm22 an22 cd22 ct22), sl22⟩) (c22 : PySem.W.codeIn K cd22 "_law_choice" = true) (k22 : PySem.W.keepIn K (.ref f22) = true)
    (a23 : PySem.W.nsIn K mainGlobals "_law_made" = some (some (.ref f23))) (l23 : K.lookup f23 = some ⟨oc23, od23, .func (PySem.W.fnOf "_law_made" "_law_made" (defArgs s__law_made) (defBody s__law_made) (defScope s__law_made) .none kV23 dc23 pm23 an23 cd23 ct23), sl23⟩) (c23 : PySem.W.codeIn K cd23 "_law_made" = true) (k23 : PySem.W.keepIn K (.ref f23) = true)
    (a24 : PySem.W.nsIn K mainGlobals "_law_definition" = some (some (.ref f24))) (l24 : K.lookup f24 = some ⟨oc24, od24, .func (PySem.W.fnOf "_law_definition" "_law_definition" (defArgs s__law_definition) (defBody s__law_definition) (defScope s__law_definition) .none kV24 dc24 pm24 an24 cd24 ct24), sl24⟩) (c24 : PySem.W.codeIn K cd24 "_law_definition" = true) (k24 : PySem.W.keepIn K (.ref f24) = true)
    (a25 : PySem.W.nsIn K mainGlobals "_law_definitions" = some (some (.ref f25))) (l25 : K.lookup f25 = some ⟨oc25, od25, .func (PySem.W.fnOf "_law_definitions" "_law_definitions" (defArgs s__law_definitions) (defBody s__law_definitions) (defScope s__law_definitions) .none kV25 dc25 pm25 an25 cd25 ct25), sl25⟩) (c25 : PySem.W.codeIn K cd25 "_law_definitions" = true) (k25 : PySem.W.keepIn K (.ref f25) = true)
    (a26 : PySem.W.nsIn K mainGlobals "_law_makes" = some (some (.ref f26))) (l26 : K.lookup f26 = some ⟨oc26, od26, .func (PySem.W.fnOf "_law_makes" "_law_makes" (defArgs s__law_makes) (defBody s__law_makes) (defScope s__law_makes) .none kV26 dc26 pm26 an26 cd26 ct26), sl26⟩) (c26 : PySem.W.codeIn K cd26 "_law_makes" = true) (k26 : PySem.W.keepIn K (.ref f26) = true)
    (a27 : PySem.W.nsIn K mainGlobals "_law_used_data" = some (some (.ref f27))) (l27 : K.lookup f27 = some ⟨oc27, od27, .func (PySem.W.fnOf "_law_used_data" "_law_used_data" (defArgs s__law_used_data) (defBody s__law_used_data) (defScope s__law_used_data) .none kV27 dc27 pm27 an27 cd27 ct27), sl27⟩) (c27 : PySem.W.codeIn K cd27 "_law_used_data" = true) (k27 : PySem.W.keepIn K (.ref f27) = true)
    (a28 : PySem.W.nsIn K mainGlobals "_law_used" = some (some (.ref f28))) (l28 : K.lookup f28 = some ⟨oc28, od28, .func (PySem.W.fnOf "_law_used" "_law_used" (defArgs s__law_used) (defBody s__law_used) (defScope s__law_used) .none kV28 dc28 pm28 an28 cd28 ct28), sl28⟩) (c28 : PySem.W.codeIn K cd28 "_law_used" = true) (k28 : PySem.W.keepIn K (.ref f28) = true)
    (a29 : PySem.W.nsIn K mainGlobals "_law_uses" = some (some (.ref f29))) (l29 : K.lookup f29 = some ⟨oc29, od29, .func (PySem.W.fnOf "_law_uses" "_law_uses" (defArgs s__law_uses) (defBody s__law_uses) (defScope s__law_uses) .none kV29 dc29 pm29 an29 cd29 ct29), sl29⟩) (c29 : PySem.W.codeIn K cd29 "_law_uses" = true) (k29 : PySem.W.keepIn K (.ref f29) = true)
    (a30 : PySem.W.nsIn K mainGlobals "law" = some (some (.ref f30))) (l30 : K.lookup f30 = some ⟨oc30, od30, .func (PySem.W.fnOf "law" "law" (defArgs s_law) (defBody s_law) (defScope s_law) .none kV30 dc30 pm30 an30 cd30 ct30), sl30⟩) (c30 : PySem.W.codeIn K cd30 "law" = true) (k30 : PySem.W.keepIn K (.ref f30) = true)
    (z0 : PySem.W.nsIn K mainGlobals "bool" = some none) (z1 : PySem.W.nsIn K mainGlobals "dict" = some none) (z2 : PySem.W.nsIn K mainGlobals "int" = some none) (z3 : PySem.W.nsIn K mainGlobals "isinstance" = some none) (z4 : PySem.W.nsIn K mainGlobals "len" = some none) (z5 : PySem.W.nsIn K mainGlobals "list" = some none) (z6 : PySem.W.nsIn K mainGlobals "min" = some none) (z7 : PySem.W.nsIn K mainGlobals "range" = some none) (z8 : PySem.W.nsIn K mainGlobals "str" = some none) (z9 : PySem.W.nsIn K mainGlobals "tuple" = some none)
    
    {ta0 : Addr} (yt0 : PySem.W.nsIn K mainGlobals "PLAIN" = some (some (.ref ta0)))
    {to0 : Option Addr} {tn0 : Nat} {ts0 : Array (Option Value)} {u0_0 u0_1 u0_2 : Tok} (yl0 : K.lookup ta0 = some ⟨.type "tuple", to0, .seq #[.str "num" u0_0, .str "text" u0_1, .str "bool" u0_2] tn0, ts0⟩)
    :
    ∃ fd : FuncData, (∀ (s : Shared) (v : Value), BindsTo s fd ⟨[v], []⟩ [("script", v)]) ∧ ∀ base : Heap, K.In base → base.Ns mainGlobals mg → FnOk l.prog w K mg base CX0 104 fa fd ["script"] (spP K 1 F_law) := by
  have e := hfa.symm.trans (PySem.W.mg_of X G a30)
  cases e
  have T : Tx K mg := ⟨PySem.W.mg_none_of X G z0, PySem.W.mg_none_of X G z1, PySem.W.mg_none_of X G z2, PySem.W.mg_none_of X G z3, PySem.W.mg_none_of X G z4, PySem.W.mg_none_of X G z5, PySem.W.mg_none_of X G z6, PySem.W.mg_none_of X G z7, PySem.W.mg_none_of X G z8, PySem.W.mg_none_of X G z9, ⟨_, PySem.W.mg_of X G yt0, tupK_of yl0 (by rw [PySem.sizeLine_eq]; simp) (.cons ⟨_, rfl⟩ (.cons ⟨_, rfl⟩ (.cons ⟨_, rfl⟩ (.nil))))⟩⟩
  have F0 := fun_mk (st := s_makes) l0 c0 k0
  have b0 := F0.binds (ps := ["definition"]) fun _ _ _ _ _ _ us hl => match us, hl with | [_], _ => rfl
  have F1 := fun_mk (st := s__kind_names) l1 c1 k1
  have b1 := F1.binds (ps := ["kinds"]) fun _ _ _ _ _ _ us hl => match us, hl with | [_], _ => rfl
  have F2 := fun_mk (st := s__all_names) l2 c2 k2
  have b2 := F2.binds (ps := ["expressions", "local", "makers"]) fun _ _ _ _ _ _ us hl => match us, hl with | [_, _, _], _ => rfl
  have F3 := fun_mk (st := s__match_names) l3 c3 k3
  have b3 := F3.binds (ps := ["expression", "local", "makers"]) fun _ _ _ _ _ _ us hl => match us, hl with | [_, _, _], _ => rfl
  have F4 := fun_mk (st := s__names) l4 c4 k4
  have b4 := F4.binds (ps := ["expression", "local", "makers"]) fun _ _ _ _ _ _ us hl => match us, hl with | [_, _, _], _ => rfl
  have F5 := fun_mk (st := s__all_uses) l5 c5 k5
  have b5 := F5.binds (ps := ["definition", "makers"]) fun _ _ _ _ _ _ us hl => match us, hl with | [_, _], _ => rfl
  have F6 := fun_mk (st := s_makers_used) l6 c6 k6
  have b6 := F6.binds (ps := ["definition"]) fun _ _ _ _ _ _ us hl => match us, hl with | [_], _ => rfl
  have F7 := fun_mk (st := s_uses) l7 c7 k7
  have b7 := F7.binds (ps := ["definition", "makers"]) fun _ _ _ _ _ _ us hl => match us, hl with | [_, _], _ => rfl
  have F8 := fun_mk (st := s__law_mix) l8 c8 k8
  have b8 := F8.binds (ps := ["cell", "k"]) fun _ _ _ _ _ _ us hl => match us, hl with | [_, _], _ => rfl
  have F9 := fun_mk (st := s__law_draws) l9 c9 k9
  have b9 := F9.binds (ps := ["script"]) fun _ _ _ _ _ _ us hl => match us, hl with | [_], _ => rfl
  have F10 := fun_mk (st := s__law_at) l10 c10 k10
  have b10 := F10.binds (ps := ["draws", "index"]) fun _ _ _ _ _ _ us hl => match us, hl with | [_, _], _ => rfl
  have F11 := fun_mk (st := s__law_is_integer) l11 c11 k11
  have b11 := F11.binds (ps := ["actual"]) fun _ _ _ _ _ _ us hl => match us, hl with | [_], _ => rfl
  have F12 := fun_mk (st := s__law_same) l12 c12 k12
  have b12 := F12.binds (ps := ["actual", "expected"]) fun _ _ _ _ _ _ us hl => match us, hl with | [_, _], _ => rfl
  have F13 := fun_mk (st := s__law_is_dict) l13 c13 k13
  have b13 := F13.binds (ps := ["actual", "expected"]) fun _ _ _ _ _ _ us hl => match us, hl with | [_, _], _ => rfl
  have F14 := fun_mk (st := s__law_next) l14 c14 k14
  have b14 := F14.binds (ps := ["state", "limit"]) fun _ _ _ _ _ _ us hl => match us, hl with | [_, _], _ => rfl
  have F15 := fun_mk (st := s__law_locals) l15 c15 k15
  have b15 := F15.binds (ps := ["local"]) fun _ _ _ _ _ _ us hl => match us, hl with | [_], _ => rfl
  have F16 := fun_mk (st := s__law_kinds) l16 c16 k16
  have b16 := F16.binds (ps := []) fun _ _ _ _ _ _ us hl => match us, hl with | [], _ => rfl
  have F17 := fun_mk (st := s__law_drawn_kind) l17 c17 k17
  have b17 := F17.binds (ps := ["state"]) fun _ _ _ _ _ _ us hl => match us, hl with | [_], _ => rfl
  have F18 := fun_mk (st := s__law_plan) l18 c18 k18
  have b18 := F18.binds (ps := ["state"]) fun _ _ _ _ _ _ us hl => match us, hl with | [_], _ => rfl
  have F19 := fun_mk (st := s__law_plain) l19 c19 k19
  have b19 := F19.binds (ps := ["state", "kind"]) fun _ _ _ _ _ _ us hl => match us, hl with | [_, _], _ => rfl
  have F20 := fun_mk (st := s__law_term) l20 c20 k20
  have b20 := F20.binds (ps := ["state", "plan", "local", "kind", "depth", "steady"]) fun _ _ _ _ _ _ us hl => match us, hl with | [_, _, _, _, _, _], _ => rfl
  have F21 := fun_mk (st := s__law_names) l21 c21 k21
  have b21 := F21.binds (ps := ["state", "count"]) fun _ _ _ _ _ _ us hl => match us, hl with | [_, _], _ => rfl
  have F22 := fun_mk (st := s__law_choice) l22 c22 k22
  have b22 := F22.binds (ps := ["state", "plan", "local", "kind", "depth", "steady"]) fun _ _ _ _ _ _ us hl => match us, hl with | [_, _, _, _, _, _], _ => rfl
  have F23 := fun_mk (st := s__law_made) l23 c23 k23
  have b23 := F23.binds (ps := ["state", "plan", "local", "kind", "depth", "steady"]) fun _ _ _ _ _ _ us hl => match us, hl with | [_, _, _, _, _, _], _ => rfl
  have F24 := fun_mk (st := s__law_definition) l24 c24 k24
  have b24 := F24.binds (ps := ["state", "plan", "name"]) fun _ _ _ _ _ _ us hl => match us, hl with | [_, _, _], _ => rfl
  have F25 := fun_mk (st := s__law_definitions) l25 c25 k25
  have b25 := F25.binds (ps := ["state"]) fun _ _ _ _ _ _ us hl => match us, hl with | [_], _ => rfl
  have F26 := fun_mk (st := s__law_makes) l26 c26 k26
  have b26 := F26.binds (ps := ["definition"]) fun _ _ _ _ _ _ us hl => match us, hl with | [_], _ => rfl
  have F27 := fun_mk (st := s__law_used_data) l27 c27 k27
  have b27 := F27.binds (ps := ["kinds"]) fun _ _ _ _ _ _ us hl => match us, hl with | [_], _ => rfl
  have F28 := fun_mk (st := s__law_used) l28 c28 k28
  have b28 := F28.binds (ps := ["e", "local", "makers"]) fun _ _ _ _ _ _ us hl => match us, hl with | [_, _, _], _ => rfl
  have F29 := fun_mk (st := s__law_uses) l29 c29 k29
  have b29 := F29.binds (ps := ["definition", "makers"]) fun _ _ _ _ _ _ us hl => match us, hl with | [_, _], _ => rfl
  have F30 := fun_mk (st := s_law) l30 c30 k30
  refine ⟨PySem.W.fnOf "law" "law" (defArgs s_law) (defBody s_law) (defScope s_law) .none kV30 dc30 pm30 an30 cd30 ct30, fun s v => .of_eq rfl, fun base _ _ => ?_⟩
  have c_makes : Cal l.prog w K mg base "makes" 1 ["definition"] (spP K 1 F_makes) := ⟨f0, _, ok_makes F0 T , b0, k0, (PySem.W.mg_of X G a0)⟩
  have c__kind_names : Cal l.prog w K mg base "_kind_names" 1 ["kinds"] (spP K 1 F__kind_names) := ⟨f1, _, ok__kind_names F1 T , b1, k1, (PySem.W.mg_of X G a1)⟩
  have c__law_mix : Cal l.prog w K mg base "_law_mix" 1 ["cell", "k"] (spP K 2 F__law_mix) := ⟨f8, _, ok__law_mix F8 T , b8, k8, (PySem.W.mg_of X G a8)⟩
  have c__law_is_integer : Cal l.prog w K mg base "_law_is_integer" 1 ["actual"] (spP K 1 F__law_is_integer) := ⟨f11, _, ok__law_is_integer F11 T , b11, k11, (PySem.W.mg_of X G a11)⟩
  have c__law_locals : Cal l.prog w K mg base "_law_locals" 1 ["local"] (spP K 1 F__law_locals) := ⟨f15, _, ok__law_locals F15 T , b15, k15, (PySem.W.mg_of X G a15)⟩
  have c__law_kinds : Cal l.prog w K mg base "_law_kinds" 1 [] (spP K 0 F__law_kinds) := ⟨f16, _, ok__law_kinds F16 T , b16, k16, (PySem.W.mg_of X G a16)⟩
  have c__law_makes : Cal l.prog w K mg base "_law_makes" 1 ["definition"] (spP K 1 F__law_makes) := ⟨f26, _, ok__law_makes F26 T , b26, k26, (PySem.W.mg_of X G a26)⟩
  have c__law_used_data : Cal l.prog w K mg base "_law_used_data" 1 ["kinds"] (spP K 1 F__law_used_data) := ⟨f27, _, ok__law_used_data F27 T , b27, k27, (PySem.W.mg_of X G a27)⟩
  have c__law_draws : Cal l.prog w K mg base "_law_draws" 2 ["script"] (spP K 1 F__law_draws) := ⟨f9, _, ok__law_draws F9 T c__law_mix, b9, k9, (PySem.W.mg_of X G a9)⟩
  have c__law_at : Cal l.prog w K mg base "_law_at" 2 ["draws", "index"] (spP K 2 F__law_at) := ⟨f10, _, ok__law_at F10 T c__law_mix, b10, k10, (PySem.W.mg_of X G a10)⟩
  have c__law_next : Cal l.prog w K mg base "_law_next" 3 ["state", "limit"] (spI K 2 F__law_next) := ⟨f14, _, ok__law_next F14 T c__law_at, b14, k14, (PySem.W.mg_of X G a14)⟩
  have c__law_drawn_kind : Cal l.prog w K mg base "_law_drawn_kind" 4 ["state"] (spI K 1 F__law_drawn_kind) := ⟨f17, _, ok__law_drawn_kind F17 T c__law_next c__law_kinds, b17, k17, (PySem.W.mg_of X G a17)⟩
  have c__law_plain : Cal l.prog w K mg base "_law_plain" 4 ["state", "kind"] (spI K 2 F__law_plain) := ⟨f19, _, ok__law_plain F19 T c__law_next, b19, k19, (PySem.W.mg_of X G a19)⟩
  have c__law_names : Cal l.prog w K mg base "_law_names" 4 ["state", "count"] (spI K 2 F__law_names) := ⟨f21, _, ok__law_names F21 T c__law_next, b21, k21, (PySem.W.mg_of X G a21)⟩
  have c__law_plan : Cal l.prog w K mg base "_law_plan" 5 ["state"] (spI K 1 F__law_plan) := ⟨f18, _, ok__law_plan F18 T c__law_next c__law_drawn_kind, b18, k18, (PySem.W.mg_of X G a18)⟩
  have c__law_same : Cal l.prog w K mg base "_law_same" 9 ["actual", "expected"] (spP K 2 (F__law_same 8)) := ⟨f12, _, ok__law_same F12 T c__law_is_integer b12 (PySem.W.mg_of X G a12) 8, b12, k12, (PySem.W.mg_of X G a12)⟩
  have c__law_is_dict : Cal l.prog w K mg base "_law_is_dict" 10 ["actual", "expected"] (spP K 2 F__law_is_dict) := ⟨f13, _, ok__law_is_dict F13 T c__law_same, b13, k13, (PySem.W.mg_of X G a13)⟩
  have g__law_term := ok_grp__law_term (P := l.prog) (w := w) (base := base) F20 F22 F23 T c__law_next c__law_locals c__law_drawn_kind c__law_plain c__law_names b20 b22 b23 (PySem.W.mg_of X G a20) (PySem.W.mg_of X G a22) (PySem.W.mg_of X G a23) 12
  have c__law_term : Cal l.prog w K mg base "_law_term" 16 ["state", "plan", "local", "kind", "depth", "steady"] (spI K 6 (F__law_term 12)) := ⟨f20, _, g__law_term.1, b20, k20, (PySem.W.mg_of X G a20)⟩
  have c__law_choice : Cal l.prog w K mg base "_law_choice" 16 ["state", "plan", "local", "kind", "depth", "steady"] (spI K 6 (F__law_choice 12)) := ⟨f22, _, g__law_term.2.1, b22, k22, (PySem.W.mg_of X G a22)⟩
  have c__law_made : Cal l.prog w K mg base "_law_made" 16 ["state", "plan", "local", "kind", "depth", "steady"] (spI K 6 (F__law_made 12)) := ⟨f23, _, g__law_term.2.2, b23, k23, (PySem.W.mg_of X G a23)⟩
  have c__law_definition : Cal l.prog w K mg base "_law_definition" 17 ["state", "plan", "name"] (spI K 3 F__law_definition) := ⟨f24, _, ok__law_definition F24 T c__law_next c__law_term c__law_names, b24, k24, (PySem.W.mg_of X G a24)⟩
  have c__law_definitions : Cal l.prog w K mg base "_law_definitions" 18 ["state"] (spI K 1 F__law_definitions) := ⟨f25, _, ok__law_definitions F25 T c__law_next c__law_plan c__law_definition, b25, k25, (PySem.W.mg_of X G a25)⟩
  have c__law_used : Cal l.prog w K mg base "_law_used" 60 ["e", "local", "makers"] (spP K 3 (F__law_used 60)) := ⟨f28, _, ok__law_used F28 T  b28 (PySem.W.mg_of X G a28) 60, b28, k28, (PySem.W.mg_of X G a28)⟩
  have c__law_uses : Cal l.prog w K mg base "_law_uses" 61 ["definition", "makers"] (spP K 2 F__law_uses) := ⟨f29, _, ok__law_uses F29 T c__law_used_data c__law_used, b29, k29, (PySem.W.mg_of X G a29)⟩
  have g__all_names := ok_grp__all_names (P := l.prog) (w := w) (base := base) F2 F3 F4 T  b2 b3 b4 (PySem.W.mg_of X G a2) (PySem.W.mg_of X G a3) (PySem.W.mg_of X G a4) 100
  have c__all_names : Cal l.prog w K mg base "_all_names" 100 ["expressions", "local", "makers"] (spP K 3 (F__all_names 100)) := ⟨f2, _, g__all_names.1, b2, k2, (PySem.W.mg_of X G a2)⟩
  have c__match_names : Cal l.prog w K mg base "_match_names" 100 ["expression", "local", "makers"] (spP K 3 (F__match_names 100)) := ⟨f3, _, g__all_names.2.1, b3, k3, (PySem.W.mg_of X G a3)⟩
  have c__names : Cal l.prog w K mg base "_names" 100 ["expression", "local", "makers"] (spP K 3 (F__names 100)) := ⟨f4, _, g__all_names.2.2, b4, k4, (PySem.W.mg_of X G a4)⟩
  have c__all_uses : Cal l.prog w K mg base "_all_uses" 101 ["definition", "makers"] (spP K 2 F__all_uses) := ⟨f5, _, ok__all_uses F5 T c__kind_names c__names, b5, k5, (PySem.W.mg_of X G a5)⟩
  have c_uses : Cal l.prog w K mg base "uses" 102 ["definition", "makers"] (spP K 2 F_uses) := ⟨f7, _, ok_uses F7 T c__all_uses, b7, k7, (PySem.W.mg_of X G a7)⟩
  have c_makers_used : Cal l.prog w K mg base "makers_used" 103 ["definition"] (spP K 1 F_makers_used) := ⟨f6, _, ok_makers_used F6 T c_uses, b6, k6, (PySem.W.mg_of X G a6)⟩
  exact ok_law F30 T c_makes c_makers_used c_uses c__law_draws c__law_same c__law_is_dict c__law_next c__law_definitions c__law_makes c__law_uses
end My
end
section
open PySem PySem.W PyProof.Rows
set_option maxHeartbeats 0 in
theorem PySem.Challenge.cw_quillproof_k11_names_made_and_used_holds : PySem.Challenge.rw_quillproof_k11_names_made_and_used.Holds := by
  w_on; o_law; k_head; (case hw => w_witness2)
  k_fill
  refine L2.walk_of (l := PySem.Challenge.rw_quillproof_k11_names_made_and_used) (n := 63) (k := 104) (x := "script") (CX := fun _ => L2.CX0) (sp := fun w => Qp.spP _ 1 My.F_law) rfl (by decide) rfl ⟨rfl, by decide, by decide⟩ (fun w h Y => PySem.W.kIn_of Y) ?F (fun _ _ a ns hl _ hS => Qp.law_sp hS (My.main ns hl)) (fun _ _ _ _ _ h => h)
  case F =>
    intro w mg fa h KX G hmg
    refine' My.all_mk KX G hmg ?a0 ?l0 ?c0 ?k0 ?a1 ?l1 ?c1 ?k1 ?a2 ?l2 ?c2 ?k2 ?a3 ?l3 ?c3 ?k3 ?a4 ?l4 ?c4 ?k4 ?a5 ?l5 ?c5 ?k5 ?a6 ?l6 ?c6 ?k6 ?a7 ?l7 ?c7 ?k7 ?a8 ?l8 ?c8 ?k8 ?a9 ?l9 ?c9 ?k9 ?a10 ?l10 ?c10 ?k10 ?a11 ?l11 ?c11 ?k11 ?a12 ?l12 ?c12 ?k12 ?a13 ?l13 ?c13 ?k13 ?a14 ?l14 ?c14 ?k14 ?a15 ?l15 ?c15 ?k15 ?a16 ?l16 ?c16 ?k16 ?a17 ?l17 ?c17 ?k17 ?a18 ?l18 ?c18 ?k18 ?a19 ?l19 ?c19 ?k19 ?a20 ?l20 ?c20 ?k20 ?a21 ?l21 ?c21 ?k21 ?a22 ?l22 ?c22 ?k22 ?a23 ?l23 ?c23 ?k23 ?a24 ?l24 ?c24 ?k24 ?a25 ?l25 ?c25 ?k25 ?a26 ?l26 ?c26 ?k26 ?a27 ?l27 ?c27 ?k27 ?a28 ?l28 ?c28 ?k28 ?a29 ?l29 ?c29 ?k29 ?a30 ?l30 ?c30 ?k30 ?z0 ?z1 ?z2 ?z3 ?z4 ?z5 ?z6 ?z7 ?z8 ?z9 ?yt0 ?yl0
    (case a0 => k_is); (case l0 => k_is); (case c0 => k_is); (case k0 => k_is); (case a1 => k_is); (case l1 => k_is); (case c1 => k_is); (case k1 => k_is)
    (case a2 => k_is); (case l2 => k_is); (case c2 => k_is); (case k2 => k_is); (case a3 => k_is); (case l3 => k_is); (case c3 => k_is); (case k3 => k_is)
    (case a4 => k_is); (case l4 => k_is); (case c4 => k_is); (case k4 => k_is); (case a5 => k_is); (case l5 => k_is); (case c5 => k_is); (case k5 => k_is)
    (case a6 => k_is); (case l6 => k_is); (case c6 => k_is); (case k6 => k_is); (case a7 => k_is); (case l7 => k_is); (case c7 => k_is); (case k7 => k_is)
    (case a8 => k_is); (case l8 => k_is); (case c8 => k_is); (case k8 => k_is); (case a9 => k_is); (case l9 => k_is); (case c9 => k_is); (case k9 => k_is)
    (case a10 => k_is); (case l10 => k_is); (case c10 => k_is); (case k10 => k_is); (case a11 => k_is); (case l11 => k_is); (case c11 => k_is); (case k11 => k_is)
    (case a12 => k_is); (case l12 => k_is); (case c12 => k_is); (case k12 => k_is); (case a13 => k_is); (case l13 => k_is); (case c13 => k_is); (case k13 => k_is)
    (case a14 => k_is); (case l14 => k_is); (case c14 => k_is); (case k14 => k_is); (case a15 => k_is); (case l15 => k_is); (case c15 => k_is); (case k15 => k_is)
    (case a16 => k_is); (case l16 => k_is); (case c16 => k_is); (case k16 => k_is); (case a17 => k_is); (case l17 => k_is); (case c17 => k_is); (case k17 => k_is)
    (case a18 => k_is); (case l18 => k_is); (case c18 => k_is); (case k18 => k_is); (case a19 => k_is); (case l19 => k_is); (case c19 => k_is); (case k19 => k_is)
    (case a20 => k_is); (case l20 => k_is); (case c20 => k_is); (case k20 => k_is); (case a21 => k_is); (case l21 => k_is); (case c21 => k_is); (case k21 => k_is)
    (case a22 => k_is); (case l22 => k_is); (case c22 => k_is); (case k22 => k_is); (case a23 => k_is); (case l23 => k_is); (case c23 => k_is); (case k23 => k_is)
    (case a24 => k_is); (case l24 => k_is); (case c24 => k_is); (case k24 => k_is); (case a25 => k_is); (case l25 => k_is); (case c25 => k_is); (case k25 => k_is)
    (case a26 => k_is); (case l26 => k_is); (case c26 => k_is); (case k26 => k_is); (case a27 => k_is); (case l27 => k_is); (case c27 => k_is); (case k27 => k_is)
    (case a28 => k_is); (case l28 => k_is); (case c28 => k_is); (case k28 => k_is); (case a29 => k_is); (case l29 => k_is); (case c29 => k_is); (case k29 => k_is)
    (case a30 => k_is); (case l30 => k_is); (case c30 => k_is); (case k30 => k_is); (case z0 => k_is); (case z1 => k_is); (case z2 => k_is); (case z3 => k_is)
    (case z4 => k_is); (case z5 => k_is); (case z6 => k_is); (case z7 => k_is); (case z8 => k_is); (case z9 => k_is); (case yt0 => k_is); (case yl0 => k_is)
end
