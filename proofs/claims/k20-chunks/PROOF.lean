import PyProof.Rows.All
import Wide.All
import OpenK.AllK
import Wide.FinOn
import HandS.ForMost
import HandS.IsInst
import HandS.TupAny
import PySem.Challenge.RW_quillproof_k20_chunks_of_a_text
section
set_option Elab.async false
set_option linter.all false
set_option maxRecDepth 100000
set_option maxHeartbeats 2000000
/-! Qa: data, representation, cells, the state relation. -/
namespace Qp
open PySem PySem.Spec PyProof.Rows L2
abbrev D := PyData
abbrev St := L2.St
def kD : Key → D
  | .inl i => .int i
  | .inr s => .str s
theorem Pd.len {α β : Type} {R : α → β → Prop} : ∀ {xs : List α} {ys : List β}, Paired R xs ys → xs.length = ys.length
  | _, _, .nil => rfl
  | _, _, .cons _ t => by simp [Pd.len t]
theorem Pd.get {α β : Type} {R : α → β → Prop} : ∀ {xs : List α} {ys : List β} {i : Nat} {y : β}, Paired R xs ys → ys[i]? = some y → ∃ x, xs[i]? = some x ∧ R x y
  | _, _, _, _, .nil, e => by simp at e
  | _, _, 0, _, .cons r _, e => by simp at e; subst e; exact ⟨_, rfl, r⟩
  | _, _, i + 1, y, .cons _ t, e => by
    obtain ⟨u, h1, h2⟩ := Pd.get (i := i) (y := y) t (by simpa using e)
    exact ⟨u, by simpa using h1, h2⟩
theorem Pd.getL {α β : Type} {R : α → β → Prop} : ∀ {xs : List α} {ys : List β} {i : Nat} {x : α}, Paired R xs ys → xs[i]? = some x → ∃ y, ys[i]? = some y ∧ R x y
  | _, _, _, _, .nil, e => by simp at e
  | _, _, 0, _, .cons r _, e => by simp at e; subst e; exact ⟨_, rfl, r⟩
  | _, _, i + 1, y, .cons _ t, e => by
    obtain ⟨u, h1, h2⟩ := Pd.getL (i := i) (x := y) t (by simpa using e)
    exact ⟨u, by simpa using h1, h2⟩
theorem Pd.append {α β : Type} {R : α → β → Prop} : ∀ {xs xs' : List α} {ys ys' : List β}, Paired R xs ys → Paired R xs' ys' → Paired R (xs ++ xs') (ys ++ ys')
  | _, _, _, _, .nil, s => s
  | _, _, _, _, .cons r t, s => .cons r (Pd.append t s)
theorem Pd.set {α β : Type} {R : α → β → Prop} {x : α} {y : β} (r : R x y) : ∀ {xs : List α} {ys : List β} (i : Nat), Paired R xs ys → Paired R (xs.set i x) (ys.set i y)
  | _, _, _, .nil => .nil
  | _, _, 0, .cons _ t => .cons r t
  | _, _, i + 1, .cons q t => .cons q (Pd.set r i t)
theorem Pd.take {α β : Type} {R : α → β → Prop} : ∀ {xs : List α} {ys : List β} (n : Nat), Paired R xs ys → Paired R (xs.take n) (ys.take n)
  | _, _, 0, _ => .nil
  | _, _, _ + 1, .nil => .nil
  | _, _, n + 1, .cons r t => .cons r (Pd.take n t)
theorem Pd.drop {α β : Type} {R : α → β → Prop} : ∀ {xs : List α} {ys : List β} (n : Nat), Paired R xs ys → Paired R (xs.drop n) (ys.drop n)
  | _, _, 0, r => r
  | _, _, _ + 1, .nil => .nil
  | _, _, n + 1, .cons _ t => Pd.drop n t
theorem Pd.mono {α β : Type} {R S : α → β → Prop} (h : ∀ x y, R x y → S x y) : ∀ {xs : List α} {ys : List β}, Paired R xs ys → Paired S xs ys
  | _, _, .nil => .nil
  | _, _, .cons r t => .cons (h _ _ r) (Pd.mono h t)
theorem Pd.reverse {α β : Type} {R : α → β → Prop} {xs : List α} {ys : List β} (h : Paired R xs ys) : Paired R xs.reverse ys.reverse := by
  induction h with
  | nil => exact .nil
  | cons r t ih => rw [List.reverse_cons, List.reverse_cons]; exact Pd.append ih (.cons r .nil)
theorem Pd.dropLast {α β : Type} {R : α → β → Prop} {xs : List α} {ys : List β} (h : Paired R xs ys) : Paired R xs.dropLast ys.dropLast := by
  rw [List.dropLast_eq_take, List.dropLast_eq_take, Pd.len h]
  exact Pd.take _ h

/-- a value stands for a datum that is not changed any more -/
inductive Rp (K : PySem.W.Frag) (F : Hp) : V → D → Prop
  | non : Rp K F .non .none
  | bl (b : Bool) : Rp K F (.bl b) (.bool b)
  | int (i : Int) : Rp K F (.int i) (.int i)
  | str (x : Str) : Rp K F (.str x) (.str x)
  | lst {a : Addr} {xs : List V} {ds : List D} : SqL K F a xs → Paired (Rp K F) xs ds → Rp K F (.ref a) (.list ds)
  | tup {a : Addr} {xs : List V} {ds : List D} : SqT K F a xs → Paired (Rp K F) xs ds → Rp K F (.ref a) (.tuple ds)
  | dic {a : Addr} {kvs : List (Key × V)} {es : List (D × D)} : Rd F a (.dK kvs) → es.map (·.1) = kvs.map (fun p => kD p.1) → Paired (Rp K F) (kvs.map (·.2)) (es.map (·.2)) → Rp K F (.ref a) (.dict es)
/-- .. an object that is changed by its one owner -/
inductive OwnAt (K : PySem.W.Frag) (F : Hp) : Option HO → D → Prop
  | lst {xs : List V} {ds : List D} : Paired (Rp K F) xs ds → OwnAt K F (some (.lst xs)) (.list ds)
  | dic {kvs : List (Key × V)} {es : List (D × D)} : es.map (·.1) = kvs.map (fun p => kD p.1) → Paired (Rp K F) (kvs.map (·.2)) (es.map (·.2)) → OwnAt K F (some (.dK kvs)) (.dict es)

def Le (F F' : Hp) : Prop := ∀ a u, Rd F a u → Rd F' a u
theorem Le.refl (F : Hp) : Le F F := fun _ _ h => h
theorem Le.trans {F G J : Hp} (a : Le F G) (b : Le G J) : Le F J := fun x u h => b x u (a x u h)
theorem Le.sqL {K : PySem.W.Frag} {F F' : Hp} {a : Addr} {xs : List V} (h : Le F F') (q : SqL K F a xs) : SqL K F' a xs := q.imp (h _ _) id
theorem Le.sqT {K : PySem.W.Frag} {F F' : Hp} {a : Addr} {xs : List V} (h : Le F F') (q : SqT K F a xs) : SqT K F' a xs := q.imp (h _ _) id
theorem Rp.mono {K : PySem.W.Frag} {F F' : Hp} (h : Le F F') {v : V} {d : D} (r : Rp K F v d) : Rp K F' v d :=
  Rp.rec (motive_1 := fun v d _ => Rp K F' v d) (motive_2 := fun xs ds _ => Paired (Rp K F') xs ds) .non .bl .int .str
    (fun a _ ih => .lst (h.sqL a) ih) (fun a _ ih => .tup (h.sqT a) ih) (fun a e _ ih => .dic (h _ _ a) e ih) .nil (fun _ _ r t => .cons r t) r
theorem Rp.monoA {K : PySem.W.Frag} {F F' : Hp} (h : Le F F') {xs : List V} {ds : List D} (r : Paired (Rp K F) xs ds) : Paired (Rp K F') xs ds := Pd.mono (fun _ _ q => q.mono h) r
theorem OwnAt.mono {K : PySem.W.Frag} {F F' : Hp} (h : Le F F') {o : Option HO} {d : D} (r : OwnAt K F o d) : OwnAt K F' o d := by
  cases r with
  | lst p => exact .lst (Rp.monoA h p)
  | dic e p => exact .dic e (Rp.monoA h p)
theorem OwnAt.some {K : PySem.W.Frag} {F : Hp} {o : Option HO} {d : D} (r : OwnAt K F o d) : o ≠ none := by
  cases r with
  | lst p => exact fun z => nomatch z
  | dic e p => exact fun z => nomatch z
theorem OwnAt.rp {K : PySem.W.Frag} {F F' : Hp} {a : Addr} {o : Option HO} {d : D} (r : OwnAt K F o d) (e : F' a = o) (h : Le F F') : Rp K F' (.ref a) d := by
  cases r with
  | lst p => exact .lst (.inl (.inl e)) (Rp.monoA h p)
  | dic e' p => exact .dic (.inl e) e' (Rp.monoA h p)

/-! ### the heap without what is owned -/
open Classical in
noncomputable def cut (H : Hp) (M : Addr → Prop) : Hp := fun a => if M a then none else H a
theorem cut_of {H : Hp} {M : Addr → Prop} {a : Addr} (h : ¬ M a) : cut H M a = H a := if_neg h
theorem cut_in {H : Hp} {M : Addr → Prop} {a : Addr} (h : M a) : cut H M a = none := if_pos h
theorem cut_some {H : Hp} {M : Addr → Prop} {a : Addr} {o : HO} (h : cut H M a = some o) : H a = some o ∧ ¬ M a := by
  by_cases m : M a
  · rw [cut_in m] at h; cases h
  · rw [cut_of m] at h; exact ⟨h, m⟩
theorem le_cut {H H' : Hp} {M M' : Addr → Prop} (h : ∀ a o, H a = some o → ¬ M a → H' a = some o ∧ ¬ M' a) : Le (cut H M) (cut H' M') := by
  intro a u r
  rcases r with r | ⟨o, r⟩
  · obtain ⟨h1, h2⟩ := cut_some r
    obtain ⟨h3, h4⟩ := h a _ h1 h2
    exact .inl ((cut_of h4).trans h3)
  · obtain ⟨h1, h2⟩ := cut_some r
    obtain ⟨h3, h4⟩ := h a _ h1 h2
    exact .inr ⟨o, (cut_of h4).trans h3⟩
theorem cut_le {H : Hp} {M : Addr → Prop} : Le (cut H M) H := by
  intro a u r
  rcases r with r | ⟨o, r⟩
  · exact .inl (cut_some r).1
  · exact .inr ⟨o, (cut_some r).1⟩

def Ex (H H' : Hp) : Prop := ∀ a o, H a = some o → H' a = some o
theorem Ex.refl (H : Hp) : Ex H H := fun _ _ h => h
theorem Ex.trans {H H1 H2 : Hp} (a : Ex H H1) (b : Ex H1 H2) : Ex H H2 := fun x o h => b x o (a x o h)
theorem Ex.new {H : Hp} {p : Addr} {o : HO} (h : H p = none) : Ex H (upd H p o) := fun a u e => by
  rw [upd_ne (ne_of_none e h)]
  exact e
theorem Ex.dom {H H' : Hp} (x : Ex H H') {a : Addr} (h : H a ≠ none) : H' a ≠ none := by
  cases e : H a with
  | none => exact absurd e h
  | some o => rw [x a o e]; exact fun z => nomatch z

/-! ### cells -/
inductive Cell where
  | no | dat (d : D) | own (d : D) | io (d : D)
abbrev En := List Cell
def OwnS (σ : St) (cs : En) (i : Nat) (a : Addr) : Prop := σ[i]? = some (some (.ref a)) ∧ ∃ d, cs[i]? = some (.own d) ∨ cs[i]? = some (.io d)
def Md (σ : St) (cs : En) (X : Addr → Prop) : Addr → Prop := fun a => X a ∨ ∃ i, OwnS σ cs i a

structure Ok (K : PySem.W.Frag) (B : Hp) (IO : List (Nat × Addr)) (X : Addr → Prop) (σ : St) (H : Hp) (cs : En) : Prop where
  len : σ.length = cs.length
  dat : ∀ (i : Nat) (d : D), cs[i]? = some (.dat d) → ∃ v, σ[i]? = some (some v) ∧ Rp K (cut H (Md σ cs X)) v d
  own : ∀ (i : Nat) (d : D), (cs[i]? = some (.own d) ∨ cs[i]? = some (.io d)) → ∃ a, σ[i]? = some (some (.ref a)) ∧ OwnAt K (cut H (Md σ cs X)) (H a) d
  inj : ∀ (i j : Nat) (a : Addr), OwnS σ cs i a → OwnS σ cs j a → i = j
  dis : ∀ (i : Nat) (a : Addr), OwnS σ cs i a → ¬ X a
  xin : ∀ a, X a → H a ≠ none
  new : ∀ (i : Nat) (a : Addr) (d : D), σ[i]? = some (some (.ref a)) → cs[i]? = some (.own d) → B a = none
  io : ∀ (i : Nat) (d : D), cs[i]? = some (.io d) → ∃ a, (i, a) ∈ IO ∧ σ[i]? = some (some (.ref a))
  ios : ∀ (i : Nat) (a : Addr), (i, a) ∈ IO → ∃ d, cs[i]? = some (.io d) ∧ σ[i]? = some (some (.ref a))
  base : ∀ a o, (∀ i, (i, a) ∉ IO) → B a = some o → H a = some o
  dom : ∀ a, B a ≠ none → H a ≠ none

structure Post (K : PySem.W.Frag) (B : Hp) (IO : List (Nat × Addr)) (X : Addr → Prop) (σ : St) (H : Hp) (cs : En) (σ' : St) (H' : Hp) (cs' : En) : Prop where
  ok : Ok K B IO X σ' H' cs'
  le : Le (cut H (Md σ cs X)) (cut H' (Md σ' cs' X))
  keep : ∀ a, X a → H' a = H a
  dom : ∀ a, H a ≠ none → H' a ≠ none

section
variable {K : PySem.W.Frag} {B : Hp} {IO : List (Nat × Addr)} {X : Addr → Prop} {σ σ' σ2 : St} {H H' H2 : Hp} {cs cs' cs2 : En}
theorem Ok.md (ok : Ok K B IO X σ H cs) : ∀ a, Md σ cs X a → H a ≠ none := by
  intro a m
  rcases m with m | ⟨i, h1, d, h2⟩
  · exact ok.xin a m
  · obtain ⟨b, h3, h4⟩ := ok.own i d h2
    rw [h1] at h3
    cases h3
    exact h4.some
theorem Post.refl (ok : Ok K B IO X σ H cs) : Post K B IO X σ H cs σ H cs := ⟨ok, Le.refl _, fun _ _ => rfl, fun _ h => h⟩
theorem Post.trans (a : Post K B IO X σ H cs σ' H' cs') (b : Post K B IO X σ' H' cs' σ2 H2 cs2) : Post K B IO X σ H cs σ2 H2 cs2 :=
  ⟨b.ok, a.le.trans b.le, fun x h => (b.keep x h).trans (a.keep x h), fun x h => b.dom x (a.dom x h)⟩
theorem Ok.ext (ok : Ok K B IO X σ H cs) (x : Ex H H') : Post K B IO X σ H cs σ H' cs := by
  have hle : Le (cut H (Md σ cs X)) (cut H' (Md σ cs X)) := le_cut fun a o e m => ⟨x a o e, m⟩
  have same : ∀ a, H a ≠ none → H' a = H a := fun a h => by
    cases e : H a with
    | none => exact absurd e h
    | some o => exact x a o e
  refine ⟨⟨ok.len, fun i d e => ?_, fun i d e => ?_, ok.inj, ok.dis, fun a h => x.dom (ok.xin a h), ok.new, ok.io, ok.ios, fun a o h e => x a o (ok.base a o h e), fun a h => x.dom (ok.dom a h)⟩, hle, fun a h => same a (ok.xin a h), fun a h => x.dom h⟩
  · obtain ⟨v, h1, h2⟩ := ok.dat i d e
    exact ⟨v, h1, h2.mono hle⟩
  · obtain ⟨a, h1, h2⟩ := ok.own i d e
    refine ⟨a, h1, ?_⟩
    rw [same a h2.some]
    exact h2.mono hle
theorem getset {α : Type} {l : List α} {i j : Nat} {x y : α} (h : (l.set i x)[j]? = some y) : (i = j ∧ x = y) ∨ (i ≠ j ∧ l[j]? = some y) := by
  by_cases e : i = j
  · subst e
    rw [List.getElem?_set] at h
    simp only [if_true] at h
    split at h
    · exact .inl ⟨rfl, Option.some.inj h⟩
    · cases h
  · rw [List.getElem?_set_ne e] at h
    exact .inr ⟨e, h⟩
/-- an owned thing is not changed any more -/
theorem Ok.freeze {i : Nat} {d : D} (ok : Ok K B IO X σ H cs) (e : cs[i]? = some (.own d)) : ∃ v, σ[i]? = some (some v) ∧ Post K B IO X σ H cs σ H (cs.set i (.dat d)) ∧ Rp K (cut H (Md σ (cs.set i (.dat d)) X)) v d := by
  obtain ⟨a, h1, h2⟩ := ok.own i d (.inl e)
  have hi : i < cs.length := (List.getElem?_eq_some_iff.mp e).1
  have ha : OwnS σ cs i a := ⟨h1, d, .inl e⟩
  have os : ∀ j b, OwnS σ (cs.set i (.dat d)) j b → OwnS σ cs j b ∧ i ≠ j := by
    intro j b ⟨q1, d', q2⟩
    rcases q2 with q2 | q2
    · rcases getset q2 with ⟨_, z⟩ | ⟨z, z'⟩
      · cases z
      · exact ⟨⟨q1, d', .inl z'⟩, z⟩
    · rcases getset q2 with ⟨_, z⟩ | ⟨z, z'⟩
      · cases z
      · exact ⟨⟨q1, d', .inr z'⟩, z⟩
  have sub : ∀ b, Md σ (cs.set i (.dat d)) X b → Md σ cs X b := fun b m => m.imp id fun ⟨j, q⟩ => ⟨j, (os j b q).1⟩
  have hle : Le (cut H (Md σ cs X)) (cut H (Md σ (cs.set i (.dat d)) X)) := le_cut fun b o q m => ⟨q, fun z => m (sub b z)⟩
  have hna : ¬ Md σ (cs.set i (.dat d)) X a := by
    intro m
    rcases m with m | ⟨j, q⟩
    · exact ok.dis i a ha m
    · exact (os j a q).2 (ok.inj i j a ha (os j a q).1)
  have rp : Rp K (cut H (Md σ (cs.set i (.dat d)) X)) (.ref a) d := h2.rp (cut_of hna) hle
  refine ⟨.ref a, h1, ⟨⟨by rw [List.length_set]; exact ok.len, fun j d' q => ?_, fun j d' q => ?_, fun j k b q r => ok.inj j k b (os j b q).1 (os k b r).1, fun j b q => ok.dis j b (os j b q).1, ok.xin, fun j b d' q r => ?_, fun j d' q => ?_, fun j b q => ?_, ok.base, ok.dom⟩, hle, fun _ _ => rfl, fun _ h => h⟩, rp⟩
  · rcases getset q with ⟨z, z'⟩ | ⟨z, z'⟩
    · subst z
      cases z'
      exact ⟨_, h1, rp⟩
    · obtain ⟨v, r1, r2⟩ := ok.dat j d' z'
      exact ⟨v, r1, r2.mono hle⟩
  · have q' : cs[j]? = some (.own d') ∨ cs[j]? = some (.io d') := by
      rcases q with q | q
      · rcases getset q with ⟨_, z⟩ | ⟨z, z'⟩
        · cases z
        · exact .inl z'
      · rcases getset q with ⟨_, z⟩ | ⟨z, z'⟩
        · cases z
        · exact .inr z'
    obtain ⟨b, r1, r2⟩ := ok.own j d' q'
    exact ⟨b, r1, r2.mono hle⟩
  · rcases getset r with ⟨_, z⟩ | ⟨z, z'⟩
    · cases z
    · exact ok.new j b d' q z'
  · rcases getset q with ⟨_, z⟩ | ⟨z, z'⟩
    · cases z
    · exact ok.io j d' z'
  · obtain ⟨d', r1, r2⟩ := ok.ios j b q
    refine ⟨d', ?_, r2⟩
    rw [List.getElem?_set_ne]
    · exact r1
    · intro z
      subst z
      rw [e] at r1
      cases r1
end

/-- what an operation on values hands on: a new object of which nobody else knows, or a datum -/
def VOk (K : PySem.W.Frag) (H H' : Hp) (M : Addr → Prop) (fr : Bool) (v : V) (d : D) : Prop :=
  if fr = true then ∃ p, v = .ref p ∧ H p = none ∧ OwnAt K (cut H' (fun a => M a ∨ a = p)) (H' p) d else Rp K (cut H' M) v d
theorem VOk.of {K : PySem.W.Frag} {H H' : Hp} {M : Addr → Prop} {v : V} {d : D} (h : Rp K (cut H' M) v d) : VOk K H H' M false v d := h
/-- a new object -/
theorem VOk.new {K : PySem.W.Frag} {H : Hp} {M : Addr → Prop} {p : Addr} {o : HO} {d : D} (hp : H p = none) (hm : ∀ a, M a → H a ≠ none) (h : OwnAt K (cut H M) (some o) d) : VOk K H (upd H p o) M true (.ref p) d := by
  refine ⟨p, rfl, hp, ?_⟩
  rw [upd_same]
  refine h.mono (le_cut fun a u e m => ⟨Ex.new hp a u e, fun z => ?_⟩)
  rcases z with z | z
  · exact m z
  · rw [z, hp] at e; cases e

/-! ### what an expression hands on -/
def XP (X : Addr → Prop) (p : Addr) : Addr → Prop := fun a => X a ∨ a = p
structure PostN (K : PySem.W.Frag) (B : Hp) (IO : List (Nat × Addr)) (X : Addr → Prop) (σ : St) (H : Hp) (cs : En) (p : Addr) (σ' : St) (H' : Hp) (cs' : En) : Prop where
  ok : Ok K B IO (XP X p) σ' H' cs'
  le : Le (cut H (Md σ cs X)) (cut H' (Md σ' cs' (XP X p)))
  keep : ∀ a, X a → H' a = H a
  dom : ∀ a, H a ≠ none → H' a ≠ none
  np : ¬ X p
def Pe (K : PySem.W.Frag) (B : Hp) (IO : List (Nat × Addr)) (X : Addr → Prop) (σ : St) (H : Hp) (cs : En) (σ' : St) (H' : Hp) (cs' : En) (fr : Bool) (v : V) (d : D) : Prop :=
  if fr = true then ∃ p, v = .ref p ∧ H p = none ∧ PostN K B IO X σ H cs p σ' H' cs' ∧ OwnAt K (cut H' (Md σ' cs' (XP X p))) (H' p) d else Post K B IO X σ H cs σ' H' cs' ∧ Rp K (cut H' (Md σ' cs' X)) v d
section
variable {K : PySem.W.Frag} {B : Hp} {IO : List (Nat × Addr)} {X : Addr → Prop} {σ σ' σ2 : St} {H H' H2 : Hp} {cs cs' cs2 : En} {p : Addr} {fr : Bool} {v : V} {d : D}
theorem md_xp {a : Addr} (h : Md σ cs X a) : Md σ cs (XP X p) a := h.imp .inl id
theorem le_xp : Le (cut H (Md σ cs (XP X p))) (cut H (Md σ cs X)) := le_cut fun _ _ e m => ⟨e, fun z => m (md_xp z)⟩
theorem Ok.weakX (ok : Ok K B IO (XP X p) σ H cs) : Ok K B IO X σ H cs :=
  ⟨ok.len, fun i d e => let ⟨v, h1, h2⟩ := ok.dat i d e; ⟨v, h1, h2.mono le_xp⟩, fun i d e => let ⟨v, h1, h2⟩ := ok.own i d e; ⟨v, h1, h2.mono le_xp⟩, ok.inj, fun i a q z => ok.dis i a q (.inl z), fun a z => ok.xin a (.inl z), ok.new, ok.io, ok.ios, ok.base, ok.dom⟩
theorem PostN.post (h : PostN K B IO X σ H cs p σ' H' cs') : Post K B IO X σ H cs σ' H' cs' := ⟨h.ok.weakX, h.le.trans le_xp, h.keep, h.dom⟩
theorem PostN.nmd (h : PostN K B IO X σ H cs p σ' H' cs') : ¬ Md σ' cs' X p := fun m => m.elim h.np fun ⟨i, q⟩ => h.ok.dis i p q (.inr rfl)
theorem Pe.post (h : Pe K B IO X σ H cs σ' H' cs' fr v d) : Post K B IO X σ H cs σ' H' cs' := by
  unfold Pe at h
  cases fr with
  | false => exact h.1
  | true => obtain ⟨p, _, _, q, _⟩ := h; exact q.post
theorem Pe.rp (h : Pe K B IO X σ H cs σ' H' cs' fr v d) : Rp K (cut H' (Md σ' cs' X)) v d := by
  unfold Pe at h
  cases fr with
  | false => exact h.2
  | true =>
    obtain ⟨p, rfl, _, q, o⟩ := h
    exact o.rp (cut_of q.nmd) le_xp
theorem Pe.dat (h : Post K B IO X σ H cs σ' H' cs') (r : Rp K (cut H' (Md σ' cs' X)) v d) : Pe K B IO X σ H cs σ' H' cs' false v d := ⟨h, r⟩
theorem Pe.pre (a : Post K B IO X σ H cs σ' H' cs') (h : Pe K B IO X σ' H' cs' σ2 H2 cs2 fr v d) : Pe K B IO X σ H cs σ2 H2 cs2 fr v d := by
  unfold Pe at h ⊢
  cases fr with
  | false => exact ⟨a.trans h.1, h.2⟩
  | true =>
    obtain ⟨p, e, hp, q, o⟩ := h
    refine ⟨p, e, ?_, ⟨q.ok, a.le.trans q.le, fun x hx => (q.keep x hx).trans (a.keep x hx), fun x hx => q.dom x (a.dom x hx), q.np⟩, o⟩
    cases z : H p with
    | none => rfl
    | some o => exact absurd hp (a.dom p (by rw [z]; exact fun z => nomatch z))
/-- an operation on values, behind all else -/
theorem Pe.of (a : Post K B IO X σ H cs σ' H' cs') (x : Ex H' H2) (h : VOk K H' H2 (Md σ' cs' X) fr v d) : Pe K B IO X σ H cs σ' H2 cs' fr v d := by
  refine Pe.pre a ?_
  unfold VOk at h
  unfold Pe
  cases fr with
  | false => exact ⟨a.ok.ext x, h⟩
  | true =>
    obtain ⟨p, e, hp, o⟩ := h
    have ne : ∀ b, H' b ≠ none → b ≠ p := fun b hb z => hb (by rw [z]; exact hp)
    have eqm : ∀ b, Md σ' cs' (XP X p) b ↔ (Md σ' cs' X b ∨ b = p) := fun b => by
      unfold Md XP
      constructor
      · rintro ((h | h) | h)
        · exact .inl (.inl h)
        · exact .inr h
        · exact .inl (.inr h)
      · rintro ((h | h) | h)
        · exact .inl (.inl h)
        · exact .inr h
        · exact .inl (.inr h)
    have hle : Le (cut H' (Md σ' cs' X)) (cut H2 (Md σ' cs' (XP X p))) := le_cut fun b o q m => ⟨x b o q, fun z => ((eqm b).mp z).elim m (ne b (by rw [q]; exact fun z => nomatch z))⟩
    have same : ∀ b, H' b ≠ none → H2 b = H' b := fun b h => by
      cases e : H' b with
      | none => exact absurd e h
      | some o => exact x b o e
    refine ⟨p, e, hp, ⟨⟨a.ok.len, fun i d q => ?_, fun i d q => ?_, a.ok.inj, fun i b q z => ?_, fun b z => ?_, a.ok.new, a.ok.io, a.ok.ios, fun b o h q => x b o (a.ok.base b o h q), fun b h => x.dom (a.ok.dom b h)⟩, hle, fun b h => same b (a.ok.xin b h), fun b h => x.dom h, fun z => ?_⟩, o.mono (le_cut fun b o q m => ⟨q, fun z => m ((eqm b).mp z)⟩)⟩
    · obtain ⟨u, h1, h2⟩ := a.ok.dat i d q
      exact ⟨u, h1, h2.mono hle⟩
    · obtain ⟨b, h1, h2⟩ := a.ok.own i d q
      refine ⟨b, h1, ?_⟩
      rw [same b h2.some]
      exact h2.mono hle
    · rcases z with z | z
      · exact a.ok.dis i b q z
      · exact ne b (a.ok.md b (.inr ⟨i, q⟩)) z
    · rcases z with z | z
      · exact x.dom (a.ok.xin b z)
      · rw [z]
        exact o.some
    · exact a.ok.xin p z hp
end
end Qp
end
section
set_option Elab.async false
set_option linter.all false
set_option maxRecDepth 100000
set_option maxHeartbeats 2000000
/-! Qb: expressions that are told by functions of the cells. -/
namespace Qp
open PySem PySem.Spec PyProof.Rows L2
abbrev EX := En → Option (D × Bool × En)
abbrev TX := En → Option (Bool × En)
abbrev AX := En → Option (List D × En)
def LIM : Nat := 10000000
theorem lim_ok {n : Nat} (h : n ≤ LIM) : n ≤ sizeLine := Nat.le_trans h (by decide)
theorem lim_lt {n : Nat} (h : n < LIM) : n < sizeLine := Nat.lt_of_lt_of_le h (by decide)

def SE (K : PySem.W.Frag) (t : TE) (f : EX) : Prop := ∀ {B : Hp} {IO : List (Nat × Addr)} {X : Addr → Prop} {σ : St} {H : Hp} {cs : En}, Ok K B IO X σ H cs → ∀ {d : D} {fr : Bool} {cs' : En}, f cs = some (d, fr, cs') →
  ∀ Q : VK, (∀ v H', Pe K B IO X σ H cs σ H' cs' fr v d → Q v H') → t σ H Q
def STt (K : PySem.W.Frag) (t : TT) (f : TX) : Prop := ∀ {B : Hp} {IO : List (Nat × Addr)} {X : Addr → Prop} {σ : St} {H : Hp} {cs : En}, Ok K B IO X σ H cs → ∀ {b : Bool} {cs' : En}, f cs = some (b, cs') →
  ∀ Q : Bool → Hp → Prop, (∀ H', Post K B IO X σ H cs σ H' cs' → Q b H') → t σ H Q
def SA (K : PySem.W.Frag) (t : TA) (f : AX) : Prop := ∀ {B : Hp} {IO : List (Nat × Addr)} {X : Addr → Prop} {σ : St} {H : Hp} {cs : En}, Ok K B IO X σ H cs → ∀ {ds : List D} {cs' : En}, f cs = some (ds, cs') →
  ∀ Q : List V → Hp → Prop, (∀ vs H', Post K B IO X σ H cs σ H' cs' → Paired (Rp K (cut H' (Md σ cs' X))) vs ds → Q vs H') → t σ H Q
/-- two values, one value, a list of values to a value -/
abbrev G2 := D → D → Option (D × Bool)
abbrev G1 := D → Option (D × Bool)
abbrev GA := List D → Option (D × Bool)
def SR2 (K : PySem.W.Frag) (r : R2) (g : G2) : Prop := ∀ {H : Hp} {M : Addr → Prop}, (∀ a, M a → H a ≠ none) → ∀ {x y : V} {d e : D}, Rp K (cut H M) x d → Rp K (cut H M) y e → ∀ {z : D} {fr : Bool}, g d e = some (z, fr) →
  ∀ Q : VK, (∀ v H', Ex H H' → VOk K H H' M fr v z → Q v H') → r x y H Q
def SR1 (K : PySem.W.Frag) (r : V → Hp → VK → Prop) (g : G1) : Prop := ∀ {H : Hp} {M : Addr → Prop}, (∀ a, M a → H a ≠ none) → ∀ {x : V} {d : D}, Rp K (cut H M) x d → ∀ {z : D} {fr : Bool}, g d = some (z, fr) →
  ∀ Q : VK, (∀ v H', Ex H H' → VOk K H H' M fr v z → Q v H') → r x H Q
def SRC (K : PySem.W.Frag) (r : List V → Hp → VK → Prop) (g : GA) : Prop := ∀ {H : Hp} {M : Addr → Prop}, (∀ a, M a → H a ≠ none) → ∀ {xs : List V} {ds : List D}, Paired (Rp K (cut H M)) xs ds → ∀ {z : D} {fr : Bool}, g ds = some (z, fr) →
  ∀ Q : VK, (∀ v H', Ex H H' → VOk K H H' M fr v z → Q v H') → r xs H Q
structure DE (X : Cx) (e : Expr) (t : TE) (f : EX) : Prop where
  pe : PE X e t
  se : SE X.K t f
structure DT (X : Cx) (e : Expr) (t : TT) (f : TX) : Prop where
  pt : PT X e t
  st : STt X.K t f
structure DW (X : Cx) (e : Expr) (t : TT) (f : TX) : Prop where
  pw : PW X e t
  st : STt X.K t f
structure DA (X : Cx) (e : List Expr) (t : TA) (f : AX) : Prop where
  pa : PA X e t
  sa : SA X.K t f

section
variable {K : PySem.W.Frag} {B : Hp} {IO : List (Nat × Addr)} {Z : Addr → Prop} {σ : St} {H H' : Hp} {cs cs' : En} {M : Addr → Prop}
theorem Rp.ext {v : V} {d : D} (r : Rp K (cut H M) v d) (x : Ex H H') : Rp K (cut H' M) v d := r.mono (le_cut fun a o e m => ⟨x a o e, m⟩)
theorem Rp.list (r : Rp K F v (.list ds)) : ∃ a xs, v = .ref a ∧ SqL K F a xs ∧ Paired (Rp K F) xs ds := by
  cases r with
  | lst h p => exact ⟨_, _, rfl, h, p⟩
theorem Rp.tuple (r : Rp K F v (.tuple ds)) : ∃ a xs, v = .ref a ∧ SqT K F a xs ∧ Paired (Rp K F) xs ds := by
  cases r with
  | tup h p => exact ⟨_, _, rfl, h, p⟩
theorem Rp.int_eq (r : Rp K F v (.int i)) : v = .int i := by cases r; rfl
theorem Rp.str_eq (r : Rp K F v (.str i)) : v = .str i := by cases r; rfl
theorem Rp.bool_eq (r : Rp K F v (.bool i)) : v = .bl i := by cases r; rfl
theorem Rp.none_eq (r : Rp K F v .none) : v = .non := by cases r; rfl
end

/-! ### constants and names -/
def evC (d : D) : EX := fun cs => some (d, false, cs)
def evVar (i : Nat) : EX := fun cs => match cs[i]? with
  | some (.dat d) => some (d, false, cs)
  | some (.own d) => some (d, false, cs.set i (.dat d))
  | _ => none
section
variable {X : Cx} {pos : Pos}
theorem se_c {K : PySem.W.Frag} {v : V} {d : D} (h : ∀ F, Rp K F v d) : SE K (tC v) (evC d) := by
  intro B IO Z σ H cs ok d' fr cs' e Q q
  cases e
  exact q v H (.dat (Post.refl ok) (h _))
theorem de_int {i j} : DE X (.Constant (.int i) j pos) (tC (.int i)) (evC (.int i)) := ⟨pe_int, se_c fun _ => .int i⟩
theorem de_str {i j} : DE X (.Constant (.str i) j pos) (tC (.str i)) (evC (.str i)) := ⟨pe_str, se_c fun _ => .str i⟩
theorem de_bl {i j} : DE X (.Constant (.bool i) j pos) (tC (.bl i)) (evC (.bool i)) := ⟨pe_bl, se_c fun _ => .bl i⟩
theorem de_non {j} : DE X (.Constant .none j pos) (tC .non) (evC .none) := ⟨pe_non, se_c fun _ => .non⟩
theorem se_var {K : PySem.W.Frag} {i : Nat} : SE K (tVar i) (evVar i) := by
  intro B IO Z σ H cs ok d fr cs' e Q q
  unfold evVar at e
  split at e
  · rename_i d' h
    cases e
    obtain ⟨v, h1, h2⟩ := ok.dat i _ h
    exact ⟨v, h1, q v H (.dat (Post.refl ok) h2)⟩
  · rename_i d' h
    cases e
    obtain ⟨v, h1, h2, h3⟩ := ok.freeze h
    exact ⟨v, h1, q v H (.dat h2 h3)⟩
  · cases e
theorem dv (i : Nat) {x : Str} (hN : X.N[i]? = some x := by rfl) (hv : Vis X.env.scope x := by first | exact Or.inl rfl | exact Or.inr (Or.inl rfl) | exact Or.inr (Or.inr rfl)) (hd : (x == ("__debug__" : Str)) = false := by decide)
    (hcd : (x == ("__classdict__" : Str)) = false := by decide) : DE X (.Name x pos) (tVar i) (evVar i) := ⟨pe_var hN hv hd hcd, se_var⟩
/-- a constant of the module -/
theorem de_glob {x : Str} {v : V} {u : Value} {d : D} (hg : Gl X x) (hm : X.mg x = some u) (r : RelV v u) (h : ∀ F, Rp X.K F v d) (hd : (x == ("__debug__" : Str)) = false := by decide) : DE X (.Name x pos) (tC v) (evC d) :=
  ⟨pe_glob hg hm r hd, se_c h⟩
end

/-! ### operators -/
def ev2 (g : G2) (fa fb : EX) : EX := fun cs => (fa cs).bind fun r => (fb r.2.2).bind fun s => (g r.1 s.1).bind fun z => some (z.1, z.2, s.2.2)
def ev1 (g : G1) (fa : EX) : EX := fun cs => (fa cs).bind fun r => (g r.1).bind fun z => some (z.1, z.2, r.2.2)
section
variable {X : Cx} {a b : Expr} {ta tb : TE} {fa fb : EX} {pos : Pos} {K : PySem.W.Frag}
theorem se_2 {r : R2} {g : G2} (ha : SE K ta fa) (hb : SE K tb fb) (hr : SR2 K r g) : SE K (tOp r ta tb) (ev2 g fa fb) := by
  intro B IO Z σ H cs ok d fr cs' e Q q
  unfold ev2 at e
  obtain ⟨⟨d1, f1, c1⟩, e1, e⟩ := Option.bind_eq_some_iff.mp e
  obtain ⟨⟨d2, f2, c2⟩, e2, e⟩ := Option.bind_eq_some_iff.mp e
  obtain ⟨⟨z, fz⟩, e3, e⟩ := Option.bind_eq_some_iff.mp e
  cases e
  refine ha ok e1 _ fun x H1 w1 => hb w1.post.ok e2 _ fun y H2 w2 => ?_
  refine hr w2.post.ok.md (w1.rp.mono w2.post.le) w2.rp e3 Q fun v H3 x3 v3 => ?_
  exact q v H3 (.of (w1.post.trans w2.post) x3 v3)
theorem se_1 {r : V → Hp → VK → Prop} {g : G1} (ha : SE K ta fa) (hr : SR1 K r g) : SE K (tUn r ta) (ev1 g fa) := by
  intro B IO Z σ H cs ok d fr cs' e Q q
  unfold ev1 at e
  obtain ⟨⟨d1, f1, c1⟩, e1, e⟩ := Option.bind_eq_some_iff.mp e
  obtain ⟨⟨z, fz⟩, e3, e⟩ := Option.bind_eq_some_iff.mp e
  cases e
  refine ha ok e1 _ fun x H1 w1 => ?_
  refine hr w1.post.ok.md w1.rp e3 Q fun v H3 x3 v3 => ?_
  exact q v H3 (.of w1.post x3 v3)
theorem de_op {op : Operator} {r : R2} {g : G2} (ho : OpR X (binaryOp op) r) (hr : SR2 X.K r g) (ha : DE X a ta fa) (hb : DE X b tb fb) : DE X (.BinOp a op b pos) (tOp r ta tb) (ev2 g fa fb) := ⟨pe_op ho ha.pe hb.pe, se_2 ha.se hb.se hr⟩
theorem de_un {op : UnaryOp} {r : V → Hp → VK → Prop} {g : G1} (ho : UnR X (unaryOp op) r) (hr : SR1 X.K r g) (ha : DE X a ta fa) : DE X (.UnaryOp op a pos) (tUn r ta) (ev1 g fa) := ⟨pe_un ho ha.pe, se_1 ha.se hr⟩
theorem de_cmp {op : CmpOp} {r : R2} {g : G2} (ho : OpR X (compareOp op) r) (hr : SR2 X.K r g) (ha : DE X a ta fa) (hb : DE X b tb fb) (hm : behindInMarks op b = false := by first | exact nomark _ | rfl) : DE X (.Compare a [op] [b] pos) (tOp r ta tb) (ev2 g fa fb) :=
  ⟨pe_cmpR ho ha.pe hb.pe hm, se_2 ha.se hb.se hr⟩
/-- an expression whose value is a truth, as a test -/
def evT (fa : EX) : TX := fun cs => (fa cs).bind fun r => match r.1 with
  | .bool b => some (b, r.2.2)
  | _ => none
theorem st_test {t : TE} {f : EX} (h : SE K t f) : STt K (tTest t) (evT f) := by
  intro B IO Z σ H cs ok b cs' e Q q
  unfold evT at e
  obtain ⟨⟨d1, f1, c1⟩, e1, e⟩ := Option.bind_eq_some_iff.mp e
  simp only at e
  split at e
  · cases e
    refine h ok e1 _ fun x H1 w1 => ?_
    exact ⟨_, w1.rp.bool_eq, q H1 w1.post⟩
  · cases e
theorem dt_cmp {op : CmpOp} {r : R2} {g : G2} (ho : OpR X (compareOp op) r) (hr : SR2 X.K r g) (ha : DE X a ta fa) (hb : DE X b tb fb) (hm : behindInMarks op b = false := by first | exact nomark _ | rfl) : DT X (.Compare a [op] [b] pos) (tTest (tOp r ta tb)) (evT (ev2 g fa fb)) :=
  ⟨pt_cmpR ho ha.pe hb.pe hm, st_test (se_2 ha.se hb.se hr)⟩
theorem dt_val {e : Expr} {t : TE} {f : EX} (h : DE X e t f) (he : ∀ whole, isTrue e X.env whole = (do let v ← whole; standAt e.pos; holding [v] (truthy v)) := by intro _; rfl) : DT X e (tB t) (evT f) := ⟨pt_val h.pe he, st_test h.se⟩

/-! ### and, or, not -/
def evAndT (f g : TX) : TX := fun cs => (f cs).bind fun r => if r.1 = true then g r.2 else some (false, r.2)
def evOrT (f g : TX) : TX := fun cs => (f cs).bind fun r => if r.1 = true then some (true, r.2) else g r.2
def evNotT (f : TX) : TX := fun cs => (f cs).bind fun r => some (!r.1, r.2)
variable {tA tB' : TT} {fA fB : TX} {rest : List Expr}
theorem dw_and1 (ha : DT X a tA fA) : DW X (.BoolOp .And [a] pos) tA fA := ⟨pw_and1 ha.pt, ha.st⟩
theorem dw_or1 (ha : DT X a tA fA) : DW X (.BoolOp .Or [a] pos) tA fA := ⟨pw_or1 ha.pt, ha.st⟩
theorem dw_and (ha : DT X a tA fA) (hb : DW X (.BoolOp .And (b :: rest) pos) tB' fB) : DW X (.BoolOp .And (a :: b :: rest) pos) (tAnd tA tB') (evAndT fA fB) := by
  refine ⟨pw_and ha.pt hb.pw, ?_⟩
  intro B IO Z σ H cs ok k cs' e Q q
  unfold evAndT at e
  obtain ⟨⟨b1, c1⟩, e1, e⟩ := Option.bind_eq_some_iff.mp e
  refine ha.st ok e1 _ fun H1 p1 => ?_
  cases b1 with
  | true => exact iteT (hb.st p1.ok e _ fun H2 p2 => q H2 (p1.trans p2))
  | false =>
    cases e
    exact iteF (q H1 p1)
theorem dw_or (ha : DT X a tA fA) (hb : DW X (.BoolOp .Or (b :: rest) pos) tB' fB) : DW X (.BoolOp .Or (a :: b :: rest) pos) (tOr tA tB') (evOrT fA fB) := by
  refine ⟨pw_or ha.pt hb.pw, ?_⟩
  intro B IO Z σ H cs ok k cs' e Q q
  unfold evOrT at e
  obtain ⟨⟨b1, c1⟩, e1, e⟩ := Option.bind_eq_some_iff.mp e
  refine ha.st ok e1 _ fun H1 p1 => ?_
  cases b1 with
  | false => exact iteF (hb.st p1.ok e _ fun H2 p2 => q H2 (p1.trans p2))
  | true =>
    cases e
    exact iteT (q H1 p1)
theorem DW.dt {e : Expr} (h : DW X e tA fA) : DT X e tA fA := ⟨h.pw.pt, h.st⟩
theorem dt_not (ha : DT X a tA fA) : DT X (.UnaryOp .Not a pos) (tNot tA) (evNotT fA) := by
  refine ⟨pt_not ha.pt, ?_⟩
  intro B IO Z σ H cs ok k cs' e Q q
  unfold evNotT at e
  obtain ⟨⟨b1, c1⟩, e1, e⟩ := Option.bind_eq_some_iff.mp e
  cases e
  exact ha.st ok e1 _ fun H1 p1 => q H1 p1
/-- as values: the left ones are truths -/
def evAndV (f g : EX) : EX := fun cs => (f cs).bind fun r => match r.1 with
  | .bool true => g r.2.2
  | .bool false => some (.bool false, false, r.2.2)
  | _ => none
def evOrV (f g : EX) : EX := fun cs => (f cs).bind fun r => match r.1 with
  | .bool true => some (.bool true, false, r.2.2)
  | .bool false => g r.2.2
  | _ => none
def evNotV (f : EX) : EX := fun cs => (f cs).bind fun r => match r.1 with
  | .bool b => some (.bool (!b), false, r.2.2)
  | _ => none
theorem de_one {op} (h : DE X a ta fa) : DE X (.BoolOp op [a] pos) ta fa := ⟨pe_one h.pe, h.se⟩
theorem de_and (ha : DE X a ta fa) (hb : DE X (.BoolOp .And (b :: rest) pos) tb fb) : DE X (.BoolOp .And (a :: b :: rest) pos) (tAndV ta tb) (evAndV fa fb) := by
  refine ⟨pe_and ha.pe hb.pe, ?_⟩
  intro B IO Z σ H cs ok d fr cs' e Q q
  unfold evAndV at e
  obtain ⟨⟨d1, f1, c1⟩, e1, e⟩ := Option.bind_eq_some_iff.mp e
  refine ha.se ok e1 _ fun x H1 w1 => ?_
  simp only at e
  split at e
  · exact ⟨true, w1.rp.bool_eq, iteT (hb.se w1.post.ok e _ fun v H2 w2 => q v H2 (w2.pre w1.post))⟩
  · cases e
    exact ⟨false, w1.rp.bool_eq, iteF (q _ H1 (.dat w1.post (.bl false)))⟩
  · cases e
theorem de_or (ha : DE X a ta fa) (hb : DE X (.BoolOp .Or (b :: rest) pos) tb fb) : DE X (.BoolOp .Or (a :: b :: rest) pos) (tOrV ta tb) (evOrV fa fb) := by
  refine ⟨pe_or ha.pe hb.pe, ?_⟩
  intro B IO Z σ H cs ok d fr cs' e Q q
  unfold evOrV at e
  obtain ⟨⟨d1, f1, c1⟩, e1, e⟩ := Option.bind_eq_some_iff.mp e
  refine ha.se ok e1 _ fun x H1 w1 => ?_
  simp only at e
  split at e
  · cases e
    exact ⟨true, w1.rp.bool_eq, iteT (q _ H1 (.dat w1.post (.bl true)))⟩
  · exact ⟨false, w1.rp.bool_eq, iteF (hb.se w1.post.ok e _ fun v H2 w2 => q v H2 (w2.pre w1.post))⟩
  · cases e
theorem de_not (ha : DE X a ta fa) : DE X (.UnaryOp .Not a pos) (tNotV ta) (evNotV fa) := by
  refine ⟨pe_not ha.pe, ?_⟩
  intro B IO Z σ H cs ok d fr cs' e Q q
  unfold evNotV at e
  obtain ⟨⟨d1, f1, c1⟩, e1, e⟩ := Option.bind_eq_some_iff.mp e
  refine ha.se ok e1 _ fun x H1 w1 => ?_
  simp only at e
  split at e
  · cases e
    exact ⟨_, w1.rp.bool_eq, q _ H1 (.dat w1.post (.bl _))⟩
  · cases e
/-- a if t else b -/
def evIf (t : TX) (f g : EX) : EX := fun cs => (t cs).bind fun r => if r.1 = true then f r.2 else g r.2
theorem de_if {c : Expr} (hc : DT X c tA fA) (ha : DE X a ta fa) (hb : DE X b tb fb) : DE X (.IfExp c a b pos) (tIf tA ta tb) (evIf fA fa fb) := by
  refine ⟨pe_ifExp hc.pt ha.pe hb.pe, ?_⟩
  intro B IO Z σ H cs ok d fr cs' e Q q
  unfold evIf at e
  obtain ⟨⟨b1, c1⟩, e1, e⟩ := Option.bind_eq_some_iff.mp e
  refine hc.st ok e1 _ fun H1 p1 => ?_
  cases b1 with
  | true => exact iteT (ha.se p1.ok e _ fun v H2 w2 => q v H2 (w2.pre p1))
  | false => exact iteF (hb.se p1.ok e _ fun v H2 w2 => q v H2 (w2.pre p1))

/-! ### lists of arguments, displays, calls of built-ins -/
def evNil : AX := fun cs => some ([], cs)
def evCons (f : EX) (g : AX) : AX := fun cs => (f cs).bind fun r => (g r.2.2).bind fun s => some (r.1 :: s.1, s.2)
variable {e : Expr} {te : TE} {fe : EX} {es : List Expr} {ts : TA} {fs : AX}
theorem da_nil : DA X [] tNil evNil := by
  refine ⟨pa_nil, ?_⟩
  intro B IO Z σ H cs ok ds cs' e Q q
  cases e
  exact q [] H (Post.refl ok) .nil
theorem da_cons (h : DE X e te fe) (hr : DA X es ts fs) (hs : starEach (e :: es) X.env = (false, eval e X.env) :: starEach es X.env := by rfl) : DA X (e :: es) (tCons te ts) (evCons fe fs) := by
  refine ⟨pa_cons h.pe hr.pa hs, ?_⟩
  intro B IO Z σ H cs ok ds cs' e Q q
  unfold evCons at e
  obtain ⟨⟨d1, f1, c1⟩, e1, e⟩ := Option.bind_eq_some_iff.mp e
  obtain ⟨⟨d2, c2⟩, e2, e⟩ := Option.bind_eq_some_iff.mp e
  cases e
  refine h.se ok e1 _ fun x H1 w1 => hr.sa w1.post.ok e2 _ fun xs H2 p2 v2 => q _ H2 (w1.post.trans p2) (.cons (w1.rp.mono p2.le) v2)
def evA (g : GA) (fs : AX) : EX := fun cs => (fs cs).bind fun r => (g r.1).bind fun z => some (z.1, z.2, r.2)
theorem se_A {r : List V → Hp → VK → Prop} {g : GA} (ha : SA K ts fs) (hr : SRC K r g) : SE K (fun σ H Q => ts σ H fun vs H1 => r vs H1 Q) (evA g fs) := by
  intro B IO Z σ H cs ok d fr cs' e Q q
  unfold evA at e
  obtain ⟨⟨d1, c1⟩, e1, e⟩ := Option.bind_eq_some_iff.mp e
  obtain ⟨⟨z, fz⟩, e3, e⟩ := Option.bind_eq_some_iff.mp e
  cases e
  refine ha ok e1 _ fun x H1 p1 v1 => ?_
  refine hr p1.ok.md v1 e3 Q fun v H3 x3 v3 => ?_
  exact q v H3 (.of p1 x3 v3)
def gTupD : GA := fun ds => if ds.length ≤ LIM then some (.tuple ds, false) else none
def gLstD : GA := fun ds => if ds.length ≤ LIM then some (.list ds, true) else none
theorem sqt_new {K : PySem.W.Frag} {H : Hp} {M : Addr → Prop} {p : Addr} {xs : List V} {ds : List D} (hp : H p = none) (hm : ∀ a, M a → H a ≠ none) (h : Paired (Rp K (cut H M)) xs ds) : Rp K (cut (upd H p (.tup xs)) M) (.ref p) (.tuple ds) := by
  have np : ¬ M p := fun z => hm p z hp
  refine .tup (.inl (.inl ?_)) (Rp.monoA (le_cut fun a o e m => ⟨Ex.new hp a o e, m⟩) h)
  rw [cut_of np]
  exact upd_same
theorem sc_tup : SRC K (fun xs H1 Q => xs.length ≤ sizeLine ∧ ∀ p, H1 p = none → Q (.ref p) (upd H1 p (.tup xs))) gTupD := by
  intro H M hm xs ds r z fr e Q q
  unfold gTupD at e
  split at e
  · rename_i hl
    cases e
    refine ⟨by rw [Pd.len r]; exact lim_ok hl, fun p hp => ?_⟩
    exact q _ _ (Ex.new hp) (VOk.of (sqt_new hp hm r))
  · cases e
theorem sc_lst : SRC K (fun xs H1 Q => xs.length ≤ sizeLine ∧ ∀ p, H1 p = none → Q (.ref p) (upd H1 p (.lst xs))) gLstD := by
  intro H M hm xs ds r z fr e Q q
  unfold gLstD at e
  split at e
  · rename_i hl
    cases e
    refine ⟨by rw [Pd.len r]; exact lim_ok hl, fun p hp => ?_⟩
    exact q _ _ (Ex.new hp) (VOk.new hp hm (.lst r))
  · cases e
theorem de_tup {x1} (h : DA X es ts fs) : DE X (.Tuple es x1 pos) (tTup ts) (evA gTupD fs) := ⟨pe_tup h.pa, se_A h.sa sc_tup⟩
theorem de_lst (h : DA X es ts fs) : DE X (.List es pos) (tLst ts) (evA gLstD fs) := ⟨pe_lst h.pa, se_A h.sa sc_lst⟩
end
end Qp
end
section
set_option Elab.async false
set_option linter.all false
set_option maxRecDepth 100000
set_option maxHeartbeats 2000000
/-! Qc: operators and built-ins on data. -/
namespace Qp
open PySem PySem.Spec PyProof.Rows L2
section
variable {K : PySem.W.Frag} {H H' : Hp} {M : Addr → Prop} {F : Hp}

/-- a thing that may be read just now: its parts are data -/
inductive Vw (K : PySem.W.Frag) (H : Hp) (M : Addr → Prop) : V → D → Prop
  | sc {v : V} {d : D} : Rp K (cut H M) v d → (∀ ds, d ≠ .list ds) → (∀ ds, d ≠ .dict ds) → Vw K H M v d
  | lst {a : Addr} {xs : List V} {ds : List D} : SqL K H a xs → Paired (Rp K (cut H M)) xs ds → Vw K H M (.ref a) (.list ds)
  | dic {a : Addr} {kvs : List (Key × V)} {es : List (D × D)} : Rd H a (.dK kvs) → es.map (·.1) = kvs.map (fun p => kD p.1) → Paired (Rp K (cut H M)) (kvs.map (·.2)) (es.map (·.2)) → Vw K H M (.ref a) (.dict es)
theorem Vw.of_rp {v : V} {d : D} (r : Rp K (cut H M) v d) : Vw K H M v d := by
  cases r with
  | lst h p => exact .lst (cut_le.sqL h) p
  | tup h p => exact .sc (.tup h p) (fun _ z => nomatch z) (fun _ z => nomatch z)
  | dic h e p => exact .dic (cut_le _ _ h) e p
  | non => exact .sc .non (fun _ z => nomatch z) (fun _ z => nomatch z)
  | bl b => exact .sc (.bl b) (fun _ z => nomatch z) (fun _ z => nomatch z)
  | int i => exact .sc (.int i) (fun _ z => nomatch z) (fun _ z => nomatch z)
  | str x => exact .sc (.str x) (fun _ z => nomatch z) (fun _ z => nomatch z)
theorem Vw.of_own {a : Addr} {d : D} (r : OwnAt K (cut H M) (H a) d) : Vw K H M (.ref a) d := by
  generalize e : H a = o at r
  cases r with
  | lst p => exact .lst (.inl (.inl e)) p
  | dic e' p => exact .dic (.inl e) e' p
theorem Vw.rpH {v : V} {d : D} (h : Vw K H M v d) : Rp K H v d := by
  cases h with
  | sc r _ _ => exact r.mono cut_le
  | lst h p => exact .lst h (Rp.monoA cut_le p)
  | dic h e p => exact .dic h e (Rp.monoA cut_le p)
theorem Vw.list {v : V} {ds : List D} (h : Vw K H M v (.list ds)) : ∃ a xs, v = .ref a ∧ SqL K H a xs ∧ Paired (Rp K (cut H M)) xs ds := by
  cases h with
  | sc r h _ => exact absurd rfl (h _)
  | lst h p => exact ⟨_, _, rfl, h, p⟩
theorem Vw.rp {v : V} {d : D} (h : Vw K H M v d) (h1 : ∀ ds, d ≠ .list ds) (h2 : ∀ ds, d ≠ .dict ds) : Rp K (cut H M) v d := by
  cases h with
  | sc r _ _ => exact r
  | lst h p => exact absurd rfl (h1 _)
  | dic h e p => exact absurd rfl (h2 _)
theorem Vw.tuple {v : V} {ds : List D} (h : Vw K H M v (.tuple ds)) : ∃ a xs, v = .ref a ∧ SqT K (cut H M) a xs ∧ Paired (Rp K (cut H M)) xs ds := (h.rp (fun _ z => nomatch z) (fun _ z => nomatch z)).tuple
theorem Vw.int_eq {v : V} {i : Int} (h : Vw K H M v (.int i)) : v = .int i := (h.rp (fun _ z => nomatch z) (fun _ z => nomatch z)).int_eq
theorem Vw.str_eq {v : V} {i : Str} (h : Vw K H M v (.str i)) : v = .str i := (h.rp (fun _ z => nomatch z) (fun _ z => nomatch z)).str_eq
end
/-- .. by a container that is looked into -/
def SRw (K : PySem.W.Frag) (r : R2) (g : G2) : Prop := ∀ {H : Hp} {M : Addr → Prop}, (∀ a, M a → H a ≠ none) → ∀ {x y : V} {d e : D}, Vw K H M x d → Rp K (cut H M) y e → ∀ {z : D} {fr : Bool}, g d e = some (z, fr) →
  ∀ Q : VK, (∀ v H', Ex H H' → VOk K H H' M fr v z → Q v H') → r x y H Q
theorem SRw.two {K : PySem.W.Frag} {r : R2} {g : G2} (h : SRw K r g) : SR2 K r g := fun hm _ _ _ _ rx ry _ _ e Q q => h hm (Vw.of_rp rx) ry e Q q
def SRCw (K : PySem.W.Frag) (r : List V → Hp → VK → Prop) (g : G1) : Prop := ∀ {H : Hp} {M : Addr → Prop}, (∀ a, M a → H a ≠ none) → ∀ {x : V} {d : D}, Vw K H M x d → ∀ {z : D} {fr : Bool}, g d = some (z, fr) →
  ∀ Q : VK, (∀ v H', Ex H H' → VOk K H H' M fr v z → Q v H') → r [x] H Q
def gOne (g : G1) : GA
  | [d] => g d
  | _ => none
theorem SRCw.all {K : PySem.W.Frag} {r : List V → Hp → VK → Prop} {g : G1} (h : SRCw K r g) : SRC K r (gOne g) := by
  intro H M hm xs ds p z fr e Q q
  cases p with
  | nil => cases e
  | cons r1 p =>
    cases p with
    | nil => exact h hm (Vw.of_rp r1) e Q q
    | cons _ _ => cases e

/-! ### + - * // % ** -/
section
variable {X : Cx} {K : PySem.W.Frag}
def gII (f : Int → Int → D) : G2
  | .int i, .int j => some (f i j, false)
  | _, _ => none
def gIIc (C : Int → Int → Bool) (f : Int → Int → D) : G2
  | .int i, .int j => if C i j = true then some (f i j, false) else none
  | _, _ => none
def relS1 : D → V → Prop
  | .int i, v => v = .int i
  | .bool b, v => v = .bl b
  | .str b, v => v = .str b
  | _, _ => False
theorem relS1.rp {F : Hp} {d : D} {v : V} (h : relS1 d v) : Rp K F v d := by
  cases d with
  | int i => cases h; exact .int i
  | bool i => cases h; exact .bl i
  | str i => cases h; exact .str i
  | _ => exact h.elim
theorem sr_II {f : Int → Int → D} {g : Int → Int → V} (h : ∀ i j, relS1 (f i j) (g i j)) : SR2 K (rI0 g) (gII f) := by
  intro H M hm x y d e rx ry z fr q Q k
  unfold gII at q
  split at q
  · cases q
    exact ⟨_, _, rx.int_eq, ry.int_eq, k _ H (Ex.refl H) (VOk.of (h _ _).rp)⟩
  · cases q
theorem sr_IIc {C : Int → Int → Bool} {P : Int → Int → Prop} {f : Int → Int → D} {g : Int → Int → V} (hc : ∀ i j, C i j = true → P i j) (h : ∀ i j, relS1 (f i j) (g i j)) : SR2 K (rI P g) (gIIc C f) := by
  intro H M hm x y d e rx ry z fr q Q k
  unfold gIIc at q
  split at q
  · split at q
    · rename_i c
      cases q
      exact ⟨_, _, rx.int_eq, ry.int_eq, hc _ _ c, k _ H (Ex.refl H) (VOk.of (h _ _).rp)⟩
    · cases q
  · cases q
/-- list + list, both readable -/
def rCatR (K : PySem.W.Frag) : R2 := fun x y H Q => ∃ l b xs zs, x = .ref l ∧ y = .ref b ∧ SqL K H l xs ∧ SqL K H b zs ∧ xs.length + zs.length ≤ sizeLine ∧ ∀ p, H p = none → Q (.ref p) (upd H p (.lst (xs ++ zs)))
theorem op_catR : OpR X (binaryOp .Add) (rCatR X.K) := by
  intro pins s σ H x y v u Q I rx ry h
  obtain ⟨l, b, xs, zs, rfl, rfl, hH, hB, hz, q⟩ := h
  cases rx
  cases ry
  obtain ⟨its, r, pl, z⟩ := I.list hH
  obtain ⟨its2, r2, pl2, z2⟩ := I.list hB
  have hl := r.length
  have hl2 := r2.length
  obtain ⟨⟨cls, dd, data, sl⟩, ho, hc, n, hd⟩ := id pl.isList
  obtain ⟨⟨cls2, dd2, data2, sl2⟩, ho2, hc2, n2, hd2⟩ := id pl2.isList
  simp only at hc hd hc2 hd2
  subst hc hd hc2 hd2
  have ea : its.toArray ++ its2.toArray = (its ++ its2).toArray := by simp
  refine concat_meets ⟨_, ho, rfl⟩ ⟨_, ho2, rfl⟩ noFill_list_add seq_list_add PySem.F.slot_list_add PySem.F.entry_list_add (PySem.F.args_list_add_2 _ _) (list_addW l b its.toArray its2.toArray n n2 dd dd2 sl sl2 (by rw [List.size_toArray, List.size_toArray]; omega)) ⟨ho, ho2, ?_⟩
  rw [ea]
  exact ⟨.ref _, _, I.lnew (t' := s.toks) (r.append r2) (by rw [List.length_append]; omega), rfl, q _ I.fresh⟩
def rAddD (K : PySem.W.Frag) : R2 := fun x y H Q => (rI0 (fun i j => .int (i + j)) x y H Q) ∨ ((∃ i j, x = .str i ∧ y = .str j ∧ i.length + j.length ≤ sizeLine ∧ Q (.str (i ++ j)) H) ∨ (rCatR K x y H Q ∨ rCatA K x y H Q))
theorem op_addD : OpR X (binaryOp .Add) (rAddD X.K) := op_add.or (op_add_str.or (op_catR.or op_catA))
def gAdd : G2
  | .int i, .int j => some (.int (i + j), false)
  | .str x, .str y => if x.length + y.length ≤ LIM then some (.str (x ++ y), false) else none
  | .list xs, .list ys => if xs.length + ys.length ≤ LIM then some (.list (xs ++ ys), true) else none
  | .tuple xs, .tuple ys => if xs.length + ys.length ≤ LIM then some (.tuple (xs ++ ys), false) else none
  | _, _ => none
theorem sw_add : SRw K (rAddD K) gAdd := by
  intro H M hm x y d e rx ry z fr q Q k
  unfold gAdd at q
  split at q
  · cases q
    exact .inl ⟨_, _, rx.int_eq, ry.int_eq, k _ H (Ex.refl H) (VOk.of (.int _))⟩
  · split at q
    · rename_i c
      cases q
      exact .inr (.inl ⟨_, _, rx.str_eq, ry.str_eq, lim_ok c, k _ H (Ex.refl H) (VOk.of (.str _))⟩)
    · cases q
  · split at q
    · rename_i c
      cases q
      obtain ⟨a, xs, rfl, h1, p1⟩ := rx.list
      obtain ⟨b, ys, rfl, h2, p2⟩ := ry.list
      refine .inr (.inr (.inl ⟨a, b, xs, ys, rfl, rfl, h1, cut_le.sqL h2, by rw [Pd.len p1, Pd.len p2]; exact lim_ok c, fun p hp => ?_⟩))
      exact k _ _ (Ex.new hp) (VOk.new hp hm (.lst (Pd.append p1 p2)))
    · cases q
  · split at q
    · rename_i c
      cases q
      obtain ⟨a, xs, rfl, h1, p1⟩ := rx.tuple
      obtain ⟨b, ys, rfl, h2, p2⟩ := ry.tuple
      refine .inr (.inr (.inr ⟨a, b, xs, ys, rfl, rfl, cut_le.sqT h1, cut_le.sqT h2, by rw [Pd.len p1, Pd.len p2]; exact lim_ok c, fun ex => ?_, fun nx ey => ?_, fun nx ny p hp => ?_⟩))
      · subst ex
        cases p1
        exact k _ H (Ex.refl H) (VOk.of ry)
      · subst ey
        cases p2
        rw [List.append_nil] at k
        exact k _ H (Ex.refl H) (VOk.of (.tup h1 p1))
      · exact k _ _ (Ex.new hp) (VOk.of (sqt_new hp hm (Pd.append p1 p2)))
    · cases q
  · cases q
end
end Qp
end
section
set_option Elab.async false
set_option linter.all false
set_option maxRecDepth 100000
set_option maxHeartbeats 2000000
/-! Qd: comparisons, lengths, subscripts, slices, types. -/
namespace Qp
open PySem PySem.Spec PyProof.Rows L2
section
variable {X : Cx} {K : PySem.W.Frag} {H H' : Hp} {M : Addr → Prop} {F : Hp}
/-! ### == -/
theorem dp_of {v : V} {d : D} (r : Rp K F v d) (hle : Le F H) : PyData.canLay0 d = true → Dp K H v d :=
  Rp.rec (motive_1 := fun v d _ => PyData.canLay0 d = true → Dp K H v d) (motive_2 := fun xs ds _ => PyData.canLayAll0 ds = true → DpAll K H xs ds)
    (fun _ => .non) (fun b _ => .bl b) (fun i _ => .int i) (fun x _ => .str x)
    (fun a _ ih h => .lst (hle.sqL a) (ih (by simpa [PyData.canLay0] using h))) (fun a _ ih h => .tup (hle.sqT a) (ih (by simpa [PyData.canLay0] using h))) (fun a e _ ih h => by simp [PyData.canLay0] at h)
    (fun _ => .nil) (fun r t ih1 ih2 h => by
      have h' := h
      simp only [PyData.canLayAll0, Bool.and_eq_true] at h'
      exact .cons (ih1 h'.1) (ih2 h'.2)) r
def gEq : G2 := fun d e => if (SeqAt.shaped d && SeqAt.shaped e) = true then some (.bool (PyData.eqv d e), false) else none
def gNe : G2 := fun d e => if (SeqAt.shaped d && SeqAt.shaped e) = true then some (.bool (!PyData.eqv d e), false) else none
theorem sw_eq : SRw K (rEqD K) gEq := by
  intro H M hm x y d e rx ry z fr q Q k
  unfold gEq at q
  split at q
  · rename_i c
    cases q
    rw [Bool.and_eq_true] at c
    exact ⟨d, e, dp_of rx.rpH (Le.refl H) (SeqAt.canLay_of_shaped c.1), dp_of ry cut_le (SeqAt.canLay_of_shaped c.2), c.1, c.2, k _ H (Ex.refl H) (VOk.of (.bl _))⟩
  · cases q
theorem sw_ne : SRw K (rNeD K) gNe := by
  intro H M hm x y d e rx ry z fr q Q k
  unfold gNe at q
  split at q
  · rename_i c
    cases q
    rw [Bool.and_eq_true] at c
    exact ⟨d, e, dp_of rx.rpH (Le.refl H) (SeqAt.canLay_of_shaped c.1), dp_of ry cut_le (SeqAt.canLay_of_shaped c.2), c.1, c.2, k _ H (Ex.refl H) (VOk.of (.bl _))⟩
  · cases q
/-! ### is None -/
def isNone : D → Bool
  | .none => true
  | _ => false
def gIsN : G2
  | d, .none => some (.bool (isNone d), false)
  | _, _ => none
def gNotN : G2
  | d, .none => some (.bool (!isNone d), false)
  | _, _ => none
theorem isnon {v : V} {d : D} (r : Rp K F v d) : decide (v = .non) = isNone d := by
  cases r <;> rfl
theorem sr_isN : SR2 K (fun x y H Q => y = .non ∧ Q (.bl (decide (x = .non))) H) gIsN := by
  intro H M hm x y d e rx ry z fr q Q k
  unfold gIsN at q
  split at q
  · cases q
    refine ⟨ry.none_eq, ?_⟩
    rw [isnon rx]
    exact k _ H (Ex.refl H) (VOk.of (.bl _))
  · cases q
theorem sr_notN : SR2 K (fun x y H Q => y = .non ∧ Q (.bl (!decide (x = .non))) H) gNotN := by
  intro H M hm x y d e rx ry z fr q Q k
  unfold gNotN at q
  split at q
  · cases q
    refine ⟨ry.none_eq, ?_⟩
    rw [isnon rx]
    exact k _ H (Ex.refl H) (VOk.of (.bl _))
  · cases q
/-! ### in a list or tuple of flat data -/
def flatD : D → Bool
  | .none => true
  | .bool _ => true
  | .int _ => true
  | .str _ => true
  | _ => false
theorem flat_of {v : V} {d : D} (r : Rp K F v d) (h : flatD d = true) : flatV v = true := by
  cases r <;> first | rfl | cases h
theorem eq_of {v w : V} {d e : D} (r : Rp K F v d) (s : Rp K F w e) (h : flatD d = true) (h' : flatD e = true) : eqV v w = PyData.eqv d e := by
  cases r <;> cases s <;> simp_all [eqV, PyData.eqv, flatD]
theorem inv_of {v : V} {d : D} (r : Rp K F v d) (h : flatD d = true) : ∀ {xs : List V} {ds : List D}, Paired (Rp K F) xs ds → ds.all flatD = true → xs.all flatV = true ∧ inV v xs = ds.any fun e => PyData.eqv e d
  | _, _, .nil, _ => ⟨rfl, rfl⟩
  | _, _, .cons r1 t, hh => by
    rw [List.all_cons, Bool.and_eq_true] at hh
    obtain ⟨h1, h2⟩ := inv_of r h t hh.2
    refine ⟨by rw [List.all_cons, flat_of r1 hh.1, h1]; rfl, ?_⟩
    unfold inV at h2 ⊢
    rw [List.any_cons, List.any_cons, h2, eq_of r1 r hh.1 h]
def gIn (neg : Bool) : G2
  | d, .list ds => if (flatD d && ds.all flatD) = true then some (.bool (if neg then !(ds.any fun e => PyData.eqv e d) else ds.any fun e => PyData.eqv e d), false) else none
  | d, .tuple ds => if (flatD d && ds.all flatD) = true then some (.bool (if neg then !(ds.any fun e => PyData.eqv e d) else ds.any fun e => PyData.eqv e d), false) else none
  | _, _ => none
/-- the container stands on the right: it may be owned -/
def SRw2 (K : PySem.W.Frag) (r : R2) (g : G2) : Prop := ∀ {H : Hp} {M : Addr → Prop}, (∀ a, M a → H a ≠ none) → ∀ {x y : V} {d e : D}, Rp K (cut H M) x d → Vw K H M y e → ∀ {z : D} {fr : Bool}, g d e = some (z, fr) →
  ∀ Q : VK, (∀ v H', Ex H H' → VOk K H H' M fr v z → Q v H') → r x y H Q
theorem SRw2.two {K : PySem.W.Frag} {r : R2} {g : G2} (h : SRw2 K r g) : SR2 K r g := fun hm _ _ _ _ rx ry _ _ e Q q => h hm rx (Vw.of_rp ry) e Q q
theorem sw_in {neg : Bool} : SRw2 K (rIn K neg) (gIn neg) := by
  intro H M hm x y d e rx ry z fr q Q k
  unfold gIn at q
  split at q
  · split at q
    · rename_i c
      cases q
      rw [Bool.and_eq_true] at c
      obtain ⟨a, xs, rfl, h1, p1⟩ := ry.list
      obtain ⟨i1, i2⟩ := inv_of rx c.1 p1 c.2
      refine ⟨a, xs, rfl, .inl h1, flat_of rx c.1, i1, ?_⟩
      rw [i2]
      exact k _ H (Ex.refl H) (VOk.of (.bl _))
    · cases q
  · split at q
    · rename_i c
      cases q
      rw [Bool.and_eq_true] at c
      obtain ⟨a, xs, rfl, h1, p1⟩ := ry.tuple
      obtain ⟨i1, i2⟩ := inv_of rx c.1 p1 c.2
      refine ⟨a, xs, rfl, .inr (cut_le.sqT h1), flat_of rx c.1, i1, ?_⟩
      rw [i2]
      exact k _ H (Ex.refl H) (VOk.of (.bl _))
    · cases q
  · cases q
/-! ### len -/
def gLen : G1
  | .list ds => some (.int ds.length, false)
  | .tuple ds => some (.int ds.length, false)
  | .str s => if s.length ≤ LIM then some (.int s.length, false) else none
  | _ => none
theorem sw_len : SRCw K (fun xs H Q => ∃ x n, xs = [x] ∧ LenV K x H n ∧ Q (.int n) H) gLen := by
  intro H M hm x d rx z fr q Q k
  unfold gLen at q
  split at q
  · cases q
    obtain ⟨a, xs, rfl, h1, p1⟩ := rx.list
    refine ⟨_, _, rfl, .inl ⟨xs, h1, rfl⟩, ?_⟩
    rw [Pd.len p1]
    exact k _ H (Ex.refl H) (VOk.of (.int _))
  · cases q
    obtain ⟨a, xs, rfl, h1, p1⟩ := rx.tuple
    refine ⟨_, _, rfl, .inr ⟨xs, cut_le.sqT h1, rfl⟩, ?_⟩
    rw [Pd.len p1]
    exact k _ H (Ex.refl H) (VOk.of (.int _))
  · split at q
    · rename_i c
      cases q
      exact ⟨_, _, rfl, by rw [rx.str_eq]; exact ⟨lim_ok c, rfl⟩, k _ H (Ex.refl H) (VOk.of (.int _))⟩
    · cases q
  · cases q
/-! ### int, list, tuple of a thing -/
def gInt : GA
  | [.int i] => some (.int i, false)
  | [.bool b] => some (.int (if b then 1 else 0), false)
  | _ => none
theorem sc_int : SRC K (fun xs H Q => (∃ i, xs = [.int i] ∧ Q (.int i) H) ∨ ∃ k, xs = [.bl k] ∧ Q (.int (if k then 1 else 0)) H) gInt := by
  intro H M hm xs ds p z fr q Q k
  unfold gInt at q
  split at q
  · cases q
    cases p with
    | cons r p =>
      cases p
      exact .inl ⟨_, by rw [r.int_eq], k _ H (Ex.refl H) (VOk.of (.int _))⟩
  · cases q
    cases p with
    | cons r p =>
      cases p
      exact .inr ⟨_, by rw [r.bool_eq], k _ H (Ex.refl H) (VOk.of (.int _))⟩
  · cases q
def gList : G1
  | .list ds => some (.list ds, true)
  | .tuple ds => some (.list ds, true)
  | _ => none
theorem sw_list : SRCw K (fun xs H Q => ∃ p ys, xs = [.ref p] ∧ (SqL K H p ys ∨ SqT K H p ys) ∧ ∀ l, H l = none → Q (.ref l) (upd H l (.lst ys))) gList := by
  intro H M hm x d rx z fr q Q k
  unfold gList at q
  split at q
  · cases q
    obtain ⟨a, xs, rfl, h1, p1⟩ := rx.list
    exact ⟨a, xs, rfl, .inl h1, fun l hl => k _ _ (Ex.new hl) (VOk.new hl hm (.lst p1))⟩
  · cases q
    obtain ⟨a, xs, rfl, h1, p1⟩ := rx.tuple
    exact ⟨a, xs, rfl, .inr (cut_le.sqT h1), fun l hl => k _ _ (Ex.new hl) (VOk.new hl hm (.lst p1))⟩
  · cases q
def gTuple : G1
  | .list ds => some (.tuple ds, false)
  | .tuple ds => some (.tuple ds, false)
  | _ => none
theorem sw_tuple : SRCw K (fun xs H Q => ∃ p ys, xs = [.ref p] ∧ ((SqL K H p ys ∧ ∀ l, H l = none → Q (.ref l) (upd H l (.tup ys))) ∨ (SqT K H p ys ∧ Q (.ref p) H))) gTuple := by
  intro H M hm x d rx z fr q Q k
  unfold gTuple at q
  split at q
  · cases q
    obtain ⟨a, xs, rfl, h1, p1⟩ := rx.list
    exact ⟨a, xs, rfl, .inl ⟨h1, fun l hl => k _ _ (Ex.new hl) (VOk.of (sqt_new hl hm p1))⟩⟩
  · cases q
    obtain ⟨a, xs, rfl, h1, p1⟩ := rx.tuple
    exact ⟨a, xs, rfl, .inr ⟨cut_le.sqT h1, k _ H (Ex.refl H) (VOk.of (.tup h1 p1))⟩⟩
  · cases q
/-! ### max, min of two ints -/
def gMax2 : GA
  | [.int i, .int j] => some (.int (if j > i then j else i), false)
  | _ => none
theorem sc_max2 : SRC K (fun xs H Q => ∃ i j, xs = [.int i, .int j] ∧ Q (.int (if j > i then j else i)) H) gMax2 := by
  intro H M hm xs ds p z fr q Q k
  unfold gMax2 at q
  split at q
  · cases q
    cases p with
    | cons r p =>
      cases p with
      | cons r2 p =>
        cases p
        exact ⟨_, _, by rw [r.int_eq, r2.int_eq], k _ H (Ex.refl H) (VOk.of (.int _))⟩
  · cases q
def gMin2 : GA
  | [.int i, .int j] => some (.int (if j < i then j else i), false)
  | _ => none
theorem sc_min2 : SRC K (fun xs H Q => ∃ i j, xs = [.int i, .int j] ∧ Q (.int (if j < i then j else i)) H) gMin2 := by
  intro H M hm xs ds p z fr q Q k
  unfold gMin2 at q
  split at q
  · cases q
    cases p with
    | cons r p =>
      cases p with
      | cons r2 p =>
        cases p
        exact ⟨_, _, by rw [r.int_eq, r2.int_eq], k _ H (Ex.refl H) (VOk.of (.int _))⟩
  · cases q
/-! ### items -/
def atD (ds : List D) (i : Int) : Option D := (ixN ds.length i).bind fun j => ds[j]?
theorem atD_get {xs : List V} {ds : List D} {i : Int} {d : D} (p : Paired (Rp K F) xs ds) (h : atD ds i = some d) : ∃ v, atI xs i = some v ∧ Rp K F v d := by
  unfold atD at h
  obtain ⟨j, e, h⟩ := Option.bind_eq_some_iff.mp h
  obtain ⟨v, h1, h2⟩ := Pd.get p h
  refine ⟨v, ?_, h2⟩
  unfold atI
  rw [Pd.len p, e]
  exact h1
def gIx : G2
  | .list ds, .int i => (atD ds i).bind fun d => some (d, false)
  | .tuple ds, .int i => (atD ds i).bind fun d => some (d, false)
  | .str s, .int i => if s.length ≤ LIM then (atI s.cps.toList i).bind fun c => some (.str ⟨#[c]⟩, false) else none
  | _, _ => none
theorem sw_ix : SRw K (rIx K) gIx := by
  intro H M hm x y d e rx ry z fr q Q k
  unfold gIx at q
  split at q
  · obtain ⟨d', e1, q⟩ := Option.bind_eq_some_iff.mp q
    cases q
    obtain ⟨a, xs, rfl, h1, p1⟩ := rx.list
    obtain ⟨v, g1, g2⟩ := atD_get p1 e1
    exact .inl ⟨a, xs, _, v, rfl, ry.int_eq, h1, g1, k _ H (Ex.refl H) (VOk.of g2)⟩
  · obtain ⟨d', e1, q⟩ := Option.bind_eq_some_iff.mp q
    cases q
    obtain ⟨a, xs, rfl, h1, p1⟩ := rx.tuple
    obtain ⟨v, g1, g2⟩ := atD_get p1 e1
    exact .inr (.inl ⟨a, xs, _, v, rfl, ry.int_eq, cut_le.sqT h1, g1, k _ H (Ex.refl H) (VOk.of g2)⟩)
  · split at q
    · rename_i c
      obtain ⟨c', e1, q⟩ := Option.bind_eq_some_iff.mp q
      cases q
      exact .inr (.inr ⟨_, _, c', rx.str_eq, ry.int_eq, lim_ok c, e1, k _ H (Ex.refl H) (VOk.of (.str _))⟩)
    · cases q
  · cases q
/-! ### types -/
def tyD : D → String
  | .none => "NoneType"
  | .bool _ => "bool"
  | .int _ => "int"
  | .str _ => "str"
  | .list _ => "list"
  | .tuple _ => "tuple"
  | .dict _ => "dict"
theorem tyx_of {v : V} {d : D} (r : Rp K F v d) (hle : Le F H) : TyX K H v (.type (tyD d)) := by
  cases r with
  | non => exact .base .non
  | bl b => exact .base (.bl b)
  | int i => exact .base (.int i)
  | str x => exact .base (.str x)
  | lst h p =>
    rcases hle.sqL h with (h | ⟨o, h⟩) | ⟨o, its, n, h1, h2, _⟩
    · exact .base (.lst h)
    · exact .base (.frz h)
    · exact .kList h1 h2
  | tup h p =>
    rcases hle.sqT h with (h | ⟨o, h⟩) | ⟨o, its, n, h1, h2, _⟩
    · exact .base (.tup h)
    · exact .fTuple h
    · exact .kTuple h1 h2
  | dic h e p =>
    rcases hle _ _ h with h | ⟨o, h⟩
    · exact .base (.dK h)
    · exact .fDict h
end
end Qp
end
section
set_option Elab.async false
set_option linter.all false
set_option maxRecDepth 100000
set_option maxHeartbeats 2000000
/-! Qe: calls of built-ins, containers in a name, slices. -/
namespace Qp
open PySem PySem.Spec PyProof.Rows L2
section
variable {X : Cx} {K : PySem.W.Frag} {e a b : Expr} {es : List Expr} {te ta tb : TE} {ts : TA} {fe fa fb : EX} {fs : AX} {pos fpos cpos : Pos}
theorem de_cB {id : String} {x : Str} {r : List V → Hp → VK → Prop} {g : GA} (hc : CallR X (.builtin id) r) (hr : SRC X.K r g) (hg : Gl X x) (hm : X.mg x = none) (hv : bootBuiltins x = some (.builtin id)) (ha : DA X (e :: es) ts fs)
    (hn : x ≠ "__name__" := by decide) (hdb : (x == ("__debug__" : Str)) = false := by decide) (hs : starEach (e :: es) X.env = (false, eval e X.env) :: starEach es X.env := by rfl) (hpl : (backTo cpos (starEach es X.env)).any (·.1) = false := by rfl) :
    DE X (.Call (.Name x fpos) (e :: es) [] cpos) (tCB r ts) (evA g fs) := ⟨pe_callB hc hg hm hv ha.pa hn hdb hs hpl, se_A ha.sa hr⟩
theorem de_cT {T : String} {x : Str} {r : List V → Hp → VK → Prop} {g : GA} (hc : CallR X (.type T) r) (hr : SRC X.K r g) (hg : Gl X x) (hm : X.mg x = none) (hv : bootBuiltins x = some (.type T)) (ha : DA X (e :: es) ts fs)
    (hn : x ≠ "__name__" := by decide) (hdb : (x == ("__debug__" : Str)) = false := by decide) (hs : starEach (e :: es) X.env = (false, eval e X.env) :: starEach es X.env := by rfl) (hpl : (backTo cpos (starEach es X.env)).any (·.1) = false := by rfl) :
    DE X (.Call (.Name x fpos) (e :: es) [] cpos) (tCB r ts) (evA g fs) := ⟨pe_callTy hc hg hm hv ha.pa hn hdb hs hpl, se_A ha.sa hr⟩
/-! ### a container that stands in a name is looked into -/
def cont (cs : En) (i : Nat) : Option D := match cs[i]? with
  | some (.dat d) => some d
  | some (.own d) => some d
  | some (.io d) => some d
  | _ => none
theorem Ok.view {B : Hp} {IO : List (Nat × Addr)} {Z : Addr → Prop} {σ : St} {H : Hp} {cs : En} (ok : Ok K B IO Z σ H cs) {i : Nat} {d : D} (h : cont cs i = some d) : ∃ v, σ[i]? = some (some v) ∧ Vw K H (Md σ cs Z) v d := by
  unfold cont at h
  split at h
  · rename_i d' h'
    cases h
    obtain ⟨v, h1, h2⟩ := ok.dat i _ h'
    exact ⟨v, h1, Vw.of_rp h2⟩
  · rename_i d' h'
    cases h
    obtain ⟨a, h1, h2⟩ := ok.own i _ (.inl h')
    exact ⟨_, h1, Vw.of_own h2⟩
  · rename_i d' h'
    cases h
    obtain ⟨a, h1, h2⟩ := ok.own i _ (.inr h')
    exact ⟨_, h1, Vw.of_own h2⟩
  · cases h
def evIxV (g : G2) (i : Nat) (fb : EX) : EX := fun cs => (cont cs i).bind fun _ => (fb cs).bind fun s => (cont s.2.2 i).bind fun d => (g d s.1).bind fun z => some (z.1, z.2, s.2.2)
theorem se_ixv {r : R2} {g : G2} {i : Nat} (hr : SRw K r g) (hb : SE K tb fb) : SE K (tOp r (tVar i) tb) (evIxV g i fb) := by
  intro B IO Z σ H cs ok d fr cs' e Q q
  unfold evIxV at e
  obtain ⟨d0, e0, e⟩ := Option.bind_eq_some_iff.mp e
  obtain ⟨⟨d1, f1, c1⟩, e1, e⟩ := Option.bind_eq_some_iff.mp e
  obtain ⟨d2, e2, e⟩ := Option.bind_eq_some_iff.mp e
  obtain ⟨⟨z, fz⟩, e3, e⟩ := Option.bind_eq_some_iff.mp e
  cases e
  obtain ⟨v, hv, _⟩ := ok.view e0
  refine ⟨v, hv, hb ok e1 _ fun y H1 w1 => ?_⟩
  obtain ⟨v', hv', w⟩ := w1.post.ok.view e2
  rw [hv] at hv'
  cases hv'
  refine hr w1.post.ok.md w w1.rp e3 Q fun u H3 x3 v3 => ?_
  exact q u H3 (.of w1.post x3 v3)
def evVIn (g : G2) (fa : EX) (i : Nat) : EX := fun cs => (fa cs).bind fun s => (cont s.2.2 i).bind fun d => (g s.1 d).bind fun z => some (z.1, z.2, s.2.2)
theorem se_inv {r : R2} {g : G2} {i : Nat} (hr : SRw2 K r g) (ha : SE K ta fa) : SE K (tOp r ta (tVar i)) (evVIn g fa i) := by
  intro B IO Z σ H cs ok d fr cs' e Q q
  unfold evVIn at e
  obtain ⟨⟨d1, f1, c1⟩, e1, e⟩ := Option.bind_eq_some_iff.mp e
  obtain ⟨d2, e2, e⟩ := Option.bind_eq_some_iff.mp e
  obtain ⟨⟨z, fz⟩, e3, e⟩ := Option.bind_eq_some_iff.mp e
  cases e
  refine ha ok e1 _ fun y H1 w1 => ?_
  obtain ⟨v', hv', w⟩ := w1.post.ok.view e2
  refine ⟨v', hv', ?_⟩
  refine hr w1.post.ok.md w1.rp w e3 Q fun u H3 x3 v3 => ?_
  exact q u H3 (.of w1.post x3 v3)
def evV1 (g : G1) (i : Nat) : EX := fun cs => (cont cs i).bind fun d => (g d).bind fun z => some (z.1, z.2, cs)
theorem se_v1 {r : List V → Hp → VK → Prop} {g : G1} {i : Nat} (hr : SRCw K r g) : SE K (tCB r (tCons (tVar i) tNil)) (evV1 g i) := by
  intro B IO Z σ H cs ok d fr cs' e Q q
  unfold evV1 at e
  obtain ⟨d2, e2, e⟩ := Option.bind_eq_some_iff.mp e
  obtain ⟨⟨z, fz⟩, e3, e⟩ := Option.bind_eq_some_iff.mp e
  cases e
  obtain ⟨v, hv, w⟩ := ok.view e2
  refine ⟨v, hv, ?_⟩
  exact hr ok.md w e3 Q fun u H3 x3 v3 => q u H3 (.of (Post.refl ok) x3 v3)
variable {x : Str} {xpos : Pos} {i : Nat}
theorem de_opV {op : Operator} {r : R2} {g : G2} (ho : OpR X (binaryOp op) r) (hr : SRw X.K r g) (ha : DE X (.Name x xpos) (tVar i) (evVar i)) (hb : DE X b tb fb) : DE X (.BinOp (.Name x xpos) op b pos) (tOp r (tVar i) tb) (evIxV g i fb) := ⟨pe_op ho ha.pe hb.pe, se_ixv hr hb.se⟩
theorem de_cmpV {op : CmpOp} {r : R2} {g : G2} (ho : OpR X (compareOp op) r) (hr : SRw X.K r g) (ha : DE X (.Name x xpos) (tVar i) (evVar i)) (hb : DE X b tb fb) (hm : behindInMarks op b = false := by first | exact nomark _ | rfl) : DE X (.Compare (.Name x xpos) [op] [b] pos) (tOp r (tVar i) tb) (evIxV g i fb) :=
  ⟨pe_cmpR ho ha.pe hb.pe hm, se_ixv hr hb.se⟩
theorem dt_cmpV {op : CmpOp} {r : R2} {g : G2} (ho : OpR X (compareOp op) r) (hr : SRw X.K r g) (ha : DE X (.Name x xpos) (tVar i) (evVar i)) (hb : DE X b tb fb) (hm : behindInMarks op b = false := by first | exact nomark _ | rfl) : DT X (.Compare (.Name x xpos) [op] [b] pos) (tTest (tOp r (tVar i) tb)) (evT (evIxV g i fb)) :=
  ⟨pt_cmpR ho ha.pe hb.pe hm, st_test (se_ixv hr hb.se)⟩
theorem de_inV {op : CmpOp} {r : R2} {g : G2} (ho : OpR X (compareOp op) r) (hr : SRw2 X.K r g) (ha : DE X a ta fa) (hb : DE X (.Name x xpos) (tVar i) (evVar i)) (hm : behindInMarks op (.Name x xpos) = false := by first | exact nomark _ | rfl) : DE X (.Compare a [op] [.Name x xpos] pos) (tOp r ta (tVar i)) (evVIn g fa i) :=
  ⟨pe_cmpR ho ha.pe hb.pe hm, se_inv hr ha.se⟩
theorem dt_inV {op : CmpOp} {r : R2} {g : G2} (ho : OpR X (compareOp op) r) (hr : SRw2 X.K r g) (ha : DE X a ta fa) (hb : DE X (.Name x xpos) (tVar i) (evVar i)) (hm : behindInMarks op (.Name x xpos) = false := by first | exact nomark _ | rfl) : DT X (.Compare a [op] [.Name x xpos] pos) (tTest (tOp r ta (tVar i))) (evT (evVIn g fa i)) :=
  ⟨pt_cmpR ho ha.pe hb.pe hm, st_test (se_inv hr ha.se)⟩
theorem de_ix (ha : DE X a ta fa) (hb : DE X b tb fb) (hs : PlainIx b := by exact fun _ _ => rfl) : DE X (.Subscript a b pos) (tOp (rIx X.K) ta tb) (ev2 gIx fa fb) := ⟨pe_ix ix_seq ha.pe hb.pe hs, se_2 ha.se hb.se sw_ix.two⟩
theorem de_ixV (ha : DE X (.Name x xpos) (tVar i) (evVar i)) (hb : DE X b tb fb) (hs : PlainIx b := by exact fun _ _ => rfl) : DE X (.Subscript (.Name x xpos) b pos) (tOp (rIx X.K) (tVar i) tb) (evIxV gIx i fb) := ⟨pe_ix ix_seq ha.pe hb.pe hs, se_ixv sw_ix hb.se⟩
theorem de_cBV {id : String} {f : Str} {r : List V → Hp → VK → Prop} {g : G1} (hc : CallR X (.builtin id) r) (hr : SRCw X.K r g) (hg : Gl X f) (hm : X.mg f = none) (hv : bootBuiltins f = some (.builtin id)) (ha : DE X (.Name x xpos) (tVar i) (evVar i))
    (hn : f ≠ "__name__" := by decide) (hdb : (f == ("__debug__" : Str)) = false := by decide) :
    DE X (.Call (.Name f fpos) [.Name x xpos] [] cpos) (tCB r (tCons (tVar i) tNil)) (evV1 g i) := ⟨pe_callB hc hg hm hv (pa_cons ha.pe pa_nil) hn hdb, se_v1 hr⟩
theorem de_cTV {T : String} {f : Str} {r : List V → Hp → VK → Prop} {g : G1} (hc : CallR X (.type T) r) (hr : SRCw X.K r g) (hg : Gl X f) (hm : X.mg f = none) (hv : bootBuiltins f = some (.type T)) (ha : DE X (.Name x xpos) (tVar i) (evVar i))
    (hn : f ≠ "__name__" := by decide) (hdb : (f == ("__debug__" : Str)) = false := by decide) :
    DE X (.Call (.Name f fpos) [.Name x xpos] [] cpos) (tCB r (tCons (tVar i) tNil)) (evV1 g i) := ⟨pe_callTy hc hg hm hv (pa_cons ha.pe pa_nil) hn hdb, se_v1 hr⟩

/-! ### slices -/
def cutL {α : Type} (xs : List α) (lo hi : Option Int) : List α := (xs.drop (HT.sIx xs.length 0 lo)).take (HT.sIx xs.length xs.length hi - HT.sIx xs.length 0 lo)
theorem cutL_pd {F : Hp} {xs : List V} {ds : List D} {lo hi : Option Int} (p : Paired (Rp K F) xs ds) : Paired (Rp K F) (cutV xs lo hi) (cutL ds lo hi) := by
  unfold cutV cutL
  rw [Pd.len p]
  exact Pd.take _ (Pd.drop _ p)
def rSlD (K : PySem.W.Frag) : V → Option Int → Option Int → Hp → VK → Prop := fun x lo hi H Q => rSlL K x lo hi H Q ∨ (rSlA K x lo hi H Q ∨ rSlS x lo hi H Q)
theorem sl_D : SlR X (rSlD X.K) := sl_list.or (sl_tupA.or sl_str)
def gSl (d : D) (lo hi : Option Int) : Option (D × Bool) := match d with
  | .list ds => some (.list (cutL ds lo hi), true)
  | .tuple ds => some (.tuple (cutL ds lo hi), false)
  | .str s => if s.length ≤ LIM then some (.str (cutS s lo hi), false) else none
  | _ => none
theorem take_all {α : Type} (l : List α) : l.take l.length = l := List.take_of_length_le (Nat.le_refl _)
theorem sw_sl {H : Hp} {M : Addr → Prop} (hm : ∀ a, M a → H a ≠ none) {x : V} {d : D} {lo hi : Option Int} (rx : Vw K H M x d) {z : D} {fr : Bool} (q : gSl d lo hi = some (z, fr)) (Q : VK) (k : ∀ v H', Ex H H' → VOk K H H' M fr v z → Q v H') : rSlD K x lo hi H Q := by
  unfold gSl at q
  split at q
  · cases q
    obtain ⟨a, xs, rfl, h1, p1⟩ := rx.list
    exact .inl ⟨a, xs, rfl, h1, fun p hp => k _ _ (Ex.new hp) (VOk.new hp hm (.lst (cutL_pd p1)))⟩
  · cases q
    obtain ⟨a, xs, rfl, h1, p1⟩ := rx.tuple
    refine .inr (.inl ⟨a, xs, rfl, cut_le.sqT h1, fun w => ?_, fun _ p hp => k _ _ (Ex.new hp) (VOk.of (sqt_new hp hm (cutL_pd p1)))⟩)
    refine k _ H (Ex.refl H) (VOk.of ?_)
    have p2 := cutL_pd (lo := lo) (hi := hi) p1
    have e2 : cutV xs lo hi = xs := by
      unfold cutV
      rw [w.1, w.2, List.drop_zero, Nat.sub_zero, take_all]
    rw [e2] at p2
    exact .tup h1 p2
  · split at q
    · rename_i c
      cases q
      exact .inr (.inr ⟨_, rx.str_eq, lim_ok c, k _ H (Ex.refl H) (VOk.of (.str _))⟩)
    · cases q
  · cases q
abbrev OX := En → Option (Option Int × En)
def SO (K : PySem.W.Frag) (t : TO) (f : OX) : Prop := ∀ {B : Hp} {IO : List (Nat × Addr)} {X : Addr → Prop} {σ : St} {H : Hp} {cs : En}, Ok K B IO X σ H cs → ∀ {o : Option Int} {cs' : En}, f cs = some (o, cs') →
  ∀ Q : Option Int → Hp → Prop, (∀ H', Post K B IO X σ H cs σ H' cs' → Q o H') → t σ H Q
structure DO (X : Cx) (e : Option Expr) (t : TO) (f : OX) : Prop where
  po : PO X e t
  so : SO X.K t f
def evO0 : OX := fun cs => some (none, cs)
def evO1 (f : EX) : OX := fun cs => (f cs).bind fun r => match r.1 with
  | .int i => some (some i, r.2.2)
  | _ => none
theorem do_none : DO X none tNoPart evO0 := by
  refine ⟨po_none, ?_⟩
  intro B IO Z σ H cs ok o cs' e Q q
  cases e
  exact q H (Post.refl ok)
theorem do_some (h : DE X e te fe) : DO X (some e) (tPart te) (evO1 fe) := by
  refine ⟨po_some h.pe, ?_⟩
  intro B IO Z σ H cs ok o cs' e Q q
  unfold evO1 at e
  obtain ⟨⟨d1, f1, c1⟩, e1, e⟩ := Option.bind_eq_some_iff.mp e
  simp only at e
  split at e
  · cases e
    exact h.se ok e1 _ fun x H1 w1 => ⟨_, w1.rp.int_eq, q H1 w1.post⟩
  · cases e
def evSl (fe : EX) (fl fh : OX) : EX := fun cs => (fe cs).bind fun r => (fl r.2.2).bind fun s => (fh s.2).bind fun u => (gSl r.1 s.1 u.1).bind fun z => some (z.1, z.2, u.2)
def evSlV (i : Nat) (fl fh : OX) : EX := fun cs => (cont cs i).bind fun _ => (fl cs).bind fun s => (fh s.2).bind fun u => (cont u.2 i).bind fun d => (gSl d s.1 u.1).bind fun z => some (z.1, z.2, u.2)
variable {lo hi : Option Expr} {tl th : TO} {fl fh : OX} {p2 : Pos}
theorem de_sl (he : DE X e te fe) (hl : DO X lo tl fl) (hh : DO X hi th fh) : DE X (.Subscript e (.Slice lo hi none p2) pos) (tSl (rSlD X.K) te tl th) (evSl fe fl fh) := by
  refine ⟨pe_slice sl_D he.pe hl.po hh.po, ?_⟩
  intro B IO Z σ H cs ok d fr cs' e Q q
  unfold evSl at e
  obtain ⟨⟨d1, f1, c1⟩, e1, e⟩ := Option.bind_eq_some_iff.mp e
  obtain ⟨⟨o1, c2⟩, e2, e⟩ := Option.bind_eq_some_iff.mp e
  obtain ⟨⟨o2, c3⟩, e3, e⟩ := Option.bind_eq_some_iff.mp e
  obtain ⟨⟨z, fz⟩, e4, e⟩ := Option.bind_eq_some_iff.mp e
  cases e
  refine he.se ok e1 _ fun x H1 w1 => hl.so w1.post.ok e2 _ fun H2 p2 => hh.so p2.ok e3 _ fun H3 p3 => ?_
  refine sw_sl p3.ok.md (Vw.of_rp (w1.rp.mono (p2.le.trans p3.le))) e4 Q fun v H4 x4 v4 => ?_
  exact q v H4 (.of ((w1.post.trans p2).trans p3) x4 v4)
theorem de_slV (he : DE X (.Name x xpos) (tVar i) (evVar i)) (hl : DO X lo tl fl) (hh : DO X hi th fh) : DE X (.Subscript (.Name x xpos) (.Slice lo hi none p2) pos) (tSl (rSlD X.K) (tVar i) tl th) (evSlV i fl fh) := by
  refine ⟨pe_slice sl_D he.pe hl.po hh.po, ?_⟩
  intro B IO Z σ H cs ok d fr cs' e Q q
  unfold evSlV at e
  obtain ⟨d0, e0, e⟩ := Option.bind_eq_some_iff.mp e
  obtain ⟨⟨o1, c2⟩, e2, e⟩ := Option.bind_eq_some_iff.mp e
  obtain ⟨⟨o2, c3⟩, e3, e⟩ := Option.bind_eq_some_iff.mp e
  obtain ⟨d1, e1, e⟩ := Option.bind_eq_some_iff.mp e
  obtain ⟨⟨z, fz⟩, e4, e⟩ := Option.bind_eq_some_iff.mp e
  cases e
  obtain ⟨v, hv, _⟩ := ok.view e0
  refine ⟨v, hv, hl.so ok e2 _ fun H2 p2 => hh.so p2.ok e3 _ fun H3 p3 => ?_⟩
  obtain ⟨v', hv', w⟩ := p3.ok.view e1
  rw [hv] at hv'
  cases hv'
  refine sw_sl p3.ok.md w e4 Q fun u H4 x4 v4 => ?_
  exact q u H4 (.of (p2.trans p3) x4 v4)

/-! ### isinstance(e, T) -/
def evIsi (n : String) (f : EX) : EX := fun cs => (f cs).bind fun r => (kitB (tyD r.1) n).bind fun b => some (.bool b, false, r.2.2)
theorem de_isi {n : String} {T : Str} {tpos : Pos} (hg : Gl X "isinstance") (hm : X.mg "isinstance" = none) (hgT : Gl X T) (hmT : X.mg T = none) (hvT : bootBuiltins T = some (.type n)) (ha : DE X e te fe)
    (hn : T ≠ "__name__" := by decide) (hd : (T == ("__debug__" : Str)) = false := by decide) (hs : starEach (e :: [.Name T tpos]) X.env = (false, eval e X.env) :: starEach [.Name T tpos] X.env := by rfl) :
    DE X (.Call (.Name "isinstance" fpos) [e, .Name T tpos] [] cpos) (tCB (rIsi X.K) (tCons te (tCons (tC (.ty n)) tNil))) (evIsi n fe) := by
  refine ⟨pe_callB call_isi hg hm (by decide +kernel) (pa_cons ha.pe (pa_cons (pe_bltn hgT hmT hvT (v := .ty n) rfl hn hd) pa_nil) hs) (he := hs), ?_⟩
  intro B IO Z σ H cs ok d fr cs' e Q q
  unfold evIsi at e
  obtain ⟨⟨d1, f1, c1⟩, e1, e⟩ := Option.bind_eq_some_iff.mp e
  obtain ⟨b, e2, e⟩ := Option.bind_eq_some_iff.mp e
  cases e
  refine ha.se ok e1 _ fun x H1 w1 => ?_
  exact ⟨x, .ty n, _, _, b, rfl, .ty n, tyx_of w1.rp cut_le, kit_ty e2, q _ H1 (.dat w1.post (.bl b))⟩
def evIsiV (n : String) (i : Nat) : EX := fun cs => (cont cs i).bind fun d => (kitB (tyD d) n).bind fun b => some (.bool b, false, cs)
theorem de_isiV {n : String} {T : Str} {tpos : Pos} (hg : Gl X "isinstance") (hm : X.mg "isinstance" = none) (hgT : Gl X T) (hmT : X.mg T = none) (hvT : bootBuiltins T = some (.type n)) (ha : DE X (.Name x xpos) (tVar i) (evVar i))
    (hn : T ≠ "__name__" := by decide) (hd : (T == ("__debug__" : Str)) = false := by decide) :
    DE X (.Call (.Name "isinstance" fpos) [.Name x xpos, .Name T tpos] [] cpos) (tCB (rIsi X.K) (tCons (tVar i) (tCons (tC (.ty n)) tNil))) (evIsiV n i) := by
  refine ⟨pe_callB call_isi hg hm (by decide +kernel) (pa_cons ha.pe (pa_cons (pe_bltn hgT hmT hvT (v := .ty n) rfl hn hd) pa_nil)), ?_⟩
  intro B IO Z σ H cs ok d fr cs' e Q q
  unfold evIsiV at e
  obtain ⟨d1, e1, e⟩ := Option.bind_eq_some_iff.mp e
  obtain ⟨b, e2, e⟩ := Option.bind_eq_some_iff.mp e
  cases e
  obtain ⟨v, hv, w⟩ := ok.view e1
  exact ⟨v, hv, v, .ty n, _, _, b, rfl, .ty n, tyx_of w.rpH (Le.refl H), kit_ty e2, q _ H (.dat (Post.refl ok) (.bl b))⟩
end
end Qp
end
section
set_option Elab.async false
set_option linter.all false
set_option maxRecDepth 100000
set_option maxHeartbeats 2000000
/-! Qf: statements. -/
namespace Qp
open PySem PySem.Spec PyProof.Rows L2
inductive Res where
  | nx (cs : En) | rt (d : D) (fr : Bool) (cs : En) | bk (cs : En) | ct (cs : En)
abbrev SX := En → Option Res
def DnOk (K : PySem.W.Frag) (B : Hp) (IO : List (Nat × Addr)) (X : Addr → Prop) (σ : St) (H : Hp) (cs : En) (r : Res) (Dn : Ends) : Prop := match r with
  | .nx c => ∀ σ' H', Post K B IO X σ H cs σ' H' c → Dn.nx σ' H'
  | .rt d fr c => ∀ v σ' H', Pe K B IO X σ H cs σ' H' c fr v d → Dn.rt v H'
  | .bk c => ∀ σ' H', Post K B IO X σ H cs σ' H' c → Dn.bk σ' H'
  | .ct c => ∀ σ' H', Post K B IO X σ H cs σ' H' c → Dn.ct σ' H'
def SS (K : PySem.W.Frag) (t : TS) (g : SX) : Prop := ∀ {B : Hp} {IO : List (Nat × Addr)} {X : Addr → Prop} {σ : St} {H : Hp} {cs : En}, Ok K B IO X σ H cs → ∀ {r : Res}, g cs = some r → ∀ Dn : Ends, DnOk K B IO X σ H cs r Dn → t Dn σ H
structure DS (X : Cx) (st : Stmt) (t : TS) (g : SX) : Prop where
  ps : PS X st t
  ss : SS X.K t g
structure DB (X : Cx) (sts : List Stmt) (t : TS) (g : SX) : Prop where
  pss : PSs X sts t
  ss : SS X.K t g
section
variable {K : PySem.W.Frag} {B : Hp} {IO : List (Nat × Addr)} {Z Y : Addr → Prop} {σ σ' : St} {H H' : Hp} {cs cs' c1 : En}
theorem DnOk.pre {r : Res} {Dn : Ends} (p : Post K B IO Z σ H cs σ' H' cs') (h : DnOk K B IO Z σ H cs r Dn) : DnOk K B IO Z σ' H' cs' r Dn := by
  cases r with
  | nx c => exact fun s h' q => h s h' (p.trans q)
  | rt d fr c => exact fun v s h' q => h v s h' (q.pre p)
  | bk c => exact fun s h' q => h s h' (p.trans q)
  | ct c => exact fun s h' q => h s h' (p.trans q)
def isDat : Cell → Bool
  | .dat _ => true
  | .no => true
  | _ => false
/-- a cell is written -/
theorem Ok.setCell {i : Nat} {cell : Cell} {v : V} (ok : Ok K B IO Y σ H c1) (hZY : ∀ a, Z a → Y a) (hi : i < c1.length) (hio : ∀ d', c1[i]? ≠ some (.io d'))
    (hc : (∃ d, cell = .dat d ∧ Rp K (cut H (Md σ c1 Y)) v d) ∨ ∃ d p, cell = .own d ∧ v = .ref p ∧ Y p ∧ ¬ Z p ∧ B p = none ∧ OwnAt K (cut H (Md σ c1 Y)) (H p) d) :
    Ok K B IO Z (σ.set i (some v)) H (c1.set i cell) ∧ Le (cut H (Md σ c1 Y)) (cut H (Md (σ.set i (some v)) (c1.set i cell) Z)) := by
  have hiσ : i < σ.length := by rw [ok.len]; exact hi
  have os : ∀ j b, OwnS (σ.set i (some v)) (c1.set i cell) j b → (i ≠ j ∧ OwnS σ c1 j b) ∨ (i = j ∧ v = .ref b ∧ Y b ∧ ¬ Z b ∧ B b = none ∧ ∃ d, cell = .own d) := by
    intro j b ⟨q1, d', q2⟩
    by_cases e : i = j
    · subst e
      rw [List.getElem?_set_self hiσ] at q1
      have ev : v = .ref b := Option.some.inj (Option.some.inj q1)
      rw [List.getElem?_set_self hi] at q2
      rcases hc with ⟨d, rfl, _⟩ | ⟨d, p, rfl, e2, y, z, bb, _⟩
      · rcases q2 with q2 | q2 <;> cases q2
      · rw [ev] at e2
        cases e2
        exact .inr ⟨rfl, ev, y, z, bb, d, rfl⟩
    · rw [List.getElem?_set_ne e] at q1
      rw [List.getElem?_set_ne e] at q2
      exact .inl ⟨e, q1, d', q2⟩
  have sub : ∀ b, Md (σ.set i (some v)) (c1.set i cell) Z b → Md σ c1 Y b := fun b m => by
    rcases m with m | ⟨j, q⟩
    · exact .inl (hZY b m)
    · rcases os j b q with ⟨_, z⟩ | ⟨_, _, y, _⟩
      · exact .inr ⟨j, z⟩
      · exact .inl y
  have hle : Le (cut H (Md σ c1 Y)) (cut H (Md (σ.set i (some v)) (c1.set i cell) Z)) := le_cut fun b o q m => ⟨q, fun z => m (sub b z)⟩
  refine ⟨⟨by rw [List.length_set, List.length_set]; exact ok.len, fun j d' q => ?_, fun j d' q => ?_, fun j k b q r => ?_, fun j b q z => ?_, fun a z => ok.xin a (hZY a z), fun j b d' q r => ?_, fun j d' q => ?_, fun j b q => ?_, ok.base, ok.dom⟩, hle⟩
  · rcases getset q with ⟨z, z'⟩ | ⟨z, z'⟩
    · subst z
      rcases hc with ⟨d, e, r⟩ | ⟨d, p, e, _⟩
      · rw [e] at z'
        cases z'
        exact ⟨v, List.getElem?_set_self hiσ, r.mono hle⟩
      · rw [e] at z'; cases z'
    · obtain ⟨u, r1, r2⟩ := ok.dat j d' z'
      exact ⟨u, by rw [List.getElem?_set_ne z]; exact r1, r2.mono hle⟩
  · have q' : (i = j ∧ cell = .own d') ∨ (i ≠ j ∧ (c1[j]? = some (.own d') ∨ c1[j]? = some (.io d'))) := by
      rcases q with q | q
      · rcases getset q with ⟨z, z'⟩ | ⟨z, z'⟩
        · exact .inl ⟨z, z'⟩
        · exact .inr ⟨z, .inl z'⟩
      · rcases getset q with ⟨z, z'⟩ | ⟨z, z'⟩
        · rcases hc with ⟨d, e, _⟩ | ⟨d, p, e, _⟩ <;> (rw [e] at z'; cases z')
        · exact .inr ⟨z, .inr z'⟩
    rcases q' with ⟨z, z'⟩ | ⟨z, z'⟩
    · subst z
      rcases hc with ⟨d, e, _⟩ | ⟨d, p, e, e2, _, _, _, o⟩
      · rw [e] at z'; cases z'
      · rw [e] at z'
        cases z'
        exact ⟨p, by rw [e2]; exact List.getElem?_set_self hiσ, o.mono hle⟩
    · obtain ⟨b, r1, r2⟩ := ok.own j d' z'
      exact ⟨b, by rw [List.getElem?_set_ne z]; exact r1, r2.mono hle⟩
  · rcases os j b q with ⟨n1, z1⟩ | ⟨e1, _, y1, _⟩
    · rcases os k b r with ⟨n2, z2⟩ | ⟨e2, _, y2, _⟩
      · exact ok.inj j k b z1 z2
      · exact absurd y2 (ok.dis j b z1)
    · rcases os k b r with ⟨n2, z2⟩ | ⟨e2, _, y2, _⟩
      · exact absurd y1 (ok.dis k b z2)
      · exact e1.symm.trans e2
  · rcases os j b q with ⟨_, z1⟩ | ⟨_, _, _, z1, _⟩
    · exact ok.dis j b z1 (hZY b z)
    · exact z1 z
  · rcases os j b ⟨q, d', .inl r⟩ with ⟨n1, z1⟩ | ⟨_, _, _, _, z1, _⟩
    · rw [List.getElem?_set_ne n1] at q r
      exact ok.new j b d' q r
    · exact z1
  · rcases getset q with ⟨_, z⟩ | ⟨z, z'⟩
    · rcases hc with ⟨d, e, _⟩ | ⟨d, p, e, _⟩ <;> (rw [e] at z; cases z)
    · obtain ⟨b, r1, r2⟩ := ok.io j d' z'
      exact ⟨b, r1, by rw [List.getElem?_set_ne z]; exact r2⟩
  · obtain ⟨d', r1, r2⟩ := ok.ios j b q
    have z : i ≠ j := fun z => by
      subst z
      exact hio d' r1
    exact ⟨d', by rw [List.getElem?_set_ne z]; exact r1, by rw [List.getElem?_set_ne z]; exact r2⟩
def noIo (cs : En) (i : Nat) : Bool := match cs[i]? with
  | some (.io _) => false
  | some _ => true
  | none => false
theorem noIo_lt {i : Nat} (h : noIo cs i = true) : i < cs.length ∧ ∀ d, cs[i]? ≠ some (.io d) := by
  unfold noIo at h
  split at h
  · cases h
  · rename_i c e hne
    exact ⟨(List.getElem?_eq_some_iff.mp hne).1, fun d z => e d (by rw [hne] at z; exact Option.some.inj z)⟩
  · cases h
def cellOf (fr : Bool) (d : D) : Cell := if fr = true then .own d else .dat d
/-- name = value -/
theorem Pe.asg {i : Nat} {v : V} {d : D} {fr : Bool} (ok0 : Ok K B IO Z σ H cs) (w : Pe K B IO Z σ H cs σ H' c1 fr v d) (hn : noIo c1 i = true) : Post K B IO Z σ H cs (σ.set i (some v)) H' (c1.set i (cellOf fr d)) := by
  obtain ⟨hi, hio⟩ := noIo_lt hn
  unfold Pe at w
  unfold cellOf
  cases fr with
  | false =>
    obtain ⟨p, r⟩ := w
    obtain ⟨o, l⟩ := p.ok.setCell (Z := Z) (cell := .dat d) (v := v) (fun _ h => h) hi hio (.inl ⟨d, rfl, r⟩)
    exact ⟨o, p.le.trans l, p.keep, p.dom⟩
  | true =>
    obtain ⟨p, rfl, hp, q, ow⟩ := w
    have hB : B p = none := by
      cases z : B p with
      | none => rfl
      | some o => exact absurd hp (ok0.dom p (by rw [z]; exact fun z => nomatch z))
    obtain ⟨o, l⟩ := q.ok.setCell (Z := Z) (cell := .own d) (v := .ref p) (fun a h => .inl h) hi hio (.inr ⟨d, p, rfl, rfl, .inr rfl, q.np, hB, ow⟩)
    exact ⟨o, q.le.trans l, q.keep, q.dom⟩
/-- an owned thing is changed: kept = its kind of cell -/
theorem Ok.mutate {i : Nat} {a : Addr} {d d' : D} (ok : Ok K B IO Z σ H cs) (hs : σ[i]? = some (some (.ref a))) (hc : cs[i]? = some (.own d) ∨ cs[i]? = some (.io d)) (kept : ∀ b u, b ≠ a → H b = some u → H' b = some u) (hn : H' a ≠ none)
    (ow : OwnAt K (cut H' (Md σ cs Z)) (H' a) d') :
    Post K B IO Z σ H cs σ H' (cs.set i (match cs[i]? with | some (.io _) => .io d' | _ => .own d')) := by
  have hi : i < cs.length := by rcases hc with h | h <;> exact (List.getElem?_eq_some_iff.mp h).1
  have hown : OwnS σ cs i a := ⟨hs, d, hc⟩
  generalize ec : (match cs[i]? with | some (.io _) => Cell.io d' | _ => Cell.own d') = cell
  have hcell : (cs[i]? = some (.own d) ∧ cell = .own d') ∨ (cs[i]? = some (.io d) ∧ cell = .io d') := by
    rcases hc with h | h
    · rw [h] at ec; exact .inl ⟨h, ec.symm⟩
    · rw [h] at ec; exact .inr ⟨h, ec.symm⟩
  have os : ∀ j b, OwnS σ (cs.set i cell) j b ↔ OwnS σ cs j b := by
    intro j b
    by_cases e : i = j
    · subst e
      unfold OwnS
      rw [List.getElem?_set_self hi]
      constructor
      · rintro ⟨q1, _⟩
        exact ⟨q1, d, hc⟩
      · rintro ⟨q1, _⟩
        rcases hcell with ⟨_, h⟩ | ⟨_, h⟩
        · exact ⟨q1, d', .inl (by rw [h])⟩
        · exact ⟨q1, d', .inr (by rw [h])⟩
    · unfold OwnS
      rw [List.getElem?_set_ne e]
  have mde : Md σ (cs.set i cell) Z = Md σ cs Z := by
    funext b
    unfold Md
    exact propext ⟨fun h => h.imp id fun ⟨j, q⟩ => ⟨j, (os j b).mp q⟩, fun h => h.imp id fun ⟨j, q⟩ => ⟨j, (os j b).mpr q⟩⟩
  have ma : Md σ cs Z a := .inr ⟨i, hown⟩
  have hle : Le (cut H (Md σ cs Z)) (cut H' (Md σ cs Z)) := le_cut fun b u e m => ⟨kept b u (fun z => m (by rw [z]; exact ma)) e, m⟩
  have same : ∀ b, b ≠ a → H b ≠ none → H' b = H b := fun b ne h => by
    cases e : H b with
    | none => exact absurd e h
    | some u => exact kept b u ne e
  have dm : ∀ b, H b ≠ none → H' b ≠ none := fun b h => by
    by_cases e : b = a
    · rw [e]; exact hn
    · rw [same b e h]; exact h
  refine ⟨⟨by rw [List.length_set]; exact ok.len, fun j e q => ?_, fun j e q => ?_, fun j k b q r => ok.inj j k b ((os j b).mp q) ((os k b).mp r), fun j b q => ok.dis j b ((os j b).mp q), fun b z => dm b (ok.xin b z), fun j b e q r => ?_, fun j e q => ?_, fun j b q => ?_, fun b u h e => ?_, fun b h => dm b (ok.dom b h)⟩, ?_, fun b z => ?_, dm⟩
  · rw [mde]
    rcases getset q with ⟨z, z'⟩ | ⟨z, z'⟩
    · rcases hcell with ⟨_, h⟩ | ⟨_, h⟩ <;> (rw [h] at z'; cases z')
    · obtain ⟨u, r1, r2⟩ := ok.dat j e z'
      exact ⟨u, r1, r2.mono hle⟩
  · rw [mde]
    by_cases z : i = j
    · subst z
      rw [List.getElem?_set_self hi] at q
      refine ⟨a, hs, ?_⟩
      rcases hcell with ⟨_, h⟩ | ⟨_, h⟩
      · rw [h] at q
        rcases q with q | q
        · cases q; exact ow
        · cases q
      · rw [h] at q
        rcases q with q | q
        · cases q
        · cases q; exact ow
    · rw [List.getElem?_set_ne z] at q
      obtain ⟨b, r1, r2⟩ := ok.own j e q
      have nb : b ≠ a := fun y => by
        subst y
        exact z (ok.inj i j b hown ⟨r1, e, q⟩)
      refine ⟨b, r1, ?_⟩
      rw [same b nb r2.some]
      exact r2.mono hle
  · rcases getset r with ⟨z, z'⟩ | ⟨z, z'⟩
    · subst z
      rcases hcell with ⟨h0, h⟩ | ⟨_, h⟩
      · exact ok.new i b d q h0
      · rw [h] at z'; cases z'
    · exact ok.new j b e q z'
  · rcases getset q with ⟨z, z'⟩ | ⟨z, z'⟩
    · subst z
      rcases hcell with ⟨_, h⟩ | ⟨h0, h⟩
      · rw [h] at z'; cases z'
      · exact ok.io i d h0
    · exact ok.io j e z'
  · obtain ⟨e, r1, r2⟩ := ok.ios j b q
    by_cases z : i = j
    · subst z
      rcases hcell with ⟨h0, _⟩ | ⟨_, h⟩
      · rw [h0] at r1; cases r1
      · exact ⟨d', by rw [List.getElem?_set_self hi, h], r2⟩
    · exact ⟨e, by rw [List.getElem?_set_ne z]; exact r1, r2⟩
  · refine kept b u (fun y => ?_) (ok.base b u h e)
    subst y
    rcases hc with h0 | h0
    · rw [ok.new i b d hs h0] at e; cases e
    · obtain ⟨c, r1, r2⟩ := ok.io i d h0
      rw [hs] at r2
      cases r2
      exact h i r1
  · rw [mde]; exact hle
  · exact same b (fun y => ok.dis i a hown (by rw [← y]; exact z)) (ok.xin b z)
end
end Qp
end
section
set_option Elab.async false
set_option linter.all false
set_option maxRecDepth 100000
set_option maxHeartbeats 2000000
/-! Qg: statements and loops of the text. -/
namespace Qp
open PySem PySem.Spec PyProof.Rows L2
section
variable {X : Cx} {st : Stmt} {rest : List Stmt} {t u : TS} {g h : SX} {e : Expr} {te : TE} {fe : EX} {pos : Pos} {K : PySem.W.Frag}
/-! ### blocks -/
def sNx : SX := fun cs => some (.nx cs)
def sSeq (g h : SX) : SX := fun cs => (g cs).bind fun r => match r with
  | .nx c => h c
  | r => some r
theorem ss_nx : SS K tNext sNx := by
  intro B IO Z σ H cs ok r e Dn q
  cases e
  exact q σ H (Post.refl ok)
theorem db_nil : DB X [] tNext sNx := ⟨pss_nil, ss_nx⟩
theorem ds_pass : DS X (.Pass pos) tNext sNx := ⟨ps_pass, ss_nx⟩
theorem ds_doc {x j pos'} : DS X (.Expr (.Constant (.str x) j pos) pos') tNext sNx := ⟨ps_doc, ss_nx⟩
theorem db_cons (h1 : DS X st t g) (h2 : DB X rest u h) : DB X (st :: rest) (tSeq t u) (sSeq g h) := by
  refine ⟨pss_cons h1.ps h2.pss, ?_⟩
  intro B IO Z σ H cs ok r e Dn q
  unfold sSeq at e
  obtain ⟨r1, e1, e⟩ := Option.bind_eq_some_iff.mp e
  refine h1.ss ok e1 _ ?_
  cases r1 with
  | nx c => exact fun σ' H' p => h2.ss p.ok e Dn (q.pre p)
  | rt d fr c => cases e; exact q
  | bk c => cases e; exact q
  | ct c => cases e; exact q
theorem db_one (h1 : DS X st t g) : DB X [st] t g := ⟨pss_one h1.ps, h1.ss⟩
def sBk : SX := fun cs => some (.bk cs)
def sCt : SX := fun cs => some (.ct cs)
theorem ds_break : DS X (.Break pos) tBreak sBk := by
  refine ⟨ps_break, ?_⟩
  intro B IO Z σ H cs ok r e Dn q
  cases e
  exact q σ H (Post.refl ok)
theorem ds_continue : DS X (.Continue pos) tCont sCt := by
  refine ⟨ps_continue, ?_⟩
  intro B IO Z σ H cs ok r e Dn q
  cases e
  exact q σ H (Post.refl ok)
/-! ### expressions as statements, return, if -/
def sDrop (f : EX) : SX := fun cs => (f cs).bind fun r => some (.nx r.2.2)
theorem ds_expr (he : DE X e te fe) (hs : swapsWith e none pos.line X.env = pure false := by rfl) : DS X (.Expr e pos) (tDrop te) (sDrop fe) := by
  refine ⟨ps_expr he.pe hs, ?_⟩
  intro B IO Z σ H cs ok r e Dn q
  unfold sDrop at e
  obtain ⟨⟨d1, f1, c1⟩, e1, e⟩ := Option.bind_eq_some_iff.mp e
  cases e
  exact he.se ok e1 _ fun v H1 w => q σ H1 w.post
def sRet (f : EX) : SX := fun cs => (f cs).bind fun r => some (.rt r.1 r.2.1 r.2.2)
theorem ds_ret (he : DE X e te fe) : DS X (.Return (some e) pos) (tRet te) (sRet fe) := by
  refine ⟨ps_ret he.pe, ?_⟩
  intro B IO Z σ H cs ok r e Dn q
  unfold sRet at e
  obtain ⟨⟨d1, f1, c1⟩, e1, e⟩ := Option.bind_eq_some_iff.mp e
  cases e
  exact he.se ok e1 _ fun v H1 w => q v σ H1 w
def sRetN : SX := fun cs => some (.rt .none false cs)
theorem ds_retN : DS X (.Return none pos) tRetN sRetN := by
  refine ⟨ps_retN, ?_⟩
  intro B IO Z σ H cs ok r e Dn q
  cases e
  exact q _ σ H (.dat (Post.refl ok) .non)
def sIf (t : TX) (g h : SX) : SX := fun cs => (t cs).bind fun r => if r.1 = true then g r.2 else h r.2
variable {c : Expr} {a b : List Stmt} {tc : TT} {fc : TX}
theorem ds_if (hc : DT X c tc fc) (ha : DB X a t g) (hb : DB X b u h) : DS X (.If c a b pos) (tIfS tc t u) (sIf fc g h) := by
  refine ⟨ps_if hc.pt ha.pss hb.pss, ?_⟩
  intro B IO Z σ H cs ok r e Dn q
  unfold sIf at e
  obtain ⟨⟨b1, c1⟩, e1, e⟩ := Option.bind_eq_some_iff.mp e
  refine hc.st ok e1 _ fun H1 p1 => ?_
  cases b1 with
  | true => exact iteT (ha.ss p1.ok e Dn (q.pre p1))
  | false => exact iteF (hb.ss p1.ok e Dn (q.pre p1))
/-! ### stores -/
def sAsg (i : Nat) (f : EX) : SX := fun cs => (f cs).bind fun r => if noIo r.2.2 i = true then some (.nx (r.2.2.set i (cellOf r.2.1 r.1))) else none
theorem ss_asg {i : Nat} (h : SE K te fe) : SS K (tAsg te (gName i)) (sAsg i fe) := by
  intro B IO Z σ H cs ok r e Dn q
  unfold sAsg at e
  obtain ⟨⟨d1, f1, c1⟩, e1, e⟩ := Option.bind_eq_some_iff.mp e
  simp only at e
  split at e
  · rename_i hn
    cases e
    exact h ok e1 _ fun v H1 w => q _ H1 (w.asg ok hn)
  · cases e
theorem ds_asg {i : Nat} {x : Str} {xpos : Pos} (hN : X.N.Nodup) (hi : X.N[i]? = some x) (hx : Loc X.env.scope x) (he : DE X e te fe) (hf : X.fn x = true ∨ X.env.scope.names.lookup x = some .local := by first | exact .inl rfl | exact .inr rfl | assumption)
    (hs : swapsWithSole [.Name x xpos] e pos.line X.env = pure false := by rfl) (hw : swappedStores [.Name x xpos] e X.env = pure none := by rfl)
    (h1 : (assignEach [.Name x xpos] X.env).map (·.2) = [assign (.Name x xpos) X.env] := by rfl) : DS X (.Assign [.Name x xpos] e pos) (tAsg te (gName i)) (sAsg i fe) :=
  ⟨ps_asg he.pe (pg_name hN hi hx hf) hs hw h1, ss_asg he.se⟩
/-- x op= e -/
def sAug (g : G2) (i : Nat) (f : EX) : SX := fun cs => match cs[i]? with
  | some (.dat d) => (f cs).bind fun r => (g d r.1).bind fun z => if noIo r.2.2 i = true then some (.nx (r.2.2.set i (cellOf z.2 z.1))) else none
  | _ => none
theorem ds_aug {i : Nat} {x : Str} {op : Operator} {ti : TIp} {gg : G2} {pos' : Pos} (hN : X.N.Nodup) (hi : X.N[i]? = some x) (hx : Loc X.env.scope x) (ho : PIp X op ti) (hr : SR2 X.K ti gg) (he : DE X e te fe)
    (hf : X.fn x = true ∨ X.env.scope.names.lookup x = some .local := by first | exact .inl rfl | exact .inr rfl | assumption) : DS X (.AugAssign (.Name x pos') op e pos) (tAug i te ti) (sAug gg i fe) := by
  refine ⟨ps_aug hN hi hx he.pe ho hf, ?_⟩
  intro B IO Z σ H cs ok r e Dn q
  unfold sAug at e
  split at e
  · rename_i d hd
    obtain ⟨⟨d1, f1, c1⟩, e1, e⟩ := Option.bind_eq_some_iff.mp e
    obtain ⟨⟨z, fz⟩, e2, e⟩ := Option.bind_eq_some_iff.mp e
    simp only at e
    split at e
    · rename_i hn
      cases e
      obtain ⟨v, hv, rv⟩ := ok.dat i d hd
      refine ⟨v, hv, he.se ok e1 _ fun y H1 w => ?_⟩
      refine hr w.post.ok.md (rv.mono w.post.le) w.rp e2 _ fun u H2 x2 w2 => ?_
      exact q _ H2 ((Pe.of w.post x2 w2).asg ok hn)
    · cases e
  · cases e
/-! ### an owned list is changed -/
def upL (cs : En) (i : Nat) (f : D → Option D) : Option En := match cs[i]? with
  | some (.own d) => (f d).bind fun d' => some (cs.set i (.own d'))
  | some (.io d) => (f d).bind fun d' => some (cs.set i (.io d'))
  | _ => none
theorem Ok.upL {B : Hp} {IO : List (Nat × Addr)} {Z : Addr → Prop} {σ : St} {H : Hp} {cs cs' : En} {i : Nat} {f : D → Option D} (ok : Ok K B IO Z σ H cs) (e : upL cs i f = some cs') :
    ∃ a d d', σ[i]? = some (some (.ref a)) ∧ f d = some d' ∧ OwnAt K (cut H (Md σ cs Z)) (H a) d ∧ ∀ H', (∀ b u, b ≠ a → H b = some u → H' b = some u) → OwnAt K (cut H' (Md σ cs Z)) (H' a) d' → Post K B IO Z σ H cs σ H' cs' := by
  unfold Qp.upL at e
  split at e
  · rename_i d hd
    obtain ⟨d', e1, e⟩ := Option.bind_eq_some_iff.mp e
    cases e
    obtain ⟨a, h1, h2⟩ := ok.own i d (.inl hd)
    refine ⟨a, d, d', h1, e1, h2, fun H' k ow => ?_⟩
    have p := ok.mutate h1 (.inl hd) k ow.some ow
    rw [hd] at p
    exact p
  · rename_i d hd
    obtain ⟨d', e1, e⟩ := Option.bind_eq_some_iff.mp e
    cases e
    obtain ⟨a, h1, h2⟩ := ok.own i d (.inr hd)
    refine ⟨a, d, d', h1, e1, h2, fun H' k ow => ?_⟩
    have p := ok.mutate h1 (.inr hd) k ow.some ow
    rw [hd] at p
    exact p
  · cases e
theorem upd_kept {H : Hp} {a : Addr} {o : HO} : ∀ b u, b ≠ a → H b = some u → upd H a o b = some u := fun b u ne e => by rw [upd_ne ne]; exact e
theorem cut_upd {H : Hp} {M : Addr → Prop} {a : Addr} {o : HO} (m : M a) : Le (cut H M) (cut (upd H a o) M) := le_cut fun b u e n => ⟨upd_kept b u (fun z => n (by rw [z]; exact m)) e, n⟩
theorem OwnAt.list {F : Hp} {o : Option HO} {ds : List D} (h : OwnAt K F o (.list ds)) : ∃ xs, o = Option.some (.lst xs) ∧ Paired (Rp K F) xs ds := by
  cases h with
  | lst p => exact ⟨_, rfl, p⟩
def fApp (d : D) : D → Option D
  | .list ds => if ds.length < LIM then some (.list (ds ++ [d])) else none
  | _ => none
def isOwnL (cs : En) (i : Nat) : Bool := match cs[i]? with
  | some (.own (.list _)) => true
  | some (.io (.list _)) => true
  | _ => false
theorem Ok.ownL {B : Hp} {IO : List (Nat × Addr)} {Z : Addr → Prop} {σ : St} {H : Hp} {cs : En} {i : Nat} (ok : Ok K B IO Z σ H cs) (h : isOwnL cs i = true) : ∃ a xs, σ[i]? = some (some (.ref a)) ∧ H a = some (.lst xs) ∧ Md σ cs Z a := by
  unfold isOwnL at h
  split at h
  · rename_i ds hd
    obtain ⟨a, h1, h2⟩ := ok.own i _ (.inl hd)
    obtain ⟨xs, h3, _⟩ := h2.list
    exact ⟨a, xs, h1, h3, .inr ⟨i, h1, _, .inl hd⟩⟩
  · rename_i ds hd
    obtain ⟨a, h1, h2⟩ := ok.own i _ (.inr hd)
    obtain ⟨xs, h3, _⟩ := h2.list
    exact ⟨a, xs, h1, h3, .inr ⟨i, h1, _, .inr hd⟩⟩
  · cases h
theorem ok_md {Z : Addr → Prop} {σ : St} {cs cs' : En} {i : Nat} {f : D → Option D} (e : upL cs i f = some cs') {a : Addr} (h : σ[i]? = some (some (.ref a))) : Md σ cs Z a := by
  unfold upL at e
  split at e
  · rename_i d hd
    exact .inr ⟨i, h, d, .inl hd⟩
  · rename_i d hd
    exact .inr ⟨i, h, d, .inr hd⟩
  · cases e
/-- the value of a method's call is dropped, or given on: None -/
def evApp (i : Nat) (f : EX) : EX := fun cs => if isOwnL cs i = true then (f cs).bind fun r => (upL r.2.2 i (fApp r.1)).bind fun c => some (.none, false, c) else none
theorem se_app {i : Nat} (he : SE K te fe) : SE K (tBM K "list" rAppend (tVar i) (tCons te tNil)) (evApp i fe) := by
  intro B IO Z σ H cs ok d fr cs' e Q q
  unfold evApp at e
  split at e
  · rename_i ho
    obtain ⟨⟨d1, f1, c1⟩, e1, e⟩ := Option.bind_eq_some_iff.mp e
    obtain ⟨c2, e2, e⟩ := Option.bind_eq_some_iff.mp e
    cases e
    obtain ⟨a, xs, hs, hx, _⟩ := ok.ownL ho
    refine ⟨_, hs, .inl ⟨rfl, xs, SqL.of hx⟩, he ok e1 _ fun y H1 w => ?_⟩
    obtain ⟨a', d, d', h1, h2, h3, k⟩ := w.post.ok.upL e2
    rw [hs] at h1
    cases h1
    have m := ok_md (Z := Z) e2 hs
    unfold fApp at h2
    split at h2
    · split at h2
      · rename_i hl
        cases h2
        obtain ⟨ys, h4, h5⟩ := h3.list
        refine ⟨a, ys, y, rfl, rfl, h4, by rw [Pd.len h5]; exact lim_lt hl, ?_⟩
        refine q _ _ (.dat (w.post.trans (k _ upd_kept ?_)) .non)
        rw [upd_same]
        exact .lst (Rp.monoA (cut_upd m) (Pd.append h5 (.cons w.rp .nil)))
      · cases h2
    · cases h2
  · cases e
theorem de_app {i : Nat} {x : Str} {xpos apos : Pos} (hv : DE X (.Name x xpos) (tVar i) (evVar i)) (he : DE X e te fe)
    (hbase : attributeBase (.Name x xpos) "append" X.env (eval (.Name x xpos) X.env) = eval (.Name x xpos) X.env := by rfl)
    (hfew : ((backTo pos (starEach [e] X.env)).all (fun x => !x.1) && (backToKw pos (keywordEach [] X.env)).all (fun x => x.1.isSome)
      && decide ([e].length + ([] : List Keyword).length + (if ([] : List Keyword).isEmpty then 0 else 1) < 30)) = true := by rfl)
    (hline : (apos.endLine == pos.line) = true := by rfl) (hs : starEach [e] X.env = (false, eval e X.env) :: starEach [] X.env := by rfl) (hplain : (backTo pos (starEach [] X.env)).any (·.1) = false := by rfl) :
    DE X (.Call (.Attribute (.Name x xpos) "append" apos) [e] [] pos) (tBM X.K "list" rAppend (tVar i) (tCons te tNil)) (evApp i fe) :=
  ⟨pe_bm PySem.F.plainAttrs_list PySem.F.slot_list_append PySem.F.type_list_append mt_append hv.pe (pa_cons he.pe pa_nil hs) hbase hfew hline hs hplain, se_app he.se⟩
/-- x[k] = e -/
def fSet (k d : D) : D → Option D
  | .list ds => match k with
    | .int k => (ixN ds.length k).bind fun j => some (.list (ds.set j d))
    | _ => none
  | _ => none
variable {ei : Expr} {ti : TE} {fi : EX}
def sSet (i : Nat) (fi fe : EX) : SX := fun cs => (fe cs).bind fun r => if isOwnL r.2.2 i = true then (fi r.2.2).bind fun s => (upL s.2.2 i (fSet s.1 r.1)).bind fun c => some (.nx c) else none
theorem ds_set {i : Nat} {x : Str} {xpos spos : Pos} (hv : DE X (.Name x xpos) (tVar i) (evVar i)) (hi : DE X ei ti fi) (he : DE X e te fe)
    (ha : ∀ v, assign (.Subscript (.Name x xpos) ei spos) X.env v = (do
      let ov ← holding [v] (eval (.Name x xpos) X.env)
      let iv ← holding [v, ov] (eval ei X.env)
      standAt spos
      holding [v, ov, iv] (setItem ov iv v)
      release [v, ov, iv] []) := by intro _; rfl)
    (hs : swapsWithSole [.Subscript (.Name x xpos) ei spos] e pos.line X.env = pure false := by rfl) (hw : swappedStores [.Subscript (.Name x xpos) ei spos] e X.env = pure none := by rfl)
    (h1 : (assignEach [.Subscript (.Name x xpos) ei spos] X.env).map (·.2) = [assign (.Subscript (.Name x xpos) ei spos) X.env] := by rfl) :
    DS X (.Assign [.Subscript (.Name x xpos) ei spos] e pos) (tAsg te (gSub (tVar i) ti rSetL)) (sSet i fi fe) := by
  refine ⟨ps_asg he.pe (pg_sub hv.pe hi.pe set_list ha) hs hw h1, ?_⟩
  intro B IO Z σ H cs ok r e Dn q
  unfold sSet at e
  obtain ⟨⟨d1, f1, c1⟩, e1, e⟩ := Option.bind_eq_some_iff.mp e
  simp only at e
  split at e
  · rename_i ho
    obtain ⟨⟨d2, f2, c2⟩, e2, e⟩ := Option.bind_eq_some_iff.mp e
    obtain ⟨c3, e3, e⟩ := Option.bind_eq_some_iff.mp e
    cases e
    refine he.se ok e1 _ fun y H1 w1 => ?_
    obtain ⟨a, xs, hs, hx, _⟩ := w1.post.ok.ownL ho
    refine ⟨_, hs, hi.se w1.post.ok e2 _ fun z H2 w2 => ?_⟩
    obtain ⟨a', d, d', h1, h2, h3, k⟩ := w2.post.ok.upL e3
    rw [hs] at h1
    cases h1
    have m := ok_md (Z := Z) e3 hs
    unfold fSet at h2
    dsimp only at h2
    split at h2
    · split at h2
      · obtain ⟨j, hj, h2⟩ := Option.bind_eq_some_iff.mp h2
        cases h2
        obtain ⟨ys, h4, h5⟩ := h3.list
        refine ⟨a, ys, _, j, rfl, w2.rp.int_eq, h4, by rw [Pd.len h5]; exact hj, ?_⟩
        refine q _ _ ((w1.post.trans w2.post).trans (k _ upd_kept ?_))
        rw [upd_same]
        exact .lst (Rp.monoA (cut_upd m) (Pd.set (w1.rp.mono w2.post.le) j h5))
      · cases h2
    · cases h2
  · cases e
/-- x[k] op= e -/
def rGetL (K : PySem.W.Frag) : V → V → Hp → VK → Prop := fun o i H Q => ∃ p xs k v, o = .ref p ∧ i = .int k ∧ SqL K H p xs ∧ 0 ≤ k ∧ xs[k.toNat]? = some v ∧ Q v H
theorem get_list : PGet X (rGetL X.K) := by
  intro pins s σ H o i ov iv Q I ro ri h
  obtain ⟨p, xs, k, v, rfl, rfl, hq, h0, he, q⟩ := h
  cases ro
  obtain ⟨t, rfl⟩ := ri
  obtain ⟨its, r, pl, hz⟩ := I.list hq
  obtain ⟨w, ew, rw'⟩ := r.get he
  have hl := r.length
  have hn := line63
  have hk : k.toNat < xs.length := (List.getElem?_eq_some_iff.mp he).1
  exact wpAny_getItem_list pl.isList h0 (by omega) (by simpa using ew) ⟨v, H, I, rw', q⟩
def getL : D → D → Option D
  | .list ds, .int k => if 0 ≤ k then ds[k.toNat]? else none
  | _, _ => none
def sAugIx (g : G2) (i : Nat) (fi fe : EX) : SX := fun cs => if isOwnL cs i = true then (fi cs).bind fun s => (cont s.2.2 i).bind fun d => (getL d s.1).bind fun o => (fe s.2.2).bind fun r => (g o r.1).bind fun z => if z.2 = false then (upL r.2.2 i (fSet s.1 z.1)).bind fun c => some (.nx c) else none else none
theorem ds_augIx {i : Nat} {x : Str} {xpos tpos : Pos} {op : Operator} {tip : TIp} {gg : G2} (hv : DE X (.Name x xpos) (tVar i) (evVar i)) (hi : DE X ei ti fi) (ho : PIp X op tip) (hr : SR2 X.K tip gg) (he : DE X e te fe)
    (ha : ∀ ov iv new, augStore ei ov iv new = (do holding [new, ov, iv] (setItem ov iv new); release [new, ov, iv] []; pure .next) := by intros; rfl) :
    DS X (.AugAssign (.Subscript (.Name x xpos) ei tpos) op e pos) (tAugS (tVar i) ti te (rGetL X.K) tip rSetL) (sAugIx gg i fi fe) := by
  refine ⟨ps_augS hv.pe hi.pe get_list he.pe ho set_list ha, ?_⟩
  intro B IO Z σ H cs ok r e Dn q
  unfold sAugIx at e
  split at e
  · rename_i ho
    obtain ⟨⟨d2, f2, c2⟩, e2, e⟩ := Option.bind_eq_some_iff.mp e
    obtain ⟨dc, ec, e⟩ := Option.bind_eq_some_iff.mp e
    obtain ⟨old, eo, e⟩ := Option.bind_eq_some_iff.mp e
    obtain ⟨⟨d1, f1, c1⟩, e1, e⟩ := Option.bind_eq_some_iff.mp e
    obtain ⟨⟨z, fz⟩, ez, e⟩ := Option.bind_eq_some_iff.mp e
    simp only at e
    split at e
    · rename_i hz
      subst hz
      obtain ⟨c3, e3, e⟩ := Option.bind_eq_some_iff.mp e
      cases e
      obtain ⟨a, xs, hs, hx, _⟩ := ok.ownL ho
      refine ⟨_, hs, hi.se ok e2 _ fun y H1 w1 => ?_⟩
      obtain ⟨v', hv', w⟩ := w1.post.ok.view ec
      rw [hs] at hv'
      cases hv'
      unfold getL at eo
      dsimp only at eo
      split at eo
      · rename_i ds kk
        split at eo
        · rename_i h0
          obtain ⟨a2, ws, e4, r4, p4⟩ := w.list
          cases e4
          obtain ⟨vo, g1, g2⟩ := Pd.get p4 eo
          refine ⟨a, ws, _, vo, rfl, w1.rp.int_eq, r4, h0, g1, ?_⟩
          refine he.se w1.post.ok e1 _ fun u H2 w2 => ?_
          refine hr w2.post.ok.md (g2.mono w2.post.le) w2.rp ez _ fun v3 H3 x3 w3 => ?_
          have pe := Pe.of w2.post x3 w3
          obtain ⟨a', d, d', h1, h2, h3, k⟩ := pe.post.ok.upL e3
          rw [hs] at h1
          cases h1
          have m := ok_md (Z := Z) e3 hs
          unfold fSet at h2
          split at h2
          · simp only at h2
            obtain ⟨j, hj, h2⟩ := Option.bind_eq_some_iff.mp h2
            cases h2
            obtain ⟨ys, h4, h5⟩ := h3.list
            refine ⟨a, ys, _, j, rfl, w1.rp.int_eq, h4, by rw [Pd.len h5]; exact hj, ?_⟩
            refine q _ _ ((w1.post.trans pe.post).trans (k _ upd_kept ?_))
            rw [upd_same]
            exact .lst (Rp.monoA (cut_upd m) (Pd.set pe.rp j h5))
          · cases h2
        · cases eo
      · cases eo
    · cases e
  · cases e
end
end Qp
end
section
set_option Elab.async false
set_option linter.all false
set_option maxRecDepth 100000
set_option maxHeartbeats 2000000
/-! Qh: targets, what is walked, for, while. -/
namespace Qp
open PySem PySem.Spec PyProof.Rows L2
/-! ### targets -/
def Agr (tg : List Nat) (σ σ' : St) : Prop := σ'.length = σ.length ∧ ∀ j : Nat, j ∉ tg → σ'[j]? = σ[j]?
abbrev GX := D → En → Option En
abbrev GsX := List D → En → Option En
def SG (K : PySem.W.Frag) (g : TG) (tg : List Nat) (f : GX) : Prop := ∀ {B : Hp} {IO : List (Nat × Addr)} {X : Addr → Prop} {σ : St} {H : Hp} {cs : En}, Ok K B IO X σ H cs → ∀ {v : V} {d : D}, Rp K (cut H (Md σ cs X)) v d → ∀ {cs' : En}, f d cs = some cs' →
  ∀ Q : St → Hp → Prop, (∀ σ' H', Post K B IO X σ H cs σ' H' cs' → Agr tg σ σ' → Q σ' H') → g v σ H Q
def SGs (K : PySem.W.Frag) (g : TGs) (tg : List Nat) (f : GsX) : Prop := ∀ {B : Hp} {IO : List (Nat × Addr)} {X : Addr → Prop} {σ : St} {H : Hp} {cs : En}, Ok K B IO X σ H cs → ∀ {vs : List V} {ds : List D}, Paired (Rp K (cut H (Md σ cs X))) vs ds → ∀ {cs' : En}, f ds cs = some cs' →
  ∀ Q : St → Hp → Prop, (∀ σ' H', Post K B IO X σ H cs σ' H' cs' → Agr tg σ σ' → Q σ' H') → g vs σ H Q
structure DG (X : Cx) (e : Expr) (g : TG) (tg : List Nat) (f : GX) : Prop where
  pg : PG X e g
  sg : SG X.K g tg f
structure DGs (X : Cx) (e : List Expr) (g : TGs) (tg : List Nat) (f : GsX) : Prop where
  pgs : PGs X e g
  sg : SGs X.K g tg f
def gx (i : Nat) : GX := fun d cs => if noIo cs i = true then some (cs.set i (.dat d)) else none
def gxNil : GsX
  | [], cs => some cs
  | _, _ => none
def gxCons (f : GX) (h : GsX) : GsX
  | d :: ds, cs => (f d cs).bind fun c => h ds c
  | [], _ => none
def gxTup (h : GsX) (n : Nat) : GX
  | .tuple ds, cs => if ds.length = n then h ds cs else none
  | _, _ => none
section
variable {X : Cx} {K : PySem.W.Frag} {e : Expr} {es : List Expr} {pos : Pos}
theorem dg_name {i : Nat} {x : Str} (hN : X.N.Nodup) (hi : X.N[i]? = some x) (hx : Loc X.env.scope x) (hf : X.fn x = true ∨ X.env.scope.names.lookup x = some .local := by first | exact .inl rfl | exact .inr rfl | assumption) : DG X (.Name x pos) (gName i) [i] (gx i) := by
  refine ⟨pg_name hN hi hx hf, ?_⟩
  intro B IO Z σ H cs ok v d r cs' e Q q
  unfold gx at e
  split at e
  · rename_i hn
    cases e
    refine q _ H ((Pe.dat (Post.refl ok) r).asg ok hn) ⟨List.length_set, fun j hj => ?_⟩
    exact List.getElem?_set_ne (fun z => hj (by rw [z]; exact List.mem_singleton.mpr rfl))
  · cases e
theorem dgs_nil : DGs X [] gNil [] gxNil := by
  refine ⟨pgs_nil, ?_⟩
  intro B IO Z σ H cs ok v d r cs' e Q q
  cases r with
  | nil => cases e; exact ⟨rfl, q σ H (Post.refl ok) ⟨rfl, fun _ _ => rfl⟩⟩
  | cons _ _ => cases e
variable {g : TG} {f : GX} {gs : TGs} {fs : GsX} {t1 t2 : List Nat}
theorem dgs_cons (h1 : DG X e g t1 f) (h2 : DGs X es gs t2 fs) (hs : (assignEach (e :: es) X.env).map (·.2) = assign e X.env :: (assignEach es X.env).map (·.2) := by rfl) : DGs X (e :: es) (gCons g gs) (t1 ++ t2) (gxCons f fs) := by
  refine ⟨pgs_cons h1.pg h2.pgs hs, ?_⟩
  intro B IO Z σ H cs ok v d r cs' e Q q
  cases r with
  | nil => cases e
  | cons r1 r2 =>
    unfold gxCons at e
    obtain ⟨c1, e1, e⟩ := Option.bind_eq_some_iff.mp e
    refine ⟨_, _, rfl, h1.sg ok r1 e1 _ fun σ1 H1 p1 k1 => h2.sg p1.ok (Rp.monoA p1.le r2) e _ fun σ2 H2 p2 k2 => q σ2 H2 (p1.trans p2) ⟨k2.1.trans k1.1, fun j hj => ?_⟩⟩
    rw [List.mem_append] at hj
    exact (k2.2 j fun z => hj (.inr z)).trans (k1.2 j fun z => hj (.inl z))
theorem dg_tup {k : Nat} {n : Nat} (hc : X.calm = true) (h : DGs X es gs t1 fs) (hn : (assignEach es X.env).length = n := by rfl) (hst : (assignEach es X.env).findIdx? (·.1) = none := by rfl) : DG X (.Tuple es k pos) (gTup X.K n gs) t1 (gxTup fs n) := by
  refine ⟨pg_tup hc h.pgs hn hst, ?_⟩
  intro B IO Z σ H cs ok v d r cs' e Q q
  unfold gxTup at e
  split at e
  · split at e
    · rename_i hl
      obtain ⟨a, xs, rfl, h1, p1⟩ := r.tuple
      exact ⟨a, xs, rfl, cut_le.sqT h1, (Pd.len p1).trans hl, h.sg ok p1 e Q q⟩
    · cases e
  · cases e

/-! ### what is walked -/
abbrev IX := En → Option (List D × En)
def JOk (K : PySem.W.Frag) (J : It) (F : Hp) (items : List D) : Prop := ∀ (H : Hp) (M : Addr → Prop), (∀ a, M a → H a ≠ none) → Le F (cut H M) → ∀ i : Nat, (items.length ≤ i → J.stop i H) ∧ ∀ d, items[i]? = some d → J.go i H ∧ ∀ x H', J.yld i H x H' → Ex H H' ∧ Rp K (cut H' M) x d
def SI (K : PySem.W.Frag) (wi : TI) (f : IX) : Prop := ∀ {B : Hp} {IO : List (Nat × Addr)} {X : Addr → Prop} {σ : St} {H : Hp} {cs : En}, Ok K B IO X σ H cs → ∀ {items : List D} {cs' : En}, f cs = some (items, cs') →
  ∀ R : It → Hp → Prop, (∀ J H', Post K B IO X σ H cs σ H' cs' → JOk K J (cut H' (Md σ cs' X)) items → R J H') → wi σ H R
structure DI (X : Cx) (tg e : Expr) (wi : TI) (f : IX) : Prop where
  pi : PI X tg e wi
  si : SI X.K wi f
variable {tg : Expr} {te : TE} {fe : EX} {wi : TI} {fi : IX}
/-- a list or a tuple -/
def iSeq (K : PySem.W.Frag) (tl : TE) : TI := fun σ H R => tl σ H fun x H1 => ∃ a, x = .ref a ∧ ((∃ xs, SqL K H1 a xs ∧ R (Itl K a) H1) ∨ ∃ xs, SqT K H1 a xs ∧ R (Itt K a) H1)
theorem pi_seq {l : Expr} {tl : TE} (hl : PE X l tl) : PI X tg l (iSeq X.K tl) := by
  refine ⟨fun pins s σ H R I h => ?_⟩
  refine thn (hl.run pins s σ H _ I h) fun v s1 ⟨x, H1, I1, r1, q1⟩ => ?_
  obtain ⟨a, e, q1⟩ := q1
  subst e
  cases r1
  rcases q1 with ⟨xs, hq, q⟩ | ⟨xs, hq, q⟩
  · obtain ⟨its, rv, p, hz⟩ := I1.list hq
    refine wpAny_pyIter_list p.isList ?_
    refine ⟨s1.heap.objs.size, [s1.heap.objs.size], _, _, H1, rfl, I1.kept (t' := s1.toks) fun b o e => Heap.get?_push_of_some _ e, turn_list a _, ⟨_, Heap.get?_push_size _ rfl, rfl, rfl⟩, fun b hb => ?_, q⟩
    have e : b = s1.heap.objs.size := by simpa using hb
    subst e
    exact I1.fpOk (Nat.le_refl _) (I1.hok.fresh (Nat.le_refl _))
  · obtain ⟨its, rv, p, hz⟩ := I1.tuple hq
    refine wpAny_pyIter_tuple (show s1.heap.IsTuple a its.toArray from p) ?_
    refine ⟨s1.heap.objs.size, [s1.heap.objs.size], _, _, H1, rfl, I1.kept (t' := s1.toks) fun b o e => Heap.get?_push_of_some _ e, turn_tuple a _, ⟨_, Heap.get?_push_size _ rfl, rfl, rfl⟩, fun b hb => ?_, q⟩
    have e : b = s1.heap.objs.size := by simpa using hb
    subst e
    exact I1.fpOk (Nat.le_refl _) (I1.hok.fresh (Nat.le_refl _))
def ixSeq (f : EX) : IX := fun cs => (f cs).bind fun r => match r.1 with
  | .list ds => some (ds, r.2.2)
  | .tuple ds => some (ds, r.2.2)
  | _ => none
theorem jok_list {F : Hp} {a : Addr} {xs : List V} {ds : List D} (h : SqL K F a xs) (p : Paired (Rp K F) xs ds) : JOk K (Itl K a) F ds := by
  intro H M hm hle i
  have hq : SqL K H a xs := cut_le.sqL (hle.sqL h)
  refine ⟨fun hi => ⟨xs, hq, by rw [Pd.len p]; exact hi⟩, fun d hd => ?_⟩
  obtain ⟨v, h1, h2⟩ := Pd.get p hd
  refine ⟨⟨xs, v, hq, h1⟩, fun x H' ⟨e, y⟩ => ?_⟩
  subst e
  have := y xs hq
  rw [h1] at this
  cases this
  exact ⟨Ex.refl _, h2.mono hle⟩
theorem jok_tup {F : Hp} {a : Addr} {xs : List V} {ds : List D} (h : SqT K F a xs) (p : Paired (Rp K F) xs ds) : JOk K (Itt K a) F ds := by
  intro H M hm hle i
  have hq : SqT K H a xs := cut_le.sqT (hle.sqT h)
  refine ⟨fun hi => ⟨xs, hq, by rw [Pd.len p]; exact hi⟩, fun d hd => ?_⟩
  obtain ⟨v, h1, h2⟩ := Pd.get p hd
  refine ⟨⟨xs, v, hq, h1⟩, fun x H' ⟨e, y⟩ => ?_⟩
  subst e
  have := y xs hq
  rw [h1] at this
  cases this
  exact ⟨Ex.refl _, h2.mono hle⟩
theorem di_seq (h : DE X e te fe) : DI X tg e (iSeq X.K te) (ixSeq fe) := by
  refine ⟨pi_seq h.pe, ?_⟩
  intro B IO Z σ H cs ok items cs' e R q
  unfold ixSeq at e
  obtain ⟨⟨d1, f1, c1⟩, e1, e⟩ := Option.bind_eq_some_iff.mp e
  dsimp only at e
  split at e
  · cases e
    refine h.se ok e1 _ fun v H1 w => ?_
    obtain ⟨a, xs, rfl, r1, p1⟩ := w.rp.list
    exact ⟨a, rfl, .inl ⟨xs, cut_le.sqL r1, q _ H1 w.post (jok_list r1 p1)⟩⟩
  · cases e
    refine h.se ok e1 _ fun v H1 w => ?_
    obtain ⟨a, xs, rfl, r1, p1⟩ := w.rp.tuple
    exact ⟨a, rfl, .inr ⟨xs, cut_le.sqT r1, q _ H1 w.post (jok_tup r1 p1)⟩⟩
  · cases e
def rngD (lo : Int) (n : Nat) : List D := (List.range n).map fun i : Nat => PyData.int (lo + (i : Int))
theorem rngD_len (lo : Int) (n : Nat) : (rngD lo n).length = n := by simp [rngD]
theorem rngD_get {lo : Int} {n i : Nat} {d : D} (h : (rngD lo n)[i]? = some d) : i < n ∧ d = .int (lo + (i : Int)) := by
  unfold rngD at h
  rw [List.getElem?_map] at h
  by_cases hi : i < n
  · rw [List.getElem?_range hi] at h
    exact ⟨hi, (Option.some.inj h).symm⟩
  · rw [List.getElem?_eq_none (by simpa using hi)] at h
    cases h
theorem jok_rng {F : Hp} {lo : Int} {n : Nat} : JOk K (Itr lo n) F (rngD lo n) := by
  intro H M hm hle i
  refine ⟨fun hi => by rw [rngD_len] at hi; exact hi, fun d hd => ?_⟩
  obtain ⟨h1, rfl⟩ := rngD_get hd
  refine ⟨h1, fun x H' ⟨e1, e2⟩ => ?_⟩
  subst e1 e2
  exact ⟨Ex.refl _, .int _⟩
def small (j : Int) : Bool := decide (-1000000000 ≤ j) && decide (j ≤ 1000000000)
theorem small_ok {j : Int} (h : small j = true) : -(2 ^ 62) ≤ j ∧ j < 2 ^ 62 := by
  unfold small at h
  rw [Bool.and_eq_true, decide_eq_true_eq, decide_eq_true_eq] at h
  omega
def ixR1 (f : AX) : IX := fun cs => (f cs).bind fun r => match r.1 with
  | [.int j] => if small j = true then some (rngD 0 j.toNat, r.2) else none
  | _ => none
def ixR2 (f : AX) : IX := fun cs => (f cs).bind fun r => match r.1 with
  | [.int i, .int j] => if (small i && small j) = true then some (rngD i (j - i).toNat, r.2) else none
  | _ => none
variable {a b : Expr} {ta : TA} {fa : AX} {p : Pos}
theorem di_r1 (hg : Gl X "range") (hm : X.mg "range" = none) (ha : DA X [a] ta fa) (hs : starEach [a] X.env = [(false, eval a X.env)] := by rfl) : DI X tg (.Call (.Name "range" p) [a] [] pos) (iRng1 ta) (ixR1 fa) := by
  refine ⟨pi_range1 hg hm ha.pa hs, ?_⟩
  intro B IO Z σ H cs ok items cs' e R q
  unfold ixR1 at e
  obtain ⟨⟨d1, c1⟩, e1, e⟩ := Option.bind_eq_some_iff.mp e
  dsimp only at e
  split at e
  · split at e
    · rename_i hs
      cases e
      refine ha.sa ok e1 _ fun vs H1 p1 r1 => ?_
      cases r1 with
      | cons r1 r2 =>
        cases r2
        exact ⟨_, by rw [r1.int_eq], (small_ok hs).1, (small_ok hs).2, q _ H1 p1 jok_rng⟩
    · cases e
  · cases e
theorem di_r2 (hg : Gl X "range") (hm : X.mg "range" = none) (ha : DA X [a, b] ta fa) (hs : starEach [a, b] X.env = [(false, eval a X.env), (false, eval b X.env)] := by rfl) (hs2 : starEach [b] X.env = [(false, eval b X.env)] := by rfl) :
    DI X tg (.Call (.Name "range" p) [a, b] [] pos) (iRng2 ta) (ixR2 fa) := by
  refine ⟨pi_range2 hg hm ha.pa hs hs2, ?_⟩
  intro B IO Z σ H cs ok items cs' e R q
  unfold ixR2 at e
  obtain ⟨⟨d1, c1⟩, e1, e⟩ := Option.bind_eq_some_iff.mp e
  dsimp only at e
  split at e
  · split at e
    · rename_i hs
      cases e
      rw [Bool.and_eq_true] at hs
      refine ha.sa ok e1 _ fun vs H1 p1 r1 => ?_
      cases r1 with
      | cons r1 r2 =>
        cases r2 with
        | cons r2 r3 =>
          cases r3
          exact ⟨_, _, by rw [r1.int_eq, r2.int_eq], ⟨(small_ok hs.1).1, (small_ok hs.1).2, (small_ok hs.2).1, (small_ok hs.2).2⟩, q _ H1 p1 jok_rng⟩
    · cases e
  · cases e
/-- zip of two lists -/
def zipD : List D → List D → List D
  | x :: xs, y :: ys => .tuple [x, y] :: zipD xs ys
  | _, _ => []
theorem zipD_len : ∀ xs ys : List D, (zipD xs ys).length = min xs.length ys.length
  | [], _ => by simp [zipD]
  | _ :: _, [] => by simp [zipD]
  | x :: xs, y :: ys => by simp [zipD, zipD_len xs ys]
theorem zipD_get : ∀ {xs ys : List D} {i : Nat} {d : D}, (zipD xs ys)[i]? = some d → ∃ x y, xs[i]? = some x ∧ ys[i]? = some y ∧ d = .tuple [x, y]
  | [], _, i, d, h => by simp [zipD] at h
  | _ :: _, [], i, d, h => by simp [zipD] at h
  | x :: xs, y :: ys, 0, d, h => by simp [zipD] at h; exact ⟨x, y, rfl, rfl, h.symm⟩
  | x :: xs, y :: ys, i + 1, d, h => by
    have h' : (zipD xs ys)[i]? = some d := by simpa [zipD] using h
    exact zipD_get (xs := xs) (ys := ys) (i := i) h'
theorem jok_zip {F : Hp} {a b : Addr} {xs ys : List V} {ds es : List D} (h : SqL K F a xs) (p : Paired (Rp K F) xs ds) (h' : SqL K F b ys) (p' : Paired (Rp K F) ys es) : JOk K (Itz K a b) F (zipD ds es) := by
  intro H M hm hle i
  have hq : SqL K H a xs := cut_le.sqL (hle.sqL h)
  have hq' : SqL K H b ys := cut_le.sqL (hle.sqL h')
  refine ⟨fun hi => ⟨xs, ys, hq, hq', ?_⟩, fun d hd => ?_⟩
  · rw [zipD_len] at hi
    rw [Pd.len p, Pd.len p']
    omega
  obtain ⟨x, y, g1, g2, rfl⟩ := zipD_get hd
  obtain ⟨v, h1, h2⟩ := Pd.get p g1
  obtain ⟨w, h3, h4⟩ := Pd.get p' g2
  refine ⟨⟨xs, ys, v, w, hq, hq', h1, h3⟩, fun u H' ⟨T, x', y', e1, hT, e2, y1, y2⟩ => ?_⟩
  subst e1 e2
  have z1 := y1 xs hq
  rw [h1] at z1
  cases z1
  have z2 := y2 ys hq'
  rw [h3] at z2
  cases z2
  exact ⟨Ex.new hT, sqt_new hT hm (.cons (h2.mono hle) (.cons (h4.mono hle) .nil))⟩
def ixZip (f : AX) : IX := fun cs => (f cs).bind fun r => match r.1 with
  | [.list xs, .list ys] => some (zipD xs ys, r.2)
  | _ => none
theorem di_zip {tpos : Pos} {elts : List Expr} {kk : Nat} (hg : Gl X "zip") (hm : X.mg "zip" = none) (ha : DA X [a, b] ta fa)
    (hs : starEach [a, b] X.env = (false, eval a X.env) :: starEach [b] X.env := by rfl) (hpl : (backTo pos (starEach [b] X.env)).any (·.1) = false := by rfl) :
    DI X (.Tuple elts kk tpos) (.Call (.Name "zip" p) [a, b] [] pos) (iZip X.K ta) (ixZip fa) := by
  refine ⟨pi_zip hg hm ha.pa hs hpl, ?_⟩
  intro B IO Z σ H cs ok items cs' e R q
  unfold ixZip at e
  obtain ⟨⟨d1, c1⟩, e1, e⟩ := Option.bind_eq_some_iff.mp e
  dsimp only at e
  split at e
  · cases e
    refine ha.sa ok e1 _ fun vs H1 p1 r1 => ?_
    cases r1 with
    | cons r1 r2 =>
      cases r2 with
      | cons r2 r3 =>
        cases r3
        obtain ⟨a', xs, rfl, h1, q1⟩ := r1.list
        obtain ⟨b', ys, rfl, h2, q2⟩ := r2.list
        exact ⟨a', b', xs, ys, rfl, cut_le.sqL h1, cut_le.sqL h2, q _ H1 p1 (jok_zip h1 q1 h2 q2)⟩
  · cases e
/-- enumerate of a list -/
def enumD : Nat → List D → List D
  | _, [] => []
  | n, x :: xs => .tuple [.int (n : Int), x] :: enumD (n + 1) xs
theorem enumD_len : ∀ (n : Nat) (xs : List D), (enumD n xs).length = xs.length
  | _, [] => rfl
  | n, x :: xs => by simp [enumD, enumD_len (n + 1) xs]
theorem enumD_get : ∀ {n : Nat} {xs : List D} {i : Nat} {d : D}, (enumD n xs)[i]? = some d → ∃ x, xs[i]? = some x ∧ d = .tuple [.int ((n + i : Nat) : Int), x]
  | _, [], i, d, h => by simp [enumD] at h
  | n, x :: xs, 0, d, h => by simp [enumD] at h; exact ⟨x, rfl, h.symm⟩
  | n, x :: xs, i + 1, d, h => by
    have h' : (enumD (n + 1) xs)[i]? = some d := by simpa [enumD] using h
    obtain ⟨y, h1, h2⟩ := enumD_get (n := n + 1) (xs := xs) (i := i) h'
    exact ⟨y, by simpa using h1, by rw [h2, show n + 1 + i = n + (i + 1) by omega]⟩
def ixEnum (f : AX) : IX := fun cs => (f cs).bind fun r => match r.1 with
  | [.list xs] => some (enumD 0 xs, r.2)
  | _ => none
theorem di_enum {tpos : Pos} {elts : List Expr} {kk : Nat} (hg : Gl X "enumerate") (hm : X.mg "enumerate" = none) (ha : DA X [a] ta fa) (hs : starEach [a] X.env = [(false, eval a X.env)] := by rfl) :
    DI X (.Tuple elts kk tpos) (.Call (.Name "enumerate" p) [a] [] pos) (iEnum X.K ta) (ixEnum fa) := by
  refine ⟨pi_enum hg hm ha.pa hs, ?_⟩
  intro B IO Z σ H cs ok items cs' e R q
  unfold ixEnum at e
  obtain ⟨⟨d1, c1⟩, e1, e⟩ := Option.bind_eq_some_iff.mp e
  dsimp only at e
  split at e
  · cases e
    refine ha.sa ok e1 _ fun vs H1 p1 r1 => ?_
    cases r1 with
    | cons r1 r2 =>
      cases r2
      obtain ⟨a', xs, rfl, h1, q1⟩ := r1.list
      refine ⟨a', xs, rfl, cut_le.sqL h1, q _ H1 p1 ?_⟩
      intro H M hm hle i
      have hq : SqL X.K H a' xs := cut_le.sqL (hle.sqL h1)
      refine ⟨fun hi => ⟨xs, hq, by rw [enumD_len] at hi; rw [Pd.len q1]; exact hi⟩, fun d hd => ?_⟩
      obtain ⟨x, g1, rfl⟩ := enumD_get hd
      obtain ⟨v, h1', h2⟩ := Pd.get q1 g1
      refine ⟨⟨xs, v, hq, h1'⟩, fun u H' ⟨T, x', e1, hT, e2, y1⟩ => ?_⟩
      subst e1 e2
      have z1 := y1 xs hq
      rw [h1'] at z1
      cases z1
      refine ⟨Ex.new hT, sqt_new hT hm (.cons ?_ (.cons (h2.mono hle) .nil))⟩
      rw [Nat.zero_add]
      exact .int _
  · cases e

/-! ### for -/
def loopF (ft : GX) (body : SX) : List D → En → Option Res
  | [], cs => some (.nx cs)
  | x :: r, cs => (ft x cs).bind fun c => (body c).bind fun z => match z with
    | .nx c => loopF ft body r c
    | .ct c => loopF ft body r c
    | .bk c => some (.nx c)
    | .rt d fr c => some (.rt d fr c)
def sFor (fi : IX) (ft : GX) (body : SX) : SX := fun cs => (fi cs).bind fun r => loopF ft body r.1 r.2
variable {gb : SX} {tb : TS} {body : List Stmt}
theorem ss_for {tgs : List Nat} (hi : SI K wi fi) (hg : SG K g tgs f) (hb : SS K tb gb) : SS K (tFor wi g tb) (sFor fi f gb) := by
  intro B IO Z σ H cs ok r e Dn q
  unfold sFor at e
  obtain ⟨⟨items, c1⟩, e1, e⟩ := Option.bind_eq_some_iff.mp e
  dsimp only at e
  refine hi ok e1 _ fun J H1 p1 jok => ?_
  refine ⟨fun i m σ' H' => m = items.length - i ∧ i ≤ items.length ∧ ∃ c, Post K B IO Z σ H cs σ' H' c ∧ Le (cut H1 (Md σ c1 Z)) (cut H' (Md σ' c Z)) ∧ loopF f gb (items.drop i) c = some r, ⟨_, rfl, Nat.zero_le _, c1, p1, Le.refl _, by rw [List.drop_zero]; exact e⟩, ?_⟩
  rintro i m σ' H' ⟨rfl, hil, c, p, le, el⟩
  obtain ⟨js, jg⟩ := jok H' _ p.ok.md le i
  by_cases hlt : i < items.length
  · have hd : items[i]? = some items[i] := List.getElem?_eq_getElem hlt
    obtain ⟨go, yl⟩ := jg _ hd
    rw [List.drop_eq_getElem_cons hlt] at el
    unfold loopF at el
    obtain ⟨c2, e2, el⟩ := Option.bind_eq_some_iff.mp el
    obtain ⟨rb, e3, el⟩ := Option.bind_eq_some_iff.mp el
    refine .inr ⟨go, fun σ3 H3 => ∃ c3, Post K B IO Z σ H cs σ3 H3 c3 ∧ Le (cut H1 (Md σ c1 Z)) (cut H3 (Md σ3 c3 Z)) ∧ loopF f gb (items.drop (i + 1)) c3 = some r, fun σ3 H3 ⟨c3, h1, h2, h3⟩ => ⟨items.length - (i + 1), by omega, rfl, hlt, c3, h1, h2, h3⟩, fun x H2 hy => ?_⟩
    obtain ⟨ex, rx⟩ := yl x H2 hy
    have p2 := p.ok.ext ex
    refine hg p2.ok rx e2 _ fun σ3 H3 p3 _ => ?_
    have p123 := (p.trans p2).trans p3
    have le3 := (le.trans p2.le).trans p3.le
    refine hb p3.ok e3 _ ?_
    cases rb with
    | nx c4 => exact fun σ4 H4 p4 => ⟨c4, p123.trans p4, le3.trans p4.le, el⟩
    | ct c4 => exact fun σ4 H4 p4 => ⟨c4, p123.trans p4, le3.trans p4.le, el⟩
    | bk c4 =>
      cases el
      exact fun σ4 H4 p4 => q σ4 H4 (p123.trans p4)
    | rt d fr c4 =>
      cases el
      exact fun v σ4 H4 p4 => q v σ4 H4 (p4.pre p123)
  · have hi' : i = items.length := by omega
    subst hi'
    rw [List.drop_length] at el
    cases el
    exact .inl ⟨js (Nat.le_refl _), q σ' H' p⟩
theorem ds_for {tgs : List Nat} (hp : PassesOwn (model X.prog X.w) X.A X.env X.xe) (hc : X.calm = true) (hi : DI X tg e wi fi) (hg : DG X tg g tgs f) (hb : DB X body tb gb) (hs : ∀ x, foldedSetIterable e X.env x = pure x := by intro _; rfl) :
    DS X (.For tg e body [] pos) (tFor wi g tb) (sFor fi f gb) := ⟨ps_for hp hc hi.pi hg.pg hb.pss hs, ss_for hi.si hg.sg hb.ss⟩
/-! ### while -/
def loopW (tc : TX) (body : SX) : Nat → En → Option Res
  | 0, _ => none
  | n + 1, cs => (tc cs).bind fun b => if b.1 = true then (body b.2).bind fun z => match z with
    | .nx c => loopW tc body n c
    | .ct c => loopW tc body n c
    | .bk c => some (.nx c)
    | .rt d fr c => some (.rt d fr c) else some (.nx b.2)
variable {c : Expr} {tc : TT} {fc : TX}
theorem ss_while (n : Nat) (hc : STt K tc fc) (hb : SS K tb gb) : SS K (tWhile tc tb) (loopW fc gb n) := by
  intro B IO Z σ H cs ok r e Dn q
  refine ⟨fun m σ' H' => ∃ c, Post K B IO Z σ H cs σ' H' c ∧ loopW fc gb m c = some r, ⟨n, cs, Post.refl ok, e⟩, ?_⟩
  rintro m σ' H' ⟨c, p, el⟩
  cases m with
  | zero => cases el
  | succ m =>
    unfold loopW at el
    obtain ⟨⟨b, c1⟩, e1, el⟩ := Option.bind_eq_some_iff.mp el
    dsimp only at el
    refine hc p.ok e1 _ fun H1 p1 => ?_
    cases b with
    | false =>
      cases el
      exact iteF (q σ' H1 (p.trans p1))
    | true =>
      refine iteT ?_
      obtain ⟨rb, e3, el⟩ := Option.bind_eq_some_iff.mp (show ((gb c1).bind _) = some r from el)
      refine ⟨fun σ3 H3 => ∃ c3, Post K B IO Z σ H cs σ3 H3 c3 ∧ loopW fc gb m c3 = some r, fun σ3 H3 h => ⟨m, Nat.lt_succ_self m, h⟩, ?_⟩
      refine hb p1.ok e3 _ ?_
      cases rb with
      | nx c4 => exact fun σ4 H4 p4 => ⟨c4, (p.trans p1).trans p4, el⟩
      | ct c4 => exact fun σ4 H4 p4 => ⟨c4, (p.trans p1).trans p4, el⟩
      | bk c4 =>
        cases el
        exact fun σ4 H4 p4 => q σ4 H4 ((p.trans p1).trans p4)
      | rt d fr c4 =>
        cases el
        exact fun v σ4 H4 p4 => q v σ4 H4 (p4.pre (p.trans p1))
theorem ds_while (n : Nat) (hp : PassesOwn (model X.prog X.w) X.A X.env X.xe) (hc : DT X c tc fc) (hb : DB X body tb gb) : DS X (.While c body [] pos) (tWhile tc tb) (loopW fc gb n) := ⟨ps_while hp hc.pt hb.pss, ss_while n hc.st hb.ss⟩
end
end Qp
end
section
set_option Elab.async false
set_option linter.all false
set_option maxRecDepth 100000
set_option maxHeartbeats 2000000
/-! Qi: list comprehensions. -/
namespace Qp
open PySem PySem.Spec PyProof.Rows L2
def clr (cs : En) : List Nat → En
  | [] => cs
  | v :: vs => (clr cs vs).set v .no
theorem clr_len (cs : En) : ∀ vs : List Nat, (clr cs vs).length = cs.length
  | [] => rfl
  | v :: vs => by unfold clr; rw [List.length_set, clr_len cs vs]
theorem clr_get {cs : En} {i : Nat} {c : Cell} : ∀ {vs : List Nat}, (clr cs vs)[i]? = some c → (i ∉ vs ∧ cs[i]? = some c) ∨ (i ∈ vs ∧ c = .no)
  | [], h => .inl ⟨List.not_mem_nil, h⟩
  | v :: vs, h => by
    unfold clr at h
    rcases getset h with ⟨e, e'⟩ | ⟨e, h'⟩
    · exact .inr ⟨by rw [e]; exact List.mem_cons_self, e'.symm⟩
    · rcases clr_get h' with ⟨n, q⟩ | ⟨n, q⟩
      · refine .inl ⟨fun z => ?_, q⟩
        rcases List.mem_cons.mp z with z | z
        · exact e z.symm
        · exact n z
      · exact .inr ⟨List.mem_cons_of_mem _ n, q⟩
theorem clr_out {cs : En} {i : Nat} : ∀ {vs : List Nat}, i ∉ vs → (clr cs vs)[i]? = cs[i]?
  | [], _ => rfl
  | v :: vs, h => by
    unfold clr
    rw [List.getElem?_set_ne (fun e => h (by rw [e]; exact List.mem_cons_self))]
    exact clr_out fun m => h (List.mem_cons_of_mem _ m)
def rst (c2 c1 : En) : List Nat → En
  | [] => c2
  | v :: vs => (rst c2 c1 vs).set v (c1.getD v .no)
theorem rst_len (c2 c1 : En) : ∀ vs : List Nat, (rst c2 c1 vs).length = c2.length
  | [] => rfl
  | v :: vs => by unfold rst; rw [List.length_set, rst_len c2 c1 vs]
theorem rst_get {c2 c1 : En} {i : Nat} {c : Cell} : ∀ {vs : List Nat}, (rst c2 c1 vs)[i]? = some c → (i ∉ vs ∧ c2[i]? = some c) ∨ (i ∈ vs ∧ c = c1.getD i .no)
  | [], h => .inl ⟨List.not_mem_nil, h⟩
  | v :: vs, h => by
    unfold rst at h
    rcases getset h with ⟨e, e'⟩ | ⟨e, h'⟩
    · subst e
      exact .inr ⟨List.mem_cons_self, e'.symm⟩
    · rcases rst_get h' with ⟨n, q⟩ | ⟨n, q⟩
      · refine .inl ⟨fun z => ?_, q⟩
        rcases List.mem_cons.mp z with z | z
        · exact e z.symm
        · exact n z
      · exact .inr ⟨List.mem_cons_of_mem _ n, q⟩
theorem rst_out {c2 c1 : En} {i : Nat} : ∀ {vs : List Nat}, i ∉ vs → (rst c2 c1 vs)[i]? = c2[i]?
  | [], _ => rfl
  | v :: vs, h => by
    unfold rst
    rw [List.getElem?_set_ne (fun e => h (by rw [e]; exact List.mem_cons_self))]
    exact rst_out fun m => h (List.mem_cons_of_mem _ m)
def noOwn (cs : En) (vs : List Nat) : Bool := vs.all fun v => match cs[v]? with
  | some (.dat _) => true
  | some .no => true
  | _ => false
theorem noOwn_of {cs : En} {vs : List Nat} (h : noOwn cs vs = true) {v : Nat} (hv : v ∈ vs) : (∀ d, cs[v]? ≠ some (.own d)) ∧ ∀ d, cs[v]? ≠ some (.io d) := by
  have q := List.all_eq_true.mp h v hv
  constructor
  · intro d e
    rw [e] at q
    cases q
  · intro d e
    rw [e] at q
    cases q
theorem wipe_get (τ : St) (j : Nat) : ∀ vs : List Nat, j ∈ vs → (wipe τ vs)[j]? = if j < τ.length then some none else none
  | [], h => absurd h List.not_mem_nil
  | v :: vs, h => by
    unfold wipe
    by_cases e : v = j
    · subst e
      rw [List.getElem?_set]
      simp only [if_true, wipe_length]
    · rw [List.getElem?_set_ne e]
      rcases List.mem_cons.mp h with z | z
      · exact absurd z.symm e
      · exact wipe_get τ j vs z
theorem wipe_agr {τ σ : St} {tg vs : List Nat} (a : Agr tg (wipe σ vs) τ) (h : ∀ j ∈ tg, j ∈ vs) : wipe τ vs = wipe σ vs := by
  refine List.ext_getElem? fun j => ?_
  by_cases hj : j ∈ vs
  · rw [wipe_get τ j vs hj, wipe_get σ j vs hj, a.1, wipe_length]
  · rw [wipe_out hj, wipe_out hj, a.2 j fun z => hj (h j z), wipe_out hj]
section
variable {K : PySem.W.Frag} {B : Hp} {IO : List (Nat × Addr)} {Z Y : Addr → Prop} {σ : St} {H H' : Hp} {cs c1 c2 : En} {vs : List Nat}
theorem owns_wipe (hn : noOwn cs vs = true) (i : Nat) (a : Addr) : OwnS (wipe σ vs) (clr cs vs) i a ↔ OwnS σ cs i a := by
  constructor
  · rintro ⟨q1, d, q2⟩
    obtain ⟨q3, hi⟩ := wipe_some q1
    rw [clr_out hi] at q2
    exact ⟨q3, d, q2⟩
  · rintro ⟨q1, d, q2⟩
    have hi : i ∉ vs := fun hv => by
      rcases q2 with q2 | q2
      · exact (noOwn_of hn hv).1 d q2
      · exact (noOwn_of hn hv).2 d q2
    exact ⟨by rw [wipe_out hi]; exact q1, d, by rw [clr_out hi]; exact q2⟩
theorem md_wipe (hn : noOwn cs vs = true) : Md (wipe σ vs) (clr cs vs) Z = Md σ cs Z := by
  funext b
  unfold Md
  exact propext ⟨fun h => h.imp id fun ⟨j, q⟩ => ⟨j, (owns_wipe hn j b).mp q⟩, fun h => h.imp id fun ⟨j, q⟩ => ⟨j, (owns_wipe hn j b).mpr q⟩⟩
theorem Ok.wipe (ok : Ok K B IO Z σ H cs) (hn : noOwn cs vs = true) : Ok K B IO Z (L2.wipe σ vs) H (clr cs vs) := by
  have ow := @owns_wipe σ cs vs hn
  refine ⟨by rw [wipe_length, clr_len]; exact ok.len, fun i d e => ?_, fun i d e => ?_, fun i j a q r => ok.inj i j a ((ow i a).mp q) ((ow j a).mp r), fun i a q => ok.dis i a ((ow i a).mp q), ok.xin, fun i a d q r => ?_, fun i d e => ?_, fun i a q => ?_, ok.base, ok.dom⟩
  · rw [md_wipe hn]
    rcases clr_get e with ⟨n, q⟩ | ⟨_, q⟩
    · obtain ⟨v, h1, h2⟩ := ok.dat i d q
      exact ⟨v, by rw [wipe_out n]; exact h1, h2⟩
    · cases q
  · rw [md_wipe hn]
    have : i ∉ vs ∧ (cs[i]? = some (.own d) ∨ cs[i]? = some (.io d)) := by
      rcases e with e | e
      · rcases clr_get e with ⟨n, q⟩ | ⟨_, q⟩
        · exact ⟨n, .inl q⟩
        · cases q
      · rcases clr_get e with ⟨n, q⟩ | ⟨_, q⟩
        · exact ⟨n, .inr q⟩
        · cases q
    obtain ⟨a, h1, h2⟩ := ok.own i d this.2
    exact ⟨a, by rw [wipe_out this.1]; exact h1, h2⟩
  · obtain ⟨q1, hi⟩ := wipe_some q
    rw [clr_out hi] at r
    exact ok.new i a d q1 r
  · rcases clr_get e with ⟨n, q⟩ | ⟨_, q⟩
    · obtain ⟨a, h1, h2⟩ := ok.io i d q
      exact ⟨a, h1, by rw [wipe_out n]; exact h2⟩
    · cases q
  · obtain ⟨d, h1, h2⟩ := ok.ios i a q
    have hi : i ∉ vs := fun hv => (noOwn_of hn hv).2 d h1
    exact ⟨d, by rw [clr_out hi]; exact h1, by rw [wipe_out hi]; exact h2⟩
theorem rst_case {j : Nat} {c : Cell} (hn : noOwn c1 vs = true) (h : (rst c2 c1 vs)[j]? = some c) : (j ∉ vs ∧ c2[j]? = some c) ∨ (j ∈ vs ∧ (c = .no ∨ ∃ d, c = .dat d ∧ c1[j]? = some (.dat d))) := by
  rcases rst_get h with z | ⟨m, z⟩
  · exact .inl z
  · refine .inr ⟨m, ?_⟩
    have q := List.all_eq_true.mp hn j m
    rw [List.getD_eq_getElem?_getD] at z
    cases e : c1[j]? with
    | none => rw [e] at z; exact .inl z
    | some cc =>
      rw [e, Option.getD_some] at z
      rw [e] at q
      cases cc with
      | no => exact .inl z
      | dat d => exact .inr ⟨d, z, rfl⟩
      | own d => cases q
      | io d => cases q
theorem owns_rst (hn : noOwn c1 vs = true) (j : Nat) (a : Addr) : OwnS σ (rst c2 c1 vs) j a ↔ OwnS (wipe σ vs) c2 j a := by
  constructor
  · rintro ⟨q1, d, q2⟩
    rcases q2 with q2 | q2
    · rcases rst_case hn q2 with ⟨n, z⟩ | ⟨_, z | ⟨d', z, _⟩⟩
      · exact ⟨by rw [wipe_out n]; exact q1, d, .inl z⟩
      · cases z
      · cases z
    · rcases rst_case hn q2 with ⟨n, z⟩ | ⟨_, z | ⟨d', z, _⟩⟩
      · exact ⟨by rw [wipe_out n]; exact q1, d, .inr z⟩
      · cases z
      · cases z
  · rintro ⟨q1, d, q2⟩
    obtain ⟨q3, hj⟩ := wipe_some q1
    exact ⟨q3, d, by rw [rst_out hj]; exact q2⟩
theorem md_rst (hn : noOwn c1 vs = true) : Md σ (rst c2 c1 vs) Y = Md (wipe σ vs) c2 Y := by
  funext b
  unfold Md
  exact propext ⟨fun h => h.imp id fun ⟨j, q⟩ => ⟨j, (owns_rst hn j b).mp q⟩, fun h => h.imp id fun ⟨j, q⟩ => ⟨j, (owns_rst hn j b).mpr q⟩⟩
theorem Ok.restore (ok' : Ok K B IO Y (L2.wipe σ vs) H' c2) (hn : noOwn c1 vs = true) (h1 : ∀ (j : Nat) d, c1[j]? = some (.dat d) → ∃ v, σ[j]? = some (some v) ∧ Rp K (cut H' (Md (L2.wipe σ vs) c2 Y)) v d) : Ok K B IO Y σ H' (rst c2 c1 vs) := by
  have ow := @owns_rst σ c1 c2 vs hn
  refine ⟨by rw [rst_len, ← ok'.len, wipe_length], fun i d e => ?_, fun i d e => ?_, fun i j a q r => ok'.inj i j a ((ow i a).mp q) ((ow j a).mp r), fun i a q => ok'.dis i a ((ow i a).mp q), ok'.xin, fun i a d q r => ?_, fun i d e => ?_, fun i a q => ?_, ok'.base, ok'.dom⟩
  · rw [md_rst hn]
    rcases rst_case hn e with ⟨n, z⟩ | ⟨_, z | ⟨d', z, z'⟩⟩
    · obtain ⟨v, h1, h2⟩ := ok'.dat i d z
      exact ⟨v, by rw [wipe_out n] at h1; exact h1, h2⟩
    · cases z
    · cases z
      exact h1 i d z'
  · rw [md_rst hn]
    have : i ∉ vs ∧ (c2[i]? = some (.own d) ∨ c2[i]? = some (.io d)) := by
      rcases e with e | e
      · rcases rst_case hn e with ⟨n, z⟩ | ⟨_, z | ⟨d', z, _⟩⟩
        · exact ⟨n, .inl z⟩
        · cases z
        · cases z
      · rcases rst_case hn e with ⟨n, z⟩ | ⟨_, z | ⟨d', z, _⟩⟩
        · exact ⟨n, .inr z⟩
        · cases z
        · cases z
    obtain ⟨a, h1, h2⟩ := ok'.own i d this.2
    exact ⟨a, by rw [wipe_out this.1] at h1; exact h1, h2⟩
  · obtain ⟨q1, d2, q2⟩ := (ow i a).mp ⟨q, d, .inl r⟩
    rcases rst_case hn r with ⟨n, z⟩ | ⟨_, z | ⟨d', z, _⟩⟩
    · exact ok'.new i a d q1 z
    · cases z
    · cases z
  · rcases rst_case hn e with ⟨n, z⟩ | ⟨_, z | ⟨d', z, _⟩⟩
    · obtain ⟨a, h1, h2⟩ := ok'.io i d z
      exact ⟨a, h1, by rw [wipe_out n] at h2; exact h2⟩
    · cases z
    · cases z
  · obtain ⟨d, h1, h2⟩ := ok'.ios i a q
    obtain ⟨q3, hj⟩ := wipe_some h2
    exact ⟨d, by rw [rst_out hj]; exact h1, q3⟩
/-- an object of X is written -/
theorem cut_updX {M : Addr → Prop} {p : Addr} {o : HO} (m : M p) : cut (upd H p o) M = cut H M := by
  funext b
  by_cases mb : M b
  · rw [cut_in mb, cut_in mb]
  · rw [cut_of mb, cut_of mb, upd_ne (fun z => mb (by rw [z]; exact m))]
theorem Ok.updX {p : Addr} {o : HO} (ok : Ok K B IO Z σ H cs) (hx : Z p) (hB : B p = none) : Ok K B IO Z σ (upd H p o) cs := by
  have m : Md σ cs Z p := .inl hx
  have dm : ∀ b, H b ≠ none → upd H p o b ≠ none := fun b h => by
    by_cases e : b = p
    · rw [e, upd_same]; exact fun z => nomatch z
    · rw [upd_ne e]; exact h
  refine ⟨ok.len, fun i d e => ?_, fun i d e => ?_, ok.inj, ok.dis, fun a h => dm a (ok.xin a h), ok.new, ok.io, ok.ios, fun a u h e => ?_, fun a h => dm a (ok.dom a h)⟩
  · rw [cut_updX m]
    exact ok.dat i d e
  · rw [cut_updX m]
    obtain ⟨a, h1, h2⟩ := ok.own i d e
    have ne : a ≠ p := fun z => ok.dis i a ⟨h1, d, e⟩ (by rw [z]; exact hx)
    exact ⟨a, h1, by rw [upd_ne ne]; exact h2⟩
  · have ne : a ≠ p := fun z => by rw [z, hB] at e; cases e
    rw [upd_ne ne]
    exact ok.base a u h e
/-- a new object is kept apart -/
theorem Ok.newX {p : Addr} {o : HO} (ok : Ok K B IO Z σ H cs) (hp : H p = none) : Ok K B IO (XP Z p) σ (upd H p o) cs ∧ Le (cut H (Md σ cs Z)) (cut (upd H p o) (Md σ cs (XP Z p))) := by
  have ne : ∀ b, H b ≠ none → b ≠ p := fun b hb z => hb (by rw [z]; exact hp)
  have hle : Le (cut H (Md σ cs Z)) (cut (upd H p o) (Md σ cs (XP Z p))) := le_cut fun b u q m => by
    have nb := ne b (by rw [q]; exact fun z => nomatch z)
    refine ⟨by rw [upd_ne nb]; exact q, fun z => ?_⟩
    rcases z with (z | z) | z
    · exact m (.inl z)
    · exact nb z
    · exact m (.inr z)
  refine ⟨⟨ok.len, fun i d e => ?_, fun i d e => ?_, ok.inj, fun i a q z => ?_, fun a z => ?_, ok.new, ok.io, ok.ios, fun a u h e => Ex.new hp a u (ok.base a u h e), fun a h => (Ex.new hp).dom (ok.dom a h)⟩, hle⟩
  · obtain ⟨v, h1, h2⟩ := ok.dat i d e
    exact ⟨v, h1, h2.mono hle⟩
  · obtain ⟨a, h1, h2⟩ := ok.own i d e
    exact ⟨a, h1, by rw [upd_ne (ne a h2.some)]; exact h2.mono hle⟩
  · rcases z with z | z
    · exact ok.dis i a q z
    · exact ne a (ok.md a (.inr ⟨i, q⟩)) z
  · rcases z with z | z
    · exact (Ex.new hp).dom (ok.xin a z)
    · rw [z, upd_same]; exact fun z => nomatch z
end
section
variable {X : Cx} {K : PySem.W.Frag} {tg elt iter : Expr} {wi : TI} {fi : IX} {g : TG} {tgs vs : List Nat} {fg : GX} {tt : TT} {ft : TX} {te : TE} {fe : EX}
def loopC (fg : GX) (ft : TX) (fe : EX) (vs : List Nat) : List D → List D → En → Option (List D × En)
  | [], acc, cs => some (acc, cs)
  | x :: r, acc, cs => (fg x cs).bind fun c => (ft c).bind fun b => if b.1 = true then (fe b.2).bind fun z => if (noOwn z.2.2 vs && decide (acc.length < LIM)) = true then loopC fg ft fe vs r (acc ++ [z.1]) (clr z.2.2 vs) else none
    else if noOwn b.2 vs = true then loopC fg ft fe vs r acc (clr b.2 vs) else none
def evLc (vs : List Nat) (fi : IX) (fg : GX) (ft : TX) (fe : EX) : EX := fun cs => (fi cs).bind fun r => if noOwn r.2 vs = true then (loopC fg ft fe vs r.1 [] (clr r.2 vs)).bind fun z => some (.list z.1, true, rst z.2 r.2 vs) else none
theorem se_lc (hi : SI K wi fi) (hg : SG K g tgs fg) (ht : STt K tt ft) (he : SE K te fe) (hv : ∀ j ∈ tgs, j ∈ vs) : SE K (tLc wi g tt te vs) (evLc vs fi fg ft fe) := by
  intro B IO Z σ H cs ok d fr cs' e Q q
  unfold evLc at e
  obtain ⟨⟨items, c1⟩, e1, e⟩ := Option.bind_eq_some_iff.mp e
  dsimp only at e
  split at e
  · rename_i hn
    obtain ⟨⟨ds, c2⟩, e2, e⟩ := Option.bind_eq_some_iff.mp e
    cases e
    refine hi ok e1 _ fun J H1 p1 jok Dl hD => ?_
    have hB : B Dl = none := by
      cases z : B Dl with
      | none => rfl
      | some o => exact absurd hD (p1.ok.dom Dl (by rw [z]; exact fun z => nomatch z))
    have np : ¬ Z Dl := fun z => p1.ok.xin Dl z hD
    obtain ⟨ok1, le1⟩ := (p1.ok.wipe hn).newX (o := .lst []) hD
    rw [md_wipe hn] at le1
    have dom1 : ∀ a, H1 a ≠ none → upd H1 Dl (.lst []) a ≠ none := fun a h => (Ex.new hD).dom h
    refine ⟨fun i m H' => m = items.length - i ∧ i ≤ items.length ∧ ∃ (c : En) (acc : List D) (vals : List V), Ok K B IO (XP Z Dl) (L2.wipe σ vs) H' c ∧ Le (cut H1 (Md σ c1 Z)) (cut H' (Md (L2.wipe σ vs) c (XP Z Dl))) ∧ (∀ a, Z a → H' a = H1 a) ∧ (∀ a, H1 a ≠ none → H' a ≠ none) ∧
      H' Dl = some (.lst vals) ∧ Paired (Rp K (cut H' (Md (L2.wipe σ vs) c (XP Z Dl)))) vals acc ∧ loopC fg ft fe vs (items.drop i) acc c = some (ds, c2),
      ⟨_, rfl, Nat.zero_le _, clr c1 vs, [], [], ok1, le1, fun a h => upd_ne (fun z => np (by rw [← z]; exact h)), dom1, upd_same, .nil, by rw [List.drop_zero]; exact e2⟩, ?_⟩
    rintro i m H' ⟨rfl, hil, c, acc, vals, ok', le', keep', dom', hD', pa, el⟩
    obtain ⟨js, jg⟩ := jok H' _ ok'.md le' i
    by_cases hlt : i < items.length
    · have hd : items[i]? = some items[i] := List.getElem?_eq_getElem hlt
      obtain ⟨go, yl⟩ := jg _ hd
      rw [List.drop_eq_getElem_cons hlt] at el
      unfold loopC at el
      obtain ⟨c3, e3, el⟩ := Option.bind_eq_some_iff.mp el
      obtain ⟨⟨b, c4⟩, e4, el⟩ := Option.bind_eq_some_iff.mp el
      dsimp only at el
      refine .inr ⟨go, fun H' => ∃ (c : En) (acc : List D) (vals : List V), Ok K B IO (XP Z Dl) (L2.wipe σ vs) H' c ∧ Le (cut H1 (Md σ c1 Z)) (cut H' (Md (L2.wipe σ vs) c (XP Z Dl))) ∧ (∀ a, Z a → H' a = H1 a) ∧ (∀ a, H1 a ≠ none → H' a ≠ none) ∧
        H' Dl = some (.lst vals) ∧ Paired (Rp K (cut H' (Md (L2.wipe σ vs) c (XP Z Dl)))) vals acc ∧ loopC fg ft fe vs (items.drop (i + 1)) acc c = some (ds, c2), fun H3 ⟨c, acc, vals, h⟩ => ⟨items.length - (i + 1), by omega, rfl, hlt, c, acc, vals, h⟩, fun x H2 hy => ?_⟩
      obtain ⟨ex, rx⟩ := yl x H2 hy
      have p2 := ok'.ext ex
      refine hg p2.ok rx e3 _ fun σ3 H3 p3 ag => ⟨wipe_agr ag hv, ?_⟩
      have hw := wipe_agr ag hv
      refine ht p3.ok e4 _ fun H4 p4 => ?_
      have p234 := (p2.trans p3).trans p4
      have hz : ∀ a, Z a → XP Z Dl a := fun a h => .inl h
      cases b with
      | false =>
        refine iteF ?_
        simp only [Bool.false_eq_true, if_false] at el
        split at el
        · rename_i hn4
          have ok5 := p4.ok.wipe hn4
          rw [hw] at ok5
          have em : Md (L2.wipe σ vs) (clr c4 vs) (XP Z Dl) = Md σ3 c4 (XP Z Dl) := by rw [← hw]; exact md_wipe hn4
          exact ⟨clr c4 vs, acc, vals, ok5, by rw [em]; exact le'.trans p234.le, fun a h => (p234.keep a (hz a h)).trans (keep' a h), fun a h => p234.dom a (dom' a h), (p234.keep Dl (.inr rfl)).trans hD', by rw [em]; exact Rp.monoA p234.le pa, el⟩
        · cases el
      | true =>
        refine iteT ?_
        simp only [if_true] at el
        obtain ⟨⟨z, fz, c5⟩, e5, el⟩ := Option.bind_eq_some_iff.mp el
        dsimp only at el
        split at el
        · rename_i hn5
          rw [Bool.and_eq_true, decide_eq_true_eq] at hn5
          refine he p4.ok e5 _ fun y H5 w => ?_
          have p5 := p234.trans w.post
          have ok5 := w.post.ok.wipe hn5.1
          rw [hw] at ok5
          have em : Md (L2.wipe σ vs) (clr c5 vs) (XP Z Dl) = Md σ3 c5 (XP Z Dl) := by rw [← hw]; exact md_wipe hn5.1
          have md : Md (L2.wipe σ vs) (clr c5 vs) (XP Z Dl) Dl := .inl (.inr rfl)
          refine ⟨vals, (p5.keep Dl (.inr rfl)).trans hD', by rw [Pd.len pa]; exact lim_lt hn5.2, clr c5 vs, acc ++ [z], vals ++ [y], ok5.updX (.inr rfl) hB, ?_, fun a h => ?_, fun a h => ?_, upd_same, ?_, el⟩
          · rw [cut_updX md, em]
            exact le'.trans p5.le
          · rw [upd_ne (fun z => np (by rw [← z]; exact h))]
            exact (p5.keep a (hz a h)).trans (keep' a h)
          · by_cases ea : a = Dl
            · rw [ea, upd_same]; exact fun z => nomatch z
            · rw [upd_ne ea]; exact p5.dom a (dom' a h)
          · rw [cut_updX md, em]
            exact Pd.append (Rp.monoA p5.le pa) (.cons w.rp .nil)
        · cases el
    · have hi' : i = items.length := by omega
      subst hi'
      rw [List.drop_length] at el
      cases el
      refine .inl ⟨js (Nat.le_refl _), q _ H' ?_⟩
      have dat1 : ∀ (j : Nat) d, c1[j]? = some (.dat d) → ∃ v, σ[j]? = some (some v) ∧ Rp K (cut H' (Md (L2.wipe σ vs) c2 (XP Z Dl))) v d := fun j d hj => by
        obtain ⟨v, h1, h2⟩ := p1.ok.dat j d hj
        exact ⟨v, h1, h2.mono le'⟩
      refine ⟨Dl, rfl, ?_, ⟨ok'.restore hn dat1, by rw [md_rst hn]; exact p1.le.trans le', fun a h => (keep' a h).trans (p1.keep a h), fun a h => dom' a (p1.dom a h), np⟩, by rw [md_rst hn, hD']; exact .lst pa⟩
      cases z : H Dl with
      | none => rfl
      | some o => exact absurd hD (p1.dom Dl (by rw [z]; exact fun z => nomatch z))
  · cases e
end
end Qp
end
section
set_option Elab.async false
set_option linter.all false
set_option maxRecDepth 100000
set_option maxHeartbeats 2000000
/-! Qj: comprehensions of the text; defs. -/
namespace Qp
open PySem PySem.Spec PyProof.Rows L2
section
variable {X : Cx} {tg elt iter : Expr} {ifs : List Expr} {scope : Scope} {own : List (Str × Nat)} {pos spos : Pos} {wi : TI} {fi : IX} {g : TG} {tgs : List Nat} {fg : GX} {tt : TT} {ft : TX} {te : TE} {fe : EX} {vs : List Nat}
structure DTs (X : Cx) (ifs : List Expr) (t : TT) (f : TX) : Prop where
  pts : PTs X ifs t
  st : STt X.K t f
def evYes : TX := fun cs => some (true, cs)
theorem dts_nil : DTs X [] tYes evYes := by
  refine ⟨pts_nil, ?_⟩
  intro B IO Z σ H cs ok b cs' e Q q
  cases e
  exact q H (Post.refl ok)
theorem dts_one {c : Expr} (h : DT X c tt ft) : DTs X [c] tt ft := ⟨pts_one h.pt, h.st⟩
/-- readings by the function alone -/
def teOf (K : PySem.W.Frag) (f : EX) : TE := fun σ H Q => ∃ (B : Hp) (IO : List (Nat × Addr)) (Z : Addr → Prop) (cs : En) (d : D) (fr : Bool) (cs' : En), Ok K B IO Z σ H cs ∧ f cs = some (d, fr, cs') ∧ ∀ v H', Pe K B IO Z σ H cs σ H' cs' fr v d → Q v H'
def ttOf (K : PySem.W.Frag) (f : TX) : TT := fun σ H Q => ∃ (B : Hp) (IO : List (Nat × Addr)) (Z : Addr → Prop) (cs : En) (b : Bool) (cs' : En), Ok K B IO Z σ H cs ∧ f cs = some (b, cs') ∧ ∀ H', Post K B IO Z σ H cs σ H' cs' → Q b H'
def tgOf (K : PySem.W.Frag) (tgs : List Nat) (f : GX) : TG := fun v σ H Q => ∃ (B : Hp) (IO : List (Nat × Addr)) (Z : Addr → Prop) (cs : En) (d : D) (cs' : En), Ok K B IO Z σ H cs ∧ Rp K (cut H (Md σ cs Z)) v d ∧ f d cs = some cs' ∧ ∀ σ' H', Post K B IO Z σ H cs σ' H' cs' → Agr tgs σ σ' → Q σ' H'
theorem DE.can {e : Expr} {t : TE} {f : EX} (h : DE X e t f) : PE X e (teOf X.K f) := ⟨fun pins s σ H Q I ⟨_, _, _, _, _, _, _, ok, e, q⟩ => h.pe.run pins s σ H Q I (h.se ok e Q q)⟩
theorem DTs.can (h : DTs X ifs tt ft) : PTs X ifs (ttOf X.K ft) := ⟨fun pins s σ H Q I ⟨_, _, _, _, _, _, ok, e, q⟩ => h.pts.run pins s σ H Q I (h.st ok e Q q)⟩
theorem DG.can (h : DG X tg g tgs fg) : PG X tg (tgOf X.K tgs fg) := ⟨fun pins s σ H v u Q I r ⟨_, _, _, _, _, _, ok, rp, e, q⟩ => h.pg.run pins s σ H v u Q I r (h.sg ok rp e Q q)⟩
theorem se_can {K : PySem.W.Frag} {f : EX} : SE K (teOf K f) f := fun ok _ _ _ e _ q => ⟨_, _, _, _, _, _, _, ok, e, q⟩
theorem st_can {K : PySem.W.Frag} {f : TX} : STt K (ttOf K f) f := fun ok _ _ e _ q => ⟨_, _, _, _, _, _, ok, e, q⟩
theorem sg_can {K : PySem.W.Frag} {f : GX} : SG K (tgOf K tgs f) tgs f := fun ok _ _ r _ e _ q => ⟨_, _, _, _, _, _, ok, r, e, q⟩
theorem de_lc (hc : X.calm = true) (hN : X.N.Nodup) (hi : DI X tg iter wi fi) (ok : BlkOk X.N X.env.scope scope own)
    (hg : ∀ (s : Shared) (H : Hp) (C : Addr) (cl : List (Str × Addr)) (fp : List Addr), ∃ g, DG (X.blk s H scope (compEnvC scope cl C X.env) fp) tg g tgs fg) (ht : ∀ (s : Shared) (H : Hp) (C : Addr) (cl : List (Str × Addr)) (fp : List Addr), ∃ tt, DTs (X.blk s H scope (compEnvC scope cl C X.env) fp) ifs tt ft)
    (he : ∀ (s : Shared) (H : Hp) (C : Addr) (cl : List (Str × Addr)) (fp : List Addr), ∃ te, DE (X.blk s H scope (compEnvC scope cl C X.env) fp) elt te fe) (hvs : own.map (·.2) = vs := by rfl) (hv : ∀ j ∈ tgs, j ∈ vs := by decide) (hs : ∀ x, foldedSetIterable iter X.env x = pure x := by intro _; rfl) :
    DE X (.ListComp elt [⟨tg, iter, ifs, 0⟩] scope pos) (tLc wi (tgOf X.K tgs fg) (ttOf X.K ft) (teOf X.K fe) (own.map (·.2))) (evLc vs fi fg ft fe) := by
  subst hvs
  exact ⟨pe_lc hc hN hi.pi ok (fun s H C cl fp => (hg s H C cl fp).elim fun _ q => q.can) (fun s H C cl fp => (ht s H C cl fp).elim fun _ q => q.can) (fun s H C cl fp => (he s H C cl fp).elim fun _ q => q.can) hs,
    se_lc hi.si sg_can st_can se_can hv⟩
theorem ds_lc {i : Nat} {y : Str} {py : Pos} (hc : X.calm = true) (hN : X.N.Nodup) (hy : X.N[i]? = some y) (hyl : X.env.scope.names.lookup y = some .local) (hsw : swapsWith (.ListComp elt [⟨tg, iter, ifs, 0⟩] scope pos) (some (.Name y py)) spos.line X.env = pure true)
    (hi : DI X tg iter wi fi) (ok : BlkOk X.N X.env.scope scope own)
    (hg : ∀ (s : Shared) (H : Hp) (C : Addr) (cl : List (Str × Addr)) (fp : List Addr), ∃ g, DG (X.blk s H scope (compEnvC scope cl C X.env) fp) tg g tgs fg) (ht : ∀ (s : Shared) (H : Hp) (C : Addr) (cl : List (Str × Addr)) (fp : List Addr), ∃ tt, DTs (X.blk s H scope (compEnvC scope cl C X.env) fp) ifs tt ft)
    (he : ∀ (s : Shared) (H : Hp) (C : Addr) (cl : List (Str × Addr)) (fp : List Addr), ∃ te, DE (X.blk s H scope (compEnvC scope cl C X.env) fp) elt te fe) (hvs : own.map (·.2) = vs := by rfl) (hv : ∀ j ∈ tgs, j ∈ vs := by decide) (hs : ∀ x, foldedSetIterable iter X.env x = pure x := by intro _; rfl) :
    DS X (.Assign [.Name y py] (.ListComp elt [⟨tg, iter, ifs, 0⟩] scope pos) spos) (tAsg (tLc wi (tgOf X.K tgs fg) (ttOf X.K ft) (teOf X.K fe) (own.map (·.2))) (gName i)) (sAsg i (evLc vs fi fg ft fe)) := by
  subst hvs
  exact ⟨ps_setLc hc hN hy hyl hsw hi.pi ok (fun s H C cl fp => (hg s H C cl fp).elim fun _ q => q.can) (fun s H C cl fp => (ht s H C cl fp).elim fun _ q => q.can) (fun s H C cl fp => (he s H C cl fp).elim fun _ q => q.can) hs,
    ss_asg (se_lc hi.si sg_can st_can se_can hv)⟩
end

/-! ### defs: the promise by a function on data -/
def spP (K : PySem.W.Frag) (n : Nat) (F : GA) : Sp := fun vs H Q _ => ∃ (M : Addr → Prop) (ds : List D) (z : D) (fr : Bool), (∀ a, M a → H a ≠ none) ∧ ds.length = n ∧ Paired (Rp K (cut H M)) vs ds ∧ F ds = some (z, fr) ∧ ∀ v H', Ex H H' → VOk K H H' M fr v z → Q v H'
/-- .. the first argument is changed -/
abbrev GI := D → List D → Option (D × Bool × D)
def spI (K : PySem.W.Frag) (n : Nat) (F : GI) : Sp := fun vs H Q _ => ∃ (M : Addr → Prop) (a : Addr) (us : List V) (d0 : D) (ds : List D) (z : D) (fr : Bool) (d' : D), vs = .ref a :: us ∧ (∀ b, M b → H b ≠ none) ∧ ds.length + 1 = n ∧ M a ∧ OwnAt K (cut H M) (H a) d0 ∧ Paired (Rp K (cut H M)) us ds ∧ F d0 ds = some (z, fr, d') ∧
  ∀ v H', (∀ b u, b ≠ a → H b = some u → H' b = some u) → OwnAt K (cut H' (fun b => M b ∨ (fr = true ∧ v = .ref b))) (H' a) d' → VOk K H H' M fr v z → Q v H'
def outP (r : Option Res) : Option (D × Bool) := match r with
  | some (.rt d fr _) => some (d, fr)
  | some (.nx _) => some (.none, false)
  | _ => none
def runP (n m : Nat) (body : SX) : GA := fun ds => if ds.length = n then outP (body (ds.map Cell.dat ++ List.replicate m .no)) else none
def io0 (c : En) : Option D := match (c[(0 : Nat)]? : Option Cell) with
  | some (.io d) => some d
  | _ => none
theorem io0_of {c : En} {d : D} (h : io0 c = some d) : c[(0 : Nat)]? = some (.io d) := by
  unfold io0 at h
  split at h
  · rename_i d' e
    cases h
    exact e
  · cases h
def outI (r : Option Res) : Option (D × Bool × D) := match r with
  | some (.rt d fr c) => (io0 c).bind fun d' => some (d, fr, d')
  | some (.nx c) => (io0 c).bind fun d' => some (.none, false, d')
  | _ => none
def runI (n m : Nat) (body : SX) : GI := fun d0 ds => if ds.length + 1 = n then outI (body (.io d0 :: (ds.map Cell.dat ++ List.replicate m .no))) else none
section
variable {P : Program} {w : World} {K : PySem.W.Frag} {mg : Str → Option Value} {base : Heap}
theorem Pe.vok {B : Hp} {IO : List (Nat × Addr)} {M : Addr → Prop} {σ σ' : L2.St} {H H' : Hp} {cs c : En} {fr : Bool} {v : V} {d : D} (h : Pe K B IO M σ H cs σ' H' c fr v d) : VOk K H H' M fr v d := by
  unfold Pe at h
  unfold VOk
  cases fr with
  | false => exact h.2.mono (le_cut fun a o e m => ⟨e, fun z => m (.inl z)⟩)
  | true =>
    obtain ⟨p, e, hp, q, o⟩ := h
    exact ⟨p, e, hp, o.mono (le_cut fun a o e m => ⟨e, fun z => m (.inl z)⟩)⟩
theorem get_dat {ds : List D} {m : Nat} {i : Nat} {d : D} (h : (ds.map Cell.dat ++ List.replicate m Cell.no)[i]? = some (.dat d)) : ds[i]? = some d := by
  by_cases hi : i < ds.length
  · rw [List.getElem?_append_left (by rw [List.length_map]; exact hi), List.getElem?_map] at h
    cases e : ds[i]? with
    | none => rw [e] at h; cases h
    | some x => rw [e] at h; cases h; rfl
  · rw [List.getElem?_append_right (by rw [List.length_map]; omega), List.getElem?_replicate] at h
    split at h <;> cases h
theorem get_own {ds : List D} {m : Nat} {i : Nat} {d : D} : (ds.map Cell.dat ++ List.replicate m Cell.no)[i]? ≠ some (.own d) ∧ (ds.map Cell.dat ++ List.replicate m Cell.no)[i]? ≠ some (.io d) := by
  by_cases hi : i < ds.length
  · rw [List.getElem?_append_left (by rw [List.length_map]; exact hi), List.getElem?_map]
    cases e : ds[i]? with
    | none => exact ⟨fun z => (by cases z), fun z => (by cases z)⟩
    | some x => exact ⟨fun z => (by cases z), fun z => (by cases z)⟩
  · rw [List.getElem?_append_right (by rw [List.length_map]; omega), List.getElem?_replicate]
    split <;> exact ⟨fun z => (by cases z), fun z => (by cases z)⟩
theorem get_start {vs : List V} {m : Nat} {i : Nat} {v : V} (h : vs[i]? = some v) : (vs.map some ++ List.replicate m none)[i]? = some (some v) := by
  have hi : i < vs.length := (List.getElem?_eq_some_iff.mp h).1
  rw [List.getElem?_append_left (by rw [List.length_map]; exact hi), List.getElem?_map, h]
  rfl
theorem fn_pure {x qual : Str} {st : Stmt} {f : Addr} {fd : FuncData} {N ps : List Str} {k n m : Nat} {g : SX} (F : Fun K x qual st f fd) (S : FnScope N ps (defScope st)) (hN : N.length = n + m) (hp : ps.length = n)
    (body : ∀ (cdv : Value) (A : Around) (outer : List Env) (s : Shared) (H : Hp) (E : XK), Room k (A.deeper (envOfC qual (defScope st) s.heap.objs.size f cdv)) → ∃ t, DB (cxOf CX0 P w K mg base N qual (defScope st) f cdv A outer s H E).nox (defBody st) t g) :
    FnOk P w K mg base CX0 (k + 1) f fd ps (spP K n (runP n m g)) := by
  refine F.ok S (fun vs H Q E h => ?_) (fun cdv A outer s H vs Q E hr h => ?_)
  · obtain ⟨M, ds, z, fr, _, hl, p, _⟩ := h
    rw [Pd.len p, hl, hp]
  · obtain ⟨M, ds, z, fr, hm, hl, p, e, q⟩ := h
    obtain ⟨t, d⟩ := body cdv A outer s H E hr
    refine ⟨t, d.pss, ?_⟩
    unfold runP at e
    rw [if_pos hl] at e
    have hs : L2.start N vs = vs.map some ++ List.replicate m none := by
      unfold L2.start
      rw [Pd.len p, hl, hN, Nat.add_sub_cancel_left]
    have hmd : ∀ a, ¬ Md (L2.start N vs) (ds.map Cell.dat ++ List.replicate m .no) M a ∨ M a := fun a => by
      by_cases ha : M a
      · exact .inr ha
      · refine .inl fun z => ?_
        rcases z with z | ⟨i, _, d', z | z⟩
        · exact ha z
        · exact get_own.1 z
        · exact get_own.2 z
    have ok : Ok K H [] M (L2.start N vs) H (ds.map Cell.dat ++ List.replicate m .no) := by
      refine ⟨?_, fun i d' h => ?_, fun i d' h => ?_, fun i j a h => ?_, fun i a h => ?_, hm, fun i a d' _ h => absurd h get_own.1, fun i d' h => absurd h get_own.2, fun i a h => (by cases h), fun a o _ h => h, fun a h => h⟩
      · rw [hs, List.length_append, List.length_append, List.length_map, List.length_map, List.length_replicate, List.length_replicate, Pd.len p]
      · obtain ⟨v, h1, h2⟩ := Pd.get p (get_dat h)
        refine ⟨v, by rw [hs]; exact get_start h1, h2.mono (le_cut fun a o e' n' => ⟨e', (hmd a).resolve_right n'⟩)⟩
      · rcases h with h | h
        · exact absurd h get_own.1
        · exact absurd h get_own.2
      · obtain ⟨_, d', h | h⟩ := h
        · exact absurd h get_own.1
        · exact absurd h get_own.2
      · obtain ⟨_, d', h | h⟩ := h
        · exact absurd h get_own.1
        · exact absurd h get_own.2
    have exf : ∀ {σ' H' c}, Post K H [] M (L2.start N vs) H (ds.map Cell.dat ++ List.replicate m .no) σ' H' c → Ex H H' := fun p a o e => p.ok.base a o (fun i h => (by cases h)) e
    cases er : g (ds.map Cell.dat ++ List.replicate m .no) with
    | none => rw [er] at e; cases e
    | some r =>
      rw [er] at e
      refine d.ss ok er _ ?_
      cases r with
      | nx c => cases e; exact fun σ' H' p' => q _ H' (exf p') (VOk.of .non)
      | rt d' fr' c => cases e; exact fun v σ' H' p' => q v H' (exf p'.post) p'.vok
      | bk c => cases e
      | ct c => cases e
theorem fn_none {f : Addr} {fd : FuncData} {ps : List Str} {n : Nat} (hp : ps.length = n) : FnOk P w K mg base CX0 0 f fd ps (spP K n fun _ => none) :=
  ⟨fun vs H Q E ⟨_, _, _, _, _, _, _, e, _⟩ => (by cases e), fun A outer s H args us vs Q E _ _ _ _ ⟨_, _, _, _, _, _, _, e, _⟩ => (by cases e)⟩
theorem fn_noneI {f : Addr} {fd : FuncData} {ps : List Str} {n : Nat} (hp : ps.length = n) : FnOk P w K mg base CX0 0 f fd ps (spI K n fun _ _ => none) :=
  ⟨fun vs H Q E ⟨_, _, _, _, _, _, _, _, _, _, _, _, _, _, e, _⟩ => (by cases e), fun A outer s H args us vs Q E _ _ _ _ ⟨_, _, _, _, _, _, _, _, _, _, _, _, _, _, e, _⟩ => (by cases e)⟩
theorem fn_inout {x qual : Str} {st : Stmt} {f : Addr} {fd : FuncData} {N ps : List Str} {k n m : Nat} {g : SX} (F : Fun K x qual st f fd) (S : FnScope N ps (defScope st)) (hN : N.length = n + m) (hp : ps.length = n)
    (body : ∀ (cdv : Value) (A : Around) (outer : List Env) (s : Shared) (H : Hp) (E : XK), Room k (A.deeper (envOfC qual (defScope st) s.heap.objs.size f cdv)) → ∃ t, DB (cxOf CX0 P w K mg base N qual (defScope st) f cdv A outer s H E).nox (defBody st) t g) :
    FnOk P w K mg base CX0 (k + 1) f fd ps (spI K n (runI n m g)) := by
  refine F.ok S (fun vs H Q E h => ?_) (fun cdv A outer s H vs Q E hr h => ?_)
  · obtain ⟨M, a, us, d0, ds, z, fr, d', rfl, _, hl, _, _, p, _⟩ := h
    rw [List.length_cons, Pd.len p, hl, hp]
  · obtain ⟨M, a, us, d0, ds, z, fr, d', rfl, hm, hl, ma, oa, p, e, q⟩ := h
    obtain ⟨t, d⟩ := body cdv A outer s H E hr
    refine ⟨t, d.pss, ?_⟩
    unfold runI at e
    rw [if_pos hl] at e
    have hs : L2.start N (.ref a :: us) = some (.ref a) :: (us.map some ++ List.replicate m none) := by
      unfold L2.start
      rw [List.length_cons, Pd.len p, hl, hN, Nat.add_sub_cancel_left]
      rfl
    have own0 : ∀ (i : Nat) (b : Addr), OwnS (L2.start N (.ref a :: us)) (.io d0 :: (ds.map Cell.dat ++ List.replicate m .no)) i b → i = 0 ∧ b = a := by
      intro i b ⟨h1, d'', h2⟩
      cases i with
      | zero =>
        rw [hs] at h1
        have : some (V.ref a) = some (V.ref b) := Option.some.inj h1
        cases this
        exact ⟨rfl, rfl⟩
      | succ i =>
        rcases h2 with h2 | h2
        · exact absurd (show (ds.map Cell.dat ++ List.replicate m Cell.no)[i]? = _ from h2) get_own.1
        · exact absurd (show (ds.map Cell.dat ++ List.replicate m Cell.no)[i]? = _ from h2) get_own.2
    have hmd : ∀ b, Md (L2.start N (.ref a :: us)) (.io d0 :: (ds.map Cell.dat ++ List.replicate m .no)) (fun b => M b ∧ b ≠ a) b ↔ M b := fun b => by
      constructor
      · rintro (h | ⟨i, h⟩)
        · exact h.1
        · rw [(own0 i b h).2]; exact ma
      · intro h
        by_cases hb : b = a
        · exact .inr ⟨0, by rw [hs, hb]; rfl, d0, .inr rfl⟩
        · exact .inl ⟨h, hb⟩
    have emd : Md (L2.start N (.ref a :: us)) (.io d0 :: (ds.map Cell.dat ++ List.replicate m .no)) (fun b => M b ∧ b ≠ a) = M := funext fun b => propext (hmd b)
    have ok : Ok K H [(0, a)] (fun b => M b ∧ b ≠ a) (L2.start N (.ref a :: us)) H (.io d0 :: (ds.map Cell.dat ++ List.replicate m .no)) := by
      refine ⟨?_, fun i d' h => ?_, fun i d' h => ?_, fun i j b h h' => (own0 i b h).1.trans (own0 j b h').1.symm, fun i b h z => z.2 (own0 i b h).2, fun b h => hm b h.1, fun i b d' _ h => ?_, fun i d' h => ?_, fun i b h => ?_, fun b o _ h => h, fun b h => h⟩
      · rw [hs, List.length_cons, List.length_cons, List.length_append, List.length_append, List.length_map, List.length_map, List.length_replicate, List.length_replicate, Pd.len p]
      · rw [emd]
        cases i with
        | zero => cases h
        | succ i =>
          obtain ⟨v, h1, h2⟩ := Pd.get p (get_dat (show (ds.map Cell.dat ++ List.replicate m Cell.no)[i]? = _ from h))
          exact ⟨v, by rw [hs]; exact get_start h1, h2⟩
      · rw [emd]
        cases i with
        | zero =>
          rcases h with h | h
          · cases h
          · cases h
            exact ⟨a, by rw [hs]; rfl, oa⟩
        | succ i =>
          rcases h with h | h
          · exact absurd (show (ds.map Cell.dat ++ List.replicate m Cell.no)[i]? = _ from h) get_own.1
          · exact absurd (show (ds.map Cell.dat ++ List.replicate m Cell.no)[i]? = _ from h) get_own.2
      · cases i with
        | zero => cases h
        | succ i => exact absurd (show (ds.map Cell.dat ++ List.replicate m Cell.no)[i]? = _ from h) get_own.1
      · cases i with
        | zero => exact ⟨a, List.mem_singleton.mpr rfl, by rw [hs]; rfl⟩
        | succ i => exact absurd (show (ds.map Cell.dat ++ List.replicate m Cell.no)[i]? = _ from h) get_own.2
      · have e' := List.mem_singleton.mp h
        cases e'
        exact ⟨d0, rfl, by rw [hs]; rfl⟩
    have exf : ∀ {Y σ' H' c}, Ok K H [(0, a)] Y σ' H' c → ∀ b u, b ≠ a → H b = some u → H' b = some u := fun o b u hb e => o.base b u (fun i h => hb (by cases List.mem_singleton.mp h; rfl)) e
    have ioa : ∀ {Y σ' H' c d'}, Ok K H [(0, a)] Y σ' H' c → c[(0 : Nat)]? = some (.io d') → OwnAt K (cut H' (Md σ' c Y)) (H' a) d' := fun {Y σ' H' c d'} o h => by
      obtain ⟨b, h1, h2⟩ := o.own 0 d' (.inr h)
      obtain ⟨d'', _, h3⟩ := o.ios 0 a (List.mem_singleton.mpr rfl)
      rw [h1] at h3
      cases h3
      exact h2
    have mle : ∀ {σ' c} {Y : Addr → Prop} {b}, (∀ x, (M x ∧ x ≠ a) → Y x) → OwnS σ' c 0 a → M b → Md σ' c Y b := fun {σ' c Y b} hY h0 hb => by
      by_cases e : b = a
      · rw [e]; exact .inr ⟨0, h0⟩
      · exact .inl (hY b ⟨hb, e⟩)
    cases er : g (.io d0 :: (ds.map Cell.dat ++ List.replicate m .no)) with
    | none => rw [er] at e; cases e
    | some r =>
      rw [er] at e
      refine d.ss ok er _ ?_
      cases r with
      | nx c =>
        obtain ⟨d2, hc, e⟩ := Option.bind_eq_some_iff.mp (show (io0 c).bind _ = _ from e)
        have hc := io0_of hc
        cases e
        intro σ' H' p'
        have io0 := ioa p'.ok hc
        obtain ⟨d3, _, h3⟩ := p'.ok.ios 0 a (List.mem_singleton.mpr rfl)
        refine q _ H' (exf p'.ok) (io0.mono (le_cut fun b u e' n' => ⟨e', fun z => ?_⟩)) (VOk.of .non)
        rcases z with z | z
        · exact n' (mle (fun x h => h) ⟨h3, _, .inr hc⟩ z)
        · cases z.1
      | rt d2 fr2 c =>
        obtain ⟨d3, hc, e⟩ := Option.bind_eq_some_iff.mp (show (io0 c).bind _ = _ from e)
        have hc := io0_of hc
        cases e
        intro v σ' H' p'
        obtain ⟨d4, _, h3⟩ := p'.post.ok.ios 0 a (List.mem_singleton.mpr rfl)
        have h0 : OwnS σ' c 0 a := ⟨h3, _, .inr hc⟩
        unfold Pe at p'
        cases fr with
        | false =>
          obtain ⟨p1, r1⟩ := p'
          refine q v H' (exf p1.ok) ((ioa p1.ok hc).mono (le_cut fun b u e' n' => ⟨e', fun z => ?_⟩)) (VOk.of (r1.mono (le_cut fun b u e' n' => ⟨e', fun z => n' (mle (fun x h => h) h0 z)⟩)))
          rcases z with z | z
          · exact n' (mle (fun x h => h) h0 z)
          · cases z.1
        | true =>
          obtain ⟨p2, rfl, hp2, p1, o1⟩ := p'
          refine q _ H' (exf p1.ok) ((ioa p1.ok hc).mono (le_cut fun b u e' n' => ⟨e', fun z => ?_⟩)) ⟨p2, rfl, hp2, o1.mono (le_cut fun b u e' n' => ⟨e', fun z => ?_⟩)⟩
          · rcases z with z | ⟨_, z⟩
            · exact n' (mle (fun x h => .inl h) h0 z)
            · cases z
              exact n' (.inl (.inr rfl))
          · rcases z with z | z
            · exact n' (mle (fun x h => .inl h) h0 z)
            · exact n' (.inl (.inr z))
      | bk c => cases e
      | ct c => cases e
end
/-! ### calls of defs -/
section
variable {X : Cx} {e : Expr} {es : List Expr} {ts : TA} {fs : AX} {x : Str} {f : Addr} {fd : FuncData} {ps : List Str} {k n : Nat} {p pos : Pos} {F : GA} {G : GI}
def gN (n : Nat) (F : GA) : GA := fun ds => if ds.length = n then F ds else none
theorem sc_fn {K : PySem.W.Frag} : SRC K (fun vs H Q => spP K n F (vs ++ []) H Q E0) (gN n F) := by
  intro H M hm xs ds r z fr e Q q
  unfold gN at e
  split at e
  · rename_i hl
    exact ⟨M, ds, z, fr, hm, hl, by rw [List.append_nil]; exact r, e, q⟩
  · cases e
theorem de_call (hF : FnOk X.prog X.w X.K X.mg X.base CX0 k f fd ps (spP X.K n F)) (hr : Room k X.A) (hg : Gl X x) (hm : X.mg x = some (.ref f)) (hk : PySem.W.keepIn X.K (.ref f) = true) (hb : Binds X.K fd ps []) (ha : DA X (e :: es) ts fs)
    (hdb : (x == ("__debug__" : Str)) = false := by decide) (he : starEach (e :: es) X.env = (false, eval e X.env) :: starEach es X.env := by rfl) (hpl : (backTo pos (starEach es X.env)).any (·.1) = false := by rfl) :
    DE X (.Call (.Name x p) (e :: es) [] pos) (tCall (spP X.K n F) [] E0 ts) (evA (gN n F) fs) := ⟨pe_call hF hr hg hm hk hb .nil pass0 ha.pa hdb he hpl, se_A ha.sa sc_fn⟩
theorem de_call0 (hF : FnOk X.prog X.w X.K X.mg X.base CX0 k f fd ps (spP X.K n F)) (hr : Room k X.A) (hg : Gl X x) (hm : X.mg x = some (.ref f)) (hk : PySem.W.keepIn X.K (.ref f) = true) (hb : Binds X.K fd ps [])
    (hdb : (x == ("__debug__" : Str)) = false := by decide) : DE X (.Call (.Name x p) [] [] pos) (tCall (spP X.K n F) [] E0 tNil) (evA (gN n F) evNil) := ⟨pe_call0 hF hr hg hm hk hb .nil pass0 hdb, se_A da_nil.sa sc_fn⟩
def isOwn (cs : En) (i : Nat) : Bool := match cs[i]? with
  | some (.own _) => true
  | some (.io _) => true
  | _ => false
theorem Ok.isOwn {K : PySem.W.Frag} {B : Hp} {IO : List (Nat × Addr)} {Z : Addr → Prop} {σ : L2.St} {H : Hp} {cs : En} {i : Nat} (ok : Ok K B IO Z σ H cs) (h : isOwn cs i = true) : ∃ a, σ[i]? = some (some (.ref a)) := by
  unfold Qp.isOwn at h
  split at h
  · rename_i d hd
    obtain ⟨a, h1, _⟩ := ok.own i d (.inl hd)
    exact ⟨a, h1⟩
  · rename_i d hd
    obtain ⟨a, h1, _⟩ := ok.own i d (.inr hd)
    exact ⟨a, h1⟩
  · cases h
def setOwn (cs : En) (i : Nat) (d : D) : Option En := match cs[i]? with
  | some (.own _) => some (cs.set i (.own d))
  | some (.io _) => some (cs.set i (.io d))
  | _ => none
def evCI (n : Nat) (G : GI) (i : Nat) (fs : AX) : EX := fun cs => if isOwn cs i = true then (fs cs).bind fun r => if r.1.length + 1 = n then (cont r.2 i).bind fun d => (G d r.1).bind fun z => (setOwn r.2 i z.2.2).bind fun c => some (z.1, false, c) else none else none
theorem se_CI {K : PySem.W.Frag} {i : Nat} (ha : SA K ts fs) : SE K (tCall (spI K n G) [] E0 (tCons (tVar i) ts)) (evCI n G i fs) := by
  intro B IO Z σ H cs ok d fr cs' e Q q
  unfold evCI at e
  split at e
  · rename_i ho
    obtain ⟨⟨ds, c1⟩, e1, e⟩ := Option.bind_eq_some_iff.mp e
    dsimp only at e
    split at e
    · rename_i hl
      obtain ⟨d0, e2, e⟩ := Option.bind_eq_some_iff.mp e
      obtain ⟨⟨z, fz, d'⟩, e3, e⟩ := Option.bind_eq_some_iff.mp e
      obtain ⟨c2, e4, e⟩ := Option.bind_eq_some_iff.mp e
      cases e
      obtain ⟨a, hs⟩ := ok.isOwn ho
      refine ⟨_, hs, ha ok e1 _ fun vs H1 p1 r1 => ?_⟩
      have hc : (c1[i]? = some (.own d0) ∧ cs' = c1.set i (.own d')) ∨ (c1[i]? = some (.io d0) ∧ cs' = c1.set i (.io d')) := by
        unfold setOwn at e4
        unfold cont at e2
        dsimp only at e2 e4
        split at e4
        · rename_i dd hd
          rw [hd] at e2
          cases e2
          cases e4
          exact .inl ⟨hd, rfl⟩
        · rename_i dd hd
          rw [hd] at e2
          cases e2
          cases e4
          exact .inr ⟨hd, rfl⟩
        · cases e4
      have hc0 : c1[i]? = some (.own d0) ∨ c1[i]? = some (.io d0) := hc.imp (·.1) (·.1)
      obtain ⟨a', h1, oa⟩ := p1.ok.own i d0 hc0
      rw [hs] at h1
      cases h1
      have ma : Md σ c1 Z a := .inr ⟨i, hs, d0, hc0⟩
      refine ⟨Md σ c1 Z, a, vs, d0, ds, z, fz, d', by rw [List.append_nil], p1.ok.md, hl, ma, oa, r1, e3, fun v H2 kept oa' vo => ?_⟩
      refine q v H2 (Pe.pre p1 ?_)
      have oa2 : OwnAt K (cut H2 (Md σ c1 Z)) (H2 a) d' := oa'.mono (le_cut fun b u e n' => ⟨e, fun z => n' (.inl z)⟩)
      have po : Post K B IO Z σ H1 c1 σ H2 cs' := by
        have po := p1.ok.mutate hs hc0 kept oa2.some oa2
        rcases hc with ⟨h, h'⟩ | ⟨h, h'⟩
        · rw [h] at po; rw [h']; exact po
        · rw [h] at po; rw [h']; exact po
      refine .dat po ?_
      have vo' : Rp K (cut H2 (Md σ c1 Z)) v z := by
        unfold VOk at vo
        cases fz with
        | false => exact vo
        | true =>
          obtain ⟨p2, rfl, hp2, o2⟩ := vo
          exact o2.rp (cut_of fun m => p1.ok.md p2 m hp2) (le_cut fun b u e n' => ⟨e, fun z => n' (.inl z)⟩)
      have sub : ∀ b, Md σ cs' Z b → Md σ c1 Z b := fun b hb => by
        rcases hb with hb | ⟨j, h1, d'', h2⟩
        · exact .inl hb
        · by_cases ej : i = j
          · subst ej
            rw [hs] at h1
            cases h1
            exact ma
          · refine .inr ⟨j, h1, d'', ?_⟩
            rcases hc with ⟨_, h'⟩ | ⟨_, h'⟩
            · rw [h', List.getElem?_set_ne ej] at h2; exact h2
            · rw [h', List.getElem?_set_ne ej] at h2; exact h2
      exact vo'.mono (le_cut fun b u e n' => ⟨e, fun z => n' (sub b z)⟩)
    · cases e
  · cases e
theorem de_callI {i : Nat} {y : Str} {ypos : Pos} (hF : FnOk X.prog X.w X.K X.mg X.base CX0 k f fd ps (spI X.K n G)) (hr : Room k X.A) (hg : Gl X x) (hm : X.mg x = some (.ref f)) (hk : PySem.W.keepIn X.K (.ref f) = true) (hb : Binds X.K fd ps []) (hv : DE X (.Name y ypos) (tVar i) (evVar i)) (ha : DA X es ts fs)
    (hdb : (x == ("__debug__" : Str)) = false := by decide) (he : starEach (.Name y ypos :: es) X.env = (false, eval (.Name y ypos) X.env) :: starEach es X.env := by rfl) (hpl : (backTo pos (starEach es X.env)).any (·.1) = false := by rfl) :
    DE X (.Call (.Name x p) (.Name y ypos :: es) [] pos) (tCall (spI X.K n G) [] E0 (tCons (tVar i) ts)) (evCI n G i fs) := ⟨pe_call hF hr hg hm hk hb .nil pass0 (pa_cons hv.pe ha.pa he) hdb he hpl, se_CI ha.sa⟩
end
end Qp
end
section
set_option Elab.async false
set_option linter.all false
set_option maxRecDepth 100000
set_option maxHeartbeats 2000000
/-! Qk: the words that the printed terms use. -/
namespace Qp
open PySem PySem.Spec PyProof.Rows L2
section
variable {X : Cx} {K : PySem.W.Frag} {e a b : Expr} {es : List Expr} {te ta tb to : TE} {ts : TA} {fe fa fb fo : EX} {fs : AX} {pos fpos cpos xpos : Pos} {x : Str} {i : Nat}
def gSub : G2 := gII fun i j => .int (i - j)
def gMul : G2 := gIIc (fun i j => (decide (-(2 ^ 64) < i) && decide (i < 2 ^ 64)) || (decide (-(2 ^ 64) < j) && decide (j < 2 ^ 64))) fun i j => .int (i * j)
def gFdiv : G2 := gIIc (fun _ j => decide (0 < j) && decide (j < 1073741824)) fun i j => .int (i / j)
def gMod : G2 := gIIc (fun _ j => decide (0 < j)) fun i j => .int (i % j)
def gPow : G2 := gIIc (fun i j => decide (0 ≤ j) && (decide (j ≤ 1000000) && decide (i.natAbs < 2 ^ 64))) fun i j => .int (i ^ j.toNat)
def gLt : G2 := gII fun i j => .bool (decide (i < j))
def gLe : G2 := gII fun i j => .bool (decide (i ≤ j))
def gGt : G2 := gII fun i j => .bool (decide (j < i))
def gGe : G2 := gII fun i j => .bool (decide (j ≤ i))
theorem sr_sub : SR2 K (rI0 fun i j => .int (i - j)) gSub := sr_II (by intro _ _; rfl)
theorem sr_mul : SR2 K (rI CMul fun i j => .int (i * j)) gMul := sr_IIc (fun i j h => by
  rw [Bool.or_eq_true, Bool.and_eq_true, Bool.and_eq_true, decide_eq_true_eq, decide_eq_true_eq, decide_eq_true_eq, decide_eq_true_eq] at h
  exact h) (by intro _ _; rfl)
theorem sr_fdiv : SR2 K (rI CDiv fun i j => .int (i / j)) gFdiv := sr_IIc (fun i j h => by
  rw [Bool.and_eq_true, decide_eq_true_eq, decide_eq_true_eq] at h
  exact h) (by intro _ _; rfl)
theorem sr_mod : SR2 K (rI (fun _ j => 0 < j) fun i j => .int (i % j)) gMod := sr_IIc (fun i j h => of_decide_eq_true h) (by intro _ _; rfl)
theorem sr_pow : SR2 K (rI CPow fun i j => .int (i ^ j.toNat)) gPow := sr_IIc (fun i j h => by
  rw [Bool.and_eq_true, Bool.and_eq_true, decide_eq_true_eq, decide_eq_true_eq, decide_eq_true_eq] at h
  exact h) (by intro _ _; rfl)
theorem sr_lt : SR2 K (rI0 fun i j => .bl (decide (i < j))) gLt := sr_II (by intro _ _; rfl)
theorem sr_le : SR2 K (rI0 fun i j => .bl (decide (i ≤ j))) gLe := sr_II (by intro _ _; rfl)
theorem sr_gt : SR2 K (rI0 fun i j => .bl (decide (j < i))) gGt := sr_II (by intro _ _; rfl)
theorem sr_ge : SR2 K (rI0 fun i j => .bl (decide (j ≤ i))) gGe := sr_II (by intro _ _; rfl)
def gNeg : G1
  | .int i => some (.int (-i), false)
  | _ => none
theorem sr_neg : SR1 K (rU fun i => .int (-i)) gNeg := by
  intro H M hm x d rx z fr q Q k
  unfold gNeg at q
  split at q
  · cases q
    exact ⟨_, rx.int_eq, k _ H (Ex.refl H) (VOk.of (.int _))⟩
  · cases q
/-- in-place + on ints, for a[i] += e -/
def gAddI : G2 := gII fun i j => .int (i + j)
theorem sr_ipadd : SR2 K (ipI fun i j => i + j) gAddI := by
  intro H M hm x y d e rx ry z fr q Q k
  unfold gAddI gII at q
  split at q
  · cases q
    exact ⟨_, _, rx.int_eq, ry.int_eq, k _ H (Ex.refl H) (VOk.of (.int _))⟩
  · cases q
/-- sep.join(list or tuple of texts) -/
def strsOf : List D → Option (List Str)
  | [] => some []
  | .str s :: r => (strsOf r).bind fun t => some (s :: t)
  | _ => none
theorem strs_pd {F : Hp} : ∀ {vs : List V} {ds : List D} {ss : List Str}, Paired (Rp K F) vs ds → strsOf ds = some ss → vs = ss.map V.str
  | _, _, ss, .nil, h => by cases h; rfl
  | _, _, ss, .cons r t, h => by
    unfold strsOf at h
    split at h
    · rename_i hh; cases hh
    · rename_i s r' hh
      cases hh
      obtain ⟨t', h1, h⟩ := Option.bind_eq_some_iff.mp h
      cases h
      rw [r.str_eq, strs_pd t h1]
      rfl
    · cases h
def gJoin (s : Str) (d : D) : Option (D × Bool) := match d with
  | .list ds => (strsOf ds).bind fun ss => if (ss.map (·.length)).sum + ss.length * s.length ≤ LIM then some (.str (Txt.join s ss), false) else none
  | .tuple ds => (strsOf ds).bind fun ss => if (ss.map (·.length)).sum + ss.length * s.length ≤ LIM then some (.str (Txt.join s ss), false) else none
  | _ => none
theorem lim16 {n : Nat} (h : n ≤ LIM) : n ≤ 16777216 := Nat.le_trans h (by decide)
def rJoin (K : PySem.W.Frag) : V → List V → Hp → VK → Prop := fun x xs H Q => ∃ a p, ∃ ys : List Str, x = .str a ∧ xs = [.ref p] ∧ (SqL K H p (ys.map V.str) ∨ SqT K H p (ys.map V.str)) ∧
      (ys.map (·.length)).sum + ys.length * a.length ≤ 16777216 ∧ Q (.str (Txt.join a ys)) H
def evJoin (fo fe : EX) : EX := fun cs => (fo cs).bind fun s => match s.1 with
  | .str t => (fe s.2.2).bind fun r => (gJoin t r.1).bind fun z => some (z.1, z.2, r.2.2)
  | _ => none
theorem de_join {apos : Pos} (ho : DE X a to fo) (he : DE X e te fe) (hs : starEach [e] X.env = [(false, eval e X.env)] := by rfl) (hbase : attributeBase a "join" X.env (eval a X.env) = eval a X.env := by rfl) (hline : (apos.endLine == pos.line) = true := by rfl) :
    DE X (.Call (.Attribute a "join" apos) [e] [] pos) (tM1 (rJoin X.K) to te) (evJoin fo fe) := by
  refine ⟨pe_join ho.pe he.pe hs hbase hline, ?_⟩
  intro B IO Z σ H cs ok d fr cs' e Q q
  unfold evJoin at e
  obtain ⟨⟨d1, f1, c1⟩, e1, e⟩ := Option.bind_eq_some_iff.mp e
  dsimp only at e
  split at e
  · rename_i s
    obtain ⟨⟨d2, f2, c2⟩, e2, e⟩ := Option.bind_eq_some_iff.mp e
    obtain ⟨⟨z, fz⟩, e3, e⟩ := Option.bind_eq_some_iff.mp e
    cases e
    refine ho.se ok e1 _ fun x H1 w1 => ⟨⟨s, w1.rp.str_eq⟩, he.se w1.post.ok e2 _ fun y H2 w2 => ?_⟩
    have p := w1.post.trans w2.post
    unfold gJoin at e3
    dsimp only at e3
    split at e3
    · obtain ⟨ss, h1, e3⟩ := Option.bind_eq_some_iff.mp e3
      split at e3
      · rename_i hl
        cases e3
        obtain ⟨a', xs, rfl, h2, p2⟩ := w2.rp.list
        refine ⟨s, a', ss, w1.rp.str_eq, rfl, .inl ?_, lim16 hl, q _ H2 (.dat p (.str _))⟩
        rw [← strs_pd p2 h1]
        exact cut_le.sqL h2
      · cases e3
    · obtain ⟨ss, h1, e3⟩ := Option.bind_eq_some_iff.mp e3
      split at e3
      · rename_i hl
        cases e3
        obtain ⟨a', xs, rfl, h2, p2⟩ := w2.rp.tuple
        refine ⟨s, a', ss, w1.rp.str_eq, rfl, .inr ?_, lim16 hl, q _ H2 (.dat p (.str _))⟩
        rw [← strs_pd p2 h1]
        exact cut_le.sqT h2
      · cases e3
    · cases e3
  · cases e
end
/-! ### several targets -/
section
variable {X : Cx} {e : Expr} {te : TE} {fe : EX} {pos xpos : Pos} {x : Str} {i : Nat} {tg : Expr} {g : TG} {tgs : List Nat} {fg : GX}
def sAsgT (f : EX) (fg : GX) : SX := fun cs => (f cs).bind fun r => (fg r.1 r.2.2).bind fun c => some (.nx c)
theorem ds_asgT (he : DE X e te fe) (hg : DG X tg g tgs fg) (hs : swapsWithSole [tg] e pos.line X.env = pure false := by rfl) (hw : swappedStores [tg] e X.env = pure none := by rfl)
    (h1 : (assignEach [tg] X.env).map (·.2) = [assign tg X.env] := by rfl) : DS X (.Assign [tg] e pos) (tAsg te g) (sAsgT fe fg) := by
  refine ⟨ps_asg he.pe hg.pg hs hw h1, ?_⟩
  intro B IO Z σ H cs ok r e Dn q
  unfold sAsgT at e
  obtain ⟨⟨d1, f1, c1⟩, e1, e⟩ := Option.bind_eq_some_iff.mp e
  obtain ⟨c2, e2, e⟩ := Option.bind_eq_some_iff.mp e
  cases e
  exact he.se ok e1 _ fun v H1 w => hg.sg w.post.ok w.rp e2 _ fun σ' H' p _ => q σ' H' (w.post.trans p)
end
/-! ### a def of the text for its callers -/
structure Cal (P : Program) (w : World) (K : PySem.W.Frag) (mg : Str → Option Value) (base : Heap) (x : Str) (k : Nat) (ps : List Str) (sp : Sp) where
  f : Addr
  fd : FuncData
  ok : FnOk P w K mg base CX0 k f fd ps sp
  b : Binds K fd ps []
  kp : PySem.W.keepIn K (.ref f) = true
  m : mg x = some (.ref f)
section
variable {X : Cx} {e : Expr} {es : List Expr} {ts : TA} {fs : AX} {x : Str} {ps : List Str} {k n : Nat} {p pos : Pos} {F : GA} {G : GI}
theorem dc (c : Cal X.prog X.w X.K X.mg X.base x k ps (spP X.K n F)) (hr : Room k X.A) (ha : DA X (e :: es) ts fs) (hg : Gl X x := by rfl)
    (hdb : (x == ("__debug__" : Str)) = false := by decide) (he : starEach (e :: es) X.env = (false, eval e X.env) :: starEach es X.env := by rfl) (hpl : (backTo pos (starEach es X.env)).any (·.1) = false := by rfl) :
    DE X (.Call (.Name x p) (e :: es) [] pos) (tCall (spP X.K n F) [] E0 ts) (evA (gN n F) fs) := de_call c.ok hr hg c.m c.kp c.b ha hdb he hpl
theorem dc0 (c : Cal X.prog X.w X.K X.mg X.base x k ps (spP X.K n F)) (hr : Room k X.A) (hg : Gl X x := by rfl) (hdb : (x == ("__debug__" : Str)) = false := by decide) : DE X (.Call (.Name x p) [] [] pos) (tCall (spP X.K n F) [] E0 tNil) (evA (gN n F) evNil) := de_call0 c.ok hr hg c.m c.kp c.b hdb
theorem dcI {i : Nat} {y : Str} {ypos : Pos} (c : Cal X.prog X.w X.K X.mg X.base x k ps (spI X.K n G)) (hr : Room k X.A) (hv : DE X (.Name y ypos) (tVar i) (evVar i)) (ha : DA X es ts fs) (hg : Gl X x := by rfl)
    (hdb : (x == ("__debug__" : Str)) = false := by decide) (he : starEach (.Name y ypos :: es) X.env = (false, eval (.Name y ypos) X.env) :: starEach es X.env := by rfl) (hpl : (backTo pos (starEach es X.env)).any (·.1) = false := by rfl) :
    DE X (.Call (.Name x p) (.Name y ypos :: es) [] pos) (tCall (spI X.K n G) [] E0 (tCons (tVar i) ts)) (evCI n G i fs) := de_callI c.ok hr hg c.m c.kp c.b hv ha hdb he hpl
end
/-! ### the law's end -/
theorem law_sp {K : PySem.W.Frag} {F : GA} {ns : List Int} {H : Hp} {a : Addr} (h : SqL K H a (ns.map V.int)) (e : F [.list (ns.map .int)] = some (.bool true, false)) : spP K 1 F [.ref a] H (fun v _ => v = .bl true) fun _ _ _ => False := by
  have c : cut H (fun _ => False) = H := funext fun b => cut_of (fun z => z)
  refine ⟨fun _ => False, [.list (ns.map .int)], .bool true, false, fun _ z => z.elim, rfl, .cons ?_ .nil, e, fun v H' _ r => (show Rp K _ v (.bool true) from r).bool_eq⟩
  rw [c]
  refine .lst h ?_
  clear h e
  induction ns with
  | nil => exact .nil
  | cons n r ih => exact .cons (.int n) ih
end Qp
end
section
set_option Elab.async false
set_option linter.all false
set_option maxRecDepth 100000
set_option maxHeartbeats 2000000
/-! Ql: how the codes are reckoned, from within: a part is entered when what is ahead of it is known. -/
namespace Qp
open PySem PySem.Spec PyProof.Rows L2
abbrev OE := Option (D × Bool × En)
section
variable {d x y z : D} {fr f1 b : Bool} {c cs c1 : En} {i n m : Nat} {f fa fb fe fi : EX} {g : G2} {u : G1} {G : GA} {fs : AX} {t s : TX} {p q : SX} {xs : List D}
def fin (c : En) (o : Option (D × Bool)) : OE := o.bind fun z => some (z.1, z.2, c)
@[simp] theorem fin_s : fin c (some (z, fr)) = some (z, fr, c) := rfl
@[simp] theorem evC_ap : evC d cs = some (d, false, cs) := rfl
def kC (o : Option Cell) : Option D := match o with
  | some (.dat d) => some d
  | some (.own d) => some d
  | some (.io d) => some d
  | _ => none
@[simp] theorem cont_ap : cont cs i = kC cs[i]? := rfl
@[simp] theorem kC_d : kC (some (.dat d)) = some d := rfl
@[simp] theorem kC_o : kC (some (.own d)) = some d := rfl
@[simp] theorem kC_i : kC (some (.io d)) = some d := rfl
def kVar (i : Nat) (cs : En) (o : Option Cell) : OE := match o with
  | some (.dat d) => some (d, false, cs)
  | some (.own d) => some (d, false, cs.set i (.dat d))
  | _ => none
@[simp] theorem evVar_ap : evVar i cs = kVar i cs cs[i]? := rfl
@[simp] theorem kVar_d : kVar i cs (some (.dat d)) = some (d, false, cs) := rfl
@[simp] theorem kVar_o : kVar i cs (some (.own d)) = some (d, false, cs.set i (.dat d)) := rfl
def k2' (g : G2) (x : D) (o : OE) : OE := o.bind fun r => fin r.2.2 (g x r.1)
def k2 (g : G2) (fb : EX) (o : OE) : OE := o.bind fun r => k2' g r.1 (fb r.2.2)
@[simp] theorem ev2_ap : ev2 g fa fb cs = k2 g fb (fa cs) := rfl
@[simp] theorem k2_s : k2 g fb (some (x, f1, c)) = k2' g x (fb c) := rfl
@[simp] theorem k2'_s : k2' g x (some (y, f1, c)) = fin c (g x y) := rfl
def k1 (u : G1) (o : OE) : OE := o.bind fun r => fin r.2.2 (u r.1)
@[simp] theorem ev1_ap : ev1 u fa cs = k1 u (fa cs) := rfl
@[simp] theorem k1_s : k1 u (some (x, f1, c)) = fin c (u x) := rfl
def kT (o : OE) : Option (Bool × En) := o.bind fun r => match r.1 with
  | .bool b => some (b, r.2.2)
  | _ => none
@[simp] theorem evT_ap : evT fa cs = kT (fa cs) := rfl
@[simp] theorem kT_s : kT (some (.bool b, f1, c)) = some (b, c) := rfl
def kAndT (t : TX) (o : Option (Bool × En)) : Option (Bool × En) := o.bind fun r => if r.1 = true then t r.2 else some (false, r.2)
@[simp] theorem evAndT_ap : evAndT t s cs = kAndT s (t cs) := rfl
@[simp] theorem kAndT_t : kAndT s (some (true, c)) = s c := rfl
@[simp] theorem kAndT_f : kAndT s (some (false, c)) = some (false, c) := rfl
def kOrT (t : TX) (o : Option (Bool × En)) : Option (Bool × En) := o.bind fun r => if r.1 = true then some (true, r.2) else t r.2
@[simp] theorem evOrT_ap : evOrT t s cs = kOrT s (t cs) := rfl
@[simp] theorem kOrT_t : kOrT s (some (true, c)) = some (true, c) := rfl
@[simp] theorem kOrT_f : kOrT s (some (false, c)) = s c := rfl
def kNotT (o : Option (Bool × En)) : Option (Bool × En) := o.bind fun r => some (!r.1, r.2)
@[simp] theorem evNotT_ap : evNotT t cs = kNotT (t cs) := rfl
@[simp] theorem kNotT_s : kNotT (some (b, c)) = some (!b, c) := rfl
def kAndV (g : EX) (o : OE) : OE := o.bind fun r => match r.1 with
  | .bool true => g r.2.2
  | .bool false => some (.bool false, false, r.2.2)
  | _ => none
@[simp] theorem evAndV_ap : evAndV fa fb cs = kAndV fb (fa cs) := rfl
@[simp] theorem kAndV_t : kAndV fb (some (.bool true, f1, c)) = fb c := rfl
@[simp] theorem kAndV_f : kAndV fb (some (.bool false, f1, c)) = some (.bool false, false, c) := rfl
def kOrV (g : EX) (o : OE) : OE := o.bind fun r => match r.1 with
  | .bool true => some (.bool true, false, r.2.2)
  | .bool false => g r.2.2
  | _ => none
@[simp] theorem evOrV_ap : evOrV fa fb cs = kOrV fb (fa cs) := rfl
@[simp] theorem kOrV_t : kOrV fb (some (.bool true, f1, c)) = some (.bool true, false, c) := rfl
@[simp] theorem kOrV_f : kOrV fb (some (.bool false, f1, c)) = fb c := rfl
def kNotV (o : OE) : OE := o.bind fun r => match r.1 with
  | .bool b => some (.bool (!b), false, r.2.2)
  | _ => none
@[simp] theorem evNotV_ap : evNotV fa cs = kNotV (fa cs) := rfl
@[simp] theorem kNotV_s : kNotV (some (.bool b, f1, c)) = some (.bool (!b), false, c) := rfl
def kIfE (f g : EX) (o : Option (Bool × En)) : OE := o.bind fun r => if r.1 = true then f r.2 else g r.2
@[simp] theorem evIf_ap : evIf t fa fb cs = kIfE fa fb (t cs) := rfl
@[simp] theorem kIfE_t : kIfE fa fb (some (true, c)) = fa c := rfl
@[simp] theorem kIfE_f : kIfE fa fb (some (false, c)) = fb c := rfl
@[simp] theorem evNil_ap : evNil cs = some ([], cs) := rfl
def kCons' (x : D) (o : Option (List D × En)) : Option (List D × En) := o.bind fun s => some (x :: s.1, s.2)
def kCons (g : AX) (o : OE) : Option (List D × En) := o.bind fun r => kCons' r.1 (g r.2.2)
@[simp] theorem evCons_ap : evCons fa fs cs = kCons fs (fa cs) := rfl
@[simp] theorem kCons_s : kCons fs (some (x, f1, c)) = kCons' x (fs c) := rfl
@[simp] theorem kCons'_s : kCons' x (some (xs, c)) = some (x :: xs, c) := rfl
def kA (g : GA) (o : Option (List D × En)) : OE := o.bind fun r => fin r.2 (g r.1)
@[simp] theorem evA_ap : evA G fs cs = kA G (fs cs) := rfl
@[simp] theorem kA_s : kA G (some (xs, c)) = fin c (G xs) := rfl
@[simp] theorem gOne_ap : gOne u [d] = u d := rfl
@[simp] theorem gN0 : gN 0 G [] = G [] := rfl
@[simp] theorem gN1 : gN 1 G [x] = G [x] := rfl
@[simp] theorem gN2 : gN 2 G [x, y] = G [x, y] := rfl
@[simp] theorem gN3 : gN 3 G [x, y, z] = G [x, y, z] := rfl
@[simp] theorem gN4 : gN 4 G [x, y, z, d] = G [x, y, z, d] := rfl
def kI2 (g : G2) (y : D) (c : En) (o : Option D) : OE := o.bind fun d => fin c (g d y)
def kI1 (g : G2) (i : Nat) (o : OE) : OE := o.bind fun s => kI2 g s.1 s.2.2 (cont s.2.2 i)
def kI0 (g : G2) (i : Nat) (fb : EX) (cs : En) (o : Option D) : OE := o.bind fun _ => kI1 g i (fb cs)
@[simp] theorem evIxV_ap : evIxV g i fb cs = kI0 g i fb cs (cont cs i) := rfl
@[simp] theorem kI0_s : kI0 g i fb cs (some d) = kI1 g i (fb cs) := rfl
@[simp] theorem kI1_s : kI1 g i (some (y, f1, c)) = kI2 g y c (cont c i) := rfl
@[simp] theorem kI2_s : kI2 g y c (some d) = fin c (g d y) := rfl
def kV2 (g : G2) (x : D) (c : En) (o : Option D) : OE := o.bind fun d => fin c (g x d)
def kV1 (g : G2) (i : Nat) (o : OE) : OE := o.bind fun s => kV2 g s.1 s.2.2 (cont s.2.2 i)
@[simp] theorem evVIn_ap : evVIn g fa i cs = kV1 g i (fa cs) := rfl
@[simp] theorem kV1_s : kV1 g i (some (x, f1, c)) = kV2 g x c (cont c i) := rfl
@[simp] theorem kV2_s : kV2 g x c (some d) = fin c (g x d) := rfl
def kU (u : G1) (c : En) (o : Option D) : OE := o.bind fun d => fin c (u d)
@[simp] theorem evV1_ap : evV1 u i cs = kU u cs (cont cs i) := rfl
@[simp] theorem kU_s : kU u c (some d) = fin c (u d) := rfl
def kIsi (n : String) (c : En) (o : Option D) : OE := o.bind fun d => (kitB (tyD d) n).bind fun b => some (.bool b, false, c)
@[simp] theorem evIsiV_ap {n : String} : evIsiV n i cs = kIsi n cs (cont cs i) := rfl
def kIsiE (n : String) (o : OE) : OE := o.bind fun r => kIsi n r.2.2 (some r.1)
@[simp] theorem evIsi_ap {n : String} : evIsi n fa cs = kIsiE n (fa cs) := rfl
@[simp] theorem kIsiE_s {n : String} : kIsiE n (some (d, f1, c)) = kIsi n c (some d) := rfl
/-- which of the six types a datum has -/
def isT (n : String) : D → Bool
  | .none => false
  | .bool _ => n == "bool" || n == "int"
  | .int _ => n == "int"
  | .str _ => n == "str"
  | .list _ => n == "list"
  | .tuple _ => n == "tuple"
  | .dict _ => n == "dict"
theorem kit_isT {n : String} (h : n ∈ ["int", "bool", "str", "list", "tuple", "dict"]) (d : D) : kitB (tyD d) n = some (isT n d) := by
  have k : ∀ a ∈ ["NoneType", "bool", "int", "str", "list", "tuple", "dict"], ∀ n ∈ ["int", "bool", "str", "list", "tuple", "dict"], kitB a n = some (a == n || (a == "bool" && n == "int")) := by decide +kernel
  have e : ∀ n ∈ ["int", "bool", "str", "list", "tuple", "dict"], ∀ d : D, (tyD d == n || (tyD d == "bool" && n == "int")) = isT n d := by
    intro n h d
    simp only [List.mem_cons, List.not_mem_nil, or_false] at h
    rcases h with rfl | rfl | rfl | rfl | rfl | rfl <;> cases d <;> rfl
  rw [k (tyD d) (by cases d <;> simp [tyD]) n h, e n h d]
theorem kIsi_of {n : String} (h : n ∈ ["int", "bool", "str", "list", "tuple", "dict"]) : kIsi n c (some d) = some (.bool (isT n d), false, c) := by
  show (kitB (tyD d) n).bind _ = _
  rw [kit_isT h d]
  rfl
@[simp] theorem kIsi_int : kIsi "int" c (some d) = some (.bool (isT "int" d), false, c) := kIsi_of (by decide)
@[simp] theorem kIsi_bool : kIsi "bool" c (some d) = some (.bool (isT "bool" d), false, c) := kIsi_of (by decide)
@[simp] theorem kIsi_str : kIsi "str" c (some d) = some (.bool (isT "str" d), false, c) := kIsi_of (by decide)
@[simp] theorem kIsi_list : kIsi "list" c (some d) = some (.bool (isT "list" d), false, c) := kIsi_of (by decide)
@[simp] theorem kIsi_tuple : kIsi "tuple" c (some d) = some (.bool (isT "tuple" d), false, c) := kIsi_of (by decide)
@[simp] theorem kIsi_dict : kIsi "dict" c (some d) = some (.bool (isT "dict" d), false, c) := kIsi_of (by decide)
/-! ### slices -/
@[simp] theorem evO0_ap : evO0 cs = some (none, cs) := rfl
def kO (o : OE) : Option (Option Int × En) := o.bind fun r => match r.1 with
  | .int i => some (some i, r.2.2)
  | _ => none
@[simp] theorem evO1_ap : evO1 fa cs = kO (fa cs) := rfl
@[simp] theorem kO_s {j : Int} : kO (some (.int j, f1, c)) = some (some j, c) := rfl
variable {fl fh : OX} {o1 o2 : Option Int}
def kS3 (d : D) (lo : Option Int) (o : Option (Option Int × En)) : OE := o.bind fun u => fin u.2 (gSl d lo u.1)
def kS2 (fh : OX) (d : D) (o : Option (Option Int × En)) : OE := o.bind fun s => kS3 d s.1 (fh s.2)
def kS1 (fl fh : OX) (o : OE) : OE := o.bind fun r => kS2 fh r.1 (fl r.2.2)
@[simp] theorem evSl_ap : evSl fa fl fh cs = kS1 fl fh (fa cs) := rfl
@[simp] theorem kS1_s : kS1 fl fh (some (d, f1, c)) = kS2 fh d (fl c) := rfl
@[simp] theorem kS2_s : kS2 fh d (some (o1, c)) = kS3 d o1 (fh c) := rfl
@[simp] theorem kS3_s : kS3 d o1 (some (o2, c)) = fin c (gSl d o1 o2) := rfl
def kSV4 (lo hi : Option Int) (c : En) (o : Option D) : OE := o.bind fun d => fin c (gSl d lo hi)
def kSV3 (i : Nat) (lo : Option Int) (o : Option (Option Int × En)) : OE := o.bind fun u => kSV4 lo u.1 u.2 (cont u.2 i)
def kSV2 (fh : OX) (i : Nat) (o : Option (Option Int × En)) : OE := o.bind fun s => kSV3 i s.1 (fh s.2)
def kSV1 (fl fh : OX) (i : Nat) (cs : En) (o : Option D) : OE := o.bind fun _ => kSV2 fh i (fl cs)
@[simp] theorem evSlV_ap : evSlV i fl fh cs = kSV1 fl fh i cs (cont cs i) := rfl
@[simp] theorem kSV1_s : kSV1 fl fh i cs (some d) = kSV2 fh i (fl cs) := rfl
@[simp] theorem kSV2_s : kSV2 fh i (some (o1, c)) = kSV3 i o1 (fh c) := rfl
@[simp] theorem kSV3_s : kSV3 i o1 (some (o2, c)) = kSV4 o1 o2 c (cont c i) := rfl
@[simp] theorem kSV4_s : kSV4 o1 o2 c (some d) = fin c (gSl d o1 o2) := rfl
/-! ### changes -/
def kOwnL (o : Option Cell) : Bool := match o with
  | some (.own (.list _)) => true
  | some (.io (.list _)) => true
  | _ => false
@[simp] theorem isOwnL_ap : isOwnL cs i = kOwnL cs[i]? := rfl
@[simp] theorem kOwnL_o : kOwnL (some (.own (.list xs))) = true := rfl
@[simp] theorem kOwnL_i : kOwnL (some (.io (.list xs))) = true := rfl
def kUp (cs : En) (i : Nat) (f : D → Option D) (o : Option Cell) : Option En := match o with
  | some (.own d) => (f d).bind fun d' => some (cs.set i (.own d'))
  | some (.io d) => (f d).bind fun d' => some (cs.set i (.io d'))
  | _ => none
def kUpO (cs : En) (i : Nat) (o : Option D) : Option En := o.bind fun d' => some (cs.set i (.own d'))
def kUpI (cs : En) (i : Nat) (o : Option D) : Option En := o.bind fun d' => some (cs.set i (.io d'))
variable {h : D → Option D}
@[simp] theorem upL_ap : upL cs i h = kUp cs i h cs[i]? := rfl
@[simp] theorem kUp_o : kUp cs i h (some (.own d)) = kUpO cs i (h d) := rfl
@[simp] theorem kUp_i : kUp cs i h (some (.io d)) = kUpI cs i (h d) := rfl
@[simp] theorem kUpO_s : kUpO cs i (some d) = some (cs.set i (.own d)) := rfl
@[simp] theorem kUpI_s : kUpI cs i (some d) = some (cs.set i (.io d)) := rfl
def kApp2 (o : Option En) : OE := o.bind fun c => some (.none, false, c)
def kApp1 (i : Nat) (o : OE) : OE := o.bind fun r => kApp2 (upL r.2.2 i (fApp r.1))
def kApp0 (i : Nat) (f : EX) (cs : En) (b : Bool) : OE := if b = true then kApp1 i (f cs) else none
@[simp] theorem evApp_ap : evApp i f cs = kApp0 i f cs (isOwnL cs i) := rfl
@[simp] theorem kApp0_t : kApp0 i f cs true = kApp1 i (f cs) := rfl
@[simp] theorem kApp1_s : kApp1 i (some (d, f1, c)) = kApp2 (upL c i (fApp d)) := rfl
@[simp] theorem kApp2_s : kApp2 (some c) = some (.none, false, c) := rfl
theorem fApp_of (h : xs.length < LIM) : fApp d (.list xs) = some (.list (xs ++ [d])) := by
  show (if xs.length < LIM then _ else _) = _
  rw [if_pos h]
/-! ### statements -/
@[simp] theorem sNx_ap : sNx cs = some (.nx cs) := rfl
@[simp] theorem sBk_ap : sBk cs = some (.bk cs) := rfl
@[simp] theorem sCt_ap : sCt cs = some (.ct cs) := rfl
@[simp] theorem sRetN_ap : sRetN cs = some (.rt .none false cs) := rfl
def kSeq (q : SX) (o : Option Res) : Option Res := o.bind fun r => match r with
  | .nx c => q c
  | r => some r
@[simp] theorem sSeq_ap : sSeq p q cs = kSeq q (p cs) := rfl
@[simp] theorem kSeq_n : kSeq q (some (.nx c)) = q c := rfl
@[simp] theorem kSeq_r : kSeq q (some (.rt d fr c)) = some (.rt d fr c) := rfl
@[simp] theorem kSeq_b : kSeq q (some (.bk c)) = some (.bk c) := rfl
@[simp] theorem kSeq_c : kSeq q (some (.ct c)) = some (.ct c) := rfl
def kIf (p q : SX) (o : Option (Bool × En)) : Option Res := o.bind fun r => if r.1 = true then p r.2 else q r.2
@[simp] theorem sIf_ap : sIf t p q cs = kIf p q (t cs) := rfl
@[simp] theorem kIf_t : kIf p q (some (true, c)) = p c := rfl
@[simp] theorem kIf_f : kIf p q (some (false, c)) = q c := rfl
def kDrop (o : OE) : Option Res := o.bind fun r => some (.nx r.2.2)
@[simp] theorem sDrop_ap : sDrop f cs = kDrop (f cs) := rfl
@[simp] theorem kDrop_s : kDrop (some (d, f1, c)) = some (.nx c) := rfl
def kRet (o : OE) : Option Res := o.bind fun r => some (.rt r.1 r.2.1 r.2.2)
@[simp] theorem sRet_ap : sRet f cs = kRet (f cs) := rfl
@[simp] theorem kRet_s : kRet (some (d, f1, c)) = some (.rt d f1 c) := rfl
def kNo (o : Option Cell) : Bool := match o with
  | some (.io _) => false
  | some _ => true
  | none => false
@[simp] theorem noIo_ap : noIo cs i = kNo cs[i]? := rfl
@[simp] theorem kNo_n : kNo (some .no) = true := rfl
@[simp] theorem kNo_d : kNo (some (.dat d)) = true := rfl
@[simp] theorem kNo_o : kNo (some (.own d)) = true := rfl
@[simp] theorem cellOf_t : Qp.cellOf true d = .own d := rfl
@[simp] theorem cellOf_f : Qp.cellOf false d = .dat d := rfl
def kAsg' (i : Nat) (d : D) (fr : Bool) (c : En) (b : Bool) : Option Res := if b = true then some (.nx (c.set i (Qp.cellOf fr d))) else none
def kAsg (i : Nat) (o : OE) : Option Res := o.bind fun r => kAsg' i r.1 r.2.1 r.2.2 (noIo r.2.2 i)
@[simp] theorem sAsg_ap : sAsg i f cs = kAsg i (f cs) := rfl
@[simp] theorem kAsg_s : kAsg i (some (d, fr, c)) = kAsg' i d fr c (noIo c i) := rfl
@[simp] theorem kAsg'_t : kAsg' i d fr c true = some (.nx (c.set i (Qp.cellOf fr d))) := rfl
variable {gt : GX} {tg : GsX} {ft : TX} {items acc : List D} {fx : IX} {vs : List Nat}
def kAT2 (o : Option En) : Option Res := o.bind fun c => some (.nx c)
def kAT (gt : GX) (o : OE) : Option Res := o.bind fun r => kAT2 (gt r.1 r.2.2)
@[simp] theorem sAsgT_ap : sAsgT f gt cs = kAT gt (f cs) := rfl
@[simp] theorem kAT_s : kAT gt (some (d, fr, c)) = kAT2 (gt d c) := rfl
@[simp] theorem kAT2_s : kAT2 (some c) = some (.nx c) := rfl
def kSet3 (o : Option En) : Option Res := o.bind fun c => some (.nx c)
def kSet2 (i : Nat) (x : D) (o : OE) : Option Res := o.bind fun s => kSet3 (upL s.2.2 i (fSet s.1 x))
def kSet1 (i : Nat) (fi : EX) (x : D) (c : En) (b : Bool) : Option Res := if b = true then kSet2 i x (fi c) else none
def kSet (i : Nat) (fi : EX) (o : OE) : Option Res := o.bind fun r => kSet1 i fi r.1 r.2.2 (isOwnL r.2.2 i)
@[simp] theorem sSet_ap : sSet i fi fe cs = kSet i fi (fe cs) := rfl
@[simp] theorem kSet_s : kSet i fi (some (x, f1, c)) = kSet1 i fi x c (isOwnL c i) := rfl
@[simp] theorem kSet1_t : kSet1 i fi x c true = kSet2 i x (fi c) := rfl
@[simp] theorem kSet2_s : kSet2 i x (some (y, f1, c)) = kSet3 (upL c i (fSet y x)) := rfl
@[simp] theorem kSet3_s : kSet3 (some c) = some (.nx c) := rfl
def kG4 (i : Nat) (k : D) (c : En) (o : Option (D × Bool)) : Option Res := o.bind fun z => if z.2 = false then kSet3 (upL c i (fSet k z.1)) else none
def kG3 (g : G2) (i : Nat) (k old : D) (o : OE) : Option Res := o.bind fun r => kG4 i k r.2.2 (g old r.1)
def kG2 (g : G2) (i : Nat) (fe : EX) (k : D) (c : En) (o : Option D) : Option Res := o.bind fun old => kG3 g i k old (fe c)
def kG1 (g : G2) (i : Nat) (fe : EX) (k : D) (c : En) (o : Option D) : Option Res := o.bind fun d => kG2 g i fe k c (getL d k)
def kG (g : G2) (i : Nat) (fe : EX) (o : OE) : Option Res := o.bind fun s => kG1 g i fe s.1 s.2.2 (cont s.2.2 i)
def kG0 (g : G2) (i : Nat) (fi fe : EX) (cs : En) (b : Bool) : Option Res := if b = true then kG g i fe (fi cs) else none
@[simp] theorem sAugIx_ap : sAugIx g i fi fe cs = kG0 g i fi fe cs (isOwnL cs i) := by
  unfold sAugIx kG0 kG kG1 kG2 kG3 kG4 kSet3
  rfl
@[simp] theorem kG0_t : kG0 g i fi fe cs true = kG g i fe (fi cs) := rfl
@[simp] theorem kG_s : kG g i fe (some (x, f1, c)) = kG1 g i fe x c (cont c i) := rfl
@[simp] theorem kG1_s : kG1 g i fe x c (some d) = kG2 g i fe x c (getL d x) := rfl
@[simp] theorem kG2_s : kG2 g i fe x c (some d) = kG3 g i x d (fe c) := rfl
@[simp] theorem kG3_s : kG3 g i x d (some (y, f1, c)) = kG4 i x c (g d y) := rfl
@[simp] theorem kG4_s : kG4 i x c (some (y, false)) = kSet3 (upL c i (fSet x y)) := rfl
/-! ### loops -/
def kFor (gt : GX) (p : SX) (o : Option (List D × En)) : Option Res := o.bind fun r => loopF gt p r.1 r.2
@[simp] theorem sFor_ap : sFor fx gt p cs = kFor gt p (fx cs) := rfl
@[simp] theorem kFor_s : kFor gt p (some (items, c)) = loopF gt p items c := rfl
@[simp] theorem loopF_nil : loopF gt p [] cs = some (.nx cs) := rfl
def kL2 (gt : GX) (p : SX) (r : List D) (o : Option Res) : Option Res := o.bind fun z => match z with
  | .nx c => loopF gt p r c
  | .ct c => loopF gt p r c
  | .bk c => some (.nx c)
  | .rt d fr c => some (.rt d fr c)
def kL1 (gt : GX) (p : SX) (r : List D) (o : Option En) : Option Res := o.bind fun c => kL2 gt p r (p c)
theorem loopF_cons : loopF gt p (x :: items) cs = kL1 gt p items (gt x cs) := rfl
@[simp] theorem kL1_s : kL1 gt p items (some c) = kL2 gt p items (p c) := rfl
@[simp] theorem kL2_n : kL2 gt p items (some (.nx c)) = loopF gt p items c := rfl
@[simp] theorem kL2_c : kL2 gt p items (some (.ct c)) = loopF gt p items c := rfl
@[simp] theorem kL2_b : kL2 gt p items (some (.bk c)) = some (.nx c) := rfl
@[simp] theorem kL2_r : kL2 gt p items (some (.rt d fr c)) = some (.rt d fr c) := rfl
@[simp] theorem gx_ap : gx i d cs = if kNo cs[i]? = true then some (cs.set i (.dat d)) else none := rfl
@[simp] theorem gxNil_ap : gxNil [] cs = some cs := rfl
def kGx (tg : GsX) (ds : List D) (o : Option En) : Option En := o.bind fun c => tg ds c
@[simp] theorem gxCons_ap : gxCons gt tg (x :: xs) cs = kGx tg xs (gt x cs) := rfl
@[simp] theorem kGx_s : kGx tg xs (some c) = tg xs c := rfl
@[simp] theorem gxTup_ap : gxTup tg n (.tuple xs) cs = if xs.length = n then tg xs cs else none := rfl
def kSq (o : OE) : Option (List D × En) := o.bind fun r => match r.1 with
  | .list ds => some (ds, r.2.2)
  | .tuple ds => some (ds, r.2.2)
  | _ => none
@[simp] theorem ixSeq_ap : ixSeq f cs = kSq (f cs) := rfl
@[simp] theorem kSq_l : kSq (some (.list xs, f1, c)) = some (xs, c) := rfl
@[simp] theorem kSq_t : kSq (some (.tuple xs, f1, c)) = some (xs, c) := rfl
def kR1 (o : Option (List D × En)) : Option (List D × En) := o.bind fun r => match r.1 with
  | [.int j] => if small j = true then some (rngD 0 j.toNat, r.2) else none
  | _ => none
@[simp] theorem ixR1_ap : ixR1 fs cs = kR1 (fs cs) := rfl
theorem kR1_of {j : Int} (h : small j = true) : kR1 (some ([.int j], c)) = some (rngD 0 j.toNat, c) := by
  show (if small j = true then _ else _) = _
  rw [if_pos h]
def kR2 (o : Option (List D × En)) : Option (List D × En) := o.bind fun r => match r.1 with
  | [.int i, .int j] => if (small i && small j) = true then some (rngD i (j - i).toNat, r.2) else none
  | _ => none
@[simp] theorem ixR2_ap : ixR2 fs cs = kR2 (fs cs) := rfl
theorem kR2_of {j k : Int} (h : small j = true) (h' : small k = true) : kR2 (some ([.int j, .int k], c)) = some (rngD j (k - j).toNat, c) := by
  show (if (small j && small k) = true then _ else _) = _
  rw [h, h']
  rfl
def kZip (o : Option (List D × En)) : Option (List D × En) := o.bind fun r => match r.1 with
  | [.list xs, .list ys] => some (zipD xs ys, r.2)
  | _ => none
@[simp] theorem ixZip_ap : ixZip fs cs = kZip (fs cs) := rfl
@[simp] theorem kZip_s {ys : List D} : kZip (some ([.list xs, .list ys], c)) = some (zipD xs ys, c) := rfl
def kEnum (o : Option (List D × En)) : Option (List D × En) := o.bind fun r => match r.1 with
  | [.list xs] => some (enumD 0 xs, r.2)
  | _ => none
@[simp] theorem ixEnum_ap : ixEnum fs cs = kEnum (fs cs) := rfl
@[simp] theorem kEnum_s : kEnum (some ([.list xs], c)) = some (enumD 0 xs, c) := rfl
/-! ### comprehensions -/
def kLc2 (vs : List Nat) (c : En) (o : Option (List D × En)) : OE := o.bind fun z => some (.list z.1, true, rst z.2 c vs)
def kLc1 (gt : GX) (ft : TX) (fe : EX) (vs : List Nat) (items : List D) (c : En) (b : Bool) : OE := if b = true then kLc2 vs c (loopC gt ft fe vs items [] (clr c vs)) else none
def kLc (gt : GX) (ft : TX) (fe : EX) (vs : List Nat) (o : Option (List D × En)) : OE := o.bind fun r => kLc1 gt ft fe vs r.1 r.2 (noOwn r.2 vs)
@[simp] theorem evLc_ap : evLc vs fx gt ft fe cs = kLc gt ft fe vs (fx cs) := rfl
@[simp] theorem kLc_s : kLc gt ft fe vs (some (items, c)) = kLc1 gt ft fe vs items c (noOwn c vs) := rfl
@[simp] theorem kLc1_t : kLc1 gt ft fe vs items c true = kLc2 vs c (loopC gt ft fe vs items [] (clr c vs)) := rfl
@[simp] theorem kLc2_s : kLc2 vs c (some (xs, c1)) = some (.list xs, true, rst c1 c vs) := rfl
@[simp] theorem evYes_ap : evYes cs = some (true, cs) := rfl
@[simp] theorem loopC_nil : loopC gt ft fe vs [] acc cs = some (acc, cs) := rfl
/-- a comprehension whose element is a function of the item and which leaves the cells alone -/
theorem loopC_map {v : D → D} (hx : ∀ x ∈ items, ∃ c1 f1, gt x cs = some c1 ∧ ft c1 = some (true, c1) ∧ fe c1 = some (v x, f1, c1) ∧ noOwn c1 vs = true ∧ clr c1 vs = cs) :
    ∀ acc : List D, acc.length + items.length ≤ LIM → loopC gt ft fe vs items acc cs = some (acc ++ items.map v, cs) := by
  induction items with
  | nil => intro acc _; simp
  | cons x r ih =>
    intro acc hl
    rw [List.length_cons] at hl
    obtain ⟨c1, f1, h1, h2, h3, h4, h5⟩ := hx x List.mem_cons_self
    unfold loopC
    rw [h1, Option.bind_some, h2, Option.bind_some, if_pos rfl, h3, Option.bind_some]
    dsimp only
    rw [h4, h5, show decide (acc.length < LIM) = true from decide_eq_true (by omega)]
    have := ih (fun y hy => hx y (List.mem_cons_of_mem _ hy)) (acc ++ [v x]) (by rw [List.length_append, List.length_singleton]; omega)
    rw [Bool.and_self, if_pos rfl, this, List.append_assoc]
    rfl
/-! ### defs -/
variable {GG : GI}
def kOwnC (o : Option Cell) : Bool := match o with
  | some (.own _) => true
  | some (.io _) => true
  | _ => false
@[simp] theorem isOwn_ap : isOwn cs i = kOwnC cs[i]? := rfl
@[simp] theorem kOwnC_o : kOwnC (some (.own d)) = true := rfl
@[simp] theorem kOwnC_i : kOwnC (some (.io d)) = true := rfl
def kSO (cs : En) (i : Nat) (d : D) (o : Option Cell) : Option En := match o with
  | some (.own _) => some (cs.set i (.own d))
  | some (.io _) => some (cs.set i (.io d))
  | _ => none
@[simp] theorem setOwn_ap : setOwn cs i d = kSO cs i d cs[i]? := rfl
@[simp] theorem kSO_o : kSO cs i d (some (.own x)) = some (cs.set i (.own d)) := rfl
@[simp] theorem kSO_i : kSO cs i d (some (.io x)) = some (cs.set i (.io d)) := rfl
def kCI4 (z : D) (o : Option En) : OE := o.bind fun c => some (z, false, c)
def kCI3 (i : Nat) (c : En) (o : Option (D × Bool × D)) : OE := o.bind fun z => kCI4 z.1 (setOwn c i z.2.2)
def kCI2 (GG : GI) (i : Nat) (xs : List D) (c : En) (o : Option D) : OE := o.bind fun d => kCI3 i c (GG d xs)
def kCI1 (n : Nat) (GG : GI) (i : Nat) (o : Option (List D × En)) : OE := o.bind fun r => if r.1.length + 1 = n then kCI2 GG i r.1 r.2 (cont r.2 i) else none
def kCI0 (n : Nat) (GG : GI) (i : Nat) (fs : AX) (cs : En) (b : Bool) : OE := if b = true then kCI1 n GG i (fs cs) else none
@[simp] theorem evCI_ap : evCI n GG i fs cs = kCI0 n GG i fs cs (isOwn cs i) := rfl
@[simp] theorem kCI0_t : kCI0 n GG i fs cs true = kCI1 n GG i (fs cs) := rfl
@[simp] theorem kCI1_s : kCI1 n GG i (some (xs, c)) = if xs.length + 1 = n then kCI2 GG i xs c (cont c i) else none := rfl
@[simp] theorem kCI2_s : kCI2 GG i xs c (some d) = kCI3 i c (GG d xs) := rfl
@[simp] theorem kCI3_s : kCI3 i c (some (x, fr, d)) = kCI4 x (setOwn c i d) := rfl
@[simp] theorem kCI4_s : kCI4 x (some c) = some (x, false, c) := rfl
@[simp] theorem outP_r : outP (some (.rt d fr c)) = some (d, fr) := rfl
@[simp] theorem outP_n : outP (some (.nx c)) = some (.none, false) := rfl
def kIo (o : Option Cell) : Option D := match o with
  | some (.io d) => some d
  | _ => none
@[simp] theorem io0_ap : io0 cs = kIo cs[(0 : Nat)]? := rfl
@[simp] theorem kIo_i : kIo (some (.io d)) = some d := rfl
def kOut (x : D) (fr : Bool) (o : Option D) : Option (D × Bool × D) := o.bind fun d' => some (x, fr, d')
@[simp] theorem outI_r : outI (some (.rt d fr c)) = kOut d fr (io0 c) := rfl
@[simp] theorem outI_n : outI (some (.nx c)) = kOut .none false (io0 c) := rfl
@[simp] theorem kOut_s : kOut x fr (some d) = some (x, fr, d) := rfl
/-! ### operators -/
variable {j k : Int}
@[simp] theorem gAdd_i : gAdd (.int j) (.int k) = some (.int (j + k), false) := rfl
@[simp] theorem gAddI_i : gAddI (.int j) (.int k) = some (.int (j + k), false) := rfl
@[simp] theorem gSub_i : gSub (.int j) (.int k) = some (.int (j - k), false) := rfl
@[simp] theorem gLt_i : gLt (.int j) (.int k) = some (.bool (decide (j < k)), false) := rfl
@[simp] theorem gLe_i : gLe (.int j) (.int k) = some (.bool (decide (j ≤ k)), false) := rfl
@[simp] theorem gGt_i : gGt (.int j) (.int k) = some (.bool (decide (k < j)), false) := rfl
@[simp] theorem gGe_i : gGe (.int j) (.int k) = some (.bool (decide (k ≤ j)), false) := rfl
@[simp] theorem gNeg_i : gNeg (.int j) = some (.int (-j), false) := rfl
theorem gMod_i (h : 0 < k) : gMod (.int j) (.int k) = some (.int (j % k), false) := by
  show (if decide (0 < k) = true then _ else _) = _
  rw [if_pos (decide_eq_true h)]
theorem gFdiv_i (h : 0 < k) (h2 : k < 1073741824) : gFdiv (.int j) (.int k) = some (.int (j / k), false) := by
  show (if (decide (0 < k) && decide (k < 1073741824)) = true then _ else _) = _
  rw [if_pos (by simp [h, h2])]
theorem gMul_r (h : -(2 ^ 64) < k) (h2 : k < 2 ^ 64) : gMul (.int j) (.int k) = some (.int (j * k), false) := by
  show (if ((decide (-(2 ^ 64) < j) && decide (j < 2 ^ 64)) || (decide (-(2 ^ 64) < k) && decide (k < 2 ^ 64))) = true then _ else _) = _
  rw [if_pos (by rw [decide_eq_true h, decide_eq_true h2, Bool.and_self, Bool.or_true])]
theorem gMul_l (h : -(2 ^ 64) < j) (h2 : j < 2 ^ 64) : gMul (.int j) (.int k) = some (.int (j * k), false) := by
  show (if ((decide (-(2 ^ 64) < j) && decide (j < 2 ^ 64)) || (decide (-(2 ^ 64) < k) && decide (k < 2 ^ 64))) = true then _ else _) = _
  rw [if_pos (by rw [decide_eq_true h, decide_eq_true h2, Bool.and_self, Bool.true_or])]
@[simp] theorem gEq_i : gEq (.int j) (.int k) = some (.bool (j == k), false) := rfl
@[simp] theorem gNe_i : gNe (.int j) (.int k) = some (.bool (!(j == k)), false) := rfl
@[simp] theorem gIsN_s : gIsN d .none = some (.bool (isNone d), false) := rfl
@[simp] theorem gNotN_s : gNotN d .none = some (.bool (!isNone d), false) := rfl
@[simp] theorem gLen_l : gLen (.list xs) = some (.int xs.length, false) := rfl
@[simp] theorem gLen_t : gLen (.tuple xs) = some (.int xs.length, false) := rfl
theorem gLen_s {w : Str} (h : w.length ≤ LIM) : gLen (.str w) = some (.int w.length, false) := by
  show (if w.length ≤ LIM then _ else _) = _
  rw [if_pos h]
@[simp] theorem gInt_i : gInt [.int j] = some (.int j, false) := rfl
@[simp] theorem gList_l : gList (.list xs) = some (.list xs, true) := rfl
@[simp] theorem gList_t : gList (.tuple xs) = some (.list xs, true) := rfl
@[simp] theorem gTuple_l : gTuple (.list xs) = some (.tuple xs, false) := rfl
@[simp] theorem gTuple_t : gTuple (.tuple xs) = some (.tuple xs, false) := rfl
theorem gTupD_of (h : xs.length ≤ LIM) : gTupD xs = some (.tuple xs, false) := if_pos h
theorem gLstD_of (h : xs.length ≤ LIM) : gLstD xs = some (.list xs, true) := if_pos h
@[simp] theorem gLst0 : gLstD [] = some (.list [], true) := rfl
@[simp] theorem gLst1 : gLstD [x] = some (.list [x], true) := gLstD_of (by show 1 ≤ LIM; decide)
@[simp] theorem gLst2 : gLstD [x, y] = some (.list [x, y], true) := gLstD_of (by show 2 ≤ LIM; decide)
@[simp] theorem gLst3 : gLstD [x, y, z] = some (.list [x, y, z], true) := gLstD_of (by show 3 ≤ LIM; decide)
@[simp] theorem gLst4 : gLstD [x, y, z, d] = some (.list [x, y, z, d], true) := gLstD_of (by show 4 ≤ LIM; decide)
@[simp] theorem gTup0 : gTupD [] = some (.tuple [], false) := rfl
@[simp] theorem gTup1 : gTupD [x] = some (.tuple [x], false) := gTupD_of (by show 1 ≤ LIM; decide)
@[simp] theorem gTup2 : gTupD [x, y] = some (.tuple [x, y], false) := gTupD_of (by show 2 ≤ LIM; decide)
@[simp] theorem gTup3 : gTupD [x, y, z] = some (.tuple [x, y, z], false) := gTupD_of (by show 3 ≤ LIM; decide)
@[simp] theorem gTup4 : gTupD [x, y, z, d] = some (.tuple [x, y, z, d], false) := gTupD_of (by show 4 ≤ LIM; decide)
def kIx (o : Option D) : Option (D × Bool) := o.bind fun d => some (d, false)
@[simp] theorem kIx_s : kIx (some d) = some (d, false) := rfl
@[simp] theorem gIx_l : gIx (.list xs) (.int j) = kIx (atD xs j) := rfl
@[simp] theorem gIx_t : gIx (.tuple xs) (.int j) = kIx (atD xs j) := rfl
theorem atD_of (h : 0 ≤ j) (h2 : j < xs.length) : atD xs j = xs[j.toNat]? := by
  unfold atD ixN
  rw [if_pos h, if_pos h2]
  rfl
@[simp] theorem atD0 : atD (x :: xs) 0 = some x := by
  rw [atD_of (by decide) (by simp; try omega)]
  rfl
@[simp] theorem atD1 : atD (x :: y :: xs) 1 = some y := by
  rw [atD_of (by decide) (by simp; try omega)]
  rfl
@[simp] theorem atD2 : atD (x :: y :: z :: xs) 2 = some z := by
  rw [atD_of (by decide) (by simp; try omega)]
  rfl
@[simp] theorem atD3 : atD (x :: y :: z :: d :: xs) 3 = some d := by
  rw [atD_of (by decide) (by simp; omega)]
  rfl
theorem fSet_of {k : Int} (h : 0 ≤ k) (h2 : k < xs.length) : fSet (.int k) d (.list xs) = some (.list (xs.set k.toNat d)) := by
  show ((ixN xs.length k).bind fun j => some (PyData.list (xs.set j d))) = _
  unfold ixN
  rw [if_pos h, if_pos h2]
  rfl
@[simp] theorem fSet0 : fSet (.int 0) d (.list (x :: xs)) = some (.list (d :: xs)) := by
  rw [fSet_of (by decide) (by simp; try omega)]
  rfl
@[simp] theorem fSet1 : fSet (.int 1) d (.list (x :: y :: xs)) = some (.list (x :: d :: xs)) := by
  rw [fSet_of (by decide) (by simp; try omega)]
  rfl
@[simp] theorem fSet2 : fSet (.int 2) d (.list (x :: y :: z :: xs)) = some (.list (x :: y :: d :: xs)) := by
  rw [fSet_of (by decide) (by simp; try omega)]
  rfl
variable {w : D}
@[simp] theorem fSet3 : fSet (.int 3) d (.list (x :: y :: z :: w :: xs)) = some (.list (x :: y :: z :: d :: xs)) := by
  rw [fSet_of (by decide) (by simp; try omega)]
  rfl
@[simp] theorem getL0 : getL (.list (x :: xs)) (.int 0) = some x := rfl
@[simp] theorem getL1 : getL (.list (x :: y :: xs)) (.int 1) = some y := rfl
@[simp] theorem getL2 : getL (.list (x :: y :: z :: xs)) (.int 2) = some z := rfl
@[simp] theorem getL3 : getL (.list (x :: y :: z :: w :: xs)) (.int 3) = some w := rfl
theorem gPow_i {j k : Int} (h : 0 ≤ k) (h2 : k ≤ 1000000) (h3 : j.natAbs < 2 ^ 64) : gPow (.int j) (.int k) = some (.int (j ^ k.toNat), false) := by
  show (if (decide (0 ≤ k) && (decide (k ≤ 1000000) && decide (j.natAbs < 2 ^ 64))) = true then _ else _) = _
  rw [if_pos (by simp [h, h2]; exact h3)]
@[simp] theorem gPow18 : gPow (.int 10) (.int 18) = some (.int 1000000000000000000, false) := by
  rw [gPow_i (by decide) (by decide) (by decide)]
  rfl
theorem atD_ints {ns : List Int} {j : Int} (h : 0 ≤ j) (h2 : j < ns.length) : ∃ v, ns[j.toNat]? = some v ∧ atD (ns.map PyData.int) j = some (.int v) := by
  have hj : j.toNat < ns.length := by omega
  refine ⟨ns[j.toNat], List.getElem?_eq_getElem hj, ?_⟩
  rw [atD_of h (by rw [List.length_map]; exact h2), List.getElem?_map, List.getElem?_eq_getElem hj]
  rfl
end
end Qp
end
section
set_option Elab.async false
set_option linter.all false
set_option maxRecDepth 100000
set_option maxHeartbeats 2000000
/-! Qm: texts as lists of codes; loops by an invariant. -/
namespace Qp
open PySem PySem.Spec PyProof.Rows L2
def strD (l : List Nat) : D := .str ⟨l.toArray⟩
theorem strD_inj {l m : List Nat} (h : strD l = strD m) : l = m := by
  unfold strD at h
  injection h with h
  injection h with h
  simpa using h
theorem str_cps (s : Str) : PyData.str s = strD s.cps.toList := by
  unfold strD
  rw [Array.toArray_toList]
theorem str_app (l m : List Nat) : (⟨l.toArray⟩ : Str) ++ ⟨m.toArray⟩ = ⟨(l ++ m).toArray⟩ := by
  show Str.append _ _ = _
  unfold Str.append
  simp
theorem str_len (l : List Nat) : (⟨l.toArray⟩ : Str).length = l.length := by simp [Str.length]
theorem gAdd_str {l m : List Nat} (h : l.length + m.length ≤ LIM) : gAdd (strD l) (strD m) = some (strD (l ++ m), false) := by
  show (if (⟨l.toArray⟩ : Str).length + (⟨m.toArray⟩ : Str).length ≤ LIM then _ else _) = _
  rw [str_len, str_len, if_pos h, str_app]
  rfl
theorem gLen_str {l : List Nat} (h : l.length ≤ LIM) : gLen (strD l) = some (.int l.length, false) := by
  show (if (⟨l.toArray⟩ : Str).length ≤ LIM then some (PyData.int ((⟨l.toArray⟩ : Str).length : Nat), false) else _) = _
  rw [str_len, if_pos h]
theorem gIx_str {l : List Nat} {j : Int} {c : Nat} (h : l.length ≤ LIM) (h0 : 0 ≤ j) (h1 : l[j.toNat]? = some c) : gIx (strD l) (.int j) = some (strD [c], false) := by
  have hj : j.toNat < l.length := (List.getElem?_eq_some_iff.mp h1).1
  show (if (⟨l.toArray⟩ : Str).length ≤ LIM then (atI l.toArray.toList j).bind fun c => some (PyData.str ⟨#[c]⟩, false) else none) = _
  rw [str_len, if_pos h]
  unfold atI ixN
  rw [if_pos h0, if_pos (by simp; omega)]
  show ((l.toArray.toList[j.toNat]?).bind fun c => some (PyData.str ⟨#[c]⟩, false)) = _
  rw [show l.toArray.toList = l by simp, h1]
  rfl
theorem gSl_str {l : List Nat} {a b : Nat} (h : l.length ≤ LIM) (hb : b ≤ l.length) : gSl (strD l) (some (a : Int)) (some (b : Int)) = some (strD ((l.drop a).take (b - a)), false) := by
  show (if (⟨l.toArray⟩ : Str).length ≤ LIM then some (PyData.str (cutS ⟨l.toArray⟩ (some (a : Int)) (some (b : Int))), false) else none) = _
  rw [str_len, if_pos h]
  unfold cutS strD
  rw [str_len, HT.sIx_nat, HT.sIx_nat, show l.toArray.toList = l by simp]
  have e : min b l.length = b := Nat.min_eq_left hb
  rw [e]
  by_cases ha : a ≤ l.length
  · rw [Nat.min_eq_left ha]
  · rw [Nat.min_eq_right (by omega), List.drop_eq_nil_of_le (Nat.le_refl _), List.drop_eq_nil_of_le (by omega), List.take_nil, List.take_nil]
theorem gSl_strTo {l : List Nat} {b : Nat} (h : l.length ≤ LIM) (hb : b ≤ l.length) : gSl (strD l) none (some (b : Int)) = some (strD (l.take b), false) := by
  show (if (⟨l.toArray⟩ : Str).length ≤ LIM then some (PyData.str (cutS ⟨l.toArray⟩ none (some (b : Int))), false) else none) = _
  rw [str_len, if_pos h]
  unfold cutS strD
  rw [str_len, HT.sIx_nat, HT.sIx_none, show l.toArray.toList = l by simp, Nat.min_eq_left hb, List.drop_zero, Nat.sub_zero]
theorem shaped_str {l : List Nat} (h : ∀ c ∈ l, c < 0x110000) : SeqAt.shaped (strD l) = true := by
  show (PyData.canLay0 (.str ⟨l.toArray⟩) && decide (PyData.depth (.str ⟨l.toArray⟩) ≤ 64)) = true
  have h1 : PyData.canLay0 (.str ⟨l.toArray⟩) = true := by
    simp only [PyData.canLay0, PyData.strOk]
    rw [Array.all_eq_true']
    intro c hc
    exact decide_eq_true (h c (by simpa using hc))
  rw [h1]
  rfl
theorem eqv_str {l m : List Nat} : PyData.eqv (strD l) (strD m) = (l == m) := by
  show ((⟨l.toArray⟩ : Str) == ⟨m.toArray⟩) = (l == m)
  rw [Bool.eq_iff_iff, beq_iff_eq, beq_iff_eq]
  constructor
  · intro h
    injection h with h
    simpa using h
  · intro h
    rw [h]
theorem gEq_str {l m : List Nat} (h : ∀ c ∈ l, c < 0x110000) (h' : ∀ c ∈ m, c < 0x110000) : gEq (strD l) (strD m) = some (.bool (l == m), false) := by
  unfold gEq
  rw [shaped_str h, shaped_str h', eqv_str]
  rfl
@[simp] theorem isNone_str (l : List Nat) : isNone (strD l) = false := rfl
@[simp] theorem isT_str (n : String) (l : List Nat) : isT n (strD l) = (n == "str") := rfl
@[simp] theorem flatD_str (l : List Nat) : flatD (strD l) = true := rfl
theorem strsOf_map : ∀ ls : List (List Nat), strsOf (ls.map strD) = some (ls.map fun l => (⟨l.toArray⟩ : Str))
  | [] => rfl
  | l :: r => by
    show ((strsOf (r.map strD)).bind fun t => some ((⟨l.toArray⟩ : Str) :: t)) = _
    rw [strsOf_map r]
    rfl
theorem joinL_nil : ∀ ls : List (List Nat), TL.joinL [] ls = ls.flatten
  | [] => rfl
  | [p] => by simp [TL.joinL]
  | p :: q :: r => by
    show p ++ ([] ++ TL.joinL [] (q :: r)) = _
    rw [joinL_nil (q :: r)]
    simp
theorem sum_len (ls : List (List Nat)) : ((ls.map fun l => (⟨l.toArray⟩ : Str)).map (·.length)).sum = ls.flatten.length := by
  induction ls with
  | nil => rfl
  | cons l r ih =>
    rw [List.map_cons, List.map_cons, List.sum_cons, ih, List.flatten_cons, List.length_append, str_len]
theorem gJoin_nil {ls : List (List Nat)} (h : ls.flatten.length ≤ LIM) {s : Str} (hs : s = ⟨#[]⟩) : gJoin s (.list (ls.map strD)) = some (strD ls.flatten, false) := by
  subst hs
  show ((strsOf (ls.map strD)).bind _) = _
  rw [strsOf_map, Option.bind_some, sum_len]
  rw [if_pos (by show _ + _ * 0 ≤ LIM; omega)]
  have e : Txt.join ⟨#[]⟩ (ls.map fun l => (⟨l.toArray⟩ : Str)) = ⟨ls.flatten.toArray⟩ := by
    refine ext_toList ?_
    rw [TL.join_eq]
    have := TL.tl_join ⟨#[]⟩ (ls.map fun l => (⟨l.toArray⟩ : Str))
    rw [show TL.tl (⟨#[]⟩ : Str) = [] from rfl, joinL_nil, List.map_map] at this
    rw [show (TL.tl ∘ fun l => (⟨l.toArray⟩ : Str)) = fun l : List Nat => l from funext fun l => by simp [TL.tl], List.map_id'] at this
    simpa using this
  rw [e]
  rfl
/-! ### loops -/
theorem loopF_inv {ft : GX} {body : SX} (I : Nat → En → Prop) (items : List D) (h : ∀ i x c, items[i]? = some x → I i c → ∃ c1 c2, ft x c = some c1 ∧ body c1 = some (.nx c2) ∧ I (i + 1) c2) {cs : En} (h0 : I 0 cs) : ∃ c, loopF ft body items cs = some (.nx c) ∧ I items.length c := by
  have gen : ∀ (k : Nat) (r : List D) (i : Nat) (c : En), r.length = k → items.drop i = r → I i c → ∃ c', loopF ft body r c = some (.nx c') ∧ I (i + r.length) c' := by
    intro k
    induction k with
    | zero =>
      intro r i c hr hd hi
      rw [List.length_eq_zero_iff] at hr
      subst hr
      exact ⟨c, rfl, hi⟩
    | succ k ih =>
      intro r i c hr hd hi
      cases r with
      | nil => cases hr
      | cons x r =>
        have hx : items[i]? = some x := by
          have := congrArg (fun l => l[0]?) hd
          simpa using this
        obtain ⟨c1, c2, e1, e2, e3⟩ := h i x c hx hi
        have hd' : items.drop (i + 1) = r := by
          have := congrArg (List.drop 1) hd
          simpa [List.drop_drop, Nat.add_comm] using this
        obtain ⟨c', q1, q2⟩ := ih r (i + 1) c2 (by simpa using hr) hd' e3
        refine ⟨c', ?_, by rw [List.length_cons, show i + (r.length + 1) = i + 1 + r.length by omega]; exact q2⟩
        rw [loopF_cons, e1, kL1_s, e2, kL2_n]
        exact q1
  obtain ⟨c, q1, q2⟩ := gen items.length items 0 cs rfl (by simp) h0
  exact ⟨c, q1, by simpa using q2⟩
/-- a loop that may end early by a return -/
theorem loopF_search {ft : GX} {body : SX} (I : Nat → En → Prop) (R : Res → Prop) (items : List D) (h : ∀ i x c, items[i]? = some x → I i c → ∃ c1, ft x c = some c1 ∧ ((∃ c2, body c1 = some (.nx c2) ∧ I (i + 1) c2) ∨ ∃ d fr c2, body c1 = some (.rt d fr c2) ∧ R (.rt d fr c2))) {cs : En} (h0 : I 0 cs) :
    (∃ c, loopF ft body items cs = some (.nx c) ∧ I items.length c) ∨ ∃ d fr c, loopF ft body items cs = some (.rt d fr c) ∧ R (.rt d fr c) := by
  have gen : ∀ (k : Nat) (r : List D) (i : Nat) (c : En), r.length = k → items.drop i = r → I i c → (∃ c', loopF ft body r c = some (.nx c') ∧ I (i + r.length) c') ∨ ∃ d fr c', loopF ft body r c = some (.rt d fr c') ∧ R (.rt d fr c') := by
    intro k
    induction k with
    | zero =>
      intro r i c hr hd hi
      rw [List.length_eq_zero_iff] at hr
      subst hr
      exact .inl ⟨c, rfl, hi⟩
    | succ k ih =>
      intro r i c hr hd hi
      cases r with
      | nil => cases hr
      | cons x r =>
        have hx : items[i]? = some x := by
          have := congrArg (fun l => l[0]?) hd
          simpa using this
        have hd' : items.drop (i + 1) = r := by
          have := congrArg (List.drop 1) hd
          simpa [List.drop_drop, Nat.add_comm] using this
        obtain ⟨c1, e1, ⟨c2, e2, e3⟩ | ⟨d, fr, c2, e2, e3⟩⟩ := h i x c hx hi
        · rcases ih r (i + 1) c2 (by simpa using hr) hd' e3 with ⟨c', q1, q2⟩ | ⟨d, fr, c', q1, q2⟩
          · refine .inl ⟨c', ?_, by rw [List.length_cons, show i + (r.length + 1) = i + 1 + r.length by omega]; exact q2⟩
            rw [loopF_cons, e1, kL1_s, e2, kL2_n]
            exact q1
          · refine .inr ⟨d, fr, c', ?_, q2⟩
            rw [loopF_cons, e1, kL1_s, e2, kL2_n]
            exact q1
        · refine .inr ⟨d, fr, c2, ?_, e3⟩
          rw [loopF_cons, e1, kL1_s, e2, kL2_r]
  rcases gen items.length items 0 cs rfl (by simp) h0 with ⟨c, q1, q2⟩ | z
  · exact .inl ⟨c, q1, by simpa using q2⟩
  · exact .inr z
theorem rng_item {lo : Int} {n i : Nat} {x : D} (h : (rngD lo n)[i]? = some x) : i < n ∧ x = .int (lo + (i : Int)) := rngD_get h
theorem rngD_zero (lo : Int) : rngD lo 0 = [] := rfl
/-! ### depth -/
theorem depthAll_mem : ∀ {ds : List D} {d : D}, d ∈ ds → d.depth ≤ PyData.depthAll ds
  | [], _, h => (by cases h)
  | x :: r, d, h => by
    simp only [PyData.depthAll]
    rcases List.mem_cons.mp h with e | e
    · rw [e]; exact Nat.le_max_left _ _
    · exact Nat.le_trans (depthAll_mem e) (Nat.le_max_right _ _)
end Qp
end
section
set_option Elab.async false
set_option linter.all false
set_option maxRecDepth 100000
namespace My
open PySem PySem.Spec PyProof.Rows L2 Qp
/-! the text -/
def top (i : Nat) : Stmt := PySem.Challenge.pw_quillproof_k20_chunks_of_a_text.main.body.getD i (.Pass ⟨0, 0, 0, 0⟩)
abbrev s_line_starts : Stmt := top 1
abbrev N_line_starts : List Str := ["text", "found", "position"]
theorem sc_line_starts : FnScope N_line_starts ["text"] (defScope s_line_starts) := ⟨rfl, rfl, rfl, by decide +kernel, rfl, by decide +kernel, by decide +kernel⟩
abbrev s_chunks : Stmt := top 2
abbrev N_chunks : List Str := ["text", "starts", "ends", "start", "end"]
theorem sc_chunks : FnScope N_chunks ["text"] (defScope s_chunks) := ⟨rfl, rfl, rfl, by decide +kernel, rfl, by decide +kernel, by decide +kernel⟩
abbrev s__law_next : Stmt := top 4
abbrev N__law_next : List Str := ["state", "limit", "cell", "value"]
theorem sc__law_next : FnScope N__law_next ["state", "limit"] (defScope s__law_next) := ⟨rfl, rfl, rfl, by decide +kernel, rfl, by decide +kernel, by decide +kernel⟩
abbrev s__law_same : Stmt := top 5
abbrev N__law_same : List Str := ["actual", "expected", "k"]
theorem sc__law_same : FnScope N__law_same ["actual", "expected"] (defScope s__law_same) := ⟨rfl, rfl, rfl, by decide +kernel, rfl, by decide +kernel, by decide +kernel⟩
abbrev s__law_char : Stmt := top 6
abbrev N__law_char : List Str := ["index", "chars"]
theorem sc__law_char : FnScope N__law_char ["index"] (defScope s__law_char) := ⟨rfl, rfl, rfl, by decide +kernel, rfl, by decide +kernel, by decide +kernel⟩
abbrev s__law_line : Stmt := top 7
abbrev N__law_line : List Str := ["state", "line", "k"]
theorem sc__law_line : FnScope N__law_line ["state"] (defScope s__law_line) := ⟨rfl, rfl, rfl, by decide +kernel, rfl, by decide +kernel, by decide +kernel⟩
abbrev s__law_lines : Stmt := top 8
abbrev N__law_lines : List Str := ["state", "count", "text", "k"]
theorem sc__law_lines : FnScope N__law_lines ["state", "count"] (defScope s__law_lines) := ⟨rfl, rfl, rfl, by decide +kernel, rfl, by decide +kernel, by decide +kernel⟩
abbrev s_law : Stmt := top 9
abbrev N_law : List Str := ["script", "state", "text", "expected", "before", "count", "k", "chunk", "actual", "position"]
theorem sc_law : FnScope N_law ["script"] (defScope s_law) := ⟨rfl, rfl, rfl, by decide +kernel, rfl, by decide +kernel, by decide +kernel⟩
/-! what the defs say -/
def L_line_starts_1 : SX := sIf (evAndT (evT (ev2 (gIn true) (evIxV gIx 0 (evVar 2)) (evA gTupD (evCons (evC (.str " ")) (evCons (evC (.str "\n")) (evNil)))))) (evOrT (evT (evIxV gEq 2 (evC (.int 0)))) (evT (ev2 gEq (evIxV gIx 0 (ev2 gSub (evVar 2) (evC (.int 1)))) (evC (.str "\n")))))) (sDrop (evApp 1 (evVar 2))) (sNx)
def b_line_starts : SX := sSeq (sAsg 1 (evA gLstD (evNil)))
  (sSeq (sFor (ixR1 (evCons (evV1 gLen 0) (evNil))) (gx 2) (L_line_starts_1))
  (sRet (evVar 1)))
def F_line_starts : GA := runP 1 2 b_line_starts
def b__law_next : SX := sSeq (sIf (evAndT (evT (ev2 gEq (evIxV gIx 0 (evC (.int 2))) (evC (.int 0)))) (evT (ev2 gLt (evIxV gIx 0 (evC (.int 1))) (evA (gOne gLen) (evCons (evIxV gIx 0 (evC (.int 0))) (evNil)))))) (sSeq (sAsg 2 (ev2 gIx (evIxV gIx 0 (evC (.int 0))) (evIxV gIx 0 (evC (.int 1)))))
  (sSeq (sAugIx gAddI 0 (evC (.int 1)) (evC (.int 1)))
  (sIf (evT (ev2 gGe (evVar 2) (ev2 gPow (evC (.int 10)) (evC (.int 18))))) (sSet 0 (evC (.int 2)) (evVar 2)) (sSet 0 (evC (.int 3)) (ev2 gMod (evA gInt (evCons (ev2 gAdd (ev2 gAdd (ev2 gMul (evIxV gIx 0 (evC (.int 3))) (evC (.int 48271))) (ev2 gMod (evA gInt (evCons (evVar 2) (evNil))) (evC (.int 2147483647)))) (evC (.int 7))) (evNil))) (evC (.int 2147483647))))))) (sNx))
  (sSeq (sIf (evT (ev2 gGt (evIxV gIx 0 (evC (.int 2))) (evC (.int 0)))) (sSeq (sAsg 3 (ev2 gMod (evA gInt (evCons (evIxV gIx 0 (evC (.int 2))) (evNil))) (evVar 1)))
  (sSeq (sSet 0 (evC (.int 2)) (ev2 gFdiv (evIxV gIx 0 (evC (.int 2))) (evVar 1)))
  (sRet (evVar 3)))) (sNx))
  (sSeq (sSet 0 (evC (.int 3)) (ev2 gMod (evA gInt (evCons (ev2 gAdd (ev2 gMul (evIxV gIx 0 (evC (.int 3))) (evC (.int 69621))) (evC (.int 12345))) (evNil))) (evC (.int 2147483647))))
  (sRet (ev2 gMod (evA gInt (evCons (ev2 gFdiv (evIxV gIx 0 (evC (.int 3))) (evC (.int 7))) (evNil))) (evVar 1)))))
def F__law_next : GI := runI 2 2 b__law_next
def b__law_char : SX := sSeq (sAsg 1 (evC (.str " '!\"#$&()*+,-./0123456789:;<=>?@ABCDEFGHIJKLMNOPQRSTUVWXYZ[\\]^_`")))
  (sSeq (sAsg 1 (evIxV gAdd 1 (evC (.str "abcdefghijklmnopqrstuvwxyz{|}~\n"))))
  (sRet (evIxV gIx 1 (ev2 gMod (evA gInt (evCons (evVar 0) (evNil))) (evC (.int 95))))))
def F__law_char : GA := runP 1 1 b__law_char
def C_chunks_1 : EX := evA gTupD (evCons (evVar 3) (evCons (evSlV 0 (evO1 (evVar 3)) (evO1 (evVar 4))) (evNil)))
def b_chunks : SX := sSeq (sAsg 1 (evA (gN 1 (F_line_starts)) (evCons (evVar 0) (evNil))))
  (sSeq (sAsg 2 (ev2 gAdd (evSlV 1 (evO1 (evC (.int 1))) (evO0)) (evA gLstD (evCons (evV1 gLen 0) (evNil)))))
  (sRet (evLc [3, 4] (ixZip (evCons (evVar 1) (evCons (evVar 2) (evNil)))) (gxTup (gxCons (gx 3) (gxCons (gx 4) (gxNil))) 2) (evYes) (C_chunks_1))))
def F_chunks : GA := runP 1 4 b_chunks
def L__law_line_1 : SX := sAsg 1 (evIxV gAdd 1 (evA (gN 1 (F__law_char)) (evCons (evCI 2 (F__law_next) 0 (evCons (evC (.int 94)) (evNil))) (evNil))))
def b__law_line : SX := sSeq (sAsg 1 (evC (.str "")))
  (sSeq (sFor (ixR1 (evCons (evCI 2 (F__law_next) 0 (evCons (ev2 gIx (evA gLstD (evCons (evC (.int 9)) (evCons (evC (.int 9)) (evCons (evC (.int 9)) (evCons (evC (.int 90)) (evNil)))))) (evCI 2 (F__law_next) 0 (evCons (evC (.int 4)) (evNil)))) (evNil))) (evNil))) (gx 2) (L__law_line_1))
  (sRet (evVar 1)))
def F__law_line : GI := runI 1 2 b__law_line
def L__law_lines_1 : SX := sSeq (sIf (evT (ev2 gGt (evCI 2 (F__law_next) 0 (evCons (evC (.int 3)) (evNil))) (evC (.int 0)))) (sAsg 2 (ev2 gAdd (evIxV gAdd 2 (evC (.str " "))) (evCI 1 (F__law_line) 0 (evNil)))) (sNx))
  (sAsg 2 (evIxV gAdd 2 (evC (.str "\n"))))
def b__law_lines : SX := sSeq (sAsg 2 (evC (.str "")))
  (sSeq (sFor (ixR1 (evCons (evVar 1) (evNil))) (gx 3) (L__law_lines_1))
  (sRet (evVar 2)))
def F__law_lines : GI := runI 2 2 b__law_lines
def L__law_same_1 (F : GA) : SX := sIf (evNotT (evT (evA (gN 2 (F)) (evCons (evIxV gIx 0 (evVar 2)) (evCons (evIxV gIx 1 (evVar 2)) (evNil)))))) (sRet (evC (.bool false))) (sNx)
def b__law_same (F : GA) : SX := sSeq (sIf (evT (ev2 gIsN (evVar 1) (evC .none))) (sRet (ev2 gIsN (evVar 0) (evC .none))) (sNx))
  (sSeq (sIf (evT (evIsiV "bool" 1)) (sRet (evAndV (evIsiV "bool" 0) (evIxV gEq 0 (evVar 1)))) (sNx))
  (sSeq (sIf (evT (evIsiV "int" 1)) (sRet (evAndV (evIsiV "int" 0) (evAndV (evNotV (evIsiV "bool" 0)) (evIxV gEq 0 (evVar 1))))) (sNx))
  (sSeq (sIf (evT (evIsiV "str" 1)) (sRet (evAndV (evIsiV "str" 0) (evIxV gEq 0 (evVar 1)))) (sNx))
  (sSeq (sIf (evAndT (evT (evIsiV "tuple" 1)) (evNotT (evT (evIsiV "tuple" 0)))) (sRet (evC (.bool false))) (sNx))
  (sSeq (sIf (evAndT (evT (evIsiV "list" 1)) (evNotT (evT (evIsiV "list" 0)))) (sRet (evC (.bool false))) (sNx))
  (sSeq (sIf (evT (ev2 gNe (evV1 gLen 0) (evV1 gLen 1))) (sRet (evC (.bool false))) (sNx))
  (sSeq (sFor (ixR1 (evCons (evV1 gLen 1) (evNil))) (gx 2) (L__law_same_1 F))
  (sRet (evC (.bool true))))))))))
def F__law_same : Nat → GA
  | 0 => fun _ => none
  | k + 1 => runP 2 1 (b__law_same (F__law_same k))
def L_law_1 : SX := sSeq (sAsg 7 (ev2 gAdd (ev2 gAdd (ev2 gAdd (evA (gN 1 (F__law_char)) (evCons (ev2 gAdd (evC (.int 1)) (evCI 2 (F__law_next) 1 (evCons (evC (.int 93)) (evNil)))) (evNil))) (evCI 1 (F__law_line) 1 (evNil))) (evC (.str "\n"))) (evCI 2 (F__law_lines) 1 (evCons (evCI 2 (F__law_next) 1 (evCons (ev2 gIx (evA gLstD (evCons (evC (.int 4)) (evCons (evC (.int 9)) (evNil)))) (evCI 2 (F__law_next) 1 (evCons (evC (.int 2)) (evNil)))) (evNil))) (evNil)))))
  (sSeq (sIf (evAndT (evT (evIxV gEq 6 (ev2 gSub (evVar 5) (evC (.int 1))))) (evT (ev2 gEq (evCI 2 (F__law_next) 1 (evCons (evC (.int 2)) (evNil))) (evC (.int 1))))) (sAsg 7 (evSlV 7 (evO0) (evO1 (ev2 gSub (evV1 gLen 7) (evC (.int 1)))))) (sNx))
  (sSeq (sDrop (evApp 3 (evA gTupD (evCons (evV1 gLen 2) (evCons (evVar 7) (evNil))))))
  (sAsg 2 (evIxV gAdd 2 (evVar 7)))))
def C_law_2 : EX := evVar 7
def b_law : SX := sSeq (sAsg 1 (evA gLstD (evCons (evV1 gList 0) (evCons (evC (.int 0)) (evCons (evC (.int 0)) (evCons (evC (.int 1)) (evNil)))))))
  (sSeq (sAsg 2 (evCI 2 (F__law_lines) 1 (evCons (evCI 2 (F__law_next) 1 (evCons (evC (.int 4)) (evNil))) (evNil))))
  (sSeq (sAsg 3 (evA gLstD (evNil)))
  (sSeq (sAsg 4 (evVar 2))
  (sSeq (sAsg 5 (evCI 2 (F__law_next) 1 (evCons (evC (.int 13)) (evNil))))
  (sSeq (sIf (evT (ev2 gEq (evCI 2 (F__law_next) 1 (evCons (evC (.int 6)) (evNil))) (evC (.int 5)))) (sAsg 5 (ev2 gAdd (evC (.int 60)) (evCI 2 (F__law_next) 1 (evCons (evC (.int 90)) (evNil))))) (sNx))
  (sSeq (sFor (ixR1 (evCons (evVar 5) (evNil))) (gx 6) (L_law_1))
  (sSeq (sAsg 8 (evA (gN 1 (F_chunks)) (evCons (evVar 2) (evNil))))
  (sSeq (sIf (evNotT (evT (evA (gN 2 (F__law_same 4)) (evCons (evVar 8) (evCons (evVar 3) (evNil)))))) (sRet (evC (.bool false))) (sNx))
  (sRet (ev2 gEq (evIxV gAdd 4 (evJoin (evC (.str "")) (evLc [9, 7] (ixSeq (evVar 8)) (gxTup (gxCons (gx 9) (gxCons (gx 7) (gxNil))) 2) (evYes) (C_law_2)))) (evVar 2)))))))))))
def F_law : GA := runP 1 9 b_law
end My
end
section
set_option Elab.async false
set_option linter.all false
set_option maxRecDepth 100000
set_option maxHeartbeats 4000000
namespace My
open PySem PySem.Spec PyProof.Rows L2 Qp
structure Tx (mg : Str → Option Value) : Prop where
  b_bool : mg "bool" = none
  b_int : mg "int" = none
  b_isinstance : mg "isinstance" = none
  b_len : mg "len" = none
  b_list : mg "list" = none
  b_range : mg "range" = none
  b_str : mg "str" = none
  b_tuple : mg "tuple" = none
  b_zip : mg "zip" = none
section
variable {P : Program} {w : World} {K : PySem.W.Frag} {mg : Str → Option Value} {base : Heap}
theorem ok_line_starts {f : Addr} {fd : FuncData} (F : Fun K "line_starts" "line_starts" s_line_starts f fd) (T : Tx mg) : FnOk P w K mg base CX0 1 f fd ["text"] (spP K 1 F_line_starts) := by
  refine fn_pure (P := P) (w := w) (mg := mg) (base := base) (k := 0) F sc_line_starts rfl rfl (fun cdv A outer s H E hr => ?_)
  exact ⟨_, (db_cons (ds_asg (i := 1) sc_line_starts.nd rfl (by first | exact Or.inl rfl | exact Or.inr rfl) (de_lst da_nil))
    (db_cons (ds_for PassesOwn.never rfl (di_r1 (by rfl) T.b_range (da_cons (de_cBV call_len sw_len (by rfl) T.b_len PySem.boot_len (dv 0)) da_nil)) (dg_name (i := 2) sc_line_starts.nd rfl (by first | exact Or.inl rfl | exact Or.inr rfl)) (db_one (ds_if (DW.dt (dw_and (dt_cmp op_notIn_seq sw_in.two (de_ixV (dv 0) (dv 2)) (de_tup (da_cons de_str (da_cons de_str da_nil)))) (dw_and1 (DW.dt (dw_or (dt_cmpV (op_eqD hr.units) sw_eq (dv 2) de_int) (dw_or1 (dt_cmp (op_eqD hr.units) sw_eq.two (de_ixV (dv 0) (de_op op_sub sr_sub (dv 2) de_int)) de_str))))))) (db_one (ds_expr (de_app (dv 1) (dv 2)))) db_nil)))
    (db_one (ds_ret (dv 1)))))⟩
theorem ok__law_next {f : Addr} {fd : FuncData} (F : Fun K "_law_next" "_law_next" s__law_next f fd) (T : Tx mg) : FnOk P w K mg base CX0 1 f fd ["state", "limit"] (spI K 2 F__law_next) := by
  refine fn_inout (P := P) (w := w) (mg := mg) (base := base) (k := 0) F sc__law_next rfl rfl (fun cdv A outer s H E hr => ?_)
  exact ⟨_, (db_cons (ds_if (DW.dt (dw_and (dt_cmp (op_eqD hr.units) sw_eq.two (de_ixV (dv 0) de_int) de_int) (dw_and1 (dt_cmp op_lt sr_lt (de_ixV (dv 0) de_int) (de_cB call_len sw_len.all (by rfl) T.b_len PySem.boot_len (da_cons (de_ixV (dv 0) de_int) da_nil)))))) (db_cons (ds_asg (i := 2) sc__law_next.nd rfl (by first | exact Or.inl rfl | exact Or.inr rfl) (de_ix (de_ixV (dv 0) de_int) (de_ixV (dv 0) de_int)))
    (db_cons (ds_augIx (dv 0) de_int ip_add sr_ipadd de_int)
    (db_one (ds_if (dt_cmp op_ge sr_ge (dv 2) (de_op op_pow sr_pow de_int de_int)) (db_one (ds_set (dv 0) de_int (dv 2))) (db_one (ds_set (dv 0) de_int (de_op op_mod sr_mod (de_cT (call_int1) sc_int (by rfl) T.b_int (by decide +kernel) (da_cons (de_op op_addD sw_add.two (de_op op_addD sw_add.two (de_op op_mul sr_mul (de_ixV (dv 0) de_int) de_int) (de_op op_mod sr_mod (de_cT (call_int1) sc_int (by rfl) T.b_int (by decide +kernel) (da_cons (dv 2) da_nil)) de_int)) de_int) da_nil)) de_int))))))) db_nil)
    (db_cons (ds_if (dt_cmp op_gt sr_gt (de_ixV (dv 0) de_int) de_int) (db_cons (ds_asg (i := 3) sc__law_next.nd rfl (by first | exact Or.inl rfl | exact Or.inr rfl) (de_op op_mod sr_mod (de_cT (call_int1) sc_int (by rfl) T.b_int (by decide +kernel) (da_cons (de_ixV (dv 0) de_int) da_nil)) (dv 1)))
    (db_cons (ds_set (dv 0) de_int (de_op op_fdiv sr_fdiv (de_ixV (dv 0) de_int) (dv 1)))
    (db_one (ds_ret (dv 3))))) db_nil)
    (db_cons (ds_set (dv 0) de_int (de_op op_mod sr_mod (de_cT (call_int1) sc_int (by rfl) T.b_int (by decide +kernel) (da_cons (de_op op_addD sw_add.two (de_op op_mul sr_mul (de_ixV (dv 0) de_int) de_int) de_int) da_nil)) de_int))
    (db_one (ds_ret (de_op op_mod sr_mod (de_cT (call_int1) sc_int (by rfl) T.b_int (by decide +kernel) (da_cons (de_op op_fdiv sr_fdiv (de_ixV (dv 0) de_int) de_int) da_nil)) (dv 1)))))))⟩
theorem ok__law_char {f : Addr} {fd : FuncData} (F : Fun K "_law_char" "_law_char" s__law_char f fd) (T : Tx mg) : FnOk P w K mg base CX0 1 f fd ["index"] (spP K 1 F__law_char) := by
  refine fn_pure (P := P) (w := w) (mg := mg) (base := base) (k := 0) F sc__law_char rfl rfl (fun cdv A outer s H E hr => ?_)
  exact ⟨_, (db_cons (ds_asg (i := 1) sc__law_char.nd rfl (by first | exact Or.inl rfl | exact Or.inr rfl) de_str)
    (db_cons (ds_asg (i := 1) sc__law_char.nd rfl (by first | exact Or.inl rfl | exact Or.inr rfl) (de_opV op_addD sw_add (dv 1) de_str))
    (db_one (ds_ret (de_ixV (dv 1) (de_op op_mod sr_mod (de_cT (call_int1) sc_int (by rfl) T.b_int (by decide +kernel) (da_cons (dv 0) da_nil)) de_int))))))⟩
theorem ok_chunks {f : Addr} {fd : FuncData} (F : Fun K "chunks" "chunks" s_chunks f fd) (T : Tx mg) (c_line_starts : Cal P w K mg base "line_starts" 1 ["text"] (spP K 1 (F_line_starts))) : FnOk P w K mg base CX0 2 f fd ["text"] (spP K 1 F_chunks) := by
  refine fn_pure (P := P) (w := w) (mg := mg) (base := base) (k := 1) F sc_chunks rfl rfl (fun cdv A outer s H E hr => ?_)
  exact ⟨_, (db_cons (ds_asg (i := 1) sc_chunks.nd rfl (by first | exact Or.inl rfl | exact Or.inr rfl) (dc c_line_starts (hr.mono (by decide)) (da_cons (dv 0) da_nil)))
    (db_cons (ds_asg (i := 2) sc_chunks.nd rfl (by first | exact Or.inl rfl | exact Or.inr rfl) (de_op op_addD sw_add.two (de_slV (dv 1) (do_some de_int) do_none) (de_lst (da_cons (de_cBV call_len sw_len (by rfl) T.b_len PySem.boot_len (dv 0)) da_nil))))
    (db_one (ds_ret (de_lc rfl sc_chunks.nd (di_zip (by rfl) T.b_zip (da_cons (dv 1) (da_cons (dv 2) da_nil))) (blkOk_by (own := [("start", 3), ("end", 4)]) (N := N_chunks) (sc := defScope s_chunks) (by decide +kernel)) (fun _ _ _ _ _ => ⟨_, (dg_tup rfl (dgs_cons (dg_name (i := 3) sc_chunks.nd rfl (by first | exact Or.inl rfl | exact Or.inr rfl)) (dgs_cons (dg_name (i := 4) sc_chunks.nd rfl (by first | exact Or.inl rfl | exact Or.inr rfl)) dgs_nil)))⟩) (fun _ _ _ _ _ => ⟨_, dts_nil⟩) (fun _ _ _ _ _ => ⟨_, (de_tup (da_cons (dv 3) (da_cons (de_slV (dv 0) (do_some (dv 3)) (do_some (dv 4))) da_nil)))⟩))))))⟩
theorem ok__law_line {f : Addr} {fd : FuncData} (F : Fun K "_law_line" "_law_line" s__law_line f fd) (T : Tx mg) (c__law_next : Cal P w K mg base "_law_next" 1 ["state", "limit"] (spI K 2 (F__law_next))) (c__law_char : Cal P w K mg base "_law_char" 1 ["index"] (spP K 1 (F__law_char))) : FnOk P w K mg base CX0 2 f fd ["state"] (spI K 1 F__law_line) := by
  refine fn_inout (P := P) (w := w) (mg := mg) (base := base) (k := 1) F sc__law_line rfl rfl (fun cdv A outer s H E hr => ?_)
  exact ⟨_, (db_cons (ds_asg (i := 1) sc__law_line.nd rfl (by first | exact Or.inl rfl | exact Or.inr rfl) de_str)
    (db_cons (ds_for PassesOwn.never rfl (di_r1 (by rfl) T.b_range (da_cons (dcI c__law_next (hr.mono (by decide)) (dv 0) (da_cons (de_ix (de_lst (da_cons de_int (da_cons de_int (da_cons de_int (da_cons de_int da_nil))))) (dcI c__law_next (hr.mono (by decide)) (dv 0) (da_cons de_int da_nil))) da_nil)) da_nil)) (dg_name (i := 2) sc__law_line.nd rfl (by first | exact Or.inl rfl | exact Or.inr rfl)) (db_one (ds_asg (i := 1) sc__law_line.nd rfl (by first | exact Or.inl rfl | exact Or.inr rfl) (de_opV op_addD sw_add (dv 1) (dc c__law_char (hr.mono (by decide)) (da_cons (dcI c__law_next (hr.mono (by decide)) (dv 0) (da_cons de_int da_nil)) da_nil))))))
    (db_one (ds_ret (dv 1)))))⟩
theorem ok__law_lines {f : Addr} {fd : FuncData} (F : Fun K "_law_lines" "_law_lines" s__law_lines f fd) (T : Tx mg) (c__law_next : Cal P w K mg base "_law_next" 1 ["state", "limit"] (spI K 2 (F__law_next))) (c__law_line : Cal P w K mg base "_law_line" 2 ["state"] (spI K 1 (F__law_line))) : FnOk P w K mg base CX0 3 f fd ["state", "count"] (spI K 2 F__law_lines) := by
  refine fn_inout (P := P) (w := w) (mg := mg) (base := base) (k := 2) F sc__law_lines rfl rfl (fun cdv A outer s H E hr => ?_)
  exact ⟨_, (db_cons (ds_asg (i := 2) sc__law_lines.nd rfl (by first | exact Or.inl rfl | exact Or.inr rfl) de_str)
    (db_cons (ds_for PassesOwn.never rfl (di_r1 (by rfl) T.b_range (da_cons (dv 1) da_nil)) (dg_name (i := 3) sc__law_lines.nd rfl (by first | exact Or.inl rfl | exact Or.inr rfl)) (db_cons (ds_if (dt_cmp op_gt sr_gt (dcI c__law_next (hr.mono (by decide)) (dv 0) (da_cons de_int da_nil)) de_int) (db_one (ds_asg (i := 2) sc__law_lines.nd rfl (by first | exact Or.inl rfl | exact Or.inr rfl) (de_op op_addD sw_add.two (de_opV op_addD sw_add (dv 2) de_str) (dcI c__law_line (hr.mono (by decide)) (dv 0) da_nil)))) db_nil)
    (db_one (ds_asg (i := 2) sc__law_lines.nd rfl (by first | exact Or.inl rfl | exact Or.inr rfl) (de_opV op_addD sw_add (dv 2) de_str)))))
    (db_one (ds_ret (dv 2)))))⟩
theorem ok__law_same {f : Addr} {fd : FuncData} (F : Fun K "_law_same" "_law_same" s__law_same f fd) (T : Tx mg) (b : Binds K fd ["actual", "expected"] []) (m : mg "_law_same" = some (.ref f)) : ∀ k : Nat, FnOk P w K mg base CX0 (0 + k) f fd ["actual", "expected"] (spP K 2 (F__law_same k))
  | 0 => (fn_none rfl).mono (Nat.zero_le _)
  | k + 1 => by
    have ih := ok__law_same F T  b m k
    have c__law_same : Cal P w K mg base "_law_same" (0 + k) ["actual", "expected"] (spP K 2 (F__law_same k)) := ⟨f, fd, ih, b, F.kp, m⟩
    show FnOk P w K mg base CX0 ((0 + k) + 1) f fd ["actual", "expected"] (spP K 2 (runP 2 1 (b__law_same (F__law_same k))))
    refine fn_pure (P := P) (w := w) (mg := mg) (base := base) F sc__law_same rfl rfl (fun cdv A outer s H E hr => ?_)
    exact ⟨_, (db_cons (ds_if (dt_cmp op_isN sr_isN (dv 1) de_non) (db_one (ds_ret (de_cmp op_isN sr_isN (dv 0) de_non))) db_nil)
    (db_cons (ds_if (dt_val (de_isiV (n := "bool") (by rfl) T.b_isinstance (by rfl) T.b_bool (by decide +kernel) (dv 1))) (db_one (ds_ret (de_and (de_isiV (n := "bool") (by rfl) T.b_isinstance (by rfl) T.b_bool (by decide +kernel) (dv 0)) (de_one (de_cmpV (op_eqD hr.units) sw_eq (dv 0) (dv 1)))))) db_nil)
    (db_cons (ds_if (dt_val (de_isiV (n := "int") (by rfl) T.b_isinstance (by rfl) T.b_int (by decide +kernel) (dv 1))) (db_one (ds_ret (de_and (de_isiV (n := "int") (by rfl) T.b_isinstance (by rfl) T.b_int (by decide +kernel) (dv 0)) (de_and (de_not (de_isiV (n := "bool") (by rfl) T.b_isinstance (by rfl) T.b_bool (by decide +kernel) (dv 0))) (de_one (de_cmpV (op_eqD hr.units) sw_eq (dv 0) (dv 1))))))) db_nil)
    (db_cons (ds_if (dt_val (de_isiV (n := "str") (by rfl) T.b_isinstance (by rfl) T.b_str (by decide +kernel) (dv 1))) (db_one (ds_ret (de_and (de_isiV (n := "str") (by rfl) T.b_isinstance (by rfl) T.b_str (by decide +kernel) (dv 0)) (de_one (de_cmpV (op_eqD hr.units) sw_eq (dv 0) (dv 1)))))) db_nil)
    (db_cons (ds_if (DW.dt (dw_and (dt_val (de_isiV (n := "tuple") (by rfl) T.b_isinstance (by rfl) T.b_tuple (by decide +kernel) (dv 1))) (dw_and1 (dt_not (dt_val (de_isiV (n := "tuple") (by rfl) T.b_isinstance (by rfl) T.b_tuple (by decide +kernel) (dv 0))))))) (db_one (ds_ret de_bl)) db_nil)
    (db_cons (ds_if (DW.dt (dw_and (dt_val (de_isiV (n := "list") (by rfl) T.b_isinstance (by rfl) T.b_list (by decide +kernel) (dv 1))) (dw_and1 (dt_not (dt_val (de_isiV (n := "list") (by rfl) T.b_isinstance (by rfl) T.b_list (by decide +kernel) (dv 0))))))) (db_one (ds_ret de_bl)) db_nil)
    (db_cons (ds_if (dt_cmp (op_neD hr.units) sw_ne.two (de_cBV call_len sw_len (by rfl) T.b_len PySem.boot_len (dv 0)) (de_cBV call_len sw_len (by rfl) T.b_len PySem.boot_len (dv 1))) (db_one (ds_ret de_bl)) db_nil)
    (db_cons (ds_for PassesOwn.never rfl (di_r1 (by rfl) T.b_range (da_cons (de_cBV call_len sw_len (by rfl) T.b_len PySem.boot_len (dv 1)) da_nil)) (dg_name (i := 2) sc__law_same.nd rfl (by first | exact Or.inl rfl | exact Or.inr rfl)) (db_one (ds_if (dt_not (dt_val (dc c__law_same (hr.mono (by omega)) (da_cons (de_ixV (dv 0) (dv 2)) (da_cons (de_ixV (dv 1) (dv 2)) da_nil))))) (db_one (ds_ret de_bl)) db_nil)))
    (db_one (ds_ret de_bl))))))))))⟩
theorem ok_law {f : Addr} {fd : FuncData} (F : Fun K "law" "law" s_law f fd) (T : Tx mg) (c_chunks : Cal P w K mg base "chunks" 2 ["text"] (spP K 1 (F_chunks))) (c__law_next : Cal P w K mg base "_law_next" 1 ["state", "limit"] (spI K 2 (F__law_next))) (c__law_same : Cal P w K mg base "_law_same" 4 ["actual", "expected"] (spP K 2 (F__law_same 4))) (c__law_char : Cal P w K mg base "_law_char" 1 ["index"] (spP K 1 (F__law_char))) (c__law_line : Cal P w K mg base "_law_line" 2 ["state"] (spI K 1 (F__law_line))) (c__law_lines : Cal P w K mg base "_law_lines" 3 ["state", "count"] (spI K 2 (F__law_lines))) : FnOk P w K mg base CX0 5 f fd ["script"] (spP K 1 F_law) := by
  refine fn_pure (P := P) (w := w) (mg := mg) (base := base) (k := 4) F sc_law rfl rfl (fun cdv A outer s H E hr => ?_)
  exact ⟨_, (db_cons (ds_asg (i := 1) sc_law.nd rfl (by first | exact Or.inl rfl | exact Or.inr rfl) (de_lst (da_cons (de_cTV call_list_of sw_list (by rfl) T.b_list (by decide +kernel) (dv 0)) (da_cons de_int (da_cons de_int (da_cons de_int da_nil))))))
    (db_cons (ds_asg (i := 2) sc_law.nd rfl (by first | exact Or.inl rfl | exact Or.inr rfl) (dcI c__law_lines (hr.mono (by decide)) (dv 1) (da_cons (dcI c__law_next (hr.mono (by decide)) (dv 1) (da_cons de_int da_nil)) da_nil)))
    (db_cons (ds_asg (i := 3) sc_law.nd rfl (by first | exact Or.inl rfl | exact Or.inr rfl) (de_lst da_nil))
    (db_cons (ds_asg (i := 4) sc_law.nd rfl (by first | exact Or.inl rfl | exact Or.inr rfl) (dv 2))
    (db_cons (ds_asg (i := 5) sc_law.nd rfl (by first | exact Or.inl rfl | exact Or.inr rfl) (dcI c__law_next (hr.mono (by decide)) (dv 1) (da_cons de_int da_nil)))
    (db_cons (ds_if (dt_cmp (op_eqD hr.units) sw_eq.two (dcI c__law_next (hr.mono (by decide)) (dv 1) (da_cons de_int da_nil)) de_int) (db_one (ds_asg (i := 5) sc_law.nd rfl (by first | exact Or.inl rfl | exact Or.inr rfl) (de_op op_addD sw_add.two de_int (dcI c__law_next (hr.mono (by decide)) (dv 1) (da_cons de_int da_nil))))) db_nil)
    (db_cons (ds_for PassesOwn.never rfl (di_r1 (by rfl) T.b_range (da_cons (dv 5) da_nil)) (dg_name (i := 6) sc_law.nd rfl (by first | exact Or.inl rfl | exact Or.inr rfl)) (db_cons (ds_asg (i := 7) sc_law.nd rfl (by first | exact Or.inl rfl | exact Or.inr rfl) (de_op op_addD sw_add.two (de_op op_addD sw_add.two (de_op op_addD sw_add.two (dc c__law_char (hr.mono (by decide)) (da_cons (de_op op_addD sw_add.two de_int (dcI c__law_next (hr.mono (by decide)) (dv 1) (da_cons de_int da_nil))) da_nil)) (dcI c__law_line (hr.mono (by decide)) (dv 1) da_nil)) de_str) (dcI c__law_lines (hr.mono (by decide)) (dv 1) (da_cons (dcI c__law_next (hr.mono (by decide)) (dv 1) (da_cons (de_ix (de_lst (da_cons de_int (da_cons de_int da_nil))) (dcI c__law_next (hr.mono (by decide)) (dv 1) (da_cons de_int da_nil))) da_nil)) da_nil))))
    (db_cons (ds_if (DW.dt (dw_and (dt_cmpV (op_eqD hr.units) sw_eq (dv 6) (de_op op_sub sr_sub (dv 5) de_int)) (dw_and1 (dt_cmp (op_eqD hr.units) sw_eq.two (dcI c__law_next (hr.mono (by decide)) (dv 1) (da_cons de_int da_nil)) de_int)))) (db_one (ds_asg (i := 7) sc_law.nd rfl (by first | exact Or.inl rfl | exact Or.inr rfl) (de_slV (dv 7) do_none (do_some (de_op op_sub sr_sub (de_cBV call_len sw_len (by rfl) T.b_len PySem.boot_len (dv 7)) de_int))))) db_nil)
    (db_cons (ds_expr (de_app (dv 3) (de_tup (da_cons (de_cBV call_len sw_len (by rfl) T.b_len PySem.boot_len (dv 2)) (da_cons (dv 7) da_nil)))))
    (db_one (ds_asg (i := 2) sc_law.nd rfl (by first | exact Or.inl rfl | exact Or.inr rfl) (de_opV op_addD sw_add (dv 2) (dv 7))))))))
    (db_cons (ds_asg (i := 8) sc_law.nd rfl (by first | exact Or.inl rfl | exact Or.inr rfl) (dc c_chunks (hr.mono (by decide)) (da_cons (dv 2) da_nil)))
    (db_cons (ds_if (dt_not (dt_val (dc c__law_same (hr.mono (by decide)) (da_cons (dv 8) (da_cons (dv 3) da_nil))))) (db_one (ds_ret de_bl)) db_nil)
    (db_one (ds_ret (de_cmp (op_eqD hr.units) sw_eq.two (de_opV op_addD sw_add (dv 4) (de_join de_str (de_lc rfl sc_law.nd (di_seq (dv 8)) (blkOk_by (own := [("position", 9), ("chunk", 7)]) (N := N_law) (sc := defScope s_law) (by decide +kernel)) (fun _ _ _ _ _ => ⟨_, (dg_tup rfl (dgs_cons (dg_name (i := 9) sc_law.nd rfl (by first | exact Or.inl rfl | exact Or.inr rfl)) (dgs_cons (dg_name (i := 7) sc_law.nd rfl (by first | exact Or.inl rfl | exact Or.inr rfl)) dgs_nil)))⟩) (fun _ _ _ _ _ => ⟨_, dts_nil⟩) (fun _ _ _ _ _ => ⟨_, (dv 7)⟩)))) (dv 2)))))))))))))⟩
end
theorem all_mk {l : PySem.W.OpenLaw} {w : World} {K : PySem.W.Frag} {h : Heap} {mg : Str → Option Value} {fa f0 f1 f2 f3 f4 f5 f6 f7 : Addr} (X : K.In h) (G : h.Ns mainGlobals mg) (hfa : mg "law" = some (.ref fa))
    {od0 an0 od1 an1 od2 an2 od3 an3 od4 an4 od5 an5 od6 an6 od7 an7 : Option Addr} {sl0 sl1 sl2 sl3 sl4 sl5 sl6 sl7 : Array (Option Value)} {oc0 kV0 dc0 pm0 cd0 ct0 oc1 kV1 dc1 pm1 cd1 ct1 oc2 kV2 dc2 pm2 cd2 ct2 oc3 kV3 dc3 pm3 cd3 ct3 oc4 kV4 dc4 pm4 cd4 ct4 oc5 kV5 dc5 pm5 cd5 ct5 oc6 kV6 dc6 pm6 cd6 ct6 oc7 kV7 dc7 pm7 cd7 ct7 : Value}
    (a0 : PySem.W.nsIn K mainGlobals "line_starts" = some (some (.ref f0))) (l0 : K.lookup f0 = some ⟨oc0, od0, .func (PySem.W.fnOf "line_starts" "line_starts" (defArgs s_line_starts) (defBody s_line_starts) (defScope s_line_starts) .none kV0 dc0 pm0 an0 cd0 ct0), sl0⟩) (c0 : PySem.W.codeIn K cd0 "line_starts" = true) (k0 : PySem.W.keepIn K (.ref f0) = true)
    (a1 : PySem.W.nsIn K mainGlobals "chunks" = some (some (.ref f1))) (l1 : K.lookup f1 = some ⟨oc1, od1, .func (PySem.W.fnOf "chunks" "chunks" (defArgs s_chunks) (defBody s_chunks) (defScope s_chunks) .none kV1 dc1 pm1 an1 cd1 ct1), sl1⟩) (c1 : PySem.W.codeIn K cd1 "chunks" = true) (k1 : PySem.W.keepIn K (.ref f1) = true)
    (a2 : PySem.W.nsIn K mainGlobals "_law_next" = some (some (.ref f2))) (l2 : K.lookup f2 = some ⟨oc2, od2, .func (PySem.W.fnOf "_law_next" "_law_next" (defArgs s__law_next) (defBody s__law_next) (defScope s__law_next) .none kV2 dc2 pm2 an2 cd2 ct2), sl2⟩) (c2 : PySem.W.codeIn K cd2 "_law_next" = true) (k2 : PySem.W.keepIn K (.ref f2) = true)
    (a3 : PySem.W.nsIn K mainGlobals "_law_same" = some (some (.ref f3))) (l3 : K.lookup f3 = some ⟨oc3, od3, .func (PySem.W.fnOf "_law_same" "_law_same" (defArgs s__law_same) (defBody s__law_same) (defScope s__law_same) .none kV3 dc3 pm3 an3 cd3 ct3), sl3⟩) (c3 : PySem.W.codeIn K cd3 "_law_same" = true) (k3 : PySem.W.keepIn K (.ref f3) = true)
    (a4 : PySem.W.nsIn K mainGlobals "_law_char" = some (some (.ref f4))) (l4 : K.lookup f4 = some ⟨oc4, od4, .func (PySem.W.fnOf "_law_char" "_law_char" (defArgs s__law_char) (defBody s__law_char) (defScope s__law_char) .none kV4 dc4 pm4 an4 cd4 ct4), sl4⟩) (c4 : PySem.W.codeIn K cd4 "_law_char" = true) (k4 : PySem.W.keepIn K (.ref f4) = true)
    (a5 : PySem.W.nsIn K mainGlobals "_law_line" = some (some (.ref f5))) (l5 : K.lookup f5 = some ⟨oc5, od5, .func (PySem.W.fnOf "_law_line" "_law_line" (defArgs s__law_line) (defBody s__law_line) (defScope s__law_line) .none kV5 dc5 pm5 an5 cd5 ct5), sl5⟩) (c5 : PySem.W.codeIn K cd5 "_law_line" = true) (k5 : PySem.W.keepIn K (.ref f5) = true)
    (a6 : PySem.W.nsIn K mainGlobals "_law_lines" = some (some (.ref f6))) (l6 : K.lookup f6 = some ⟨oc6, od6, .func (PySem.W.fnOf "_law_lines" "_law_lines" (defArgs s__law_lines) (defBody s__law_lines) (defScope s__law_lines) .none kV6 dc6 pm6 an6 cd6 ct6), sl6⟩) (c6 : PySem.W.codeIn K cd6 "_law_lines" = true) (k6 : PySem.W.keepIn K (.ref f6) = true)
    (a7 : PySem.W.nsIn K mainGlobals "law" = some (some (.ref f7))) (l7 : K.lookup f7 = some ⟨oc7, od7, .func (PySem.W.fnOf "law" "law" (defArgs s_law) (defBody s_law) (defScope s_law) .none kV7 dc7 pm7 an7 cd7 ct7), sl7⟩) (c7 : PySem.W.codeIn K cd7 "law" = true) (k7 : PySem.W.keepIn K (.ref f7) = true)
    (z0 : PySem.W.nsIn K mainGlobals "bool" = some none) (z1 : PySem.W.nsIn K mainGlobals "int" = some none) (z2 : PySem.W.nsIn K mainGlobals "isinstance" = some none) (z3 : PySem.W.nsIn K mainGlobals "len" = some none) (z4 : PySem.W.nsIn K mainGlobals "list" = some none) (z5 : PySem.W.nsIn K mainGlobals "range" = some none) (z6 : PySem.W.nsIn K mainGlobals "str" = some none) (z7 : PySem.W.nsIn K mainGlobals "tuple" = some none) (z8 : PySem.W.nsIn K mainGlobals "zip" = some none) :
    ∃ fd : FuncData, (∀ (s : Shared) (v : Value), BindsTo s fd ⟨[v], []⟩ [("script", v)]) ∧ ∀ base : Heap, K.In base → base.Ns mainGlobals mg → FnOk l.prog w K mg base CX0 5 fa fd ["script"] (spP K 1 F_law) := by
  have e := hfa.symm.trans (PySem.W.mg_of X G a7)
  cases e
  have T : Tx mg := ⟨PySem.W.mg_none_of X G z0, PySem.W.mg_none_of X G z1, PySem.W.mg_none_of X G z2, PySem.W.mg_none_of X G z3, PySem.W.mg_none_of X G z4, PySem.W.mg_none_of X G z5, PySem.W.mg_none_of X G z6, PySem.W.mg_none_of X G z7, PySem.W.mg_none_of X G z8⟩
  have F0 := fun_mk (st := s_line_starts) l0 c0 k0
  have b0 := F0.binds (ps := ["text"]) fun _ _ _ _ _ _ us hl => match us, hl with | [_], _ => rfl
  have F1 := fun_mk (st := s_chunks) l1 c1 k1
  have b1 := F1.binds (ps := ["text"]) fun _ _ _ _ _ _ us hl => match us, hl with | [_], _ => rfl
  have F2 := fun_mk (st := s__law_next) l2 c2 k2
  have b2 := F2.binds (ps := ["state", "limit"]) fun _ _ _ _ _ _ us hl => match us, hl with | [_, _], _ => rfl
  have F3 := fun_mk (st := s__law_same) l3 c3 k3
  have b3 := F3.binds (ps := ["actual", "expected"]) fun _ _ _ _ _ _ us hl => match us, hl with | [_, _], _ => rfl
  have F4 := fun_mk (st := s__law_char) l4 c4 k4
  have b4 := F4.binds (ps := ["index"]) fun _ _ _ _ _ _ us hl => match us, hl with | [_], _ => rfl
  have F5 := fun_mk (st := s__law_line) l5 c5 k5
  have b5 := F5.binds (ps := ["state"]) fun _ _ _ _ _ _ us hl => match us, hl with | [_], _ => rfl
  have F6 := fun_mk (st := s__law_lines) l6 c6 k6
  have b6 := F6.binds (ps := ["state", "count"]) fun _ _ _ _ _ _ us hl => match us, hl with | [_, _], _ => rfl
  have F7 := fun_mk (st := s_law) l7 c7 k7
  refine ⟨PySem.W.fnOf "law" "law" (defArgs s_law) (defBody s_law) (defScope s_law) .none kV7 dc7 pm7 an7 cd7 ct7, fun s v => .of_eq rfl, fun base _ _ => ?_⟩
  have c_line_starts : Cal l.prog w K mg base "line_starts" 1 ["text"] (spP K 1 F_line_starts) := ⟨f0, _, ok_line_starts F0 T , b0, k0, (PySem.W.mg_of X G a0)⟩
  have c__law_next : Cal l.prog w K mg base "_law_next" 1 ["state", "limit"] (spI K 2 F__law_next) := ⟨f2, _, ok__law_next F2 T , b2, k2, (PySem.W.mg_of X G a2)⟩
  have c__law_char : Cal l.prog w K mg base "_law_char" 1 ["index"] (spP K 1 F__law_char) := ⟨f4, _, ok__law_char F4 T , b4, k4, (PySem.W.mg_of X G a4)⟩
  have c_chunks : Cal l.prog w K mg base "chunks" 2 ["text"] (spP K 1 F_chunks) := ⟨f1, _, ok_chunks F1 T c_line_starts, b1, k1, (PySem.W.mg_of X G a1)⟩
  have c__law_line : Cal l.prog w K mg base "_law_line" 2 ["state"] (spI K 1 F__law_line) := ⟨f5, _, ok__law_line F5 T c__law_next c__law_char, b5, k5, (PySem.W.mg_of X G a5)⟩
  have c__law_lines : Cal l.prog w K mg base "_law_lines" 3 ["state", "count"] (spI K 2 F__law_lines) := ⟨f6, _, ok__law_lines F6 T c__law_next c__law_line, b6, k6, (PySem.W.mg_of X G a6)⟩
  have c__law_same : Cal l.prog w K mg base "_law_same" 4 ["actual", "expected"] (spP K 2 (F__law_same 4)) := ⟨f3, _, ok__law_same F3 T  b3 (PySem.W.mg_of X G a3) 4, b3, k3, (PySem.W.mg_of X G a3)⟩
  exact ok_law F7 T c_chunks c__law_next c__law_same c__law_char c__law_line c__law_lines
end My
end
section
set_option Elab.async false
set_option linter.all false
set_option maxRecDepth 100000
set_option maxHeartbeats 1000000
namespace My
open PySem PySem.Spec PyProof.Rows L2 Qp
def stD (ns : List Int) (p b s : Int) : D := .list [.list (ns.map .int), .int p, .int b, .int s]
/-- a state of draws that may stand -/
structure StOk (ns : List Int) (p b s : Int) : Prop where
  p0 : 0 ≤ p
  p1 : p ≤ ns.length
  b0 : 0 ≤ b
  s0 : 0 ≤ s
  s1 : s < 2147483647
theorem next_spec {ns : List Int} {p b s lim : Int} (h : StOk ns p b s) (hl : 0 < lim) (hl2 : lim < 1073741824) :
    ∃ v p' b' s' : Int, F__law_next (stD ns p b s) [.int lim] = some (.int v, false, stD ns p' b' s') ∧ StOk ns p' b' s' ∧ 0 ≤ v ∧ v < lim := by
  obtain ⟨h0, hp, hb, hs, hs2⟩ := h
  unfold F__law_next runI b__law_next stD
  by_cases hb0 : b = 0
  · subst hb0
    by_cases hpl : p < ns.length
    · obtain ⟨c, _, hc⟩ := atD_ints h0 hpl
      by_cases h18 : 1000000000000000000 ≤ c
      · refine ⟨c % lim, p + 1, c / lim, s, ?_, ⟨by omega, by omega, Int.ediv_nonneg (by omega) (by omega), hs, hs2⟩, Int.emod_nonneg _ (by omega), Int.emod_lt_of_pos _ hl⟩
        have hc0 : 0 < c := by omega
        simp [gMod_i, gFdiv_i, gMul_l, gMul_r, hl, hl2, hpl, hc, h18, hc0]
      · refine ⟨((s * 48271 + c % 2147483647 + 7) % 2147483647 * 69621 + 12345) % 2147483647 / 7 % lim, p + 1, 0, ((s * 48271 + c % 2147483647 + 7) % 2147483647 * 69621 + 12345) % 2147483647, ?_, ⟨by omega, by omega, by omega, ?_, ?_⟩, ?_, ?_⟩
        · simp [gMod_i, gFdiv_i, gMul_l, gMul_r, hl, hl2, hpl, hc, h18]
        · exact Int.emod_nonneg _ (by decide)
        · exact Int.emod_lt_of_pos _ (by decide)
        · exact Int.emod_nonneg _ (by omega)
        · exact Int.emod_lt_of_pos _ hl
    · refine ⟨(s * 69621 + 12345) % 2147483647 / 7 % lim, p, 0, (s * 69621 + 12345) % 2147483647, ?_, ⟨by omega, by omega, by omega, ?_, ?_⟩, ?_, ?_⟩
      · simp [gMod_i, gFdiv_i, gMul_l, gMul_r, hl, hl2, hpl]
      · exact Int.emod_nonneg _ (by decide)
      · exact Int.emod_lt_of_pos _ (by decide)
      · exact Int.emod_nonneg _ (by omega)
      · exact Int.emod_lt_of_pos _ hl
  · refine ⟨b % lim, p, b / lim, s, ?_, ⟨by omega, by omega, Int.ediv_nonneg (by omega) (by omega), hs, hs2⟩, Int.emod_nonneg _ (by omega), Int.emod_lt_of_pos _ hl⟩
    have hbp : 0 < b := by omega
    have hbe : (b == 0) = false := by simp [hb0]
    simp [gMod_i, gFdiv_i, gMul_l, gMul_r, hl, hl2, hbe, hbp]
end My
end
section
set_option Elab.async false
set_option linter.all false
set_option maxRecDepth 100000
set_option maxHeartbeats 1000000
namespace My
open PySem PySem.Spec PyProof.Rows L2 Qp
/-- a state of draws -/
def Stt (ns : List Int) (d : D) : Prop := ∃ p b s, d = stD ns p b s ∧ StOk ns p b s
theorem next_ok {ns : List Int} {d : D} {lim : Int} (h : Stt ns d) (hl : 0 < lim) (hl2 : lim < 1073741824) : ∃ v d', F__law_next d [.int lim] = some (.int v, false, d') ∧ Stt ns d' ∧ 0 ≤ v ∧ v < lim := by
  obtain ⟨p, b, s, rfl, ok⟩ := h
  obtain ⟨v, p', b', s', e, ok', h1, h2⟩ := next_spec ok hl hl2
  exact ⟨v, _, e, ⟨p', b', s', rfl, ok'⟩, h1, h2⟩
theorem F_next (x : D) : F__law_next x = runI 2 2 b__law_next x := rfl
/-! ### signs -/
def CH : List Nat := ((" '!\"#$&()*+,-./0123456789:;<=>?@ABCDEFGHIJKLMNOPQRSTUVWXYZ[\\]^_`" : Str) ++ ("abcdefghijklmnopqrstuvwxyz{|}~\n" : Str)).cps.toList
theorem CH_len : CH.length = 96 ∨ CH.length = 95 := by decide +kernel
theorem CH_all : ∀ n < 95, CH[n]?.isSome = true ∧ ∀ c, CH[n]? = some c → (c = 32 ↔ n = 0) ∧ (c = 10 ↔ n = 94) ∧ c < 1114112 := by
  have k : (List.range 95).all (fun n => match CH[n]? with | some c => decide ((c = 32 ↔ n = 0) ∧ (c = 10 ↔ n = 94) ∧ c < 1114112) | none => false) = true := by decide +kernel
  intro n hn
  have := List.all_eq_true.mp k n (List.mem_range.mpr hn)
  cases e : CH[n]? with
  | none => rw [e] at this; cases this
  | some c =>
    rw [e] at this
    refine ⟨rfl, fun c' h => ?_⟩
    cases h
    exact of_decide_eq_true this
theorem char_ok {j : Int} (h : 0 ≤ j) (h2 : j < 95) : ∃ c : Nat, F__law_char [.int j] = some (strD [c], false) ∧ (c = 32 ↔ j = 0) ∧ (c = 10 ↔ j = 94) ∧ c < 1114112 := by
  obtain ⟨h1, h3⟩ := CH_all j.toNat (by omega)
  obtain ⟨c, hc⟩ := Option.isSome_iff_exists.mp h1
  obtain ⟨q1, q2, q3⟩ := h3 c hc
  refine ⟨c, ?_, by rw [q1]; omega, by rw [q2]; omega, q3⟩
  unfold F__law_char runP b__law_char
  have hm : j % 95 = j := Int.emod_eq_of_lt h h2
  have e1 : gAdd (.str " '!\"#$&()*+,-./0123456789:;<=>?@ABCDEFGHIJKLMNOPQRSTUVWXYZ[\\]^_`") (.str "abcdefghijklmnopqrstuvwxyz{|}~\n") = some (strD CH, false) := by
    rw [str_cps, str_cps]
    rw [gAdd_str (by decide +kernel)]
    unfold CH
    rfl
  have e2 : gIx (strD CH) (.int j) = some (strD [c], false) := gIx_str (by rcases CH_len with h | h <;> (rw [h]; decide)) h hc
  simp [e1, gMod_i, hm, e2]
/-! ### a line: no newline in it -/
def Lin (l : List Nat) : Prop := ∀ c ∈ l, c ≠ 10 ∧ c < 1114112
theorem line_ok {ns : List Int} {d : D} (h : Stt ns d) : ∃ l d', F__law_line d [] = some (strD l, false, d') ∧ Stt ns d' ∧ l.length < 90 ∧ Lin l := by
  unfold F__law_line runI b__law_line
  obtain ⟨v1, d1, e1, h1, a1, b1⟩ := next_ok h (lim := 4) (by decide) (by decide)
  obtain ⟨lim, el, hl, hl2⟩ : ∃ lim : Int, atD [.int 9, .int 9, .int 9, .int 90] v1 = some (.int lim) ∧ 0 < lim ∧ lim ≤ 90 := by
    have : v1 = 0 ∨ v1 = 1 ∨ v1 = 2 ∨ v1 = 3 := by omega
    rcases this with rfl | rfl | rfl | rfl
    · exact ⟨9, by simp, by decide, by decide⟩
    · exact ⟨9, by simp, by decide, by decide⟩
    · exact ⟨9, by simp, by decide, by decide⟩
    · exact ⟨90, by simp, by decide, by decide⟩
  obtain ⟨v2, d2, e2, h2, a2, b2⟩ := next_ok h1 hl (by omega)
  have hsm : Qp.small v2 = true := by unfold Qp.small; simp; omega
  have e0 : PyData.str "" = strD [] := by rw [str_cps]; rfl
  simp [e1, el, e2, kR1_of hsm, e0]
  obtain ⟨c, q1, l, x, d', rfl, hx, hs, hlen, hli⟩ := loopF_inv (ft := gx 2) (body := L__law_line_1)
    (fun i c => ∃ l x d', c = [.io d', .dat (strD l), x] ∧ kNo (some x) = true ∧ Stt ns d' ∧ l.length = i ∧ Lin l) (rngD 0 v2.toNat)
    (fun i x c hi ⟨l, y, d', hc, hy, hs, hlen, hli⟩ => by
      subst hc
      obtain ⟨hi, rfl⟩ := rng_item hi
      obtain ⟨v3, d3, e3, h3, a3, b3⟩ := next_ok hs (lim := 94) (by decide) (by decide)
      obtain ⟨ch, ec, c1, c2, c3⟩ := char_ok a3 (by omega : v3 < 95)
      have ea : gAdd (strD l) (strD [ch]) = some (strD (l ++ [ch]), false) := gAdd_str (by simp [LIM]; omega)
      refine ⟨[.io d', .dat (strD l), .dat (.int (0 + (i : Int)))], [.io d3, .dat (strD (l ++ [ch])), .dat (.int (0 + (i : Int)))], by simp [hy], by simp [L__law_line_1, e3, ec, ea], l ++ [ch], _, d3, rfl, rfl, h3, by simp [hlen], ?_⟩
      intro c hc
      rcases List.mem_append.mp hc with hc | hc
      · exact hli c hc
      · rw [List.mem_singleton.mp hc]
        exact ⟨fun z => by have := c2.mp z; omega, c3⟩)
    (cs := [.io d2, .dat (strD []), .no]) ⟨[], _, _, rfl, rfl, h2, rfl, fun c hc => (by cases hc)⟩
  rw [rngD_len] at hlen
  refine ⟨l, d', ?_, hs, by omega, hli⟩
  rw [q1]
  simp
end My
end
section
set_option Elab.async false
set_option linter.all false
set_option maxRecDepth 100000
set_option maxHeartbeats 1000000
namespace My
open PySem PySem.Spec PyProof.Rows L2 Qp
/-! ### where lines start -/
def isSt (b : Bool) (c : Nat) : Bool := b && (c != 32 && c != 10)
def st : Bool → List Nat → Nat → List Nat
  | _, [], _ => []
  | b, c :: r, n => if isSt b c = true then n :: st (c == 10) r (n + 1) else st (c == 10) r (n + 1)
def eb : Bool → List Nat → Bool
  | b, [] => b
  | _, c :: r => eb (c == 10) r
theorem st_append : ∀ (b : Bool) (l m : List Nat) (n : Nat), st b (l ++ m) n = st b l n ++ st (eb b l) m (n + l.length)
  | b, [], m, n => rfl
  | b, c :: r, m, n => by
    show (if isSt b c = true then n :: st (c == 10) (r ++ m) (n + 1) else st (c == 10) (r ++ m) (n + 1)) = _
    rw [st_append (c == 10) r m (n + 1), List.length_cons, show n + (r.length + 1) = n + 1 + r.length by omega]
    show _ = (if isSt b c = true then n :: st (c == 10) r (n + 1) else st (c == 10) r (n + 1)) ++ st (eb (c == 10) r) m (n + 1 + r.length)
    split <;> rfl
theorem eb_append : ∀ (b : Bool) (l m : List Nat), eb b (l ++ m) = eb (eb b l) m
  | b, [], m => rfl
  | b, c :: r, m => eb_append (c == 10) r m
theorem st_lin : ∀ (l : List Nat) (n : Nat), Lin l → st false l n = [] ∧ eb false l = false
  | [], n, _ => ⟨rfl, rfl⟩
  | c :: r, n, h => by
    have hc : (c == 10) = false := by simpa using (h c List.mem_cons_self).1
    obtain ⟨h1, h2⟩ := st_lin r (n + 1) (fun x hx => h x (List.mem_cons_of_mem _ hx))
    constructor
    · show (if isSt false c = true then _ else st (c == 10) r (n + 1)) = []
      rw [hc, if_neg (by simp [isSt])]
      exact h1
    · show eb (c == 10) r = false
      rw [hc]
      exact h2
/-- nothing starts in it, and a line may start behind it -/
def Qui (t : List Nat) : Prop := (∀ n, st true t n = []) ∧ eb true t = true ∧ ∀ c ∈ t, c < 1114112
theorem qui_nil : Qui [] := ⟨fun _ => rfl, rfl, fun c h => (by cases h)⟩
theorem qui_nl {t : List Nat} (h : Qui t) : Qui (t ++ [10]) := by
  refine ⟨fun n => ?_, ?_, ?_⟩
  · rw [st_append, h.1, h.2.1]
    rfl
  · rw [eb_append, h.2.1]
    rfl
  · intro c hc
    rcases List.mem_append.mp hc with hc | hc
    · exact h.2.2 c hc
    · rw [List.mem_singleton.mp hc]
      decide
theorem qui_line {t l : List Nat} (h : Qui t) (hl : Lin l) : Qui (t ++ (32 :: (l ++ [10]))) := by
  obtain ⟨h1, h2⟩ := st_lin l 0 hl
  refine ⟨fun n => ?_, ?_, ?_⟩
  · rw [st_append, h.1, h.2.1]
    have e : ∀ m k, st true (32 :: m) k = st false m (k + 1) := fun m k => by simp [st, isSt]
    rw [List.nil_append, e, st_append, (st_lin l _ hl).1, (st_lin l 0 hl).2]
    rfl
  · rw [eb_append, h.2.1]
    show eb (32 == 10) (l ++ [10]) = true
    rw [show ((32 : Nat) == 10) = false by decide, eb_append, h2]
    rfl
  · intro c hc
    rcases List.mem_append.mp hc with hc | hc
    · exact h.2.2 c hc
    · rcases List.mem_cons.mp hc with hc | hc
      · rw [hc]; decide
      · rcases List.mem_append.mp hc with hc | hc
        · exact (hl c hc).2
        · rw [List.mem_singleton.mp hc]; decide
theorem D_empty : PyData.str "" = strD [] := by rw [str_cps]; rfl
theorem D_space : PyData.str " " = strD [32] := by rw [str_cps]; rfl
theorem D_nl : PyData.str "\n" = strD [10] := by rw [str_cps]; rfl
theorem lines_ok {ns : List Int} {d : D} {n : Int} (h : Stt ns d) (h0 : 0 ≤ n) (h9 : n ≤ 9) : ∃ t d', F__law_lines d [.int n] = some (strD t, false, d') ∧ Stt ns d' ∧ t.length ≤ 900 ∧ Qui t := by
  unfold F__law_lines runI b__law_lines
  have hsm : Qp.small n = true := by unfold Qp.small; simp; omega
  simp [kR1_of hsm, D_empty]
  obtain ⟨c, q1, t, x, y, d', rfl, hx, hy, hs, hlen, hq⟩ := loopF_inv (ft := gx 3) (body := L__law_lines_1)
    (fun i c => ∃ t x y d', c = [.io d', x, .dat (strD t), y] ∧ kNo (some x) = true ∧ kNo (some y) = true ∧ Stt ns d' ∧ t.length ≤ 92 * i ∧ Qui t) (rngD 0 n.toNat)
    (fun i x c hi ⟨t, x', y, d', hc, hx, hy, hs, hlen, hq⟩ => by
      subst hc
      obtain ⟨hi, rfl⟩ := rng_item hi
      obtain ⟨v3, d3, e3, h3, a3, b3⟩ := next_ok hs (lim := 3) (by decide) (by decide)
      by_cases hv : 0 < v3
      · obtain ⟨l, d4, e4, h4, l4, hli⟩ := line_ok h3
        have ea : gAdd (strD t) (strD [32]) = some (strD (t ++ [32]), false) := gAdd_str (by simp [LIM]; omega)
        have eb : gAdd (strD (t ++ [32])) (strD l) = some (strD (t ++ [32] ++ l), false) := gAdd_str (by simp [LIM]; omega)
        have ec : gAdd (strD (t ++ [32] ++ l)) (strD [10]) = some (strD (t ++ [32] ++ l ++ [10]), false) := gAdd_str (by simp [LIM]; omega)
        refine ⟨[.io d', x', .dat (strD t), .dat (.int (0 + (i : Int)))], [.io d4, x', .dat (strD (t ++ [32] ++ l ++ [10])), .dat (.int (0 + (i : Int)))], by simp [hy], ?_, _, _, _, d4, rfl, hx, rfl, h4, by simp; omega, ?_⟩
        · simp only [L__law_lines_1, D_space, D_nl]
          simp [e3, e4, ea, eb, ec, hv, -List.append_assoc]
        · have := qui_line hq hli
          simpa using this
      · have ec : gAdd (strD t) (strD [10]) = some (strD (t ++ [10]), false) := gAdd_str (by simp [LIM]; omega)
        refine ⟨[.io d', x', .dat (strD t), .dat (.int (0 + (i : Int)))], [.io d3, x', .dat (strD (t ++ [10])), .dat (.int (0 + (i : Int)))], by simp [hy], ?_, _, _, _, d3, rfl, hx, rfl, h3, by simp; omega, qui_nl hq⟩
        simp only [L__law_lines_1, D_space, D_nl]
        simp [e3, ec, hv])
    (cs := [.io d, .dat (.int n), .dat (strD []), .no]) ⟨[], _, _, _, rfl, rfl, rfl, h, by simp, qui_nil⟩
  rw [rngD_len] at hlen
  refine ⟨t, d', ?_, hs, by omega, hq⟩
  rw [q1]
  simp
/-! ### line_starts -/
def posD (l : List Nat) : List D := l.map fun n : Nat => PyData.int (n : Int)
theorem stp (b : Bool) (c : Nat) (n : Nat) : st b [c] n = if isSt b c = true then [n] else [] := by
  show (if isSt b c = true then n :: [] else []) = _
  rfl
theorem take_snoc {α : Type} {l : List α} {i : Nat} {c : α} (h : l[i]? = some c) : l.take (i + 1) = l.take i ++ [c] := by
  rw [List.take_add_one, h]
  rfl
theorem eb_take {t : List Nat} {i c : Nat} (h : t[i]? = some c) : eb true (t.take (i + 1)) = (c == 10) := by
  rw [take_snoc h, eb_append]
  rfl
theorem starts_ok {t : List Nat} (hl : t.length ≤ 1000000) (hc : ∀ c ∈ t, c < 1114112) : F_line_starts [strD t] = some (.list (posD (st true t 0)), false) := by
  unfold F_line_starts runP b_line_starts
  have hsm : Qp.small (t.length : Int) = true := by unfold Qp.small; simp; omega
  have hlim : t.length ≤ LIM := by unfold LIM; omega
  simp [kR1_of hsm, gLen_str hlim]
  have lenst : ∀ i, (st true (t.take i) 0).length ≤ i := by
    intro i
    have : ∀ (b : Bool) (l : List Nat) (n : Nat), (st b l n).length ≤ l.length := by
      intro b l
      induction l generalizing b with
      | nil => intro n; exact Nat.le_refl _
      | cons c r ih =>
        intro n
        show (if isSt b c = true then n :: st (c == 10) r (n + 1) else st (c == 10) r (n + 1)).length ≤ r.length + 1
        split
        · exact Nat.succ_le_succ (ih _ _)
        · exact Nat.le_succ_of_le (ih _ _)
    refine Nat.le_trans (this _ _ _) ?_
    rw [List.length_take]
    exact Nat.min_le_left _ _
  obtain ⟨c, q1, x, rfl, hx⟩ := loopF_inv (ft := gx 2) (body := L_line_starts_1)
    (fun i c => ∃ x, c = [.dat (strD t), .own (.list (posD (st true (t.take i) 0))), x] ∧ kNo (some x) = true) (rngD 0 t.length)
    (fun i x c hi ⟨x', hcs, hx⟩ => by
      subst hcs
      obtain ⟨hi', ex⟩ := rng_item hi
      rw [Int.zero_add] at ex
      subst ex
      have hg : t[i]? = some t[i] := List.getElem?_eq_getElem hi'
      have e1 : gIx (strD t) (.int (i : Int)) = some (strD [t[i]], false) := gIx_str hlim (by omega) (by simpa using hg)
      have hstep : st true (t.take (i + 1)) 0 = st true (t.take i) 0 ++ if isSt (eb true (t.take i)) t[i] = true then [i] else [] := by
        rw [take_snoc hg, st_append, stp]
        simp [List.length_take, Nat.min_eq_left (Nat.le_of_lt hi')]
      have z : ∀ a b : Nat, (([a] : List Nat) == [b]) = (a == b) := fun a b => by simp
      have e2 : gIn true (strD [t[i]]) (.tuple [strD [32], strD [10]]) = some (.bool (t[i] != 32 && t[i] != 10), false) := by
        have e3 : (flatD (strD [t[i]]) && List.all [strD [32], strD [10]] flatD) = true := rfl
        show (if (flatD (strD [t[i]]) && List.all [strD [32], strD [10]] flatD) = true then some (PyData.bool (!(List.any [strD [32], strD [10]] fun e => PyData.eqv e (strD [t[i]]))), false) else none) = _
        rw [if_pos e3]
        simp only [List.any_cons, List.any_nil, eqv_str, Bool.or_false]
        rw [z, z, Bool.not_or]
        simp only [bne]
        rw [Bool.beq_comm (a := (32 : Nat)), Bool.beq_comm (a := (10 : Nat))]
      have hap : fApp (.int (i : Int)) (.list (posD (st true (t.take i) 0))) = some (.list (posD (st true (t.take i) 0) ++ [.int (i : Int)])) := fApp_of (by
        have := lenst i
        unfold posD LIM
        rw [List.length_map]
        omega)
      refine ⟨[.dat (strD t), .own (.list (posD (st true (t.take i) 0))), .dat (.int (i : Int))], [.dat (strD t), .own (.list (posD (st true (t.take (i + 1)) 0))), .dat (.int (i : Int))], by simp [hx], ?_, _, rfl, rfl⟩
      rw [hstep]
      unfold posD at hap ⊢
      rw [List.map_append]
      simp only [L_line_starts_1, D_space, D_nl]
      by_cases hb : (t[i] != 32 && t[i] != 10) = true
      · by_cases h0 : i = 0
        · have hs : isSt (eb true (t.take i)) t[i] = true := by
            subst h0
            exact hb
          rw [if_pos hs]
          have hi0 : ((i : Int) == 0) = true := by simp [h0]
          simp [e1, e2, hb, hi0, hap]
        · have hi0 : ((i : Int) == 0) = false := by simp [h0]
          have hg' : t[i - 1]? = some t[i - 1] := List.getElem?_eq_getElem (by omega)
          have e4 : gIx (strD t) (.int ((i : Int) - 1)) = some (strD [t[i - 1]], false) := gIx_str hlim (by omega) (by
            have : ((i : Int) - 1).toNat = i - 1 := by omega
            rw [this]
            exact hg')
          have e5 : gEq (strD [t[i - 1]]) (strD [10]) = some (.bool (t[i - 1] == 10), false) := by
            rw [gEq_str (fun c h => by rw [List.mem_singleton.mp h]; exact hc _ (List.getElem_mem _)) (fun c h => by rw [List.mem_singleton.mp h]; decide), z]
          have eeb : eb true (t.take i) = (t[i - 1] == 10) := by
            have := eb_take hg'
            rwa [show i - 1 + 1 = i by omega] at this
          rw [eeb]
          unfold isSt
          rw [hb, Bool.and_true]
          cases hk : (t[i - 1] == 10) with
          | true =>
            rw [hk] at e5
            simp [e1, e2, hb, hi0, hap, e4, e5]
          | false =>
            rw [hk] at e5
            simp [e1, e2, hb, hi0, hap, e4, e5]
      · have hb' : (t[i] != 32 && t[i] != 10) = false := by simpa using hb
        have hs : ¬ isSt (eb true (t.take i)) t[i] = true := by
          unfold isSt
          rw [hb', Bool.and_false]
          exact Bool.false_ne_true
        rw [if_neg hs]
        rw [hb'] at e2
        simp [e1, e2])
    (cs := [.dat (strD t), .own (.list []), .no]) ⟨.no, rfl, rfl⟩
  rw [rngD_len, List.take_length] at q1
  simp [q1]
end My
end
section
set_option Elab.async false
set_option linter.all false
set_option maxRecDepth 100000
set_option maxHeartbeats 1000000
namespace My
open PySem PySem.Spec PyProof.Rows L2 Qp
/-! ### chunks -/
def pairs : List Nat → Nat → List (Nat × Nat)
  | [], _ => []
  | [a], L => [(a, L)]
  | a :: b :: r, L => (a, b) :: pairs (b :: r) L
theorem zip_pairs (L : Nat) : ∀ ss : List Nat, zipD (posD ss) ((posD ss).drop 1 ++ [.int (L : Int)]) = (pairs ss L).map fun p => .tuple [.int (p.1 : Int), .int (p.2 : Int)]
  | [] => rfl
  | [a] => rfl
  | a :: b :: r => by
    have := zip_pairs L (b :: r)
    show PyData.tuple [.int (a : Int), .int (b : Int)] :: zipD (posD (b :: r)) ((posD (b :: r)).drop 1 ++ [.int (L : Int)]) = _
    rw [this]
    rfl
theorem st_lt : ∀ (b : Bool) (l : List Nat) (n x : Nat), x ∈ st b l n → x < n + l.length
  | _, [], _, _, h => (by cases h)
  | b, c :: r, n, x, h => by
    have h' : x ∈ (if isSt b c = true then n :: st (c == 10) r (n + 1) else st (c == 10) r (n + 1)) := h
    rw [List.length_cons]
    split at h'
    · rcases List.mem_cons.mp h' with e | e
      · omega
      · have := st_lt _ r (n + 1) x e
        omega
    · have := st_lt _ r (n + 1) x h'
      omega
theorem pairs_le : ∀ (ss : List Nat) (L : Nat), (∀ x ∈ ss, x ≤ L) → ∀ p ∈ pairs ss L, p.2 ≤ L
  | [], _, _, p, hp => (by cases hp)
  | [a], L, h, p, hp => by
    rw [List.mem_singleton.mp hp]
    exact Nat.le_refl _
  | a :: b :: r, L, h, p, hp => by
    rcases List.mem_cons.mp hp with e | e
    · rw [e]
      exact h b (by simp)
    · exact pairs_le (b :: r) L (fun x hx => h x (List.mem_cons_of_mem _ hx)) p e
theorem pairs_len : ∀ (ss : List Nat) (L : Nat), (pairs ss L).length = ss.length
  | [], _ => rfl
  | [a], L => rfl
  | a :: b :: r, L => by
    show (pairs (b :: r) L).length + 1 = _
    rw [pairs_len (b :: r) L]
    rfl
theorem st_len : ∀ (b : Bool) (l : List Nat) (n : Nat), (st b l n).length ≤ l.length
  | _, [], _ => Nat.le_refl _
  | b, c :: r, n => by
    show (if isSt b c = true then n :: st (c == 10) r (n + 1) else st (c == 10) r (n + 1)).length ≤ r.length + 1
    split
    · exact Nat.succ_le_succ (st_len _ r _)
    · exact Nat.le_succ_of_le (st_len _ r _)
def cutT (t : List Nat) (p : Nat × Nat) : D := .tuple [.int (p.1 : Int), strD ((t.drop p.1).take (p.2 - p.1))]
def vT (t : List Nat) : D → D
  | .tuple [.int a, .int b] => cutT t (a.toNat, b.toNat)
  | d => d
theorem cutL1 {α : Type} (xs : List α) : cutL xs (some 1) none = xs.drop 1 := by
  unfold cutL
  rw [show HT.sIx xs.length 0 (some 1) = min 1 xs.length from HT.sIx_nat xs.length 0 1, HT.sIx_none]
  cases xs with
  | nil => rfl
  | cons x r =>
    rw [show min 1 (x :: r).length = 1 by rw [List.length_cons]; omega]
    show (List.take ((x :: r).length - 1) r) = r
    rw [List.length_cons, Nat.add_sub_cancel]
    exact List.take_length
theorem chunks_ok {t : List Nat} (hl : t.length ≤ 1000000) (hc : ∀ c ∈ t, c < 1114112) : F_chunks [strD t] = some (.list ((pairs (st true t 0) t.length).map (cutT t)), true) := by
  have hlim : t.length ≤ LIM := by unfold LIM; omega
  have hsl : (st true t 0).length ≤ t.length := st_len _ _ _
  unfold F_chunks runP b_chunks
  have e1 : gSl (.list (posD (st true t 0))) (some 1) none = some (.list ((posD (st true t 0)).drop 1), true) := by
    show some (PyData.list (cutL _ _ _), true) = _
    rw [cutL1]
  have e2 : gAdd (.list ((posD (st true t 0)).drop 1)) (.list [.int (t.length : Int)]) = some (.list ((posD (st true t 0)).drop 1 ++ [.int (t.length : Int)]), true) := by
    show (if _ ≤ LIM then _ else _) = _
    rw [if_pos (by
      rw [List.length_drop, List.length_singleton]
      unfold posD
      rw [List.length_map]
      unfold LIM
      omega)]
  simp only [sSeq_ap, sAsg_ap, evA_ap, evCons_ap, evVar_ap]
  simp [starts_ok hl hc, e1, e2, gLen_str hlim, zip_pairs, noOwn, clr, -List.drop_one]
  rw [loopC_map (v := vT t)]
  · simp [rst]
    intro a b hab
    simp [vT]
  · intro x hx
    obtain ⟨p, hp, rfl⟩ := List.mem_map.mp hx
    have hp2 := pairs_le _ t.length (fun x hx => by have := st_lt _ _ _ _ hx; omega) p hp
    have e3 : gSl (strD t) (some (p.1 : Int)) (some (p.2 : Int)) = some (strD ((t.drop p.1).take (p.2 - p.1)), false) := gSl_str hlim hp2
    refine ⟨_, false, by simp; rfl, rfl, ?_, ?_, ?_⟩
    · simp [C_chunks_1, e3, vT, cutT]
    · simp [noOwn]
    · simp [clr]
  · rw [List.length_map, pairs_len]
    show 0 + _ ≤ LIM
    unfold LIM
    omega
end My
end
section
set_option Elab.async false
set_option linter.all false
set_option maxRecDepth 100000
set_option maxHeartbeats 1000000
namespace My
open PySem PySem.Spec PyProof.Rows L2 Qp
/-! ### _law_same tells that a thing is like itself -/
def Pl : Nat → D → Prop
  | 0, _ => False
  | k + 1, d => match d with
    | .none => True
    | .bool _ => True
    | .int _ => True
    | .str s => ∀ c ∈ s.cps.toList, c < 1114112
    | .list ds => ds.length ≤ 1000000 ∧ ∀ d ∈ ds, Pl k d
    | .tuple ds => ds.length ≤ 1000000 ∧ ∀ d ∈ ds, Pl k d
    | .dict _ => False
theorem gEq_b (a b : Bool) : gEq (.bool a) (.bool b) = some (.bool (a == b), false) := rfl
theorem same_loop {k : Nat} {ds : List D} (ih : ∀ d ∈ ds, F__law_same k [d, d] = some (.bool true, false)) {X : List D → D} (hX : (X = PyData.list) ∨ X = PyData.tuple) {x : Cell} (hx : kNo (some x) = true) :
    ∃ c, loopF (gx 2) (L__law_same_1 (F__law_same k)) (rngD 0 ds.length) [.dat (X ds), .dat (X ds), x] = some (.nx c) := by
  obtain ⟨c, q, _⟩ := loopF_inv (ft := gx 2) (body := L__law_same_1 (F__law_same k)) (fun _ c => ∃ x, c = [.dat (X ds), .dat (X ds), x] ∧ kNo (some x) = true) (rngD 0 ds.length) (fun i x c hi ⟨y, hc, hy⟩ => by
    subst hc
    obtain ⟨hi', e⟩ := rng_item hi
    rw [Int.zero_add] at e
    subst e
    have hg : ds[i]? = some ds[i] := List.getElem?_eq_getElem hi'
    have ea : atD ds (i : Int) = some ds[i] := by
      rw [atD_of (by omega) (by omega)]
      simpa using hg
    have es := ih ds[i] (List.getElem_mem _)
    refine ⟨[.dat (X ds), .dat (X ds), .dat (.int (i : Int))], [.dat (X ds), .dat (X ds), .dat (.int (i : Int))], by simp [hy], ?_, _, rfl, rfl⟩
    rcases hX with rfl | rfl
    · simp [L__law_same_1, ea, es]
    · simp [L__law_same_1, ea, es]) (cs := [.dat (X ds), .dat (X ds), x]) ⟨x, rfl, hx⟩
  exact ⟨c, q⟩
theorem same_refl : ∀ (k : Nat) (d : D), Pl k d → F__law_same k [d, d] = some (.bool true, false)
  | 0, _, h => h.elim
  | k + 1, d, h => by
    show runP 2 1 (b__law_same (F__law_same k)) [d, d] = _
    unfold runP b__law_same
    cases d with
    | none => simp [isNone]
    | bool b => simp [isNone, isT, gEq_b]
    | int i => simp [isNone, isT]
    | str s =>
      have h' : ∀ c ∈ s.cps.toList, c < 1114112 := h
      rw [str_cps]
      simp [gEq_str h' h']
    | list ds =>
      obtain ⟨hl, hd⟩ : ds.length ≤ 1000000 ∧ ∀ d ∈ ds, Pl k d := h
      have hsm : Qp.small (ds.length : Int) = true := by unfold Qp.small; simp; omega
      obtain ⟨c, q⟩ := same_loop (k := k) (ds := ds) (fun d hd' => same_refl k d (hd d hd')) (X := PyData.list) (.inl rfl) (x := .no) rfl
      simp [isNone, isT, kR1_of hsm, q]
    | tuple ds =>
      obtain ⟨hl, hd⟩ : ds.length ≤ 1000000 ∧ ∀ d ∈ ds, Pl k d := h
      have hsm : Qp.small (ds.length : Int) = true := by unfold Qp.small; simp; omega
      obtain ⟨c, q⟩ := same_loop (k := k) (ds := ds) (fun d hd' => same_refl k d (hd d hd')) (X := PyData.tuple) (.inr rfl) (x := .no) rfl
      simp [isNone, isT, kR1_of hsm, q]
    | dict _ => exact h.elim
/-! ### the pieces -/
def posOf : Nat → List (List Nat) → List Nat
  | _, [] => []
  | n, c :: r => n :: posOf (n + c.length) r
def expD : Nat → List (List Nat) → List D
  | _, [] => []
  | n, c :: r => .tuple [.int (n : Int), strD c] :: expD (n + c.length) r
theorem posOf_snoc : ∀ (n : Nat) (cs : List (List Nat)) (c : List Nat), posOf n (cs ++ [c]) = posOf n cs ++ [n + cs.flatten.length]
  | n, [], c => by simp [posOf]
  | n, d :: r, c => by
    show n :: posOf (n + d.length) (r ++ [c]) = _
    rw [posOf_snoc (n + d.length) r c, List.flatten_cons, List.length_append, Nat.add_assoc]
    rfl
theorem expD_snoc : ∀ (n : Nat) (cs : List (List Nat)) (c : List Nat), expD n (cs ++ [c]) = expD n cs ++ [.tuple [.int ((n + cs.flatten.length : Nat) : Int), strD c]]
  | n, [], c => by simp [expD]
  | n, d :: r, c => by
    show PyData.tuple [.int (n : Int), strD d] :: expD (n + d.length) (r ++ [c]) = _
    rw [expD_snoc (n + d.length) r c, List.flatten_cons, List.length_append, Nat.add_assoc]
    rfl
theorem expD_len : ∀ (n : Nat) (cs : List (List Nat)), (expD n cs).length = cs.length
  | _, [] => rfl
  | n, c :: r => by
    show (expD (n + c.length) r).length + 1 = _
    rw [expD_len (n + c.length) r]
    rfl
theorem pairs_exp : ∀ (cs : List (List Nat)) (B T : List Nat), T = B ++ cs.flatten → (pairs (posOf B.length cs) T.length).map (cutT T) = expD B.length cs
  | [], _, _, _ => rfl
  | [c], B, T, h => by
    subst h
    show [cutT _ (B.length, _)] = [PyData.tuple [.int (B.length : Int), strD c]]
    unfold cutT
    dsimp only
    rw [List.drop_left, List.length_append, Nat.add_sub_cancel_left, List.take_length]
    simp
  | c :: d :: r, B, T, h => by
    have ih := pairs_exp (d :: r) (B ++ c) T (by rw [h, List.append_assoc]; rfl)
    rw [List.length_append] at ih
    show (((B.length, B.length + c.length) :: pairs (posOf (B.length + c.length) (d :: r)) T.length).map (cutT T)) = PyData.tuple [.int (B.length : Int), strD c] :: expD (B.length + c.length) (d :: r)
    rw [List.map_cons, ih]
    subst h
    unfold cutT
    dsimp only
    rw [List.drop_left, Nat.add_sub_cancel_left, List.flatten_cons, List.take_left]
/-- a chunk: one line starts in it, at its beginning -/
def Chk (c : List Nat) : Prop := (∀ n, st true c n = [n]) ∧ ∀ x ∈ c, x < 1114112
theorem chk_mk {h : Nat} {l t : List Nat} (h1 : h ≠ 32) (h2 : h ≠ 10) (h3 : h < 1114112) (hl : Lin l) (ht : Qui t) :
    Chk (h :: (l ++ [10] ++ t)) ∧ eb true (h :: (l ++ [10] ++ t)) = true ∧ Chk ((h :: (l ++ [10] ++ t)).take ((h :: (l ++ [10] ++ t)).length - 1)) := by
  have h10 : (h == 10) = false := by simpa using h2
  have hs : isSt true h = true := by simp [isSt, h1, h2]
  have rest : ∀ n, st false (l ++ [10] ++ t) n = [] := fun n => by
    have e10 : ∀ m k, st false (10 :: m) k = st true m (k + 1) := fun m k => by simp [st, isSt]
    rw [List.append_assoc, st_append, (st_lin l n hl).1, (st_lin l n hl).2, List.nil_append, List.singleton_append, e10]
    exact ht.1 _
  have head : ∀ r n, st true (h :: r) n = n :: st false r (n + 1) := fun r n => by
    show (if isSt true h = true then n :: st (h == 10) r (n + 1) else _) = _
    rw [if_pos hs, h10]
  have mem : ∀ x ∈ h :: (l ++ [10] ++ t), x < 1114112 := by
    intro x hx
    rcases List.mem_cons.mp hx with e | hx
    · rw [e]; exact h3
    · rcases List.mem_append.mp hx with hx | hx
      · rcases List.mem_append.mp hx with hx | hx
        · exact (hl x hx).2
        · rw [List.mem_singleton.mp hx]; decide
      · exact ht.2.2 x hx
  refine ⟨⟨fun n => by rw [head, rest], mem⟩, ?_, ⟨fun n => ?_, fun x hx => mem x (List.mem_of_mem_take hx)⟩⟩
  · show eb (h == 10) (l ++ [10] ++ t) = true
    rw [h10, List.append_assoc, eb_append, (st_lin l 0 hl).2]
    exact ht.2.1
  · have e : (h :: (l ++ [10] ++ t)).length - 1 = ((l ++ [10] ++ t).length - 1) + 1 := by simp; omega
    rw [e, List.take_succ_cons, head]
    have z := rest (n + 1)
    rw [← List.take_append_drop ((l ++ [10] ++ t).length - 1) (l ++ [10] ++ t), st_append] at z
    rw [(List.append_eq_nil_iff.mp z).1]
end My
end
section
set_option Elab.async false
set_option linter.all false
set_option maxRecDepth 100000
set_option maxHeartbeats 2000000
namespace My
open PySem PySem.Spec PyProof.Rows L2 Qp
/-- the cells in the loop of the law -/
def lawEn (a d : D) (T : List Nat) (B : List Nat) (cs : List (List Nat)) (n : Int) (x y : Cell) : En :=
  [.dat a, .own d, .dat (strD T), .own (.list (expD B.length cs)), .dat (strD B), .dat (.int n), x, y, .no, .no]
structure LawI (ns : List Int) (a : D) (B : List Nat) (n : Int) (i : Nat) (c : En) : Prop where
  mk :: ex : ∃ d T cs x y, c = lawEn a d T B cs n x y ∧ kNo (some x) = true ∧ (y = .no ∨ ∃ z, y = .dat z) ∧ Stt ns d ∧ T = B ++ cs.flatten ∧ st true T 0 = posOf B.length cs ∧ cs.length = i ∧ (∀ c ∈ T, c < 1114112) ∧ T.length ≤ 900 + 1000 * i ∧ ((i : Int) < n → eb true T = true)
theorem law_step {ns : List Int} {a : D} {B : List Nat} {n : Int} (hn : n ≤ 149) (i : Nat) (x : D) (c : En) (hi : (rngD 0 n.toNat)[i]? = some x) (h : LawI ns a B n i c) : ∃ c1 c2, gx 6 x c = some c1 ∧ L_law_1 c1 = some (.nx c2) ∧ LawI ns a B n (i + 1) c2 := by
  obtain ⟨d, T, cs, x6, x7, rfl, hx6, hx7, hs, hT, hst, hlen, hc, hTl, heb⟩ := h.ex
  have hx7 : kNo (some x7) = true := by rcases hx7 with rfl | ⟨_, rfl⟩ <;> rfl
  obtain ⟨hi, rfl⟩ := rng_item hi
  have hin : (i : Int) < n := by omega
  have heb := heb hin
  obtain ⟨v1, d1, e1, h1, a1, b1⟩ := next_ok hs (lim := 93) (by decide) (by decide)
  obtain ⟨ch, ec, c1, c2, c3⟩ := char_ok (j := 1 + v1) (by omega) (by omega)
  have c1' : ch ≠ 32 := fun z => by have := c1.mp z; omega
  have c2' : ch ≠ 10 := fun z => by have := c2.mp z; omega
  obtain ⟨l, d2, e2, h2, hll, hli⟩ := line_ok h1
  obtain ⟨v3, d3, e3, h3, a3, b3⟩ := next_ok h2 (lim := 2) (by decide) (by decide)
  obtain ⟨lim, el, hl, hl2⟩ : ∃ lim : Int, atD [.int 4, .int 9] v3 = some (.int lim) ∧ 0 < lim ∧ lim ≤ 9 := by
    have : v3 = 0 ∨ v3 = 1 := by omega
    rcases this with rfl | rfl
    · exact ⟨4, by simp, by decide, by decide⟩
    · exact ⟨9, by simp, by decide, by decide⟩
  obtain ⟨v4, d4, e4, h4, a4, b4⟩ := next_ok h3 hl (by omega)
  obtain ⟨t, d5, e5, h5, htl, hq⟩ := lines_ok h4 a4 (by omega)
  obtain ⟨k1, k2, k3⟩ := chk_mk c1' c2' c3 hli hq
  have g1 : gAdd (strD [ch]) (strD l) = some (strD (ch :: l), false) := gAdd_str (by unfold LIM; simp; omega)
  have g2 : gAdd (strD (ch :: l)) (strD [10]) = some (strD (ch :: (l ++ [10])), false) := gAdd_str (by unfold LIM; simp; omega)
  have g3 : gAdd (strD (ch :: (l ++ [10]))) (strD t) = some (strD (ch :: (l ++ [10] ++ t)), false) := gAdd_str (by unfold LIM; simp; omega)
  have hCl : (ch :: (l ++ [10] ++ t)).length ≤ 1000 := by simp; omega
  have hC1 : 1 ≤ (ch :: (l ++ [10] ++ t)).length := by simp
  generalize ch :: (l ++ [10] ++ t) = C at *
  have gl : gLen (strD C) = some (.int C.length, false) := gLen_str (by unfold LIM; omega)
  have gT : gLen (strD T) = some (.int T.length, false) := gLen_str (by unfold LIM; omega)
  have gs : gSl (strD C) none (some ((C.length : Int) - 1)) = some (strD (C.take (C.length - 1)), false) := by
    have := gSl_strTo (l := C) (b := C.length - 1) (by unfold LIM; omega) (by omega)
    rwa [show ((C.length - 1 : Nat) : Int) = (C.length : Int) - 1 by omega] at this
  -- the end of a round, with the chunk that it made
  have fin : ∀ (Z : List Nat) (d' : D), Chk Z → Z.length ≤ 1000 → ((i : Int) + 1 < n → eb true Z = true) → Stt ns d' →
      ∃ T', T' = T ++ Z ∧ gAdd (strD T) (strD Z) = some (strD T', false) ∧
        LawI ns a B n (i + 1) [.dat a, .own d', .dat (strD T'), .own (.list (expD B.length cs ++ [.tuple [.int T.length, strD Z]])), .dat (strD B), .dat (.int n), .dat (.int (i : Int)), .dat (strD Z), .no, .no] := by
    intro Z d' hZ hZl hZe hd'
    refine ⟨T ++ Z, rfl, gAdd_str (by unfold LIM; omega), ⟨d', T ++ Z, cs ++ [Z], .dat (.int (i : Int)), .dat (strD Z), ?_, by rfl, .inr ⟨_, rfl⟩, hd', ?_, ?_, by simp [hlen], ?_, ?_, ?_⟩⟩
    · have : T.length = B.length + cs.flatten.length := by rw [hT, List.length_append]
      unfold lawEn
      rw [expD_snoc, this]
    · rw [hT, List.flatten_append, List.append_assoc]
      simp
    · rw [st_append, hst, heb, hZ.1, posOf_snoc, hT, List.length_append]
      simp
    · intro x hx
      rcases List.mem_append.mp hx with hx | hx
      · exact hc x hx
      · exact hZ.2 x hx
    · rw [List.length_append]; omega
    · intro hlt
      rw [eb_append, heb]
      exact hZe (by omega)
  have hap : ∀ e, fApp e (.list (expD B.length cs)) = some (.list (expD B.length cs ++ [e])) := fun e => fApp_of (by rw [expD_len]; unfold LIM; omega)
  unfold lawEn
  refine ⟨[.dat a, .own d, .dat (strD T), .own (.list (expD B.length cs)), .dat (strD B), .dat (.int n), .dat (.int (i : Int)), x7, .no, .no], ?_⟩
  by_cases hend : (i : Int) = n - 1
  · obtain ⟨v6, d6, e6, h6, a6, b6⟩ := next_ok h5 (lim := 2) (by decide) (by decide)
    by_cases hv6 : v6 = 1
    · obtain ⟨T', _, q1, q2⟩ := fin (C.take (C.length - 1)) d6 k3 (by rw [List.length_take]; omega) (fun z => by omega) h6
      refine ⟨_, by simp [hx6], ?_, q2⟩
      have hendb : ((i : Int) == n - 1) = true := by simp [hend]
      simp [L_law_1, hx7, e1, ec, e2, D_nl, e3, el, e4, e5, g1, g2, g3, hendb, e6, hv6, gl, gs, gT, hap, q1]
    · obtain ⟨T', _, q1, q2⟩ := fin C d6 k1 hCl (fun _ => k2) h6
      refine ⟨_, by simp [hx6], ?_, q2⟩
      have hendb : ((i : Int) == n - 1) = true := by simp [hend]
      have hv6b : (v6 == 1) = false := by simp [hv6]
      simp [L_law_1, hx7, e1, ec, e2, D_nl, e3, el, e4, e5, g1, g2, g3, hendb, e6, hv6b, gl, gs, gT, hap, q1]
  · obtain ⟨T', _, q1, q2⟩ := fin C d5 k1 hCl (fun _ => k2) h5
    refine ⟨_, by simp [hx6], ?_, q2⟩
    have hendb : ((i : Int) == n - 1) = false := by simp [hend]
    simp [L_law_1, hx7, e1, ec, e2, D_nl, e3, el, e4, e5, g1, g2, g3, hendb, gl, gs, gT, hap, q1]
def k_tail : SX := sSeq (sFor (ixR1 (evCons (evVar 5) (evNil))) (gx 6) (L_law_1))
  (sSeq (sAsg 8 (evA (gN 1 (F_chunks)) (evCons (evVar 2) (evNil))))
  (sSeq (sIf (evNotT (evT (evA (gN 2 (F__law_same 4)) (evCons (evVar 8) (evCons (evVar 3) (evNil)))))) (sRet (evC (.bool false))) (sNx))
  (sRet (ev2 gEq (evIxV gAdd 4 (evJoin (evC (.str "")) (evLc [9, 7] (ixSeq (evVar 8)) (gxTup (gxCons (gx 9) (gxCons (gx 7) (gxNil))) 2) (evYes) (C_law_2)))) (evVar 2)))))
def k_head : SX → SX := fun k => sSeq (sAsg 1 (evA gLstD (evCons (evV1 gList 0) (evCons (evC (.int 0)) (evCons (evC (.int 0)) (evCons (evC (.int 1)) (evNil)))))))
  (sSeq (sAsg 2 (evCI 2 (F__law_lines) 1 (evCons (evCI 2 (F__law_next) 1 (evCons (evC (.int 4)) (evNil))) (evNil))))
  (sSeq (sAsg 3 (evA gLstD (evNil)))
  (sSeq (sAsg 4 (evVar 2))
  (sSeq (sAsg 5 (evCI 2 (F__law_next) 1 (evCons (evC (.int 13)) (evNil))))
  (sSeq (sIf (evT (ev2 gEq (evCI 2 (F__law_next) 1 (evCons (evC (.int 6)) (evNil))) (evC (.int 5)))) (sAsg 5 (ev2 gAdd (evC (.int 60)) (evCI 2 (F__law_next) 1 (evCons (evC (.int 90)) (evNil))))) (sNx))
  k)))))
theorem b_law_parts : b_law = k_head k_tail := rfl
theorem main (ns : List Int) (hl : ns.length ≤ 63) : F_law [.list (ns.map .int)] = some (.bool true, false) := by
  unfold F_law runP
  rw [b_law_parts]
  have h0 : Stt ns (.list [.list (ns.map .int), .int 0, .int 0, .int 1]) := ⟨0, 0, 1, rfl, ⟨by decide, by omega, by decide, by decide, by decide⟩⟩
  obtain ⟨v1, d1, e1, h1, a1, b1⟩ := next_ok h0 (lim := 4) (by decide) (by decide)
  obtain ⟨B, d2, e2, h2, hBl, hq⟩ := lines_ok h1 a1 (by omega)
  obtain ⟨v3, d3, e3, h3, a3, b3⟩ := next_ok h2 (lim := 13) (by decide) (by decide)
  obtain ⟨v4, d4, e4, h4, a4, b4⟩ := next_ok h3 (lim := 6) (by decide) (by decide)
  have body : ∀ (n : Int) (d : D), 0 ≤ n → n ≤ 149 → Stt ns d → ∃ c, loopF (gx 6) L_law_1 (rngD 0 n.toNat) (lawEn (.list (ns.map .int)) d B B [] n .no .no) = some (.nx c) ∧ LawI ns (.list (ns.map .int)) B n n.toNat c := by
    intro n d hn0 hn hd
    obtain ⟨c, q, hI⟩ := loopF_inv (LawI ns (.list (ns.map .int)) B n) (rngD 0 n.toNat) (fun i x c hi h => law_step hn i x c hi h) (cs := lawEn (.list (ns.map .int)) d B B [] n .no .no)
      ⟨d, B, [], .no, .no, rfl, rfl, .inl rfl, hd, by simp, hq.1 0, rfl, hq.2.2, by omega, fun _ => hq.2.1⟩
    rw [rngD_len] at hI
    exact ⟨c, q, hI⟩
  have tail : ∀ (n : Int) (d : D), 0 ≤ n → n ≤ 149 → Stt ns d → ∃ c, k_tail (lawEn (.list (ns.map .int)) d B B [] n .no .no) = some (.rt (.bool true) false c) := by
    intro n d hn0 hn hd
    obtain ⟨c, q, hI⟩ := body n d hn0 hn hd
    have hsm : Qp.small n = true := by unfold Qp.small; simp; omega
    unfold lawEn at q
    obtain ⟨d', T, cs, x6, x7, rfl, hx6, hx7, hs, hT, hst, hlen, hc, hTl, heb⟩ := hI.ex
    have hck := chunks_ok (t := T) (by omega) hc
    rw [hst, pairs_exp cs B T hT] at hck
    have hT2 : T.length = B.length + cs.flatten.length := by rw [hT, List.length_append]
    have pl : Pl 4 (.list (expD B.length cs)) := by
      have gen : ∀ (cs : List (List Nat)) (k : Nat), (∀ c ∈ cs.flatten, c < 1114112) → ∀ d ∈ expD k cs, Pl 3 d := by
        intro cs
        induction cs with
        | nil => intro k _ d hd; cases hd
        | cons c r ih =>
          intro k hc d hd
          rw [List.flatten_cons] at hc
          rcases List.mem_cons.mp hd with e | e
          · subst e
            refine ⟨by simp, fun d hd => ?_⟩
            rcases List.mem_cons.mp hd with e | e
            · subst e; trivial
            · rw [List.mem_singleton.mp e]
              intro x hx
              exact hc x (List.mem_append_left _ (by simpa using hx))
          · exact ih _ (fun x hx => hc x (List.mem_append_right _ hx)) d e
      refine ⟨by rw [expD_len]; omega, gen cs _ fun x hx => hc x (by rw [hT]; exact List.mem_append_right _ hx)⟩
    have hsame := same_refl 4 _ pl
    have hlc : ∀ c0 : En, c0 = [.dat (.list (ns.map .int)), .own d', .dat (strD T), .dat (.list (expD B.length cs)), .dat (strD B), .dat (.int n), x6, .no, .dat (.list (expD B.length cs)), .no] → loopC (gxTup (gxCons (gx 9) (gxCons (gx 7) gxNil)) 2) evYes C_law_2 [9, 7] (expD B.length cs) [] c0 = some (cs.map strD, c0) := by
      intro c0 hc0
      have hv : ∀ (cs : List (List Nat)) (k : Nat), (expD k cs).map (fun d => match d with | .tuple [_, z] => z | _ => d) = cs.map strD := by
        intro cs
        induction cs with
        | nil => intro k; rfl
        | cons c r ih => intro k; show strD c :: _ = strD c :: _; rw [ih]
      rw [← hv cs B.length]
      have := loopC_map (gt := gxTup (gxCons (gx 9) (gxCons (gx 7) gxNil)) 2) (ft := evYes) (fe := C_law_2) (vs := [9, 7]) (items := expD B.length cs) (cs := c0) (v := fun d => match d with | .tuple [_, z] => z | _ => d) ?_ [] (by rw [expD_len]; show 0 + _ ≤ LIM; unfold LIM; omega)
      · simpa using this
      · intro x hx
        have gen : ∀ (cs : List (List Nat)) (k : Nat), ∀ d ∈ expD k cs, ∃ (m : Int) (c : List Nat), d = .tuple [.int m, strD c] := by
          intro cs
          induction cs with
          | nil => intro k d hd; cases hd
          | cons c r ih =>
            intro k d hd
            rcases List.mem_cons.mp hd with e | e
            · exact ⟨_, _, e⟩
            · exact ih _ d e
        obtain ⟨m, c, rfl⟩ := gen cs _ x hx
        subst hc0
        refine ⟨_, false, by simp; rfl, rfl, ?_, ?_, ?_⟩
        · simp [C_law_2]
        · simp [noOwn]
        · simp [clr]
    have gj := gJoin_nil (ls := cs) (by unfold LIM; omega) (s := "") (by rfl)
    have ga : gAdd (strD B) (strD cs.flatten) = some (strD T, false) := by rw [hT]; exact gAdd_str (by unfold LIM; omega)
    have ge := gEq_str hc hc
    rcases hx7 with rfl | ⟨z7, rfl⟩
    · refine ⟨[.dat (.list (ns.map .int)), .own d', .dat (strD T), .dat (.list (expD B.length cs)), .dat (strD B), .dat (.int n), x6, .no, .dat (.list (expD B.length cs)), .no], ?_⟩
      simp [k_tail, lawEn, kR1_of hsm, q, hck, hsame, noOwn, clr, evJoin, hlc, rst, gj, ga, ge]
    · refine ⟨[.dat (.list (ns.map .int)), .own d', .dat (strD T), .dat (.list (expD B.length cs)), .dat (strD B), .dat (.int n), x6, .dat z7, .dat (.list (expD B.length cs)), .no], ?_⟩
      simp [k_tail, lawEn, kR1_of hsm, q, hck, hsame, noOwn, clr, evJoin, hlc, rst, gj, ga, ge]
  by_cases hv : v4 = 5
  · obtain ⟨v5, d5, e5, h5, a5, b5⟩ := next_ok h4 (lim := 90) (by decide) (by decide)
    obtain ⟨c, q⟩ := tail (60 + v5) d5 (by omega) (by omega) h5
    unfold lawEn at q
    have : expD B.length [] = [] := rfl
    rw [this] at q
    subst hv
    simp [k_head, e1, e2, e3, e4, e5, q]
  · obtain ⟨c, q⟩ := tail v3 d4 (by omega) (by omega) h4
    unfold lawEn at q
    have : expD B.length [] = [] := rfl
    rw [this] at q
    have hvb : (v4 == 5) = false := by simp [hv]
    simp [k_head, e1, e2, e3, e4, hvb, q]
end My
end
section
open PySem PySem.W PyProof.Rows
set_option maxHeartbeats 0 in
theorem PySem.Challenge.cw_quillproof_k20_chunks_of_a_text_holds : PySem.Challenge.rw_quillproof_k20_chunks_of_a_text.Holds := by
  w_on; o_law; k_head; (case hw => w_witness2)
  k_fill
  refine L2.walk_of (l := PySem.Challenge.rw_quillproof_k20_chunks_of_a_text) (n := 63) (k := 5) (x := "script") (CX := fun _ => L2.CX0) (sp := fun w => Qp.spP _ 1 My.F_law) rfl (by decide) rfl ⟨rfl, by decide, by decide⟩ (fun w h Y => PySem.W.kIn_of Y) ?F (fun _ _ a ns hl _ hS => Qp.law_sp hS (My.main ns hl)) (fun _ _ _ _ _ h => h)
  case F =>
    intro w mg fa h KX G hmg
    refine' My.all_mk KX G hmg ?a0 ?l0 ?c0 ?k0 ?a1 ?l1 ?c1 ?k1 ?a2 ?l2 ?c2 ?k2 ?a3 ?l3 ?c3 ?k3 ?a4 ?l4 ?c4 ?k4 ?a5 ?l5 ?c5 ?k5 ?a6 ?l6 ?c6 ?k6 ?a7 ?l7 ?c7 ?k7 ?z0 ?z1 ?z2 ?z3 ?z4 ?z5 ?z6 ?z7 ?z8
    (case a0 => k_is); (case l0 => k_is); (case c0 => k_is); (case k0 => k_is); (case a1 => k_is); (case l1 => k_is); (case c1 => k_is); (case k1 => k_is)
    (case a2 => k_is); (case l2 => k_is); (case c2 => k_is); (case k2 => k_is); (case a3 => k_is); (case l3 => k_is); (case c3 => k_is); (case k3 => k_is)
    (case a4 => k_is); (case l4 => k_is); (case c4 => k_is); (case k4 => k_is); (case a5 => k_is); (case l5 => k_is); (case c5 => k_is); (case k5 => k_is)
    (case a6 => k_is); (case l6 => k_is); (case c6 => k_is); (case k6 => k_is); (case a7 => k_is); (case l7 => k_is); (case c7 => k_is); (case k7 => k_is)
    (case z0 => k_is); (case z1 => k_is); (case z2 => k_is); (case z3 => k_is); (case z4 => k_is); (case z5 => k_is); (case z6 => k_is); (case z7 => k_is)
    (case z8 => k_is)
end
