import PyProof.Rows.All
import Wide.All
import OpenK.AllK
import Wide.FinOn
import HandS.ForMost
import HandS.TupAny
import HandS.Deep
import HandS.Wide
import HandS.WideMore
import HandS.IsInst
import HandS.CallLocal
import HandS.Zip
import HandS.EndBits
import HandS.WideBits
import HandS.Flow
import HandS.Walk
import PySem.Challenge.RW_leastplus_k40_valuations
set_option Elab.async false
set_option linter.all false
set_option maxRecDepth 100000
set_option maxHeartbeats 1000000
namespace Pz
open PySem L2

/-- a Python value, by value. A list that is `true` is owned by the one who holds it: it may be changed -/
inductive D where
  | non | bl (b : Bool) | int (i : Int) | str (x : Str) | raw (v : V)
  | scr (ns : List Int)
  | tup (xs : List D) | lst (o : Bool) (xs : List D) | dct (o : Bool) (ks vs : List D)

mutual
def D.pure : D → Bool
  | .tup xs => D.pures xs
  | .lst o xs => !o && D.pures xs
  | .dct _ _ _ => false
  | .non | .bl _ | .int _ | .str _ | .raw _ | .scr _ => true
def D.pures : List D → Bool
  | [] => true
  | x :: xs => x.pure && D.pures xs
end
mutual
def D.fz : D → D
  | .tup xs => .tup (D.fzs xs)
  | .lst _ xs => .lst false (D.fzs xs)
  | .dct o ks vs => .dct o ks vs
  | .non => .non | .bl b => .bl b | .int i => .int i | .str x => .str x | .raw v => .raw v | .scr ns => .scr ns
def D.fzs : List D → List D
  | [] => []
  | x :: xs => x.fz :: D.fzs xs
end

theorem D.pures_all : ∀ xs : List D, D.pures xs = xs.all D.pure
  | [] => rfl
  | x :: xs => by simp [D.pures, D.pures_all xs]
theorem D.fzs_map : ∀ xs : List D, D.fzs xs = xs.map D.fz
  | [] => rfl
  | x :: xs => by simp [D.fzs, D.fzs_map xs]

section
variable (K : PySem.W.Frag)
mutual
/-- d lies as the value v: G what stays for ever, H the heap, L the lists that are owned within d -/
inductive Rp (G H : Hp) : D → V → List Addr → Prop
  | non : Rp G H .non .non []
  | bl (b : Bool) : Rp G H (.bl b) (.bl b) []
  | int (i : Int) : Rp G H (.int i) (.int i) []
  | str (x : Str) : Rp G H (.str x) (.str x) []
  | raw (v : V) : Rp G H (.raw v) v []
  | scr {a : Addr} {ns : List Int} (h : SqL K G a (ns.map V.int)) : Rp G H (.scr ns) (.ref a) []
  | tup {a : Addr} {vs : List V} {ds : List D} {L : List Addr} (h : SqT K G a vs) (hs : Rps G H ds vs L) : Rp G H (.tup ds) (.ref a) L
  | lstF {a : Addr} {vs : List V} {ds : List D} (h : G a = some (.lst vs)) (hs : Rps G H ds vs []) : Rp G H (.lst false ds) (.ref a) []
  | lstO {a : Addr} {vs : List V} {ds : List D} {L : List Addr} (n : G a = none) (h : H a = some (.lst vs)) (hs : Rps G H ds vs L) : Rp G H (.lst true ds) (.ref a) (a :: L)
inductive Rps (G H : Hp) : List D → List V → List Addr → Prop
  | nil : Rps G H [] [] []
  | cons {d : D} {v : V} {ds : List D} {vs : List V} {L1 L2 : List Addr} (h : Rp G H d v L1) (hs : Rps G H ds vs L2) : Rps G H (d :: ds) (v :: vs) (L1 ++ L2)
end
end

/-- G is part of H -/
def Le (G H : Hp) : Prop := ∀ a o, G a = some o → H a = some o
theorem Le.refl (G : Hp) : Le G G := fun _ _ h => h
theorem Le.trans {G H I : Hp} (a : Le G H) (b : Le H I) : Le G I := fun c o h => b c o (a c o h)
theorem Le.sqL {K : PySem.W.Frag} {G H : Hp} (l : Le G H) {a : Addr} {xs : List V} (h : SqL K G a xs) : SqL K H a xs := Same.seq l h
theorem Le.sqT {K : PySem.W.Frag} {G H : Hp} (e : Le G H) {a : Addr} {xs : List V} (h : SqT K G a xs) : SqT K H a xs := by
  rcases h with (h | ⟨o, h⟩) | h
  · exact .inl (.inl (e _ _ h))
  · exact .inl (.inr ⟨o, e _ _ h⟩)
  · exact .inr h
theorem Le.none {G H : Hp} (e : Le G H) {l : Addr} (h : H l = none) : G l = none := by
  cases q : G l with
  | none => rfl
  | some o => rw [e l o q] at h; cases h

section
variable {K : PySem.W.Frag} {G H G' H' : Hp}
mutual
theorem Rp.mono : ∀ {d : D} {v : V} {L : List Addr}, Rp K G H d v L → Le G G' → (∀ a ∈ L, G' a = none ∧ H' a = H a) → Rp K G' H' d v L
  | _, _, _, .non, _, _ => .non
  | _, _, _, .bl b, _, _ => .bl b
  | _, _, _, .int i, _, _ => .int i
  | _, _, _, .str x, _, _ => .str x
  | _, _, _, .raw v, _, _ => .raw v
  | _, _, _, .scr h, l, _ => .scr (l.sqL h)
  | _, _, _, .tup h hs, l, k => .tup (l.sqT h) (Rps.mono hs l k)
  | _, _, _, .lstF h hs, l, _ => .lstF (l _ _ h) (Rps.mono hs l fun _ z => nomatch z)
  | _, _, _, .lstO n h hs, l, k => .lstO (k _ (List.mem_cons_self ..)).1 ((k _ (List.mem_cons_self ..)).2.trans h) (Rps.mono hs l fun a z => k a (List.mem_cons_of_mem _ z))
theorem Rps.mono : ∀ {ds : List D} {vs : List V} {L : List Addr}, Rps K G H ds vs L → Le G G' → (∀ a ∈ L, G' a = none ∧ H' a = H a) → Rps K G' H' ds vs L
  | _, _, _, .nil, _, _ => .nil
  | _, _, _, .cons h hs, l, k => .cons (Rp.mono h l fun a z => k a (List.mem_append_left _ z)) (Rps.mono hs l fun a z => k a (List.mem_append_right _ z))
end
mutual
theorem Rp.pure_nil : ∀ {d : D} {v : V} {L : List Addr}, Rp K G H d v L → d.pure = true → L = []
  | _, _, _, .non, _ => rfl
  | _, _, _, .bl b, _ => rfl
  | _, _, _, .int i, _ => rfl
  | _, _, _, .str x, _ => rfl
  | _, _, _, .raw v, _ => rfl
  | _, _, _, .scr h, _ => rfl
  | _, _, _, .tup h hs, p => Rps.pure_nil hs (by simpa [D.pure] using p)
  | _, _, _, .lstF h hs, p => rfl
  | _, _, _, .lstO n h hs, p => by simp [D.pure] at p
theorem Rps.pure_nil : ∀ {ds : List D} {vs : List V} {L : List Addr}, Rps K G H ds vs L → D.pures ds = true → L = []
  | _, _, _, .nil, _ => rfl
  | _, _, _, .cons h hs, p => by
    simp only [D.pures, Bool.and_eq_true] at p
    rw [Rp.pure_nil h p.1, Rps.pure_nil hs p.2]; rfl
end
mutual
theorem Rp.own : ∀ {d : D} {v : V} {L : List Addr}, Rp K G H d v L → ∀ a ∈ L, G a = none ∧ H a ≠ none
  | _, _, _, .non, _, z => nomatch z
  | _, _, _, .bl b, _, z => nomatch z
  | _, _, _, .int i, _, z => nomatch z
  | _, _, _, .str x, _, z => nomatch z
  | _, _, _, .raw v, _, z => nomatch z
  | _, _, _, .scr _, _, z => nomatch z
  | _, _, _, .tup h hs, a, z => Rps.own hs a z
  | _, _, _, .lstF h hs, _, z => nomatch z
  | _, _, _, .lstO n h hs, a, z => by
    rcases List.mem_cons.mp z with e | e
    · subst e; exact ⟨n, by rw [h]; simp⟩
    · exact Rps.own hs a e
theorem Rps.own : ∀ {ds : List D} {vs : List V} {L : List Addr}, Rps K G H ds vs L → ∀ a ∈ L, G a = none ∧ H a ≠ none
  | _, _, _, .nil, _, z => nomatch z
  | _, _, _, .cons h hs, a, z => (List.mem_append.mp z).elim (Rp.own h a) (Rps.own hs a)
end
mutual
theorem Rp.fz : ∀ {d : D} {v : V} {L : List Addr}, Rp K G H d v L → Le G G' → (∀ a ∈ L, G' a = H a) → Rp K G' H' d.fz v []
  | _, _, _, .non, _, _ => .non
  | _, _, _, .bl b, _, _ => .bl b
  | _, _, _, .int i, _, _ => .int i
  | _, _, _, .str x, _, _ => .str x
  | _, _, _, .raw v, _, _ => .raw v
  | _, _, _, .scr h, l, _ => .scr (l.sqL h)
  | _, _, _, .tup h hs, l, k => .tup (l.sqT h) (Rps.fz hs l k)
  | _, _, _, .lstF h hs, l, _ => .lstF (l _ _ h) (Rps.fz hs l fun _ z => nomatch z)
  | _, _, _, .lstO n h hs, l, k => .lstF ((k _ (List.mem_cons_self ..)).trans h) (Rps.fz hs l fun a z => k a (List.mem_cons_of_mem _ z))
theorem Rps.fz : ∀ {ds : List D} {vs : List V} {L : List Addr}, Rps K G H ds vs L → Le G G' → (∀ a ∈ L, G' a = H a) → Rps K G' H' (D.fzs ds) vs []
  | _, _, _, .nil, _, _ => .nil
  | _, _, _, .cons h hs, l, k => .cons (L1 := []) (L2 := []) (Rp.fz h l fun a z => k a (List.mem_append_left _ z)) (Rps.fz hs l fun a z => k a (List.mem_append_right _ z))
end
theorem Rps.length : ∀ {ds : List D} {vs : List V} {L : List Addr}, Rps K G H ds vs L → ds.length = vs.length
  | _, _, _, .nil => rfl
  | _, _, _, .cons h hs => by simp [Rps.length hs]
theorem Rps.get : ∀ {ds : List D} {vs : List V} {L : List Addr} {i : Nat} {d : D}, Rps K G H ds vs L → ds[i]? = some d → ∃ v L1, vs[i]? = some v ∧ Rp K G H d v L1 ∧ L1.Sublist L
  | _, _, _, _, _, .nil, e => by simp at e
  | _, _, _, 0, _, .cons h hs, e => by
    simp at e; subst e
    exact ⟨_, _, rfl, h, List.sublist_append_left _ _⟩
  | _, _, _, i + 1, _, .cons h hs, e => by
    obtain ⟨v, L1, e1, r, s⟩ := Rps.get (i := i) hs (by simpa using e)
    exact ⟨v, L1, by simpa using e1, r, s.trans (List.sublist_append_right _ _)⟩
theorem Rps.getV : ∀ {ds : List D} {vs : List V} {L : List Addr} {i : Nat} {v : V}, Rps K G H ds vs L → vs[i]? = some v → ∃ d L1, ds[i]? = some d ∧ Rp K G H d v L1 ∧ L1.Sublist L
  | _, _, _, _, _, .nil, e => by simp at e
  | _, _, _, 0, _, .cons h hs, e => by
    simp at e; subst e
    exact ⟨_, _, rfl, h, List.sublist_append_left _ _⟩
  | _, _, _, i + 1, _, .cons h hs, e => by
    obtain ⟨v, L1, e1, r, s⟩ := Rps.getV (i := i) hs (by simpa using e)
    exact ⟨v, L1, by simpa using e1, r, s.trans (List.sublist_append_right _ _)⟩
theorem Rps.append : ∀ {ds ds' : List D} {vs vs' : List V} {L L' : List Addr}, Rps K G H ds vs L → Rps K G H ds' vs' L' → Rps K G H (ds ++ ds') (vs ++ vs') (L ++ L')
  | _, _, _, _, _, _, .nil, s => s
  | _, _, _, _, _, _, .cons h hs, s => by
    rw [List.append_assoc]; exact .cons h (Rps.append hs s)
/-- nothing owned: item by item -/
abbrev Rp0 (K : PySem.W.Frag) (G : Hp) (d : D) (v : V) : Prop := Rp K G G d v []
abbrev Rps0 (K : PySem.W.Frag) (G : Hp) (ds : List D) (vs : List V) : Prop := Rps K G G ds vs []
theorem Rp.un (h : Rp K G H d v []) : Rp K G H' d v [] := h.mono (Le.refl _) fun _ z => nomatch z
theorem Rps.un (h : Rps K G H ds vs []) : Rps K G H' ds vs [] := h.mono (Le.refl _) fun _ z => nomatch z
theorem Rps.take : ∀ {ds : List D} {vs : List V} (n : Nat), Rps K G H ds vs [] → Rps K G H (ds.take n) (vs.take n) []
  | _, _, 0, _ => by simpa using Rps.nil
  | [], _, n + 1, h => by cases h; exact .nil
  | d :: ds, _, n + 1, h => by
    generalize e : ([] : List Addr) = L at h
    cases h with
    | @cons d v ds vs L1 L2 h hs =>
      obtain ⟨rfl, rfl⟩ := List.append_eq_nil_iff.mp e.symm
      exact .cons (L1 := []) (L2 := []) h (Rps.take n hs)
theorem Rps.drop : ∀ {ds : List D} {vs : List V} (n : Nat), Rps K G H ds vs [] → Rps K G H (ds.drop n) (vs.drop n) []
  | _, _, 0, h => by simpa using h
  | [], _, n + 1, h => by cases h; exact .nil
  | d :: ds, _, n + 1, h => by
    generalize e : ([] : List Addr) = L at h
    cases h with
    | @cons d v ds vs L1 L2 h hs =>
      obtain ⟨rfl, rfl⟩ := List.append_eq_nil_iff.mp e.symm
      simpa using Rps.drop n hs
end

/-- one item owned L1 among those of L is replaced: what remains -/
theorem Rps.set {K : PySem.W.Frag} {G H : Hp} : ∀ {ds : List D} {vs : List V} {L : List Addr} {i : Nat} {d : D}, Rps K G H ds vs L → ds[i]? = some d →
    ∃ v La L1 Lb, L = La ++ L1 ++ Lb ∧ vs[i]? = some v ∧ Rp K G H d v L1 ∧ ∀ {G' H' : Hp} {d' : D} {v' : V} {L1' : List Addr}, Le G G' → (∀ a ∈ La ++ Lb, G' a = none ∧ H' a = H a) → Rp K G' H' d' v' L1' → Rps K G' H' (ds.set i d') (vs.set i v') (La ++ L1' ++ Lb)
  | _, _, _, _, _, .nil, e => by simp at e
  | _, _, _, 0, _, .cons (L1 := L1) (L2 := L2) h hs, e => by
    simp at e; subst e
    refine ⟨_, [], L1, L2, rfl, rfl, h, fun l k r => ?_⟩
    exact .cons r (hs.mono l fun a z => k a (by simpa using z))
  | _, _, _, i + 1, _, .cons (L1 := L0) (L2 := L2) h hs, e => by
    obtain ⟨v, La, L1, Lb, e0, e1, r, f⟩ := Rps.set (i := i) hs (by simpa using e)
    refine ⟨v, L0 ++ La, L1, Lb, by rw [e0]; simp, by simpa using e1, r, fun l k r' => ?_⟩
    have q := Rps.cons (h.mono l fun a z => k a (by simp [z])) (f l (fun a z => k a (by rcases List.mem_append.mp z with z | z <;> simp [z])) r')
    simpa using q

/-! ### slots -/
abbrev En := List (Option D)
section
variable (K : PySem.W.Frag)
inductive REnv (G H : Hp) : En → St → List Addr → Prop
  | nil : REnv G H [] [] []
  | non {o : Option V} {es : En} {σ : St} {L : List Addr} (hs : REnv G H es σ L) : REnv G H (none :: es) (o :: σ) L
  | val {d : D} {v : V} {es : En} {σ : St} {L1 L2 : List Addr} (h : Rp K G H d v L1) (hs : REnv G H es σ L2) : REnv G H (some d :: es) (some v :: σ) (L1 ++ L2)
end
section
variable {K : PySem.W.Frag} {G H G' H' : Hp}
theorem REnv.mono : ∀ {es : En} {σ : St} {L : List Addr}, REnv K G H es σ L → Le G G' → (∀ a ∈ L, G' a = none ∧ H' a = H a) → REnv K G' H' es σ L
  | _, _, _, .nil, _, _ => .nil
  | _, _, _, .non hs, l, k => .non (REnv.mono hs l k)
  | _, _, _, .val h hs, l, k => .val (h.mono l fun a z => k a (List.mem_append_left _ z)) (REnv.mono hs l fun a z => k a (List.mem_append_right _ z))
theorem REnv.own : ∀ {es : En} {σ : St} {L : List Addr}, REnv K G H es σ L → ∀ a ∈ L, G a = none ∧ H a ≠ none
  | _, _, _, .nil, _, z => nomatch z
  | _, _, _, .non hs, a, z => REnv.own hs a z
  | _, _, _, .val h hs, a, z => (List.mem_append.mp z).elim (h.own a) (REnv.own hs a)
theorem REnv.length : ∀ {es : En} {σ : St} {L : List Addr}, REnv K G H es σ L → es.length = σ.length
  | _, _, _, .nil => rfl
  | _, _, _, .non hs => by simp [REnv.length hs]
  | _, _, _, .val h hs => by simp [REnv.length hs]
/-- the i-th slot among the others -/
theorem REnv.at : ∀ {es : En} {σ : St} {L : List Addr} {i : Nat}, REnv K G H es σ L → i < es.length →
    ∃ La Li Lb, L = La ++ Li ++ Lb ∧ (∀ d, es[i]? = some (some d) → ∃ v, σ[i]? = some (some v) ∧ Rp K G H d v Li) ∧
      (∀ {G' H' : Hp}, Le G G' → (∀ a ∈ La ++ Lb, G' a = none ∧ H' a = H a) → (∀ {d' : D} {v' : V} {L' : List Addr}, Rp K G' H' d' v' L' → REnv K G' H' (es.set i (some d')) (σ.set i (some v')) (La ++ L' ++ Lb)) ∧ ∀ o : Option V, REnv K G' H' (es.set i none) (σ.set i o) (La ++ Lb))
  | _, _, _, _, .nil, h => by simp at h
  | _, _, _, 0, .non (L := L) hs, _ => by
    refine ⟨[], [], L, rfl, fun d e => by simp at e, fun l k => ⟨fun r => ?_, fun o => ?_⟩⟩
    · exact .val r (hs.mono l fun a z => k a (by simpa using z))
    · exact .non (hs.mono l fun a z => k a (by simpa using z))
  | _, _, _, 0, .val (L1 := L1) (L2 := L2) h hs, _ => by
    refine ⟨[], L1, L2, rfl, fun d e => ?_, fun l k => ⟨fun r => ?_, fun o => ?_⟩⟩
    · simp at e; subst e; exact ⟨_, rfl, h⟩
    · exact .val r (hs.mono l fun a z => k a (by simpa using z))
    · exact .non (hs.mono l fun a z => k a (by simpa using z))
  | _, _, _, i + 1, .non hs, hi => by
    obtain ⟨La, Li, Lb, e0, e1, f⟩ := REnv.at (i := i) hs (by simpa using hi)
    refine ⟨La, Li, Lb, e0, fun d e => e1 d (by simpa using e), fun l k => ⟨fun r => ?_, fun o => ?_⟩⟩
    · exact .non ((f l k).1 r)
    · exact .non ((f l k).2 o)
  | _, _, _, i + 1, .val (L1 := L0) h hs, hi => by
    obtain ⟨La, Li, Lb, e0, e1, f⟩ := REnv.at (i := i) hs (by simpa using hi)
    refine ⟨L0 ++ La, Li, Lb, by rw [e0]; simp, fun d e => e1 d (by simpa using e), fun l k => ?_⟩
    have k' : ∀ a ∈ La ++ Lb, _ := fun a z => k a (by rcases List.mem_append.mp z with z | z <;> simp [z])
    refine ⟨fun r => ?_, fun o => ?_⟩
    · have q := REnv.val (h.mono l fun a z => k a (by simp [z])) ((f l k').1 r)
      simpa using q
    · have q := REnv.val (h.mono l fun a z => k a (by simp [z])) ((f l k').2 o)
      simpa using q
end

/-! ### the change of a heap -/
structure Ext (L : List Addr) (G H G' H' : Hp) (L' : List Addr) : Prop where
  le : Le G G'
  fr : ∀ b, b ∉ L → H b ≠ none → H' b = H b
  gd : ∀ b, G' b ≠ none → G b ≠ none ∨ b ∈ L ∨ H b = none
  own : ∀ b ∈ L', b ∈ L ∨ H b = none
theorem Ext.refl {L L' : List Addr} {G H : Hp} (h : ∀ b ∈ L', b ∈ L) : Ext L G H G H L' := ⟨Le.refl _, fun _ _ _ => rfl, fun _ h => .inl h, fun b z => .inl (h b z)⟩
theorem Ext.trans {L L1 L1' L2 : List Addr} {G H G1 H1 G2 H2 : Hp} (a : Ext L G H G1 H1 L1) (b : Ext L1' G1 H1 G2 H2 L2) (s : ∀ x ∈ L1', x ∈ L ∨ H x = none) : Ext L G H G2 H2 L2 where
  le := a.le.trans b.le
  fr := fun x n h => by
    have e1 := a.fr x n h
    refine (b.fr x (fun z => ?_) (by rw [e1]; exact h)).trans e1
    rcases s x z with q | q
    · exact n q
    · exact h q
  gd := fun x h => by
    have out : H1 x = none → x ∈ L ∨ H x = none := fun q => by
      by_cases hx : x ∈ L
      · exact .inl hx
      · by_cases hh : H x = none
        · exact .inr hh
        · rw [a.fr x hx hh] at q; exact absurd q hh
    rcases b.gd x h with q | q | q
    · exact a.gd x q
    · exact .inr (s x q)
    · exact .inr (out q)
  own := fun x h => by
    rcases b.own x h with q | q
    · exact s x q
    · by_cases hx : x ∈ L
      · exact .inl hx
      · by_cases hh : H x = none
        · exact .inr hh
        · rw [a.fr x hx hh] at q; exact absurd q hh
theorem Ext.sub {L L' L'' : List Addr} {G H G' H' : Hp} (a : Ext L G H G' H' L') (s : ∀ x ∈ L'', x ∈ L ∨ H x = none) : Ext L G H G' H' L'' := ⟨a.le, a.fr, a.gd, s⟩
/-- what is owned beside stays -/
theorem Ext.keep {L L' : List Addr} {G H G' H' : Hp} (a : Ext L G H G' H' L') {b : Addr} (n : b ∉ L) (g : G b = none) (h : H b ≠ none) : G' b = none ∧ H' b = H b := by
  refine ⟨?_, a.fr b n h⟩
  cases q : G' b with
  | none => rfl
  | some o =>
    rcases a.gd b (by rw [q]; simp) with z | z | z
    · exact absurd g z
    · exact absurd z n
    · exact absurd z h
end Pz

set_option Elab.async false
set_option linter.all false
set_option maxRecDepth 100000
set_option maxHeartbeats 1000000
namespace Pz
open PySem L2

structure RSt (K : PySem.W.Frag) (σ : St) (G H : Hp) (env : En) (L : List Addr) : Prop where
  le : Le G H
  rep : REnv K G H env σ L
  nd : L.Nodup

/-- only new things came; Lr are new and owned -/
structure Fresh (G H G' H' : Hp) (Lr : List Addr) : Prop where
  le : Le G G'
  le' : Le G' H'
  ext : ∀ b, H b ≠ none → H' b = H b
  gd : ∀ b, G' b ≠ none → G b ≠ none ∨ H b = none
  nd : Lr.Nodup
  new : ∀ b ∈ Lr, H b = none
section
variable {K : PySem.W.Frag} {σ : St} {G H G' H' G1 H1 G2 H2 : Hp} {env e1 e2 : En} {L L' L1 L2 La Lb Lr : List Addr}
theorem Fresh.refl (l : Le G H) : Fresh G H G H [] := ⟨Le.refl _, l, fun _ _ => rfl, fun _ h => .inl h, List.nodup_nil, fun _ z => nomatch z⟩
theorem Fresh.keepOf (f : Fresh G H G' H' Lr) {b : Addr} (g : G b = none ∧ H b ≠ none) : G' b = none ∧ H' b = H b := by
  refine ⟨?_, f.ext b g.2⟩
  cases q : G' b with
  | none => rfl
  | some o =>
    rcases f.gd b (by rw [q]; simp) with z | z
    · exact absurd g.1 z
    · exact absurd z g.2
theorem RSt.fresh (R : RSt K σ G H env L) (f : Fresh G H G' H' Lr) : RSt K σ G' H' env L :=
  ⟨f.le', R.rep.mono f.le fun a z => f.keepOf (R.rep.own a z), R.nd⟩
theorem Rp.fresh {d : D} {v : V} (r : Rp K G H d v La) (f : Fresh G H G' H' Lr) : Rp K G' H' d v La := r.mono f.le fun a z => f.keepOf (r.own a z)
theorem Rps.fresh {d : List D} {v : List V} (r : Rps K G H d v La) (f : Fresh G H G' H' Lr) : Rps K G' H' d v La := r.mono f.le fun a z => f.keepOf (r.own a z)
theorem Fresh.ext' (f : Fresh G H G' H' Lr) (s : ∀ x ∈ L', x ∈ L ∨ H x = none) : Ext L G H G' H' L' :=
  ⟨f.le, fun b _ h => f.ext b h, fun b h => (f.gd b h).imp id fun z => .inr z, s⟩
theorem Fresh.nodup (f : Fresh G H G' H' Lr) (n : L.Nodup) (o : ∀ a ∈ L, H a ≠ none) : (L ++ Lr).Nodup :=
  List.nodup_append.mpr ⟨n, f.nd, fun a h b h' e => by subst e; exact o a h (f.new a h')⟩
/-- a tuple, a list, any object laid at a new address, for ever -/
theorem Fresh.laid (l : Le G H) {p : Addr} (n : H p = none) (o : HO) : Fresh G H (upd G p o) (upd H p o) [] := by
  refine ⟨fun a u e => ?_, fun a u e => ?_, fun b h => ?_, fun b h => ?_, List.nodup_nil, fun _ z => nomatch z⟩
  · rw [upd_ne (ne_of_none (l a u e) n)]; exact e
  · by_cases q : a = p
    · subst q; rw [upd_same] at e ⊢; exact e
    · rw [upd_ne q] at e ⊢; exact l a u e
  · exact upd_ne fun e => h (by rw [e]; exact n)
  · by_cases q : b = p
    · subst q; exact .inr n
    · rw [upd_ne q] at h; exact .inl h
/-- an owned list laid at a new address -/
theorem Fresh.lst (l : Le G H) {p : Addr} (n : H p = none) (o : HO) : Fresh G H G (upd H p o) [p] := by
  refine ⟨Le.refl _, fun a u e => ?_, fun b h => ?_, fun b h => .inl h, by simp, fun b z => ?_⟩
  · rw [upd_ne (ne_of_none (l a u e) n)]; exact l a u e
  · exact upd_ne fun e => h (by rw [e]; exact n)
  · rw [List.mem_singleton.mp z]; exact n
end

/-! ### expressions -/
/-- what the function F of the slots tells of an expression: own: its value is no one else's; st: nothing that stood was changed -/
def tE (K : PySem.W.Frag) (own st : Bool) (F : En → Option (D × En)) : TE := fun σ H Q => ∃ G env L, RSt K σ G H env L ∧ ∃ d env', F env = some (d, env') ∧
  ∀ v G' H' L' Lr, RSt K σ G' H' env' L' → Rp K G' H' d v Lr → (own = true → (L' ++ Lr).Nodup) → (st = true → env' = env ∧ L' = L ∧ ∀ b, H b ≠ none → H' b = H b) → Ext L G H G' H' (L' ++ Lr) → Q v H'
def tA (K : PySem.W.Frag) (own st : Bool) (F : En → Option (List D × En)) : TA := fun σ H Q => ∃ G env L, RSt K σ G H env L ∧ ∃ d env', F env = some (d, env') ∧
  ∀ v G' H' L' Lr, RSt K σ G' H' env' L' → Rps K G' H' d v Lr → (own = true → (L' ++ Lr).Nodup) → (st = true → env' = env ∧ L' = L ∧ ∀ b, H b ≠ none → H' b = H b) → Ext L G H G' H' (L' ++ Lr) → Q v H'
def tT (K : PySem.W.Frag) (st : Bool) (F : En → Option (Bool × En)) : TT := fun σ H Q => ∃ G env L, RSt K σ G H env L ∧ ∃ d env', F env = some (d, env') ∧
  ∀ G' H' L', RSt K σ G' H' env' L' → (st = true → env' = env ∧ L' = L ∧ ∀ b, H b ≠ none → H' b = H b) → Ext L G H G' H' L' → Q d H'
abbrev Ev (X : Cx) (own st : Bool) (e : Expr) (F : En → Option (D × En)) : Prop := PE X e (tE X.K own st F)
abbrev Av (X : Cx) (own st : Bool) (es : List Expr) (F : En → Option (List D × En)) : Prop := PA X es (tA X.K own st F)
abbrev Tv (X : Cx) (st : Bool) (e : Expr) (F : En → Option (Bool × En)) : Prop := PT X e (tT X.K st F)
/-- a test whatever its whole is -/
abbrev Wv (X : Cx) (st : Bool) (e : Expr) (F : En → Option (Bool × En)) : Prop := PW X e (tT X.K st F)
theorem peM {X : Cx} {e : Expr} {t u : TE} (h : PE X e t) (k : ∀ σ H Q, u σ H Q → t σ H Q) : PE X e u := ⟨fun pins s σ H Q I hw => h.run pins s σ H Q I (k σ H Q hw)⟩
theorem paM {X : Cx} {e : List Expr} {t u : TA} (h : PA X e t) (k : ∀ σ H Q, u σ H Q → t σ H Q) : PA X e u := ⟨fun pos pins s σ H Q I hw => h.run pos pins s σ H Q I (k σ H Q hw)⟩
theorem ptM {X : Cx} {e : Expr} {t u : TT} (h : PT X e t) (k : ∀ σ H Q, u σ H Q → t σ H Q) : PT X e u := ⟨fun pins s σ H Q I hw => h.run pins s σ H Q I (k σ H Q hw)⟩
theorem pwM {X : Cx} {e : Expr} {t u : TT} (h : PW X e t) (k : ∀ σ H Q, u σ H Q → t σ H Q) : PW X e u := ⟨fun w pins s σ H Q I hw => h.run w pins s σ H Q I (k σ H Q hw)⟩

section
variable {K : PySem.W.Frag} {σ : St} {G H G' H' G1 H1 G2 H2 : Hp} {env e1 e2 : En} {L L' L1 L2 La Lb Lr : List Addr}
/-- an earlier value (owned La) behind a later expression -/
theorem persist {o1 s2 : Bool} (hm : o1 = true ∨ s2 = true) (own : ∀ a ∈ La, G1 a = none ∧ H1 a ≠ none) (n1 : o1 = true → (L1 ++ La).Nodup) (R2 : RSt K σ G2 H2 e2 L2)
    (st2 : s2 = true → e2 = e1 ∧ L2 = L1 ∧ ∀ b, H1 b ≠ none → H2 b = H1 b) (x : Ext L1 G1 H1 G2 H2 L') : ∀ a ∈ La, G2 a = none ∧ H2 a = H1 a := fun a ha => by
  by_cases hl : a ∈ L1
  · rcases hm with h | h
    · exact absurd rfl ((List.nodup_append.mp (n1 h)).2.2 a hl a ha)
    · obtain ⟨_, e, k⟩ := st2 h
      exact ⟨(R2.rep.own a (by rw [e]; exact hl)).1, k a (own a ha).2⟩
  · exact x.keep hl (own a ha).1 (own a ha).2
theorem st_trans {s1 s2 : Bool} (a : s1 = true → e1 = env ∧ L1 = L ∧ ∀ b, H b ≠ none → H1 b = H b) (b : s2 = true → e2 = e1 ∧ L2 = L1 ∧ ∀ b, H1 b ≠ none → H2 b = H1 b) :
    (s1 && s2) = true → e2 = env ∧ L2 = L ∧ ∀ b, H b ≠ none → H2 b = H b := fun h => by
  obtain ⟨h1, h2⟩ := Bool.and_eq_true_iff.mp h
  obtain ⟨a1, a2, a3⟩ := a h1
  obtain ⟨b1, b2, b3⟩ := b h2
  exact ⟨b1.trans a1, b2.trans a2, fun x hx => (b3 x (by rw [a3 x hx]; exact hx)).trans (a3 x hx)⟩
theorem st_fresh {s : Bool} (a : s = true → e1 = env ∧ L1 = L ∧ ∀ b, H b ≠ none → H1 b = H b) (f : Fresh G1 H1 G2 H2 Lr) : s = true → e1 = env ∧ L1 = L ∧ ∀ b, H b ≠ none → H2 b = H b := fun h => by
  obtain ⟨a1, a2, a3⟩ := a h
  exact ⟨a1, a2, fun x hx => (f.ext x (by rw [a3 x hx]; exact hx)).trans (a3 x hx)⟩
/-- a fresh value behind it all -/
theorem ext_fresh (x : Ext L G H G1 H1 (L1 ++ La)) (f : Fresh G1 H1 G2 H2 Lr) : Ext L G H G2 H2 (L1 ++ Lr) := by
  refine x.trans (f.ext' (L := L1) fun a z => ?_) fun a z => x.own a (List.mem_append_left _ z)
  exact (List.mem_append.mp z).imp id (f.new a)
theorem ext_then (x : Ext L G H G1 H1 (L1 ++ La)) (y : Ext L1 G1 H1 G2 H2 L2) : Ext L G H G2 H2 L2 := x.trans y fun a z => x.own a (List.mem_append_left _ z)
theorem ext_two (x : Ext L G H G1 H1 (L1 ++ La)) (y : Ext L1 G1 H1 G2 H2 (L2 ++ Lb)) : Ext L G H G2 H2 (L2 ++ (La ++ Lb)) :=
  (ext_then x y).sub fun a z => by
    rcases List.mem_append.mp z with z | z
    · exact (ext_then x y).own a (List.mem_append_left _ z)
    · rcases List.mem_append.mp z with z | z
      · exact x.own a (List.mem_append_right _ z)
      · exact (ext_then x y).own a (List.mem_append_right _ z)
end

/-! ### coercions -/
def ownF (F : En → Option (D × En)) : En → Option (D × En) := fun env => (F env).bind fun r => if r.1.pure = true then some r else none
section
variable {X : Cx} {e : Expr} {F : En → Option (D × En)} {o st : Bool}
theorem ev_own (h : Ev X o st e F) : Ev X true st e (ownF F) := peM h fun σ H Q ⟨G, env, L, R, d, env', hf, k⟩ => by
  unfold ownF at hf
  cases q : F env with
  | none => rw [q] at hf; simp at hf
  | some r =>
    obtain ⟨d', e'⟩ := r
    rw [q] at hf
    simp only [Option.bind_some] at hf
    split at hf
    · rename_i hp
      cases hf
      refine ⟨G, env, L, R, d, env', q, fun v G' H' L' Lr R' r n s x => ?_⟩
      have z := r.pure_nil hp
      subst z
      exact k v G' H' L' [] R' r (fun _ => by simpa using R'.nd) s x
    · cases hf
theorem ev_view (h : Ev X true st e F) : Ev X false st e F := peM h fun σ H Q ⟨G, env, L, R, d, env', hf, k⟩ => ⟨G, env, L, R, d, env', hf, fun v G' H' L' Lr R' r n s x => k v G' H' L' Lr R' r (fun z => nomatch z) s x⟩
theorem ev_eff (h : Ev X o true e F) : Ev X o false e F := peM h fun σ H Q ⟨G, env, L, R, d, env', hf, k⟩ => ⟨G, env, L, R, d, env', hf, fun v G' H' L' Lr R' r n s x => k v G' H' L' Lr R' r n (fun z => nomatch z) x⟩
end

/-! ### constants and names -/
def cF (d : D) : En → Option (D × En) := fun env => some (d, env)
section
variable {X : Cx} {pos : Pos}
theorem ev_c {e : Expr} {d : D} {v : V} (h : PE X e (tC v)) (r : ∀ G H, Rp X.K G H d v []) : Ev X true true e (cF d) := peM h fun σ H Q ⟨G, env, L, R, d', env', hf, k⟩ => by
  cases hf
  exact k v G H L [] R (r G H) (fun _ => by simpa using R.nd) (fun _ => ⟨rfl, rfl, fun _ _ => rfl⟩) (Ext.refl fun b z => by simpa using z)
theorem ev_int {i j} : Ev X true true (.Constant (.int i) j pos) (cF (.int i)) := ev_c pe_int fun _ _ => .int i
theorem ev_bl {b j} : Ev X true true (.Constant (.bool b) j pos) (cF (.bl b)) := ev_c pe_bl fun _ _ => .bl b
theorem ev_non {j} : Ev X true true (.Constant .none j pos) (cF .non) := ev_c pe_non fun _ _ => .non
theorem ev_str {x j} : Ev X true true (.Constant (.str x) j pos) (cF (.str x)) := ev_c pe_str fun _ _ => .str x
/-- a module's constant -/
theorem ev_glob {x : Str} {d : D} {v : V} {u : Value} (hg : Gl X x) (hm : X.mg x = some u) (r : RelV v u) (k : ∀ G H, Rp X.K G H d v []) (hd : (x == ("__debug__" : Str)) = false := by decide) : Ev X true true (.Name x pos) (cF d) := ev_c (pe_glob hg hm r hd) k

def nmF (i : Nat) : En → Option (D × En) := fun env => (env[i]?).bind fun o => o.map fun d => (d, env)
/-- a name, looked at -/
theorem ev_look {i : Nat} {e : Expr} (h : PE X e (tVar i)) : Ev X false true e (nmF i) := peM h fun σ H Q ⟨G, env, L, R, d, env', hf, k⟩ => by
  unfold nmF at hf
  cases q : env[i]? with
  | none => rw [q] at hf; simp at hf
  | some o =>
    cases o with
    | none => rw [q] at hf; simp at hf
    | some d' =>
      rw [q] at hf
      simp only [Option.bind_some, Option.map_some, Option.some.injEq, Prod.mk.injEq] at hf
      obtain ⟨rfl, rfl⟩ := hf
      obtain ⟨hi, _⟩ := List.getElem?_eq_some_iff.mp q
      obtain ⟨La, Li, Lb, e0, f, _⟩ := R.rep.at hi
      obtain ⟨v, ev, r⟩ := f d' q
      refine ⟨v, ev, k v G H L Li R r (fun z => nomatch z) (fun _ => ⟨rfl, rfl, fun _ _ => rfl⟩) (Ext.refl fun b z => ?_)⟩
      rcases List.mem_append.mp z with z | z
      · exact z
      · rw [e0]; simp [z]
/-- a name whose value owns nothing -/
abbrev nmO (i : Nat) := ownF (nmF i)
theorem ev_name {i : Nat} {e : Expr} (h : PE X e (tVar i)) : Ev X true true e (nmO i) := ev_own (ev_look h)
/-- a name whose value is shared from now on: it may not be changed any more -/
def fzF (i : Nat) : En → Option (D × En) := fun env => (env[i]?).bind fun o => o.map fun d => (d.fz, env.set i (some d.fz))
def frG (G H : Hp) (L : List Addr) : Hp := fun a => if a ∈ L then H a else G a
theorem frG_in {G H : Hp} {L : List Addr} {a : Addr} (h : a ∈ L) : frG G H L a = H a := if_pos h
theorem frG_out {G H : Hp} {L : List Addr} {a : Addr} (h : a ∉ L) : frG G H L a = G a := if_neg h
theorem frG_le {G H : Hp} {L : List Addr} (l : Le G H) : Le G (frG G H L) := fun a o e => by
  by_cases h : a ∈ L
  · rw [frG_in h]; exact l a o e
  · rw [frG_out h]; exact e
theorem frG_le' {G H : Hp} {L : List Addr} (l : Le G H) : Le (frG G H L) H := fun a o e => by
  by_cases h : a ∈ L
  · rw [frG_in h] at e; exact e
  · rw [frG_out h] at e; exact l a o e
theorem ev_share {i : Nat} {e : Expr} (h : PE X e (tVar i)) : Ev X true false e (fzF i) := peM h fun σ H Q ⟨G, env, L, R, d, env', hf, k⟩ => by
  unfold fzF at hf
  cases q : env[i]? with
  | none => rw [q] at hf; simp at hf
  | some o =>
    cases o with
    | none => rw [q] at hf; simp at hf
    | some d' =>
      rw [q] at hf
      simp only [Option.bind_some, Option.map_some, Option.some.injEq, Prod.mk.injEq] at hf
      obtain ⟨rfl, rfl⟩ := hf
      obtain ⟨hi, _⟩ := List.getElem?_eq_some_iff.mp q
      obtain ⟨La, Li, Lb, e0, f, g⟩ := R.rep.at hi
      obtain ⟨v, ev, r⟩ := f d' q
      have nd : (La ++ Li ++ Lb).Nodup := e0 ▸ R.nd
      have out : ∀ a ∈ La ++ Lb, a ∉ Li := fun a z y => by
        have nd1 := List.nodup_append.mp nd
        rcases List.mem_append.mp z with z | z
        · exact (List.nodup_append.mp nd1.1).2.2 a z a y rfl
        · exact nd1.2.2 a (List.mem_append_right _ y) a z rfl
      have r' : Rp X.K (frG G H Li) H d'.fz v [] := r.fz (frG_le R.le) fun a z => frG_in z
      have g' := ((g (G' := frG G H Li) (H' := H) (frG_le R.le) fun a z => ⟨by rw [frG_out (out a z)]; exact (R.rep.own a (by rw [e0]; rcases List.mem_append.mp z with z | z <;> simp [z])).1, rfl⟩).1 r')
      have eσ : σ.set i (some v) = σ := by
        refine List.ext_getElem? fun j => ?_
        by_cases hj : i = j
        · subst hj
          obtain ⟨hl, _⟩ := List.getElem?_eq_some_iff.mp ev
          rw [List.getElem?_set_self hl, ev]
        · rw [List.getElem?_set_ne hj]
      rw [eσ] at g'
      refine ⟨v, ev, k v (frG G H Li) H (La ++ [] ++ Lb) [] ⟨frG_le' R.le, g', ?_⟩ r' (fun _ => ?_) (fun z => nomatch z) ⟨frG_le R.le, fun _ _ _ => rfl, fun b hb => ?_, fun b hb => ?_⟩⟩
      · exact nd.sublist (by simp)
      · rw [List.append_nil]; exact nd.sublist (by simp)
      · by_cases hx : b ∈ Li
        · exact .inr (.inl (by rw [e0]; simp [hx]))
        · rw [frG_out hx] at hb; exact .inl hb
      · refine .inl ?_
        rw [e0]
        simp at hb ⊢
        rcases hb with z | z <;> simp [z]
end

/-! ### operators -/
/-- a two-place operation on values is told by f -/
def Op2 (K : PySem.W.Frag) (r : R2) (f : D → D → Option D) : Prop := ∀ {G H : Hp} {a b c : D} {x y : V} {La Lb : List Addr} {Q : VK}, Le G H → Rp K G H a x La → Rp K G H b y Lb → f a b = some c →
  (∀ v G' H' Lr, Fresh G H G' H' Lr → Rp K G' H' c v Lr → Q v H') → r x y H Q
def Op1 (K : PySem.W.Frag) (r : V → Hp → VK → Prop) (f : D → Option D) : Prop := ∀ {G H : Hp} {a c : D} {x : V} {La : List Addr} {Q : VK}, Le G H → Rp K G H a x La → f a = some c →
  (∀ v G' H' Lr, Fresh G H G' H' Lr → Rp K G' H' c v Lr → Q v H') → r x H Q
def OpN (K : PySem.W.Frag) (r : List V → Hp → VK → Prop) (f : List D → Option D) : Prop := ∀ {G H : Hp} {a : List D} {c : D} {x : List V} {La : List Addr} {Q : VK}, Le G H → Rps K G H a x La → f a = some c →
  (∀ v G' H' Lr, Fresh G H G' H' Lr → Rp K G' H' c v Lr → Q v H') → r x H Q
def b2 (f : D → D → Option D) (FA FB : En → Option (D × En)) : En → Option (D × En) := fun env => (FA env).bind fun a => (FB a.2).bind fun b => (f a.1 b.1).map fun c => (c, b.2)
def b1 (f : D → Option D) (FA : En → Option (D × En)) : En → Option (D × En) := fun env => (FA env).bind fun a => (f a.1).map fun c => (c, a.2)
def bN (f : List D → Option D) (FA : En → Option (List D × En)) : En → Option (D × En) := fun env => (FA env).bind fun a => (f a.1).map fun c => (c, a.2)
theorem b2_some {f : D → D → Option D} {FA FB : En → Option (D × En)} {env env' : En} {d : D} (h : b2 f FA FB env = some (d, env')) : ∃ a e1 b, FA env = some (a, e1) ∧ FB e1 = some (b, env') ∧ f a b = some d := by
  unfold b2 at h
  cases q : FA env with
  | none => rw [q] at h; simp at h
  | some a =>
    rw [q] at h; simp only [Option.bind_some] at h
    cases q2 : FB a.2 with
    | none => rw [q2] at h; simp at h
    | some b =>
      rw [q2] at h; simp only [Option.bind_some] at h
      cases q3 : f a.1 b.1 with
      | none => rw [q3] at h; simp at h
      | some c => rw [q3] at h; simp at h; obtain ⟨rfl, rfl⟩ := h; exact ⟨a.1, a.2, b.1, rfl, q2, q3⟩
theorem b1_some {f : D → Option D} {FA : En → Option (D × En)} {env env' : En} {d : D} (h : b1 f FA env = some (d, env')) : ∃ a, FA env = some (a, env') ∧ f a = some d := by
  unfold b1 at h
  cases q : FA env with
  | none => rw [q] at h; simp at h
  | some a =>
    rw [q] at h; simp only [Option.bind_some] at h
    cases q3 : f a.1 with
    | none => rw [q3] at h; simp at h
    | some c => rw [q3] at h; simp at h; obtain ⟨rfl, rfl⟩ := h; exact ⟨a.1, rfl, q3⟩
theorem bN_some {f : List D → Option D} {FA : En → Option (List D × En)} {env env' : En} {d : D} (h : bN f FA env = some (d, env')) : ∃ a, FA env = some (a, env') ∧ f a = some d := by
  unfold bN at h
  cases q : FA env with
  | none => rw [q] at h; simp at h
  | some a =>
    rw [q] at h; simp only [Option.bind_some] at h
    cases q3 : f a.1 with
    | none => rw [q3] at h; simp at h
    | some c => rw [q3] at h; simp at h; obtain ⟨rfl, rfl⟩ := h; exact ⟨a.1, rfl, q3⟩
section
variable {X : Cx} {a b : Expr} {FA FB : En → Option (D × En)} {o1 o2 s1 s2 : Bool} {pos : Pos}
theorem op2_lift {r : R2} {f : D → D → Option D} (ho : Op2 X.K r f) (hm : o1 = true ∨ s2 = true) (σ : St) (H : Hp) (Q : VK) (h : tE X.K true (s1 && s2) (b2 f FA FB) σ H Q) : tOp r (tE X.K o1 s1 FA) (tE X.K o2 s2 FB) σ H Q := by
  obtain ⟨G, env, L, R, d, env', hf, k⟩ := h
  obtain ⟨da, e1, db, h1, h2, h3⟩ := b2_some hf
  refine ⟨G, env, L, R, da, e1, h1, fun x G1 H1 L1 La R1 ra n1 st1 x1 => ⟨G1, e1, L1, R1, db, env', h2, fun y G2 H2 L2 Lb R2 rb n2 st2 x2 => ?_⟩⟩
  have ra2 : Rp X.K G2 H2 da x La := ra.mono x2.le (persist hm ra.own n1 R2 st2 x2)
  refine ho R2.le ra2 rb h3 fun v G3 H3 Lr fr rc => ?_
  exact k v G3 H3 L2 Lr (R2.fresh fr) rc (fun _ => fr.nodup R2.nd fun a z => (R2.rep.own a z).2) (st_fresh (st_trans st1 st2) fr) (ext_fresh (ext_then x1 x2) fr)
theorem op1_lift {r : V → Hp → VK → Prop} {f : D → Option D} (ho : Op1 X.K r f) (σ : St) (H : Hp) (Q : VK) (h : tE X.K true s1 (b1 f FA) σ H Q) : tUn r (tE X.K o1 s1 FA) σ H Q := by
  obtain ⟨G, env, L, R, d, env', hf, k⟩ := h
  obtain ⟨da, h1, h3⟩ := b1_some hf
  refine ⟨G, env, L, R, da, env', h1, fun x G1 H1 L1 La R1 ra n1 st1 x1 => ho R1.le ra h3 fun v G3 H3 Lr fr rc => ?_⟩
  exact k v G3 H3 L1 Lr (R1.fresh fr) rc (fun _ => fr.nodup R1.nd fun a z => (R1.rep.own a z).2) (st_fresh st1 fr) (ext_fresh x1 fr)
theorem ev_bin {op : Operator} {r : R2} {f : D → D → Option D} (hr : OpR X (binaryOp op) r) (ho : Op2 X.K r f) (ha : Ev X o1 s1 a FA) (hb : Ev X o2 s2 b FB) (hm : o1 = true ∨ s2 = true := by first | exact .inl rfl | exact .inr rfl) :
    Ev X true (s1 && s2) (.BinOp a op b pos) (b2 f FA FB) := peM (pe_op hr ha hb) (op2_lift ho hm)
theorem ev_un {op : UnaryOp} {r : V → Hp → VK → Prop} {f : D → Option D} (hr : UnR X (unaryOp op) r) (ho : Op1 X.K r f) (ha : Ev X o1 s1 a FA) : Ev X true s1 (.UnaryOp op a pos) (b1 f FA) := peM (pe_un hr ha) (op1_lift ho)
theorem ev_cmp {op : CmpOp} {r : R2} {f : D → D → Option D} (hr : OpR X (compareOp op) r) (ho : Op2 X.K r f) (ha : Ev X o1 s1 a FA) (hb : Ev X o2 s2 b FB) (hk : behindInMarks op b = false)
    (hm : o1 = true ∨ s2 = true := by first | exact .inl rfl | exact .inr rfl) : Ev X true (s1 && s2) (.Compare a [op] [b] pos) (b2 f FA FB) := peM (pe_cmpR hr ha hb hk) (op2_lift ho hm)
theorem ev_ix {r : R2} {f : D → D → Option D} (hr : IxR X r) (ho : Op2 X.K r f) (ha : Ev X o1 s1 a FA) (hb : Ev X o2 s2 b FB) (hs : PlainIx b)
    (hm : o1 = true ∨ s2 = true := by first | exact .inl rfl | exact .inr rfl) : Ev X true (s1 && s2) (.Subscript a b pos) (b2 f FA FB) := peM (pe_ix hr ha hb hs) (op2_lift ho hm)
end
end Pz

set_option Elab.async false
set_option linter.all false
set_option maxRecDepth 100000
set_option maxHeartbeats 1000000
namespace Pz
open PySem L2

/-! ### a value as data (for ==) -/
mutual
def D.py : D → PyData
  | .non => .none | .bl b => .bool b | .int i => .int i | .str x => .str x | .raw _ => .dict []
  | .scr ns => .list (ns.map .int)
  | .tup xs => .tuple (D.pys xs)
  | .lst _ xs => .list (D.pys xs)
  | .dct _ _ _ => .dict []
def D.pys : List D → List PyData
  | [] => []
  | x :: xs => x.py :: D.pys xs
end
def shp (d : D) : Bool := SeqAt.shaped d.py
section
variable {K : PySem.W.Frag} {G H G' H' : Hp}
theorem canLayAll_cons {x : PyData} {xs : List PyData} (h : PyData.canLayAll0 (x :: xs) = true) : x.canLay0 = true ∧ PyData.canLayAll0 xs = true := by simpa [PyData.canLayAll0] using h
theorem dpAll_ints : ∀ ns : List Int, DpAll K H (ns.map V.int) (ns.map PyData.int)
  | [] => .nil
  | n :: ns => .cons (.int n) (dpAll_ints ns)
mutual
theorem Rp.dp : ∀ {d : D} {v : V} {L : List Addr}, Rp K G H d v L → Le G H → d.py.canLay0 = true → Dp K H v d.py
  | _, _, _, .non, _, _ => .non
  | _, _, _, .bl b, _, _ => .bl b
  | _, _, _, .int i, _, _ => .int i
  | _, _, _, .str x, _, _ => .str x
  | _, _, _, .raw v, _, c => by simp [D.py, PyData.canLay0] at c
  | _, _, _, .scr h, l, _ => .lst (l.sqL h) (dpAll_ints _)
  | _, _, _, .tup h hs, l, c => .tup (l.sqT h) (Rps.dp hs l (by simpa [D.py, PyData.canLay0] using c))
  | _, _, _, .lstF h hs, l, c => .lst (SqL.of (l _ _ h)) (Rps.dp hs l (by simpa [D.py, PyData.canLay0] using c))
  | _, _, _, .lstO _ h hs, l, c => .lst (SqL.of h) (Rps.dp hs l (by simpa [D.py, PyData.canLay0] using c))
theorem Rps.dp : ∀ {d : List D} {v : List V} {L : List Addr}, Rps K G H d v L → Le G H → PyData.canLayAll0 (D.pys d) = true → DpAll K H v (D.pys d)
  | _, _, _, .nil, _, _ => .nil
  | _, _, _, .cons h hs, l, c => .cons (Rp.dp h l (canLayAll_cons c).1) (Rps.dp hs l (canLayAll_cons c).2)
end
theorem Rp.dps {d : D} {v : V} {L : List Addr} (r : Rp K G H d v L) (l : Le G H) (h : shp d = true) : Dp K H v d.py := r.dp l (SeqAt.canLay_of_shaped h)
/-- the answer is a new scalar -/
theorem fin {d : D} {v : V} {Q : VK} {G : Hp} (l : Le G H) (h : ∀ v' G' H' Lr, Fresh G H G' H' Lr → Rp K G' H' d v' Lr → Q v' H') (r : Rp K G H d v []) : Q v H := h v G H [] (Fresh.refl l) r

/-! ### inversions -/
theorem Rp.int_inv {i : Int} {v : V} {L : List Addr} (r : Rp K G H (.int i) v L) : v = .int i ∧ L = [] := by cases r; exact ⟨rfl, rfl⟩
theorem Rp.bl_inv {i : Bool} {v : V} {L : List Addr} (r : Rp K G H (.bl i) v L) : v = .bl i ∧ L = [] := by cases r; exact ⟨rfl, rfl⟩
theorem Rp.str_inv {i : Str} {v : V} {L : List Addr} (r : Rp K G H (.str i) v L) : v = .str i ∧ L = [] := by cases r; exact ⟨rfl, rfl⟩
theorem Rp.raw_inv {i : V} {v : V} {L : List Addr} (r : Rp K G H (.raw i) v L) : v = i ∧ L = [] := by cases r; exact ⟨rfl, rfl⟩
theorem Rp.non_inv {v : V} {L : List Addr} (r : Rp K G H .non v L) : v = .non ∧ L = [] := by cases r; exact ⟨rfl, rfl⟩
theorem Rp.scr_inv {ns : List Int} {v : V} {L : List Addr} (r : Rp K G H (.scr ns) v L) : ∃ a, v = .ref a ∧ L = [] ∧ SqL K G a (ns.map V.int) := by cases r with | scr h => exact ⟨_, rfl, rfl, h⟩
theorem Rp.tup_inv {ds : List D} {v : V} {L : List Addr} (r : Rp K G H (.tup ds) v L) : ∃ a vs, v = .ref a ∧ SqT K G a vs ∧ Rps K G H ds vs L := by cases r with | tup h hs => exact ⟨_, _, rfl, h, hs⟩
/-- a list as it is read, whoever owns it -/
theorem Rp.lst_inv {o : Bool} {ds : List D} {v : V} {L : List Addr} (l : Le G H) (r : Rp K G H (.lst o ds) v L) : ∃ a vs L1, v = .ref a ∧ H a = some (.lst vs) ∧ Rps K G H ds vs L1 ∧ ∀ x ∈ L1, x ∈ L := by
  cases r with
  | lstF h hs => exact ⟨_, _, _, rfl, l _ _ h, hs, fun _ z => nomatch z⟩
  | lstO _ h hs => exact ⟨_, _, _, rfl, h, hs, fun _ z => List.mem_cons_of_mem _ z⟩
theorem Rps.ints : ∀ (ns : List Int), Rps K G H (ns.map D.int) (ns.map V.int) []
  | [] => .nil
  | n :: ns => .cons (L1 := []) (L2 := []) (.int n) (Rps.ints ns)
theorem Rps.ints_inv : ∀ {ns : List Int} {vs : List V} {L : List Addr}, Rps K G H (ns.map D.int) vs L → vs = ns.map V.int ∧ L = []
  | [], _, _, h => by cases h; exact ⟨rfl, rfl⟩
  | n :: ns, _, _, h => by
    cases h with
    | cons h hs =>
      obtain ⟨rfl, rfl⟩ := h.int_inv
      obtain ⟨rfl, rfl⟩ := Rps.ints_inv hs
      exact ⟨rfl, rfl⟩
end
/-- all items are ints -/
def intsOf : List D → Option (List Int)
  | [] => some []
  | .int i :: r => (intsOf r).map (i :: ·)
  | _ :: _ => none
theorem intsOf_eq : ∀ {ds : List D} {ns : List Int}, intsOf ds = some ns → ds = ns.map D.int
  | [], _, h => by cases h; rfl
  | d :: r, ns, h => by
    cases d <;> simp only [intsOf] at h <;> try (cases h)
    rename_i i
    cases q : intsOf r with
    | none => rw [q] at h; cases h
    | some ms =>
      rw [q] at h; cases h
      rw [intsOf_eq q]; rfl
theorem intsOf_map : ∀ ns : List Int, intsOf (ns.map D.int) = some ns
  | [] => rfl
  | n :: ns => by simp [intsOf, intsOf_map ns]

/-! ### arithmetic -/
/-- a test that no reckoning looks into -/
noncomputable def tst (p : Prop) : Bool := @decide p (Classical.propDecidable p)
theorem tst_of {p : Prop} (h : p) : tst p = true := @decide_eq_true p (Classical.propDecidable p) h
theorem of_tst {p : Prop} (h : tst p = true) : p := @of_decide_eq_true p (Classical.propDecidable p) h
noncomputable section
def lineOk (n : Nat) : Bool := tst (n ≤ 16777216)
theorem lineOk_le {n : Nat} (h : lineOk n = true) : n ≤ sizeLine := by rw [sizeLine_eq]; exact of_tst h
def mulOk (i j : Int) : Bool := tst (CMul i j ∨ CMulW i j)
theorem mulOk_r {i j : Int} (h : j.natAbs < 2 ^ 64) : mulOk i j = true := tst_of (.inl (.inr (by omega)))
theorem mulOk_l {i j : Int} (h : i.natAbs < 2 ^ 64) : mulOk i j = true := tst_of (.inl (.inl (by omega)))
theorem mulOk_of {i j : Int} {a b : Nat} (ha : i.natAbs < 2 ^ a) (hb : j.natAbs < 2 ^ b) (h : a + b < 1000000 := by decide) : mulOk i j = true := by
  refine tst_of (.inr ?_)
  show _ + _ < 1000000
  have h0 : 0 < a ∨ 0 < b ∨ (a = 0 ∧ b = 0) := by omega
  by_cases ia : a = 0
  · subst ia
    have : i.natAbs = 0 := by simpa using ha
    rw [this]
    by_cases ib : b = 0
    · subst ib
      have : j.natAbs = 0 := by simpa using hb
      rw [this]; decide
    · have := PySem.Flt.log2_lt_of (by omega : 0 < b) hb
      have e : (0 : Nat).log2 = 0 := by decide
      omega
  · have ea := PySem.Flt.log2_lt_of (by omega : 0 < a) ha
    by_cases ib : b = 0
    · subst ib
      have : j.natAbs = 0 := by simpa using hb
      rw [this]
      have e : (0 : Nat).log2 = 0 := by decide
      omega
    · have := PySem.Flt.log2_lt_of (by omega : 0 < b) hb
      omega
def divOk (j : Int) : Bool := tst (j ≠ 0 ∧ j.natAbs.log2 < 9000)
theorem divOk_of {j : Int} {b : Nat} (h : j ≠ 0) (hb : j.natAbs < 2 ^ b) (h9 : b ≤ 9000 := by decide) : divOk j = true := by
  unfold divOk
  have : 0 < b := by
    rcases Nat.eq_zero_or_pos b with e | e
    · subst e; simp at hb; omega
    · exact e
  have := PySem.Flt.log2_lt_of this hb
  exact tst_of ⟨h, by omega⟩
def dAdd : D → D → Option D
  | .int i, .int j => some (.int (i + j))
  | .str x, .str y => if lineOk (x.length + y.length) = true then some (.str (x ++ y)) else none
  | .tup a, .tup b => if D.pures a = true ∧ D.pures b = true ∧ lineOk (a.length + b.length) = true then some (.tup (a ++ b)) else none
  | .lst _ a, .lst _ b => if D.pures a = true ∧ D.pures b = true ∧ lineOk (a.length + b.length) = true then some (.lst true (a ++ b)) else none
  | _, _ => none
def dSub : D → D → Option D
  | .int i, .int j => some (.int (i - j))
  | _, _ => none
def dMul : D → D → Option D
  | .int i, .int j => if mulOk i j = true then some (.int (i * j)) else none
  | _, _ => none
def dDiv : D → D → Option D
  | .int i, .int j => if divOk j = true then some (.int (i.fdiv j)) else none
  | _, _ => none
def dMod : D → D → Option D
  | .int i, .int j => if j ≠ 0 then some (.int (i.fmod j)) else none
  | _, _ => none
def powOk (i j : Int) : Bool := tst (0 ≤ j ∧ j ≤ 1000000 ∧ i.natAbs < 2 ^ 64)
def dPow : D → D → Option D
  | .int i, .int j => if powOk i j = true then some (.int (i ^ j.toNat)) else none
  | _, _ => none
def dNeg : D → Option D
  | .int i => some (.int (-i))
  | _ => none
abbrev rAddX (K : PySem.W.Frag) : R2 := fun x y H Q => (rI0 fun i j => .int (i + j)) x y H Q ∨ ((∃ i j, x = .str i ∧ y = .str j ∧ i.length + j.length ≤ sizeLine ∧ Q (.str (i ++ j)) H) ∨ (rCatA K x y H Q ∨ rCat x y H Q))
section
variable {X : Cx} {K : PySem.W.Frag}
theorem opr_add : OpR X (binaryOp .Add) (rAddX X.K) := op_add.or (op_add_str.or (op_catA.or op_cat))
theorem o2_add : Op2 K (rAddX K) dAdd := by
  intro G H a b c x y La Lb Q l ra rb e k
  unfold dAdd at e
  split at e
  · obtain ⟨rfl, _⟩ := ra.int_inv
    obtain ⟨rfl, _⟩ := rb.int_inv
    cases e
    exact .inl ⟨_, _, rfl, rfl, fin l k (.int _)⟩
  · obtain ⟨rfl, _⟩ := ra.str_inv
    obtain ⟨rfl, _⟩ := rb.str_inv
    split at e
    · rename_i h
      cases e
      exact .inr (.inl ⟨_, _, rfl, rfl, lineOk_le h, fin l k (.str _)⟩)
    · cases e
  · split at e
    · rename_i h
      cases e
      obtain ⟨p, vs, rfl, sa, qa⟩ := ra.tup_inv
      obtain ⟨q, ws, rfl, sb, qb⟩ := rb.tup_inv
      obtain rfl := qa.pure_nil h.1
      obtain rfl := qb.pure_nil h.2.1
      have ha := qa.length
      have hb := qb.length
      refine .inr (.inr (.inl ⟨p, q, vs, ws, rfl, rfl, l.sqT sa, l.sqT sb, by rw [← ha, ← hb]; exact lineOk_le h.2.2, fun z => ?_, fun z1 z2 => ?_, fun z1 z2 t nt => ?_⟩))
      · subst z
        have z : _ = [] := List.length_eq_zero_iff.mp (by simpa using ha)
        rw [z] at k
        exact fin l k (.tup sb (by simpa using qb))
      · subst z2
        have z : _ = [] := List.length_eq_zero_iff.mp (by simpa using hb)
        rw [z] at k
        exact fin l k (by rw [List.append_nil]; exact .tup sa qa)
      · have f := Fresh.laid l nt (.tup (vs ++ ws))
        exact k _ _ _ _ f (.tup (.inl (.inl upd_same)) (by simpa using (qa.append qb).fresh f))
    · cases e
  · split at e
    · rename_i h
      cases e
      obtain ⟨p, vs, L1, rfl, sa, qa, _⟩ := ra.lst_inv l
      obtain ⟨q, ws, L2, rfl, sb, qb, _⟩ := rb.lst_inv l
      obtain rfl := qa.pure_nil h.1
      obtain rfl := qb.pure_nil h.2.1
      have ha := qa.length
      have hb := qb.length
      refine .inr (.inr (.inr ⟨p, q, vs, ws, rfl, rfl, sa, sb, by rw [← ha, ← hb]; exact lineOk_le h.2.2, fun t nt => ?_⟩))
      have f := Fresh.lst l nt (.lst (vs ++ ws))
      exact k _ _ _ _ f (.lstO (l.none nt) upd_same (by simpa using (qa.append qb).fresh f))
    · cases e
  · cases e
/-- ints in, an int out -/
theorem o2_int {C : Int → Int → Prop} {g : Int → Int → Int} {f : D → D → Option D} (h : ∀ a b c, f a b = some c → ∃ i j, a = .int i ∧ b = .int j ∧ C i j ∧ c = .int (g i j)) : Op2 K (rI C fun i j => .int (g i j)) f := by
  intro G H a b c x y La Lb Q l ra rb e k
  obtain ⟨i, j, rfl, rfl, hc, rfl⟩ := h a b c e
  obtain ⟨rfl, _⟩ := ra.int_inv
  obtain ⟨rfl, _⟩ := rb.int_inv
  exact ⟨_, _, rfl, rfl, hc, fin l k (.int _)⟩
theorem o2_int0 {g : Int → Int → Int} {f : D → D → Option D} (h : ∀ a b c, f a b = some c → ∃ i j, a = .int i ∧ b = .int j ∧ c = .int (g i j)) : Op2 K (rI0 fun i j => .int (g i j)) f := by
  intro G H a b c x y La Lb Q l ra rb e k
  obtain ⟨i, j, rfl, rfl, rfl⟩ := h a b c e
  obtain ⟨rfl, _⟩ := ra.int_inv
  obtain ⟨rfl, _⟩ := rb.int_inv
  exact ⟨_, _, rfl, rfl, fin l k (.int _)⟩
theorem o2_intB {g : Int → Int → Bool} {f : D → D → Option D} (h : ∀ a b c, f a b = some c → ∃ i j, a = .int i ∧ b = .int j ∧ c = .bl (g i j)) : Op2 K (rI0 fun i j => .bl (g i j)) f := by
  intro G H a b c x y La Lb Q l ra rb e k
  obtain ⟨i, j, rfl, rfl, rfl⟩ := h a b c e
  obtain ⟨rfl, _⟩ := ra.int_inv
  obtain ⟨rfl, _⟩ := rb.int_inv
  exact ⟨_, _, rfl, rfl, fin l k (.bl _)⟩
theorem o2_sub : Op2 K (rI0 fun i j => .int (i - j)) dSub := o2_int0 fun a b c e => by
  unfold dSub at e; split at e <;> cases e; exact ⟨_, _, rfl, rfl, rfl⟩
theorem op_mulZ : OpR X (binaryOp .Mult) (rI (fun i j => CMul i j ∨ CMulW i j) fun i j => .int (i * j)) := opI fun _ _ _ _ _ _ _ hc q => PyProof.Rows.mul_int q (hc.elim CMul.ok CMulW.ok)
theorem iop_mulZ : OpR X (inplaceOp .Mult) (rI (fun i j => CMul i j ∨ CMulW i j) fun i j => .int (i * j)) := opI fun _ _ _ _ _ _ _ hc q => PyProof.Rows.imul_int q (hc.elim CMul.ok CMulW.ok)
theorem o2_mul : Op2 K (rI (fun i j => CMul i j ∨ CMulW i j) fun i j => .int (i * j)) dMul := o2_int fun a b c e => by
  unfold dMul at e; split at e
  · split at e
    · rename_i h; cases e; 
      exact ⟨_, _, rfl, rfl, of_tst h, rfl⟩
    · cases e
  · cases e
def CDivX (_ j : Int) : Prop := j ≠ 0 ∧ j.natAbs.log2 < 9000
theorem op_fdivX : OpR X (binaryOp .FloorDiv) (rI CDivX fun i j => .int (i.fdiv j)) := opI fun _ _ _ _ _ _ _ hc q => PyProof.Rows.floordiv_int hc.1 q (.inl (PyProof.noPylong_of_log2 hc.2))
theorem iop_fdivX : OpR X (inplaceOp .FloorDiv) (rI CDivX fun i j => .int (i.fdiv j)) := opI fun _ _ _ _ _ _ _ hc q => PyProof.Rows.ifloordiv_int hc.1 q (.inl (PyProof.noPylong_of_log2 hc.2))
theorem o2_div : Op2 K (rI CDivX fun i j => .int (i.fdiv j)) dDiv := o2_int fun a b c e => by
  unfold dDiv at e; split at e
  · split at e
    · rename_i h; cases e
      exact ⟨_, _, rfl, rfl, of_tst (p := _ ≠ 0 ∧ _) h, rfl⟩
    · cases e
  · cases e
theorem o2_mod : Op2 K (rI (fun _ j => j ≠ 0) fun i j => .int (i.fmod j)) dMod := o2_int fun a b c e => by
  unfold dMod at e; split at e
  · split at e
    · rename_i h; cases e; exact ⟨_, _, rfl, rfl, h, rfl⟩
    · cases e
  · cases e
theorem o2_pow : Op2 K (rI CPow fun i j => .int (i ^ j.toNat)) dPow := o2_int fun a b c e => by
  unfold dPow at e; split at e
  · split at e
    · rename_i h; cases e
      exact ⟨_, _, rfl, rfl, (of_tst h : _ ∧ _ ∧ _), rfl⟩
    · cases e
  · cases e
theorem o1_neg : Op1 K (rU fun i => .int (-i)) dNeg := by
  intro G H a c x La Q l ra e k
  unfold dNeg at e
  split at e
  · cases e
    obtain ⟨rfl, _⟩ := ra.int_inv
    exact ⟨_, rfl, fin l k (.int _)⟩
  · cases e
end

/-! ### comparisons -/
def dEq (a b : D) : Option D := if shp a = true ∧ shp b = true then some (.bl (PyData.eqv a.py b.py)) else none
def dNe (a b : D) : Option D := if shp a = true ∧ shp b = true then some (.bl (!PyData.eqv a.py b.py)) else none
def dLt : D → D → Option D
  | .int i, .int j => some (.bl (decide (i < j)))
  | .tup a, .tup b => match intsOf a, intsOf b with
    | some ns, some ms => some (.bl (HT.lexLt ns ms))
    | _, _ => none
  | _, _ => none
def dLe : D → D → Option D
  | .int i, .int j => some (.bl (decide (i ≤ j)))
  | _, _ => none
def dGt : D → D → Option D
  | .int i, .int j => some (.bl (decide (j < i)))
  | _, _ => none
def dGe : D → D → Option D
  | .int i, .int j => some (.bl (decide (j ≤ i)))
  | _, _ => none
def isNon : D → Bool
  | .non => true
  | _ => false
def dIsN : D → D → Option D
  | .non, .non => some (.bl true)
  | .raw _, .non => none
  | _, .non => some (.bl false)
  | _, _ => none
def dNotN : D → D → Option D
  | .non, .non => some (.bl false)
  | .raw _, .non => none
  | _, .non => some (.bl true)
  | _, _ => none
section
variable {X : Cx} {K : PySem.W.Frag}
theorem o2_eq : Op2 K (rEqD K) dEq := by
  intro G H a b c x y La Lb Q l ra rb e k
  unfold dEq at e
  split at e
  · rename_i h; cases e
    exact ⟨_, _, ra.dps l h.1, rb.dps l h.2, h.1, h.2, fin l k (.bl _)⟩
  · cases e
theorem o2_ne : Op2 K (rNeD K) dNe := by
  intro G H a b c x y La Lb Q l ra rb e k
  unfold dNe at e
  split at e
  · rename_i h; cases e
    exact ⟨_, _, ra.dps l h.1, rb.dps l h.2, h.1, h.2, fin l k (.bl _)⟩
  · cases e
abbrev rLtX (K : PySem.W.Frag) : R2 := fun x y H Q => (rI0 fun i j => .bl (decide (i < j))) x y H Q ∨ rLtT K x y H Q
theorem opr_lt (hu : X.A.units < cLine) : OpR X (compareOp .Lt) (rLtX X.K) := op_lt.or (op_ltT hu)
theorem o2_lt : Op2 K (rLtX K) dLt := by
  intro G H a b c x y La Lb Q l ra rb e k
  unfold dLt at e
  split at e
  · cases e
    obtain ⟨rfl, _⟩ := ra.int_inv
    obtain ⟨rfl, _⟩ := rb.int_inv
    exact .inl ⟨_, _, rfl, rfl, fin l k (.bl _)⟩
  · split at e
    · rename_i ns ms h1 h2
      cases e
      obtain ⟨p, vs, rfl, sa, qa⟩ := ra.tup_inv
      obtain ⟨q, ws, rfl, sb, qb⟩ := rb.tup_inv
      rw [intsOf_eq h1] at qa
      rw [intsOf_eq h2] at qb
      obtain ⟨rfl, _⟩ := qa.ints_inv
      obtain ⟨rfl, _⟩ := qb.ints_inv
      exact .inr ⟨p, q, ns, ms, rfl, rfl, l.sqT sa, l.sqT sb, fin l k (.bl _)⟩
    · cases e
  · cases e
theorem o2_le : Op2 K (rI0 fun i j => .bl (decide (i ≤ j))) dLe := o2_intB fun a b c e => by
  unfold dLe at e; split at e <;> cases e; exact ⟨_, _, rfl, rfl, rfl⟩
theorem o2_gt : Op2 K (rI0 fun i j => .bl (decide (j < i))) dGt := o2_intB fun a b c e => by
  unfold dGt at e; split at e <;> cases e; exact ⟨_, _, rfl, rfl, rfl⟩
theorem o2_ge : Op2 K (rI0 fun i j => .bl (decide (j ≤ i))) dGe := o2_intB fun a b c e => by
  unfold dGe at e; split at e <;> cases e; exact ⟨_, _, rfl, rfl, rfl⟩
theorem isN_eq {G H : Hp} {a : D} {x : V} {La : List Addr} (ra : Rp K G H a x La) (h : ∀ v, a ≠ .raw v) : decide (x = .non) = isNon a := by
  cases ra <;> first | rfl | exact absurd rfl (h _) | simp
theorem o2_isN : Op2 K (fun x y H Q => y = .non ∧ Q (.bl (decide (x = .non))) H) dIsN := by
  intro G H a b c x y La Lb Q l ra rb e k
  have hr : (∀ v, a ≠ .raw v) := fun v z => by subst z; cases b <;> simp [dIsN] at e
  have hb : b = .non := by cases b <;> cases a <;> first | rfl | (simp [dIsN] at e)
  subst hb
  obtain ⟨rfl, _⟩ := rb.non_inv
  refine ⟨rfl, ?_⟩
  rw [isN_eq ra hr]
  have : c = .bl (isNon a) := by cases a <;> simp [dIsN] at e <;> first | exact e.symm | (exact absurd rfl (hr _))
  subst this
  exact fin l k (.bl _)
theorem o2_notN : Op2 K (fun x y H Q => y = .non ∧ Q (.bl (!decide (x = .non))) H) dNotN := by
  intro G H a b c x y La Lb Q l ra rb e k
  have hr : (∀ v, a ≠ .raw v) := fun v z => by subst z; cases b <;> simp [dNotN] at e
  have hb : b = .non := by cases b <;> cases a <;> first | rfl | (simp [dNotN] at e)
  subst hb
  obtain ⟨rfl, _⟩ := rb.non_inv
  refine ⟨rfl, ?_⟩
  rw [isN_eq ra hr]
  have : c = .bl (!isNon a) := by cases a <;> simp [dNotN] at e <;> first | exact e.symm | (exact absurd rfl (hr _))
  subst this
  exact fin l k (.bl _)
end
end
end Pz

set_option Elab.async false
set_option linter.all false
set_option maxRecDepth 100000
set_option maxHeartbeats 1000000
namespace Pz
open PySem L2
noncomputable section

/-! ### items and slices -/
def dIx : D → D → Option D
  | .tup xs, .int i => atI xs i
  | .lst _ xs, .int i => atI xs i
  | .scr ns, .int i => (atI ns i).map .int
  | .str z, .int i => if lineOk z.length = true then (atI z.cps.toList i).map fun c => .str ⟨#[c]⟩ else none
  | _, _ => none
section
variable {K : PySem.W.Frag} {G H : Hp} {σ : St}
theorem Rps.atI {ds : List D} {vs : List V} {L : List Addr} {i : Int} {d : D} (r : Rps K G H ds vs L) (e : atI ds i = some d) : ∃ v L1, L2.atI vs i = some v ∧ Rp K G H d v L1 ∧ L1.Sublist L := by
  unfold L2.atI at e ⊢
  rw [← r.length]
  cases q : ixN ds.length i with
  | none => rw [q] at e; cases e
  | some j =>
    rw [q] at e
    obtain ⟨v, L1, h1, h2, h3⟩ := r.get (i := j) e
    exact ⟨v, L1, h1, h2, h3⟩
theorem atI_map {α β : Type} {f : α → β} {xs : List α} {i : Int} : atI (xs.map f) i = (atI xs i).map f := by
  unfold atI
  rw [List.length_map]
  cases q : ixN xs.length i with
  | none => rfl
  | some j => simp
end
section
variable {X : Cx} {a b : Expr} {FA FB : En → Option (D × En)} {o1 o2 s1 s2 : Bool} {pos p2 : Pos}
/-- an item, looked at -/
theorem ev_sub (ha : Ev X o1 s1 a FA) (hb : Ev X o2 s2 b FB) (hs : PlainIx b) (hm : o1 = true ∨ s2 = true := by first | exact .inl rfl | exact .inr rfl) : Ev X false (s1 && s2) (.Subscript a b pos) (b2 dIx FA FB) :=
  peM (pe_ix ix_seq ha hb hs) fun σ H Q h => by
    obtain ⟨G, env, L, R, d, env', hf, k⟩ := h
    obtain ⟨da, e1, db, h1, h2, h3⟩ := b2_some hf
    refine ⟨G, env, L, R, da, e1, h1, fun x G1 H1 L1 La R1 ra n1 st1 x1 => ⟨G1, e1, L1, R1, db, env', h2, fun y G2 H2 L2 Lb R2 rb n2 st2 x2 => ?_⟩⟩
    have ra2 : Rp X.K G2 H2 da x La := ra.mono x2.le (persist hm ra.own n1 R2 st2 x2)
    have fini : ∀ v L3, Rp X.K G2 H2 d v L3 → (∀ z ∈ L3, z ∈ La) → Q v H2 := fun v L3 r3 s3 =>
      k v G2 H2 L2 L3 R2 r3 (fun z => nomatch z) (st_trans st1 st2) ((ext_two x1 x2).sub fun z hz => (ext_two x1 x2).own z (by
        rcases List.mem_append.mp hz with q | q
        · exact List.mem_append_left _ q
        · exact List.mem_append_right _ (List.mem_append_left _ (s3 z q))))
    unfold dIx at h3
    split at h3
    · obtain ⟨p, vs, rfl, sa, qa⟩ := ra2.tup_inv
      obtain ⟨rfl, _⟩ := rb.int_inv
      obtain ⟨v, L3, hv, r3, s3⟩ := qa.atI h3
      exact .inr (.inl ⟨p, vs, _, v, rfl, rfl, R2.le.sqT sa, hv, fini v L3 r3 fun z hz => s3.subset hz⟩)
    · obtain ⟨p, vs, L5, rfl, sa, qa, s5⟩ := ra2.lst_inv R2.le
      obtain ⟨rfl, _⟩ := rb.int_inv
      obtain ⟨v, L3, hv, r3, s3⟩ := qa.atI h3
      exact .inl ⟨p, vs, _, v, rfl, rfl, SqL.of sa, hv, fini v L3 r3 fun z hz => s5 z (s3.subset hz)⟩
    · rename_i ns i
      obtain ⟨p, rfl, rfl, sa⟩ := ra2.scr_inv
      obtain ⟨rfl, _⟩ := rb.int_inv
      cases q : atI ns i with
      | none => rw [q] at h3; cases h3
      | some m =>
        rw [q] at h3; cases h3
        exact .inl ⟨p, _, _, .int m, rfl, rfl, R2.le.sqL sa, by rw [atI_map, q]; rfl, fini _ [] (.int m) fun z hz => nomatch hz⟩
    · rename_i z i
      obtain ⟨rfl, rfl⟩ := ra2.str_inv
      obtain ⟨rfl, _⟩ := rb.int_inv
      split at h3
      · rename_i hl
        cases q : atI z.cps.toList i with
        | none => rw [q] at h3; cases h3
        | some c =>
          rw [q] at h3; cases h3
          exact .inr (.inr ⟨z, i, c, rfl, rfl, lineOk_le hl, q, fini _ [] (.str _) fun z hz => nomatch hz⟩)
      · cases h3
    · cases h3

/-- a slice's part -/
def tO (K : PySem.W.Frag) (st : Bool) (F : En → Option (Option Int × En)) : TO := fun σ H Q => ∃ G env L, RSt K σ G H env L ∧ ∃ d env', F env = some (d, env') ∧
  ∀ G' H' L', RSt K σ G' H' env' L' → (st = true → env' = env ∧ L' = L ∧ ∀ b, H b ≠ none → H' b = H b) → Ext L G H G' H' L' → Q d H'
abbrev Ov (X : Cx) (st : Bool) (e : Option Expr) (F : En → Option (Option Int × En)) : Prop := PO X e (tO X.K st F)
theorem poM {X : Cx} {e : Option Expr} {t u : TO} (h : PO X e t) (k : ∀ σ H Q, u σ H Q → t σ H Q) : PO X e u := ⟨fun pins s σ H Q I hw => h.run pins s σ H Q I (k σ H Q hw)⟩
def noPt : En → Option (Option Int × En) := fun env => some (none, env)
def ptI : D → Option (Option Int)
  | .int i => some (some i)
  | _ => none
def ptF (F : En → Option (D × En)) : En → Option (Option Int × En) := fun env => (F env).bind fun a => (ptI a.1).map fun i => (i, a.2)
theorem ov_none : Ov X true none noPt := poM po_none fun σ H Q ⟨G, env, L, R, d, env', hf, k⟩ => by
  cases hf
  exact k G H L R (fun _ => ⟨rfl, rfl, fun _ _ => rfl⟩) (Ext.refl fun b z => z)
theorem ov_some (h : Ev X o1 s1 a FA) : Ov X s1 (some a) (ptF FA) := poM (po_some h) fun σ H Q ⟨G, env, L, R, d, env', hf, k⟩ => by
  unfold ptF at hf
  cases q : FA env with
  | none => rw [q] at hf; simp at hf
  | some r =>
    obtain ⟨da, e1⟩ := r
    rw [q] at hf
    simp only [Option.bind_some] at hf
    cases da <;> simp only [ptI, Option.map_none, Option.map_some, reduceCtorEq] at hf
    rename_i i
    cases hf
    refine ⟨G, env, L, R, .int i, _, q, fun x G1 H1 L1 La R1 ra n1 st1 x1 => ?_⟩
    obtain ⟨rfl, rfl⟩ := ra.int_inv
    exact ⟨i, rfl, k G1 H1 L1 R1 st1 (by simpa using x1)⟩
def cutD {α : Type} (xs : List α) (lo hi : Option Int) : List α := (xs.drop (HT.sIx xs.length 0 lo)).take (HT.sIx xs.length xs.length hi - HT.sIx xs.length 0 lo)
def dSl : D → Option Int → Option Int → Option D
  | .tup xs, lo, hi => if D.pures xs = true then some (.tup (cutD xs lo hi)) else none
  | .lst _ xs, lo, hi => if D.pures xs = true then some (.lst true (cutD xs lo hi)) else none
  | .scr ns, lo, hi => some (.lst true ((cutD ns lo hi).map .int))
  | _, _, _ => none
theorem Rps.cut {K : PySem.W.Frag} {G H : Hp} {ds : List D} {vs : List V} {lo hi : Option Int} (r : Rps K G H ds vs []) : Rps K G H (cutD ds lo hi) (cutV vs lo hi) [] := by
  unfold cutD cutV
  rw [r.length]
  exact (r.drop _).take _
def bSl (FA : En → Option (D × En)) (FL FU : En → Option (Option Int × En)) : En → Option (D × En) := fun env => (FA env).bind fun a => (FL a.2).bind fun l => (FU l.2).bind fun u => (dSl a.1 l.1 u.1).map fun c => (c, u.2)
theorem ev_slice {lo hi : Option Expr} {FL FU : En → Option (Option Int × En)} (ha : Ev X o1 s1 a FA) (hl : Ov X true lo FL) (hu : Ov X true hi FU) : Ev X true s1 (.Subscript a (.Slice lo hi none p2) pos) (bSl FA FL FU) :=
  peM (pe_slice (sl_tupA.or sl_list) ha hl hu) fun σ H Q h => by
    obtain ⟨G, env, L, R, d, env', hf, k⟩ := h
    unfold bSl at hf
    cases q1 : FA env with
    | none => rw [q1] at hf; simp at hf
    | some r1 =>
    obtain ⟨da, e1⟩ := r1
    rw [q1] at hf
    simp only [Option.bind_some] at hf
    cases q2 : FL e1 with
    | none => rw [q2] at hf; simp at hf
    | some r2 =>
    obtain ⟨lo', e2⟩ := r2
    rw [q2] at hf
    simp only [Option.bind_some] at hf
    cases q3 : FU e2 with
    | none => rw [q3] at hf; simp at hf
    | some r3 =>
    obtain ⟨hi', e3⟩ := r3
    rw [q3] at hf
    simp only [Option.bind_some] at hf
    cases q4 : dSl da lo' hi' with
    | none => rw [q4] at hf; simp at hf
    | some c =>
    rw [q4] at hf
    simp only [Option.map_some, Option.some.injEq, Prod.mk.injEq] at hf
    obtain ⟨rfl, rfl⟩ := hf
    refine ⟨G, env, L, R, da, e1, q1, fun x G1 H1 L1 La R1 ra n1 st1 x1 => ⟨G1, e1, L1, R1, lo', e2, q2, fun G2 H2 L2 R2 st2 x2 => ⟨G2, e2, L2, R2, hi', e3, q3, fun G3 H3 L3 R3 st3 x3 => ?_⟩⟩⟩
    have ra2 : Rp X.K G2 H2 da x La := ra.mono x2.le (persist (L' := L2) (o1 := o1) (s2 := true) (.inr rfl) ra.own n1 R2 st2 x2)
    have ra3 : Rp X.K G3 H3 da x La := by
      obtain ⟨f1, f2, f3⟩ := st2 rfl
      subst f1 f2
      exact ra2.mono x3.le (persist (L' := L3) (o1 := o1) (s2 := true) (.inr rfl) ra2.own n1 R3 st3 x3)
    have stt : s1 = true → e3 = env ∧ L3 = L ∧ ∀ b, H b ≠ none → H3 b = H b := fun h => by
      have z := st_trans (st_trans st1 st2) st3
      exact z (by simp [h])
    have xx : Ext L G H G3 H3 L3 := by
      have y1 := ext_then x1 x2
      exact y1.trans x3 fun z hz => y1.own z hz
    have fini : ∀ v G4 H4 Lr, Fresh G3 H3 G4 H4 Lr → Rp X.K G4 H4 c v Lr → Q v H4 := fun v G4 H4 Lr fr rc =>
      k v G4 H4 L3 Lr (R3.fresh fr) rc (fun _ => fr.nodup R3.nd fun a z => (R3.rep.own a z).2) (st_fresh stt fr) (ext_fresh (La := []) (by simpa using xx) fr)
    unfold dSl at q4
    split at q4
    · split at q4
      · rename_i hp
        cases q4
        obtain ⟨p, vs, rfl, sa, qa⟩ := ra3.tup_inv
        obtain rfl := qa.pure_nil hp
        refine .inl ⟨p, vs, rfl, R3.le.sqT sa, fun w => ?_, fun w t nt => ?_⟩
        · have e : cutD _ lo' hi' = _ := show (List.drop _ _).take _ = _ from by rw [qa.length, w.1, w.2, List.drop_zero, Nat.sub_zero, List.take_of_length_le (Nat.le_of_eq qa.length)]
          rw [e] at fini
          exact fini _ _ _ _ (Fresh.refl R3.le) (.tup sa qa)
        · have f := Fresh.laid R3.le nt (.tup (cutV vs lo' hi'))
          exact fini _ _ _ _ f (.tup (.inl (.inl upd_same)) (qa.cut.fresh f))
      · cases q4
    · split at q4
      · rename_i hp
        cases q4
        obtain ⟨p, vs, L5, rfl, sa, qa, s5⟩ := ra3.lst_inv R3.le
        obtain rfl := qa.pure_nil hp
        refine .inr ⟨p, vs, rfl, SqL.of sa, fun t nt => ?_⟩
        have f := Fresh.lst R3.le nt (.lst (cutV vs lo' hi'))
        exact fini _ _ _ _ f (.lstO (R3.le.none nt) upd_same (qa.cut.fresh f))
      · cases q4
    · rename_i ns
      cases q4
      obtain ⟨p, rfl, rfl, sa⟩ := ra3.scr_inv
      refine .inr ⟨p, _, rfl, R3.le.sqL sa, fun t nt => ?_⟩
      have f := Fresh.lst R3.le nt (.lst (cutV (ns.map V.int) lo' hi'))
      refine fini _ _ _ _ f (.lstO (R3.le.none nt) upd_same ?_)
      have e : (cutD ns lo' hi').map V.int = cutV (ns.map V.int) lo' hi' := by
        unfold cutD cutV
        rw [List.length_map, List.map_take, List.map_drop]
      rw [← e]
      exact Rps.ints _
    · cases q4
end

/-! ### lists of arguments, displays -/
def aNil : En → Option (List D × En) := fun env => some ([], env)
def aCons (F : En → Option (D × En)) (FR : En → Option (List D × En)) : En → Option (List D × En) := fun env => (F env).bind fun a => (FR a.2).map fun r => (a.1 :: r.1, r.2)
def dTup (ds : List D) : Option D := if lineOk ds.length = true then some (.tup ds) else none
def dLst (ds : List D) : Option D := if lineOk ds.length = true then some (.lst true ds) else none
section
variable {X : Cx} {e : Expr} {es : List Expr} {F : En → Option (D × En)} {FR : En → Option (List D × En)} {o1 o2 s1 s2 o s : Bool} {pos : Pos}
theorem av_nil : Av X true true [] aNil := paM pa_nil fun σ H Q ⟨G, env, L, R, d, env', hf, k⟩ => by
  cases hf
  exact k [] G H L [] R .nil (fun _ => by simpa using R.nd) (fun _ => ⟨rfl, rfl, fun _ _ => rfl⟩) (Ext.refl fun b z => by simpa using z)
theorem av_cons (he : Ev X o1 s1 e F) (hr : Av X o2 s2 es FR) (hm : o1 = true ∨ s2 = true := by first | exact .inl rfl | exact .inr rfl) (hs : starEach (e :: es) X.env = (false, eval e X.env) :: starEach es X.env := by rfl) :
    Av X (o1 && o2) (s1 && s2) (e :: es) (aCons F FR) := paM (pa_cons he hr hs) fun σ H Q ⟨G, env, L, R, d, env', hf, k⟩ => by
  unfold aCons at hf
  cases q1 : F env with
  | none => rw [q1] at hf; simp at hf
  | some r1 =>
  obtain ⟨da, e1⟩ := r1
  rw [q1] at hf
  simp only [Option.bind_some] at hf
  cases q2 : FR e1 with
  | none => rw [q2] at hf; simp at hf
  | some r2 =>
  obtain ⟨dr, e2⟩ := r2
  rw [q2] at hf
  simp only [Option.map_some, Option.some.injEq, Prod.mk.injEq] at hf
  obtain ⟨rfl, rfl⟩ := hf
  refine ⟨G, env, L, R, da, e1, q1, fun x G1 H1 L1 La R1 ra n1 st1 x1 => ⟨G1, e1, L1, R1, dr, _, q2, fun y G2 H2 L2 Lb R2 rb n2 st2 x2 => ?_⟩⟩
  have ra2 : Rp X.K G2 H2 da x La := ra.mono x2.le (persist hm ra.own n1 R2 st2 x2)
  refine k (x :: y) G2 H2 L2 (La ++ Lb) R2 (.cons ra2 rb) (fun ho => ?_) (st_trans st1 st2) (ext_two x1 x2)
  obtain ⟨h1, h2⟩ := Bool.and_eq_true_iff.mp ho
  have n1' := n1 h1
  have n2' := n2 h2
  have a1 := List.nodup_append.mp n1'
  have a2 := List.nodup_append.mp n2'
  have apart : ∀ z ∈ La, z ∉ L2 ++ Lb := fun z hz hz2 => by
    rcases x2.own z hz2 with w | w
    · exact a1.2.2 z w z hz rfl
    · exact (ra.own z hz).2 w
  refine List.nodup_append.mpr ⟨a2.1, List.nodup_append.mpr ⟨a1.2.1, a2.2.1, fun z hz y hy e => ?_⟩, fun z hz y hy e => ?_⟩
  · subst e; exact apart z hz (List.mem_append_right _ hy)
  · subst e
    rcases List.mem_append.mp hy with w | w
    · exact apart z w (List.mem_append_left _ hz)
    · exact a2.2.2 z hz z w rfl
theorem bN_lift {K : PySem.W.Frag} {f : List D → Option D} {r : List V → Hp → VK → Prop} (ho : OpN K r f) (σ : St) (H : Hp) (Q : VK) (h : tE K true s (bN f FR) σ H Q) : tA K o s FR σ H (fun vs H1 => r vs H1 Q) := by
  obtain ⟨G, env, L, R, d, env', hf, k⟩ := h
  obtain ⟨da, h1, h3⟩ := bN_some hf
  refine ⟨G, env, L, R, da, env', h1, fun x G1 H1 L1 La R1 ra n1 st1 x1 => ho R1.le ra h3 fun v G3 H3 Lr fr rc => ?_⟩
  exact k v G3 H3 L1 Lr (R1.fresh fr) rc (fun _ => fr.nodup R1.nd fun a z => (R1.rep.own a z).2) (st_fresh st1 fr) (ext_fresh x1 fr)
theorem ev_tup {x1} (h : Av X true s es FR) : Ev X true s (.Tuple es x1 pos) (bN dTup FR) := peM (pe_tup h) fun σ H Q hw => by
  obtain ⟨G, env, L, R, d, env', hf, k⟩ := hw
  obtain ⟨da, h1, h3⟩ := bN_some hf
  refine ⟨G, env, L, R, da, env', h1, fun x G1 H1 L1 La R1 ra n1 st1 x1 => ?_⟩
  unfold dTup at h3
  split at h3
  · rename_i hl
    cases h3
    refine ⟨by rw [← ra.length]; exact lineOk_le hl, fun p np => ?_⟩
    have f := Fresh.laid R1.le np (.tup x)
    exact k _ _ _ L1 La (R1.fresh f) (.tup (.inl (.inl upd_same)) (ra.fresh f)) n1 (st_fresh st1 f) (x1.trans (f.ext' fun z hz => .inl hz) fun z hz => x1.own z hz)
  · cases h3
theorem ev_lst (h : Av X true s es FR) : Ev X true s (.List es pos) (bN dLst FR) := peM (pe_lst h) fun σ H Q hw => by
  obtain ⟨G, env, L, R, d, env', hf, k⟩ := hw
  obtain ⟨da, h1, h3⟩ := bN_some hf
  refine ⟨G, env, L, R, da, env', h1, fun x G1 H1 L1 La R1 ra n1 st1 x1 => ?_⟩
  unfold dLst at h3
  split at h3
  · rename_i hl
    cases h3
    refine ⟨by rw [← ra.length]; exact lineOk_le hl, fun p np => ?_⟩
    have f := Fresh.lst R1.le np (.lst x)
    refine k _ _ _ L1 (p :: La) (R1.fresh f) (.lstO (R1.le.none np) upd_same (ra.fresh f)) (fun ho => ?_) (st_fresh st1 f) (x1.trans (f.ext' (L := L1 ++ La) fun z hz => ?_) fun z hz => x1.own z hz)
    · have nn := n1 ho
      have pn : p ∉ L1 ++ La := fun z => by
        rcases List.mem_append.mp z with z | z
        · exact (R1.rep.own p z).2 np
        · exact (ra.own p z).2 np
      rw [List.nodup_append] at nn ⊢
      refine ⟨nn.1, List.nodup_cons.mpr ⟨fun z => pn (List.mem_append_right _ z), nn.2.1⟩, fun z hz y hy e => ?_⟩
      subst e
      rcases List.mem_cons.mp hy with w | w
      · subst w; exact pn (List.mem_append_left _ hz)
      · exact nn.2.2 z hz z w rfl
    · rcases List.mem_append.mp hz with w | w
      · exact .inl (List.mem_append_left _ w)
      · rcases List.mem_cons.mp w with q | q
        · subst q; exact .inr np
        · exact .inl (List.mem_append_right _ q)
  · cases h3
/-- a call of a built-in by its name -/
theorem ev_callB {x : Str} {p : Pos} {id : String} {r : List V → Hp → VK → Prop} {f : List D → Option D} (hc : CallR X (.builtin id) r) (hf : OpN X.K r f) (hg : Gl X x) (hm : X.mg x = none) (hv : bootBuiltins x = some (.builtin id)) (ha : Av X o s (e :: es) FR)
    (hn : x ≠ "__name__" := by decide) (hdb : (x == ("__debug__" : Str)) = false := by decide)
    (he : starEach (e :: es) X.env = (false, eval e X.env) :: starEach es X.env := by rfl) (hpl : (backTo pos (starEach es X.env)).any (·.1) = false := by rfl) : Ev X true s (.Call (.Name x p) (e :: es) [] pos) (bN f FR) := peM (pe_callB hc hg hm hv ha hn hdb he hpl) (bN_lift hf)
theorem ev_callTy {x : Str} {p : Pos} {T : String} {r : List V → Hp → VK → Prop} {f : List D → Option D} (hc : CallR X (.type T) r) (hf : OpN X.K r f) (hg : Gl X x) (hm : X.mg x = none) (hv : bootBuiltins x = some (.type T)) (ha : Av X o s (e :: es) FR)
    (hn : x ≠ "__name__" := by decide) (hdb : (x == ("__debug__" : Str)) = false := by decide)
    (he : starEach (e :: es) X.env = (false, eval e X.env) :: starEach es X.env := by rfl) (hpl : (backTo pos (starEach es X.env)).any (·.1) = false := by rfl) : Ev X true s (.Call (.Name x p) (e :: es) [] pos) (bN f FR) := peM (pe_callTy hc hg hm hv ha hn hdb he hpl) (bN_lift hf)
end
end
end Pz

set_option Elab.async false
set_option linter.all false
set_option maxRecDepth 100000
set_option maxHeartbeats 1000000
namespace Pz
open PySem L2
noncomputable section

def asB : D → Option Bool
  | .bl b => some b
  | _ => none
def dTru : D → Option Bool
  | .non => some false
  | .bl b => some b
  | .int i => some (i != 0)
  | .str x => if lineOk x.length = true then some ((x.length : Int) != 0) else none
  | .scr ns => some (!ns.isEmpty)
  | .tup xs => some (!xs.isEmpty)
  | .lst _ xs => some (!xs.isEmpty)
  | _ => none
def tbF (F : En → Option (D × En)) : En → Option (Bool × En) := fun env => (F env).bind fun a => (asB a.1).map fun b => (b, a.2)
def ttF (F : En → Option (D × En)) : En → Option (Bool × En) := fun env => (F env).bind fun a => (dTru a.1).map fun b => (b, a.2)
theorem t_some {f : D → Option Bool} {F : En → Option (D × En)} {env env' : En} {b : Bool} (h : ((F env).bind fun a => (f a.1).map fun b => (b, a.2)) = some (b, env')) : ∃ a, F env = some (a, env') ∧ f a = some b := by
  cases q : F env with
  | none => rw [q] at h; simp at h
  | some a =>
    rw [q] at h; simp only [Option.bind_some] at h
    cases q3 : f a.1 with
    | none => rw [q3] at h; simp at h
    | some c => rw [q3] at h; simp at h; obtain ⟨rfl, rfl⟩ := h; exact ⟨a.1, rfl, q3⟩
section
variable {K : PySem.W.Frag} {G H : Hp} {σ : St} {F : En → Option (D × En)} {o s : Bool}
theorem tb_lift (Q : Bool → Hp → Prop) (h : tT K s (tbF F) σ H Q) (o : Bool) : tE K o s F σ H (fun x H' => ∃ k, x = .bl k ∧ Q k H') := by
  obtain ⟨G, env, L, R, d, env', hf, k⟩ := h
  obtain ⟨a, h1, h2⟩ := t_some hf
  refine ⟨G, env, L, R, a, env', h1, fun v G1 H1 L1 La R1 ra n1 st1 x1 => ?_⟩
  cases a <;> simp only [asB, reduceCtorEq] at h2
  cases h2
  obtain ⟨rfl, rfl⟩ := ra.bl_inv
  exact ⟨_, rfl, k G1 H1 L1 R1 st1 (by simpa using x1)⟩
theorem isEmpty_len {α β : Type} {xs : List α} {ys : List β} (h : xs.length = ys.length) : xs.isEmpty = ys.isEmpty := by
  cases xs <;> cases ys <;> first | rfl | (simp at h)
theorem dTru_ok {a : D} {x : V} {L : List Addr} {b : Bool} (r : Rp K G H a x L) (l : Le G H) (h : dTru a = some b) : TruV K x H b := by
  cases a <;> simp only [dTru, reduceCtorEq] at h
  · cases h; obtain ⟨rfl, _⟩ := r.non_inv; rfl
  · cases h; obtain ⟨rfl, _⟩ := r.bl_inv; rfl
  · cases h; obtain ⟨rfl, _⟩ := r.int_inv; rfl
  · split at h
    · rename_i hl; cases h; obtain ⟨rfl, _⟩ := r.str_inv; exact ⟨lineOk_le hl, rfl⟩
    · cases h
  · cases h
    obtain ⟨p, rfl, _, sa⟩ := r.scr_inv
    exact .inl ⟨_, l.sqL sa, by rw [isEmpty_len (List.length_map (as := _) V.int)]⟩
  · cases h
    obtain ⟨p, vs, rfl, sa, qa⟩ := r.tup_inv
    exact .inr (.inl ⟨vs, l.sqT sa, by rw [isEmpty_len qa.length]⟩)
  · cases h
    obtain ⟨p, vs, L1, rfl, sa, qa, _⟩ := r.lst_inv l
    exact .inl ⟨vs, SqL.of sa, by rw [isEmpty_len qa.length]⟩
theorem tt_lift (Q : Bool → Hp → Prop) (h : tT K s (ttF F) σ H Q) (o : Bool) : tE K o s F σ H (fun x H' => ∃ k, TruV K x H' k ∧ Q k H') := by
  obtain ⟨G, env, L, R, d, env', hf, k⟩ := h
  obtain ⟨a, h1, h2⟩ := t_some hf
  refine ⟨G, env, L, R, a, env', h1, fun v G1 H1 L1 La R1 ra n1 st1 x1 => ⟨d, dTru_ok ra R1.le h2, k G1 H1 L1 R1 st1 (x1.sub fun z hz => x1.own z (List.mem_append_left _ hz))⟩⟩
end
section
variable {X : Cx} {a b c : Expr} {FA FB : En → Option (D × En)} {TA' TB : En → Option (Bool × En)} {o o1 o2 s s1 s2 s3 : Bool} {pos : Pos} {rest : List Expr}
theorem tv_cmp {op : CmpOp} {r : R2} {f : D → D → Option D} (hr : OpR X (compareOp op) r) (ho : Op2 X.K r f) (ha : Ev X o1 s1 a FA) (hb : Ev X o2 s2 b FB) (hk : behindInMarks op b = false)
    (hm : o1 = true ∨ s2 = true := by first | exact .inl rfl | exact .inr rfl) : Tv X (s1 && s2) (.Compare a [op] [b] pos) (tbF (b2 f FA FB)) :=
  ptM (pt_cmpR hr ha hb hk) fun σ H Q h => op2_lift ho hm σ H _ (tb_lift Q h true)
/-- an expression whose test is its value's truth -/
theorem tv_tru (ha : Ev X o s a FA) (he : ∀ whole, isTrue a X.env whole = (do let v ← whole; standAt a.pos; holding [v] (truthy v)) := by intro _; rfl) : Tv X s a (ttF FA) :=
  ptM (pt_truth ha he) fun σ H Q h => tt_lift Q h o
def andF (FA FB : En → Option (Bool × En)) : En → Option (Bool × En) := fun env => (FA env).bind fun a => if a.1 = true then FB a.2 else some (false, a.2)
def orF (FA FB : En → Option (Bool × En)) : En → Option (Bool × En) := fun env => (FA env).bind fun a => if a.1 = true then some (true, a.2) else FB a.2
def notF (FA : En → Option (Bool × En)) : En → Option (Bool × En) := fun env => (FA env).map fun a => (!a.1, a.2)
theorem wv_and1 (ha : Tv X s a TA') : Wv X s (.BoolOp .And [a] pos) TA' := pw_and1 ha
theorem wv_or1 (ha : Tv X s a TA') : Wv X s (.BoolOp .Or [a] pos) TA' := pw_or1 ha
theorem st_left {s1 s2 : Bool} {env e1 : En} {L L1 : List Addr} {H H1 : Hp} (st : s1 = true → e1 = env ∧ L1 = L ∧ ∀ b, H b ≠ none → H1 b = H b) : (s1 && s2) = true → e1 = env ∧ L1 = L ∧ ∀ b, H b ≠ none → H1 b = H b := fun h => st (Bool.and_eq_true_iff.mp h).1
theorem wv_and (ha : Tv X s1 a TA') (hb : Wv X s2 (.BoolOp .And (b :: rest) pos) TB) : Wv X (s1 && s2) (.BoolOp .And (a :: b :: rest) pos) (andF TA' TB) :=
  pwM (pw_and ha hb) fun σ H Q ⟨G, env, L, R, d, env', hf, k⟩ => by
    unfold andF at hf
    cases q : TA' env with
    | none => rw [q] at hf; simp at hf
    | some r =>
      obtain ⟨c, e1⟩ := r
      rw [q] at hf
      simp only [Option.bind_some] at hf
      refine ⟨G, env, L, R, c, e1, q, fun G1 H1 L1 R1 st1 x1 => ?_⟩
      cases c with
      | true =>
        rw [if_pos rfl] at hf ⊢
        exact ⟨G1, e1, L1, R1, d, env', hf, fun G2 H2 L2 R2 st2 x2 => k G2 H2 L2 R2 (st_trans st1 st2) (x1.trans x2 fun z hz => x1.own z hz)⟩
      | false =>
        rw [if_neg (by decide)] at hf ⊢
        cases hf
        exact k G1 H1 L1 R1 (st_left st1) x1
theorem wv_or (ha : Tv X s1 a TA') (hb : Wv X s2 (.BoolOp .Or (b :: rest) pos) TB) : Wv X (s1 && s2) (.BoolOp .Or (a :: b :: rest) pos) (orF TA' TB) :=
  pwM (pw_or ha hb) fun σ H Q ⟨G, env, L, R, d, env', hf, k⟩ => by
    unfold orF at hf
    cases q : TA' env with
    | none => rw [q] at hf; simp at hf
    | some r =>
      obtain ⟨c, e1⟩ := r
      rw [q] at hf
      simp only [Option.bind_some] at hf
      refine ⟨G, env, L, R, c, e1, q, fun G1 H1 L1 R1 st1 x1 => ?_⟩
      cases c with
      | false =>
        rw [if_neg (by decide)] at hf ⊢
        exact ⟨G1, e1, L1, R1, d, env', hf, fun G2 H2 L2 R2 st2 x2 => k G2 H2 L2 R2 (st_trans st1 st2) (x1.trans x2 fun z hz => x1.own z hz)⟩
      | true =>
        rw [if_pos rfl] at hf ⊢
        cases hf
        exact k G1 H1 L1 R1 (st_left st1) x1
theorem tv_w (h : Wv X s a TA') : Tv X s a TA' := h.pt
theorem tv_not (ha : Tv X s a TA') : Tv X s (.UnaryOp .Not a pos) (notF TA') := ptM (pt_not ha) fun σ H Q ⟨G, env, L, R, d, env', hf, k⟩ => by
  unfold notF at hf
  cases q : TA' env with
  | none => rw [q] at hf; simp at hf
  | some r =>
    rw [q] at hf
    cases hf
    exact ⟨G, env, L, R, r.1, r.2, q, fun G1 H1 L1 R1 st1 x1 => k G1 H1 L1 R1 st1 x1⟩

/-! ### as values -/
def andV (FA FB : En → Option (D × En)) : En → Option (D × En) := fun env => (FA env).bind fun a => (dTru a.1).bind fun k => if k = true then FB a.2 else some a
def orV (FA FB : En → Option (D × En)) : En → Option (D × En) := fun env => (FA env).bind fun a => (dTru a.1).bind fun k => if k = true then some a else FB a.2
def ifF (FC : En → Option (Bool × En)) (FA FB : En → Option (D × En)) : En → Option (D × En) := fun env => (FC env).bind fun c => if c.1 = true then FA c.2 else FB c.2
def dNot (d : D) : Option D := (dTru d).map fun k => .bl (!k)
theorem ev_one {op} (h : Ev X o s a FA) : Ev X o s (.BoolOp op [a] pos) FA := pe_one h
theorem ev_and (ha : Ev X o s1 a FA) (hb : Ev X o s2 (.BoolOp .And (b :: rest) pos) FB) : Ev X o (s1 && s2) (.BoolOp .And (a :: b :: rest) pos) (andV FA FB) :=
  peM (pe_andT ha hb) fun σ H Q ⟨G, env, L, R, d, env', hf, k⟩ => by
    unfold andV at hf
    cases q : FA env with
    | none => rw [q] at hf; simp at hf
    | some r =>
      obtain ⟨da, e1⟩ := r
      rw [q] at hf
      simp only [Option.bind_some] at hf
      cases q2 : dTru da with
      | none => rw [q2] at hf; simp at hf
      | some c =>
      rw [q2] at hf
      simp only [Option.bind_some] at hf
      refine ⟨G, env, L, R, da, e1, q, fun x G1 H1 L1 La R1 ra n1 st1 x1 => ⟨c, dTru_ok ra R1.le q2, ?_⟩⟩
      cases c with
      | true =>
        rw [if_pos rfl] at hf ⊢
        refine ⟨G1, e1, L1, R1, d, env', hf, fun y G2 H2 L2 Lb R2 rb n2 st2 x2 => k y G2 H2 L2 Lb R2 rb n2 (st_trans st1 st2) (ext_then x1 x2)⟩
      | false =>
        rw [if_neg (by decide)] at hf ⊢
        cases hf
        exact k x G1 H1 L1 La R1 ra n1 (st_left st1) x1
theorem ev_or (ha : Ev X o s1 a FA) (hb : Ev X o s2 (.BoolOp .Or (b :: rest) pos) FB) : Ev X o (s1 && s2) (.BoolOp .Or (a :: b :: rest) pos) (orV FA FB) :=
  peM (pe_orT ha hb) fun σ H Q ⟨G, env, L, R, d, env', hf, k⟩ => by
    unfold orV at hf
    cases q : FA env with
    | none => rw [q] at hf; simp at hf
    | some r =>
      obtain ⟨da, e1⟩ := r
      rw [q] at hf
      simp only [Option.bind_some] at hf
      cases q2 : dTru da with
      | none => rw [q2] at hf; simp at hf
      | some c =>
      rw [q2] at hf
      simp only [Option.bind_some] at hf
      refine ⟨G, env, L, R, da, e1, q, fun x G1 H1 L1 La R1 ra n1 st1 x1 => ⟨c, dTru_ok ra R1.le q2, ?_⟩⟩
      cases c with
      | false =>
        rw [if_neg (by decide)] at hf ⊢
        refine ⟨G1, e1, L1, R1, d, env', hf, fun y G2 H2 L2 Lb R2 rb n2 st2 x2 => k y G2 H2 L2 Lb R2 rb n2 (st_trans st1 st2) (ext_then x1 x2)⟩
      | true =>
        rw [if_pos rfl] at hf ⊢
        cases hf
        exact k x G1 H1 L1 La R1 ra n1 (st_left st1) x1
theorem ev_not (ha : Ev X o s a FA) : Ev X true s (.UnaryOp .Not a pos) (b1 dNot FA) := peM (pe_notT ha) fun σ H Q h => by
  obtain ⟨G, env, L, R, d, env', hf, k⟩ := h
  obtain ⟨da, h1, h3⟩ := b1_some hf
  unfold dNot at h3
  cases q : dTru da with
  | none => rw [q] at h3; cases h3
  | some c =>
    rw [q] at h3; cases h3
    exact ⟨G, env, L, R, da, env', h1, fun x G1 H1 L1 La R1 ra n1 st1 x1 => ⟨c, dTru_ok ra R1.le q, k _ G1 H1 L1 [] R1 (.bl _) (fun _ => by simpa using R1.nd) st1 (x1.sub fun z hz => x1.own z (List.mem_append_left _ (by simpa using hz)))⟩⟩
theorem ev_if (hc : Tv X s1 c TA') (ha : Ev X o s2 a FA) (hb : Ev X o s3 b FB) : Ev X o (s1 && (s2 && s3)) (.IfExp c a b pos) (ifF TA' FA FB) :=
  peM (pe_ifExp hc ha hb) fun σ H Q ⟨G, env, L, R, d, env', hf, k⟩ => by
    unfold ifF at hf
    cases q : TA' env with
    | none => rw [q] at hf; simp at hf
    | some r =>
      obtain ⟨c, e1⟩ := r
      rw [q] at hf
      simp only [Option.bind_some] at hf
      refine ⟨G, env, L, R, c, e1, q, fun G1 H1 L1 R1 st1 x1 => ?_⟩
      have x1' : Ext L G H G1 H1 (L1 ++ []) := by simpa using x1
      cases c with
      | true =>
        rw [if_pos rfl] at hf
        show (if true = true then _ else _)
        rw [if_pos rfl]
        refine ⟨G1, e1, L1, R1, d, env', hf, fun y G2 H2 L2 Lb R2 rb n2 st2 x2 => k y G2 H2 L2 Lb R2 rb n2 (fun h => ?_) (ext_then x1' x2)⟩
        obtain ⟨h1, h2⟩ := Bool.and_eq_true_iff.mp h
        exact st_trans st1 st2 (by simp [h1, (Bool.and_eq_true_iff.mp h2).1])
      | false =>
        rw [if_neg (by decide)] at hf
        show (if false = true then _ else _)
        rw [if_neg (by decide)]
        refine ⟨G1, e1, L1, R1, d, env', hf, fun y G2 H2 L2 Lb R2 rb n2 st2 x2 => k y G2 H2 L2 Lb R2 rb n2 (fun h => ?_) (ext_then x1' x2)⟩
        obtain ⟨h1, h2⟩ := Bool.and_eq_true_iff.mp h
        exact st_trans st1 st2 (by simp [h1, (Bool.and_eq_true_iff.mp h2).2])
/-- chains a < b < c -/
def chF (f g : D → D → Option D) (FA FB FC : En → Option (D × En)) : En → Option (D × En) := fun env => (FA env).bind fun a => (FB a.2).bind fun b => (f a.1 b.1).bind fun r => (asB r).bind fun k =>
  if k = true then (FC b.2).bind fun c => (g b.1 c.1).map fun z => (z, c.2) else some (.bl false, b.2)
theorem chain_lift {op op' : CmpOp} {r r' : R2} {f g : D → D → Option D} {FC : En → Option (D × En)} {K : PySem.W.Frag} (ho : Op2 K r f) (ho' : Op2 K r' g) (σ : St) (H : Hp) (Q : VK) (h : tE K true (s1 && (s2 && s3)) (chF f g FA FB FC) σ H Q) :
    tChain r r' (tE K true s1 FA) (tE K true s2 FB) (tE K true s3 FC) σ H Q := by
  obtain ⟨G, env, L, R, d, env', hf, k⟩ := h
  unfold chF at hf
  cases q : FA env with
  | none => rw [q] at hf; simp at hf
  | some r1 =>
  obtain ⟨da, e1⟩ := r1
  rw [q] at hf
  simp only [Option.bind_some] at hf
  cases q2 : FB e1 with
  | none => rw [q2] at hf; simp at hf
  | some r2 =>
  obtain ⟨db, e2⟩ := r2
  rw [q2] at hf
  simp only [Option.bind_some] at hf
  cases q3 : f da db with
  | none => rw [q3] at hf; simp at hf
  | some t =>
  rw [q3] at hf
  simp only [Option.bind_some] at hf
  cases t <;> simp only [asB, Option.bind_none, Option.bind_some, reduceCtorEq] at hf
  rename_i kk
  refine ⟨G, env, L, R, da, e1, q, fun x G1 H1 L1 La R1 ra n1 st1 x1 => ⟨G1, e1, L1, R1, db, e2, q2, fun y G2 H2 L2 Lb R2 rb n2 st2 x2 => ?_⟩⟩
  have ra2 : Rp K G2 H2 da x La := ra.mono x2.le (persist (s2 := s2) (.inl rfl) ra.own n1 R2 st2 x2)
  refine ho R2.le ra2 rb q3 fun v G3 H3 Lr fr rc => ?_
  obtain ⟨rfl, rfl⟩ := rc.bl_inv
  refine ⟨kk, rfl, ?_⟩
  have R3 := R2.fresh fr
  have x3 : Ext L G H G3 H3 (L2 ++ Lb) := (ext_then x1 x2).trans (fr.ext' fun z hz => .inl hz) fun z hz => (ext_then x1 x2).own z hz
  have st3 := st_fresh (st_trans st1 st2) fr
  cases kk with
  | true =>
    rw [if_pos rfl] at hf ⊢
    cases q4 : FC e2 with
    | none => rw [q4] at hf; simp at hf
    | some r4 =>
    obtain ⟨dc, e3⟩ := r4
    rw [q4] at hf
    simp only [Option.bind_some] at hf
    cases q5 : g db dc with
    | none => rw [q5] at hf; simp at hf
    | some z =>
    rw [q5] at hf
    simp only [Option.map_some, Option.some.injEq, Prod.mk.injEq] at hf
    obtain ⟨rfl, rfl⟩ := hf
    refine ⟨G3, e2, L2, R3, dc, e3, q4, fun w G4 H4 L4 Lc R4 rc4 n4 st4 x4 => ?_⟩
    have rb3 := rb.fresh fr
    have rb4 : Rp K G4 H4 db y Lb := rb3.mono x4.le (persist (s2 := s3) (.inl rfl) rb3.own n2 R4 st4 x4)
    refine ho' R4.le rb4 rc4 q5 fun v5 G5 H5 L5 fr5 rc5 => ?_
    exact k v5 G5 H5 L4 L5 (R4.fresh fr5) rc5 (fun _ => fr5.nodup R4.nd fun a z => (R4.rep.own a z).2) (st_fresh (fun h => st_trans st3 st4 (by
      revert h; cases s1 <;> cases s2 <;> cases s3 <;> simp)) fr5) (ext_fresh (ext_then x3 x4) fr5)
  | false =>
    rw [if_neg (by decide)] at hf ⊢
    cases hf
    exact k _ G3 H3 L2 [] R3 (.bl _) (fun _ => by simpa using R3.nd) (fun h => st3 (by revert h; cases s1 <;> cases s2 <;> cases s3 <;> simp)) (x3.sub fun z hz => x3.own z (List.mem_append_left _ (by simpa using hz)))
theorem ev_chain {op op' : CmpOp} {r r' : R2} {f g : D → D → Option D} {FC : En → Option (D × En)} (hr : OpR X (compareOp op) r) (hr' : OpR X (compareOp op') r') (ho : Op2 X.K r f) (ho' : Op2 X.K r' g) (ha : Ev X true s1 a FA) (hb : Ev X true s2 b FB) (hc : Ev X true s3 c FC)
    (hm : lastMarks [op, op'] [b, c] = false := by with_unfolding_all rfl) : Ev X true (s1 && (s2 && s3)) (.Compare a [op, op'] [b, c] pos) (chF f g FA FB FC) := peM (pe_chain hr hr' ha hb hc hm) (chain_lift (op := op) (op' := op') ho ho')
theorem tv_chain {op op' : CmpOp} {r r' : R2} {f g : D → D → Option D} {FC : En → Option (D × En)} (hr : OpR X (compareOp op) r) (hr' : OpR X (compareOp op') r') (ho : Op2 X.K r f) (ho' : Op2 X.K r' g) (ha : Ev X true s1 a FA) (hb : Ev X true s2 b FB) (hc : Ev X true s3 c FC)
    (hm : lastMarks [op, op'] [b, c] = false := by with_unfolding_all rfl) : Tv X (s1 && (s2 && s3)) (.Compare a [op, op'] [b, c] pos) (tbF (chF f g FA FB FC)) := ptM (pt_chain hr hr' ha hb hc hm) fun σ H Q h => chain_lift (op := op) (op' := op') ho ho' σ H _ (tb_lift Q h true)
end

/-! ### built-ins -/
def boolsOf : List D → Option (List Bool)
  | [] => some []
  | .bl i :: r => (boolsOf r).map (i :: ·)
  | _ :: _ => none
theorem boolsOf_eq : ∀ {ds : List D} {ns : List Bool}, boolsOf ds = some ns → ds = ns.map D.bl
  | [], _, h => by cases h; rfl
  | d :: r, ns, h => by
    cases d <;> simp only [boolsOf] at h <;> try (cases h)
    rename_i i
    cases q : boolsOf r with
    | none => rw [q] at h; cases h
    | some ms =>
      rw [q] at h; cases h
      rw [boolsOf_eq q]; rfl
theorem boolsOf_map : ∀ ns : List Bool, boolsOf (ns.map D.bl) = some ns
  | [] => rfl
  | n :: ns => by simp [boolsOf, boolsOf_map ns]
def fLen : List D → Option D
  | [.tup xs] => some (.int xs.length)
  | [.lst _ xs] => some (.int xs.length)
  | [.scr xs] => some (.int xs.length)
  | [.str x] => if lineOk x.length = true then some (.int x.length) else none
  | _ => none
def fAbs : List D → Option D
  | [.int i] => some (.int (if i < 0 then -i else i))
  | _ => none
def fInt : List D → Option D
  | [.int i] => some (.int i)
  | [.bl b] => some (.int (if b = true then 1 else 0))
  | _ => none
def fMax2 : List D → Option D
  | [.int i, .int j] => some (.int (if j > i then j else i))
  | _ => none
def fMin2 : List D → Option D
  | [.int i, .int j] => some (.int (if j < i then j else i))
  | _ => none
def strOk (i : Int) : Bool := tst (i.natAbs.log2 < 1920)
def fStr : List D → Option D
  | [.int i] => if strOk i = true then some (.str (toString i)) else none
  | _ => none
def fList : List D → Option D
  | [.tup xs] => if D.pures xs = true then some (.lst true xs) else none
  | [.lst _ xs] => if D.pures xs = true then some (.lst true xs) else none
  | [.scr ns] => some (.lst true (ns.map .int))
  | _ => none
def fTuple : List D → Option D
  | [.tup xs] => if D.pures xs = true then some (.tup xs) else none
  | [.lst _ xs] => if D.pures xs = true then some (.tup xs) else none
  | [.scr ns] => some (.tup (ns.map .int))
  | _ => none
def fSum : List D → Option D
  | [.lst _ xs] => (intsOf xs).map fun ns => .int ns.sum
  | [.scr ns] => some (.int ns.sum)
  | _ => none
def fMaxL : List D → Option D
  | [.lst _ xs] => (intsOf xs).bind fun ns => ns.max?.map .int
  | _ => none
def fMinL : List D → Option D
  | [.lst _ xs] => (intsOf xs).bind fun ns => ns.min?.map .int
  | _ => none
def fAll : List D → Option D
  | [.lst _ xs] => (boolsOf xs).map fun bs => .bl (bs.all id)
  | _ => none
def fAny : List D → Option D
  | [.lst _ xs] => (boolsOf xs).map fun bs => .bl (bs.any id)
  | _ => none
def tyOf : D → Option String
  | .non => some "NoneType" | .bl _ => some "bool" | .int _ => some "int" | .str _ => some "str"
  | .scr _ => some "list" | .tup _ => some "tuple" | .lst _ _ => some "list" | _ => none
def fIsi : List D → Option D
  | [d, .raw (.ty n)] => (tyOf d).bind fun t => (kitB t n).map .bl
  | _ => none
def fBits : D → Option D
  | .int i => some (.int (Builtin.Int.intBits i : Nat))
  | _ => none
section
variable {X : Cx} {K : PySem.W.Frag} {G H : Hp}
theorem Rps.one {d : D} {x : List V} {L : List Addr} (r : Rps K G H [d] x L) : ∃ v, x = [v] ∧ Rp K G H d v L := by
  cases r with
  | @cons _ _ _ _ L1 L2 h hs => cases hs; exact ⟨_, rfl, by simpa using h⟩
theorem Rps.two {d e : D} {x : List V} {L : List Addr} (r : Rps K G H [d, e] x L) : ∃ v w L1 L2, x = [v, w] ∧ Rp K G H d v L1 ∧ Rp K G H e w L2 ∧ L = L1 ++ L2 := by
  cases r with
  | cons h hs => obtain ⟨w, rfl, h2⟩ := hs.one; exact ⟨_, _, _, _, rfl, h, h2, rfl⟩
theorem on_len : OpN K (fun xs H Q => ∃ x n, xs = [x] ∧ LenV K x H n ∧ Q (.int n) H) fLen := by
  intro G H a c x La Q l ra e k
  unfold fLen at e
  split at e
  · obtain ⟨v, rfl, r⟩ := ra.one
    obtain ⟨p, vs, rfl, sa, qa⟩ := r.tup_inv
    cases e
    exact ⟨_, vs.length, rfl, .inr ⟨vs, l.sqT sa, rfl⟩, by rw [← qa.length]; exact fin l k (.int _)⟩
  · obtain ⟨v, rfl, r⟩ := ra.one
    obtain ⟨p, vs, L1, rfl, sa, qa, _⟩ := r.lst_inv l
    cases e
    exact ⟨_, vs.length, rfl, .inl ⟨vs, SqL.of sa, rfl⟩, by rw [← qa.length]; exact fin l k (.int _)⟩
  · obtain ⟨v, rfl, r⟩ := ra.one
    obtain ⟨p, rfl, _, sa⟩ := r.scr_inv
    cases e
    exact ⟨_, _, rfl, .inl ⟨_, l.sqL sa, rfl⟩, by rw [List.length_map]; exact fin l k (.int _)⟩
  · split at e
    · rename_i hl
      obtain ⟨v, rfl, r⟩ := ra.one
      obtain ⟨rfl, _⟩ := r.str_inv
      cases e
      exact ⟨_, _, rfl, ⟨lineOk_le hl, rfl⟩, fin l k (.int _)⟩
    · cases e
  · cases e
theorem on_abs : OpN K (fun xs H Q => ∃ i, xs = [.int i] ∧ Q (.int (if i < 0 then -i else i)) H) fAbs := by
  intro G H a c x La Q l ra e k
  unfold fAbs at e
  split at e
  · obtain ⟨v, rfl, r⟩ := ra.one
    obtain ⟨rfl, _⟩ := r.int_inv
    cases e
    exact ⟨_, rfl, fin l k (.int _)⟩
  · cases e
theorem on_int : OpN K (fun xs H Q => (∃ i, xs = [.int i] ∧ Q (.int i) H) ∨ ∃ k, xs = [.bl k] ∧ Q (.int (if k then 1 else 0)) H) fInt := by
  intro G H a c x La Q l ra e k
  unfold fInt at e
  split at e
  · obtain ⟨v, rfl, r⟩ := ra.one
    obtain ⟨rfl, _⟩ := r.int_inv
    cases e
    exact .inl ⟨_, rfl, fin l k (.int _)⟩
  · obtain ⟨v, rfl, r⟩ := ra.one
    obtain ⟨rfl, _⟩ := r.bl_inv
    cases e
    exact .inr ⟨_, rfl, fin l k (.int _)⟩
  · cases e
theorem on_max2 : OpN K (fun xs H Q => ∃ i j, xs = [.int i, .int j] ∧ Q (.int (if j > i then j else i)) H) fMax2 := by
  intro G H a c x La Q l ra e k
  unfold fMax2 at e
  split at e
  · obtain ⟨v, w, L1, L2, rfl, r1, r2, _⟩ := ra.two
    obtain ⟨rfl, _⟩ := r1.int_inv
    obtain ⟨rfl, _⟩ := r2.int_inv
    cases e
    exact ⟨_, _, rfl, fin l k (.int _)⟩
  · cases e
theorem on_min2 : OpN K (fun xs H Q => ∃ i j, xs = [.int i, .int j] ∧ Q (.int (if j < i then j else i)) H) fMin2 := by
  intro G H a c x La Q l ra e k
  unfold fMin2 at e
  split at e
  · obtain ⟨v, w, L1, L2, rfl, r1, r2, _⟩ := ra.two
    obtain ⟨rfl, _⟩ := r1.int_inv
    obtain ⟨rfl, _⟩ := r2.int_inv
    cases e
    exact ⟨_, _, rfl, fin l k (.int _)⟩
  · cases e
theorem on_str : OpN K (fun xs H Q => ∃ i, xs = [.int i] ∧ i.natAbs.log2 < 1920 ∧ Q (.str (toString i)) H) fStr := by
  intro G H a c x La Q l ra e k
  unfold fStr at e
  split at e
  · split at e
    · rename_i hl
      obtain ⟨v, rfl, r⟩ := ra.one
      obtain ⟨rfl, _⟩ := r.int_inv
      cases e
      exact ⟨_, rfl, of_tst hl, fin l k (.str _)⟩
    · cases e
  · cases e
theorem on_list : OpN K (fun xs H Q => ∃ p ys, xs = [.ref p] ∧ (SqL K H p ys ∨ SqT K H p ys) ∧ ∀ l, H l = none → Q (.ref l) (upd H l (.lst ys))) fList := by
  intro G H a c x La Q l ra e k
  unfold fList at e
  split at e
  · split at e
    · rename_i hp
      obtain ⟨v, rfl, r⟩ := ra.one
      obtain ⟨p, vs, rfl, sa, qa⟩ := r.tup_inv
      obtain rfl := qa.pure_nil hp
      cases e
      refine ⟨p, vs, rfl, .inr (l.sqT sa), fun t nt => ?_⟩
      have f := Fresh.lst l nt (.lst vs)
      exact k _ _ _ _ f (.lstO (l.none nt) upd_same (qa.fresh f))
    · cases e
  · split at e
    · rename_i hp
      obtain ⟨v, rfl, r⟩ := ra.one
      obtain ⟨p, vs, L1, rfl, sa, qa, _⟩ := r.lst_inv l
      obtain rfl := qa.pure_nil hp
      cases e
      refine ⟨p, vs, rfl, .inl (SqL.of sa), fun t nt => ?_⟩
      have f := Fresh.lst l nt (.lst vs)
      exact k _ _ _ _ f (.lstO (l.none nt) upd_same (qa.fresh f))
    · cases e
  · rename_i ns
    obtain ⟨v, rfl, r⟩ := ra.one
    obtain ⟨p, rfl, _, sa⟩ := r.scr_inv
    cases e
    refine ⟨p, _, rfl, .inl (l.sqL sa), fun t nt => ?_⟩
    have f := Fresh.lst l nt (.lst (ns.map V.int))
    exact k _ _ _ _ f (.lstO (l.none nt) upd_same (Rps.ints _))
  · cases e
theorem on_tuple : OpN K (fun xs H Q => ∃ p ys, xs = [.ref p] ∧ ((SqL K H p ys ∧ ∀ l, H l = none → Q (.ref l) (upd H l (.tup ys))) ∨ (SqT K H p ys ∧ Q (.ref p) H))) fTuple := by
  intro G H a c x La Q l ra e k
  unfold fTuple at e
  split at e
  · split at e
    · rename_i hp
      obtain ⟨v, rfl, r⟩ := ra.one
      obtain ⟨p, vs, rfl, sa, qa⟩ := r.tup_inv
      obtain rfl := qa.pure_nil hp
      cases e
      exact ⟨p, vs, rfl, .inr ⟨l.sqT sa, fin l k (.tup sa qa)⟩⟩
    · cases e
  · split at e
    · rename_i hp
      obtain ⟨v, rfl, r⟩ := ra.one
      obtain ⟨p, vs, L1, rfl, sa, qa, _⟩ := r.lst_inv l
      obtain rfl := qa.pure_nil hp
      cases e
      refine ⟨p, vs, rfl, .inl ⟨SqL.of sa, fun t nt => ?_⟩⟩
      have f := Fresh.laid l nt (.tup vs)
      exact k _ _ _ _ f (.tup (.inl (.inl upd_same)) (qa.fresh f))
    · cases e
  · rename_i ns
    obtain ⟨v, rfl, r⟩ := ra.one
    obtain ⟨p, rfl, _, sa⟩ := r.scr_inv
    cases e
    refine ⟨p, _, rfl, .inl ⟨l.sqL sa, fun t nt => ?_⟩⟩
    have f := Fresh.laid l nt (.tup (ns.map V.int))
    exact k _ _ _ _ f (.tup (.inl (.inl upd_same)) (Rps.ints _))
  · cases e
/-- a list of ints, wherever it comes from -/
theorem lst_ints {o : Bool} {xs : List D} {ns : List Int} {v : V} {L : List Addr} (l : Le G H) (r : Rp K G H (.lst o xs) v L) (h : intsOf xs = some ns) : ∃ p, v = .ref p ∧ SqL K H p (ns.map V.int) := by
  obtain ⟨p, vs, L1, rfl, sa, qa, _⟩ := r.lst_inv l
  rw [intsOf_eq h] at qa
  obtain ⟨rfl, _⟩ := qa.ints_inv
  exact ⟨p, rfl, SqL.of sa⟩
theorem Rps.bls_inv : ∀ {ns : List Bool} {vs : List V} {L : List Addr}, Rps K G H (ns.map D.bl) vs L → vs = ns.map V.bl ∧ L = []
  | [], _, _, h => by cases h; exact ⟨rfl, rfl⟩
  | n :: ns, _, _, h => by
    cases h with
    | cons h hs =>
      obtain ⟨rfl, rfl⟩ := h.bl_inv
      obtain ⟨rfl, rfl⟩ := Rps.bls_inv hs
      exact ⟨rfl, rfl⟩
theorem lst_bools {o : Bool} {xs : List D} {ns : List Bool} {v : V} {L : List Addr} (l : Le G H) (r : Rp K G H (.lst o xs) v L) (h : boolsOf xs = some ns) : ∃ p, v = .ref p ∧ SqL K H p (ns.map V.bl) := by
  obtain ⟨p, vs, L1, rfl, sa, qa, _⟩ := r.lst_inv l
  rw [boolsOf_eq h] at qa
  obtain ⟨rfl, _⟩ := qa.bls_inv
  exact ⟨p, rfl, SqL.of sa⟩
theorem on_sum : OpN K (rSum K) fSum := by
  intro G H a c x La Q l ra e k
  unfold fSum at e
  split at e
  · rename_i o xs
    obtain ⟨v, rfl, r⟩ := ra.one
    cases q : intsOf xs with
    | none => rw [q] at e; cases e
    | some ns =>
      rw [q] at e; cases e
      obtain ⟨p, rfl, sa⟩ := lst_ints l r q
      exact ⟨p, ns, rfl, sa, fin l k (.int _)⟩
  · obtain ⟨v, rfl, r⟩ := ra.one
    obtain ⟨p, rfl, _, sa⟩ := r.scr_inv
    cases e
    exact ⟨p, _, rfl, l.sqL sa, fin l k (.int _)⟩
  · cases e
theorem on_max : OpN K (rMax K) fMaxL := by
  intro G H a c x La Q l ra e k
  unfold fMaxL at e
  split at e
  · rename_i o xs
    obtain ⟨v, rfl, r⟩ := ra.one
    cases q : intsOf xs with
    | none => rw [q] at e; cases e
    | some ns =>
      rw [q] at e
      simp only [Option.bind_some] at e
      cases q2 : ns.max? with
      | none => rw [q2] at e; cases e
      | some m =>
        rw [q2] at e; cases e
        obtain ⟨p, rfl, sa⟩ := lst_ints l r q
        obtain ⟨hm, hu⟩ := List.max?_eq_some_iff.mp q2
        refine ⟨p, ns, rfl, sa, List.length_pos_of_mem hm, fun m' h1 h2 => ?_⟩
        have : m' = m := Int.le_antisymm (hu m' h1) (h2 m hm)
        subst this
        exact fin l k (.int _)
  · cases e
theorem on_min : OpN K (rMin K) fMinL := by
  intro G H a c x La Q l ra e k
  unfold fMinL at e
  split at e
  · rename_i o xs
    obtain ⟨v, rfl, r⟩ := ra.one
    cases q : intsOf xs with
    | none => rw [q] at e; cases e
    | some ns =>
      rw [q] at e
      simp only [Option.bind_some] at e
      cases q2 : ns.min? with
      | none => rw [q2] at e; cases e
      | some m =>
        rw [q2] at e; cases e
        obtain ⟨p, rfl, sa⟩ := lst_ints l r q
        obtain ⟨hm, hu⟩ := List.min?_eq_some_iff.mp q2
        refine ⟨p, ns, rfl, sa, List.length_pos_of_mem hm, fun m' h1 h2 => ?_⟩
        have : m' = m := Int.le_antisymm (h2 m hm) (hu m' h1)
        subst this
        exact fin l k (.int _)
  · cases e
theorem on_all : OpN K (rAll K) fAll := by
  intro G H a c x La Q l ra e k
  unfold fAll at e
  split at e
  · rename_i o xs
    obtain ⟨v, rfl, r⟩ := ra.one
    cases q : boolsOf xs with
    | none => rw [q] at e; cases e
    | some ns =>
      rw [q] at e; cases e
      obtain ⟨p, rfl, sa⟩ := lst_bools l r q
      exact ⟨p, ns, rfl, sa, fin l k (.bl _)⟩
  · cases e
theorem on_any : OpN K (rAny K) fAny := by
  intro G H a c x La Q l ra e k
  unfold fAny at e
  split at e
  · rename_i o xs
    obtain ⟨v, rfl, r⟩ := ra.one
    cases q : boolsOf xs with
    | none => rw [q] at e; cases e
    | some ns =>
      rw [q] at e; cases e
      obtain ⟨p, rfl, sa⟩ := lst_bools l r q
      exact ⟨p, ns, rfl, sa, fin l k (.bl _)⟩
  · cases e
theorem tyOf_ok {d : D} {x : V} {L : List Addr} {t : String} (r : Rp K G H d x L) (l : Le G H) (h : tyOf d = some t) : TyX K H x (.type t) := by
  cases d <;> simp only [tyOf, reduceCtorEq, Option.some.injEq] at h <;> subst h
  · obtain ⟨rfl, _⟩ := r.non_inv; exact .base .non
  · obtain ⟨rfl, _⟩ := r.bl_inv; exact .base (.bl _)
  · obtain ⟨rfl, _⟩ := r.int_inv; exact .base (.int _)
  · obtain ⟨rfl, _⟩ := r.str_inv; exact .base (.str _)
  · obtain ⟨p, rfl, _, sa⟩ := r.scr_inv
    rcases l.sqL sa with (h | ⟨o, h⟩) | ⟨o, its, n, h, c, _⟩
    · exact .base (.lst h)
    · exact .base (.frz h)
    · exact .kList h c
  · obtain ⟨p, vs, rfl, sa, _⟩ := r.tup_inv
    rcases l.sqT sa with (h | ⟨o, h⟩) | ⟨o, its, n, h, c, _⟩
    · exact .base (.tup h)
    · exact .fTuple h
    · exact .kTuple h c
  · obtain ⟨p, vs, _, rfl, sa, _, _⟩ := r.lst_inv l
    exact .base (.lst sa)
theorem on_isi : OpN K (rIsi K) fIsi := by
  intro G H a c x La Q l ra e k
  unfold fIsi at e
  split at e
  · rename_i d n
    obtain ⟨v, w, L1, L2, rfl, r1, r2, _⟩ := ra.two
    obtain ⟨rfl, _⟩ := r2.raw_inv
    cases q : tyOf d with
    | none => rw [q] at e; cases e
    | some t =>
      rw [q] at e
      simp only [Option.bind_some] at e
      cases q2 : kitB t n with
      | none => rw [q2] at e; cases e
      | some b =>
        rw [q2] at e; cases e
        exact ⟨v, .ty n, .type t, .type n, b, rfl, .ty n, tyOf_ok r1 l q, kit_ty q2, fin l k (.bl _)⟩
  · cases e
theorem ev_bits {o s : Bool} {e : Expr} {F : En → Option (D × En)} {apos pos : Pos} (ho : Ev X o s e F) (hbase : attributeBase e "bit_length" X.env (eval e X.env) = eval e X.env := by rfl) (hline : (apos.endLine == pos.line) = true := by rfl) :
    Ev X true s (.Call (.Attribute e "bit_length" apos) [] [] pos) (b1 fBits F) := peM (pe_bits ho hbase hline) fun σ H Q h => by
  have z : Op1 X.K (fun x H1 Q => ∃ i, x = .int i ∧ Q (.int (Builtin.Int.intBits i : Nat)) H1) fBits := by
    intro G H a c x La Q l ra e k
    unfold fBits at e
    split at e
    · obtain ⟨rfl, _⟩ := ra.int_inv
      cases e
      exact ⟨_, rfl, fin l k (.int _)⟩
    · cases e
  exact op1_lift z σ H Q h
end
end
end Pz

set_option Elab.async false
set_option linter.all false
set_option maxRecDepth 100000
set_option maxHeartbeats 1000000
namespace Pz
open PySem L2
noncomputable section

inductive Fl where
  | nx | bk | ct | rt (d : D)
def Keep (W : List Nat) (σ σ' : St) : Prop := σ'.length = σ.length ∧ ∀ j, j ∉ W → σ'[j]? = σ[j]?
theorem Keep.refl (W : List Nat) (σ : St) : Keep W σ σ := ⟨rfl, fun _ _ => rfl⟩
theorem Keep.trans {W W' W'' : List Nat} {σ σ' σ'' : St} (a : Keep W σ σ') (b : Keep W' σ' σ'') (h : ∀ j, j ∈ W ∨ j ∈ W' → j ∈ W'') : Keep W'' σ σ'' := ⟨b.1.trans a.1, fun j n => (b.2 j fun z => n (h j (.inr z))).trans (a.2 j fun z => n (h j (.inl z)))⟩
theorem Keep.sub {W W' : List Nat} {σ σ' : St} (a : Keep W σ σ') (h : ∀ j, j ∈ W → j ∈ W') : Keep W' σ σ' := ⟨a.1, fun j n => a.2 j fun z => n (h j z)⟩

section
variable (K : PySem.W.Frag)
def Post (W : List Nat) (D : Ends) (σ : St) (G H : Hp) (L : List Addr) : Fl → En → Prop
  | .nx, env' => ∀ σ' G' H' L', RSt K σ' G' H' env' L' → Keep W σ σ' → Ext L G H G' H' L' → D.nx σ' H'
  | .bk, env' => ∀ σ' G' H' L', RSt K σ' G' H' env' L' → Keep W σ σ' → Ext L G H G' H' L' → D.bk σ' H'
  | .ct, env' => ∀ σ' G' H' L', RSt K σ' G' H' env' L' → Keep W σ σ' → Ext L G H G' H' L' → D.ct σ' H'
  | .rt d, env' => ∀ σ' v G' H' L' Lr, RSt K σ' G' H' env' L' → Keep W σ σ' → Rp K G' H' d v Lr → (L' ++ Lr).Nodup → Ext L G H G' H' (L' ++ Lr) → D.rt v H'
def tS (W : List Nat) (F : En → Option (Fl × En)) : TS := fun D σ H => ∃ G env L, RSt K σ G H env L ∧ ∃ fl env', F env = some (fl, env') ∧ Post K W D σ G H L fl env'
/-- a target: stores a value -/
def tG (W : List Nat) (F : D → En → Option En) : TG := fun v σ H Q => ∃ G env L d Lr, RSt K σ G H env L ∧ Rp K G H d v Lr ∧ (L ++ Lr).Nodup ∧ ∃ env', F d env = some env' ∧
  ∀ σ' G' H' L', RSt K σ' G' H' env' L' → Keep W σ σ' → Ext (L ++ Lr) G H G' H' L' → Q σ' H'
def tGs (W : List Nat) (F : List D → En → Option En) : TGs := fun v σ H Q => ∃ G env L d Lr, RSt K σ G H env L ∧ Rps K G H d v Lr ∧ (L ++ Lr).Nodup ∧ ∃ env', F d env = some env' ∧
  ∀ σ' G' H' L', RSt K σ' G' H' env' L' → Keep W σ σ' → Ext (L ++ Lr) G H G' H' L' → Q σ' H'
end
theorem Post.mono {K : PySem.W.Frag} {W W' : List Nat} {D D' : Ends} {σ σ0 : St} {G G0 H H0 : Hp} {L L0 : List Addr} {fl : Fl} {env' : En} (p : Post K W' D' σ0 G0 H0 L0 fl env')
    (hk : ∀ σ', Keep W σ σ' → Keep W' σ0 σ') (hx : ∀ G' H' L', Ext L G H G' H' L' → Ext L0 G0 H0 G' H' L') (hn : ∀ σ' H', D'.nx σ' H' → D.nx σ' H') (hb : ∀ σ' H', D'.bk σ' H' → D.bk σ' H') (hc : ∀ σ' H', D'.ct σ' H' → D.ct σ' H') (hr : ∀ v H', D'.rt v H' → D.rt v H') : Post K W D σ G H L fl env' := by
  cases fl with
  | nx => exact fun σ' G' H' L' R k x => hn _ _ (p σ' G' H' L' R (hk _ k) (hx _ _ _ x))
  | bk => exact fun σ' G' H' L' R k x => hb _ _ (p σ' G' H' L' R (hk _ k) (hx _ _ _ x))
  | ct => exact fun σ' G' H' L' R k x => hc _ _ (p σ' G' H' L' R (hk _ k) (hx _ _ _ x))
  | rt d => exact fun σ' v G' H' L' Lr R k r n x => hr _ _ (p σ' v G' H' L' Lr R (hk _ k) r n (hx _ _ _ x))
abbrev Sv (X : Cx) (W : List Nat) (st : Stmt) (F : En → Option (Fl × En)) : Prop := PS X st (tS X.K W F)
abbrev Bv (X : Cx) (W : List Nat) (st : List Stmt) (F : En → Option (Fl × En)) : Prop := PSs X st (tS X.K W F)
abbrev Gv (X : Cx) (W : List Nat) (e : Expr) (F : D → En → Option En) : Prop := PG X e (tG X.K W F)
abbrev Gvs (X : Cx) (W : List Nat) (es : List Expr) (F : List D → En → Option En) : Prop := PGs X es (tGs X.K W F)
theorem psM {X : Cx} {e : Stmt} {t u : TS} (h : PS X e t) (k : ∀ D σ H, u D σ H → t D σ H) : PS X e u := ⟨fun pins s σ H D I hw => h.run pins s σ H D I (k D σ H hw)⟩
theorem pssM {X : Cx} {e : List Stmt} {t u : TS} (h : PSs X e t) (k : ∀ D σ H, u D σ H → t D σ H) : PSs X e u := ⟨fun pins s σ H D I hw => h.run pins s σ H D I (k D σ H hw)⟩
theorem pgM {X : Cx} {e : Expr} {t u : TG} (h : PG X e t) (k : ∀ v σ H Q, u v σ H Q → t v σ H Q) : PG X e u := ⟨fun pins s σ H v w Q I r hw => h.run pins s σ H v w Q I r (k v σ H Q hw)⟩
theorem pgsM {X : Cx} {e : List Expr} {t u : TGs} (h : PGs X e t) (k : ∀ v σ H Q, u v σ H Q → t v σ H Q) : PGs X e u := ⟨fun pins s σ H v w Q I r hw => h.run pins s σ H v w Q I r (k v σ H Q hw)⟩

/-! ### storing at a slot -/
def put (i : Nat) (d : D) (env : En) : Option En := if i < env.length then some (env.set i (some d)) else none
theorem put_some {i : Nat} {d : D} {env env' : En} (h : put i d env = some env') : i < env.length ∧ env' = env.set i (some d) := by
  unfold put at h
  split at h
  · rename_i q; cases h; exact ⟨q, rfl⟩
  · cases h
theorem set_keep {σ : St} {i : Nat} {o : Option V} : Keep [i] σ (σ.set i o) := ⟨by simp, fun j n => List.getElem?_set_ne fun e => n (by simp [e])⟩
/-- the state behind a store -/
theorem RSt.put {K : PySem.W.Frag} {σ : St} {G H : Hp} {env env' : En} {L Lr : List Addr} {i : Nat} {d : D} {v : V} (R : RSt K σ G H env L) (r : Rp K G H d v Lr) (n : (L ++ Lr).Nodup) (h : Pz.put i d env = some env') :
    ∃ L', RSt K (σ.set i (some v)) G H env' L' ∧ ∀ a ∈ L', a ∈ L ++ Lr := by
  obtain ⟨hi, rfl⟩ := put_some h
  obtain ⟨La, Li, Lb, e0, _, f⟩ := R.rep.at hi
  have q := (f (Le.refl G) fun a z => ⟨(R.rep.own a (by rw [e0]; rcases List.mem_append.mp z with z | z <;> simp [z])).1, rfl⟩).1 r
  refine ⟨_, ⟨R.le, q, ?_⟩, fun a z => ?_⟩
  · subst e0
    rw [List.nodup_append] at n
    obtain ⟨n1, n2, n3⟩ := n
    rw [List.nodup_append] at n1
    obtain ⟨n4, n5, n6⟩ := n1
    rw [List.nodup_append] at n4
    obtain ⟨n7, n8, n9⟩ := n4
    refine List.nodup_append.mpr ⟨List.nodup_append.mpr ⟨n7, n2, fun a ha b hb e => n3 a (by simp [ha]) b hb e⟩, n5, fun a ha b hb e => ?_⟩
    rcases List.mem_append.mp ha with z | z
    · exact n6 a (List.mem_append_left _ z) b hb e
    · exact n3 b (by simp [hb]) a z e.symm
  · subst e0
    simp only [List.mem_append] at z ⊢
    rcases z with (z | z) | z <;> simp [z]
theorem gv_name {X : Cx} {i : Nat} {x : Str} {pos : Pos} (hN : X.N.Nodup) (hi : X.N[i]? = some x) (hx : Loc X.env.scope x) (hf : X.fn x = true ∨ X.env.scope.names.lookup x = some .local := by first | exact .inl rfl | exact .inr rfl | assumption) :
    Gv X [i] (.Name x pos) (put i) := pgM (pg_name hN hi hx hf) fun v σ H Q ⟨G, env, L, d, Lr, R, r, n, env', hf, k⟩ => by
  obtain ⟨L', R', s⟩ := R.put r n hf
  exact k _ G H L' R' set_keep ⟨Le.refl _, fun _ _ _ => rfl, fun _ h => .inl h, fun a z => .inl (s a z)⟩
def gsNil : List D → En → Option En
  | [], env => some env
  | _, _ => none
def gsCons (F : D → En → Option En) (FR : List D → En → Option En) : List D → En → Option En
  | d :: ds, env => (F d env).bind (FR ds)
  | [], _ => none
theorem gvs_nil {X : Cx} : Gvs X [] [] gsNil := pgsM pgs_nil fun v σ H Q ⟨G, env, L, d, Lr, R, r, n, env', hf, k⟩ => by
  cases d with
  | nil =>
    cases hf
    cases r
    exact ⟨rfl, k σ G H L R (Keep.refl _ _) (Ext.refl fun b z => by simpa using z)⟩
  | cons _ _ => cases hf
theorem gvs_cons {X : Cx} {W1 W2 : List Nat} {e : Expr} {es : List Expr} {F : D → En → Option En} {FR : List D → En → Option En} (h1 : Gv X W1 e F) (h2 : Gvs X W2 es FR)
    (hs : (assignEach (e :: es) X.env).map (·.2) = assign e X.env :: (assignEach es X.env).map (·.2) := by rfl) : Gvs X (W1 ++ W2) (e :: es) (gsCons F FR) :=
  pgsM (pgs_cons h1 h2 hs) fun v σ H Q ⟨G, env, L, d, Lr, R, r, n, env', hf, k⟩ => by
    cases d with
    | nil => cases hf
    | cons d ds =>
    cases r with
    | @cons _ v _ vs L1 L2 r rs =>
    simp only [gsCons] at hf
    cases q : F d env with
    | none => rw [q] at hf; simp at hf
    | some e1 =>
    rw [q] at hf
    simp only [Option.bind_some] at hf
    refine ⟨v, vs, rfl, G, env, L, d, L1, R, r, n.sublist (by simp), e1, q, fun σ1 G1 H1 Lx R1 k1 x1 => ?_⟩
    have apart : ∀ a ∈ L2, a ∉ L ++ L1 := fun a ha hb => by
      have n' : ((L ++ L1) ++ L2).Nodup := by simpa using n
      exact (List.nodup_append.mp n').2.2 a hb a ha rfl
    have rs1 : Rps X.K G1 H1 ds vs L2 := rs.mono x1.le fun a ha => x1.keep (apart a ha) (rs.own a ha).1 (rs.own a ha).2
    have n2 : L2.Nodup := n.sublist (by simp)
    refine ⟨G1, e1, Lx, ds, L2, R1, rs1, List.nodup_append.mpr ⟨R1.nd, n2, fun a ha b hb e => ?_⟩, env', hf, fun σ2 G2 H2 Ly R2 k2 x2 => k σ2 G2 H2 Ly R2 (k1.trans k2 fun j z => by simpa using z) ?_⟩
    · subst e
      rcases x1.own a ha with z | z
      · exact apart a hb z
      · exact (rs.own a hb).2 z
    · have x1' : Ext (L ++ (L1 ++ L2)) G H G1 H1 (Lx ++ L2) := by
        refine ⟨x1.le, fun b nb hb => x1.fr b (fun z => nb (by simp only [List.mem_append] at z ⊢; rcases z with z | z <;> simp [z])) hb, fun b hb => (x1.gd b hb).imp id fun z => z.imp (fun z => by simp only [List.mem_append] at z ⊢; rcases z with z | z <;> simp [z]) id, fun b hb => ?_⟩
        rcases List.mem_append.mp hb with z | z
        · exact (x1.own b z).imp (fun z => by simp only [List.mem_append] at z ⊢; rcases z with z | z <;> simp [z]) id
        · exact .inl (by simp [z])
      exact x1'.trans x2 fun b hb => x1'.own b hb
/-- a, b = a tuple -/
def gTupF (F : List D → En → Option En) : D → En → Option En
  | .tup ds, env => F ds env
  | _, _ => none
theorem gv_tup {X : Cx} {W : List Nat} {es : List Expr} {k : Nat} {pos : Pos} {F : List D → En → Option En} (hc : X.calm = true) (h : Gvs X W es F) (hl : ∀ ds env env', F ds env = some env' → ds.length = es.length)
    (hn : (assignEach es X.env).length = es.length := by rfl) (hst : (assignEach es X.env).findIdx? (·.1) = none := by rfl) : Gv X W (.Tuple es k pos) (gTupF F) :=
  pgM (pg_tup hc h hn hst) fun v σ H Q ⟨G, env, L, d, Lr, R, r, n, env', hf, k⟩ => by
    cases d <;> simp only [gTupF, reduceCtorEq] at hf
    obtain ⟨a, vs, rfl, sa, qa⟩ := r.tup_inv
    exact ⟨a, vs, rfl, R.le.sqT sa, by rw [← qa.length]; exact hl _ _ _ hf, G, env, L, _, Lr, R, qa, n, env', hf, k⟩

/-! ### blocks -/
def seqF (F1 F2 : En → Option (Fl × En)) : En → Option (Fl × En) := fun env => (F1 env).bind fun r => match r.1 with
  | .nx => F2 r.2
  | fl => some (fl, r.2)
def nxF : En → Option (Fl × En) := fun env => some (.nx, env)
def bkF : En → Option (Fl × En) := fun env => some (.bk, env)
def ctF : En → Option (Fl × En) := fun env => some (.ct, env)
def nvF : En → Option (Fl × En) := fun _ => none
section
variable {X : Cx} {st : Stmt} {rest sa sb : List Stmt} {F F1 F2 : En → Option (Fl × En)} {FE : En → Option (D × En)} {FT : En → Option (Bool × En)} {W W1 W2 : List Nat} {e c : Expr} {o s : Bool} {pos : Pos}
theorem bv_nil : Bv X [] [] nxF := pssM pss_nil fun D σ H ⟨G, env, L, R, fl, env', hf, k⟩ => by
  cases hf
  exact k σ G H L R (Keep.refl _ _) (Ext.refl fun _ z => z)
theorem bv_one (h : Sv X W st F) : Bv X W [st] F := pss_one h
theorem bv_cons (h1 : Sv X W1 st F1) (h2 : Bv X W2 rest F2) : Bv X (W1 ++ W2) (st :: rest) (seqF F1 F2) := pssM (pss_cons h1 h2) fun D σ H ⟨G, env, L, R, fl, env', hf, k⟩ => by
  unfold seqF at hf
  cases q : F1 env with
  | none => rw [q] at hf; simp at hf
  | some r =>
  obtain ⟨f1, e1⟩ := r
  rw [q] at hf
  simp only [Option.bind_some] at hf
  refine ⟨G, env, L, R, f1, e1, q, ?_⟩
  have hk : ∀ σ', Keep W1 σ σ' → Keep (W1 ++ W2) σ σ' := fun σ' z => z.sub fun j h => List.mem_append_left _ h
  cases f1 with
  | nx =>
    intro σ1 G1 H1 L1 R1 k1 x1
    refine ⟨G1, e1, L1, R1, fl, env', hf, k.mono (fun σ' z => k1.trans z fun j h => by simpa using h) (fun _ _ _ x => x1.trans x fun a z => x1.own a z) (fun _ _ z => z) (fun _ _ z => z) (fun _ _ z => z) fun _ _ z => z⟩
  | bk => cases hf; exact fun σ' G' H' L' R' k' x' => k σ' G' H' L' R' (hk _ k') x'
  | ct => cases hf; exact fun σ' G' H' L' R' k' x' => k σ' G' H' L' R' (hk _ k') x'
  | rt d => cases hf; exact fun σ' v G' H' L' Lr R' k' r' n' x' => k σ' v G' H' L' Lr R' (hk _ k') r' n' x'
theorem sv_pass : Sv X [] (.Pass pos) nxF := psM ps_pass fun D σ H ⟨G, env, L, R, fl, env', hf, k⟩ => by
  cases hf
  exact k σ G H L R (Keep.refl _ _) (Ext.refl fun _ z => z)
theorem sv_break : Sv X [] (.Break pos) bkF := psM ps_break fun D σ H ⟨G, env, L, R, fl, env', hf, k⟩ => by
  cases hf
  exact k σ G H L R (Keep.refl _ _) (Ext.refl fun _ z => z)
theorem sv_continue : Sv X [] (.Continue pos) ctF := psM ps_continue fun D σ H ⟨G, env, L, R, fl, env', hf, k⟩ => by
  cases hf
  exact k σ G H L R (Keep.refl _ _) (Ext.refl fun _ z => z)
/-- what this proof never comes to -/
theorem sv_never : Sv X [] st nvF := psM ps_never fun D σ H ⟨G, env, L, R, fl, env', hf, k⟩ => by cases hf
theorem bv_never : Bv X [] rest nvF := pssM pss_never fun D σ H ⟨G, env, L, R, fl, env', hf, k⟩ => by cases hf
def exF (F : En → Option (D × En)) : En → Option (Fl × En) := fun env => (F env).map fun a => (.nx, a.2)
theorem sv_expr (h : Ev X o s e FE) (hs : swapsWith e none pos.line X.env = pure false := by rfl) : Sv X [] (.Expr e pos) (exF FE) := psM (ps_expr h hs) fun D σ H ⟨G, env, L, R, fl, env', hf, k⟩ => by
  unfold exF at hf
  cases q : FE env with
  | none => rw [q] at hf; simp at hf
  | some r =>
    rw [q] at hf
    simp only [Option.map_some, Option.some.injEq, Prod.mk.injEq] at hf
    obtain ⟨rfl, rfl⟩ := hf
    exact ⟨G, env, L, R, r.1, r.2, q, fun v G1 H1 L1 Lr R1 r1 n1 st1 x1 => k σ G1 H1 L1 R1 (Keep.refl _ _) (x1.sub fun a z => x1.own a (List.mem_append_left _ z))⟩
def rtF (F : En → Option (D × En)) : En → Option (Fl × En) := fun env => (F env).map fun a => (.rt a.1, a.2)
theorem sv_ret (h : Ev X true s e FE) : Sv X [] (.Return (some e) pos) (rtF FE) := psM (ps_ret h) fun D σ H ⟨G, env, L, R, fl, env', hf, k⟩ => by
  unfold rtF at hf
  cases q : FE env with
  | none => rw [q] at hf; simp at hf
  | some r =>
    rw [q] at hf
    simp only [Option.map_some, Option.some.injEq, Prod.mk.injEq] at hf
    obtain ⟨rfl, rfl⟩ := hf
    exact ⟨G, env, L, R, r.1, r.2, q, fun v G1 H1 L1 Lr R1 r1 n1 st1 x1 => k σ v G1 H1 L1 Lr R1 (Keep.refl _ _) r1 (n1 rfl) x1⟩
def rnF : En → Option (Fl × En) := fun env => some (.rt .non, env)
theorem sv_retN : Sv X [] (.Return none pos) rnF := psM ps_retN fun D σ H ⟨G, env, L, R, fl, env', hf, k⟩ => by
  cases hf
  exact k σ .non G H L [] R (Keep.refl _ _) .non (by simpa using R.nd) (Ext.refl fun _ z => by simpa using z)
/-- return x: the value leaves with the frame -/
def rmF (i : Nat) : En → Option (Fl × En) := fun env => (env[i]?).bind fun o => o.map fun d => (.rt d, env.set i none)
theorem sv_retMove {i : Nat} (h : PE X e (tVar i)) : Sv X [] (.Return (some e) pos) (rmF i) := psM (ps_ret h) fun D σ H ⟨G, env, L, R, fl, env', hf, k⟩ => by
  unfold rmF at hf
  cases q : env[i]? with
  | none => rw [q] at hf; simp at hf
  | some o =>
    cases o with
    | none => rw [q] at hf; simp at hf
    | some d =>
      rw [q] at hf
      simp only [Option.bind_some, Option.map_some, Option.some.injEq, Prod.mk.injEq] at hf
      obtain ⟨rfl, rfl⟩ := hf
      obtain ⟨hi, _⟩ := List.getElem?_eq_some_iff.mp q
      obtain ⟨La, Li, Lb, e0, f, g⟩ := R.rep.at hi
      obtain ⟨v, ev, r⟩ := f d q
      refine ⟨v, ev, ?_⟩
      have g' := (g (Le.refl G) (H' := H) fun a z => ⟨(R.rep.own a (by rw [e0]; rcases List.mem_append.mp z with z | z <;> simp [z])).1, rfl⟩).2 (some v)
      have eσ : σ.set i (some v) = σ := by
        refine List.ext_getElem? fun j => ?_
        by_cases hj : i = j
        · subst hj
          obtain ⟨hl, _⟩ := List.getElem?_eq_some_iff.mp ev
          rw [List.getElem?_set_self hl, ev]
        · rw [List.getElem?_set_ne hj]
      rw [eσ] at g'
      have nd : (La ++ Li ++ Lb).Nodup := e0 ▸ R.nd
      have nd2 : (La ++ Lb ++ Li).Nodup := by
        rw [List.nodup_append] at nd
        obtain ⟨n1, n2, n3⟩ := nd
        rw [List.nodup_append] at n1
        obtain ⟨n4, n5, n6⟩ := n1
        refine List.nodup_append.mpr ⟨List.nodup_append.mpr ⟨n4, n2, fun a ha b hb e => n3 a (by simp [ha]) b hb e⟩, n5, fun a ha b hb e => ?_⟩
        rcases List.mem_append.mp ha with z | z
        · exact n6 a z b hb e
        · exact n3 b (by simp [hb]) a z e.symm
      exact k σ v G H (La ++ Lb) Li ⟨R.le, g', nd2.sublist (List.sublist_append_left _ _)⟩ (Keep.refl _ _) r nd2 (Ext.refl fun a z => by
        rw [e0]; simp only [List.mem_append] at z ⊢; rcases z with (z | z) | z <;> simp [z])
def stF (F : En → Option (D × En)) (T : D → En → Option En) : En → Option (Fl × En) := fun env => (F env).bind fun a => (T a.1 a.2).map fun e => (.nx, e)
theorem asg_lift {tg : Expr} {T : D → En → Option En} {K : PySem.W.Frag} (D : Ends) (σ : St) (H : Hp) (h : tS K W (stF FE T) D σ H) : tAsg (tE K true s FE) (tG K W T) D σ H := by
  obtain ⟨G, env, L, R, fl, env', hf, k⟩ := h
  unfold stF at hf
  cases q : FE env with
  | none => rw [q] at hf; simp at hf
  | some r =>
  obtain ⟨d, e1⟩ := r
  rw [q] at hf
  simp only [Option.bind_some] at hf
  cases q2 : T d e1 with
  | none => rw [q2] at hf; simp at hf
  | some e2 =>
  rw [q2] at hf
  simp only [Option.map_some, Option.some.injEq, Prod.mk.injEq] at hf
  obtain ⟨rfl, rfl⟩ := hf
  exact ⟨G, env, L, R, d, e1, q, fun v G1 H1 L1 Lr R1 r1 n1 st1 x1 => ⟨G1, e1, L1, d, Lr, R1, r1, n1 rfl, e2, q2, fun σ2 G2 H2 L2 R2 k2 x2 => k σ2 G2 H2 L2 R2 k2 (x1.trans x2 fun a z => x1.own a z)⟩⟩
theorem sv_asg {tg : Expr} {T : D → En → Option En} (he : Ev X true s e FE) (hg : Gv X W tg T) (hs : swapsWithSole [tg] e pos.line X.env = pure false := by rfl) (hw : swappedStores [tg] e X.env = pure none := by rfl)
    (h1 : (assignEach [tg] X.env).map (·.2) = [assign tg X.env] := by rfl) : Sv X W (.Assign [tg] e pos) (stF FE T) := psM (ps_asg he hg hs hw h1) (asg_lift (tg := tg))
theorem sv_set {i : Nat} {x : Str} {pos' : Pos} (hN : X.N.Nodup) (hi : X.N[i]? = some x) (hx : Loc X.env.scope x) (he : Ev X true s e FE) (hs : swapsWith e (some (.Name x pos')) pos.line X.env = pure false := by rfl)
    (hf : X.fn x = true ∨ X.env.scope.names.lookup x = some .local := by first | exact .inl rfl | exact .inr rfl | assumption) : Sv X [i] (.Assign [.Name x pos'] e pos) (stF FE (put i)) :=
  psM (ps_set hN hi hx he hs hf) fun D σ H h => by
    obtain ⟨G, env, L, R, fl, env', hff, k⟩ := h
    unfold stF at hff
    cases q : FE env with
    | none => rw [q] at hff; simp at hff
    | some r =>
    obtain ⟨d, e1⟩ := r
    rw [q] at hff
    simp only [Option.bind_some] at hff
    cases q2 : put i d e1 with
    | none => rw [q2] at hff; simp at hff
    | some e2 =>
    rw [q2] at hff
    simp only [Option.map_some, Option.some.injEq, Prod.mk.injEq] at hff
    obtain ⟨rfl, rfl⟩ := hff
    refine ⟨G, env, L, R, d, e1, q, fun v G1 H1 L1 Lr R1 r1 n1 st1 x1 => ?_⟩
    obtain ⟨L', R', ss⟩ := R1.put r1 (n1 rfl) q2
    exact k _ G1 H1 L' R' set_keep (x1.sub fun a z => x1.own a (ss a z))
/-- a, b = x, y -/
def parF (F : En → Option (List D × En)) (i j : Nat) : En → Option (Fl × En) := fun env => (F env).bind fun a => match a.1 with
  | [d, e] => (put i d a.2).bind fun e1 => (put j e e1).map fun e2 => (.nx, e2)
  | _ => none
theorem sv_par {i j : Nat} {x y : Str} {a b : Expr} {FA : En → Option (List D × En)} {px py pt : Pos} {kt k2 pt2} (hc : X.calm = true) (hN : X.N.Nodup) (hi : X.N[i]? = some x) (hj : X.N[j]? = some y) (hij : i ≠ j)
    (hx : X.env.scope.names.lookup x = some .local) (hy : X.env.scope.names.lookup y = some .local) (ha : Av X true s [a, b] FA)
    (hw : swappedStores [.Tuple [.Name x px, .Name y py] kt pt] (.Tuple [a, b] k2 pt2) X.env = pure (some [x, y]))
    (hs : swapsWithSole [.Tuple [.Name x px, .Name y py] kt pt] (.Tuple [a, b] k2 pt2) pos.line X.env = pure false := by rfl) :
    Sv X [i, j] (.Assign [.Tuple [.Name x px, .Name y py] kt pt] (.Tuple [a, b] k2 pt2) pos) (parF FA i j) := psM (ps_par hc hN hi hj hij hx hy ha hw hs) fun D σ H h => by
  obtain ⟨G, env, L, R, fl, env', hff, k⟩ := h
  unfold parF at hff
  cases q : FA env with
  | none => rw [q] at hff; simp at hff
  | some r =>
  obtain ⟨ds, e1⟩ := r
  rw [q] at hff
  simp only [Option.bind_some] at hff
  cases ds with
  | nil => simp at hff
  | cons d1 t =>
  cases t with
  | nil => simp at hff
  | cons d2 t =>
  cases t with
  | cons _ _ => simp at hff
  | nil =>
    simp only at hff
    cases q2 : put i d1 e1 with
    | none => rw [q2] at hff; simp at hff
    | some e2 =>
    rw [q2] at hff
    simp only [Option.bind_some] at hff
    cases q3 : put j d2 e2 with
    | none => rw [q3] at hff; simp at hff
    | some e3 =>
    rw [q3] at hff
    simp only [Option.map_some, Option.some.injEq, Prod.mk.injEq] at hff
    obtain ⟨rfl, rfl⟩ := hff
    refine ⟨G, env, L, R, _, e1, q, fun vs G1 H1 L1 Lr R1 r1 n1 st1 x1 => ?_⟩
    obtain ⟨v, w, La, Lb, rfl, ra, rb, rfl⟩ := r1.two
    have nn := n1 rfl
    obtain ⟨L', R', s1⟩ := R1.put ra (nn.sublist (by simp)) q2
    obtain ⟨L'', R'', s2⟩ := R'.put rb (List.nodup_append.mpr ⟨R'.nd, nn.sublist (by simp), fun a ha b hb e => by
      subst e
      have nn' : ((L1 ++ La) ++ Lb).Nodup := by simpa using nn
      exact (List.nodup_append.mp nn').2.2 a (s1 a ha) a hb rfl⟩) q3
    refine ⟨v, w, rfl, k _ G1 H1 L'' R'' (set_keep.trans set_keep fun z hz => ?_) (x1.sub fun a z => x1.own a ?_)⟩
    · rcases hz with hz | hz <;> simp only [List.mem_singleton] at hz <;> simp [hz]
    · rcases List.mem_append.mp (s2 a z) with w | w
      · have := s1 a w
        simp only [List.mem_append] at this ⊢
        rcases this with w | w <;> simp [w]
      · simp [w]
/-- x op= e, nothing owned -/
def agF (i : Nat) (f : D → D → Option D) (F : En → Option (D × En)) : En → Option (Fl × En) := fun env => (nmF i env).bind fun x => if x.1.pure = true then (F env).bind fun a => (f x.1 a.1).bind fun c => (put i c a.2).map fun e => (.nx, e) else none
theorem sv_aug {i : Nat} {x : Str} {op : Operator} {ti : TIp} {f : D → D → Option D} {pos' : Pos} (hN : X.N.Nodup) (hi : X.N[i]? = some x) (hx : Loc X.env.scope x) (he : Ev X true s e FE) (ho : PIp X op ti) (hop : Op2 X.K ti f)
    (hf : X.fn x = true ∨ X.env.scope.names.lookup x = some .local := by first | exact .inl rfl | exact .inr rfl | assumption) : Sv X [i] (.AugAssign (.Name x pos') op e pos) (agF i f FE) :=
  psM (ps_aug hN hi hx he ho hf) fun D σ H h => by
    obtain ⟨G, env, L, R, fl, env', hff, k⟩ := h
    unfold agF at hff
    cases q : nmF i env with
    | none => rw [q] at hff; simp at hff
    | some r =>
    rw [q] at hff
    simp only [Option.bind_some] at hff
    split at hff
    · rename_i hp
      unfold nmF at q
      cases q0 : env[i]? with
      | none => rw [q0] at q; simp at q
      | some o =>
      cases o with
      | none => rw [q0] at q; simp at q
      | some d0 =>
      rw [q0] at q
      simp only [Option.bind_some, Option.map_some, Option.some.injEq] at q
      subst q
      cases q1 : FE env with
      | none => rw [q1] at hff; simp at hff
      | some r1 =>
      obtain ⟨d1, e1⟩ := r1
      rw [q1] at hff
      simp only [Option.bind_some] at hff
      cases q2 : f d0 d1 with
      | none => rw [q2] at hff; simp at hff
      | some c =>
      rw [q2] at hff
      simp only [Option.bind_some] at hff
      cases q3 : put i c e1 with
      | none => rw [q3] at hff; simp at hff
      | some e2 =>
      rw [q3] at hff
      simp only [Option.map_some, Option.some.injEq, Prod.mk.injEq] at hff
      obtain ⟨rfl, rfl⟩ := hff
      obtain ⟨hil, _⟩ := List.getElem?_eq_some_iff.mp q0
      obtain ⟨La, Li, Lb, e0, f0, _⟩ := R.rep.at hil
      obtain ⟨v, ev, r⟩ := f0 d0 q0
      obtain rfl := r.pure_nil hp
      refine ⟨v, ev, G, env, L, R, d1, e1, q1, fun y G1 H1 L1 Lr R1 r1 n1 st1 x1 => ?_⟩
      refine hop R1.le ((r.mono x1.le fun _ z => nomatch z) : Rp X.K G1 H1 d0 v []) r1 q2 fun z G2 H2 Lz fr rz => ?_
      obtain ⟨L', R', ss⟩ := (R1.fresh fr).put rz (fr.nodup R1.nd fun a z => (R1.rep.own a z).2) q3
      exact k _ G2 H2 L' R' set_keep ((ext_fresh x1 fr).sub fun a z => (ext_fresh x1 fr).own a (ss a z))
    · cases hff
def ifS (FC : En → Option (Bool × En)) (FA FB : En → Option (Fl × En)) : En → Option (Fl × En) := fun env => (FC env).bind fun c => if c.1 = true then FA c.2 else FB c.2
theorem sv_if (hc : Tv X s c FT) (ha : Bv X W1 sa F1) (hb : Bv X W2 sb F2) : Sv X (W1 ++ W2) (.If c sa sb pos) (ifS FT F1 F2) := psM (ps_if hc ha hb) fun D σ H ⟨G, env, L, R, fl, env', hf, k⟩ => by
  unfold ifS at hf
  cases q : FT env with
  | none => rw [q] at hf; simp at hf
  | some r =>
  obtain ⟨b, e1⟩ := r
  rw [q] at hf
  simp only [Option.bind_some] at hf
  refine ⟨G, env, L, R, b, e1, q, fun G1 H1 L1 R1 st1 x1 => ?_⟩
  cases b with
  | true =>
    rw [if_pos rfl] at hf
    show (if true = true then _ else _)
    rw [if_pos rfl]
    exact ⟨G1, e1, L1, R1, fl, env', hf, k.mono (fun σ' z => z.sub fun j h => List.mem_append_left _ h) (fun _ _ _ x => x1.trans x fun a z => x1.own a z) (fun _ _ z => z) (fun _ _ z => z) (fun _ _ z => z) fun _ _ z => z⟩
  | false =>
    rw [if_neg (by decide)] at hf
    show (if false = true then _ else _)
    rw [if_neg (by decide)]
    exact ⟨G1, e1, L1, R1, fl, env', hf, k.mono (fun σ' z => z.sub fun j h => List.mem_append_right _ h) (fun _ _ _ x => x1.trans x fun a z => x1.own a z) (fun _ _ z => z) (fun _ _ z => z) (fun _ _ z => z) fun _ _ z => z⟩
end

/-! ### while -/
def wN (c : En → Option (Bool × En)) (b : En → Option (Fl × En)) : Nat → En → Option (Fl × En)
  | 0, _ => none
  | n + 1, env => (c env).bind fun t => if t.1 = true then (b t.2).bind fun r => match r.1 with
      | .nx => wN c b n r.2
      | .ct => wN c b n r.2
      | .bk => some (.nx, r.2)
      | .rt d => some (.rt d, r.2)
    else some (.nx, t.2)
theorem wN_succ {c : En → Option (Bool × En)} {b : En → Option (Fl × En)} : ∀ {n : Nat} {env : En} {r : Fl × En}, wN c b n env = some r → wN c b (n + 1) env = some r
  | 0, _, _, h => by cases h
  | n + 1, env, r, h => by
    unfold wN at h ⊢
    cases q : c env with
    | none => rw [q] at h; simp at h
    | some t =>
      rw [q] at h
      simp only [Option.bind_some] at h ⊢
      split
      · rename_i ht
        rw [if_pos ht] at h
        cases q2 : b t.2 with
        | none => rw [q2] at h; simp at h
        | some u =>
          rw [q2] at h
          simp only [Option.bind_some] at h ⊢
          obtain ⟨f, e⟩ := u
          cases f with
          | nx => exact wN_succ h
          | ct => exact wN_succ h
          | bk => exact h
          | rt d => exact h
      · rename_i ht
        rw [if_neg ht] at h
        exact h
theorem wN_le {c : En → Option (Bool × En)} {b : En → Option (Fl × En)} {n : Nat} {env : En} {r : Fl × En} (h : wN c b n env = some r) : ∀ k, wN c b (n + k) env = some r
  | 0 => h
  | k + 1 => wN_succ (wN_le h k)
open Classical in
def whF (c : En → Option (Bool × En)) (b : En → Option (Fl × En)) : En → Option (Fl × En) := fun env => if h : ∃ n r, wN c b n env = some r then some (Classical.choose (Classical.choose_spec h)) else none
theorem whF_of {c : En → Option (Bool × En)} {b : En → Option (Fl × En)} {n : Nat} {env : En} {r : Fl × En} (h : wN c b n env = some r) : whF c b env = some r := by
  have ex : ∃ n r, wN c b n env = some r := ⟨n, r, h⟩
  unfold whF
  rw [dif_pos ex]
  have q := Classical.choose_spec (Classical.choose_spec ex)
  have a := wN_le h (Classical.choose ex)
  have b' := wN_le q n
  rw [Nat.add_comm] at b'
  rw [a] at b'
  exact congrArg some (Option.some.inj b').symm
theorem whF_some {c : En → Option (Bool × En)} {b : En → Option (Fl × En)} {env : En} {r : Fl × En} (h : whF c b env = some r) : ∃ n, wN c b n env = some r := by
  unfold whF at h
  split at h
  · rename_i ex
    have q := Classical.choose_spec (Classical.choose_spec ex)
    exact ⟨_, by rw [q]; exact h⟩
  · cases h
theorem sv_while {X : Cx} {c : Expr} {body : List Stmt} {FT : En → Option (Bool × En)} {F : En → Option (Fl × En)} {W : List Nat} {s : Bool} {pos : Pos} (hp : PassesOwn (model X.prog X.w) X.A X.env X.xe) (hc : Tv X s c FT) (hb : Bv X W body F) :
    Sv X W (.While c body [] pos) (whF FT F) := psM (ps_while hp hc hb) fun D σ H ⟨G, env, L, R, fl, env', hf, k⟩ => by
  obtain ⟨n, hn⟩ := whF_some hf
  refine ⟨fun m σ1 H1 => ∃ G1 env1 L1, RSt X.K σ1 G1 H1 env1 L1 ∧ Keep W σ σ1 ∧ Ext L G H G1 H1 L1 ∧ wN FT F m env1 = some (fl, env'), ⟨n, G, env, L, R, Keep.refl _ _, Ext.refl fun _ z => z, hn⟩, ?_⟩
  rintro m σ1 H1 ⟨G1, env1, L1, R1, k1, x1, h1⟩
  cases m with
  | zero => cases h1
  | succ m =>
  unfold wN at h1
  cases q : FT env1 with
  | none => rw [q] at h1; simp at h1
  | some t =>
  obtain ⟨b, e2⟩ := t
  rw [q] at h1
  simp only [Option.bind_some] at h1
  refine ⟨G1, env1, L1, R1, b, e2, q, fun G2 H2 L2 R2 st2 x2 => ?_⟩
  have x12 := x1.trans x2 fun a z => x1.own a z
  cases b with
  | false =>
    rw [if_neg (by decide)] at h1
    show (if false = true then _ else _)
    rw [if_neg (by decide)]
    cases h1
    exact k σ1 G2 H2 L2 R2 k1 x12
  | true =>
    rw [if_pos rfl] at h1
    show (if true = true then _ else _)
    rw [if_pos rfl]
    cases q3 : F e2 with
    | none => rw [q3] at h1; simp at h1
    | some u =>
    obtain ⟨f, e3⟩ := u
    rw [q3] at h1
    simp only [Option.bind_some] at h1
    refine ⟨fun σ3 H3 => ∃ G3 env3 L3, RSt X.K σ3 G3 H3 env3 L3 ∧ Keep W σ σ3 ∧ Ext L G H G3 H3 L3 ∧ wN FT F m env3 = some (fl, env'), fun σ3 H3 h3 => ⟨m, Nat.lt_succ_self m, h3⟩, G2, e2, L2, R2, f, e3, q3, ?_⟩
    have kk : ∀ σ', Keep W σ1 σ' → Keep W σ σ' := fun σ' z => k1.trans z fun j h => h.elim id id
    cases f with
    | nx => exact fun σ' G' H' L' R' k' x' => ⟨G', e3, L', R', kk _ k', x12.trans x' fun a z => x12.own a z, h1⟩
    | ct => exact fun σ' G' H' L' R' k' x' => ⟨G', e3, L', R', kk _ k', x12.trans x' fun a z => x12.own a z, h1⟩
    | bk => cases h1; exact fun σ' G' H' L' R' k' x' => k σ' G' H' L' R' (kk _ k') (x12.trans x' fun a z => x12.own a z)
    | rt d => cases h1; exact fun σ' v G' H' L' Lr R' k' r' n' x' => k σ' v G' H' L' Lr R' (kk _ k') r' n' (x12.trans x' fun a z => x12.own a z)
end
end Pz

set_option Elab.async false
set_option linter.all false
set_option maxRecDepth 100000
set_option maxHeartbeats 1000000
namespace Pz
open PySem L2
noncomputable section

section
variable (K : PySem.W.Frag)
def YD (G0 : Hp) (items : List D) : Nat → Hp → V → Hp → Prop := fun i H1 x H2 => ∀ G1, Le G0 G1 → Le G1 H1 → ∃ G2 d, items[i]? = some d ∧ Fresh G1 H1 G2 H2 [] ∧ Rp K G2 H2 d x []
def tI (F : En → Option (List D × En)) : TI := fun σ H R => ∃ G env L, RSt K σ G H env L ∧ ∃ items env', F env = some (items, env') ∧
  ∀ J G' H' L', RSt K σ G' H' env' L' → Ext L G H G' H' L' → Walk J items.length (fun H'' => Le G' H'') (YD K G' items) → R J H'
end
abbrev Iv (X : Cx) (tg e : Expr) (F : En → Option (List D × En)) : Prop := PI X tg e (tI X.K F)
theorem piM {X : Cx} {tg e : Expr} {t u : TI} (h : PI X tg e t) (k : ∀ σ H R, u σ H R → t σ H R) : PI X tg e u := ⟨fun pins s σ H R I hw => h.run pins s σ H R I (k σ H R hw)⟩
section
variable {K : PySem.W.Frag} {G G' H H' H1 H2 : Hp} {items : List D} {vs ws : List V}
theorem yd_at (r : Rps K G' H items vs []) {i : Nat} {x : V} (h : YAt vs i H1 x H2) : YD K G' items i H1 x H2 := fun G1 l1 l2 => by
  obtain ⟨rfl, e⟩ := h
  obtain ⟨d, L1, e1, r1, s1⟩ := r.getV e
  obtain rfl := List.sublist_nil.mp s1
  exact ⟨G1, d, e1, Fresh.refl l2, r1.mono l1 fun _ z => nomatch z⟩
theorem yd_pair {as bs : List D} (ra : Rps K G' H as vs []) (rb : Rps K G' H bs ws []) {i : Nat} {x : V} (h : YPair (fun i => vs[i]?) (fun i => ws[i]?) i H1 x H2) : YD K G' (List.zipWith (fun a b => .tup [a, b]) as bs) i H1 x H2 := fun G1 l1 l2 => by
  obtain ⟨T, x, y, rfl, nT, rfl, e1, e2⟩ := h
  obtain ⟨d, L1, q1, r1, s1⟩ := ra.getV e1
  obtain rfl := List.sublist_nil.mp s1
  obtain ⟨d', L2, q2, r2, s2⟩ := rb.getV e2
  obtain rfl := List.sublist_nil.mp s2
  have f := Fresh.laid l2 nT (.tup [x, y])
  refine ⟨_, .tup [d, d'], by rw [List.getElem?_zipWith, q1, q2], f, .tup (.inl (.inl upd_same)) ?_⟩
  exact .cons (L1 := []) (L2 := []) ((r1.mono l1 fun _ z => nomatch z : Rp K G1 H1 d x []).fresh f) (.cons (L1 := []) (L2 := []) ((r2.mono l1 fun _ z => nomatch z : Rp K G1 H1 d' y []).fresh f) .nil)
end

/-! ### lists, tuples, ranges -/
def iSeq (K : PySem.W.Frag) (tl : TE) : TI := fun σ H R => tl σ H fun x H1 => ∃ a, x = .ref a ∧ ((∃ xs, SqL K H1 a xs) ∧ R (Itl K a) H1 ∨ (∃ xs, SqT K H1 a xs) ∧ R (Itt K a) H1)
section
open PySem.Spec PyProof.Rows
theorem pi_seq {X : Cx} {tg l : Expr} {tl : TE} (hl : PE X l tl) : PI X tg l (iSeq X.K tl) := by
  refine ⟨fun pins s σ H R I h => ?_⟩
  refine thn (hl.run pins s σ H _ I h) fun v s1 ⟨x, H1, I1, r1, q1⟩ => ?_
  obtain ⟨a, e, q⟩ := q1
  subst e
  cases r1
  rcases q with ⟨⟨xs, hq⟩, q⟩ | ⟨⟨xs, hq⟩, q⟩
  · obtain ⟨its, rv, p, hz⟩ := I1.list hq
    refine wpAny_pyIter_list p.isList ?_
    refine ⟨s1.heap.objs.size, [s1.heap.objs.size], _, _, H1, rfl, I1.kept (t' := s1.toks) fun b o e => Heap.get?_push_of_some _ e, turn_list a _, ⟨_, Heap.get?_push_size _ rfl, rfl, rfl⟩, fun b hb => ?_, q⟩
    have e : b = s1.heap.objs.size := by simpa using hb
    subst e
    exact I1.fpOk (Nat.le_refl _) (I1.hok.fresh (Nat.le_refl _))
  · obtain ⟨its, rv, p, hz⟩ := I1.tuple hq
    refine wpAny_pyIter_tuple (show s1.heap.IsTuple a its.toArray from p) ?_
    refine ⟨s1.heap.objs.size, [s1.heap.objs.size], _, _, H1, rfl, I1.kept (t' := s1.toks) fun b o e => Heap.get?_push_of_some _ e, turn_tuple a _, ⟨_, Heap.get?_push_size _ rfl, rfl, rfl⟩, fun b hb => ?_, q⟩
    have e : b = s1.heap.objs.size := by simpa using hb
    subst e
    exact I1.fpOk (Nat.le_refl _) (I1.hok.fresh (Nat.le_refl _))
end
def itOf : D → Option (List D)
  | .tup xs => some (D.fzs xs)
  | .lst _ xs => some (D.fzs xs)
  | .scr ns => some (ns.map .int)
  | _ => none
def itF (FE : En → Option (D × En)) : En → Option (List D × En) := fun env => (FE env).bind fun a => (itOf a.1).map fun xs => (xs, a.2)
section
variable {X : Cx} {tg e e2 : Expr} {es : List Expr} {FE : En → Option (D × En)} {FA : En → Option (List D × En)} {s : Bool}
/-- the state when what is owned beside is given away for ever -/
theorem RSt.give {K : PySem.W.Frag} {σ : St} {G H : Hp} {env : En} {L Lr : List Addr} (R : RSt K σ G H env L) (n : (L ++ Lr).Nodup) : RSt K σ (frG G H Lr) H env L :=
  ⟨frG_le' R.le, R.rep.mono (frG_le R.le) fun a z => ⟨by rw [frG_out fun y => (List.nodup_append.mp n).2.2 a z a y rfl]; exact (R.rep.own a z).1, rfl⟩, R.nd⟩
theorem Ext.give {L L1 Lr : List Addr} {G H G1 H1 : Hp} (x : Ext L G H G1 H1 (L1 ++ Lr)) (l : Le G1 H1) : Ext L G H (frG G1 H1 Lr) H1 L1 :=
  ⟨x.le.trans (frG_le l), x.fr, fun b h => by
    by_cases z : b ∈ Lr
    · exact .inr (x.own b (List.mem_append_right _ z))
    · rw [frG_out z] at h; exact x.gd b h, fun b h => x.own b (List.mem_append_left _ h)⟩
theorem iv_seq (he : Ev X true s e FE) : Iv X tg e (itF FE) := piM (pi_seq he) fun σ H Rr ⟨G, env, L, R, items, env', hf, k⟩ => by
  unfold itF at hf
  cases q : FE env with
  | none => rw [q] at hf; simp at hf
  | some r =>
  obtain ⟨d, e1⟩ := r
  rw [q] at hf
  simp only [Option.bind_some] at hf
  cases q2 : itOf d with
  | none => rw [q2] at hf; simp at hf
  | some xs =>
  rw [q2] at hf
  simp only [Option.map_some, Option.some.injEq, Prod.mk.injEq] at hf
  obtain ⟨rfl, rfl⟩ := hf
  refine ⟨G, env, L, R, d, _, q, fun x G1 H1 L1 Lr R1 r1 n1 st1 x1 => ?_⟩
  have R2 := R1.give (n1 rfl)
  have x2 := x1.give R1.le
  have rz := r1.fz (G' := frG G1 H1 Lr) (H' := H1) (frG_le R1.le) fun a z => frG_in z
  cases d <;> simp only [itOf, reduceCtorEq, Option.some.injEq] at q2 <;> subst q2
  · rename_i ns
    obtain ⟨p, rfl, rfl, sa⟩ := r1.scr_inv
    have sa' := (frG_le (L := []) R1.le).sqL sa
    refine ⟨p, rfl, .inl ⟨⟨_, R2.le.sqL sa'⟩, k _ _ _ _ R2 x2 ?_⟩⟩
    have w := walk_list (K := X.K) (a := p) (xs := List.map V.int ns)
    rw [List.length_map] at w
    rw [List.length_map]
    exact w.mono (fun H' l => l.sqL sa') fun i H' x H'' hi l y => yd_at (Rps.ints (H := H1) _) y
  · obtain ⟨p, vs, rfl, sa, qa⟩ := rz.tup_inv
    refine ⟨p, rfl, .inr ⟨⟨_, R2.le.sqT sa⟩, k _ _ _ _ R2 x2 ?_⟩⟩
    have w := walk_tup (K := X.K) (a := p) (xs := vs)
    rw [← qa.length] at w
    exact w.mono (fun H' l => l.sqT sa) fun i H' x H'' hi l y => yd_at qa y
  · rename_i o xs
    obtain ⟨p, vs, rfl, sa, qa⟩ : ∃ p vs, x = .ref p ∧ (frG G1 H1 Lr) p = some (.lst vs) ∧ Rps X.K (frG G1 H1 Lr) H1 (D.fzs xs) vs [] := by
      have rz' : Rp X.K (frG G1 H1 Lr) H1 (.lst false (D.fzs xs)) x [] := rz
      cases rz' with
      | lstF h hs => exact ⟨_, _, rfl, h, hs⟩
    refine ⟨p, rfl, .inl ⟨⟨_, SqL.of (R2.le _ _ sa)⟩, k _ _ _ _ R2 x2 ?_⟩⟩
    have w := walk_list (K := X.K) (a := p) (xs := vs)
    rw [← qa.length] at w
    exact w.mono (fun H' l => SqL.of (l _ _ sa)) fun i H' x H'' hi l y => yd_at qa y
/-- from a list of arguments -/
def inF (f : List D → Option (List D)) (FA : En → Option (List D × En)) : En → Option (List D × En) := fun env => (FA env).bind fun a => (f a.1).map fun xs => (xs, a.2)
theorem inF_some {f : List D → Option (List D)} {env env' : En} {items : List D} (h : inF f FA env = some (items, env')) : ∃ a, FA env = some (a, env') ∧ f a = some items := by
  unfold inF at h
  cases q : FA env with
  | none => rw [q] at h; simp at h
  | some a =>
    rw [q] at h; simp only [Option.bind_some] at h
    cases q3 : f a.1 with
    | none => rw [q3] at h; simp at h
    | some c => rw [q3] at h; simp at h; obtain ⟨rfl, rfl⟩ := h; exact ⟨a.1, rfl, q3⟩
def rgOk (i : Int) : Bool := tst (-4611686018427387904 ≤ i ∧ i < 4611686018427387904)
theorem rgOk_of {i : Int} (h : rgOk i = true) : -(2 ^ 62) ≤ i ∧ i < 2 ^ 62 := by
  have h := of_tst h
  omega
def rng1 : List D → Option (List D)
  | [.int j] => if rgOk j = true then some ((List.range j.toNat).map fun i : Nat => .int (i : Int)) else none
  | _ => none
def rng2 : List D → Option (List D)
  | [.int i, .int j] => if rgOk i = true ∧ rgOk j = true then some ((List.range (j - i).toNat).map fun k : Nat => .int (i + (k : Int))) else none
  | _ => none
theorem yd_fn {K : PySem.W.Frag} {G' H1 H2 : Hp} {n : Nat} {lo : Int} {i : Nat} {x : V} (hi : i < n) (h : YFn (fun i : Nat => V.int (lo + (i : Int))) i H1 x H2) : YD K G' ((List.range n).map fun k : Nat => .int (lo + (k : Int))) i H1 x H2 := fun G1 l1 l2 => by
  obtain ⟨rfl, rfl⟩ := h
  exact ⟨G1, .int (lo + i), by simp [hi], Fresh.refl l2, .int _⟩
theorem iv_range1 {p pos : Pos} (hg : Gl X "range") (hm : X.mg "range" = none) (ha : Av X true s [e] FA) (hs : starEach [e] X.env = [(false, eval e X.env)] := by rfl) : Iv X tg (.Call (.Name "range" p) [e] [] pos) (inF rng1 FA) :=
  piM (pi_range1 hg hm ha hs) fun σ H Rr ⟨G, env, L, R, items, env', hf, k⟩ => by
    obtain ⟨da, h1, h3⟩ := inF_some hf
    refine ⟨G, env, L, R, da, env', h1, fun x G1 H1 L1 La R1 ra n1 st1 x1 => ?_⟩
    unfold rng1 at h3
    split at h3
    · split at h3
      · rename_i j hj
        cases h3
        obtain ⟨v, rfl, r⟩ := ra.one
        obtain ⟨rfl, rfl⟩ := r.int_inv
        obtain ⟨b1, b2⟩ := rgOk_of hj
        refine ⟨j, rfl, b1, b2, k _ G1 H1 L1 R1 (by simpa using x1) ?_⟩
        have w := walk_range (lo := 0) (n := j.toNat)
        have e0 : ((List.range j.toNat).map fun i : Nat => D.int (i : Int)) = ((List.range j.toNat).map fun i : Nat => D.int (0 + (i : Int))) := by simp
        rw [e0]
        rw [List.length_map, List.length_range]
        exact w.mono (fun _ _ => trivial) fun i H' x H'' hi l y => yd_fn hi y
      · cases h3
    · cases h3
theorem iv_range2 {p pos : Pos} (hg : Gl X "range") (hm : X.mg "range" = none) (ha : Av X true s [e, e2] FA) (hs : starEach [e, e2] X.env = [(false, eval e X.env), (false, eval e2 X.env)] := by rfl) (hs2 : starEach [e2] X.env = [(false, eval e2 X.env)] := by rfl) :
    Iv X tg (.Call (.Name "range" p) [e, e2] [] pos) (inF rng2 FA) :=
  piM (pi_range2 hg hm ha hs hs2) fun σ H Rr ⟨G, env, L, R, items, env', hf, k⟩ => by
    obtain ⟨da, h1, h3⟩ := inF_some hf
    refine ⟨G, env, L, R, da, env', h1, fun x G1 H1 L1 La R1 ra n1 st1 x1 => ?_⟩
    unfold rng2 at h3
    split at h3
    · split at h3
      · rename_i i j hj
        cases h3
        obtain ⟨v, w, La, Lb, rfl, r, r', rfl⟩ := ra.two
        obtain ⟨rfl, rfl⟩ := r.int_inv
        obtain ⟨rfl, rfl⟩ := r'.int_inv
        obtain ⟨b1, b2⟩ := rgOk_of hj.1
        obtain ⟨b3, b4⟩ := rgOk_of hj.2
        refine ⟨i, j, rfl, ⟨b1, b2, b3, b4⟩, k _ G1 H1 L1 R1 (by simpa using x1) ?_⟩
        have w := walk_range (lo := i) (n := (j - i).toNat)
        rw [List.length_map, List.length_range]
        exact w.mono (fun _ _ => trivial) fun i H' x H'' hi l y => yd_fn hi y
      · cases h3
    · cases h3
/-- zip of two lists, or of two tuples -/
def fzip : List D → Option (List D)
  | [.tup a, .tup b] => if D.pures a = true ∧ D.pures b = true then some (List.zipWith (fun a b => .tup [a, b]) a b) else none
  | [.lst _ a, .lst _ b] => if D.pures a = true ∧ D.pures b = true then some (List.zipWith (fun a b => .tup [a, b]) (D.fzs a) (D.fzs b)) else none
  | _ => none
theorem walk_zipT {K : PySem.W.Frag} {a b : Addr} {xs ys : List V} {n : Nat} (hn : n = min xs.length ys.length) : Walk (RZ.ItzT K a b) n (fun H => SqT K H a xs ∧ SqT K H b ys) (YPair (fun i => xs[i]?) (fun i => ys[i]?)) := by
  subst hn
  refine ⟨fun i _ hi q => ?_, fun _ q => ⟨xs, ys, q.1, q.2, by omega⟩, fun i H v H' _ q y => ?_⟩
  · have h1 : i < xs.length := by omega
    have h2 : i < ys.length := by omega
    exact ⟨xs, ys, xs[i], ys[i], q.1, q.2, by simp [h1], by simp [h2]⟩
  · obtain ⟨T, x, z, h1, h2, h3, h4, h5⟩ := y
    exact ⟨T, x, z, h1, h2, h3, h4 xs q.1, h5 ys q.2⟩
theorem iv_zip {p pos tpos : Pos} {elts : List Expr} {kk : Nat} (hg : Gl X "zip") (hm : X.mg "zip" = none) (ha : Av X true s [e, e2] FA)
    (hs : starEach [e, e2] X.env = (false, eval e X.env) :: starEach [e2] X.env := by rfl) (hpl : (backTo pos (starEach [e2] X.env)).any (·.1) = false := by rfl) :
    Iv X (.Tuple elts kk tpos) (.Call (.Name "zip" p) [e, e2] [] pos) (inF fzip FA) := piM (RZ.pi_zipA hg hm ha hs hpl) fun σ H Rr ⟨G, env, L, R, items, env', hf, k⟩ => by
  obtain ⟨da, h1, h3⟩ := inF_some hf
  refine ⟨G, env, L, R, da, env', h1, fun x G1 H1 L1 La R1 ra n1 st1 x1 => ?_⟩
  unfold fzip at h3
  split at h3
  · split at h3
    · rename_i a b hj
      cases h3
      obtain ⟨v, w, La, Lb, rfl, r, r', rfl⟩ := ra.two
      obtain ⟨p, vs, rfl, sa, qa⟩ := r.tup_inv
      obtain ⟨q, ws, rfl, sb, qb⟩ := r'.tup_inv
      obtain rfl := qa.pure_nil hj.1
      obtain rfl := qb.pure_nil hj.2
      refine ⟨p, q, vs, ws, rfl, .inr ⟨R1.le.sqT sa, R1.le.sqT sb, k _ G1 H1 L1 R1 (by simpa using x1) ?_⟩⟩
      have w := walk_zipT (K := X.K) (a := p) (b := q) (xs := vs) (ys := ws) rfl
      rw [List.length_zipWith, qa.length, qb.length]
      exact w.mono (fun H' l => ⟨l.sqT sa, l.sqT sb⟩) fun i H' x H'' hi l y => yd_pair qa qb y
    · cases h3
  · split at h3
    · rename_i o1 a o2 b hj
      cases h3
      have R2 := R1.give (n1 rfl)
      have x2 := x1.give R1.le
      have rz := ra.fz (G' := frG G1 H1 La) (H' := H1) (frG_le R1.le) fun a z => frG_in z
      obtain ⟨v, w, L3, L4, rfl, r, r', e0⟩ := rz.two
      obtain ⟨rfl, rfl⟩ := List.append_eq_nil_iff.mp e0.symm
      have r : Rp X.K (frG G1 H1 La) H1 (.lst false (D.fzs a)) v [] := r
      have r' : Rp X.K (frG G1 H1 La) H1 (.lst false (D.fzs b)) w [] := r'
      cases r with
      | @lstF p vs _ sa qa =>
      cases r' with
      | @lstF q ws _ sb qb =>
      refine ⟨p, q, vs, ws, rfl, .inl ⟨SqL.of (R2.le _ _ sa), SqL.of (R2.le _ _ sb), k _ _ H1 L1 R2 x2 ?_⟩⟩
      have w := walk_zip (K := X.K) (a := p) (b := q) (xs := vs) (ys := ws) rfl
      rw [List.length_zipWith, qa.length, qb.length]
      exact w.mono (fun H' l => ⟨SqL.of (l _ _ sa), SqL.of (l _ _ sb)⟩) fun i H' x H'' hi l y => yd_pair qa qb y
    · cases h3
  · cases h3
end

/-! ### for -/
def flF (FT : D → En → Option En) (FB : En → Option (Fl × En)) : List D → En → Option (Fl × En)
  | [], env => some (.nx, env)
  | x :: xs, env => (FT x env).bind fun e1 => (FB e1).bind fun r => match r.1 with
    | .nx => flF FT FB xs r.2
    | .ct => flF FT FB xs r.2
    | .bk => some (.nx, r.2)
    | .rt d => some (.rt d, r.2)
def forF (FI : En → Option (List D × En)) (FT : D → En → Option En) (FB : En → Option (Fl × En)) : En → Option (Fl × En) := fun env => (FI env).bind fun a => flF FT FB a.1 a.2
theorem sv_for {X : Cx} {tg iter : Expr} {body : List Stmt} {FI : En → Option (List D × En)} {FT : D → En → Option En} {FB : En → Option (Fl × En)} {W1 W2 : List Nat} {pos : Pos} (hp : PassesOwn (model X.prog X.w) X.A X.env X.xe) (hc : X.calm = true)
    (hi : Iv X tg iter FI) (hg : Gv X W1 tg FT) (hb : Bv X W2 body FB) (hs : ∀ x, foldedSetIterable iter X.env x = pure x := by intro _; rfl) : Sv X (W1 ++ W2) (.For tg iter body [] pos) (forF FI FT FB) :=
  psM (ps_for hp hc hi hg hb hs) fun D σ H ⟨G, env, L, R, fl, env', hf, k⟩ => by
  unfold forF at hf
  cases q : FI env with
  | none => rw [q] at hf; simp at hf
  | some r =>
  obtain ⟨items, e0⟩ := r
  rw [q] at hf
  simp only [Option.bind_some] at hf
  refine ⟨G, env, L, R, items, e0, q, fun J G1 H1 L1 R1 x1 w => ?_⟩
  have go : ∀ {W : List Nat}, (∀ j ∈ W, j ∈ W1 ++ W2) → ∀ {σ1 σ2 : St}, Keep (W1 ++ W2) σ σ1 → Keep W σ1 σ2 → Keep (W1 ++ W2) σ σ2 := @fun _ hW _ _ a b => Keep.trans a b fun j h => h.elim id (hW j)
  refine for_it w (fun i σ1 H2 => ∃ G2 env1 L2, RSt X.K σ1 G2 H2 env1 L2 ∧ Le G1 G2 ∧ Keep (W1 ++ W2) σ σ1 ∧ Ext L G H G2 H2 L2 ∧ flF FT FB (items.drop i) env1 = some (fl, env')) ⟨G1, e0, L1, R1, Le.refl _, Keep.refl _ _, x1, by simpa using hf⟩ ?_ ?_ ?_
  · rintro i σ1 H2 hi ⟨G2, env1, L2, R2, l2, _⟩
    exact l2.trans R2.le
  · rintro i x σ1 H2 H3 hi ⟨G2, env1, L2, R2, l2, k2, x2, h2⟩ y
    obtain ⟨G3, d, hd, fr, rd⟩ := y G2 l2 R2.le
    have e1 : items.drop i = d :: items.drop (i + 1) := by
      obtain ⟨hl, hd'⟩ := List.getElem?_eq_some_iff.mp hd
      rw [← hd', List.getElem_cons_drop]
    rw [e1] at h2
    simp only [flF] at h2
    cases q3 : FT d env1 with
    | none => rw [q3] at h2; simp at h2
    | some e3 =>
    rw [q3] at h2
    simp only [Option.bind_some] at h2
    cases q4 : FB e3 with
    | none => rw [q4] at h2; simp at h2
    | some u =>
    obtain ⟨f, e4⟩ := u
    rw [q4] at h2
    simp only [Option.bind_some] at h2
    have R3 := R2.fresh fr
    have x3 : Ext L G H G3 H3 L2 := x2.trans (fr.ext' fun a z => .inl z) fun a z => x2.own a z
    refine ⟨G3, env1, L2, d, [], R3, rd, by simpa using R3.nd, e3, q3, fun σ4 G4 H4 L4 R4 k4 x4 => ?_⟩
    have x4' : Ext L G H G4 H4 L4 := x3.trans x4 fun a z => x3.own a (by simpa using z)
    have k4' := go (fun j h => List.mem_append_left _ h) k2 k4
    have l4 : Le G1 G4 := (l2.trans fr.le).trans x4.le
    refine ⟨G4, e3, L4, R4, f, e4, q4, ?_⟩
    cases f with
    | nx => exact fun σ5 G5 H5 L5 R5 k5 x5 => ⟨G5, e4, L5, R5, l4.trans x5.le, go (fun j h => List.mem_append_right _ h) k4' k5, x4'.trans x5 fun a z => x4'.own a z, h2⟩
    | ct => exact fun σ5 G5 H5 L5 R5 k5 x5 => ⟨G5, e4, L5, R5, l4.trans x5.le, go (fun j h => List.mem_append_right _ h) k4' k5, x4'.trans x5 fun a z => x4'.own a z, h2⟩
    | bk => cases h2; exact fun σ5 G5 H5 L5 R5 k5 x5 => k σ5 G5 H5 L5 R5 (go (fun j h => List.mem_append_right _ h) k4' k5) (x4'.trans x5 fun a z => x4'.own a z)
    | rt d => cases h2; exact fun σ5 v G5 H5 L5 Lr R5 k5 r5 n5 x5 => k σ5 v G5 H5 L5 Lr R5 (go (fun j h => List.mem_append_right _ h) k4' k5) r5 n5 (x4'.trans x5 fun a z => x4'.own a z)
  · rintro σ1 H2 ⟨G2, env1, L2, R2, l2, k2, x2, h2⟩
    rw [List.drop_length] at h2
    cases h2
    exact k σ1 G2 H2 L2 R2 k2 x2
end
end Pz

set_option Elab.async false
set_option linter.all false
set_option maxRecDepth 100000
set_option maxHeartbeats 1000000
namespace Pz
open PySem L2
noncomputable section

def wpE : List Nat → En → En
  | [], e => e
  | v :: vs, e => (wpE vs e).set v none
def mgE (vs : List Nat) : Nat → En → En → En
  | n, a :: as, b :: bs => (if vs.contains n = true then a else b) :: mgE vs (n + 1) as bs
  | _, _, _ => []
def okE (vs : List Nat) : Nat → En → Bool
  | n, some d :: as => (!vs.contains n || d.pure) && okE vs (n + 1) as
  | n, none :: as => okE vs (n + 1) as
  | _, [] => true
section
variable {K : PySem.W.Frag} {G G0 H H0 : Hp}
theorem REnv.setNone {es : En} {σ : St} {L : List Addr} (r : REnv K G H es σ L) (v : Nat) : ∃ L', REnv K G H (es.set v none) (σ.set v none) L' ∧ L'.Sublist L := by
  by_cases h : v < es.length
  · obtain ⟨La, Li, Lb, e0, _, f⟩ := r.at h
    refine ⟨La ++ Lb, (f (Le.refl _) fun a z => ⟨(r.own a (by rw [e0]; rcases List.mem_append.mp z with z | z <;> simp [z])).1, rfl⟩).2 none, ?_⟩
    rw [e0]; simp
  · rw [List.set_eq_of_length_le (by omega), List.set_eq_of_length_le (by rw [← r.length]; omega)]
    exact ⟨L, r, List.Sublist.refl _⟩
theorem REnv.wipe {es : En} {σ : St} {L : List Addr} (r : REnv K G H es σ L) : ∀ vs : List Nat, ∃ L', REnv K G H (wpE vs es) (L2.wipe σ vs) L' ∧ L'.Sublist L
  | [] => ⟨L, r, List.Sublist.refl _⟩
  | v :: vs => by
    obtain ⟨L1, r1, s1⟩ := REnv.wipe r vs
    obtain ⟨L2, r2, s2⟩ := r1.setNone v
    exact ⟨L2, r2, s2.trans s1⟩
theorem wpE_length (es : En) : ∀ vs : List Nat, (wpE vs es).length = es.length
  | [] => rfl
  | v :: vs => by unfold wpE; rw [List.length_set, wpE_length es vs]
theorem wpE_at {es : En} : ∀ {vs : List Nat} {i : Nat}, i ∈ vs → i < es.length → (wpE vs es)[i]? = some none
  | v :: vs, i, h, hl => by
    unfold wpE
    by_cases e : v = i
    · subst e; rw [List.getElem?_set_self (by rw [wpE_length]; exact hl)]
    · rw [List.getElem?_set_ne e]
      exact wpE_at ((List.mem_cons.mp h).resolve_left fun z => e z.symm) hl
theorem wipe_at {σ : St} : ∀ {vs : List Nat} {i : Nat}, i ∈ vs → i < σ.length → (L2.wipe σ vs)[i]? = some none
  | v :: vs, i, h, hl => by
    unfold L2.wipe
    by_cases e : v = i
    · subst e; rw [List.getElem?_set_self (by rw [wipe_length]; exact hl)]
    · rw [List.getElem?_set_ne e]
      exact wipe_at ((List.mem_cons.mp h).resolve_left fun z => e z.symm) hl
theorem wipe_off {σ : St} : ∀ {vs : List Nat} {i : Nat}, i ∉ vs → (L2.wipe σ vs)[i]? = σ[i]?
  | [], _, _ => rfl
  | v :: vs, i, h => by
    unfold L2.wipe
    rw [List.getElem?_set_ne fun e => h (by simp [e])]
    exact wipe_off fun z => h (by simp [z])
theorem REnv.merge {vs : List Nat} : ∀ {n : Nat} {a b : En} {σ τ : St} {La Lb : List Addr}, REnv K G0 H0 a σ La → REnv K G H b τ Lb → Le G0 G → a.length = b.length → okE vs n a = true →
    (∀ i, vs.contains (n + i) = true → i < b.length → b[i]? = some none) → (∀ i, vs.contains (n + i) = false → τ[i]? = σ[i]?) → REnv K G H (mgE vs n a b) σ Lb
  | _, _, _, _, _, _, _, .nil, .nil, _, _, _, _, _ => .nil
  | n, _, _, _, _, _, _, .nil, .non _, _, hl, _, _, _ => by simp at hl
  | n, _, _, _, _, _, _, .nil, .val _ _, _, hl, _, _, _ => by simp at hl
  | n, _, _, _, _, _, _, .non _, .nil, _, hl, _, _, _ => by simp at hl
  | n, _, _, _, _, _, _, .val _ _, .nil, _, hl, _, _, _ => by simp at hl
  | n, _, _, _, _, _, _, .non ra, .non rb, l, hl, ok, h1, h2 => by
    have q := REnv.merge (n := n + 1) ra rb l (by simpa using hl) (by simpa [okE] using ok) (fun i hi hb => by have := h1 (i + 1) (by rw [← hi]; congr 1; omega) (by simpa using hb); simpa using this) fun i hi => by have := h2 (i + 1) (by rw [← hi]; congr 1; omega); simpa using this
    simp only [mgE]
    split <;> exact .non q
  | n, _, _, _, _, _, _, .non ra, .val (d := d) (v := v) r rb, l, hl, ok, h1, h2 => by
    have q := REnv.merge (n := n + 1) ra rb l (by simpa using hl) (by simpa [okE] using ok) (fun i hi hb => by have := h1 (i + 1) (by rw [← hi]; congr 1; omega) (by simpa using hb); simpa using this) fun i hi => by have := h2 (i + 1) (by rw [← hi]; congr 1; omega); simpa using this
    simp only [mgE]
    by_cases hc : vs.contains n = true
    · have := h1 0 (by simpa using hc) (by simp); simp at this
    · rw [if_neg hc]
      have e := h2 0 (by simpa using hc)
      simp at e
      rw [← e]
      exact .val r q
  | n, _, _, _, _, _, _, .val (d := d) (v := v) r ra, .non rb, l, hl, ok, h1, h2 => by
    simp only [okE, Bool.and_eq_true] at ok
    have q := REnv.merge (n := n + 1) ra rb l (by simpa using hl) ok.2 (fun i hi hb => by have := h1 (i + 1) (by rw [← hi]; congr 1; omega) (by simpa using hb); simpa using this) fun i hi => by have := h2 (i + 1) (by rw [← hi]; congr 1; omega); simpa using this
    simp only [mgE]
    by_cases hc : vs.contains n = true
    · rw [if_pos hc]
      have hp : d.pure = true := by have := ok.1; rw [hc] at this; simpa using this
      obtain rfl := r.pure_nil hp
      exact .val (L1 := []) (r.mono l fun _ z => nomatch z) q
    · rw [if_neg hc]
      exact .non q
  | n, _, _, _, _, _, _, .val (d := d) (v := v) r ra, .val r' rb, l, hl, ok, h1, h2 => by
    simp only [okE, Bool.and_eq_true] at ok
    have q := REnv.merge (n := n + 1) ra rb l (by simpa using hl) ok.2 (fun i hi hb => by have := h1 (i + 1) (by rw [← hi]; congr 1; omega) (by simpa using hb); simpa using this) fun i hi => by have := h2 (i + 1) (by rw [← hi]; congr 1; omega); simpa using this
    simp only [mgE]
    by_cases hc : vs.contains n = true
    · have := h1 0 (by simpa using hc) (by simp); simp at this
    · rw [if_neg hc]
      have e := h2 0 (by simpa using hc)
      simp at e
      rw [← e]
      exact .val r' q
end

/-- the turns of a comprehension -/
def lcL (vs : List Nat) (FT : D → En → Option En) (FC : En → Option (Bool × En)) (FE : En → Option (D × En)) : List D → List D → En → Option (List D × En)
  | acc, [], env => some (acc, env)
  | acc, x :: xs, env => (FT x env).bind fun e1 => (FC e1).bind fun c => if c.1 = true then (FE c.2).bind fun a => lcL vs FT FC FE (acc ++ [a.1]) xs (wpE vs a.2) else lcL vs FT FC FE acc xs (wpE vs c.2)
def yesF : En → Option (Bool × En) := fun env => some (true, env)
def lcF (vs : List Nat) (FI : En → Option (List D × En)) (FT : D → En → Option En) (FC : En → Option (Bool × En)) (FE : En → Option (D × En)) : En → Option (D × En) := fun env =>
  (FI env).bind fun a => if lineOk a.1.length = true ∧ okE vs 0 a.2 = true then (lcL vs FT FC FE [] a.1 (wpE vs a.2)).map fun r => (.lst true r.1, mgE vs 0 a.2 r.2) else none
abbrev Cv (X : Cx) (ifs : List Expr) (F : En → Option (Bool × En)) : Prop := PTs X ifs (tT X.K false F)
theorem cv_nil {X : Cx} : Cv X [] yesF := ⟨fun pins s σ H Q I ⟨G, env, L, R, d, env', hf, k⟩ => pts_nil.run pins s σ H Q I (by
  cases hf
  exact k G H L R (fun z => nomatch z) (Ext.refl fun _ z => z))⟩
theorem tv_eff {X : Cx} {e : Expr} {F : En → Option (Bool × En)} {s : Bool} (h : Tv X s e F) : Tv X false e F := ptM h fun σ H Q ⟨G, env, L, R, d, env', hf, k⟩ => ⟨G, env, L, R, d, env', hf, fun G' H' L' R' st x => k G' H' L' R' (fun z => nomatch z) x⟩
theorem cv_one {X : Cx} {e : Expr} {F : En → Option (Bool × En)} {s : Bool} (h : Tv X s e F) : Cv X [e] F := pts_one (tv_eff h)
theorem lcL_wiped {vs : List Nat} {FT : D → En → Option En} {FC : En → Option (Bool × En)} {FE : En → Option (D × En)} : ∀ {xs acc : List D} {env e0 env' : En} {r : List D}, env = wpE vs e0 → lcL vs FT FC FE acc xs env = some (r, env') → ∃ e1, env' = wpE vs e1
  | [], acc, env, e0, env', r, hw, h => by
    simp only [lcL, Option.some.injEq, Prod.mk.injEq] at h
    exact ⟨e0, h.2 ▸ hw⟩
  | x :: xs, acc, env, e0, env', r, hw, h => by
    simp only [lcL] at h
    cases q : FT x env with
    | none => rw [q] at h; simp at h
    | some e1 =>
    rw [q] at h; simp only [Option.bind_some] at h
    cases q2 : FC e1 with
    | none => rw [q2] at h; simp at h
    | some c =>
    rw [q2] at h; simp only [Option.bind_some] at h
    split at h
    · cases q3 : FE c.2 with
      | none => rw [q3] at h; simp at h
      | some a => rw [q3] at h; simp only [Option.bind_some] at h; exact lcL_wiped (e0 := a.2) rfl h
    · exact lcL_wiped (e0 := c.2) rfl h
section
variable {K : PySem.W.Frag}
/-- what was owned beside is apart from what is owned now -/
theorem lc_nd {L2 L5 M : List Addr} {G2 H2 G5 H5 : Hp} (x : Ext L2 G2 H2 G5 H5 L5) (n5 : L5.Nodup) (nn : (L2 ++ M).Nodup) (own : ∀ {a : Addr}, a ∈ M → G2 a = none ∧ H2 a ≠ none) : (L5 ++ M).Nodup :=
  List.nodup_append.mpr ⟨n5, (List.nodup_append.mp nn).2.1, fun a ha b hb e => by
    subst e
    rcases x.own a ha with z | z
    · exact (List.nodup_append.mp nn).2.2 a z a hb rfl
    · exact (own hb).2 z⟩
theorem lc_ext {L L2 L5 M : List Addr} {G H G2 H2 G5 H5 : Hp} (x : Ext L G H G2 H2 (L2 ++ M)) (y : Ext L2 G2 H2 G5 H5 L5) : Ext L G H G5 H5 (L5 ++ M) := by
  have z : Ext L G H G5 H5 L5 := x.trans y fun a h => x.own a (List.mem_append_left _ h)
  refine z.sub fun a h => ?_
  rcases List.mem_append.mp h with h | h
  · exact z.own a h
  · exact x.own a (List.mem_append_right _ h)
theorem lc_lift {vs W : List Nat} {FI : En → Option (List D × En)} {FT : D → En → Option En} {FC : En → Option (Bool × En)} {FE : En → Option (D × En)} {s2 : Bool} (hW : ∀ j ∈ W, j ∈ vs) (σ : St) (H : Hp) (Q : VK) (h : tE K true false (lcF vs FI FT FC FE) σ H Q) :
    tLc (tI K FI) (tG K W FT) (tT K false FC) (tE K true s2 FE) vs σ H Q := by
  obtain ⟨G, env, L, R, d, env', hf, k⟩ := h
  unfold lcF at hf
  cases q : FI env with
  | none => rw [q] at hf; simp at hf
  | some r =>
  obtain ⟨items, e0⟩ := r
  rw [q] at hf
  simp only [Option.bind_some] at hf
  split at hf
  case isFalse => cases hf
  rename_i hok
  cases q2 : lcL vs FT FC FE [] items (wpE vs e0) with
  | none => rw [q2] at hf; simp at hf
  | some r =>
  obtain ⟨res, ef⟩ := r
  rw [q2] at hf
  simp only [Option.map_some, Option.some.injEq, Prod.mk.injEq] at hf
  obtain ⟨rfl, rfl⟩ := hf
  refine ⟨G, env, L, R, items, e0, q, fun J G1 H1 L1 R1 x1 w D hD => ?_⟩
  have hlen := lineOk_le hok.1
  obtain ⟨Lw, rw0, sw0⟩ := R1.rep.wipe vs
  have f0 := Fresh.lst R1.le hD (.lst [])
  have Rw : RSt K (wipe σ vs) G1 (upd H1 D (.lst [])) (wpE vs e0) Lw := ⟨f0.le', rw0.mono f0.le fun a z => f0.keepOf (rw0.own a z), R1.nd.sublist sw0⟩
  have gD : G1 D = none := R1.le.none hD
  refine lc_it w (fun i H2 => ∃ G2 e2 L2 acc av La, RSt K (wipe σ vs) G2 H2 e2 L2 ∧ Le G1 G2 ∧ H2 D = some (.lst av) ∧ G2 D = none ∧ Rps K G2 H2 acc av La ∧ (L2 ++ (D :: La)).Nodup ∧ Ext Lw G1 H1 G2 H2 (L2 ++ (D :: La)) ∧ acc.length ≤ i ∧ (∃ e3, e2 = wpE vs e3) ∧
      lcL vs FT FC FE acc (items.drop i) e2 = some (res, ef)) ?_ ?_ ?_ ?_
  · refine ⟨G1, wpE vs e0, Lw, [], [], [], Rw, Le.refl _, upd_same, gD, .nil, ?_, ?_, Nat.zero_le _, ⟨_, rfl⟩, by simpa using q2⟩
    · exact f0.nodup (R1.nd.sublist sw0) fun a z => (rw0.own a z).2
    · exact f0.ext' fun a z => by
        rcases List.mem_append.mp z with z | z
        · exact .inl z
        · exact .inr (f0.new a z)
  · rintro i H2 hi ⟨G2, e2, L2, acc, av, La, R2, l2, _⟩
    exact l2.trans R2.le
  · rintro i x H2 H3 hi ⟨G2, e2, L2, acc, av, La, R2, l2, hH, gD2, ra, nn, x2, hal, ⟨e3, he3⟩, h2⟩ y
    obtain ⟨G3, dx, hd, fr, rd⟩ := y G2 l2 R2.le
    have e1 : items.drop i = dx :: items.drop (i + 1) := by
      obtain ⟨hl, hd'⟩ := List.getElem?_eq_some_iff.mp hd
      rw [← hd', List.getElem_cons_drop]
    rw [e1] at h2
    simp only [lcL] at h2
    cases q3 : FT dx e2 with
    | none => rw [q3] at h2; simp at h2
    | some e4 =>
    rw [q3] at h2
    simp only [Option.bind_some] at h2
    cases q4 : FC e4 with
    | none => rw [q4] at h2; simp at h2
    | some c =>
    obtain ⟨c, e5⟩ := c
    rw [q4] at h2
    simp only [Option.bind_some] at h2
    have R3 := R2.fresh fr
    have ra3 := ra.fresh fr
    have dOwn : ∀ {a : Addr}, a ∈ D :: La → G2 a = none ∧ H2 a ≠ none := fun {a} z => by
      rcases List.mem_cons.mp z with e | e
      · subst e; exact ⟨gD2, by rw [hH]; simp⟩
      · exact ra.own a e
    have apart : ∀ {a : Addr}, a ∈ D :: La → a ∉ L2 := fun {a} z y => (List.nodup_append.mp nn).2.2 a y a z rfl
    -- the owned list and its items behind any further change within L2
    have stay : ∀ {G4 H4 : Hp} {L4 : List Addr}, Ext L2 G2 H2 G4 H4 L4 → ∀ a ∈ D :: La, G4 a = none ∧ H4 a = H2 a := fun x a z => x.keep (apart z) (dOwn z).1 (dOwn z).2
    have x3 : Ext L2 G2 H2 G3 H3 L2 := fr.ext' fun a z => .inl z
    refine ⟨G3, e2, L2, dx, [], R3, rd, by simpa using R3.nd, e4, q3, fun σ4 G4 H4 L4 R4 k4 x4 => ⟨?_, ?_⟩⟩
    · -- the block's names alone have changed
      refine List.ext_getElem? fun j => ?_
      by_cases hj : j ∈ vs
      · by_cases hl : j < σ.length
        · rw [wipe_at hj (by rw [k4.1, wipe_length]; exact hl), wipe_at hj hl]
        · rw [List.getElem?_eq_none (by rw [wipe_length, k4.1, wipe_length]; omega), List.getElem?_eq_none (by rw [wipe_length]; omega)]
      · rw [wipe_off hj]
        exact (k4.2 j fun z => hj (hW j z)).trans rfl
    have wq : wipe σ4 vs = wipe σ vs := by
      refine List.ext_getElem? fun j => ?_
      by_cases hj : j ∈ vs
      · by_cases hl : j < σ.length
        · rw [wipe_at hj (by rw [k4.1, wipe_length]; exact hl), wipe_at hj hl]
        · rw [List.getElem?_eq_none (by rw [wipe_length, k4.1, wipe_length]; omega), List.getElem?_eq_none (by rw [wipe_length]; omega)]
      · rw [wipe_off hj]
        exact (k4.2 j fun z => hj (hW j z)).trans rfl
    have x24 : Ext L2 G2 H2 G4 H4 L4 := x3.trans x4 fun a z => .inl (by simpa using z)
    refine ⟨G4, e4, L4, R4, c, e5, q4, fun G5 H5 L5 R5 st5 x5 => ?_⟩
    have x25 : Ext L2 G2 H2 G5 H5 L5 := x24.trans x5 fun a z => x24.own a z
    cases c with
    | false =>
      rw [if_neg (by decide)] at h2
      show (if false = true then _ else _)
      rw [if_neg (by decide)]
      obtain ⟨L6, rw6, sw6⟩ := R5.rep.wipe vs
      rw [wq] at rw6
      have s5 := stay x25
      refine ⟨G5, wpE vs e5, L6, acc, av, La, ⟨R5.le, rw6, R5.nd.sublist sw6⟩, l2.trans x25.le, by rw [(s5 D (List.mem_cons_self ..)).2]; exact hH, (s5 D (List.mem_cons_self ..)).1, ra.mono x25.le fun a z => s5 a (List.mem_cons_of_mem _ z), ?_, ?_, by omega, ⟨_, rfl⟩, h2⟩
      · exact lc_nd (x25.sub fun a z => x25.own a (sw6.subset z)) (R5.nd.sublist sw6) nn dOwn
      · exact lc_ext x2 (x25.sub fun a z => x25.own a (sw6.subset z))
    | true =>
      rw [if_pos rfl] at h2
      show (if true = true then _ else _)
      rw [if_pos rfl]
      cases q5 : FE e5 with
      | none => rw [q5] at h2; simp at h2
      | some u =>
      obtain ⟨du, e6⟩ := u
      rw [q5] at h2
      simp only [Option.bind_some] at h2
      refine ⟨G5, e5, L5, R5, du, e6, q5, fun v G6 H6 L6 Lv R6 rv n6 st6 x6 => ?_⟩
      have x26 : Ext L2 G2 H2 G6 H6 (L6 ++ Lv) := x25.trans x6 fun a z => x25.own a z
      have s6 := stay x26
      have hD6 : H6 D = some (.lst av) := by rw [(s6 D (List.mem_cons_self ..)).2]; exact hH
      have gD6 := (s6 D (List.mem_cons_self ..)).1
      have hav : av.length < sizeLine := by rw [← ra.length]; omega
      refine ⟨av, hD6, hav, ?_⟩
      obtain ⟨L7, rw7, sw7⟩ := R6.rep.wipe vs
      rw [wq] at rw7
      -- nothing else lies at D
      have nD : D ∉ L6 ++ Lv := fun z => by
        rcases x26.own D z with w | w
        · exact apart (List.mem_cons_self ..) w
        · exact (dOwn (List.mem_cons_self ..)).2 w
      have keepD : ∀ {a : Addr}, a ≠ D → upd H6 D (.lst (av ++ [v])) a = H6 a := fun {a} n => upd_ne n
      have nn6 : (L6 ++ Lv ++ (D :: La)).Nodup := lc_nd x26 (n6 rfl) nn dOwn
      have le7 : Le G6 (upd H6 D (.lst (av ++ [v]))) := fun a o e => by
        rw [keepD fun z => by rw [z, gD6] at e; cases e]
        exact R6.le a o e
      refine ⟨G6, wpE vs e6, L7, acc ++ [du], av ++ [v], La ++ Lv, ⟨le7, rw7.mono (Le.refl _) fun a z => ⟨(rw7.own a z).1, keepD fun e => nD (by rw [← e]; exact List.mem_append_left _ (sw7.subset z))⟩, R6.nd.sublist sw7⟩, l2.trans x26.le, upd_same, gD6, ?_, ?_, ?_, by simp; omega, ⟨_, rfl⟩, h2⟩
      · have hLa : ∀ a ∈ La, a ≠ D := fun a z e => by
          have n1 := (List.nodup_append.mp nn).2.1
          rw [e] at z
          exact (List.nodup_cons.mp n1).1 z
        have p1 : Rps K G6 (upd H6 D (.lst (av ++ [v]))) acc av La := ra.mono x26.le fun a z => ⟨(s6 a (List.mem_cons_of_mem _ z)).1, (keepD (hLa a z)).trans (s6 a (List.mem_cons_of_mem _ z)).2⟩
        have p2 : Rp K G6 (upd H6 D (.lst (av ++ [v]))) du v Lv := rv.mono (Le.refl _) fun a z => ⟨(rv.own a z).1, keepD fun e => nD (by rw [← e]; exact List.mem_append_right _ z)⟩
        have p3 := p1.append (.cons (L1 := Lv) (L2 := []) p2 .nil)
        simpa using p3
      · have : (L7 ++ Lv ++ (D :: La)).Nodup := nn6.sublist ((sw7.append (List.Sublist.refl _)).append (List.Sublist.refl _))
        refine (List.Perm.nodup_iff ?_).mp this
        rw [List.append_assoc]
        exact List.Perm.append_left _ (by simpa using List.perm_append_comm (l₁ := Lv) (l₂ := D :: La))
      · have z := lc_ext x2 x26
        refine ⟨z.le, fun b nb hb => ?_, z.gd, fun b hb => z.own b ?_⟩
        · rw [keepD fun e => hb (by rw [e]; exact hD)]
          exact z.fr b nb hb
        · simp only [List.mem_append, List.mem_cons] at hb ⊢
          rcases hb with w | w | w | w
          · exact .inl (.inl (sw7.subset w))
          · exact .inr (.inl w)
          · exact .inr (.inr w)
          · exact .inl (.inr w)
  · rintro H2 ⟨G2, e2, L2, acc, av, La, R2, l2, hH, gD2, ra, nn, x2, hal, ⟨e3, rfl⟩, h2⟩
    rw [List.drop_length] at h2
    simp only [lcL, Option.some.injEq, Prod.mk.injEq] at h2
    obtain ⟨rfl, rfl⟩ := h2
    have m := REnv.merge (vs := vs) (n := 0) R1.rep R2.rep l2 (by rw [R1.rep.length, R2.rep.length, wipe_length]) hok.2 (fun i hi hl => by
      rw [Nat.zero_add] at hi
      exact wpE_at (List.contains_iff_mem.mp hi) (by rw [wpE_length] at hl; exact hl)) fun i hi => by
      rw [Nat.zero_add] at hi
      exact wipe_off fun z => by rw [List.contains_iff_mem.mpr z] at hi; cases hi
    exact k (.ref D) G2 H2 L2 (D :: La) ⟨R2.le, m, R2.nd⟩ (.lstO gD2 hH ra) (fun _ => nn) (fun z => nomatch z) (x1.trans x2 fun a z => x1.own a (sw0.subset z))
end
section
variable {X : Cx} {elt tg iter : Expr} {ifs : List Expr} {scope : Scope} {own : List (Str × Nat)} {pos spos py : Pos} {FI : En → Option (List D × En)} {FT : D → En → Option En} {FC : En → Option (Bool × En)} {FE : En → Option (D × En)} {W : List Nat} {s2 : Bool} {i : Nat} {y : Str}
theorem ev_lc (hc : X.calm = true) (hN : X.N.Nodup) (hi : Iv X tg iter FI) (ok : BlkOk X.N X.env.scope scope own)
    (hg : ∀ (s : Shared) (H : Hp) (C : Addr) (cl : List (Str × Addr)) (fp : List Addr), Gv (X.blk s H scope (compEnvC scope cl C X.env) fp) W tg FT) (ht : ∀ (s : Shared) (H : Hp) (C : Addr) (cl : List (Str × Addr)) (fp : List Addr), Cv (X.blk s H scope (compEnvC scope cl C X.env) fp) ifs FC)
    (he : ∀ (s : Shared) (H : Hp) (C : Addr) (cl : List (Str × Addr)) (fp : List Addr), Ev (X.blk s H scope (compEnvC scope cl C X.env) fp) true s2 elt FE) (hW : ∀ j ∈ W, j ∈ own.map (·.2)) (hs : ∀ x, foldedSetIterable iter X.env x = pure x := by intro _; rfl) :
    Ev X true false (.ListComp elt [⟨tg, iter, ifs, 0⟩] scope pos) (lcF (own.map (·.2)) FI FT FC FE) := peM (pe_lc hc hN hi ok hg ht he hs) fun σ H Q h => lc_lift hW σ H Q h
/-- name = [..] on one line -/
theorem sv_setLc (hc : X.calm = true) (hN : X.N.Nodup) (hy : X.N[i]? = some y) (hyl : X.env.scope.names.lookup y = some .local)
    (hsw : swapsWith (.ListComp elt [⟨tg, iter, ifs, 0⟩] scope pos) (some (.Name y py)) spos.line X.env = pure true) (hi : Iv X tg iter FI) (ok : BlkOk X.N X.env.scope scope own)
    (hg : ∀ (s : Shared) (H : Hp) (C : Addr) (cl : List (Str × Addr)) (fp : List Addr), Gv (X.blk s H scope (compEnvC scope cl C X.env) fp) W tg FT) (ht : ∀ (s : Shared) (H : Hp) (C : Addr) (cl : List (Str × Addr)) (fp : List Addr), Cv (X.blk s H scope (compEnvC scope cl C X.env) fp) ifs FC)
    (he : ∀ (s : Shared) (H : Hp) (C : Addr) (cl : List (Str × Addr)) (fp : List Addr), Ev (X.blk s H scope (compEnvC scope cl C X.env) fp) true s2 elt FE) (hW : ∀ j ∈ W, j ∈ own.map (·.2)) (hs : ∀ x, foldedSetIterable iter X.env x = pure x := by intro _; rfl) :
    Sv X [i] (.Assign [.Name y py] (.ListComp elt [⟨tg, iter, ifs, 0⟩] scope pos) spos) (stF (lcF (own.map (·.2)) FI FT FC FE) (put i)) :=
  psM (ps_setLc hc hN hy hyl hsw hi ok hg ht he hs) fun D σ H h => by
    obtain ⟨G, env, L, R, fl, env', hff, k⟩ := h
    unfold stF at hff
    cases q : lcF (own.map (·.2)) FI FT FC FE env with
    | none => rw [q] at hff; simp at hff
    | some r =>
    obtain ⟨d, e1⟩ := r
    rw [q] at hff
    simp only [Option.bind_some] at hff
    cases q2 : put i d e1 with
    | none => rw [q2] at hff; simp at hff
    | some e2 =>
    rw [q2] at hff
    simp only [Option.map_some, Option.some.injEq, Prod.mk.injEq] at hff
    obtain ⟨rfl, rfl⟩ := hff
    refine lc_lift (s2 := s2) hW σ H _ ⟨G, env, L, R, d, e1, q, fun v G1 H1 L1 Lr R1 r1 n1 st1 x1 => ?_⟩
    obtain ⟨L', R', ss⟩ := R1.put r1 (n1 rfl) q2
    exact k _ G1 H1 L' R' set_keep (x1.sub fun a z => x1.own a (ss a z))
end
end
end Pz

set_option Elab.async false
set_option linter.all false
set_option maxRecDepth 100000
set_option maxHeartbeats 1000000
namespace Pz
open PySem L2
noncomputable section

/-! ### a def -/
section
variable (K : PySem.W.Frag)
/-- what a def's function promises: its value, and what it gives back at each parameter -/
def spF (n : Nat) (F : List D → Option (D × En)) : Sp := fun vs H Q _ => vs.length = n ∧ ∃ G ds L, Le G H ∧ Rps K G H ds vs L ∧ L.Nodup ∧ ∃ d back, F ds = some (d, back) ∧
  ∀ v G' H' Lr Lb, Le G' H' → REnv K G' H' back (vs.map some) Lb → Rp K G' H' d v Lr → (Lb ++ Lr).Nodup → Ext L G H G' H' (Lb ++ Lr) → Q v H'
end
abbrev FnV (P : Program) (w : World) (K : PySem.W.Frag) (mg : Str → Option Value) (base : Heap) (k : Nat) (f : Addr) (fd : FuncData) (ps : List Str) (F : List D → Option (D × En)) : Prop := FnOk P w K mg base CX0 k f fd ps (spF K ps.length F)
def fnF (n m : Nat) (W : List Nat) (FB : En → Option (Fl × En)) : List D → Option (D × En) := fun ds => if ds.length = n then (FB (ds.map some ++ List.replicate m none)).bind fun r => match r.1 with
  | .rt d => some (d, (wpE W r.2).take n)
  | .nx => some (.non, (wpE W r.2).take n)
  | _ => none
  else none
section
variable {K : PySem.W.Frag} {G H G' H' : Hp}
theorem REnv.nones : ∀ m : Nat, REnv K G H (List.replicate m none) (List.replicate m none) []
  | 0 => .nil
  | m + 1 => .non (REnv.nones m)
theorem Rps.env : ∀ {ds : List D} {vs : List V} {L : List Addr} {es : En} {σ : St} {L2 : List Addr}, Rps K G H ds vs L → REnv K G H es σ L2 → REnv K G H (ds.map some ++ es) (vs.map some ++ σ) (L ++ L2)
  | _, _, _, _, _, _, .nil, r => r
  | _, _, _, _, _, _, .cons h hs, r => by
    rw [List.append_assoc]
    exact .val h (Rps.env hs r)
theorem REnv.take : ∀ {es : En} {σ : St} {L : List Addr} (n : Nat), REnv K G H es σ L → ∃ L', REnv K G H (es.take n) (σ.take n) L' ∧ L'.Sublist L
  | _, _, _, 0, _ => ⟨[], by simpa using REnv.nil, List.nil_sublist _⟩
  | _, _, _, _ + 1, .nil => ⟨[], .nil, List.Sublist.refl _⟩
  | _, _, _, n + 1, .non r => by
    obtain ⟨L', r', s⟩ := REnv.take n r
    exact ⟨L', .non r', s⟩
  | _, _, _, n + 1, .val h r => by
    obtain ⟨L', r', s⟩ := REnv.take n r
    exact ⟨_, .val h r', (List.Sublist.refl _).append s⟩
/-- the same slots by other values where nothing is said -/
theorem REnv.retag : ∀ {es : En} {τ σ : St} {L : List Addr}, REnv K G H es τ L → τ.length = σ.length → (∀ (i : Nat) (d : D), es[i]? = some (some d) → τ[i]? = σ[i]?) → REnv K G H es σ L
  | _, _, [], _, .nil, _, _ => .nil
  | _, _, _ :: _, _, .nil, h, _ => by simp at h
  | _, _, [], _, .non _, h, _ => by simp at h
  | _, _, [], _, .val _ _, h, _ => by simp at h
  | _, _, o :: σ, _, .non r, h, k => .non (REnv.retag r (by simpa using h) fun i d e => by have := k (i + 1) d (by simpa using e); simpa using this)
  | _, _, o :: σ, _, .val (v := v) q r, h, k => by
    have e := k 0 _ rfl
    simp at e
    rw [← e]
    exact .val q (REnv.retag r (by simpa using h) fun i d e => by have := k (i + 1) d (by simpa using e); simpa using this)
variable {P : Program} {w : World} {mg : Str → Option Value} {base : Heap}
theorem fnV {x qual : Str} {st : Stmt} {f : Addr} {fd : FuncData} {N ps : List Str} {k : Nat} {W : List Nat} {FB : En → Option (Fl × En)} (F : Fun K x qual st f fd) (S : FnScope N ps (defScope st)) (m : Nat) (hm : N.length = ps.length + m)
    (hbody : ∀ (cdv : Value) (A : Around) (outer : List Env) (s : Shared) (H : Hp) (E : XK), Room k (A.deeper (PyProof.Rows.envOfC qual (defScope st) s.heap.objs.size f cdv)) → Bv (cxOf CX0 P w K mg base N qual (defScope st) f cdv A outer s H E).nox W (defBody st) FB) :
    FnV P w K mg base (k + 1) f fd ps (fnF ps.length m W FB) := by
  refine F.ok S (fun vs H Q E h => h.1) fun cdv A outer s H vs Q E hr h => ?_
  refine ⟨_, hbody cdv A outer s H E hr, ?_⟩
  obtain ⟨hl, G, ds, L, l, r, nd, d, back, hF, q⟩ := h
  unfold fnF at hF
  have hds : ds.length = ps.length := by rw [r.length, hl]
  rw [if_pos hds] at hF
  cases q2 : FB (ds.map some ++ List.replicate m none) with
  | none => rw [q2] at hF; simp at hF
  | some u =>
  obtain ⟨fl, env'⟩ := u
  rw [q2] at hF
  simp only [Option.bind_some] at hF
  have es : L2.start N vs = vs.map some ++ List.replicate m none := by
    unfold L2.start
    rw [hm, hl, Nat.add_sub_cancel_left]
  have R0 : RSt K (L2.start N vs) G H (ds.map some ++ List.replicate m none) L := ⟨l, by rw [es]; simpa using r.env (REnv.nones m), nd⟩
  -- what is given back
  have giv : ∀ {σ' : St} {G' H' : Hp} {L' : List Addr}, RSt K σ' G' H' env' L' → Keep W (L2.start N vs) σ' → ∃ Lb, REnv K G' H' ((wpE W env').take ps.length) (vs.map some) Lb ∧ Lb.Sublist L' := fun {σ' G' H' L'} R' k' => by
    obtain ⟨L1, r1, s1⟩ := R'.rep.wipe W
    have r2 : REnv K G' H' (wpE W env') (L2.start N vs) L1 := r1.retag (by rw [wipe_length]; exact k'.1) fun i d e => by
      have hi : i ∉ W := fun z => by
        have hl : i < env'.length := by
          have := (List.getElem?_eq_some_iff.mp e).1
          rwa [wpE_length] at this
        rw [wpE_at z hl] at e; cases e
      rw [wipe_off hi]
      exact k'.2 i hi
    obtain ⟨L3, r3, s2⟩ := r2.take ps.length
    refine ⟨L3, ?_, s2.trans s1⟩
    have : (_root_.L2.start N vs).take ps.length = vs.map some := by
      rw [es, ← hl, List.take_append_of_le_length (by simp), List.take_of_length_le (by simp)]
    rwa [this] at r3
  refine ⟨G, _, L, R0, fl, env', q2, ?_⟩
  cases fl with
  | bk => cases hF
  | ct => cases hF
  | nx =>
    cases hF
    intro σ' G' H' L' R' k' x'
    obtain ⟨Lb, rb, sb⟩ := giv R' k'
    exact q .non G' H' [] Lb R'.le rb .non (by rw [List.append_nil]; exact R'.nd.sublist sb) (x'.sub fun a z => x'.own a (sb.subset (by simpa using z)))
  | rt d =>
    cases hF
    intro σ' v G' H' L' Lr R' k' r' n' x'
    obtain ⟨Lb, rb, sb⟩ := giv R' k'
    exact q v G' H' Lr Lb R'.le rb r' (n'.sublist (sb.append (List.Sublist.refl _))) (x'.sub fun a z => x'.own a (((sb.append (List.Sublist.refl Lr)).subset) z))
end

/-! ### a call -/
def clF (F : List D → Option (D × En)) (FA : En → Option (List D × En)) : En → Option (D × En) := fun env => (FA env).bind fun a => (F a.1).map fun r => (r.1, a.2)
section
variable {X : Cx} {k : Nat} {f : Addr} {fd : FuncData} {ps : List Str} {F : List D → Option (D × En)} {FA : En → Option (List D × En)} {x : Str} {p pos : Pos} {e : Expr} {es : List Expr} {s : Bool}
theorem cl_lift {K : PySem.W.Frag} {n : Nat} {E : XK} (hn : ∀ ds r, F ds = some r → ds.length = n) (σ : St) (H : Hp) (Q : VK) (h : tE K true s (clF F FA) σ H Q) : tCall (spF K n F) [] E (tA K true s FA) σ H Q := by
  obtain ⟨G, env, L, R, d, env', hf, k⟩ := h
  unfold clF at hf
  cases q : FA env with
  | none => rw [q] at hf; simp at hf
  | some r =>
  obtain ⟨ds, e1⟩ := r
  rw [q] at hf
  simp only [Option.bind_some] at hf
  cases q2 : F ds with
  | none => rw [q2] at hf; simp at hf
  | some r =>
  obtain ⟨dr, back⟩ := r
  rw [q2] at hf
  simp only [Option.map_some, Option.some.injEq, Prod.mk.injEq] at hf
  obtain ⟨rfl, rfl⟩ := hf
  refine ⟨G, env, L, R, ds, e1, q, fun vs G1 H1 L1 La R1 ra n1 st1 x1 => ?_⟩
  have nn := n1 rfl
  have ap : ∀ a ∈ L1, a ∉ La := fun a h h' => (List.nodup_append.mp nn).2.2 a h a h' rfl
  refine ⟨by rw [List.append_nil, ← ra.length]; exact hn ds _ q2, G1, ds, La, R1.le, by rw [List.append_nil]; exact ra, (List.nodup_append.mp nn).2.1, dr, back, q2, fun v G2 H2 Lr Lb l2 rb rr n2 x2 => ?_⟩
  have R2 : RSt K σ G2 H2 e1 L1 := ⟨l2, R1.rep.mono x2.le fun a z => x2.keep (ap a z) (R1.rep.own a z).1 (R1.rep.own a z).2, R1.nd⟩
  have x12 : Ext L G H G2 H2 (Lb ++ Lr) := x1.trans x2 fun a z => x1.own a (List.mem_append_right _ z)
  refine k v G2 H2 L1 Lr R2 rr (fun _ => List.nodup_append.mpr ⟨R1.nd, (List.nodup_append.mp n2).2.1, fun a ha b hb e => ?_⟩) (fun hs => ?_) (x12.sub fun a z => ?_)
  · subst e
    rcases x2.own a (List.mem_append_right _ hb) with z | z
    · exact ap a ha z
    · exact (R1.rep.own a ha).2 z
  · obtain ⟨f1, f2, f3⟩ := st1 hs
    refine ⟨f1, f2, fun b hb => ?_⟩
    have hb1 : H1 b ≠ none := by rw [f3 b hb]; exact hb
    refine (x2.fr b (fun z => ?_) hb1).trans (f3 b hb)
    rcases x1.own b (List.mem_append_right _ z) with w | w
    · exact ap b (by rw [f2]; exact w) z
    · exact hb w
  · rcases List.mem_append.mp z with w | w
    · exact x1.own a (List.mem_append_left _ w)
    · exact x12.own a (List.mem_append_right _ w)
theorem ev_call (F' : FnV X.prog X.w X.K X.mg X.base k f fd ps F) (hn : ∀ ds r, F ds = some r → ds.length = ps.length) (hr : Room k X.A) (hg : Gl X x) (hm : X.mg x = some (.ref f)) (hk : PySem.W.keepIn X.K (.ref f) = true) (hb : Binds X.K fd ps []) (ha : Av X true s (e :: es) FA)
    (hdb : (x == ("__debug__" : Str)) = false := by decide) (he : starEach (e :: es) X.env = (false, eval e X.env) :: starEach es X.env := by rfl) (hpl : (backTo pos (starEach es X.env)).any (·.1) = false := by rfl) :
    Ev X true s (.Call (.Name x p) (e :: es) [] pos) (clF F FA) := peM (pe_call F' hr hg hm hk hb .nil pass0 ha hdb he hpl) (cl_lift hn)

/-! ### arguments that are lent -/
/-- lens: for each argument the slot that it was taken from, if it was lent -/
def tL (K : PySem.W.Frag) (lens : List (Option Nat)) (F : En → Option (List D × En)) : TA := fun σ H Q => ∃ G env L, RSt K σ G H env L ∧ ∃ d env', F env = some (d, env') ∧
  ∀ v G' H' L' Lr, RSt K σ G' H' env' L' → Rps K G' H' d v Lr → (L' ++ Lr).Nodup → (∀ (j i : Nat) (u : V), lens[j]? = some (some i) → v[j]? = some u → σ[i]? = some (some u)) → v.length = lens.length → Ext L G H G' H' (L' ++ Lr) → Q v H'
abbrev Lv (X : Cx) (lens : List (Option Nat)) (es : List Expr) (F : En → Option (List D × En)) : Prop := PA X es (tL X.K lens F)
def ldF (i : Nat) : En → Option (D × En) := fun env => (env[i]?).bind fun o => o.map fun d => (d, env.set i none)
theorem lv_nil : Lv X [] [] aNil := paM pa_nil fun σ H Q ⟨G, env, L, R, d, env', hf, k⟩ => by
  cases hf
  exact k [] G H L [] R .nil (by simpa using R.nd) (fun j i u h => by simp at h) rfl (Ext.refl fun b z => by simpa using z)
theorem lv_cons {F : En → Option (D × En)} {FR : En → Option (List D × En)} {lens : List (Option Nat)} (he : Ev X true s e F) (hr : Lv X lens es FR) (hs : starEach (e :: es) X.env = (false, eval e X.env) :: starEach es X.env := by rfl) : Lv X (none :: lens) (e :: es) (aCons F FR) :=
  paM (pa_cons he hr hs) fun σ H Q ⟨G, env, L, R, d, env', hf, k⟩ => by
  unfold aCons at hf
  cases q1 : F env with
  | none => rw [q1] at hf; simp at hf
  | some r1 =>
  obtain ⟨da, e1⟩ := r1
  rw [q1] at hf
  simp only [Option.bind_some] at hf
  cases q2 : FR e1 with
  | none => rw [q2] at hf; simp at hf
  | some r2 =>
  obtain ⟨dr, e2⟩ := r2
  rw [q2] at hf
  simp only [Option.map_some, Option.some.injEq, Prod.mk.injEq] at hf
  obtain ⟨rfl, rfl⟩ := hf
  refine ⟨G, env, L, R, da, e1, q1, fun x G1 H1 L1 La R1 ra n1 st1 x1 => ⟨G1, e1, L1, R1, dr, _, q2, fun y G2 H2 L2 Lb R2 rb n2 ln2 len2 x2 => ?_⟩⟩
  have n1' := n1 rfl
  have a1 := List.nodup_append.mp n1'
  have ra2 : Rp X.K G2 H2 da x La := ra.mono x2.le fun a z => x2.keep (fun w => a1.2.2 a w a z rfl) (ra.own a z).1 (ra.own a z).2
  refine k (x :: y) G2 H2 L2 (La ++ Lb) R2 (.cons ra2 rb) ?_ (fun j i u hj hu => ?_) (by simp [len2]) (ext_two x1 x2)
  · have a2 := List.nodup_append.mp n2
    have apart : ∀ z ∈ La, z ∉ L2 ++ Lb := fun z hz hz2 => by
      rcases x2.own z hz2 with w | w
      · exact a1.2.2 z w z hz rfl
      · exact (ra.own z hz).2 w
    refine List.nodup_append.mpr ⟨a2.1, List.nodup_append.mpr ⟨a1.2.1, a2.2.1, fun z hz y hy e => ?_⟩, fun z hz y hy e => ?_⟩
    · subst e; exact apart z hz (List.mem_append_right _ hy)
    · subst e
      rcases List.mem_append.mp hy with w | w
      · exact apart z w (List.mem_append_left _ hz)
      · exact a2.2.2 z hz z w rfl
  · cases j with
    | zero => simp at hj
    | succ j => exact ln2 j i u (by simpa using hj) (by simpa using hu)
theorem lv_lend {i : Nat} {FR : En → Option (List D × En)} {lens : List (Option Nat)} (he : PE X e (tVar i)) (hr : Lv X lens es FR) (hs : starEach (e :: es) X.env = (false, eval e X.env) :: starEach es X.env := by rfl) : Lv X (some i :: lens) (e :: es) (aCons (ldF i) FR) :=
  paM (pa_cons he hr hs) fun σ H Q ⟨G, env, L, R, d, env', hf, k⟩ => by
  unfold aCons ldF at hf
  cases q0 : env[i]? with
  | none => rw [q0] at hf; simp at hf
  | some o =>
  cases o with
  | none => rw [q0] at hf; simp at hf
  | some da =>
  rw [q0] at hf
  simp only [Option.bind_some, Option.map_some] at hf
  cases q2 : FR (env.set i none) with
  | none => rw [q2] at hf; simp at hf
  | some r2 =>
  obtain ⟨dr, e2⟩ := r2
  rw [q2] at hf
  simp only [Option.map_some, Option.some.injEq, Prod.mk.injEq] at hf
  obtain ⟨rfl, rfl⟩ := hf
  obtain ⟨hi, _⟩ := List.getElem?_eq_some_iff.mp q0
  obtain ⟨La, Li, Lb, e0, f, g⟩ := R.rep.at hi
  obtain ⟨v, ev, r⟩ := f da q0
  have g' := (g (Le.refl G) (H' := H) fun a z => ⟨(R.rep.own a (by rw [e0]; rcases List.mem_append.mp z with z | z <;> simp [z])).1, rfl⟩).2 (some v)
  have eσ : σ.set i (some v) = σ := by
    refine List.ext_getElem? fun j => ?_
    by_cases hj : i = j
    · subst hj
      obtain ⟨hl, _⟩ := List.getElem?_eq_some_iff.mp ev
      rw [List.getElem?_set_self hl, ev]
    · rw [List.getElem?_set_ne hj]
  rw [eσ] at g'
  have nd : (La ++ Li ++ Lb).Nodup := e0 ▸ R.nd
  have nd2 : ((La ++ Lb) ++ Li).Nodup := by
    refine (List.Perm.nodup_iff ?_).mp nd
    rw [List.append_assoc, List.append_assoc]
    exact List.Perm.append_left _ List.perm_append_comm
  refine ⟨v, ev, G, env.set i none, La ++ Lb, ⟨R.le, g', nd2.sublist (List.sublist_append_left _ _)⟩, dr, _, q2, fun y G2 H2 L2 Lc R2 rb n2 ln2 len2 x2 => ?_⟩
  have ap : ∀ a ∈ Li, a ∉ La ++ Lb := fun a z w => (List.nodup_append.mp nd2).2.2 a w a z rfl
  have ra2 : Rp X.K G2 H2 da v Li := r.mono x2.le fun a z => x2.keep (ap a z) (r.own a z).1 (r.own a z).2
  have x1 : Ext L G H G H ((La ++ Lb) ++ Li) := Ext.refl fun a z => by
    rw [e0]; simp only [List.mem_append] at z ⊢; rcases z with (z | z) | z <;> simp [z]
  refine k (v :: y) G2 H2 L2 (Li ++ Lc) R2 (.cons ra2 rb) ?_ (fun j i' u hj hu => ?_) (by simp [len2]) (ext_two x1 x2)
  · have a2 := List.nodup_append.mp n2
    have apart : ∀ z ∈ Li, z ∉ L2 ++ Lc := fun z hz hz2 => by
      rcases x2.own z hz2 with w | w
      · exact ap z hz w
      · exact (r.own z hz).2 w
    refine List.nodup_append.mpr ⟨a2.1, List.nodup_append.mpr ⟨(List.nodup_append.mp nd2).2.1, a2.2.1, fun z hz y hy e => ?_⟩, fun z hz y hy e => ?_⟩
    · subst e; exact apart z hz (List.mem_append_right _ hy)
    · subst e
      rcases List.mem_append.mp hy with w | w
      · exact apart z w (List.mem_append_left _ hz)
      · exact a2.2.2 z hz z w rfl
  · cases j with
    | zero => simp at hj hu; subst hj hu; exact ev
    | succ j => exact ln2 j i' u (by simpa using hj) (by simpa using hu)
/-- what was lent comes back -/
def giveE : List (Option Nat) → List D → En → En → En
  | some i :: ls, d :: ds, b :: bs, env => giveE ls ds bs (if d.pure = true then env.set i (some d) else match b with | some b => env.set i (some b) | none => env)
  | none :: ls, _ :: ds, _ :: bs, env => giveE ls ds bs env
  | _, _, _, env => env
theorem RSt.setAt {K : PySem.W.Frag} {σ : St} {G H : Hp} {env : En} {L Lr : List Addr} {i : Nat} {d : D} {v : V} (R : RSt K σ G H env L) (r : Rp K G H d v Lr) (n : (L ++ Lr).Nodup) (e : σ[i]? = some (some v)) :
    ∃ L', RSt K σ G H (env.set i (some d)) L' ∧ ∀ a ∈ L', a ∈ L ++ Lr := by
  have hi : i < env.length := by rw [R.rep.length]; exact (List.getElem?_eq_some_iff.mp e).1
  obtain ⟨L', R', s⟩ := R.put (i := i) r n (by unfold Pz.put; rw [if_pos hi])
  have eσ : σ.set i (some v) = σ := by
    refine List.ext_getElem? fun j => ?_
    by_cases hj : i = j
    · subst hj
      obtain ⟨hl, _⟩ := List.getElem?_eq_some_iff.mp e
      rw [List.getElem?_set_self hl, e]
    · rw [List.getElem?_set_ne hj]
  rw [eσ] at R'
  exact ⟨L', R', s⟩
theorem give_ok {K : PySem.W.Frag} {σ : St} {G G1 H H1 : Hp} : ∀ {lens : List (Option Nat)} {ds : List D} {vs : List V} {back env : En} {La Lb L : List Addr}, Rps K G1 H1 ds vs La → Le G1 G → REnv K G H back (vs.map some) Lb → RSt K σ G H env L → (L ++ Lb).Nodup →
    (∀ (j i : Nat) (u : V), lens[j]? = some (some i) → vs[j]? = some u → σ[i]? = some (some u)) → ∃ L', RSt K σ G H (giveE lens ds back env) L' ∧ ∀ a ∈ L', a ∈ L ++ Lb
  | [], ds, vs, back, env, La, Lb, L, ra, l, rb, R, n, ln => ⟨L, by simpa [giveE] using R, fun a z => List.mem_append_left _ z⟩
  | o :: ls, [], vs, back, env, La, Lb, L, ra, l, rb, R, n, ln => ⟨L, by cases o <;> simpa [giveE] using R, fun a z => List.mem_append_left _ z⟩
  | o :: ls, d :: ds, _ :: vs, _, env, _, _, L, .cons r ra, l, .non rb, R, n, ln => by
    have ln' : ∀ (j i : Nat) (u : V), ls[j]? = some (some i) → vs[j]? = some u → σ[i]? = some (some u) := fun j i u h1 h2 => ln (j + 1) i u (by simpa using h1) (by simpa using h2)
    cases o with
    | none => simpa [giveE] using give_ok ra l rb R n ln'
    | some i =>
      simp only [giveE]
      split
      · rename_i hp
        obtain rfl := r.pure_nil hp
        obtain ⟨L', R', s⟩ := R.setAt (r.mono l fun _ z => nomatch z : Rp K G H d _ []) (by simpa using R.nd) (ln 0 i _ rfl rfl)
        obtain ⟨L'', R'', s'⟩ := give_ok ra l rb R' (List.nodup_append.mpr ⟨R'.nd, (List.nodup_append.mp n).2.1, fun a ha b hb e => (List.nodup_append.mp n).2.2 a (by simpa using s a ha) b hb e⟩) ln'
        exact ⟨L'', R'', fun a z => by
          rcases List.mem_append.mp (s' a z) with w | w
          · exact List.mem_append_left _ (by simpa using s a w)
          · exact List.mem_append_right _ w⟩
      · exact give_ok ra l rb R n ln'
  | o :: ls, d :: ds, _ :: vs, _, env, _, _, L, .cons r ra, l, .val (d := b) (L1 := L1) (L2 := L2) q rb, R, n, ln => by
    have ln' : ∀ (j i : Nat) (u : V), ls[j]? = some (some i) → vs[j]? = some u → σ[i]? = some (some u) := fun j i u h1 h2 => ln (j + 1) i u (by simpa using h1) (by simpa using h2)
    cases o with
    | none =>
      obtain ⟨L', R', s⟩ := give_ok ra l rb R (n.sublist ((List.Sublist.refl _).append (List.sublist_append_right _ _))) ln'
      exact ⟨L', by simpa [giveE] using R', fun a z => by rcases List.mem_append.mp (s a z) with w | w <;> simp [w]⟩
    | some i =>
      simp only [giveE]
      split
      · rename_i hp
        obtain rfl := r.pure_nil hp
        obtain ⟨L', R', s⟩ := R.setAt (r.mono l fun _ z => nomatch z : Rp K G H d _ []) (by simpa using R.nd) (ln 0 i _ rfl rfl)
        obtain ⟨L'', R'', s'⟩ := give_ok ra l rb R' (List.nodup_append.mpr ⟨R'.nd, ((List.nodup_append.mp n).2.1).sublist (List.sublist_append_right _ _), fun a ha b hb e => (List.nodup_append.mp n).2.2 a (by simpa using s a ha) b (List.mem_append_right _ hb) e⟩) ln'
        exact ⟨L'', R'', fun a z => by
          rcases List.mem_append.mp (s' a z) with w | w
          · exact List.mem_append_left _ (by simpa using s a w)
          · simp [w]⟩
      · obtain ⟨L', R', s⟩ := R.setAt q (n.sublist ((List.Sublist.refl _).append (List.sublist_append_left _ _))) (ln 0 i _ rfl rfl)
        have n3 : (L ++ L1 ++ L2).Nodup := by simpa using n
        obtain ⟨L'', R'', s'⟩ := give_ok ra l rb R' (List.nodup_append.mpr ⟨R'.nd, (List.nodup_append.mp n3).2.1, fun a ha b hb e => (List.nodup_append.mp n3).2.2 a (s a ha) b hb e⟩) ln'
        exact ⟨L'', R'', fun a z => by
          rcases List.mem_append.mp (s' a z) with w | w
          · have := s a w; simp only [List.mem_append] at this ⊢; rcases this with w | w <;> simp [w]
          · simp [w]⟩
def lcallF (lens : List (Option Nat)) (F : List D → Option (D × En)) (FA : En → Option (List D × En)) : En → Option (D × En) := fun env => (FA env).bind fun a => (F a.1).map fun r => (r.1, giveE lens a.1 r.2 a.2)
theorem ev_callL {lens : List (Option Nat)} (F' : FnV X.prog X.w X.K X.mg X.base k f fd ps F) (hr : Room k X.A) (hg : Gl X x) (hm : X.mg x = some (.ref f)) (hk : PySem.W.keepIn X.K (.ref f) = true) (hb : Binds X.K fd ps []) (ha : Lv X lens (e :: es) FA) (hlen : lens.length = ps.length := by rfl)
    (hdb : (x == ("__debug__" : Str)) = false := by decide) (he : starEach (e :: es) X.env = (false, eval e X.env) :: starEach es X.env := by rfl) (hpl : (backTo pos (starEach es X.env)).any (·.1) = false := by rfl) :
    Ev X true false (.Call (.Name x p) (e :: es) [] pos) (lcallF lens F FA) := peM (pe_call F' hr hg hm hk hb .nil pass0 ha hdb he hpl) fun σ H Q h => by
  obtain ⟨G, env, L, R, d, env', hf, k⟩ := h
  unfold lcallF at hf
  cases q : FA env with
  | none => rw [q] at hf; simp at hf
  | some r =>
  obtain ⟨ds, e1⟩ := r
  rw [q] at hf
  simp only [Option.bind_some] at hf
  cases q2 : F ds with
  | none => rw [q2] at hf; simp at hf
  | some r =>
  obtain ⟨dr, back⟩ := r
  rw [q2] at hf
  simp only [Option.map_some, Option.some.injEq, Prod.mk.injEq] at hf
  obtain ⟨rfl, rfl⟩ := hf
  refine ⟨G, env, L, R, ds, e1, q, fun vs G1 H1 L1 La R1 ra nn ln1 len1 x1 => ?_⟩
  have ap : ∀ a ∈ L1, a ∉ La := fun a h h' => (List.nodup_append.mp nn).2.2 a h a h' rfl
  refine ⟨by rw [List.append_nil, len1, hlen], G1, ds, La, R1.le, by rw [List.append_nil]; exact ra, (List.nodup_append.mp nn).2.1, dr, back, q2, fun v G2 H2 Lr Lb l2 rb rr n2 x2 => ?_⟩
  rw [List.append_nil] at rb
  have R2 : RSt X.K σ G2 H2 e1 L1 := ⟨l2, R1.rep.mono x2.le fun a z => x2.keep (ap a z) (R1.rep.own a z).1 (R1.rep.own a z).2, R1.nd⟩
  have x12 : Ext L G H G2 H2 (Lb ++ Lr) := x1.trans x2 fun a z => x1.own a (List.mem_append_right _ z)
  have ap2 : ∀ a ∈ Lb ++ Lr, a ∉ L1 := fun a h h' => by
    rcases x2.own a h with z | z
    · exact ap a h' z
    · exact (R1.rep.own a h').2 z
  have n3 : ((L1 ++ Lb) ++ Lr).Nodup := by
    rw [List.append_assoc]
    exact List.nodup_append.mpr ⟨R1.nd, n2, fun a ha b hb e => ap2 b hb (by rw [← e]; exact ha)⟩
  obtain ⟨L3, R3, s3⟩ := give_ok ra x2.le rb R2 (n3.sublist (List.sublist_append_left _ _)) ln1
  refine k v G2 H2 L3 Lr R3 rr (fun _ => List.nodup_append.mpr ⟨R3.nd, (List.nodup_append.mp n3).2.1, fun a ha b hb e => (List.nodup_append.mp n3).2.2 a (s3 a ha) b hb e⟩) (fun z => nomatch z) (x12.sub fun a z => ?_)
  rcases List.mem_append.mp z with w | w
  · rcases List.mem_append.mp (s3 a w) with w | w
    · exact x1.own a (List.mem_append_left _ w)
    · exact x12.own a (List.mem_append_left _ w)
  · exact x12.own a (List.mem_append_right _ w)
end
end
end Pz

set_option Elab.async false
set_option linter.all false
set_option maxRecDepth 100000
set_option maxHeartbeats 1000000
namespace Pz
open PySem L2
noncomputable section

def lineLt (n : Nat) : Bool := tst (n < 16777216)
theorem lineLt_lt {n : Nat} (h : lineLt n = true) : n < sizeLine := by rw [sizeLine_eq]; exact of_tst h
def isL : Option (Option D) → Bool
  | some (some (.lst _ _)) => true
  | _ => false
def mtF (i : Nat) (f : List D → List D → Option (D × List D)) (FA : En → Option (List D × En)) : En → Option (D × En) := fun env => if isL env[i]? = true then (FA env).bind fun a => match a.2[i]? with
  | some (some (.lst true ds)) => (f ds a.1).map fun r => (r.1, a.2.set i (some (.lst true r.2)))
  | _ => none
  else none
def MutOK (K : PySem.W.Frag) (r : V → List V → Hp → VK → Prop) (f : List D → List D → Option (D × List D)) : Prop := ∀ {G H : Hp} {ds as ds' : List D} {vs xs : List V} {p : Addr} {L1 La : List Addr} {res : D} {Q : VK},
  Le G H → G p = none → H p = some (.lst vs) → Rps K G H ds vs L1 → Rps K G H as xs La → (L1 ++ La).Nodup → f ds as = some (res, ds') →
  (∀ v vs' Lr L', Rp K G H res v Lr → Rps K G H ds' vs' L' → (L' ++ Lr).Nodup → (∀ a ∈ L' ++ Lr, a ∈ L1 ++ La) → Q v (upd H p (.lst vs'))) → r (.ref p) xs H Q
section
variable {K : PySem.W.Frag}
theorem isL_ok {σ : St} {G H : Hp} {env : En} {L : List Addr} {i : Nat} (R : RSt K σ G H env L) (h : isL env[i]? = true) : ∃ p, σ[i]? = some (some (.ref p)) ∧ ∃ xs, SqL K H p xs := by
  cases q : env[i]? with
  | none => rw [q] at h; cases h
  | some o =>
  cases o with
  | none => rw [q] at h; cases h
  | some d =>
  rw [q] at h
  obtain ⟨hi, _⟩ := List.getElem?_eq_some_iff.mp q
  obtain ⟨La, Li, Lb, e0, f, _⟩ := R.rep.at hi
  obtain ⟨v, ev, r⟩ := f d q
  cases d <;> simp only [isL, Bool.false_eq_true] at h
  obtain ⟨p, vs, _, rfl, sa, _, _⟩ := r.lst_inv R.le
  exact ⟨p, ev, vs, SqL.of sa⟩
/-- the changed list in its slot -/
theorem RSt.chg {σ : St} {G H : Hp} {env : En} {L Lx : List Addr} {i : Nat} {ds : List D} (R : RSt K σ G H env L) (e : env[i]? = some (some (.lst true ds))) (nx : ∀ a ∈ Lx, a ∉ L) :
    ∃ p vs L1, σ[i]? = some (some (.ref p)) ∧ G p = none ∧ H p = some (.lst vs) ∧ Rps K G H ds vs L1 ∧ p ∈ L ∧ (∀ a ∈ L1, a ∈ L) ∧ (p :: L1).Nodup ∧
      ∀ {ds' : List D} {vs' : List V} {L' : List Addr}, Rps K G H ds' vs' L' → L'.Nodup → (∀ a ∈ L', a ∈ L1 ∨ a ∈ Lx) → p ∉ L' → ∃ L2, RSt K σ G (upd H p (.lst vs')) (env.set i (some (.lst true ds'))) L2 ∧ ∀ a ∈ L2, (a ∈ L ∧ a ∉ L1) ∨ a ∈ L' := by
  obtain ⟨hi, _⟩ := List.getElem?_eq_some_iff.mp e
  obtain ⟨La, Li, Lb, e0, f, g⟩ := R.rep.at hi
  obtain ⟨v, ev, r⟩ := f _ e
  cases r with
  | @lstO p vs _ L1 n h hs =>
  have nd : (La ++ (p :: L1) ++ Lb).Nodup := e0 ▸ R.nd
  have nd1 := List.nodup_append.mp nd
  have nd2 := List.nodup_append.mp nd1.1
  have offp : ∀ a ∈ La ++ Lb, a ∉ p :: L1 := fun a z w => by
    rcases List.mem_append.mp z with z | z
    · exact nd2.2.2 a z a w rfl
    · exact nd1.2.2 a (List.mem_append_right _ w) a z rfl
  refine ⟨p, vs, L1, ev, n, h, hs, by rw [e0]; simp, fun a z => by rw [e0]; simp [z], nd2.2.1, fun {ds' vs' L'} r' n' s' np => ?_⟩
  have up : ∀ a, a ≠ p → upd H p (.lst vs') a = H a := fun a z => upd_ne z
  have r2 : Rp K G (upd H p (.lst vs')) (.lst true ds') (.ref p) (p :: L') := .lstO n upd_same (r'.mono (Le.refl _) fun a z => ⟨(r'.own a z).1, up a fun q => np (q ▸ z)⟩)
  have q := (g (Le.refl G) (H' := upd H p (.lst vs')) fun a z => ⟨(R.rep.own a (by rw [e0]; rcases List.mem_append.mp z with z | z <;> simp [z])).1, up a fun w => offp a z (by simp [w])⟩).1 r2
  have eσ : σ.set i (some (.ref p)) = σ := by
    refine List.ext_getElem? fun j => ?_
    by_cases hj : i = j
    · subst hj
      obtain ⟨hl, _⟩ := List.getElem?_eq_some_iff.mp ev
      rw [List.getElem?_set_self hl, ev]
    · rw [List.getElem?_set_ne hj]
  rw [eσ] at q
  have inL : ∀ a ∈ La ++ Lb, a ∈ L := fun a z => by rw [e0]; rcases List.mem_append.mp z with z | z <;> simp [z]
  have ap : ∀ a ∈ p :: L', a ∉ La ++ Lb := fun a z w => by
    rcases List.mem_cons.mp z with y | y
    · exact offp a w (by simp [y])
    · rcases s' a y with y | y
      · exact offp a w (by simp [y])
      · exact nx a y (inL a w)
  refine ⟨La ++ (p :: L') ++ Lb, ⟨fun a o x => ?_, q, ?_⟩, fun a z => ?_⟩
  · rw [up a fun w => by rw [w, n] at x; cases x]
    exact R.le a o x
  · refine List.nodup_append.mpr ⟨List.nodup_append.mpr ⟨nd2.1, List.nodup_cons.mpr ⟨np, n'⟩, fun a ha b hb e => ?_⟩, nd1.2.1, fun a ha b hb e => ?_⟩
    · subst e; exact ap a hb (List.mem_append_left _ ha)
    · subst e
      rcases List.mem_append.mp ha with w | w
      · exact nd1.2.2 a (List.mem_append_left _ w) a hb rfl
      · exact ap a w (List.mem_append_right _ hb)
  · simp only [List.mem_append, List.mem_cons] at z
    rcases z with (z | z | z) | z
    · exact .inl ⟨inL a (by simp [z]), fun w => offp a (by simp [z]) (by simp [w])⟩
    · subst z; exact .inl ⟨by rw [e0]; simp, fun w => (List.nodup_cons.mp nd2.2.1).1 w⟩
    · exact .inr z
    · exact .inl ⟨inL a (by simp [z]), fun w => offp a (by simp [z]) (by simp [w])⟩
theorem mt_lift {i : Nat} {r : V → List V → Hp → VK → Prop} {f : List D → List D → Option (D × List D)} {FA : En → Option (List D × En)} {s : Bool} (hr : MutOK K r f) (σ : St) (H : Hp) (Q : VK) (h : tE K true false (mtF i f FA) σ H Q) :
    ∃ x, σ[i]? = some (some x) ∧ tyV K "list" x H ∧ tA K true s FA σ H fun xs H2 => r x xs H2 Q := by
  obtain ⟨G, env, L, R, d, env', hf, k⟩ := h
  unfold mtF at hf
  split at hf
  case isFalse => cases hf
  rename_i hl
  obtain ⟨p0, e0, xs0, sq0⟩ := isL_ok R hl
  cases q : FA env with
  | none => rw [q] at hf; simp at hf
  | some a =>
  obtain ⟨as, e1⟩ := a
  rw [q] at hf
  simp only [Option.bind_some] at hf
  split at hf
  case h_2 => cases hf
  rename_i ds hd
  cases q2 : f ds as with
  | none => rw [q2] at hf; simp at hf
  | some u =>
  obtain ⟨res, ds'⟩ := u
  rw [q2] at hf
  simp only [Option.map_some, Option.some.injEq, Prod.mk.injEq] at hf
  obtain ⟨rfl, rfl⟩ := hf
  refine ⟨_, e0, .inl ⟨rfl, _, sq0⟩, G, env, L, R, as, e1, q, fun xs G1 H1 L1 La R1 ra n1 st1 x1 => ?_⟩
  have nn := List.nodup_append.mp (n1 rfl)
  obtain ⟨p, vs, Li, ep, gp, hp, rs, pL, iL, nL, chg⟩ := R1.chg (Lx := La) hd fun a z w => nn.2.2 a w a z rfl
  rw [e0] at ep
  cases ep
  refine hr R1.le gp hp rs ra (List.nodup_append.mpr ⟨(List.nodup_cons.mp nL).2, nn.2.1, fun a ha b hb e => nn.2.2 a (iL a ha) b hb e⟩) q2 fun v vs' Lr L' rr rs' nr sr => ?_
  have nr' := List.nodup_append.mp nr
  have np : p0 ∉ L' ++ Lr := fun z => by
    rcases List.mem_append.mp (sr _ z) with w | w
    · exact (List.nodup_cons.mp nL).1 w
    · exact nn.2.2 _ pL _ w rfl
  obtain ⟨L2, R2, s2⟩ := chg rs' nr'.1 (fun a z => List.mem_append.mp (sr a (List.mem_append_left _ z))) fun z => np (List.mem_append_left _ z)
  have rr2 : Rp K G1 (upd H1 p0 (.lst vs')) res v Lr := rr.mono (Le.refl _) fun a z => ⟨(rr.own a z).1, upd_ne fun w => np (by rw [← w]; exact List.mem_append_right _ z)⟩
  refine k v G1 _ L2 Lr R2 rr2 (fun _ => List.nodup_append.mpr ⟨R2.nd, nr'.2.1, fun a ha b hb e => ?_⟩) (fun z => nomatch z) ⟨x1.le, fun b nb hb => ?_, x1.gd, fun b hb => ?_⟩
  · subst e
    rcases s2 a ha with ⟨w, w'⟩ | w
    · rcases List.mem_append.mp (sr a (List.mem_append_right _ hb)) with z | z
      · exact w' z
      · exact nn.2.2 a w a z rfl
    · exact nr'.2.2 a w a hb rfl
  · rw [upd_ne fun w => ?_]
    · exact x1.fr b nb hb
    · rcases x1.own b (by rw [w]; exact List.mem_append_left _ pL) with z | z
      · exact nb z
      · exact hb z
  · refine x1.own b ?_
    have : b ∈ L1 ∨ b ∈ Li ++ La := by
      rcases List.mem_append.mp hb with w | w
      · rcases s2 b w with ⟨w, _⟩ | w
        · exact .inl w
        · exact .inr (sr b (List.mem_append_left _ w))
      · exact .inr (sr b (List.mem_append_right _ w))
    rcases this with w | w
    · exact List.mem_append_left _ w
    · rcases List.mem_append.mp w with w | w
      · exact List.mem_append_left _ (iL b w)
      · exact List.mem_append_right _ w
end
section
variable {X : Cx} {o e : Expr} {es : List Expr} {name : Str} {apos cpos : Pos} {id : String} {r : V → List V → Hp → VK → Prop} {f : List D → List D → Option (D × List D)} {FA : En → Option (List D × En)} {i : Nat} {s : Bool}
theorem ev_mt (slot : PySem.Slot "list" name id) (hty : typeOf (.builtin id) = pure (.type "method_descriptor")) (hm : MtR X id r) (hr : MutOK X.K r f) (ho : PE X o (tVar i)) (ha : Av X true s (e :: es) FA)
    (hbase : attributeBase o name X.env (eval o X.env) = eval o X.env := by rfl)
    (hfew : ((backTo cpos (starEach (e :: es) X.env)).all (fun x => !x.1) && (backToKw cpos (keywordEach [] X.env)).all (fun x => x.1.isSome)
      && decide ((e :: es).length + ([] : List Keyword).length + (if ([] : List Keyword).isEmpty then 0 else 1) < 30)) = true := by rfl)
    (hline : (apos.endLine == cpos.line) = true := by rfl) (hs : starEach (e :: es) X.env = (false, eval e X.env) :: starEach es X.env := by rfl) (hplain : (backTo cpos (starEach es X.env)).any (·.1) = false := by rfl) :
    Ev X true false (.Call (.Attribute o name apos) (e :: es) [] cpos) (mtF i f FA) := peM (pe_bm PySem.F.plainAttrs_list slot hty hm ho ha hbase hfew hline hs hplain) fun σ H Q h => mt_lift hr σ H Q h
theorem ev_mt0 (slot : PySem.Slot "list" name id) (hty : typeOf (.builtin id) = pure (.type "method_descriptor")) (hm : MtR X id r) (hr : MutOK X.K r f) (ho : PE X o (tVar i))
    (hbase : attributeBase o name X.env (eval o X.env) = eval o X.env := by rfl) (hline : (apos.endLine == cpos.line) = true := by rfl) :
    Ev X true false (.Call (.Attribute o name apos) [] [] cpos) (mtF i f aNil) := peM (pe_bm0 PySem.F.plainAttrs_list slot hty hm ho hbase hline) fun σ H Q h => by
  obtain ⟨x, e1, ty, G, env, L, R, d, env', hf, k⟩ := mt_lift (s := true) hr σ H Q h
  cases hf
  exact ⟨x, e1, ty, k [] G H L [] R .nil (fun _ => by simpa using R.nd) (fun _ => ⟨rfl, rfl, fun _ _ => rfl⟩) (Ext.refl fun b z => by simpa using z)⟩
end

/-! ### the methods -/
def mAppend : List D → List D → Option (D × List D)
  | ds, [d] => if lineLt ds.length = true then some (.non, ds ++ [d]) else none
  | _, _ => none
def mInsert : List D → List D → Option (D × List D)
  | ds, [.int i, d] => if lineLt ds.length = true ∧ rgOk i = true ∧ 0 ≤ i ∧ D.pures ds = true then some (.non, ds.take i.toNat ++ [d] ++ ds.drop i.toNat) else none
  | _, _ => none
def mPop : List D → List D → Option (D × List D)
  | ds, [] => if D.pures ds = true then ds[ds.length - 1]?.map fun d => (d, ds.dropLast) else none
  | _, _ => none
def mPopAt : List D → List D → Option (D × List D)
  | ds, [.int i] => if D.pures ds = true ∧ rgOk i = true then (seqIndex? i ds.length).bind fun k => ds[k]?.map fun d => (d, ds.eraseIdx k) else none
  | _, _ => none
def mExtend : List D → List D → Option (D × List D)
  | ds, [.lst _ xs] => if D.pures xs = true ∧ lineOk (ds.length + xs.length) = true then some (.non, ds ++ xs) else none
  | _, _ => none
section
variable {K : PySem.W.Frag} {G H : Hp}
theorem mut_append : MutOK K rAppend mAppend := by
  intro G H ds as ds' vs xs p L1 La res Q l gp hp rs ra nd e k
  unfold mAppend at e
  split at e
  · split at e
    · rename_i d hl
      cases e
      obtain ⟨v, rfl, r⟩ := ra.one
      exact ⟨p, vs, v, rfl, rfl, hp, by rw [← rs.length]; exact lineLt_lt hl, k .non (vs ++ [v]) [] (L1 ++ La) .non (rs.append (by simpa using Rps.cons (L2 := []) r .nil)) (by simpa using nd) fun a z => by simpa using z⟩
    · cases e
  · cases e
theorem Rps.pures {ds : List D} {vs : List V} {L : List Addr} (r : Rps K G H ds vs L) (h : D.pures ds = true) : Rps K G H ds vs [] ∧ L = [] := by
  have e := r.pure_nil h
  subst e
  exact ⟨r, rfl⟩
theorem mut_insert : MutOK K (fun x vs H Q => ∃ (l : Addr) (xs : List V) (i : Int) (y : V), x = .ref l ∧ vs = [.int i, y] ∧ H l = some (.lst xs) ∧ xs.length < sizeLine ∧ 0 ≤ i ∧ i < 2 ^ 63 ∧
    Q .non (upd H l (.lst (xs.take i.toNat ++ [y] ++ xs.drop i.toNat)))) mInsert := by
  intro G H ds as ds' vs xs p L1 La res Q l gp hp rs ra nd e k
  unfold mInsert at e
  split at e
  · split at e
    · rename_i i d hl
      cases e
      obtain ⟨v, w, L2, L3, rfl, r1, r2, rfl⟩ := ra.two
      obtain ⟨rfl, rfl⟩ := r1.int_inv
      obtain ⟨rs', rfl⟩ := rs.pures hl.2.2.2
      obtain ⟨b1, b2⟩ := rgOk_of hl.2.1
      refine ⟨p, vs, i, w, rfl, rfl, hp, by rw [← rs.length]; exact lineLt_lt hl.1, hl.2.2.1, by omega, ?_⟩
      refine k .non (vs.take i.toNat ++ [w] ++ vs.drop i.toNat) [] L3 .non ?_ (by simpa using nd) fun a z => by simpa using z
      have q := ((rs'.take i.toNat).append (Rps.cons (L2 := []) r2 .nil)).append (rs'.drop i.toNat)
      simpa using q
    · cases e
  · cases e
theorem Rps.dropLast {ds : List D} {vs : List V} (r : Rps K G H ds vs []) : Rps K G H ds.dropLast vs.dropLast [] := by
  rw [List.dropLast_eq_take, List.dropLast_eq_take, r.length]
  exact r.take _
theorem mut_pop : MutOK K rPop mPop := by
  intro G H ds as ds' vs xs p L1 La res Q l gp hp rs ra nd e k
  unfold mPop at e
  split at e
  · split at e
    · rename_i hl
      obtain ⟨rs', rfl⟩ := rs.pures hl
      cases q : ds[ds.length - 1]? with
      | none => rw [q] at e; cases e
      | some d =>
        rw [q] at e; cases e
        cases ra
        obtain ⟨v, L2, ev, rv, s⟩ := rs'.get q
        obtain rfl := List.sublist_nil.mp s
        exact ⟨p, vs, v, rfl, rfl, hp, by rw [← rs.length]; exact ev, k v vs.dropLast [] [] rv rs'.dropLast (by simp) fun a z => by simp at z⟩
    · cases e
  · cases e
theorem Rps.eraseIdx {ds : List D} {vs : List V} (j : Nat) (r : Rps K G H ds vs []) : Rps K G H (ds.eraseIdx j) (vs.eraseIdx j) [] := by
  rw [List.eraseIdx_eq_take_drop_succ, List.eraseIdx_eq_take_drop_succ]
  simpa using (r.take j).append (r.drop (j + 1))
theorem mut_popAt : MutOK K rPopAt mPopAt := by
  intro G H ds as ds' vs xs p L1 La res Q l gp hp rs ra nd e k
  unfold mPopAt at e
  split at e
  · rename_i i
    split at e
    · rename_i hl
      obtain ⟨rs', rfl⟩ := rs.pures hl.1
      obtain ⟨w, rfl, ri⟩ := ra.one
      obtain ⟨rfl, _⟩ := ri.int_inv
      cases q : seqIndex? i ds.length with
      | none => rw [q] at e; cases e
      | some j =>
        rw [q] at e
        simp only [Option.bind_some] at e
        cases q2 : ds[j]? with
        | none => rw [q2] at e; cases e
        | some d =>
          rw [q2] at e; cases e
          obtain ⟨v, L2, ev, rv, s⟩ := rs'.get q2
          obtain rfl := List.sublist_nil.mp s
          obtain ⟨b1, b2⟩ := rgOk_of hl.2
          exact ⟨p, vs, i, j, v, rfl, rfl, hp, by omega, by omega, by rw [← rs.length]; exact q, ev, k v (vs.eraseIdx j) [] [] rv (rs'.eraseIdx j) (by simp) fun a z => by simp at z⟩
    · cases e
  · cases e
theorem mut_extend : MutOK K rExtend mExtend := by
  intro G H ds as ds' vs xs p L1 La res Q l gp hp rs ra nd e k
  unfold mExtend at e
  split at e
  · split at e
    · rename_i o ys hl
      cases e
      obtain ⟨w, rfl, r⟩ := ra.one
      obtain ⟨b, ws, L2, rfl, sb, qb, s2⟩ := r.lst_inv l
      obtain ⟨qb', rfl⟩ := qb.pures hl.1
      exact ⟨p, b, vs, ws, rfl, rfl, hp, sb, by rw [← rs.length, ← qb'.length]; exact lineOk_le hl.2, k .non (vs ++ ws) [] L1 .non (by simpa using rs.append qb') (by simpa using nd.sublist (List.sublist_append_left _ _)) fun a z => by simp at z ⊢; exact .inl z⟩
    · cases e
  · cases e
end

/-! ### xs[i] = v -/
def siF (i : Nat) (FI : En → Option (D × En)) : D → En → Option En := fun d env => if isL env[i]? = true then (FI env).bind fun a => match a.1, a.2[i]? with
  | .int k, some (some (.lst true ds)) => if D.pures ds = true then (ixN ds.length k).map fun j => a.2.set i (some (.lst true (ds.set j d))) else none
  | _, _ => none
  else none
theorem Rps.setPure {K : PySem.W.Frag} {G H : Hp} {ds : List D} {vs : List V} {j : Nat} {d : D} {v : V} {Lv : List Addr} (r : Rps K G H ds vs []) (rv : Rp K G H d v Lv) (hj : j < ds.length) : Rps K G H (ds.set j d) (vs.set j v) Lv := by
  obtain ⟨v0, La, L1, Lb, e0, _, _, f⟩ := r.set (i := j) (d := ds[j]) (by simp [hj])
  have e : La = [] ∧ L1 = [] ∧ Lb = [] := by
    have := e0.symm
    simp at this
    exact ⟨this.1, this.2.1, this.2.2⟩
  obtain ⟨rfl, rfl, rfl⟩ := e
  simpa using f (Le.refl _) (fun a z => by simp at z) rv
theorem gv_item {X : Cx} {o b : Expr} {pos : Pos} {FI : En → Option (D × En)} {i : Nat} {s : Bool} (ho : PE X o (tVar i)) (hi : Ev X true s b FI) (ha : ∀ v, assign (.Subscript o b pos) X.env v = (do
      let ov ← holding [v] (eval o X.env)
      let iv ← holding [v, ov] (eval b X.env)
      standAt pos
      holding [v, ov, iv] (setItem ov iv v)
      release [v, ov, iv] []) := by intro _; rfl) : Gv X [] (.Subscript o b pos) (siF i FI) := pgM (pg_sub ho hi set_list ha) fun v σ H Q ⟨G, env, L, d, Lr, R, r, n, env', hf, k⟩ => by
  unfold siF at hf
  split at hf
  case isFalse => cases hf
  rename_i hl
  obtain ⟨p0, e0, xs0, sq0⟩ := isL_ok R hl
  cases q : FI env with
  | none => rw [q] at hf; simp at hf
  | some a =>
  obtain ⟨ad, e1⟩ := a
  rw [q] at hf
  simp only [Option.bind_some] at hf
  split at hf
  case h_2 => cases hf
  rename_i kk ds hd2
  split at hf
  case isFalse => cases hf
  rename_i hp
  cases q2 : ixN ds.length kk with
  | none => rw [q2] at hf; cases hf
  | some j =>
  rw [q2] at hf
  simp only [Option.map_some, Option.some.injEq] at hf
  subst hf
  have nn := List.nodup_append.mp n
  refine ⟨_, e0, G, env, L, R, _, e1, q, fun x G1 H1 L1 La R1 ra n1 st1 x1 => ?_⟩
  obtain ⟨rfl, rfl⟩ := ra.int_inv
  have x1' : Ext L G H G1 H1 L1 := by simpa using x1
  have rv : Rp X.K G1 H1 d v Lr := r.mono x1.le fun a z => x1.keep (fun w => nn.2.2 a w a z rfl) (r.own a z).1 (r.own a z).2
  have ap : ∀ a ∈ Lr, a ∉ L1 := fun a z w => by
    rcases x1'.own a w with y | y
    · exact nn.2.2 a y a z rfl
    · exact (r.own a z).2 y
  obtain ⟨p, vs, Li, ep, gp, hp', rs, pL, iL, nL, chg⟩ := R1.chg (Lx := Lr) hd2 ap
  rw [e0] at ep
  cases ep
  obtain ⟨rs', rfl⟩ := rs.pures hp
  have hj : j < ds.length := (ixN_seq q2).2.1
  have np : p0 ∉ Lr := fun z => ap _ z pL
  obtain ⟨L2, R2, s2⟩ := chg (rs'.setPure rv hj) nn.2.1 (fun a z => .inr z) np
  refine ⟨p0, vs, kk, j, rfl, rfl, hp', by rw [← rs.length]; exact q2, ?_⟩
  refine k σ G1 _ L2 R2 (Keep.refl _ _) ⟨x1.le, fun b nb hb => ?_, fun b hb => (x1.gd b hb).imp id fun z => z.imp (List.mem_append_left _) id, fun b hb => ?_⟩
  · rw [upd_ne fun w => ?_]
    · exact x1'.fr b (fun z => nb (List.mem_append_left _ z)) hb
    · rcases x1'.own b (by rw [w]; exact pL) with z | z
      · exact nb (List.mem_append_left _ z)
      · exact hb z
  · rcases s2 b hb with ⟨w, _⟩ | w
    · exact (x1'.own b w).imp (List.mem_append_left _) id
    · exact .inl (List.mem_append_right _ w)
end
end Pz

set_option Elab.async false
set_option linter.all false
set_option maxRecDepth 100000
set_option maxHeartbeats 1000000
namespace Pz
open PySem L2
noncomputable section

def Arity (n : Nat) (F : List D → Option (D × En)) : Prop := ∀ ds r, F ds = some r → ds.length = n
theorem arity_fnF {n m : Nat} {W : List Nat} {FB : En → Option (Fl × En)} : Arity n (fnF n m W FB) := fun ds r h => by
  unfold fnF at h
  split at h
  · assumption
  · cases h
/-- a def as its callers see it -/
def Cal (P : Program) (w : World) (K : PySem.W.Frag) (mg : Str → Option Value) (base : Heap) (x : Str) (k : Nat) (ps : List Str) (F : List D → Option (D × En)) : Prop :=
  Arity ps.length F ∧ ∃ f fd, FnV P w K mg base k f fd ps F ∧ mg x = some (.ref f) ∧ PySem.W.keepIn K (.ref f) = true ∧ Binds K fd ps []
theorem cal_mk {P : Program} {w : World} {K : PySem.W.Frag} {mg : Str → Option Value} {base : Heap} {x : Str} {k : Nat} {ps : List Str} {F : List D → Option (D × En)} {f : Addr} {fd : FuncData} (a : Arity ps.length F) (h : FnV P w K mg base k f fd ps F) (hm : mg x = some (.ref f)) (hk : PySem.W.keepIn K (.ref f) = true) (hb : Binds K fd ps []) :
    Cal P w K mg base x k ps F := ⟨a, f, fd, h, hm, hk, hb⟩
section
variable {X : Cx} {k : Nat} {ps : List Str} {F : List D → Option (D × En)} {FA : En → Option (List D × En)} {x : Str} {p pos : Pos} {e : Expr} {es : List Expr} {s : Bool} {lens : List (Option Nat)}
theorem ev_def (h : Cal X.prog X.w X.K X.mg X.base x k ps F) (hr : Room k X.A) (hg : Gl X x) (ha : Av X true s (e :: es) FA)
    (hdb : (x == ("__debug__" : Str)) = false := by decide) (he : starEach (e :: es) X.env = (false, eval e X.env) :: starEach es X.env := by rfl) (hpl : (backTo pos (starEach es X.env)).any (·.1) = false := by rfl) :
    Ev X true s (.Call (.Name x p) (e :: es) [] pos) (clF F FA) := by
  obtain ⟨a, f, fd, F', hm, hk, hb⟩ := h
  exact ev_call F' a hr hg hm hk hb ha hdb he hpl
theorem ev_defL (h : Cal X.prog X.w X.K X.mg X.base x k ps F) (hr : Room k X.A) (hg : Gl X x) (ha : Lv X lens (e :: es) FA) (hlen : lens.length = ps.length := by rfl)
    (hdb : (x == ("__debug__" : Str)) = false := by decide) (he : starEach (e :: es) X.env = (false, eval e X.env) :: starEach es X.env := by rfl) (hpl : (backTo pos (starEach es X.env)).any (·.1) = false := by rfl) :
    Ev X true false (.Call (.Name x p) (e :: es) [] pos) (lcallF lens F FA) := by
  obtain ⟨a, f, fd, F', hm, hk, hb⟩ := h
  exact ev_callL F' hr hg hm hk hb ha hlen hdb he hpl
theorem ev_def0 (h : Cal X.prog X.w X.K X.mg X.base x k [] F) (hr : Room k X.A) (hg : Gl X x) (hdb : (x == ("__debug__" : Str)) = false := by decide) : Ev X true true (.Call (.Name x p) [] [] pos) (clF F aNil) := by
  obtain ⟨a, f, fd, F', hm, hk, hb⟩ := h
  refine peM (pe_call0 F' hr hg hm hk hb .nil pass0 hdb) fun σ H Q h => ?_
  have q := cl_lift (FA := aNil) (E := E0) (n := 0) (s := true) a σ H Q h
  obtain ⟨G, env, L, R, d, env', hf, k⟩ := q
  cases hf
  exact k [] G H L [] R .nil (fun _ => by simpa using R.nd) (fun _ => ⟨rfl, rfl, fun _ _ => rfl⟩) (Ext.refl fun b z => by simpa using z)
theorem bv_W {W W' : List Nat} {st : List Stmt} {FB : En → Option (Fl × En)} (h : Bv X W st FB) (hs : ∀ j ∈ W, j ∈ W') : Bv X W' st FB := pssM h fun D σ H ⟨G, env, L, R, fl, env', hf, k⟩ =>
  ⟨G, env, L, R, fl, env', hf, k.mono (fun σ' z => z.sub hs) (fun _ _ _ x => x) (fun _ _ z => z) (fun _ _ z => z) (fun _ _ z => z) fun _ _ z => z⟩
/-- a built-in type as a value -/
theorem ev_ty {n : String} (hg : Gl X x) (hm : X.mg x = none) (hv : bootBuiltins x = some (.type n)) (hn : x ≠ "__name__" := by decide) (hd : (x == ("__debug__" : Str)) = false := by decide) : Ev X true true (.Name x pos) (cF (.raw (.ty n))) :=
  ev_c (pe_bltn hg hm hv (show RelV (.ty n) (Value.type n) from rfl) hn hd) fun _ _ => .raw _
end
theorem ev_globX {X : Cx} {x : Str} {d : D} {pos : Pos} (hg : Gl X x) (h : ∃ v u, X.mg x = some u ∧ RelV v u ∧ ∀ G H, Rp X.K G H d v []) (hd : (x == ("__debug__" : Str)) = false := by decide) : Ev X true true (.Name x pos) (cF d) := by
  obtain ⟨v, u, hm, r, k⟩ := h
  exact ev_glob hg hm r k hd
theorem gs_len0 {ds : List D} {env env' : En} (h : gsNil ds env = some env') : ds.length = 0 := by
  cases ds with
  | nil => rfl
  | cons _ _ => cases h
theorem gs_lenS {n : Nat} {F : D → En → Option En} {FR : List D → En → Option En} {ds : List D} {env env' : En} (k : ∀ ds env env', FR ds env = some env' → ds.length = n) (h : gsCons F FR ds env = some env') : ds.length = n + 1 := by
  cases ds with
  | nil => cases h
  | cons d r =>
    simp only [gsCons] at h
    cases q : F d env with
    | none => rw [q] at h; simp at h
    | some e1 => rw [q] at h; simp only [Option.bind_some] at h; simp [k r e1 env' h]
theorem gs_len1 {f1 : D → En → Option En} {ds : List D} {env env' : En} (h : gsCons f1 gsNil ds env = some env') : ds.length = 1 := gs_lenS (fun _ _ _ h => gs_len0 h) h
theorem gs_len2 {f1 f2 : D → En → Option En} {ds : List D} {env env' : En} (h : gsCons f1 (gsCons f2 gsNil) ds env = some env') : ds.length = 2 := gs_lenS (fun _ _ _ h => gs_len1 h) h
theorem gs_len3 {f1 f2 f3 : D → En → Option En} {ds : List D} {env env' : En} (h : gsCons f1 (gsCons f2 (gsCons f3 gsNil)) ds env = some env') : ds.length = 3 := gs_lenS (fun _ _ _ h => gs_len2 h) h
theorem gs_len4 {f1 f2 f3 f4 : D → En → Option En} {ds : List D} {env env' : En} (h : gsCons f1 (gsCons f2 (gsCons f3 (gsCons f4 gsNil))) ds env = some env') : ds.length = 4 := gs_lenS (fun _ _ _ h => gs_len3 h) h
/-! ### in place -/
def dAddI : D → D → Option D
  | .int i, .int j => some (.int (i + j))
  | _, _ => none
section
variable {X : Cx} {K : PySem.W.Frag}
theorem o2_addI : Op2 K (rI0 fun i j => .int (i + j)) dAddI := o2_int0 fun a b c e => by
  unfold dAddI at e; split at e <;> cases e; exact ⟨_, _, rfl, rfl, rfl⟩
end
/-! ### constants of the module -/
theorem rp_ktup0 {K : PySem.W.Frag} {a : Addr} {oc : Obj} {n : Nat} (h : K.lookup a = some oc) (hc : oc.cls = .type "tuple") (hd : oc.data = .seq #[] n) : ∀ G H, Rp K G H (.tup []) (.ref a) [] := fun G H =>
  .tup (.inr ⟨oc, #[], n, h, hc, hd, by simp, .nil⟩) .nil
def toksInts : List Int → List Tok → List Value
  | n :: ns, t :: ts => .int n t :: toksInts ns ts
  | _, _ => []
theorem rp_ktupI {K : PySem.W.Frag} {a : Addr} {oc : Obj} {n : Nat} {ns : List Int} {its : Array Value} (h : K.lookup a = some oc) (hc : oc.cls = .type "tuple") (hd : oc.data = .seq its n) (hv : Vals (ns.map V.int) its.toList) (hz : ns.length ≤ sizeLine) : ∀ G H, Rp K G H (.tup (ns.map D.int)) (.ref a) [] := fun G H =>
  .tup (.inr ⟨oc, its, n, h, hc, hd, by have := hv.length; simp at this; omega, hv⟩) (Rps.ints ns)
/-- the law's entry -/
theorem law_end {K : PySem.W.Frag} {F : List D → Option (D × En)} {H : Hp} {a : Addr} {ns : List Int} {env : En} (hs : SqL K H a (ns.map V.int)) (h : F [.scr ns] = some (.bl true, env)) : spF K 1 F [.ref a] H (fun v _ => v = .bl true) fun _ _ _ => False :=
  ⟨rfl, H, [.scr ns], [], Le.refl _, by simpa using Rps.cons (L1 := []) (L2 := []) (.scr hs) .nil, List.nodup_nil, _, _, h, fun v G' H' Lr Lb _ _ r _ _ => r.bl_inv.1⟩
end
end Pz

set_option Elab.async false
set_option linter.all false
set_option maxRecDepth 100000
set_option maxHeartbeats 1000000
namespace Pz
open PySem L2
noncomputable section

/-- the value alone -/
def val (F : List D → Option (D × En)) (ds : List D) : Option D := (F ds).map (·.1)
def retV : Fl → Option D
  | .rt d => some d
  | .nx => some .non
  | _ => none
theorem clF_val {F : List D → Option (D × En)} {FA : En → Option (List D × En)} {env : En} : clF F FA env = (FA env).bind fun a => (val F a.1).map fun d => (d, a.2) := by
  unfold clF val
  congr 1
  funext a
  rw [Option.map_map]; rfl
theorem val_fnF {n m : Nat} {W : List Nat} {FB : En → Option (Fl × En)} {ds : List D} : val (fnF n m W FB) ds = if ds.length = n then (FB (ds.map some ++ List.replicate m none)).bind fun r => retV r.1 else none := by
  unfold val fnF
  split
  · cases FB (ds.map some ++ List.replicate m none) with
    | none => rfl
    | some r =>
      obtain ⟨f, e⟩ := r
      cases f <;> rfl
  · rfl
theorem val_some {F : List D → Option (D × En)} {ds : List D} {d : D} (h : val F ds = some d) : ∃ e, F ds = some (d, e) := by
  unfold val at h
  cases q : F ds with
  | none => rw [q] at h; cases h
  | some r => rw [q] at h; cases h; exact ⟨r.2, rfl⟩
theorem bind_ite {α β : Type} {c : Prop} [Decidable c] {a b : Option α} {f : α → Option β} : (if c then a else b).bind f = if c then a.bind f else b.bind f := by split <;> rfl
theorem map_ite {α β : Type} {c : Prop} [Decidable c] {a b : Option α} {f : α → β} : (if c then a else b).map f = if c then a.map f else b.map f := by split <;> rfl
/-- behind a statement -/
def andThen (F2 : En → Option (Fl × En)) : Fl × En → Option (Fl × En)
  | (.nx, e) => F2 e
  | (.bk, e) => some (.bk, e)
  | (.ct, e) => some (.ct, e)
  | (.rt d, e) => some (.rt d, e)
theorem seqF_eq {F1 F2 : En → Option (Fl × En)} {env : En} : seqF F1 F2 env = (F1 env).bind (andThen F2) := by
  unfold seqF
  congr 1
  funext r
  obtain ⟨f, e⟩ := r
  cases f <;> rfl
theorem andThen_nx {F2 : En → Option (Fl × En)} {e : En} : andThen F2 (.nx, e) = F2 e := rfl
theorem andThen_bk {F2 : En → Option (Fl × En)} {e : En} : andThen F2 (.bk, e) = some (.bk, e) := rfl
theorem andThen_ct {F2 : En → Option (Fl × En)} {e : En} : andThen F2 (.ct, e) = some (.ct, e) := rfl
theorem andThen_rt {F2 : En → Option (Fl × En)} {e : En} {d : D} : andThen F2 (.rt d, e) = some (.rt d, e) := rfl
theorem retV_rt {d : D} : retV (.rt d) = some d := rfl
theorem retV_nx : retV .nx = some .non := rfl
/-- a turn of a for -/
def flK (FT : D → En → Option En) (FB : En → Option (Fl × En)) (xs : List D) : Fl × En → Option (Fl × En)
  | (.nx, e) => flF FT FB xs e
  | (.ct, e) => flF FT FB xs e
  | (.bk, e) => some (.nx, e)
  | (.rt d, e) => some (.rt d, e)
theorem flF_nil {FT : D → En → Option En} {FB : En → Option (Fl × En)} {env : En} : flF FT FB [] env = some (.nx, env) := rfl
theorem flF_cons {FT : D → En → Option En} {FB : En → Option (Fl × En)} {x : D} {xs : List D} {env : En} : flF FT FB (x :: xs) env = (FT x env).bind fun e => (FB e).bind (flK FT FB xs) := by
  simp only [flF]
  congr 1
  funext e
  congr 1
  funext r
  obtain ⟨f, e⟩ := r
  cases f <;> rfl
theorem flK_nx {FT : D → En → Option En} {FB : En → Option (Fl × En)} {xs : List D} {e : En} : flK FT FB xs (.nx, e) = flF FT FB xs e := rfl
theorem flK_ct {FT : D → En → Option En} {FB : En → Option (Fl × En)} {xs : List D} {e : En} : flK FT FB xs (.ct, e) = flF FT FB xs e := rfl
theorem flK_bk {FT : D → En → Option En} {FB : En → Option (Fl × En)} {xs : List D} {e : En} : flK FT FB xs (.bk, e) = some (.nx, e) := rfl
theorem flK_rt {FT : D → En → Option En} {FB : En → Option (Fl × En)} {xs : List D} {e : En} {d : D} : flK FT FB xs (.rt d, e) = some (.rt d, e) := rfl
theorem forF_eq {FI : En → Option (List D × En)} {FT : D → En → Option En} {FB : En → Option (Fl × En)} {env : En} : forF FI FT FB env = (FI env).bind fun a => flF FT FB a.1 a.2 := rfl
theorem wN_eq {c : En → Option (Bool × En)} {b : En → Option (Fl × En)} {n : Nat} {env : En} : wN c b (n + 1) env = (c env).bind fun t => if t.1 = true then (b t.2).bind fun r => match r with
      | (.nx, e) => wN c b n e
      | (.ct, e) => wN c b n e
      | (.bk, e) => some (.nx, e)
      | (.rt d, e) => some (.rt d, e)
    else some (.nx, t.2) := by
  conv => lhs; unfold wN
  congr 1
  funext t
  split
  · congr 1
    funext r
    obtain ⟨f, e⟩ := r
    cases f <;> rfl
  · rfl
/-- a while turn by turn -/
theorem whF_done {c : En → Option (Bool × En)} {b : En → Option (Fl × En)} {env e : En} (h : c env = some (false, e)) : whF c b env = some (.nx, e) :=
  whF_of (n := 1) (by rw [wN_eq, h]; rfl)
theorem whF_turn {c : En → Option (Bool × En)} {b : En → Option (Fl × En)} {env e e' : En} {r : Fl × En} (h : c env = some (true, e)) (hb : b e = some (.nx, e')) (k : whF c b e' = some r) : whF c b env = some r := by
  obtain ⟨n, hn⟩ := whF_some k
  exact whF_of (n := n + 1) (by rw [wN_eq, h]; simp only [Option.bind_some, if_true, hb]; exact hn)
theorem whF_ret {c : En → Option (Bool × En)} {b : En → Option (Fl × En)} {env e e' : En} {d : D} (h : c env = some (true, e)) (hb : b e = some (.rt d, e')) : whF c b env = some (.rt d, e') :=
  whF_of (n := 1) (by rw [wN_eq, h]; simp only [Option.bind_some, if_true, hb])
theorem whF_brk {c : En → Option (Bool × En)} {b : En → Option (Fl × En)} {env e e' : En} (h : c env = some (true, e)) (hb : b e = some (.bk, e')) : whF c b env = some (.nx, e') :=
  whF_of (n := 1) (by rw [wN_eq, h]; simp only [Option.bind_some, if_true, hb])
theorem nmF_eq {i : Nat} {env : En} {d : D} (h : env[i]? = some (some d)) : nmF i env = some (d, env) := by unfold nmF; rw [h]; rfl

/-! ### what the operators give -/
theorem dIx_tup0 {a : D} {r : List D} : dIx (.tup (a :: r)) (.int 0) = some a := by
  show atI (a :: r) ((0 : Nat) : Int) = _
  exact atI_nat rfl
theorem dIx_tup1 {a b : D} {r : List D} : dIx (.tup (a :: b :: r)) (.int 1) = some b := by
  show atI (a :: b :: r) ((1 : Nat) : Int) = _
  exact atI_nat rfl
theorem dIx_lstN {o : Bool} {xs : List D} {k : Nat} : dIx (.lst o xs) (.int (k : Int)) = xs[k]? := by
  show atI xs ((k : Nat) : Int) = _
  cases h : xs[k]? with
  | some v => exact atI_nat h
  | none =>
    have hk : xs.length ≤ k := List.getElem?_eq_none_iff.mp h
    unfold atI ixN
    rw [if_pos (Int.natCast_nonneg _), if_neg (by omega)]; rfl
theorem dIx_tupN {xs : List D} {k : Nat} : dIx (.tup xs) (.int (k : Int)) = xs[k]? := dIx_lstN (o := true)
theorem dIx_scrN {ns : List Int} {k : Nat} : dIx (.scr ns) (.int (k : Int)) = (ns[k]?).map .int := by
  show (atI ns ((k : Nat) : Int)).map _ = _
  congr 1
  cases h : ns[k]? with
  | some v => exact atI_nat h
  | none =>
    have hk : ns.length ≤ k := List.getElem?_eq_none_iff.mp h
    unfold atI ixN
    rw [if_pos (Int.natCast_nonneg _), if_neg (by omega)]; rfl
theorem shp_int {i : Int} : shp (.int i) = true := by
  unfold shp SeqAt.shaped; simp [D.py, PyData.canLay0, PyData.depth]
theorem shp_bl {i : Bool} : shp (.bl i) = true := by
  unfold shp SeqAt.shaped; simp [D.py, PyData.canLay0, PyData.depth]
theorem shp_non : shp .non = true := by
  unfold shp SeqAt.shaped; simp [D.py, PyData.canLay0, PyData.depth]
theorem dEq_int {i j : Int} : dEq (.int i) (.int j) = some (.bl (decide (i = j))) := by
  unfold dEq; rw [if_pos ⟨shp_int, shp_int⟩]; simp only [D.py, PyData.eqv]; rfl
theorem dNe_int {i j : Int} : dNe (.int i) (.int j) = some (.bl (!decide (i = j))) := by
  unfold dNe; rw [if_pos ⟨shp_int, shp_int⟩]; simp only [D.py, PyData.eqv]; rfl
theorem dAdd_int {i j : Int} : dAdd (.int i) (.int j) = some (.int (i + j)) := rfl
theorem dSub_int {i j : Int} : dSub (.int i) (.int j) = some (.int (i - j)) := rfl
theorem dMul_int {i j : Int} (h : mulOk i j = true) : dMul (.int i) (.int j) = some (.int (i * j)) := by simp only [dMul]; rw [if_pos h]
theorem dMod_pos {i j : Int} (h : 0 < j) : dMod (.int i) (.int j) = some (.int (i % j)) := by simp only [dMod]; rw [if_pos (by omega), Int.fmod_eq_emod_of_nonneg _ (by omega)]
theorem dDiv_pos {i j : Int} (h : 0 < j) (hd : divOk j = true) : dDiv (.int i) (.int j) = some (.int (i / j)) := by simp only [dDiv]; rw [if_pos hd, Int.fdiv_eq_ediv_of_nonneg _ (by omega)]
theorem dLt_int {i j : Int} : dLt (.int i) (.int j) = some (.bl (decide (i < j))) := rfl
theorem dLe_int {i j : Int} : dLe (.int i) (.int j) = some (.bl (decide (i ≤ j))) := rfl
theorem dGt_int {i j : Int} : dGt (.int i) (.int j) = some (.bl (decide (j < i))) := rfl
theorem dGe_int {i j : Int} : dGe (.int i) (.int j) = some (.bl (decide (j ≤ i))) := rfl
theorem dAddI_int {i j : Int} : dAddI (.int i) (.int j) = some (.int (i + j)) := rfl
theorem asB_bl {b : Bool} : asB (.bl b) = some b := rfl
theorem dTup_le {ds : List D} (h : ds.length ≤ 16777216) : dTup ds = some (.tup ds) := by unfold dTup; rw [if_pos (show lineOk _ = true from tst_of h)]
theorem dLst_le {ds : List D} (h : ds.length ≤ 16777216) : dLst ds = some (.lst true ds) := by unfold dLst; rw [if_pos (show lineOk _ = true from tst_of h)]
/-! ### isinstance -/
theorem isi_int_int {i : Int} : fIsi [.int i, .raw (.ty "int")] = some (.bl true) := by
  show (kitB "int" "int").map D.bl = _
  have : kitB "int" "int" = some true := by decide +kernel
  rw [this]; rfl
end
end Pz

set_option Elab.async false
set_option linter.all false
set_option maxRecDepth 100000
namespace G40
open PySem L2 Pz
noncomputable section
def g_INFINITE : D := .tup []
def C_divisions_1 : En → Option (Bool × En) := (tbF (b2 dEq (b2 dMod (nmF 1) (nmF 0)) (cF (.int 0))))
def L_divisions_1 : En → Option (Fl × En) := (seqF (stF (b2 dDiv (nmF 1) (nmF 0)) (put 1)) (agF 2 dAddI (cF (.int 1))))
def F_divisions : List D → Option (D × En) := fnF 2 1 [1, 2] (seqF (stF (cF (.int 0)) (put 2)) (seqF (whF C_divisions_1 L_divisions_1) (rtF (nmO 2))))
def F__law_cell : List D → Option (D × En) := fnF 2 0 [] (seqF (ifS (tbF (b2 dLt (nmF 1) (bN fLen (aCons (nmF 0) aNil)))) (rtF (ownF (b2 dIx (nmF 0) (nmF 1)))) nxF) (rtF (cF (.int 0))))
def F__law_is_integer : List D → Option (D × En) := fnF 1 0 [] (rtF (andV (bN fIsi (aCons (nmF 0) (aCons (cF (.raw (.ty "int"))) aNil))) (b1 dNot (bN fIsi (aCons (nmF 0) (aCons (cF (.raw (.ty "bool"))) aNil))))))
def L__law_frac_1 : En → Option (Fl × En) := (seqF (ifS (tbF (b2 dEq (nmF 3) (cF (.int 0)))) bkF nxF) (seqF (stF (b2 dMod (bN fInt (aCons (nmF 2) aNil)) (nmF 3)) (put 5)) (seqF (stF (nmO 3) (put 2)) (stF (nmO 5) (put 3)))))
def F__law_frac : List D → Option (D × En) := fnF 2 4 [2, 3, 4, 5] (seqF (stF (bN fAbs (aCons (nmF 0) aNil)) (put 2)) (seqF (stF (bN fAbs (aCons (nmF 1) aNil)) (put 3)) (seqF (forF (inF rng1 (aCons (b2 dAdd (b2 dMul (cF (.int 2)) (b1 fBits (bN fAbs (aCons (nmF 1) aNil)))) (cF (.int 2))) aNil)) (put 4) L__law_frac_1) (seqF (ifS (tbF (b2 dLt (nmF 1) (cF (.int 0)))) (stF (b2 dSub (cF (.int 0)) (nmF 2)) (put 2)) nxF) (rtF (bN dTup (aCons (b2 dDiv (nmF 0) (nmF 2)) (aCons (b2 dDiv (nmF 1) (nmF 2)) aNil))))))))
def F__law_below : List D → Option (D × En) := fnF 2 0 [] (seqF (ifS (tbF (b2 dEq (nmF 0) (bN dTup aNil))) (rtF (cF (.bl false))) nxF) (rtF (orV (b2 dEq (nmF 1) (bN dTup aNil)) (b2 dLt (b2 dMul (b2 dIx (nmF 0) (cF (.int 0))) (b2 dIx (nmF 1) (cF (.int 1)))) (b2 dMul (b2 dIx (nmF 1) (cF (.int 0))) (b2 dIx (nmF 0) (cF (.int 1))))))))
def L__law_divided_1 : En → Option (Fl × En) := (seqF (ifS (tbF (b2 dNe (b2 dMod (bN fInt (aCons (nmF 1) aNil)) (nmF 0)) (cF (.int 0)))) bkF nxF) (seqF (stF (b2 dDiv (nmF 1) (nmF 0)) (put 1)) (stF (b2 dAdd (nmF 2) (cF (.int 1))) (put 2))))
def F__law_divided : List D → Option (D × En) := fnF 2 2 [1, 2, 3] (seqF (stF (cF (.int 0)) (put 2)) (seqF (forF (inF rng1 (aCons (cF (.int 400)) aNil)) (put 3) L__law_divided_1) (rtF (nmO 2))))
def F_valuation : List D → Option (D × En) := fnF 2 0 [] (seqF (ifS (tbF (b2 dEq (b2 dIx (nmF 1) (cF (.int 0))) (cF (.int 0)))) (rtF (cF g_INFINITE)) nxF) (rtF (bN dTup (aCons (b2 dSub (clF F_divisions (aCons (nmO 0) (aCons (ownF (b2 dIx (nmF 1) (cF (.int 0)))) aNil))) (clF F_divisions (aCons (nmO 0) (aCons (ownF (b2 dIx (nmF 1) (cF (.int 1)))) aNil)))) (aCons (cF (.int 1)) aNil)))))
def F__law_plus : List D → Option (D × En) := fnF 2 0 [] (rtF (clF F__law_frac (aCons (b2 dAdd (b2 dMul (b2 dIx (nmF 0) (cF (.int 0))) (b2 dIx (nmF 1) (cF (.int 1)))) (b2 dMul (b2 dIx (nmF 1) (cF (.int 0))) (b2 dIx (nmF 0) (cF (.int 1))))) (aCons (b2 dMul (b2 dIx (nmF 0) (cF (.int 1))) (b2 dIx (nmF 1) (cF (.int 1)))) aNil))))
def F__law_times : List D → Option (D × En) := fnF 2 0 [] (rtF (clF F__law_frac (aCons (b2 dMul (b2 dIx (nmF 0) (cF (.int 0))) (b2 dIx (nmF 1) (cF (.int 0)))) (aCons (b2 dMul (b2 dIx (nmF 0) (cF (.int 1))) (b2 dIx (nmF 1) (cF (.int 1)))) aNil))))
def L__law_least_1 : En → Option (Fl × En) := (ifS (ttF (clF F__law_below (aCons (nmO 2) (aCons (nmO 1) aNil)))) (stF (nmO 2) (put 1)) nxF)
def F__law_least : List D → Option (D × En) := fnF 1 2 [1, 2] (seqF (stF (bN dTup aNil) (put 1)) (seqF (forF (itF (fzF 0)) (put 2) L__law_least_1) (rtF (nmO 1))))
def F__law_val : List D → Option (D × En) := fnF 2 0 [] (seqF (ifS (tbF (b2 dEq (b2 dIx (nmF 1) (cF (.int 0))) (cF (.int 0)))) (rtF (bN dTup aNil)) nxF) (rtF (bN dTup (aCons (b2 dSub (clF F__law_divided (aCons (nmO 0) (aCons (ownF (b2 dIx (nmF 1) (cF (.int 0)))) aNil))) (clF F__law_divided (aCons (nmO 0) (aCons (ownF (b2 dIx (nmF 1) (cF (.int 1)))) aNil)))) (aCons (cF (.int 1)) aNil)))))
def F__law_added : List D → Option (D × En) := fnF 2 0 [] (seqF (ifS (orF (tbF (b2 dEq (nmF 0) (bN dTup aNil))) (tbF (b2 dEq (nmF 1) (bN dTup aNil)))) (rtF (bN dTup aNil)) nxF) (rtF (clF F__law_plus (aCons (nmO 0) (aCons (nmO 1) aNil)))))
def L__law_to_power_1 : En → Option (Fl × En) := (stF (clF F__law_times (aCons (nmO 2) (aCons (nmO 0) aNil))) (put 2))
def F__law_to_power : List D → Option (D × En) := fnF 2 2 [2, 3] (seqF (stF (bN dTup (aCons (cF (.int 1)) (aCons (cF (.int 1)) aNil))) (put 2)) (seqF (forF (inF rng1 (aCons (nmO 1) aNil)) (put 3) L__law_to_power_1) (rtF (nmO 2))))
def F__law_prime : List D → Option (D × En) := fnF 2 0 [] (seqF (ifS (tbF (b2 dLt (nmF 1) (cF (.int 0)))) (rtF (bN dTup (aCons (cF (.int 1)) (aCons (ownF (b2 dIx (clF F__law_to_power (aCons (bN dTup (aCons (nmO 0) (aCons (cF (.int 1)) aNil))) (aCons (b2 dSub (cF (.int 0)) (nmF 1)) aNil))) (cF (.int 0)))) aNil)))) nxF) (rtF (clF F__law_to_power (aCons (bN dTup (aCons (nmO 0) (aCons (cF (.int 1)) aNil))) (aCons (nmO 1) aNil)))))
def L_law_1 : En → Option (Fl × En) := (seqF (stF (b2 dSub (b2 dMod (bN fInt (aCons (nmF 5) aNil)) (cF (.int 2001))) (cF (.int 1000))) (put 6)) (seqF (stF (b2 dAdd (cF (.int 1)) (b2 dMod (b2 dDiv (nmF 5) (cF (.int 2048))) (cF (.int 400)))) (put 7)) (exF (mtF 4 mAppend (aCons (clF F__law_times (aCons (clF F__law_frac (aCons (nmO 6) (aCons (nmO 7) aNil))) (aCons (clF F__law_prime (aCons (nmO 3) (aCons (b2 dSub (b2 dMod (b2 dDiv (nmF 5) (cF (.int 524288))) (cF (.int 9))) (cF (.int 4))) aNil))) aNil))) aNil)))))
def E_law_2 : En → Option (D × En) := (nmO 14)
def I_law_2 : En → Option (Bool × En) := (notF (ttF (clF F__law_is_integer (aCons (nmO 14) aNil))))
def L_law_4 : En → Option (Fl × En) := (seqF (stF (clF F__law_val (aCons (nmO 3) (aCons (nmO 10) aNil))) (put 11)) (seqF (ifS (tbF (b2 dNe (clF F_valuation (aCons (nmO 3) (aCons (clF F__law_times (aCons (nmO 8) (aCons (nmO 10) aNil))) aNil))) (clF F__law_added (aCons (nmO 9) (aCons (nmO 11) aNil))))) (rtF (cF (.bl false))) nxF) (seqF (stF (clF F_valuation (aCons (nmO 3) (aCons (clF F__law_plus (aCons (nmO 8) (aCons (nmO 10) aNil))) aNil))) (put 12)) (seqF (stF (clF F__law_least (aCons (bN dLst (aCons (nmO 9) (aCons (nmO 11) aNil))) aNil)) (put 13)) (ifS (orF (ttF (clF F__law_below (aCons (nmO 12) (aCons (nmO 13) aNil)))) (andF (tbF (b2 dNe (nmF 9) (nmF 11))) (tbF (b2 dNe (nmF 12) (nmF 13))))) (rtF (cF (.bl false))) nxF)))))
def L_law_5 : En → Option (Fl × En) := (seqF (stF (clF F_valuation (aCons (nmO 3) (aCons (nmO 8) aNil))) (put 9)) (seqF (ifS (orF (notF (ttF (bN fIsi (aCons (nmF 9) (aCons (cF (.raw (.ty "tuple"))) aNil))))) (orF (tbF (b2 dNe (nmF 9) (clF F__law_val (aCons (nmO 3) (aCons (nmO 8) aNil))))) (tbF (b2 dNe (lcF [14] (itF (nmO 9)) (put 14) I_law_2 E_law_2) (bN dLst aNil))))) (rtF (cF (.bl false))) nxF) (forF (itF (fzF 4)) (put 10) L_law_4)))
def F_law : List D → Option (D × En) := fnF 1 14 [1, 2, 3, 4, 5, 6, 7, 8, 9, 10, 11, 12, 13] (seqF (stF (bN fAbs (aCons (clF F__law_cell (aCons (nmO 0) (aCons (cF (.int 0)) aNil))) aNil)) (put 1)) (seqF (stF (bN fAbs (aCons (clF F__law_cell (aCons (nmO 0) (aCons (cF (.int 1)) aNil))) aNil)) (put 2)) (seqF (stF (ownF (b2 dIx (bN dLst (aCons (cF (.int 2)) (aCons (cF (.int 3)) (aCons (cF (.int 5)) (aCons (cF (.int 7)) (aCons (cF (.int 11)) (aCons (cF (.int 13)) (aCons (cF (.int 31)) (aCons (cF (.int 97)) aNil))))))))) (b2 dMod (bN fInt (aCons (nmF 1) aNil)) (cF (.int 8))))) (put 3)) (seqF (stF (bN dLst aNil) (put 4)) (seqF (forF (itF (bN dTup (aCons (b2 dDiv (nmF 1) (cF (.int 8))) (aCons (nmO 2) (aCons (b2 dAdd (b2 dDiv (nmF 1) (cF (.int 8))) (nmF 2)) (aCons (b2 dAdd (b2 dMul (nmF 2) (cF (.int 7919))) (nmF 1)) aNil)))))) (put 5) L_law_1) (seqF (exF (mtF 4 mAppend (aCons (clF F__law_frac (aCons (b2 dSub (b2 dMod (bN fInt (aCons (nmF 1) aNil)) (b2 dPow (cF (.int 10)) (cF (.int 30)))) (b2 dPow (cF (.int 10)) (cF (.int 20)))) (aCons (b2 dAdd (cF (.int 1)) (b2 dMod (bN fInt (aCons (nmF 2) aNil)) (b2 dPow (cF (.int 10)) (cF (.int 20))))) aNil))) aNil))) (seqF (exF (mtF 4 mAppend (aCons (bN dTup (aCons (cF (.int 0)) (aCons (cF (.int 1)) aNil))) aNil))) (seqF (forF (itF (fzF 4)) (put 8) L_law_5) (rtF (cF (.bl true)))))))))))
end
end G40

set_option Elab.async false
set_option linter.all false
set_option maxRecDepth 100000
set_option maxHeartbeats 1000000
namespace G40
open PySem L2 Pz
noncomputable section
abbrev fr (x : Int × Int) : D := .tup [.int x.1, .int x.2]

theorem cell_eq (ns : List Int) (k : Nat) : val F__law_cell [.scr ns, .int k] = some (.int (ns.getD k 0)) := by
  simp only [F__law_cell, val_fnF, seqF_eq, andThen_nx, andThen_bk, andThen_ct, andThen_rt, retV_rt, retV_nx, nxF, bkF, ctF, rtF, rnF, rmF, stF, exF, put, parF, agF, ifS, forF_eq, flF_nil, flF_cons, flK_nx, flK_ct, flK_bk, flK_rt, tbF, ttF, andF, orF, notF, andV, orV, ifF, chF, b1, b2, bN, clF_val, aNil, aCons, nmF, ownF, cF, fzF, itF, inF, itOf, rng1, rng2, yesF, dTru, dNot, dAdd_int, dSub_int, dEq_int, dNe_int, dLt_int, dLe_int, dGt_int, dGe_int, dAddI_int, asB_bl, dIx_tup0, dIx_tup1, fLen, fAbs, fInt, fMax2, fMin2, gTupF, gsCons, gsNil, D.pure, D.pures, Bool.not_true, Bool.not_false, Bool.and_true, Bool.true_and, Bool.and_false, Bool.false_and, Option.bind_some, Option.bind_none, Option.map_some, Option.map_none, bind_ite, map_ite, List.map_cons, List.map_nil, List.replicate, List.cons_append, List.nil_append, List.append_nil, List.getElem?_cons_zero, List.getElem?_cons_succ, List.set_cons_zero, List.set_cons_succ, List.length_cons, List.length_nil, Nat.reduceAdd, Nat.reduceLT, Nat.zero_add, Nat.lt_add_one, if_true, if_false, ite_true, ite_false, decide_eq_true_eq, Bool.false_eq_true, reduceCtorEq, reduceIte, Nat.reduceLeDiff, Nat.reduceEqDiff, dIx_scrN]
  by_cases h : k < ns.length
  · simp [h, val_fnF, seqF_eq, andThen_nx, andThen_bk, andThen_ct, andThen_rt, retV_rt, retV_nx, nxF, bkF, ctF, rtF, rnF, rmF, stF, exF, put, parF, agF, ifS, forF_eq, flF_nil, flF_cons, flK_nx, flK_ct, flK_bk, flK_rt, tbF, ttF, andF, orF, notF, andV, orV, ifF, chF, b1, b2, bN, clF_val, aNil, aCons, nmF, ownF, cF, fzF, itF, inF, itOf, rng1, rng2, yesF, dTru, dNot, dAdd_int, dSub_int, dEq_int, dNe_int, dLt_int, dLe_int, dGt_int, dGe_int, dAddI_int, asB_bl, dIx_tup0, dIx_tup1, fLen, fAbs, fInt, fMax2, fMin2, gTupF, gsCons, gsNil, D.pure, D.pures, Bool.not_true, Bool.not_false, Bool.and_true, Bool.true_and, Bool.and_false, Bool.false_and, Option.bind_some, Option.bind_none, Option.map_some, Option.map_none, bind_ite, map_ite, List.map_cons, List.map_nil, List.replicate, List.cons_append, List.nil_append, List.append_nil, List.getElem?_cons_zero, List.getElem?_cons_succ, List.set_cons_zero, List.set_cons_succ, List.length_cons, List.length_nil, Nat.reduceAdd, Nat.reduceLT, Nat.zero_add, Nat.lt_add_one, if_true, if_false, ite_true, ite_false, decide_eq_true_eq, Bool.false_eq_true, reduceCtorEq, reduceIte, Nat.reduceLeDiff, Nat.reduceEqDiff]
  · simp [h, val_fnF, seqF_eq, andThen_nx, andThen_bk, andThen_ct, andThen_rt, retV_rt, retV_nx, nxF, bkF, ctF, rtF, rnF, rmF, stF, exF, put, parF, agF, ifS, forF_eq, flF_nil, flF_cons, flK_nx, flK_ct, flK_bk, flK_rt, tbF, ttF, andF, orF, notF, andV, orV, ifF, chF, b1, b2, bN, clF_val, aNil, aCons, nmF, ownF, cF, fzF, itF, inF, itOf, rng1, rng2, yesF, dTru, dNot, dAdd_int, dSub_int, dEq_int, dNe_int, dLt_int, dLe_int, dGt_int, dGe_int, dAddI_int, asB_bl, dIx_tup0, dIx_tup1, fLen, fAbs, fInt, fMax2, fMin2, gTupF, gsCons, gsNil, D.pure, D.pures, Bool.not_true, Bool.not_false, Bool.and_true, Bool.true_and, Bool.and_false, Bool.false_and, Option.bind_some, Option.bind_none, Option.map_some, Option.map_none, bind_ite, map_ite, List.map_cons, List.map_nil, List.replicate, List.cons_append, List.nil_append, List.append_nil, List.getElem?_cons_zero, List.getElem?_cons_succ, List.set_cons_zero, List.set_cons_succ, List.length_cons, List.length_nil, Nat.reduceAdd, Nat.reduceLT, Nat.zero_add, Nat.lt_add_one, if_true, if_false, ite_true, ite_false, decide_eq_true_eq, Bool.false_eq_true, reduceCtorEq, reduceIte, Nat.reduceLeDiff, Nat.reduceEqDiff]
/-! ### multiplicities -/
def V (p a : Int) (v : Nat) : Prop := ∃ m, a = p ^ v * m ∧ m % p ≠ 0
structure PP (p : Int) : Prop where
  lo : 2 ≤ p
  hi : p < 100
  pr : ∀ a b : Int, (a * b) % p = 0 → a % p = 0 ∨ b % p = 0
theorem PP.dv {p : Int} (h : PP p) : divOk p = true := divOk_of (b := 7) (by have := h.lo; omega) (by have := h.lo; have := h.hi; omega)
theorem PP.pos {p : Int} (h : PP p) : 0 < p := by have := h.lo; omega
theorem divided_body {p : Int} (h : PP p) (a m : Int) (o : Option D) : L__law_divided_1 [some (.int p), some (.int a), some (.int m), o] =
    if a % p = 0 then some (.nx, [some (.int p), some (.int (a / p)), some (.int (m + 1)), o]) else some (.bk, [some (.int p), some (.int a), some (.int m), o]) := by
  simp only [L__law_divided_1, val_fnF, seqF_eq, andThen_nx, andThen_bk, andThen_ct, andThen_rt, retV_rt, retV_nx, nxF, bkF, ctF, rtF, rnF, rmF, stF, exF, put, parF, agF, ifS, forF_eq, flF_nil, flF_cons, flK_nx, flK_ct, flK_bk, flK_rt, tbF, ttF, andF, orF, notF, andV, orV, ifF, chF, b1, b2, bN, clF_val, aNil, aCons, nmF, ownF, cF, fzF, itF, inF, itOf, rng1, rng2, yesF, dTru, dNot, dAdd_int, dSub_int, dEq_int, dNe_int, dLt_int, dLe_int, dGt_int, dGe_int, dAddI_int, asB_bl, dIx_tup0, dIx_tup1, fLen, fAbs, fInt, fMax2, fMin2, gTupF, gsCons, gsNil, D.pure, D.pures, Bool.not_true, Bool.not_false, Bool.and_true, Bool.true_and, Bool.and_false, Bool.false_and, Option.bind_some, Option.bind_none, Option.map_some, Option.map_none, bind_ite, map_ite, List.map_cons, List.map_nil, List.replicate, List.cons_append, List.nil_append, List.append_nil, List.getElem?_cons_zero, List.getElem?_cons_succ, List.set_cons_zero, List.set_cons_succ, List.length_cons, List.length_nil, Nat.reduceAdd, Nat.reduceLT, Nat.zero_add, Nat.lt_add_one, if_true, if_false, ite_true, ite_false, decide_eq_true_eq, Bool.false_eq_true, reduceCtorEq, reduceIte, Nat.reduceLeDiff, Nat.reduceEqDiff, dMod_pos h.pos, dDiv_pos h.pos h.dv]
  by_cases q : a % p = 0 <;> simp [q, andThen]
theorem V.zero {p a : Int} (h : V p a 0) : a % p ≠ 0 := by
  obtain ⟨m, e, k⟩ := h
  simpa [e] using k
theorem V.succ {p a : Int} {v : Nat} (hp : 0 < p) (h : V p a (v + 1)) : a % p = 0 ∧ V p (a / p) v := by
  obtain ⟨m, e, k⟩ := h
  have e2 : a = p * (p ^ v * m) := by rw [e, Int.pow_succ]; rw [Int.mul_comm (p ^ v) p, Int.mul_assoc]
  refine ⟨by rw [e2]; exact Int.mul_emod_right _ _, m, ?_, k⟩
  rw [e2, Int.mul_ediv_cancel_left _ (by omega)]
theorem divided_loop {p : Int} (h : PP p) : ∀ (v : Nat) (xs : List D) (a m : Int) (o : Option D), V p a v → v < xs.length →
    ∃ a' o', flF (put 3) L__law_divided_1 xs [some (.int p), some (.int a), some (.int m), o] = some (.nx, [some (.int p), some (.int a'), some (.int (m + v)), o'])
  | 0, [], _, _, _, _, hx => by simp at hx
  | 0, x :: xs, a, m, o, hv, hx => by
    refine ⟨a, some x, ?_⟩
    simp only [val_fnF, seqF_eq, andThen_nx, andThen_bk, andThen_ct, andThen_rt, retV_rt, retV_nx, nxF, bkF, ctF, rtF, rnF, rmF, stF, exF, put, parF, agF, ifS, forF_eq, flF_nil, flF_cons, flK_nx, flK_ct, flK_bk, flK_rt, tbF, ttF, andF, orF, notF, andV, orV, ifF, chF, b1, b2, bN, clF_val, aNil, aCons, nmF, ownF, cF, fzF, itF, inF, itOf, rng1, rng2, yesF, dTru, dNot, dAdd_int, dSub_int, dEq_int, dNe_int, dLt_int, dLe_int, dGt_int, dGe_int, dAddI_int, asB_bl, dIx_tup0, dIx_tup1, fLen, fAbs, fInt, fMax2, fMin2, gTupF, gsCons, gsNil, D.pure, D.pures, Bool.not_true, Bool.not_false, Bool.and_true, Bool.true_and, Bool.and_false, Bool.false_and, Option.bind_some, Option.bind_none, Option.map_some, Option.map_none, bind_ite, map_ite, List.map_cons, List.map_nil, List.replicate, List.cons_append, List.nil_append, List.append_nil, List.getElem?_cons_zero, List.getElem?_cons_succ, List.set_cons_zero, List.set_cons_succ, List.length_cons, List.length_nil, Nat.reduceAdd, Nat.reduceLT, Nat.zero_add, Nat.lt_add_one, if_true, if_false, ite_true, ite_false, decide_eq_true_eq, Bool.false_eq_true, reduceCtorEq, reduceIte, Nat.reduceLeDiff, Nat.reduceEqDiff, divided_body h, if_neg hv.zero]
    simp
  | v + 1, [], _, _, _, _, hx => by simp at hx
  | v + 1, x :: xs, a, m, o, hv, hx => by
    obtain ⟨h1, h2⟩ := hv.succ h.pos
    obtain ⟨a', o', e⟩ := divided_loop h v xs (a / p) (m + 1) (some x) h2 (by simpa using hx)
    refine ⟨a', o', ?_⟩
    simp only [val_fnF, seqF_eq, andThen_nx, andThen_bk, andThen_ct, andThen_rt, retV_rt, retV_nx, nxF, bkF, ctF, rtF, rnF, rmF, stF, exF, put, parF, agF, ifS, forF_eq, flF_nil, flF_cons, flK_nx, flK_ct, flK_bk, flK_rt, tbF, ttF, andF, orF, notF, andV, orV, ifF, chF, b1, b2, bN, clF_val, aNil, aCons, nmF, ownF, cF, fzF, itF, inF, itOf, rng1, rng2, yesF, dTru, dNot, dAdd_int, dSub_int, dEq_int, dNe_int, dLt_int, dLe_int, dGt_int, dGe_int, dAddI_int, asB_bl, dIx_tup0, dIx_tup1, fLen, fAbs, fInt, fMax2, fMin2, gTupF, gsCons, gsNil, D.pure, D.pures, Bool.not_true, Bool.not_false, Bool.and_true, Bool.true_and, Bool.and_false, Bool.false_and, Option.bind_some, Option.bind_none, Option.map_some, Option.map_none, bind_ite, map_ite, List.map_cons, List.map_nil, List.replicate, List.cons_append, List.nil_append, List.append_nil, List.getElem?_cons_zero, List.getElem?_cons_succ, List.set_cons_zero, List.set_cons_succ, List.length_cons, List.length_nil, Nat.reduceAdd, Nat.reduceLT, Nat.zero_add, Nat.lt_add_one, if_true, if_false, ite_true, ite_false, decide_eq_true_eq, Bool.false_eq_true, reduceCtorEq, reduceIte, Nat.reduceLeDiff, Nat.reduceEqDiff, divided_body h, if_pos h1, e]
    simp
    omega
theorem divided_eq {p : Int} (h : PP p) {a : Int} {v : Nat} (hv : V p a v) (hl : v < 400) : val F__law_divided [.int p, .int a] = some (.int v) := by
  obtain ⟨a', o', e⟩ := divided_loop h v ((List.range (400 : Int).toNat).map fun i : Nat => .int (i : Int)) a 0 none hv (by simpa using hl)
  have hr : rgOk 400 = true := tst_of (by omega)
  simp only [F__law_divided, val_fnF, seqF_eq, andThen_nx, andThen_bk, andThen_ct, andThen_rt, retV_rt, retV_nx, nxF, bkF, ctF, rtF, rnF, rmF, stF, exF, put, parF, agF, ifS, forF_eq, flF_nil, flF_cons, flK_nx, flK_ct, flK_bk, flK_rt, tbF, ttF, andF, orF, notF, andV, orV, ifF, chF, b1, b2, bN, clF_val, aNil, aCons, nmF, ownF, cF, fzF, itF, inF, itOf, rng1, rng2, yesF, dTru, dNot, dAdd_int, dSub_int, dEq_int, dNe_int, dLt_int, dLe_int, dGt_int, dGe_int, dAddI_int, asB_bl, dIx_tup0, dIx_tup1, fLen, fAbs, fInt, fMax2, fMin2, gTupF, gsCons, gsNil, D.pure, D.pures, Bool.not_true, Bool.not_false, Bool.and_true, Bool.true_and, Bool.and_false, Bool.false_and, Option.bind_some, Option.bind_none, Option.map_some, Option.map_none, bind_ite, map_ite, List.map_cons, List.map_nil, List.replicate, List.cons_append, List.nil_append, List.append_nil, List.getElem?_cons_zero, List.getElem?_cons_succ, List.set_cons_zero, List.set_cons_succ, List.length_cons, List.length_nil, Nat.reduceAdd, Nat.reduceLT, Nat.zero_add, Nat.lt_add_one, if_true, if_false, ite_true, ite_false, decide_eq_true_eq, Bool.false_eq_true, reduceCtorEq, reduceIte, Nat.reduceLeDiff, Nat.reduceEqDiff, hr, e]
  simp
theorem div_c {p : Int} (h : PP p) (a m : Int) : C_divisions_1 [some (.int p), some (.int a), some (.int m)] = some (decide (a % p = 0), [some (.int p), some (.int a), some (.int m)]) := by
  simp only [C_divisions_1, val_fnF, seqF_eq, andThen_nx, andThen_bk, andThen_ct, andThen_rt, retV_rt, retV_nx, nxF, bkF, ctF, rtF, rnF, rmF, stF, exF, put, parF, agF, ifS, forF_eq, flF_nil, flF_cons, flK_nx, flK_ct, flK_bk, flK_rt, tbF, ttF, andF, orF, notF, andV, orV, ifF, chF, b1, b2, bN, clF_val, aNil, aCons, nmF, ownF, cF, fzF, itF, inF, itOf, rng1, rng2, yesF, dTru, dNot, dAdd_int, dSub_int, dEq_int, dNe_int, dLt_int, dLe_int, dGt_int, dGe_int, dAddI_int, asB_bl, dIx_tup0, dIx_tup1, fLen, fAbs, fInt, fMax2, fMin2, gTupF, gsCons, gsNil, D.pure, D.pures, Bool.not_true, Bool.not_false, Bool.and_true, Bool.true_and, Bool.and_false, Bool.false_and, Option.bind_some, Option.bind_none, Option.map_some, Option.map_none, bind_ite, map_ite, List.map_cons, List.map_nil, List.replicate, List.cons_append, List.nil_append, List.append_nil, List.getElem?_cons_zero, List.getElem?_cons_succ, List.set_cons_zero, List.set_cons_succ, List.length_cons, List.length_nil, Nat.reduceAdd, Nat.reduceLT, Nat.zero_add, Nat.lt_add_one, if_true, if_false, ite_true, ite_false, decide_eq_true_eq, Bool.false_eq_true, reduceCtorEq, reduceIte, Nat.reduceLeDiff, Nat.reduceEqDiff, dMod_pos h.pos]
theorem div_b {p : Int} (h : PP p) (a m : Int) : L_divisions_1 [some (.int p), some (.int a), some (.int m)] = some (.nx, [some (.int p), some (.int (a / p)), some (.int (m + 1))]) := by
  simp only [L_divisions_1, val_fnF, seqF_eq, andThen_nx, andThen_bk, andThen_ct, andThen_rt, retV_rt, retV_nx, nxF, bkF, ctF, rtF, rnF, rmF, stF, exF, put, parF, agF, ifS, forF_eq, flF_nil, flF_cons, flK_nx, flK_ct, flK_bk, flK_rt, tbF, ttF, andF, orF, notF, andV, orV, ifF, chF, b1, b2, bN, clF_val, aNil, aCons, nmF, ownF, cF, fzF, itF, inF, itOf, rng1, rng2, yesF, dTru, dNot, dAdd_int, dSub_int, dEq_int, dNe_int, dLt_int, dLe_int, dGt_int, dGe_int, dAddI_int, asB_bl, dIx_tup0, dIx_tup1, fLen, fAbs, fInt, fMax2, fMin2, gTupF, gsCons, gsNil, D.pure, D.pures, Bool.not_true, Bool.not_false, Bool.and_true, Bool.true_and, Bool.and_false, Bool.false_and, Option.bind_some, Option.bind_none, Option.map_some, Option.map_none, bind_ite, map_ite, List.map_cons, List.map_nil, List.replicate, List.cons_append, List.nil_append, List.append_nil, List.getElem?_cons_zero, List.getElem?_cons_succ, List.set_cons_zero, List.set_cons_succ, List.length_cons, List.length_nil, Nat.reduceAdd, Nat.reduceLT, Nat.zero_add, Nat.lt_add_one, if_true, if_false, ite_true, ite_false, decide_eq_true_eq, Bool.false_eq_true, reduceCtorEq, reduceIte, Nat.reduceLeDiff, Nat.reduceEqDiff, dDiv_pos h.pos h.dv]
theorem div_loop {p : Int} (h : PP p) : ∀ (v : Nat) (a m : Int), V p a v →
    ∃ a', whF C_divisions_1 L_divisions_1 [some (.int p), some (.int a), some (.int m)] = some (.nx, [some (.int p), some (.int a'), some (.int (m + v))])
  | 0, a, m, hv => ⟨a, by
    rw [whF_done (by rw [div_c h, decide_eq_false hv.zero])]
    simp⟩
  | v + 1, a, m, hv => by
    obtain ⟨h1, h2⟩ := hv.succ h.pos
    obtain ⟨a', e⟩ := div_loop h v (a / p) (m + 1) h2
    refine ⟨a', ?_⟩
    rw [whF_turn (by rw [div_c h, decide_eq_true h1]) (div_b h a m) e]
    simp; omega
theorem divisions_eq {p : Int} (h : PP p) {a : Int} {v : Nat} (hv : V p a v) : val F_divisions [.int p, .int a] = some (.int v) := by
  obtain ⟨a', e⟩ := div_loop h v a 0 hv
  simp only [F_divisions, val_fnF, seqF_eq, andThen_nx, andThen_bk, andThen_ct, andThen_rt, retV_rt, retV_nx, nxF, bkF, ctF, rtF, rnF, rmF, stF, exF, put, parF, agF, ifS, forF_eq, flF_nil, flF_cons, flK_nx, flK_ct, flK_bk, flK_rt, tbF, ttF, andF, orF, notF, andV, orV, ifF, chF, b1, b2, bN, clF_val, aNil, aCons, nmF, ownF, cF, fzF, itF, inF, itOf, rng1, rng2, yesF, dTru, dNot, dAdd_int, dSub_int, dEq_int, dNe_int, dLt_int, dLe_int, dGt_int, dGe_int, dAddI_int, asB_bl, dIx_tup0, dIx_tup1, fLen, fAbs, fInt, fMax2, fMin2, gTupF, gsCons, gsNil, D.pure, D.pures, Bool.not_true, Bool.not_false, Bool.and_true, Bool.true_and, Bool.and_false, Bool.false_and, Option.bind_some, Option.bind_none, Option.map_some, Option.map_none, bind_ite, map_ite, List.map_cons, List.map_nil, List.replicate, List.cons_append, List.nil_append, List.append_nil, List.getElem?_cons_zero, List.getElem?_cons_succ, List.set_cons_zero, List.set_cons_succ, List.length_cons, List.length_nil, Nat.reduceAdd, Nat.reduceLT, Nat.zero_add, Nat.lt_add_one, if_true, if_false, ite_true, ite_false, decide_eq_true_eq, Bool.false_eq_true, reduceCtorEq, reduceIte, Nat.reduceLeDiff, Nat.reduceEqDiff, e]
  simp
/-! ### fractions -/
theorem frac_body (a b : D) (x y : Nat) (k o : Option D) : L__law_frac_1 [some a, some b, some (.int x), some (.int y), k, o] =
    if y = 0 then some (.bk, [some a, some b, some (.int x), some (.int y), k, o]) else some (.nx, [some a, some b, some (.int y), some (.int (x % y : Nat)), k, some (.int (x % y : Nat))]) := by
  simp only [L__law_frac_1, val_fnF, seqF_eq, andThen_nx, andThen_bk, andThen_ct, andThen_rt, retV_rt, retV_nx, nxF, bkF, ctF, rtF, rnF, rmF, stF, exF, put, parF, agF, ifS, forF_eq, flF_nil, flF_cons, flK_nx, flK_ct, flK_bk, flK_rt, tbF, ttF, andF, orF, notF, andV, orV, ifF, chF, b1, b2, bN, clF_val, aNil, aCons, nmF, ownF, cF, fzF, itF, inF, itOf, rng1, rng2, yesF, dTru, dNot, dAdd_int, dSub_int, dEq_int, dNe_int, dLt_int, dLe_int, dGt_int, dGe_int, dAddI_int, asB_bl, dIx_tup0, dIx_tup1, fLen, fAbs, fInt, fMax2, fMin2, gTupF, gsCons, gsNil, D.pure, D.pures, Bool.not_true, Bool.not_false, Bool.and_true, Bool.true_and, Bool.and_false, Bool.false_and, Option.bind_some, Option.bind_none, Option.map_some, Option.map_none, bind_ite, map_ite, List.map_cons, List.map_nil, List.replicate, List.cons_append, List.nil_append, List.append_nil, List.getElem?_cons_zero, List.getElem?_cons_succ, List.set_cons_zero, List.set_cons_succ, List.length_cons, List.length_nil, Nat.reduceAdd, Nat.reduceLT, Nat.zero_add, Nat.lt_add_one, if_true, if_false, ite_true, ite_false, decide_eq_true_eq, Bool.false_eq_true, reduceCtorEq, reduceIte, Nat.reduceLeDiff, Nat.reduceEqDiff]
  by_cases h : y = 0
  · simp [h, val_fnF, seqF_eq, andThen_nx, andThen_bk, andThen_ct, andThen_rt, retV_rt, retV_nx, nxF, bkF, ctF, rtF, rnF, rmF, stF, exF, put, parF, agF, ifS, forF_eq, flF_nil, flF_cons, flK_nx, flK_ct, flK_bk, flK_rt, tbF, ttF, andF, orF, notF, andV, orV, ifF, chF, b1, b2, bN, clF_val, aNil, aCons, nmF, ownF, cF, fzF, itF, inF, itOf, rng1, rng2, yesF, dTru, dNot, dAdd_int, dSub_int, dEq_int, dNe_int, dLt_int, dLe_int, dGt_int, dGe_int, dAddI_int, asB_bl, dIx_tup0, dIx_tup1, fLen, fAbs, fInt, fMax2, fMin2, gTupF, gsCons, gsNil, D.pure, D.pures, Bool.not_true, Bool.not_false, Bool.and_true, Bool.true_and, Bool.and_false, Bool.false_and, Option.bind_some, Option.bind_none, Option.map_some, Option.map_none, bind_ite, map_ite, List.map_cons, List.map_nil, List.replicate, List.cons_append, List.nil_append, List.append_nil, List.getElem?_cons_zero, List.getElem?_cons_succ, List.set_cons_zero, List.set_cons_succ, List.length_cons, List.length_nil, Nat.reduceAdd, Nat.reduceLT, Nat.zero_add, Nat.lt_add_one, if_true, if_false, ite_true, ite_false, decide_eq_true_eq, Bool.false_eq_true, reduceCtorEq, reduceIte, Nat.reduceLeDiff, Nat.reduceEqDiff]
  · have hy : (0 : Int) < (y : Int) := by omega
    have e : ¬ ((y : Int) = 0) := by omega
    simp only [h, e, val_fnF, seqF_eq, andThen_nx, andThen_bk, andThen_ct, andThen_rt, retV_rt, retV_nx, nxF, bkF, ctF, rtF, rnF, rmF, stF, exF, put, parF, agF, ifS, forF_eq, flF_nil, flF_cons, flK_nx, flK_ct, flK_bk, flK_rt, tbF, ttF, andF, orF, notF, andV, orV, ifF, chF, b1, b2, bN, clF_val, aNil, aCons, nmF, ownF, cF, fzF, itF, inF, itOf, rng1, rng2, yesF, dTru, dNot, dAdd_int, dSub_int, dEq_int, dNe_int, dLt_int, dLe_int, dGt_int, dGe_int, dAddI_int, asB_bl, dIx_tup0, dIx_tup1, fLen, fAbs, fInt, fMax2, fMin2, gTupF, gsCons, gsNil, D.pure, D.pures, Bool.not_true, Bool.not_false, Bool.and_true, Bool.true_and, Bool.and_false, Bool.false_and, Option.bind_some, Option.bind_none, Option.map_some, Option.map_none, bind_ite, map_ite, List.map_cons, List.map_nil, List.replicate, List.cons_append, List.nil_append, List.append_nil, List.getElem?_cons_zero, List.getElem?_cons_succ, List.set_cons_zero, List.set_cons_succ, List.length_cons, List.length_nil, Nat.reduceAdd, Nat.reduceLT, Nat.zero_add, Nat.lt_add_one, if_true, if_false, ite_true, ite_false, decide_eq_true_eq, Bool.false_eq_true, reduceCtorEq, reduceIte, Nat.reduceLeDiff, Nat.reduceEqDiff, dMod_pos hy, decide_false, Int.natCast_emod]
theorem half {y r : Nat} (h : r < y) (h0 : 0 < r) : 2 * (y % r) < y := by
  by_cases q : 2 * r ≤ y
  · have := Nat.mod_lt y h0; omega
  · have e : y % r = y - r := by rw [Nat.mod_eq_sub_mod (by omega), Nat.mod_eq_of_lt (by omega)]
    omega
theorem frac_loop (a b : D) : ∀ (n : Nat) (xs : List D) (x y : Nat) (k o : Option D), y < 2 ^ n → 2 * n ≤ xs.length →
    ∃ k' o', flF (put 4) L__law_frac_1 xs [some a, some b, some (.int x), some (.int y), k, o] = some (.nx, [some a, some b, some (.int (Nat.gcd x y : Nat)), some (.int 0), k', o'])
  | n, [], x, y, k, o, hy, hx => by
    have : n = 0 := by simp at hx; omega
    subst this
    have : y = 0 := by simpa using hy
    subst this
    exact ⟨k, o, by simp [flF_nil]⟩
  | 0, u :: xs, x, y, k, o, hy, hx => by
    have : y = 0 := by simpa using hy
    subst this
    refine ⟨some u, o, ?_⟩
    simp only [val_fnF, seqF_eq, andThen_nx, andThen_bk, andThen_ct, andThen_rt, retV_rt, retV_nx, nxF, bkF, ctF, rtF, rnF, rmF, stF, exF, put, parF, agF, ifS, forF_eq, flF_nil, flF_cons, flK_nx, flK_ct, flK_bk, flK_rt, tbF, ttF, andF, orF, notF, andV, orV, ifF, chF, b1, b2, bN, clF_val, aNil, aCons, nmF, ownF, cF, fzF, itF, inF, itOf, rng1, rng2, yesF, dTru, dNot, dAdd_int, dSub_int, dEq_int, dNe_int, dLt_int, dLe_int, dGt_int, dGe_int, dAddI_int, asB_bl, dIx_tup0, dIx_tup1, fLen, fAbs, fInt, fMax2, fMin2, gTupF, gsCons, gsNil, D.pure, D.pures, Bool.not_true, Bool.not_false, Bool.and_true, Bool.true_and, Bool.and_false, Bool.false_and, Option.bind_some, Option.bind_none, Option.map_some, Option.map_none, bind_ite, map_ite, List.map_cons, List.map_nil, List.replicate, List.cons_append, List.nil_append, List.append_nil, List.getElem?_cons_zero, List.getElem?_cons_succ, List.set_cons_zero, List.set_cons_succ, List.length_cons, List.length_nil, Nat.reduceAdd, Nat.reduceLT, Nat.zero_add, Nat.lt_add_one, if_true, if_false, ite_true, ite_false, decide_eq_true_eq, Bool.false_eq_true, reduceCtorEq, reduceIte, Nat.reduceLeDiff, Nat.reduceEqDiff, frac_body]
    simp
  | n + 1, [u], x, y, k, o, hy, hx => by simp at hx; omega
  | n + 1, u :: u2 :: xs, x, y, k, o, hy, hx => by
    by_cases h : y = 0
    · subst h
      refine ⟨some u, o, ?_⟩
      simp only [val_fnF, seqF_eq, andThen_nx, andThen_bk, andThen_ct, andThen_rt, retV_rt, retV_nx, nxF, bkF, ctF, rtF, rnF, rmF, stF, exF, put, parF, agF, ifS, forF_eq, flF_nil, flF_cons, flK_nx, flK_ct, flK_bk, flK_rt, tbF, ttF, andF, orF, notF, andV, orV, ifF, chF, b1, b2, bN, clF_val, aNil, aCons, nmF, ownF, cF, fzF, itF, inF, itOf, rng1, rng2, yesF, dTru, dNot, dAdd_int, dSub_int, dEq_int, dNe_int, dLt_int, dLe_int, dGt_int, dGe_int, dAddI_int, asB_bl, dIx_tup0, dIx_tup1, fLen, fAbs, fInt, fMax2, fMin2, gTupF, gsCons, gsNil, D.pure, D.pures, Bool.not_true, Bool.not_false, Bool.and_true, Bool.true_and, Bool.and_false, Bool.false_and, Option.bind_some, Option.bind_none, Option.map_some, Option.map_none, bind_ite, map_ite, List.map_cons, List.map_nil, List.replicate, List.cons_append, List.nil_append, List.append_nil, List.getElem?_cons_zero, List.getElem?_cons_succ, List.set_cons_zero, List.set_cons_succ, List.length_cons, List.length_nil, Nat.reduceAdd, Nat.reduceLT, Nat.zero_add, Nat.lt_add_one, if_true, if_false, ite_true, ite_false, decide_eq_true_eq, Bool.false_eq_true, reduceCtorEq, reduceIte, Nat.reduceLeDiff, Nat.reduceEqDiff, frac_body]
      simp
    · by_cases h2 : x % y = 0
      · refine ⟨some u2, some (.int (x % y : Nat)), ?_⟩
        have e : Nat.gcd x y = y := by rw [Nat.gcd_comm, Nat.gcd_rec, h2, Nat.gcd_zero_left]
        simp only [val_fnF, seqF_eq, andThen_nx, andThen_bk, andThen_ct, andThen_rt, retV_rt, retV_nx, nxF, bkF, ctF, rtF, rnF, rmF, stF, exF, put, parF, agF, ifS, forF_eq, flF_nil, flF_cons, flK_nx, flK_ct, flK_bk, flK_rt, tbF, ttF, andF, orF, notF, andV, orV, ifF, chF, b1, b2, bN, clF_val, aNil, aCons, nmF, ownF, cF, fzF, itF, inF, itOf, rng1, rng2, yesF, dTru, dNot, dAdd_int, dSub_int, dEq_int, dNe_int, dLt_int, dLe_int, dGt_int, dGe_int, dAddI_int, asB_bl, dIx_tup0, dIx_tup1, fLen, fAbs, fInt, fMax2, fMin2, gTupF, gsCons, gsNil, D.pure, D.pures, Bool.not_true, Bool.not_false, Bool.and_true, Bool.true_and, Bool.and_false, Bool.false_and, Option.bind_some, Option.bind_none, Option.map_some, Option.map_none, bind_ite, map_ite, List.map_cons, List.map_nil, List.replicate, List.cons_append, List.nil_append, List.append_nil, List.getElem?_cons_zero, List.getElem?_cons_succ, List.set_cons_zero, List.set_cons_succ, List.length_cons, List.length_nil, Nat.reduceAdd, Nat.reduceLT, Nat.zero_add, Nat.lt_add_one, if_true, if_false, ite_true, ite_false, decide_eq_true_eq, Bool.false_eq_true, reduceCtorEq, reduceIte, Nat.reduceLeDiff, Nat.reduceEqDiff, frac_body, if_neg h, h2, e]
        simp
      · have hr : x % y < y := Nat.mod_lt _ (by omega)
        have hh := half hr (by omega)
        obtain ⟨k', o', e⟩ := frac_loop a b n xs (x % y) (y % (x % y)) (some u2) (some (.int (y % (x % y) : Nat))) (by rw [Nat.pow_succ] at hy; omega) (by simp at hx; omega)
        refine ⟨k', o', ?_⟩
        have eg : Nat.gcd (x % y) (y % (x % y)) = Nat.gcd x y := by rw [Nat.gcd_comm, ← Nat.gcd_rec, ← Nat.gcd_rec, Nat.gcd_comm]
        rw [eg] at e
        simp only [val_fnF, seqF_eq, andThen_nx, andThen_bk, andThen_ct, andThen_rt, retV_rt, retV_nx, nxF, bkF, ctF, rtF, rnF, rmF, stF, exF, put, parF, agF, ifS, forF_eq, flF_nil, flF_cons, flK_nx, flK_ct, flK_bk, flK_rt, tbF, ttF, andF, orF, notF, andV, orV, ifF, chF, b1, b2, bN, clF_val, aNil, aCons, nmF, ownF, cF, fzF, itF, inF, itOf, rng1, rng2, yesF, dTru, dNot, dAdd_int, dSub_int, dEq_int, dNe_int, dLt_int, dLe_int, dGt_int, dGe_int, dAddI_int, asB_bl, dIx_tup0, dIx_tup1, fLen, fAbs, fInt, fMax2, fMin2, gTupF, gsCons, gsNil, D.pure, D.pures, Bool.not_true, Bool.not_false, Bool.and_true, Bool.true_and, Bool.and_false, Bool.false_and, Option.bind_some, Option.bind_none, Option.map_some, Option.map_none, bind_ite, map_ite, List.map_cons, List.map_nil, List.replicate, List.cons_append, List.nil_append, List.append_nil, List.getElem?_cons_zero, List.getElem?_cons_succ, List.set_cons_zero, List.set_cons_succ, List.length_cons, List.length_nil, Nat.reduceAdd, Nat.reduceLT, Nat.zero_add, Nat.lt_add_one, if_true, if_false, ite_true, ite_false, decide_eq_true_eq, Bool.false_eq_true, reduceCtorEq, reduceIte, Nat.reduceLeDiff, Nat.reduceEqDiff, frac_body, if_neg h, if_neg h2, e]
def frac (a b : Int) : Int × Int := (a / (Nat.gcd a.natAbs b.natAbs : Nat), b / (Nat.gcd a.natAbs b.natAbs : Nat))
theorem abs_eq (a : Int) : (if a < 0 then -a else a) = (a.natAbs : Int) := by split <;> omega
theorem bits_lt (b : Int) : b.natAbs < 2 ^ (Builtin.Int.intBits b) := by
  unfold Builtin.Int.intBits
  split
  · rename_i h; simp at h; subst h; decide
  · exact Nat.lt_log2_self
theorem frac_eq {a b : Int} {n : Nat} (hb : 0 < b) (hn : b.natAbs < 2 ^ n) (h4 : n ≤ 4000) : val F__law_frac [.int a, .int b] = some (fr (frac a b)) := by
  have hbits : Builtin.Int.intBits (b.natAbs : Int) ≤ n := PyProof.Rows.intBits_le (by simpa using hn)
  have hlt := bits_lt (b.natAbs : Int)
  generalize hk : Builtin.Int.intBits (b.natAbs : Int) = bits at hbits hlt
  have hr : rgOk (2 * (bits : Int) + 2) = true := by
    exact tst_of (by omega)
  have hm : mulOk 2 (bits : Int) = true := mulOk_of (a := 2) (b := 12) (by decide) (by simp; omega)
  have hg : 0 < Nat.gcd a.natAbs b.natAbs := Nat.gcd_pos_of_pos_right _ (by omega)
  have hgb : Nat.gcd a.natAbs b.natAbs ≤ b.natAbs := Nat.le_of_dvd (by omega) (Nat.gcd_dvd_right _ _)
  have hg' : (0 : Int) < (Nat.gcd a.natAbs b.natAbs : Nat) := by omega
  have hd : divOk (Nat.gcd a.natAbs b.natAbs : Nat) = true := divOk_of (b := n) (by omega) (by simp; omega) (by omega)
  obtain ⟨k', o', e⟩ := frac_loop (.int a) (.int b) bits ((List.range (2 * (bits : Int) + 2).toNat).map fun i : Nat => .int (i : Int)) a.natAbs b.natAbs none none (by simpa using hlt) (by simp; omega)
  have hb' : ¬ b < 0 := by omega
  have ht : ∀ a b : D, dTup [a, b] = some (.tup [a, b]) := fun _ _ => dTup_le (by show 2 ≤ 16777216; omega)
  simp only [F__law_frac, val_fnF, seqF_eq, andThen_nx, andThen_bk, andThen_ct, andThen_rt, retV_rt, retV_nx, nxF, bkF, ctF, rtF, rnF, rmF, stF, exF, put, parF, agF, ifS, forF_eq, flF_nil, flF_cons, flK_nx, flK_ct, flK_bk, flK_rt, tbF, ttF, andF, orF, notF, andV, orV, ifF, chF, b1, b2, bN, clF_val, aNil, aCons, nmF, ownF, cF, fzF, itF, inF, itOf, rng1, rng2, yesF, dTru, dNot, dAdd_int, dSub_int, dEq_int, dNe_int, dLt_int, dLe_int, dGt_int, dGe_int, dAddI_int, asB_bl, dIx_tup0, dIx_tup1, fLen, fAbs, fInt, fMax2, fMin2, gTupF, gsCons, gsNil, D.pure, D.pures, Bool.not_true, Bool.not_false, Bool.and_true, Bool.true_and, Bool.and_false, Bool.false_and, Option.bind_some, Option.bind_none, Option.map_some, Option.map_none, bind_ite, map_ite, List.map_cons, List.map_nil, List.replicate, List.cons_append, List.nil_append, List.append_nil, List.getElem?_cons_zero, List.getElem?_cons_succ, List.set_cons_zero, List.set_cons_succ, List.length_cons, List.length_nil, Nat.reduceAdd, Nat.reduceLT, Nat.zero_add, Nat.lt_add_one, if_true, if_false, ite_true, ite_false, decide_eq_true_eq, Bool.false_eq_true, reduceCtorEq, reduceIte, Nat.reduceLeDiff, Nat.reduceEqDiff, abs_eq, fBits, hk, dMul_int hm, hr, e, hb', decide_false, dDiv_pos hg' hd, ht, frac]

/-! ### multiplicities: what they keep -/
theorem V.ne {p a : Int} {v : Nat} (h : V p a v) : a ≠ 0 ∨ True := .inr trivial
theorem V.ex {p : Int} (hp : 2 ≤ p) : ∀ (n : Nat) (a : Int), a ≠ 0 → a.natAbs ≤ n → ∃ v, V p a v
  | 0, a, h0, hn => by omega
  | n + 1, a, h0, hn => by
    by_cases h : a % p = 0
    · obtain ⟨c, hc⟩ := Int.dvd_of_emod_eq_zero h
      have c0 : c ≠ 0 := fun e => h0 (by rw [hc, e, Int.mul_zero])
      have hlt : c.natAbs < a.natAbs := by
        rw [hc, Int.natAbs_mul]
        have h1 : 0 < c.natAbs := by omega
        have h2 : 2 ≤ p.natAbs := by omega
        calc c.natAbs < 2 * c.natAbs := by omega
          _ ≤ p.natAbs * c.natAbs := Nat.mul_le_mul_right _ h2
      obtain ⟨v, m, e, k⟩ := V.ex hp n c c0 (by omega)
      exact ⟨v + 1, m, by rw [hc, e, Int.pow_succ, Int.mul_comm (p ^ v) p, Int.mul_assoc], k⟩
    · exact ⟨0, a, by simp, h⟩
theorem V.uniq {p a : Int} (hp : 0 < p) : ∀ {v w : Nat}, V p a v → V p a w → v = w
  | 0, 0, _, _ => rfl
  | 0, w + 1, h, h' => absurd (h'.succ hp).1 h.zero
  | v + 1, 0, h, h' => absurd (h.succ hp).1 h'.zero
  | v + 1, w + 1, h, h' => by rw [V.uniq hp (h.succ hp).2 (h'.succ hp).2]
open Classical in
def mu (p a : Int) : Nat := if h : ∃ v, V p a v then Classical.choose h else 0
theorem mu_spec {p a : Int} (hp : 2 ≤ p) (h : a ≠ 0) : V p a (mu p a) := by
  have e := V.ex hp a.natAbs a h (Nat.le_refl _)
  unfold mu
  rw [dif_pos e]
  exact Classical.choose_spec e
theorem mu_eq {p a : Int} {v : Nat} (hp : 2 ≤ p) (h : V p a v) (h0 : a ≠ 0) : mu p a = v := V.uniq (by omega) (mu_spec hp h0) h
theorem V.mul {p a b : Int} {v w : Nat} (h : PP p) (ha : V p a v) (hb : V p b w) : V p (a * b) (v + w) := by
  obtain ⟨m, e, k⟩ := ha
  obtain ⟨m', e', k'⟩ := hb
  refine ⟨m * m', ?_, fun z => (h.pr m m' z).elim k k'⟩
  rw [e, e', Int.pow_add, Int.mul_assoc, Int.mul_assoc, Int.mul_left_comm m]
theorem mu_mul {p a b : Int} (h : PP p) (ha : a ≠ 0) (hb : b ≠ 0) : mu p (a * b) = mu p a + mu p b :=
  mu_eq h.lo ((mu_spec h.lo ha).mul h (mu_spec h.lo hb)) (Int.mul_ne_zero ha hb)
theorem mu_lt {p a : Int} {n : Nat} (h : PP p) (ha : a ≠ 0) (hn : a.natAbs < 2 ^ n) : mu p a < n := by
  obtain ⟨m, e, k⟩ := mu_spec h.lo ha
  have m0 : m ≠ 0 := fun z => k (by rw [z]; simp)
  have h1 : 2 ^ (mu p a) ≤ a.natAbs := by
    conv => rhs; rw [e]
    rw [Int.natAbs_mul, Int.natAbs_pow]
    have h2 : 2 ≤ p.natAbs := by have := h.lo; omega
    calc 2 ^ (mu p a) ≤ p.natAbs ^ (mu p a) := Nat.pow_le_pow_left h2 _
      _ = p.natAbs ^ (mu p a) * 1 := by simp
      _ ≤ _ := Nat.mul_le_mul_left _ (by omega)
  exact (Nat.pow_lt_pow_iff_right (by decide : 1 < 2)).mp (Nat.lt_of_le_of_lt h1 hn)
/-- a sum -/
theorem mu_add {p a b : Int} (h : PP p) (ha : a ≠ 0) (hb : b ≠ 0) (hs : a + b ≠ 0) (hl : mu p a ≤ mu p b) : mu p a ≤ mu p (a + b) ∧ (mu p a ≠ mu p b → mu p (a + b) = mu p a) := by
  obtain ⟨m, e, k⟩ := mu_spec h.lo ha
  obtain ⟨m', e', k'⟩ := mu_spec h.lo hb
  obtain ⟨d, hd⟩ := Nat.exists_eq_add_of_le hl
  have e2 : a + b = p ^ (mu p a) * (m + p ^ d * m') := by
    conv => lhs; rw [e, e', hd, Int.pow_add]
    rw [Int.mul_add, Int.mul_assoc]
  have c0 : m + p ^ d * m' ≠ 0 := fun z => hs (by rw [e2, z, Int.mul_zero])
  obtain ⟨w, m2, e3, k3⟩ := V.ex h.lo _ _ c0 (Nat.le_refl _)
  have e4 : mu p (a + b) = mu p a + w := mu_eq h.lo ⟨m2, by rw [e2, e3, Int.pow_add, Int.mul_assoc], k3⟩ hs
  refine ⟨by omega, fun hne => ?_⟩
  have d0 : d ≠ 0 := by omega
  obtain ⟨d', rfl⟩ := Nat.exists_eq_succ_of_ne_zero d0
  have : V p (m + p ^ (d' + 1) * m') 0 := ⟨m + p ^ (d' + 1) * m', by simp, fun z => k (by
    rw [Int.pow_succ, Int.mul_comm (p ^ d') p, Int.mul_assoc, Int.add_mul_emod_self_left] at z
    exact z)⟩
  have := V.uniq h.pos ⟨m2, e3, k3⟩ this
  omega
/-! ### fractions and their valuations -/
structure Bd (n : Nat) (x : Int × Int) : Prop where
  a : x.1.natAbs < 2 ^ n
  p : 0 < x.2
  b : x.2.natAbs < 2 ^ n
theorem Bd.mono {n m : Nat} {x : Int × Int} (h : Bd n x) (l : n ≤ m) : Bd m x :=
  ⟨Nat.lt_of_lt_of_le h.a (Nat.pow_le_pow_right (by decide) l), h.p, Nat.lt_of_lt_of_le h.b (Nat.pow_le_pow_right (by decide) l)⟩
def vf (p : Int) (x : Int × Int) : Option Int := if x.1 = 0 then none else some ((mu p x.1 : Int) - mu p x.2)
def vD : Option Int → D
  | none => .tup []
  | some k => .tup [.int k, .int 1]
theorem frac_bd {a b : Int} {n : Nat} (ha : a.natAbs < 2 ^ n) (hb : 0 < b) (hn : b.natAbs < 2 ^ n) : Bd n (frac a b) ∧ ((frac a b).1 = 0 ↔ a = 0) := by
  have hg : 0 < Nat.gcd a.natAbs b.natAbs := Nat.gcd_pos_of_pos_right _ (by omega)
  obtain ⟨c, hc⟩ := Int.ofNat_dvd_left.mpr (Nat.gcd_dvd_left a.natAbs b.natAbs)
  obtain ⟨d, hd⟩ := Int.ofNat_dvd_left.mpr (Nat.gcd_dvd_right a.natAbs b.natAbs)
  unfold frac
  generalize Nat.gcd a.natAbs b.natAbs = g at hg hc hd
  have hg' : (g : Int) ≠ 0 := by omega
  have e1 : a / (g : Int) = c := by rw [hc, Int.mul_ediv_cancel_left _ hg']
  have e2 : b / (g : Int) = d := by rw [hd, Int.mul_ediv_cancel_left _ hg']
  have b1 : c.natAbs ≤ a.natAbs := by rw [hc, Int.natAbs_mul]; simp; exact Nat.le_mul_of_pos_left _ hg
  have b2 : d.natAbs ≤ b.natAbs := by rw [hd, Int.natAbs_mul]; simp; exact Nat.le_mul_of_pos_left _ hg
  have d0 : 0 < d := by
    rcases Int.lt_trichotomy d 0 with z | z | z
    · have := Int.mul_neg_of_pos_of_neg (show (0 : Int) < g by omega) z; omega
    · rw [z] at hd; simp at hd; omega
    · exact z
  rw [e1, e2]
  refine ⟨⟨by show c.natAbs < _; omega, d0, by show d.natAbs < _; omega⟩, fun z => ?_, fun z => ?_⟩
  · have z : c = 0 := z
    rw [hc, z, Int.mul_zero]
  · rw [z] at hc
    show c = 0
    rcases Int.mul_eq_zero.mp hc.symm with w | w
    · exact absurd w hg'
    · exact w
theorem vf_frac {p a b : Int} (h : PP p) (hb : 0 < b) : vf p (frac a b) = if a = 0 then none else some ((mu p a : Int) - mu p b) := by
  have hz := (frac_bd (a := a) (b := b) (n := max (a.natAbs + 1) (b.natAbs + 1)) (Nat.lt_of_lt_of_le Nat.lt_two_pow_self (Nat.pow_le_pow_right (by decide) (by omega))) hb (Nat.lt_of_lt_of_le Nat.lt_two_pow_self (Nat.pow_le_pow_right (by decide) (by omega)))).2
  unfold vf
  by_cases a0 : a = 0
  · rw [if_pos (hz.mpr a0), if_pos a0]
  · rw [if_neg fun z => a0 (hz.mp z), if_neg a0]
    have hg : 0 < Nat.gcd a.natAbs b.natAbs := Nat.gcd_pos_of_pos_right _ (by omega)
    obtain ⟨c, hc⟩ := Int.ofNat_dvd_left.mpr (Nat.gcd_dvd_left a.natAbs b.natAbs)
    obtain ⟨d, hd⟩ := Int.ofNat_dvd_left.mpr (Nat.gcd_dvd_right a.natAbs b.natAbs)
    unfold frac
    generalize Nat.gcd a.natAbs b.natAbs = g at hg hc hd
    have hg' : (g : Int) ≠ 0 := by omega
    have e1 : a / (g : Int) = c := by rw [hc, Int.mul_ediv_cancel_left _ hg']
    have e2 : b / (g : Int) = d := by rw [hd, Int.mul_ediv_cancel_left _ hg']
    show some ((mu p (a / (g : Int)) : Int) - mu p (b / (g : Int))) = _
    rw [e1, e2]
    have c0 : c ≠ 0 := fun z => a0 (by rw [hc, z, Int.mul_zero])
    have d0 : d ≠ 0 := fun z => by rw [z] at hd; simp at hd; omega
    have m1 := mu_mul h hg' c0
    have m2 := mu_mul h hg' d0
    rw [← hc] at m1
    rw [← hd] at m2
    congr 1
    omega
theorem pair_ok (a b : D) : dTup [a, b] = some (.tup [a, b]) := dTup_le (by show 2 ≤ 16777216; omega)
theorem nil_ok : dTup [] = some (.tup []) := dTup_le (by show 0 ≤ 16777216; omega)
theorem lnil_ok : dLst [] = some (.lst true []) := dLst_le (by show 0 ≤ 16777216; omega)
theorem lpair_ok (a b : D) : dLst [a, b] = some (.lst true [a, b]) := dLst_le (by show 2 ≤ 16777216; omega)
theorem valuation_eq {p : Int} {x : Int × Int} {n : Nat} (h : PP p) (hx : Bd n x) : val F_valuation [.int p, fr x] = some (vD (vf p x)) := by
  have hb0 : x.2 ≠ 0 := by have := hx.p; omega
  by_cases h0 : x.1 = 0
  · simp only [F_valuation, val_fnF, seqF_eq, andThen_nx, andThen_bk, andThen_ct, andThen_rt, retV_rt, retV_nx, nxF, bkF, ctF, rtF, rnF, rmF, stF, exF, put, parF, agF, ifS, forF_eq, flF_nil, flF_cons, flK_nx, flK_ct, flK_bk, flK_rt, tbF, ttF, andF, orF, notF, andV, orV, ifF, chF, b1, b2, bN, clF_val, aNil, aCons, nmF, ownF, cF, fzF, itF, inF, itOf, rng1, rng2, yesF, dTru, dNot, dAdd_int, dSub_int, dEq_int, dNe_int, dLt_int, dLe_int, dGt_int, dGe_int, dAddI_int, asB_bl, dIx_tup0, dIx_tup1, fLen, fAbs, fInt, fMax2, fMin2, gTupF, gsCons, gsNil, D.pure, D.pures, Bool.not_true, Bool.not_false, Bool.and_true, Bool.true_and, Bool.and_false, Bool.false_and, Option.bind_some, Option.bind_none, Option.map_some, Option.map_none, bind_ite, map_ite, List.map_cons, List.map_nil, List.replicate, List.cons_append, List.nil_append, List.append_nil, List.getElem?_cons_zero, List.getElem?_cons_succ, List.set_cons_zero, List.set_cons_succ, List.length_cons, List.length_nil, Nat.reduceAdd, Nat.reduceLT, Nat.zero_add, Nat.lt_add_one, if_true, if_false, ite_true, ite_false, decide_eq_true_eq, Bool.false_eq_true, reduceCtorEq, reduceIte, Nat.reduceLeDiff, Nat.reduceEqDiff, h0, g_INFINITE, vf, vD]
  · simp only [F_valuation, val_fnF, seqF_eq, andThen_nx, andThen_bk, andThen_ct, andThen_rt, retV_rt, retV_nx, nxF, bkF, ctF, rtF, rnF, rmF, stF, exF, put, parF, agF, ifS, forF_eq, flF_nil, flF_cons, flK_nx, flK_ct, flK_bk, flK_rt, tbF, ttF, andF, orF, notF, andV, orV, ifF, chF, b1, b2, bN, clF_val, aNil, aCons, nmF, ownF, cF, fzF, itF, inF, itOf, rng1, rng2, yesF, dTru, dNot, dAdd_int, dSub_int, dEq_int, dNe_int, dLt_int, dLe_int, dGt_int, dGe_int, dAddI_int, asB_bl, dIx_tup0, dIx_tup1, fLen, fAbs, fInt, fMax2, fMin2, gTupF, gsCons, gsNil, D.pure, D.pures, Bool.not_true, Bool.not_false, Bool.and_true, Bool.true_and, Bool.and_false, Bool.false_and, Option.bind_some, Option.bind_none, Option.map_some, Option.map_none, bind_ite, map_ite, List.map_cons, List.map_nil, List.replicate, List.cons_append, List.nil_append, List.append_nil, List.getElem?_cons_zero, List.getElem?_cons_succ, List.set_cons_zero, List.set_cons_succ, List.length_cons, List.length_nil, Nat.reduceAdd, Nat.reduceLT, Nat.zero_add, Nat.lt_add_one, if_true, if_false, ite_true, ite_false, decide_eq_true_eq, Bool.false_eq_true, reduceCtorEq, reduceIte, Nat.reduceLeDiff, Nat.reduceEqDiff, h0, decide_false, divisions_eq h (mu_spec h.lo h0), divisions_eq h (mu_spec h.lo hb0), pair_ok, vf, vD]
theorem lval_eq {p : Int} {x : Int × Int} {n : Nat} (h : PP p) (hx : Bd n x) (hn : n ≤ 400) : val F__law_val [.int p, fr x] = some (vD (vf p x)) := by
  have hb0 : x.2 ≠ 0 := by have := hx.p; omega
  by_cases h0 : x.1 = 0
  · simp only [F__law_val, val_fnF, seqF_eq, andThen_nx, andThen_bk, andThen_ct, andThen_rt, retV_rt, retV_nx, nxF, bkF, ctF, rtF, rnF, rmF, stF, exF, put, parF, agF, ifS, forF_eq, flF_nil, flF_cons, flK_nx, flK_ct, flK_bk, flK_rt, tbF, ttF, andF, orF, notF, andV, orV, ifF, chF, b1, b2, bN, clF_val, aNil, aCons, nmF, ownF, cF, fzF, itF, inF, itOf, rng1, rng2, yesF, dTru, dNot, dAdd_int, dSub_int, dEq_int, dNe_int, dLt_int, dLe_int, dGt_int, dGe_int, dAddI_int, asB_bl, dIx_tup0, dIx_tup1, fLen, fAbs, fInt, fMax2, fMin2, gTupF, gsCons, gsNil, D.pure, D.pures, Bool.not_true, Bool.not_false, Bool.and_true, Bool.true_and, Bool.and_false, Bool.false_and, Option.bind_some, Option.bind_none, Option.map_some, Option.map_none, bind_ite, map_ite, List.map_cons, List.map_nil, List.replicate, List.cons_append, List.nil_append, List.append_nil, List.getElem?_cons_zero, List.getElem?_cons_succ, List.set_cons_zero, List.set_cons_succ, List.length_cons, List.length_nil, Nat.reduceAdd, Nat.reduceLT, Nat.zero_add, Nat.lt_add_one, if_true, if_false, ite_true, ite_false, decide_eq_true_eq, Bool.false_eq_true, reduceCtorEq, reduceIte, Nat.reduceLeDiff, Nat.reduceEqDiff, h0, vf, vD, nil_ok]
  · simp only [F__law_val, val_fnF, seqF_eq, andThen_nx, andThen_bk, andThen_ct, andThen_rt, retV_rt, retV_nx, nxF, bkF, ctF, rtF, rnF, rmF, stF, exF, put, parF, agF, ifS, forF_eq, flF_nil, flF_cons, flK_nx, flK_ct, flK_bk, flK_rt, tbF, ttF, andF, orF, notF, andV, orV, ifF, chF, b1, b2, bN, clF_val, aNil, aCons, nmF, ownF, cF, fzF, itF, inF, itOf, rng1, rng2, yesF, dTru, dNot, dAdd_int, dSub_int, dEq_int, dNe_int, dLt_int, dLe_int, dGt_int, dGe_int, dAddI_int, asB_bl, dIx_tup0, dIx_tup1, fLen, fAbs, fInt, fMax2, fMin2, gTupF, gsCons, gsNil, D.pure, D.pures, Bool.not_true, Bool.not_false, Bool.and_true, Bool.true_and, Bool.and_false, Bool.false_and, Option.bind_some, Option.bind_none, Option.map_some, Option.map_none, bind_ite, map_ite, List.map_cons, List.map_nil, List.replicate, List.cons_append, List.nil_append, List.append_nil, List.getElem?_cons_zero, List.getElem?_cons_succ, List.set_cons_zero, List.set_cons_succ, List.length_cons, List.length_nil, Nat.reduceAdd, Nat.reduceLT, Nat.zero_add, Nat.lt_add_one, if_true, if_false, ite_true, ite_false, decide_eq_true_eq, Bool.false_eq_true, reduceCtorEq, reduceIte, Nat.reduceLeDiff, Nat.reduceEqDiff, h0, decide_false, divided_eq h (mu_spec h.lo h0) (Nat.lt_of_lt_of_le (mu_lt h h0 hx.a) hn), divided_eq h (mu_spec h.lo hb0) (Nat.lt_of_lt_of_le (mu_lt h hb0 hx.b) hn), pair_ok, vf, vD]
def tm (x y : Int × Int) : Int × Int := frac (x.1 * y.1) (x.2 * y.2)
def pl (x y : Int × Int) : Int × Int := frac (x.1 * y.2 + y.1 * x.2) (x.2 * y.2)
theorem abs_mul {a b : Int} {n m : Nat} (ha : a.natAbs < 2 ^ n) (hb : b.natAbs < 2 ^ m) : (a * b).natAbs < 2 ^ (n + m) := by
  rw [Int.natAbs_mul, Nat.pow_add]
  exact Nat.mul_lt_mul'' ha hb
theorem times_eq {x y : Int × Int} {n m : Nat} (hx : Bd n x) (hy : Bd m y) (hn : n + m ≤ 4000) : val F__law_times [fr x, fr y] = some (fr (tm x y)) ∧ Bd (n + m) (tm x y) := by
  have m1 : mulOk x.1 y.1 = true := mulOk_of hx.a hy.a (by omega)
  have m2 : mulOk x.2 y.2 = true := mulOk_of hx.b hy.b (by omega)
  refine ⟨?_, (frac_bd (abs_mul hx.a hy.a) (Int.mul_pos hx.p hy.p) (abs_mul hx.b hy.b)).1⟩
  simp only [F__law_times, val_fnF, seqF_eq, andThen_nx, andThen_bk, andThen_ct, andThen_rt, retV_rt, retV_nx, nxF, bkF, ctF, rtF, rnF, rmF, stF, exF, put, parF, agF, ifS, forF_eq, flF_nil, flF_cons, flK_nx, flK_ct, flK_bk, flK_rt, tbF, ttF, andF, orF, notF, andV, orV, ifF, chF, b1, b2, bN, clF_val, aNil, aCons, nmF, ownF, cF, fzF, itF, inF, itOf, rng1, rng2, yesF, dTru, dNot, dAdd_int, dSub_int, dEq_int, dNe_int, dLt_int, dLe_int, dGt_int, dGe_int, dAddI_int, asB_bl, dIx_tup0, dIx_tup1, fLen, fAbs, fInt, fMax2, fMin2, gTupF, gsCons, gsNil, D.pure, D.pures, Bool.not_true, Bool.not_false, Bool.and_true, Bool.true_and, Bool.and_false, Bool.false_and, Option.bind_some, Option.bind_none, Option.map_some, Option.map_none, bind_ite, map_ite, List.map_cons, List.map_nil, List.replicate, List.cons_append, List.nil_append, List.append_nil, List.getElem?_cons_zero, List.getElem?_cons_succ, List.set_cons_zero, List.set_cons_succ, List.length_cons, List.length_nil, Nat.reduceAdd, Nat.reduceLT, Nat.zero_add, Nat.lt_add_one, if_true, if_false, ite_true, ite_false, decide_eq_true_eq, Bool.false_eq_true, reduceCtorEq, reduceIte, Nat.reduceLeDiff, Nat.reduceEqDiff, fr, dMul_int m1, dMul_int m2, frac_eq (Int.mul_pos hx.p hy.p) (abs_mul hx.b hy.b) hn, tm]
theorem plus_eq {x y : Int × Int} {n m : Nat} (hx : Bd n x) (hy : Bd m y) (hn : n + m + 1 ≤ 4000) : val F__law_plus [fr x, fr y] = some (fr (pl x y)) ∧ Bd (n + m + 1) (pl x y) := by
  have m1 : mulOk x.1 y.2 = true := mulOk_of hx.a hy.b (by omega)
  have m3 : mulOk y.1 x.2 = true := mulOk_of hy.a hx.b (by omega)
  have m2 : mulOk x.2 y.2 = true := mulOk_of hx.b hy.b (by omega)
  have q1 := abs_mul hx.a hy.b
  have q2 := abs_mul hy.a hx.b
  have q3 := abs_mul hx.b hy.b
  have bb : (x.1 * y.2 + y.1 * x.2).natAbs < 2 ^ (n + m + 1) := by
    rw [Nat.add_comm m n] at q2
    rw [Nat.pow_succ]
    omega
  refine ⟨?_, (frac_bd bb (Int.mul_pos hx.p hy.p) (by rw [Nat.pow_succ]; omega)).1⟩
  simp only [F__law_plus, val_fnF, seqF_eq, andThen_nx, andThen_bk, andThen_ct, andThen_rt, retV_rt, retV_nx, nxF, bkF, ctF, rtF, rnF, rmF, stF, exF, put, parF, agF, ifS, forF_eq, flF_nil, flF_cons, flK_nx, flK_ct, flK_bk, flK_rt, tbF, ttF, andF, orF, notF, andV, orV, ifF, chF, b1, b2, bN, clF_val, aNil, aCons, nmF, ownF, cF, fzF, itF, inF, itOf, rng1, rng2, yesF, dTru, dNot, dAdd_int, dSub_int, dEq_int, dNe_int, dLt_int, dLe_int, dGt_int, dGe_int, dAddI_int, asB_bl, dIx_tup0, dIx_tup1, fLen, fAbs, fInt, fMax2, fMin2, gTupF, gsCons, gsNil, D.pure, D.pures, Bool.not_true, Bool.not_false, Bool.and_true, Bool.true_and, Bool.and_false, Bool.false_and, Option.bind_some, Option.bind_none, Option.map_some, Option.map_none, bind_ite, map_ite, List.map_cons, List.map_nil, List.replicate, List.cons_append, List.nil_append, List.append_nil, List.getElem?_cons_zero, List.getElem?_cons_succ, List.set_cons_zero, List.set_cons_succ, List.length_cons, List.length_nil, Nat.reduceAdd, Nat.reduceLT, Nat.zero_add, Nat.lt_add_one, if_true, if_false, ite_true, ite_false, decide_eq_true_eq, Bool.false_eq_true, reduceCtorEq, reduceIte, Nat.reduceLeDiff, Nat.reduceEqDiff, fr, dMul_int m1, dMul_int m2, dMul_int m3, frac_eq (Int.mul_pos hx.p hy.p) q3 (show n + m ≤ 4000 by omega), pl]
end
end G40

set_option Elab.async false
set_option linter.all false
set_option maxRecDepth 100000
set_option maxHeartbeats 2000000
namespace G40
open PySem L2 Pz
noncomputable section
def oadd : Option Int → Option Int → Option Int
  | some a, some b => some (a + b)
  | _, _ => none
def olt : Option Int → Option Int → Bool
  | none, _ => false
  | some _, none => true
  | some a, some b => decide (a < b)
def omin (a b : Option Int) : Option Int := if olt b a = true then b else a
theorem vf_tm {p : Int} {x y : Int × Int} {n m : Nat} (h : PP p) (hx : Bd n x) (hy : Bd m y) : vf p (tm x y) = oadd (vf p x) (vf p y) := by
  have x2 := hx.p
  have y2 := hy.p
  unfold tm
  rw [vf_frac h (Int.mul_pos hx.p hy.p)]
  unfold vf
  by_cases h1 : x.1 = 0
  · simp [h1, oadd]
  · by_cases h2 : y.1 = 0
    · simp [h2, oadd]
    · rw [if_neg (Int.mul_ne_zero h1 h2), if_neg h1, if_neg h2, mu_mul h h1 h2, mu_mul h (by omega) (by omega)]
      simp only [oadd]
      congr 1
      omega
theorem mu_neg {p a : Int} (h : PP p) (ha : a ≠ 0) : mu p (-a) = mu p a := by
  obtain ⟨m, e, k⟩ := mu_spec h.lo ha
  refine mu_eq h.lo ⟨-m, by rw [Int.mul_neg, ← e], fun z => k ?_⟩ (by omega)
  have := Int.dvd_of_emod_eq_zero z
  exact Int.emod_eq_zero_of_dvd (Int.dvd_neg.mp this)
theorem vf_pl {p : Int} {x y : Int × Int} {n m : Nat} (h : PP p) (hx : Bd n x) (hy : Bd m y) : olt (vf p (pl x y)) (omin (vf p x) (vf p y)) = false ∧ (vf p x ≠ vf p y → vf p (pl x y) = omin (vf p x) (vf p y)) := by
  have x2 := hx.p
  have y2 := hy.p
  have x2' : x.2 ≠ 0 := by omega
  have y2' : y.2 ≠ 0 := by omega
  have key : ∀ {a b c : Option Int}, c = omin a b → olt c (omin a b) = false ∧ (a ≠ b → c = omin a b) := fun {a b c} e => by
    subst e
    refine ⟨?_, fun _ => rfl⟩
    cases omin a b with
    | none => rfl
    | some z => simp [olt]
  unfold pl
  rw [vf_frac h (Int.mul_pos hx.p hy.p)]
  unfold vf
  by_cases h1 : x.1 = 0
  · by_cases h2 : y.1 = 0
    · exact key (by simp [h1, h2, omin, olt])
    · refine key ?_
      rw [if_neg (by rw [h1, Int.zero_mul, Int.zero_add]; exact Int.mul_ne_zero h2 x2'), if_pos h1, if_neg h2, h1, Int.zero_mul, Int.zero_add, mu_mul h h2 x2', mu_mul h x2' y2']
      simp only [omin, olt, if_true]
      congr 1
      omega
  · by_cases h2 : y.1 = 0
    · refine key ?_
      rw [if_neg (by rw [h2, Int.zero_mul, Int.add_zero]; exact Int.mul_ne_zero h1 y2'), if_neg h1, if_pos h2, h2, Int.zero_mul, Int.add_zero, mu_mul h h1 y2', mu_mul h x2' y2']
      simp only [omin, olt, Bool.false_eq_true, if_false]
      congr 1
      omega
    · have s0 : x.1 * y.2 ≠ 0 := Int.mul_ne_zero h1 y2'
      have t0 : y.1 * x.2 ≠ 0 := Int.mul_ne_zero h2 x2'
      have es := mu_mul h h1 y2'
      have et := mu_mul h h2 x2'
      have ed := mu_mul h x2' y2'
      rw [if_neg h1, if_neg h2]
      generalize x.1 * y.2 = s at *
      generalize y.1 * x.2 = t at *
      by_cases hs : s + t = 0
      · rw [if_pos hs]
        refine ⟨rfl, fun hne => ?_⟩
        have : mu p s = mu p t := by
          have e : s = -t := by omega
          rw [e, mu_neg h t0]
        exact absurd (by congr 1; omega) hne
      · rw [if_neg hs]
        rcases Nat.le_total (mu p s) (mu p t) with hl | hl
        · obtain ⟨k1, k2⟩ := mu_add h s0 t0 hs hl
          have eo : omin (some ((mu p x.1 : Int) - mu p x.2)) (some ((mu p y.1 : Int) - mu p y.2)) = some ((mu p x.1 : Int) - mu p x.2) := by
            unfold omin
            rw [if_neg]
            simp only [olt, decide_eq_true_eq]
            omega
          rw [eo]
          refine ⟨?_, fun hne => ?_⟩
          · simp only [olt, decide_eq_false_iff_not]; omega
          · have : mu p s ≠ mu p t := fun z => hne (by congr 1; omega)
            have := k2 this
            congr 1
            omega
        · rw [Int.add_comm] at hs ⊢
          obtain ⟨k1, k2⟩ := mu_add h t0 s0 hs hl
          by_cases q : mu p s = mu p t
          · have eo : omin (some ((mu p x.1 : Int) - mu p x.2)) (some ((mu p y.1 : Int) - mu p y.2)) = some ((mu p x.1 : Int) - mu p x.2) := by
              unfold omin
              rw [if_neg]
              simp only [olt, decide_eq_true_eq]
              omega
            rw [eo]
            refine ⟨?_, fun hne => absurd (by congr 1; omega) hne⟩
            simp only [olt, decide_eq_false_iff_not]; omega
          · have eo : omin (some ((mu p x.1 : Int) - mu p x.2)) (some ((mu p y.1 : Int) - mu p y.2)) = some ((mu p y.1 : Int) - mu p y.2) := by
              unfold omin
              rw [if_pos]
              simp only [olt, decide_eq_true_eq]
              omega
            rw [eo]
            have := k2 (fun z => q z.symm)
            refine ⟨?_, fun hne => ?_⟩
            · simp only [olt, decide_eq_false_iff_not]; omega
            · congr 1
              omega
/-! ### the law's own small defs over values -/
theorem shp_vD (a : Option Int) : shp (vD a) = true := by
  cases a <;> (unfold shp SeqAt.shaped; simp [vD, D.py, D.pys, PyData.canLay0, PyData.canLayAll0, PyData.depth, PyData.depthAll])
theorem eqv_vD (a b : Option Int) : PyData.eqv (vD a).py (vD b).py = decide (a = b) := by
  cases a <;> cases b <;> simp [vD, D.py, D.pys, PyData.eqv, PyData.eqvAll]
  rename_i a b
  by_cases h : a = b <;> simp [h]
theorem dEq_vD (a b : Option Int) : dEq (vD a) (vD b) = some (.bl (decide (a = b))) := by
  unfold dEq; rw [if_pos ⟨shp_vD a, shp_vD b⟩, eqv_vD]
theorem dNe_vD (a b : Option Int) : dNe (vD a) (vD b) = some (.bl (!decide (a = b))) := by
  unfold dNe; rw [if_pos ⟨shp_vD a, shp_vD b⟩, eqv_vD]
theorem dEq_vD0 (a : Option Int) : dEq (vD a) (.tup []) = some (.bl (decide (a = none))) := dEq_vD a none
def Sm (a : Option Int) : Prop := ∀ k, a = some k → k.natAbs < 2 ^ 12
theorem pure_vD (a : Option Int) : (vD a).pure = true := by cases a <;> rfl
theorem below_eq {a b : Option Int} (ha : Sm a) (hb : Sm b) : val F__law_below [vD a, vD b] = some (.bl (olt a b)) := by
  cases a with
  | none => simp only [F__law_below, val_fnF, seqF_eq, andThen_nx, andThen_bk, andThen_ct, andThen_rt, retV_rt, retV_nx, nxF, bkF, ctF, rtF, rnF, rmF, stF, exF, put, parF, agF, ifS, forF_eq, flF_nil, flF_cons, flK_nx, flK_ct, flK_bk, flK_rt, tbF, ttF, andF, orF, notF, andV, orV, ifF, chF, b1, b2, bN, clF_val, aNil, aCons, nmF, ownF, cF, fzF, itF, inF, itOf, rng1, rng2, yesF, dTru, dNot, dAdd_int, dSub_int, dEq_int, dNe_int, dLt_int, dLe_int, dGt_int, dGe_int, dAddI_int, asB_bl, dIx_tup0, dIx_tup1, fLen, fAbs, fInt, fMax2, fMin2, gTupF, gsCons, gsNil, D.pure, D.pures, Bool.not_true, Bool.not_false, Bool.and_true, Bool.true_and, Bool.and_false, Bool.false_and, Option.bind_some, Option.bind_none, Option.map_some, Option.map_none, bind_ite, map_ite, List.map_cons, List.map_nil, List.replicate, List.cons_append, List.nil_append, List.append_nil, List.getElem?_cons_zero, List.getElem?_cons_succ, List.set_cons_zero, List.set_cons_succ, List.length_cons, List.length_nil, Nat.reduceAdd, Nat.reduceLT, Nat.zero_add, Nat.lt_add_one, if_true, if_false, ite_true, ite_false, decide_eq_true_eq, Bool.false_eq_true, reduceCtorEq, reduceIte, Nat.reduceLeDiff, Nat.reduceEqDiff, dEq_vD0, nil_ok]; rfl
  | some k =>
    cases b with
    | none => simp only [F__law_below, val_fnF, seqF_eq, andThen_nx, andThen_bk, andThen_ct, andThen_rt, retV_rt, retV_nx, nxF, bkF, ctF, rtF, rnF, rmF, stF, exF, put, parF, agF, ifS, forF_eq, flF_nil, flF_cons, flK_nx, flK_ct, flK_bk, flK_rt, tbF, ttF, andF, orF, notF, andV, orV, ifF, chF, b1, b2, bN, clF_val, aNil, aCons, nmF, ownF, cF, fzF, itF, inF, itOf, rng1, rng2, yesF, dTru, dNot, dAdd_int, dSub_int, dEq_int, dNe_int, dLt_int, dLe_int, dGt_int, dGe_int, dAddI_int, asB_bl, dIx_tup0, dIx_tup1, fLen, fAbs, fInt, fMax2, fMin2, gTupF, gsCons, gsNil, D.pure, D.pures, Bool.not_true, Bool.not_false, Bool.and_true, Bool.true_and, Bool.and_false, Bool.false_and, Option.bind_some, Option.bind_none, Option.map_some, Option.map_none, bind_ite, map_ite, List.map_cons, List.map_nil, List.replicate, List.cons_append, List.nil_append, List.append_nil, List.getElem?_cons_zero, List.getElem?_cons_succ, List.set_cons_zero, List.set_cons_succ, List.length_cons, List.length_nil, Nat.reduceAdd, Nat.reduceLT, Nat.zero_add, Nat.lt_add_one, if_true, if_false, ite_true, ite_false, decide_eq_true_eq, Bool.false_eq_true, reduceCtorEq, reduceIte, Nat.reduceLeDiff, Nat.reduceEqDiff, dEq_vD0, nil_ok, decide_false]; rfl
    | some l =>
      have m1 : mulOk k 1 = true := mulOk_of (ha k rfl) (show (1 : Int).natAbs < 2 ^ 1 by decide) (by decide)
      have m2 : mulOk l 1 = true := mulOk_of (hb l rfl) (show (1 : Int).natAbs < 2 ^ 1 by decide) (by decide)
      have q1 : ∀ k : Int, dEq (.tup [.int k, .int 1]) (.tup []) = some (.bl false) := fun k => dEq_vD0 (some k)
      simp only [F__law_below, val_fnF, seqF_eq, andThen_nx, andThen_bk, andThen_ct, andThen_rt, retV_rt, retV_nx, nxF, bkF, ctF, rtF, rnF, rmF, stF, exF, put, parF, agF, ifS, forF_eq, flF_nil, flF_cons, flK_nx, flK_ct, flK_bk, flK_rt, tbF, ttF, andF, orF, notF, andV, orV, ifF, chF, b1, b2, bN, clF_val, aNil, aCons, nmF, ownF, cF, fzF, itF, inF, itOf, rng1, rng2, yesF, dTru, dNot, dAdd_int, dSub_int, dEq_int, dNe_int, dLt_int, dLe_int, dGt_int, dGe_int, dAddI_int, asB_bl, dIx_tup0, dIx_tup1, fLen, fAbs, fInt, fMax2, fMin2, gTupF, gsCons, gsNil, D.pure, D.pures, Bool.not_true, Bool.not_false, Bool.and_true, Bool.true_and, Bool.and_false, Bool.false_and, Option.bind_some, Option.bind_none, Option.map_some, Option.map_none, bind_ite, map_ite, List.map_cons, List.map_nil, List.replicate, List.cons_append, List.nil_append, List.append_nil, List.getElem?_cons_zero, List.getElem?_cons_succ, List.set_cons_zero, List.set_cons_succ, List.length_cons, List.length_nil, Nat.reduceAdd, Nat.reduceLT, Nat.zero_add, Nat.lt_add_one, if_true, if_false, ite_true, ite_false, decide_eq_true_eq, Bool.false_eq_true, reduceCtorEq, reduceIte, Nat.reduceLeDiff, Nat.reduceEqDiff, q1, nil_ok, decide_false, vD, dMul_int m1, dMul_int m2, Int.mul_one, olt]
theorem frac_one (a : Int) : frac a 1 = (a, 1) := by
  unfold frac; simp
theorem Sm.bd {k : Int} (h : k.natAbs < 2 ^ 12) : Bd 12 (k, 1) := ⟨h, by show (0 : Int) < 1; decide, by show (1 : Int).natAbs < _; decide⟩
theorem added_eq {a b : Option Int} (ha : Sm a) (hb : Sm b) : val F__law_added [vD a, vD b] = some (vD (oadd a b)) := by
  cases a with
  | none => simp only [F__law_added, val_fnF, seqF_eq, andThen_nx, andThen_bk, andThen_ct, andThen_rt, retV_rt, retV_nx, nxF, bkF, ctF, rtF, rnF, rmF, stF, exF, put, parF, agF, ifS, forF_eq, flF_nil, flF_cons, flK_nx, flK_ct, flK_bk, flK_rt, tbF, ttF, andF, orF, notF, andV, orV, ifF, chF, b1, b2, bN, clF_val, aNil, aCons, nmF, ownF, cF, fzF, itF, inF, itOf, rng1, rng2, yesF, dTru, dNot, dAdd_int, dSub_int, dEq_int, dNe_int, dLt_int, dLe_int, dGt_int, dGe_int, dAddI_int, asB_bl, dIx_tup0, dIx_tup1, fLen, fAbs, fInt, fMax2, fMin2, gTupF, gsCons, gsNil, D.pure, D.pures, Bool.not_true, Bool.not_false, Bool.and_true, Bool.true_and, Bool.and_false, Bool.false_and, Option.bind_some, Option.bind_none, Option.map_some, Option.map_none, bind_ite, map_ite, List.map_cons, List.map_nil, List.replicate, List.cons_append, List.nil_append, List.append_nil, List.getElem?_cons_zero, List.getElem?_cons_succ, List.set_cons_zero, List.set_cons_succ, List.length_cons, List.length_nil, Nat.reduceAdd, Nat.reduceLT, Nat.zero_add, Nat.lt_add_one, if_true, if_false, ite_true, ite_false, decide_eq_true_eq, Bool.false_eq_true, reduceCtorEq, reduceIte, Nat.reduceLeDiff, Nat.reduceEqDiff, dEq_vD0, nil_ok]; rfl
  | some k =>
    cases b with
    | none => simp only [F__law_added, val_fnF, seqF_eq, andThen_nx, andThen_bk, andThen_ct, andThen_rt, retV_rt, retV_nx, nxF, bkF, ctF, rtF, rnF, rmF, stF, exF, put, parF, agF, ifS, forF_eq, flF_nil, flF_cons, flK_nx, flK_ct, flK_bk, flK_rt, tbF, ttF, andF, orF, notF, andV, orV, ifF, chF, b1, b2, bN, clF_val, aNil, aCons, nmF, ownF, cF, fzF, itF, inF, itOf, rng1, rng2, yesF, dTru, dNot, dAdd_int, dSub_int, dEq_int, dNe_int, dLt_int, dLe_int, dGt_int, dGe_int, dAddI_int, asB_bl, dIx_tup0, dIx_tup1, fLen, fAbs, fInt, fMax2, fMin2, gTupF, gsCons, gsNil, D.pure, D.pures, Bool.not_true, Bool.not_false, Bool.and_true, Bool.true_and, Bool.and_false, Bool.false_and, Option.bind_some, Option.bind_none, Option.map_some, Option.map_none, bind_ite, map_ite, List.map_cons, List.map_nil, List.replicate, List.cons_append, List.nil_append, List.append_nil, List.getElem?_cons_zero, List.getElem?_cons_succ, List.set_cons_zero, List.set_cons_succ, List.length_cons, List.length_nil, Nat.reduceAdd, Nat.reduceLT, Nat.zero_add, Nat.lt_add_one, if_true, if_false, ite_true, ite_false, decide_eq_true_eq, Bool.false_eq_true, reduceCtorEq, reduceIte, Nat.reduceLeDiff, Nat.reduceEqDiff, dEq_vD0, nil_ok, decide_false]; rfl
    | some l =>
      have e := (plus_eq (Sm.bd (ha k rfl)) (Sm.bd (hb l rfl)) (by decide)).1
      have e2 : pl (k, 1) (l, 1) = (k + l, 1) := by unfold pl; simp [frac_one]
      rw [e2] at e
      have e' : val F__law_plus [vD (some k), vD (some l)] = some (vD (some (k + l))) := e
      simp only [F__law_added, val_fnF, seqF_eq, andThen_nx, andThen_bk, andThen_ct, andThen_rt, retV_rt, retV_nx, nxF, bkF, ctF, rtF, rnF, rmF, stF, exF, put, parF, agF, ifS, forF_eq, flF_nil, flF_cons, flK_nx, flK_ct, flK_bk, flK_rt, tbF, ttF, andF, orF, notF, andV, orV, ifF, chF, b1, b2, bN, clF_val, aNil, aCons, nmF, ownF, cF, fzF, itF, inF, itOf, rng1, rng2, yesF, dTru, dNot, dAdd_int, dSub_int, dEq_int, dNe_int, dLt_int, dLe_int, dGt_int, dGe_int, dAddI_int, asB_bl, dIx_tup0, dIx_tup1, fLen, fAbs, fInt, fMax2, fMin2, gTupF, gsCons, gsNil, D.pure, D.pures, Bool.not_true, Bool.not_false, Bool.and_true, Bool.true_and, Bool.and_false, Bool.false_and, Option.bind_some, Option.bind_none, Option.map_some, Option.map_none, bind_ite, map_ite, List.map_cons, List.map_nil, List.replicate, List.cons_append, List.nil_append, List.append_nil, List.getElem?_cons_zero, List.getElem?_cons_succ, List.set_cons_zero, List.set_cons_succ, List.length_cons, List.length_nil, Nat.reduceAdd, Nat.reduceLT, Nat.zero_add, Nat.lt_add_one, if_true, if_false, ite_true, ite_false, decide_eq_true_eq, Bool.false_eq_true, reduceCtorEq, reduceIte, Nat.reduceLeDiff, Nat.reduceEqDiff, dEq_vD0, nil_ok, decide_false, pure_vD, e', oadd]
theorem fz_vD (a : Option Int) : (vD a).fz = vD a := by cases a <;> rfl
theorem least_body {a b : Option Int} (ha : Sm a) (hb : Sm b) (o : Option D) : L__law_least_1 [o, some (vD a), some (vD b)] = some (.nx, [o, some (vD (omin a b)), some (vD b)]) := by
  simp only [L__law_least_1, val_fnF, seqF_eq, andThen_nx, andThen_bk, andThen_ct, andThen_rt, retV_rt, retV_nx, nxF, bkF, ctF, rtF, rnF, rmF, stF, exF, put, parF, agF, ifS, forF_eq, flF_nil, flF_cons, flK_nx, flK_ct, flK_bk, flK_rt, tbF, ttF, andF, orF, notF, andV, orV, ifF, chF, b1, b2, bN, clF_val, aNil, aCons, nmF, ownF, cF, fzF, itF, inF, itOf, rng1, rng2, yesF, dTru, dNot, dAdd_int, dSub_int, dEq_int, dNe_int, dLt_int, dLe_int, dGt_int, dGe_int, dAddI_int, asB_bl, dIx_tup0, dIx_tup1, fLen, fAbs, fInt, fMax2, fMin2, gTupF, gsCons, gsNil, D.pure, D.pures, Bool.not_true, Bool.not_false, Bool.and_true, Bool.true_and, Bool.and_false, Bool.false_and, Option.bind_some, Option.bind_none, Option.map_some, Option.map_none, bind_ite, map_ite, List.map_cons, List.map_nil, List.replicate, List.cons_append, List.nil_append, List.append_nil, List.getElem?_cons_zero, List.getElem?_cons_succ, List.set_cons_zero, List.set_cons_succ, List.length_cons, List.length_nil, Nat.reduceAdd, Nat.reduceLT, Nat.zero_add, Nat.lt_add_one, if_true, if_false, ite_true, ite_false, decide_eq_true_eq, Bool.false_eq_true, reduceCtorEq, reduceIte, Nat.reduceLeDiff, Nat.reduceEqDiff, pure_vD, below_eq hb ha, omin]
  cases olt b a <;> rfl
theorem omin_sm {a b : Option Int} (ha : Sm a) (hb : Sm b) : Sm (omin a b) := by unfold omin; split <;> assumption
theorem least_eq {a b : Option Int} (ha : Sm a) (hb : Sm b) : val F__law_least [.lst true [vD a, vD b]] = some (vD (omin a b)) := by
  have n0 : Sm none := fun _ h => nomatch h
  have e0 : omin none a = a := by cases a <;> rfl
  have lb := least_body n0 ha
  have lb2 := least_body ha hb
  rw [e0] at lb
  have e1 : (D.tup [] : D) = vD none := rfl
  simp only [F__law_least, val_fnF, seqF_eq, andThen_nx, andThen_bk, andThen_ct, andThen_rt, retV_rt, retV_nx, nxF, bkF, ctF, rtF, rnF, rmF, stF, exF, put, parF, agF, ifS, forF_eq, flF_nil, flF_cons, flK_nx, flK_ct, flK_bk, flK_rt, tbF, ttF, andF, orF, notF, andV, orV, ifF, chF, b1, b2, bN, clF_val, aNil, aCons, nmF, ownF, cF, fzF, itF, inF, itOf, rng1, rng2, yesF, dTru, dNot, dAdd_int, dSub_int, dEq_int, dNe_int, dLt_int, dLe_int, dGt_int, dGe_int, dAddI_int, asB_bl, dIx_tup0, dIx_tup1, fLen, fAbs, fInt, fMax2, fMin2, gTupF, gsCons, gsNil, D.pure, D.pures, Bool.not_true, Bool.not_false, Bool.and_true, Bool.true_and, Bool.and_false, Bool.false_and, Option.bind_some, Option.bind_none, Option.map_some, Option.map_none, bind_ite, map_ite, List.map_cons, List.map_nil, List.replicate, List.cons_append, List.nil_append, List.append_nil, List.getElem?_cons_zero, List.getElem?_cons_succ, List.set_cons_zero, List.set_cons_succ, List.length_cons, List.length_nil, Nat.reduceAdd, Nat.reduceLT, Nat.zero_add, Nat.lt_add_one, if_true, if_false, ite_true, ite_false, decide_eq_true_eq, Bool.false_eq_true, reduceCtorEq, reduceIte, Nat.reduceLeDiff, Nat.reduceEqDiff, nil_ok, D.fz, D.fzs, fz_vD, e1, lb, lb2, pure_vD]

/-! ### powers -/
def pw (x : Int × Int) : Nat → Int × Int
  | 0 => (1, 1)
  | n + 1 => tm (pw x n) x
theorem power_loop {x : Int × Int} (hx : Bd 7 x) : ∀ (ys : List D) (k : Nat) (z o : Option D), k + ys.length ≤ 8 → Bd (7 * k + 1) (pw x k) →
    ∃ o', flF (put 3) L__law_to_power_1 ys [some (fr x), z, some (fr (pw x k)), o] = some (.nx, [some (fr x), z, some (fr (pw x (k + ys.length))), o']) ∧ Bd (7 * (k + ys.length) + 1) (pw x (k + ys.length))
  | [], k, z, o, hk, hb => ⟨o, rfl, hb⟩
  | y :: ys, k, z, o, hk, hb => by
    obtain ⟨e, b'⟩ := times_eq hb hx (by simp at hk; omega)
    have b'' : Bd (7 * (k + 1) + 1) (pw x (k + 1)) := b'.mono (by omega)
    obtain ⟨o', e2, h2⟩ := power_loop hx ys (k + 1) z (some y) (by simp at hk ⊢; omega) b''
    refine ⟨o', ?_, ?_⟩
    · have e3 : k + (y :: ys).length = k + 1 + ys.length := by simp; omega
      rw [e3]
      have pf : ∀ q : Int × Int, (fr q).pure = true := fun _ => rfl
      have e2' : flF (put 3) L__law_to_power_1 ys [some (fr x), z, some (fr (tm (pw x k) x)), some y] = some (.nx, [some (fr x), z, some (fr (pw x (k + 1 + ys.length))), o']) := e2
      simp only [val_fnF, seqF_eq, andThen_nx, andThen_bk, andThen_ct, andThen_rt, retV_rt, retV_nx, nxF, bkF, ctF, rtF, rnF, rmF, stF, exF, put, parF, agF, ifS, forF_eq, flF_nil, flF_cons, flK_nx, flK_ct, flK_bk, flK_rt, tbF, ttF, andF, orF, notF, andV, orV, ifF, chF, b1, b2, bN, clF_val, aNil, aCons, nmF, ownF, cF, fzF, itF, inF, itOf, rng1, rng2, yesF, dTru, dNot, dAdd_int, dSub_int, dEq_int, dNe_int, dLt_int, dLe_int, dGt_int, dGe_int, dAddI_int, asB_bl, dIx_tup0, dIx_tup1, fLen, fAbs, fInt, fMax2, fMin2, gTupF, gsCons, gsNil, D.pure, D.pures, Bool.not_true, Bool.not_false, Bool.and_true, Bool.true_and, Bool.and_false, Bool.false_and, Option.bind_some, Option.bind_none, Option.map_some, Option.map_none, bind_ite, map_ite, List.map_cons, List.map_nil, List.replicate, List.cons_append, List.nil_append, List.append_nil, List.getElem?_cons_zero, List.getElem?_cons_succ, List.set_cons_zero, List.set_cons_succ, List.length_cons, List.length_nil, Nat.reduceAdd, Nat.reduceLT, Nat.zero_add, Nat.lt_add_one, if_true, if_false, ite_true, ite_false, decide_eq_true_eq, Bool.false_eq_true, reduceCtorEq, reduceIte, Nat.reduceLeDiff, Nat.reduceEqDiff, L__law_to_power_1, e]
      exact e2'
    · have e3 : k + (y :: ys).length = k + 1 + ys.length := by simp; omega
      rw [e3]; exact h2
theorem power_eq {x : Int × Int} (hx : Bd 7 x) {k : Nat} (hk : k ≤ 4) : val F__law_to_power [fr x, .int (k : Int)] = some (fr (pw x k)) ∧ Bd 29 (pw x k) := by
  have b0 : Bd 1 (pw x 0) := ⟨by show (1 : Int).natAbs < 2 ^ 1; decide, by show (0 : Int) < 1; decide, by show (1 : Int).natAbs < 2 ^ 1; decide⟩
  obtain ⟨o', e, hb⟩ := power_loop hx ((List.range (k : Int).toNat).map fun i : Nat => .int (i : Int)) 0 (some (.int (k : Int))) none (by simp; omega) b0
  simp only [List.length_map, List.length_range, Int.toNat_natCast, Nat.zero_add] at e hb
  refine ⟨?_, hb.mono (by omega)⟩
  have hr : rgOk (k : Int) = true := tst_of (by omega)
  have e' : flF (put 3) L__law_to_power_1 ((List.range k).map fun i : Nat => .int (i : Int)) [some (fr x), some (.int (k : Int)), some (.tup [.int 1, .int 1]), none] = some (.nx, [some (fr x), some (.int (k : Int)), some (fr (pw x k)), o']) := e
  have hr2 : (k : Int).toNat = k := Int.toNat_natCast k
  simp only [F__law_to_power, val_fnF, seqF_eq, andThen_nx, andThen_bk, andThen_ct, andThen_rt, retV_rt, retV_nx, nxF, bkF, ctF, rtF, rnF, rmF, stF, exF, put, parF, agF, ifS, forF_eq, flF_nil, flF_cons, flK_nx, flK_ct, flK_bk, flK_rt, tbF, ttF, andF, orF, notF, andV, orV, ifF, chF, b1, b2, bN, clF_val, aNil, aCons, nmF, ownF, cF, fzF, itF, inF, itOf, rng1, rng2, yesF, dTru, dNot, dAdd_int, dSub_int, dEq_int, dNe_int, dLt_int, dLe_int, dGt_int, dGe_int, dAddI_int, asB_bl, dIx_tup0, dIx_tup1, fLen, fAbs, fInt, fMax2, fMin2, gTupF, gsCons, gsNil, D.pure, D.pures, Bool.not_true, Bool.not_false, Bool.and_true, Bool.true_and, Bool.and_false, Bool.false_and, Option.bind_some, Option.bind_none, Option.map_some, Option.map_none, bind_ite, map_ite, List.map_cons, List.map_nil, List.replicate, List.cons_append, List.nil_append, List.append_nil, List.getElem?_cons_zero, List.getElem?_cons_succ, List.set_cons_zero, List.set_cons_succ, List.length_cons, List.length_nil, Nat.reduceAdd, Nat.reduceLT, Nat.zero_add, Nat.lt_add_one, if_true, if_false, ite_true, ite_false, decide_eq_true_eq, Bool.false_eq_true, reduceCtorEq, reduceIte, Nat.reduceLeDiff, Nat.reduceEqDiff, pair_ok, hr, hr2, e']
theorem frac_pos {a b : Int} (ha : 0 < a) (hb : 0 < b) : 0 < (frac a b).1 ∧ 0 < (frac a b).2 := by
  have h := frac_bd (a := a) (b := b) (n := max (a.natAbs + 1) (b.natAbs + 1)) (Nat.lt_of_lt_of_le Nat.lt_two_pow_self (Nat.pow_le_pow_right (by decide) (by omega))) hb (Nat.lt_of_lt_of_le Nat.lt_two_pow_self (Nat.pow_le_pow_right (by decide) (by omega)))
  have h0 : (frac a b).1 ≠ 0 := fun z => by have := h.2.mp z; omega
  have h1 : 0 ≤ (frac a b).1 := Int.ediv_nonneg (by omega) (Int.natCast_nonneg _)
  exact ⟨by omega, h.1.p⟩
theorem pw_pos {p : Int} (hp : 0 < p) : ∀ k : Nat, 0 < (pw (p, 1) k).1 ∧ 0 < (pw (p, 1) k).2
  | 0 => ⟨by show (0 : Int) < 1; decide, by show (0 : Int) < 1; decide⟩
  | k + 1 => frac_pos (Int.mul_pos (pw_pos hp k).1 hp) (Int.mul_pos (pw_pos hp k).2 (by show (0 : Int) < 1; decide))
theorem prime_eq {p e : Int} (hp0 : 0 < p) (hp : p < 100) (h1 : -4 ≤ e) (h2 : e ≤ 4) : ∃ x, val F__law_prime [.int p, .int e] = some (fr x) ∧ Bd 29 x := by
  have bx : Bd 7 (p, 1) := ⟨by show p.natAbs < 2 ^ 7; omega, by show (0 : Int) < 1; decide, by show (1 : Int).natAbs < 2 ^ 7; decide⟩
  by_cases h : e < 0
  · obtain ⟨e1, hb⟩ := power_eq bx (k := (0 - e).toNat) (by omega)
    have c : (((0 - e).toNat : Nat) : Int) = 0 - e := by omega
    rw [c] at e1
    have e1' : val F__law_to_power [.tup [.int p, .int 1], .int (0 - e)] = some (fr (pw (p, 1) (0 - e).toNat)) := e1
    refine ⟨(1, (pw (p, 1) (0 - e).toNat).1), ?_, ?_⟩
    · simp only [F__law_prime, val_fnF, seqF_eq, andThen_nx, andThen_bk, andThen_ct, andThen_rt, retV_rt, retV_nx, nxF, bkF, ctF, rtF, rnF, rmF, stF, exF, put, parF, agF, ifS, forF_eq, flF_nil, flF_cons, flK_nx, flK_ct, flK_bk, flK_rt, tbF, ttF, andF, orF, notF, andV, orV, ifF, chF, b1, b2, bN, clF_val, aNil, aCons, nmF, ownF, cF, fzF, itF, inF, itOf, rng1, rng2, yesF, dTru, dNot, dAdd_int, dSub_int, dEq_int, dNe_int, dLt_int, dLe_int, dGt_int, dGe_int, dAddI_int, asB_bl, dIx_tup0, dIx_tup1, fLen, fAbs, fInt, fMax2, fMin2, gTupF, gsCons, gsNil, D.pure, D.pures, Bool.not_true, Bool.not_false, Bool.and_true, Bool.true_and, Bool.and_false, Bool.false_and, Option.bind_some, Option.bind_none, Option.map_some, Option.map_none, bind_ite, map_ite, List.map_cons, List.map_nil, List.replicate, List.cons_append, List.nil_append, List.append_nil, List.getElem?_cons_zero, List.getElem?_cons_succ, List.set_cons_zero, List.set_cons_succ, List.length_cons, List.length_nil, Nat.reduceAdd, Nat.reduceLT, Nat.zero_add, Nat.lt_add_one, if_true, if_false, ite_true, ite_false, decide_eq_true_eq, Bool.false_eq_true, reduceCtorEq, reduceIte, Nat.reduceLeDiff, Nat.reduceEqDiff, h, decide_true, pair_ok, e1']
    · exact ⟨by show (1 : Int).natAbs < 2 ^ 29; decide, (pw_pos hp0 _).1, hb.a⟩
  · obtain ⟨e1, hb⟩ := power_eq bx (k := e.toNat) (by omega)
    have c : ((e.toNat : Nat) : Int) = e := by omega
    rw [c] at e1
    have e1' : val F__law_to_power [.tup [.int p, .int 1], .int e] = some (fr (pw (p, 1) e.toNat)) := e1
    refine ⟨_, ?_, hb⟩
    simp only [F__law_prime, val_fnF, seqF_eq, andThen_nx, andThen_bk, andThen_ct, andThen_rt, retV_rt, retV_nx, nxF, bkF, ctF, rtF, rnF, rmF, stF, exF, put, parF, agF, ifS, forF_eq, flF_nil, flF_cons, flK_nx, flK_ct, flK_bk, flK_rt, tbF, ttF, andF, orF, notF, andV, orV, ifF, chF, b1, b2, bN, clF_val, aNil, aCons, nmF, ownF, cF, fzF, itF, inF, itOf, rng1, rng2, yesF, dTru, dNot, dAdd_int, dSub_int, dEq_int, dNe_int, dLt_int, dLe_int, dGt_int, dGe_int, dAddI_int, asB_bl, dIx_tup0, dIx_tup1, fLen, fAbs, fInt, fMax2, fMin2, gTupF, gsCons, gsNil, D.pure, D.pures, Bool.not_true, Bool.not_false, Bool.and_true, Bool.true_and, Bool.and_false, Bool.false_and, Option.bind_some, Option.bind_none, Option.map_some, Option.map_none, bind_ite, map_ite, List.map_cons, List.map_nil, List.replicate, List.cons_append, List.nil_append, List.append_nil, List.getElem?_cons_zero, List.getElem?_cons_succ, List.set_cons_zero, List.set_cons_succ, List.length_cons, List.length_nil, Nat.reduceAdd, Nat.reduceLT, Nat.zero_add, Nat.lt_add_one, if_true, if_false, ite_true, ite_false, decide_eq_true_eq, Bool.false_eq_true, reduceCtorEq, reduceIte, Nat.reduceLeDiff, Nat.reduceEqDiff, h, decide_false, pair_ok, e1']

/-! ### the law -/
theorem pp_of {p : Int} (lo : 2 ≤ p) (hi : p < 100) (h : ∀ i : Fin p.toNat, ∀ j : Fin p.toNat, (i.1 * j.1) % p.toNat = 0 → i.1 = 0 ∨ j.1 = 0) : PP p := by
  refine ⟨lo, hi, fun a b z => ?_⟩
  have p0 : (0 : Int) < p := by omega
  have ha := Int.emod_nonneg a (show p ≠ 0 by omega)
  have hb := Int.emod_nonneg b (show p ≠ 0 by omega)
  have ha' := Int.emod_lt_of_pos a p0
  have hb' := Int.emod_lt_of_pos b p0
  rw [Int.mul_emod] at z
  have := h ⟨(a % p).toNat, by omega⟩ ⟨(b % p).toNat, by omega⟩ (by
    have e : (((a % p).toNat * (b % p).toNat % p.toNat : Nat) : Int) = (0 : Nat) := by
      rw [Int.natCast_emod, Int.natCast_mul, Int.toNat_of_nonneg ha, Int.toNat_of_nonneg hb, Int.toNat_of_nonneg (by omega)]
      exact z
    exact Int.ofNat_inj.mp e)
  simp only at this
  omega
def primes : List Int := [2, 3, 5, 7, 11, 13, 31, 97]
theorem pp_all : ∀ p ∈ primes, PP p := by
  intro p hp
  simp only [primes, List.mem_cons, List.not_mem_nil, or_false] at hp
  rcases hp with rfl | rfl | rfl | rfl | rfl | rfl | rfl | rfl
  all_goals exact pp_of (by decide) (by decide) (by decide +kernel)
abbrev en (ns : List Int) (one two p : Int) (rows : D) (c5 c6 c7 o8 o9 o10 o11 o12 o13 : Option D) : En := [some (.scr ns), some (.int one), some (.int two), some (.int p), some rows, c5, c6, c7, o8, o9, o10, o11, o12, o13, none]
theorem isi_tuple (a : Option Int) : fIsi [vD a, .raw (.ty "tuple")] = some (.bl true) := by
  have k : kitB "tuple" "tuple" = some true := by decide +kernel
  cases a <;> (show (kitB "tuple" "tuple").map D.bl = _; rw [k]; rfl)
theorem isint_eq (k : Int) : val F__law_is_integer [.int k] = some (.bl true) := by
  have k1 : fIsi [.int k, .raw (.ty "int")] = some (.bl true) := by
    have k : kitB "int" "int" = some true := by decide +kernel
    show (kitB "int" "int").map D.bl = _; rw [k]; rfl
  have k2 : fIsi [.int k, .raw (.ty "bool")] = some (.bl false) := by
    have k : kitB "int" "bool" = some false := by decide +kernel
    show (kitB "int" "bool").map D.bl = _; rw [k]; rfl
  simp only [F__law_is_integer, val_fnF, seqF_eq, andThen_nx, andThen_bk, andThen_ct, andThen_rt, retV_rt, retV_nx, nxF, bkF, ctF, rtF, rnF, rmF, stF, exF, put, parF, agF, ifS, forF_eq, flF_nil, flF_cons, flK_nx, flK_ct, flK_bk, flK_rt, tbF, ttF, andF, orF, notF, andV, orV, ifF, chF, b1, b2, bN, clF_val, aNil, aCons, nmF, ownF, cF, fzF, itF, inF, itOf, rng1, rng2, yesF, dTru, dNot, dAdd_int, dSub_int, dEq_int, dNe_int, dLt_int, dLe_int, dGt_int, dGe_int, dAddI_int, asB_bl, dIx_tup0, dIx_tup1, fLen, fAbs, fInt, fMax2, fMin2, gTupF, gsCons, gsNil, D.pure, D.pures, Bool.not_true, Bool.not_false, Bool.and_true, Bool.true_and, Bool.and_false, Bool.false_and, Option.bind_some, Option.bind_none, Option.map_some, Option.map_none, bind_ite, map_ite, List.map_cons, List.map_nil, List.replicate, List.cons_append, List.nil_append, List.append_nil, List.getElem?_cons_zero, List.getElem?_cons_succ, List.set_cons_zero, List.set_cons_succ, List.length_cons, List.length_nil, Nat.reduceAdd, Nat.reduceLT, Nat.zero_add, Nat.lt_add_one, if_true, if_false, ite_true, ite_false, decide_eq_true_eq, Bool.false_eq_true, reduceCtorEq, reduceIte, Nat.reduceLeDiff, Nat.reduceEqDiff, k1, k2]
theorem comp_eq (ns : List Int) (one two p : Int) (rows : D) (c5 c6 c7 o8 o10 o11 o12 o13 : Option D) (a : Option Int) :
    lcF [14] (itF (nmO 9)) (put 14) I_law_2 E_law_2 (en ns one two p rows c5 c6 c7 o8 (some (vD a)) o10 o11 o12 o13) = some (.lst true [], en ns one two p rows c5 c6 c7 o8 (some (vD a)) o10 o11 o12 o13) := by
  have l0 : lineOk 0 = true := tst_of (by omega)
  have l2 : lineOk (0 + 1 + 1) = true := tst_of (by omega)
  have q : ∀ o : Option D, okE [14] 0 (en ns one two p rows c5 c6 c7 o8 o o10 o11 o12 o13) = true := fun o => by
    cases c5 <;> cases c6 <;> cases c7 <;> cases o8 <;> cases o <;> cases o10 <;> cases o11 <;> cases o12 <;> cases o13 <;> rfl
  cases a with
  | none =>
    simp only [lcF, val_fnF, seqF_eq, andThen_nx, andThen_bk, andThen_ct, andThen_rt, retV_rt, retV_nx, nxF, bkF, ctF, rtF, rnF, rmF, stF, exF, put, parF, agF, ifS, forF_eq, flF_nil, flF_cons, flK_nx, flK_ct, flK_bk, flK_rt, tbF, ttF, andF, orF, notF, andV, orV, ifF, chF, b1, b2, bN, clF_val, aNil, aCons, nmF, ownF, cF, fzF, itF, inF, itOf, rng1, rng2, yesF, dTru, dNot, dAdd_int, dSub_int, dEq_int, dNe_int, dLt_int, dLe_int, dGt_int, dGe_int, dAddI_int, asB_bl, dIx_tup0, dIx_tup1, fLen, fAbs, fInt, fMax2, fMin2, gTupF, gsCons, gsNil, D.pure, D.pures, Bool.not_true, Bool.not_false, Bool.and_true, Bool.true_and, Bool.and_false, Bool.false_and, Option.bind_some, Option.bind_none, Option.map_some, Option.map_none, bind_ite, map_ite, List.map_cons, List.map_nil, List.replicate, List.cons_append, List.nil_append, List.append_nil, List.getElem?_cons_zero, List.getElem?_cons_succ, List.set_cons_zero, List.set_cons_succ, List.length_cons, List.length_nil, Nat.reduceAdd, Nat.reduceLT, Nat.zero_add, Nat.lt_add_one, if_true, if_false, ite_true, ite_false, decide_eq_true_eq, Bool.false_eq_true, reduceCtorEq, reduceIte, Nat.reduceLeDiff, Nat.reduceEqDiff, vD, D.fzs, l0, q, lcL, wpE]
    rfl
  | some k =>
    simp only [lcF, val_fnF, seqF_eq, andThen_nx, andThen_bk, andThen_ct, andThen_rt, retV_rt, retV_nx, nxF, bkF, ctF, rtF, rnF, rmF, stF, exF, put, parF, agF, ifS, forF_eq, flF_nil, flF_cons, flK_nx, flK_ct, flK_bk, flK_rt, tbF, ttF, andF, orF, notF, andV, orV, ifF, chF, b1, b2, bN, clF_val, aNil, aCons, nmF, ownF, cF, fzF, itF, inF, itOf, rng1, rng2, yesF, dTru, dNot, dAdd_int, dSub_int, dEq_int, dNe_int, dLt_int, dLe_int, dGt_int, dGe_int, dAddI_int, asB_bl, dIx_tup0, dIx_tup1, fLen, fAbs, fInt, fMax2, fMin2, gTupF, gsCons, gsNil, D.pure, D.pures, Bool.not_true, Bool.not_false, Bool.and_true, Bool.true_and, Bool.and_false, Bool.false_and, Option.bind_some, Option.bind_none, Option.map_some, Option.map_none, bind_ite, map_ite, List.map_cons, List.map_nil, List.replicate, List.cons_append, List.nil_append, List.append_nil, List.getElem?_cons_zero, List.getElem?_cons_succ, List.set_cons_zero, List.set_cons_succ, List.length_cons, List.length_nil, Nat.reduceAdd, Nat.reduceLT, Nat.zero_add, Nat.lt_add_one, if_true, if_false, ite_true, ite_false, decide_eq_true_eq, Bool.false_eq_true, reduceCtorEq, reduceIte, Nat.reduceLeDiff, Nat.reduceEqDiff, vD, D.fzs, D.fz, l2, q, lcL, wpE, I_law_2, isint_eq]
    rfl
end
end G40

set_option Elab.async false
set_option linter.all false
set_option maxRecDepth 100000
set_option maxHeartbeats 4000000
namespace G40
open PySem L2 Pz
noncomputable section
theorem vf_sm {p : Int} {x : Int × Int} {n : Nat} (h : PP p) (hx : Bd n x) (hn : n ≤ 400) : Sm (vf p x) := by
  intro k e
  unfold vf at e
  split at e
  · cases e
  · rename_i h0
    cases e
    have a1 := mu_lt h h0 hx.a
    have a2 := mu_lt h (show x.2 ≠ 0 by have := hx.p; omega) hx.b
    omega
theorem pfr (x : Int × Int) : (fr x).pure = true := rfl
theorem body4 {ns : List Int} {one two p : Int} {rows : D} {c5 c6 c7 o11 o12 o13 : Option D} {x y : Int × Int} (h : PP p) (hx : Bd 100 x) (hy : Bd 100 y) :
    L_law_4 (en ns one two p rows c5 c6 c7 (some (fr x)) (some (vD (vf p x))) (some (fr y)) o11 o12 o13) =
      some (.nx, en ns one two p rows c5 c6 c7 (some (fr x)) (some (vD (vf p x))) (some (fr y)) (some (vD (vf p y))) (some (vD (vf p (pl x y)))) (some (vD (omin (vf p x) (vf p y))))) := by
  obtain ⟨t1, t2⟩ := times_eq hx hy (by decide)
  obtain ⟨u1, u2⟩ := plus_eq hx hy (by decide)
  have sx := vf_sm h hx (by decide)
  have sy := vf_sm h hy (by decide)
  have sw := vf_sm h u2 (by decide)
  have so := omin_sm sx sy
  obtain ⟨g1, g2⟩ := vf_pl h hx hy
  have e1 := valuation_eq h t2
  rw [vf_tm h hx hy] at e1
  have e3 : (!decide (vf p x = vf p y)) = true → (!decide (vf p (pl x y) = omin (vf p x) (vf p y))) = false := fun z => by
    have z' : vf p x ≠ vf p y := by simpa using z
    simp [g2 z']
  simp only [L_law_4, val_fnF, seqF_eq, andThen_nx, andThen_bk, andThen_ct, andThen_rt, retV_rt, retV_nx, nxF, bkF, ctF, rtF, rnF, rmF, stF, exF, put, parF, agF, ifS, forF_eq, flF_nil, flF_cons, flK_nx, flK_ct, flK_bk, flK_rt, tbF, ttF, andF, orF, notF, andV, orV, ifF, chF, b1, b2, bN, clF_val, aNil, aCons, nmF, ownF, cF, fzF, itF, inF, itOf, rng1, rng2, yesF, dTru, dNot, dAdd_int, dSub_int, dEq_int, dNe_int, dLt_int, dLe_int, dGt_int, dGe_int, dAddI_int, asB_bl, dIx_tup0, dIx_tup1, fLen, fAbs, fInt, fMax2, fMin2, gTupF, gsCons, gsNil, D.pure, D.pures, Bool.not_true, Bool.not_false, Bool.and_true, Bool.true_and, Bool.and_false, Bool.false_and, Option.bind_some, Option.bind_none, Option.map_some, Option.map_none, bind_ite, map_ite, List.map_cons, List.map_nil, List.replicate, List.cons_append, List.nil_append, List.append_nil, List.getElem?_cons_zero, List.getElem?_cons_succ, List.set_cons_zero, List.set_cons_succ, List.length_cons, List.length_nil, Nat.reduceAdd, Nat.reduceLT, Nat.zero_add, Nat.lt_add_one, if_true, if_false, ite_true, ite_false, decide_eq_true_eq, Bool.false_eq_true, reduceCtorEq, reduceIte, Nat.reduceLeDiff, Nat.reduceEqDiff, pfr, pure_vD, lval_eq h hy (by decide), t1, e1, added_eq sx sy, dNe_vD, decide_true, u1, valuation_eq h u2, lpair_ok, least_eq sx sy, below_eq sw so, g1]
  by_cases z : (!decide (vf p x = vf p y)) = true
  · have := e3 z
    simp only [z, this, if_true]
    rfl
  · simp only [z]
    rfl
theorem loop4 {ns : List Int} {one two p : Int} {rows : D} {c5 c6 c7 : Option D} {x : Int × Int} (h : PP p) (hx : Bd 100 x) : ∀ (ys : List (Int × Int)) (o10 o11 o12 o13 : Option D), (∀ y ∈ ys, Bd 100 y) →
    ∃ p10 p11 p12 p13, flF (put 10) L_law_4 (ys.map fr) (en ns one two p rows c5 c6 c7 (some (fr x)) (some (vD (vf p x))) o10 o11 o12 o13) = some (.nx, en ns one two p rows c5 c6 c7 (some (fr x)) (some (vD (vf p x))) p10 p11 p12 p13)
  | [], o10, o11, o12, o13, _ => ⟨_, _, _, _, rfl⟩
  | y :: ys, o10, o11, o12, o13, hy => by
    obtain ⟨p10, p11, p12, p13, e⟩ := loop4 (ns := ns) (one := one) (two := two) (rows := rows) (c5 := c5) (c6 := c6) (c7 := c7) h hx ys (some (fr y)) (some (vD (vf p y))) (some (vD (vf p (pl x y)))) (some (vD (omin (vf p x) (vf p y)))) fun z hz => hy z (List.mem_cons_of_mem _ hz)
    refine ⟨p10, p11, p12, p13, ?_⟩
    have b := body4 (ns := ns) (one := one) (two := two) (rows := rows) (c5 := c5) (c6 := c6) (c7 := c7) (o11 := o11) (o12 := o12) (o13 := o13) h hx (hy y (List.mem_cons_self ..))
    rw [List.map_cons, flF_cons]
    have e0 : put 10 (fr y) (en ns one two p rows c5 c6 c7 (some (fr x)) (some (vD (vf p x))) o10 o11 o12 o13) = some (en ns one two p rows c5 c6 c7 (some (fr x)) (some (vD (vf p x))) (some (fr y)) o11 o12 o13) := rfl
    rw [e0, Option.bind_some, b, Option.bind_some, flK_nx]
    exact e
theorem fzs_fr : ∀ R : List (Int × Int), D.fzs (R.map fr) = R.map fr
  | [] => rfl
  | x :: R => by simp [D.fzs, D.fz, fzs_fr R]
theorem body5 {ns : List Int} {one two p : Int} {o : Bool} {R : List (Int × Int)} {c5 c6 c7 o9 o10 o11 o12 o13 : Option D} {x : Int × Int} (h : PP p) (hx : Bd 100 x) (hR : ∀ y ∈ R, Bd 100 y) :
    ∃ p9 p10 p11 p12 p13, L_law_5 (en ns one two p (.lst o (R.map fr)) c5 c6 c7 (some (fr x)) o9 o10 o11 o12 o13) = some (.nx, en ns one two p (.lst false (R.map fr)) c5 c6 c7 (some (fr x)) p9 p10 p11 p12 p13) := by
  obtain ⟨p10, p11, p12, p13, e⟩ := loop4 (ns := ns) (one := one) (two := two) (rows := .lst false (R.map fr)) (c5 := c5) (c6 := c6) (c7 := c7) h hx R o10 o11 o12 o13 hR
  refine ⟨some (vD (vf p x)), p10, p11, p12, p13, ?_⟩
  have c := comp_eq ns one two p (.lst o (R.map fr)) c5 c6 c7 (some (fr x)) o10 o11 o12 o13 (vf p x)
  have q : dNe (.lst true []) (.lst true []) = some (.bl false) := by
    unfold dNe shp SeqAt.shaped
    simp [D.py, D.pys, PyData.canLay0, PyData.canLayAll0, PyData.depth, PyData.depthAll, PyData.eqv, PyData.eqvAll]
  simp only [L_law_5, val_fnF, seqF_eq, andThen_nx, andThen_bk, andThen_ct, andThen_rt, retV_rt, retV_nx, nxF, bkF, ctF, rtF, rnF, rmF, stF, exF, put, parF, agF, ifS, forF_eq, flF_nil, flF_cons, flK_nx, flK_ct, flK_bk, flK_rt, tbF, ttF, andF, orF, notF, andV, orV, ifF, chF, b1, b2, bN, clF_val, aNil, aCons, nmF, ownF, cF, fzF, itF, inF, itOf, rng1, rng2, yesF, dTru, dNot, dAdd_int, dSub_int, dEq_int, dNe_int, dLt_int, dLe_int, dGt_int, dGe_int, dAddI_int, asB_bl, dIx_tup0, dIx_tup1, fLen, fAbs, fInt, fMax2, fMin2, gTupF, gsCons, gsNil, D.pure, D.pures, Bool.not_true, Bool.not_false, Bool.and_true, Bool.true_and, Bool.and_false, Bool.false_and, Option.bind_some, Option.bind_none, Option.map_some, Option.map_none, bind_ite, map_ite, List.map_cons, List.map_nil, List.replicate, List.cons_append, List.nil_append, List.append_nil, List.getElem?_cons_zero, List.getElem?_cons_succ, List.set_cons_zero, List.set_cons_succ, List.length_cons, List.length_nil, Nat.reduceAdd, Nat.reduceLT, Nat.zero_add, Nat.lt_add_one, if_true, if_false, ite_true, ite_false, decide_eq_true_eq, Bool.false_eq_true, reduceCtorEq, reduceIte, Nat.reduceLeDiff, Nat.reduceEqDiff, pfr, valuation_eq h hx, isi_tuple, lval_eq h hx (by decide), dNe_vD, decide_true, c, lnil_ok, q, D.fz, fzs_fr, e]

theorem loop5 {ns : List Int} {one two p : Int} {R : List (Int × Int)} {c5 c6 c7 : Option D} (h : PP p) (hR : ∀ y ∈ R, Bd 100 y) : ∀ (xs : List (Int × Int)) (o : Bool) (o8 o9 o10 o11 o12 o13 : Option D), (∀ y ∈ xs, Bd 100 y) →
    ∃ e, flF (put 8) L_law_5 (xs.map fr) (en ns one two p (.lst o (R.map fr)) c5 c6 c7 o8 o9 o10 o11 o12 o13) = some (.nx, e)
  | [], o, o8, o9, o10, o11, o12, o13, _ => ⟨_, rfl⟩
  | x :: xs, o, o8, o9, o10, o11, o12, o13, hx => by
    obtain ⟨p9, p10, p11, p12, p13, b⟩ := body5 (ns := ns) (one := one) (two := two) (o := o) (c5 := c5) (c6 := c6) (c7 := c7) (o9 := o9) (o10 := o10) (o11 := o11) (o12 := o12) (o13 := o13) h (hx x (List.mem_cons_self ..)) hR
    obtain ⟨e, he⟩ := loop5 (ns := ns) (one := one) (two := two) (c5 := c5) (c6 := c6) (c7 := c7) h hR xs false (some (fr x)) p9 p10 p11 p12 p13 fun z hz => hx z (List.mem_cons_of_mem _ hz)
    refine ⟨e, ?_⟩
    rw [List.map_cons, flF_cons]
    have e0 : put 8 (fr x) (en ns one two p (.lst o (R.map fr)) c5 c6 c7 o8 o9 o10 o11 o12 o13) = some (en ns one two p (.lst o (R.map fr)) c5 c6 c7 (some (fr x)) o9 o10 o11 o12 o13) := rfl
    rw [e0, Option.bind_some, b, Option.bind_some, flK_nx]
    exact he
theorem body1 {ns : List Int} {one two p cell : Int} {R : List (Int × Int)} {c6 c7 o8 o9 o10 o11 o12 o13 : Option D} (h : PP p) (hc : 0 ≤ cell) (hl : R.length < 10) :
    ∃ z p6 p7, Bd 100 z ∧ L_law_1 (en ns one two p (.lst true (R.map fr)) (some (.int cell)) c6 c7 o8 o9 o10 o11 o12 o13) = some (.nx, en ns one two p (.lst true ((R ++ [z]).map fr)) (some (.int cell)) p6 p7 o8 o9 o10 o11 o12 o13) := by
  have d1 : ∀ i, dMod (.int i) (.int 2001) = some (.int (i % 2001)) := fun i => dMod_pos (by decide)
  have d2 : ∀ i, dMod (.int i) (.int 400) = some (.int (i % 400)) := fun i => dMod_pos (by decide)
  have d3 : ∀ i, dMod (.int i) (.int 9) = some (.int (i % 9)) := fun i => dMod_pos (by decide)
  have d4 : ∀ i, dDiv (.int i) (.int 2048) = some (.int (i / 2048)) := fun i => dDiv_pos (by decide) (divOk_of (b := 12) (by decide) (by decide))
  have d5 : ∀ i, dDiv (.int i) (.int 524288) = some (.int (i / 524288)) := fun i => dDiv_pos (by decide) (divOk_of (b := 20) (by decide) (by decide))
  have b1 : (1 + cell / 2048 % 400).natAbs < 2 ^ 11 := by omega
  have b0 : 0 < 1 + cell / 2048 % 400 := by omega
  have a1 : (cell % 2001 - 1000).natAbs < 2 ^ 11 := by omega
  have fe := frac_eq (a := cell % 2001 - 1000) b0 b1 (by decide)
  obtain ⟨fb, _⟩ := frac_bd a1 b0 b1
  obtain ⟨x, e1, hx⟩ := prime_eq (e := cell / 524288 % 9 - 4) h.pos h.hi (by omega) (by omega)
  obtain ⟨t1, t2⟩ := times_eq fb hx (by decide)
  have ll : lineLt (R.map fr).length = true := tst_of (by simp; omega)
  refine ⟨_, some (.int (cell % 2001 - 1000)), some (.int (1 + cell / 2048 % 400)), t2.mono (by decide), ?_⟩
  clear b1
  simp only [L_law_1, val_fnF, seqF_eq, andThen_nx, andThen_bk, andThen_ct, andThen_rt, retV_rt, retV_nx, nxF, bkF, ctF, rtF, rnF, rmF, stF, exF, put, parF, agF, ifS, forF_eq, flF_nil, flF_cons, flK_nx, flK_ct, flK_bk, flK_rt, tbF, ttF, andF, orF, notF, andV, orV, ifF, chF, b1, b2, bN, clF_val, aNil, aCons, nmF, ownF, cF, fzF, itF, inF, itOf, rng1, rng2, yesF, dTru, dNot, dAdd_int, dSub_int, dEq_int, dNe_int, dLt_int, dLe_int, dGt_int, dGe_int, dAddI_int, asB_bl, dIx_tup0, dIx_tup1, fLen, fAbs, fInt, fMax2, fMin2, gTupF, gsCons, gsNil, D.pure, D.pures, Bool.not_true, Bool.not_false, Bool.and_true, Bool.true_and, Bool.and_false, Bool.false_and, Option.bind_some, Option.bind_none, Option.map_some, Option.map_none, bind_ite, map_ite, List.map_cons, List.map_nil, List.replicate, List.cons_append, List.nil_append, List.append_nil, List.getElem?_cons_zero, List.getElem?_cons_succ, List.set_cons_zero, List.set_cons_succ, List.length_cons, List.length_nil, Nat.reduceAdd, Nat.reduceLT, Nat.zero_add, Nat.lt_add_one, if_true, if_false, ite_true, ite_false, decide_eq_true_eq, Bool.false_eq_true, reduceCtorEq, reduceIte, Nat.reduceLeDiff, Nat.reduceEqDiff, d1, d2, d3, d4, d5, fe, e1, pfr, t1, mtF, isL, mAppend, ll]
  simp
theorem dix8 (one : Int) : ∃ p ∈ primes, dIx (.lst true [.int 2, .int 3, .int 5, .int 7, .int 11, .int 13, .int 31, .int 97]) (.int (one % 8)) = some (.int p) := by
  have e : one % 8 = (((one % 8).toNat : Nat) : Int) := by omega
  rw [e, dIx_lstN]
  have hl : (one % 8).toNat < 8 := by omega
  generalize (one % 8).toNat = k at hl
  match k, hl with
  | 0, _ => exact ⟨2, by decide, rfl⟩
  | 1, _ => exact ⟨3, by decide, rfl⟩
  | 2, _ => exact ⟨5, by decide, rfl⟩
  | 3, _ => exact ⟨7, by decide, rfl⟩
  | 4, _ => exact ⟨11, by decide, rfl⟩
  | 5, _ => exact ⟨13, by decide, rfl⟩
  | 6, _ => exact ⟨31, by decide, rfl⟩
  | 7, _ => exact ⟨97, by decide, rfl⟩
theorem pow30 : dPow (.int 10) (.int 30) = some (.int (10 ^ 30)) := by
  have h : powOk 10 30 = true := tst_of ⟨by decide, by decide, by decide⟩
  simp only [dPow, h, if_true]; rfl
theorem pow20 : dPow (.int 10) (.int 20) = some (.int (10 ^ 20)) := by
  have h : powOk 10 20 = true := tst_of ⟨by decide, by decide, by decide⟩
  simp only [dPow, h, if_true]; rfl
theorem law_ok (ns : List Int) : ∃ env, F_law [.scr ns] = some (.bl true, env) := by
  refine val_some ?_
  have c0 : val F__law_cell [.scr ns, .int 0] = some (.int (ns.getD 0 0)) := cell_eq ns 0
  have c1 : val F__law_cell [.scr ns, .int 1] = some (.int (ns.getD 1 0)) := cell_eq ns 1
  have hone : (0 : Int) ≤ ((ns.getD 0 0).natAbs : Int) := Int.natCast_nonneg _
  have htwo : (0 : Int) ≤ ((ns.getD 1 0).natAbs : Int) := Int.natCast_nonneg _
  have e8 : ∀ i, dMod (.int i) (.int 8) = some (.int (i % 8)) := fun i => dMod_pos (by decide)
  have f8 : ∀ i, dDiv (.int i) (.int 8) = some (.int (i / 8)) := fun i => dDiv_pos (by decide) (divOk_of (b := 4) (by decide) (by decide))
  have m7 : ∀ i, dMul (.int i) (.int 7919) = some (.int (i * 7919)) := fun i => dMul_int (mulOk_r (by decide))
  have d30 : ∀ i, dMod (.int i) (.int (10 ^ 30)) = some (.int (i % 10 ^ 30)) := fun i => dMod_pos (by decide)
  have d20 : ∀ i, dMod (.int i) (.int (10 ^ 20)) = some (.int (i % 10 ^ 20)) := fun i => dMod_pos (by decide)
  have l8 : dLst [.int 2, .int 3, .int 5, .int 7, .int 11, .int 13, .int 31, .int 97] = some (.lst true [.int 2, .int 3, .int 5, .int 7, .int 11, .int 13, .int 31, .int 97]) := dLst_le (by show 8 ≤ 16777216; omega)
  have t4 : ∀ a b c d : D, dTup [a, b, c, d] = some (.tup [a, b, c, d]) := fun a b c d => dTup_le (by show 4 ≤ 16777216; omega)
  obtain ⟨p, hp, hix⟩ := dix8 ((ns.getD 0 0).natAbs : Int)
  have h := pp_all p hp
  have ab1 := abs_eq (ns.getD 0 0)
  have ab2 := abs_eq (ns.getD 1 0)
  generalize ((ns.getD 0 0).natAbs : Int) = one at hone hix ab1
  generalize ((ns.getD 1 0).natAbs : Int) = two at htwo ab2
  obtain ⟨z1, p1, q1, b1', e1⟩ := body1 (ns := ns) (one := one) (two := two) (cell := one / 8) (R := []) (c6 := none) (c7 := none) (o8 := none) (o9 := none) (o10 := none) (o11 := none) (o12 := none) (o13 := none) h (by omega) (by simp)
  obtain ⟨z2, p2, q2, b2', e2⟩ := body1 (ns := ns) (one := one) (two := two) (cell := two) (R := [z1]) (c6 := p1) (c7 := q1) (o8 := none) (o9 := none) (o10 := none) (o11 := none) (o12 := none) (o13 := none) h (by omega) (by simp)
  obtain ⟨z3, p3, q3, b3', e3⟩ := body1 (ns := ns) (one := one) (two := two) (cell := one / 8 + two) (R := [z1, z2]) (c6 := p2) (c7 := q2) (o8 := none) (o9 := none) (o10 := none) (o11 := none) (o12 := none) (o13 := none) h (by omega) (by simp)
  obtain ⟨z4, p4, q4, b4', e4⟩ := body1 (ns := ns) (one := one) (two := two) (cell := two * 7919 + one) (R := [z1, z2, z3]) (c6 := p3) (c7 := q3) (o8 := none) (o9 := none) (o10 := none) (o11 := none) (o12 := none) (o13 := none) h (by omega) (by simp)
  have y0 : 0 < 1 + two % 10 ^ 20 := by omega
  have y1 : (1 + two % 10 ^ 20).natAbs < 2 ^ 100 := by omega
  have y2 : (one % 10 ^ 30 - 10 ^ 20).natAbs < 2 ^ 100 := by omega
  have fe := frac_eq (a := one % 10 ^ 30 - 10 ^ 20) y0 y1 (by decide)
  obtain ⟨fb, _⟩ := frac_bd y2 y0 y1
  have b0 : Bd 100 (0, 1) := ⟨by show (0 : Int).natAbs < 2 ^ 100; decide, by show (0 : Int) < 1; decide, by show (1 : Int).natAbs < 2 ^ 100; decide⟩
  generalize frac (one % 10 ^ 30 - 10 ^ 20) (1 + two % 10 ^ 20) = z5 at fe fb
  have hR : ∀ y ∈ [z1, z2, z3, z4, z5, (0, 1)], Bd 100 y := by
    intro y hy
    simp only [List.mem_cons, List.not_mem_nil, or_false] at hy
    rcases hy with rfl | rfl | rfl | rfl | rfl | rfl <;> assumption
  obtain ⟨ef, he⟩ := loop5 (ns := ns) (one := one) (two := two) (c5 := some (.int (two * 7919 + one))) (c6 := p4) (c7 := q4) h hR [z1, z2, z3, z4, z5, (0, 1)] false none none none none none none hR
  clear y1 y2 y0
  simp only [List.map_cons, List.map_nil, List.cons_append, List.nil_append] at e1 e2 e3 e4 he
  have ll4 : lineLt 4 = true := tst_of (by omega)
  have ll5 : lineLt 5 = true := tst_of (by omega)
  simp only [F_law, val_fnF, seqF_eq, andThen_nx, andThen_bk, andThen_ct, andThen_rt, retV_rt, retV_nx, nxF, bkF, ctF, rtF, rnF, rmF, stF, exF, put, parF, agF, ifS, forF_eq, flF_nil, flF_cons, flK_nx, flK_ct, flK_bk, flK_rt, tbF, ttF, andF, orF, notF, andV, orV, ifF, chF, b1, b2, bN, clF_val, aNil, aCons, nmF, ownF, cF, fzF, itF, inF, itOf, rng1, rng2, yesF, dTru, dNot, dAdd_int, dSub_int, dEq_int, dNe_int, dLt_int, dLe_int, dGt_int, dGe_int, dAddI_int, asB_bl, dIx_tup0, dIx_tup1, fLen, fAbs, fInt, fMax2, fMin2, gTupF, gsCons, gsNil, D.pure, D.pures, Bool.not_true, Bool.not_false, Bool.and_true, Bool.true_and, Bool.and_false, Bool.false_and, Option.bind_some, Option.bind_none, Option.map_some, Option.map_none, bind_ite, map_ite, List.map_cons, List.map_nil, List.replicate, List.cons_append, List.nil_append, List.append_nil, List.getElem?_cons_zero, List.getElem?_cons_succ, List.set_cons_zero, List.set_cons_succ, List.length_cons, List.length_nil, Nat.reduceAdd, Nat.reduceLT, Nat.zero_add, Nat.lt_add_one, if_true, if_false, ite_true, ite_false, decide_eq_true_eq, Bool.false_eq_true, reduceCtorEq, reduceIte, Nat.reduceLeDiff, Nat.reduceEqDiff, c0, c1, ab1, ab2, l8, e8, f8, m7, d30, d20, hix, lnil_ok, t4, D.fz, D.fzs, e1, e2, e3, e4, pow30, pow20, fe, pair_ok, mtF, isL, mAppend, ll4, ll5, he]
end
end G40

set_option Elab.async false
set_option linter.all false
set_option maxRecDepth 100000
set_option maxHeartbeats 4000000
namespace G40
open PySem L2 Pz
noncomputable section
abbrev tp (i : Nat) : Stmt := PySem.Challenge.pw_leastplus_k40_valuations.main.body.getD i (.Pass ⟨0, 0, 0, 0⟩)
structure Txt (K : PySem.W.Frag) (mg : Str → Option Value) : Prop where
  b_abs : mg "abs" = none
  b_bool : mg "bool" = none
  b_int : mg "int" = none
  b_isinstance : mg "isinstance" = none
  b_len : mg "len" = none
  b_range : mg "range" = none
  b_tuple : mg "tuple" = none
  e_INFINITE : ∃ v u, mg "INFINITE" = some u ∧ RelV v u ∧ ∀ G H, Rp K G H g_INFINITE v []
end
end G40
namespace G40
open PySem L2 Pz
noncomputable section
section
variable {P : Program} {w : World} {K : PySem.W.Frag} {mg : Str → Option Value} {base : Heap}
theorem sc_divisions : FnScope ["p", "a", "found"] ["p", "a"] (defScope (tp 2)) := ⟨rfl, rfl, rfl, by decide +kernel, rfl, by decide +kernel, by decide +kernel⟩
theorem cal_divisions {f : Addr} {fd : FuncData} (T : Txt K mg) (F : Fun K "divisions" "divisions" (tp 2) f fd) (hm : mg "divisions" = some (.ref f)) (hb : Binds K fd ["p", "a"] []) : Cal P w K mg base "divisions" 1 ["p", "a"] F_divisions := by
  refine cal_mk arity_fnF (fnV F sc_divisions 1 rfl (W := [1, 2]) fun cdv A outer s H E hr => ?_) hm F.kp hb
  exact bv_W (bv_cons (sv_set (i := 2) sc_divisions.nd rfl (by first | exact .inl rfl | exact .inr rfl) ev_int) (bv_cons (sv_while (FT := C_divisions_1) (F := L_divisions_1) PySem.PassesOwn.never (tv_cmp (op_eqD hr.units) o2_eq (ev_bin op_modN o2_mod (ev_look (pv 1)) (ev_look (pv 0))) ev_int (nomark _)) (bv_cons (sv_set (i := 1) sc_divisions.nd rfl (by first | exact .inl rfl | exact .inr rfl) (ev_bin op_fdivX o2_div (ev_look (pv 1)) (ev_look (pv 0)))) (bv_one (sv_aug (i := 2) sc_divisions.nd rfl (by first | exact .inl rfl | exact .inr rfl) ev_int iop_add o2_addI)))) (bv_one (sv_ret (ev_name (pv 2)))))) (by decide)
theorem sc__law_cell : FnScope ["script", "k"] ["script", "k"] (defScope (tp 5)) := ⟨rfl, rfl, rfl, by decide +kernel, rfl, by decide +kernel, by decide +kernel⟩
theorem cal__law_cell {f : Addr} {fd : FuncData} (T : Txt K mg) (F : Fun K "_law_cell" "_law_cell" (tp 5) f fd) (hm : mg "_law_cell" = some (.ref f)) (hb : Binds K fd ["script", "k"] []) : Cal P w K mg base "_law_cell" 1 ["script", "k"] F__law_cell := by
  refine cal_mk arity_fnF (fnV F sc__law_cell 0 rfl (W := []) fun cdv A outer s H E hr => ?_) hm F.kp hb
  exact bv_W (bv_cons (sv_if (tv_cmp (opr_lt hr.units0) o2_lt (ev_look (pv 1)) (ev_callB call_len on_len (by rfl) T.b_len PySem.boot_len (av_cons (ev_look (pv 0)) av_nil)) (nomark _)) (bv_one (sv_ret (ev_own (ev_sub (ev_look (pv 0)) (ev_look (pv 1)) (fun _ _ => rfl))))) bv_nil) (bv_one (sv_ret ev_int))) (by decide)
theorem sc__law_is_integer : FnScope ["actual"] ["actual"] (defScope (tp 6)) := ⟨rfl, rfl, rfl, by decide +kernel, rfl, by decide +kernel, by decide +kernel⟩
theorem cal__law_is_integer {f : Addr} {fd : FuncData} (T : Txt K mg) (F : Fun K "_law_is_integer" "_law_is_integer" (tp 6) f fd) (hm : mg "_law_is_integer" = some (.ref f)) (hb : Binds K fd ["actual"] []) : Cal P w K mg base "_law_is_integer" 1 ["actual"] F__law_is_integer := by
  refine cal_mk arity_fnF (fnV F sc__law_is_integer 0 rfl (W := []) fun cdv A outer s H E hr => ?_) hm F.kp hb
  exact bv_W (bv_one (sv_ret (ev_and (ev_callB call_isi on_isi (by rfl) T.b_isinstance (by decide +kernel) (av_cons (ev_look (pv 0)) (av_cons (ev_ty (by rfl) T.b_int (by decide +kernel)) av_nil))) (ev_one (ev_not (ev_callB call_isi on_isi (by rfl) T.b_isinstance (by decide +kernel) (av_cons (ev_look (pv 0)) (av_cons (ev_ty (by rfl) T.b_bool (by decide +kernel)) av_nil)))))))) (by decide)
theorem sc__law_frac : FnScope ["a", "b", "x", "y", "k", "rest"] ["a", "b"] (defScope (tp 7)) := ⟨rfl, rfl, rfl, by decide +kernel, rfl, by decide +kernel, by decide +kernel⟩
theorem cal__law_frac {f : Addr} {fd : FuncData} (T : Txt K mg) (F : Fun K "_law_frac" "_law_frac" (tp 7) f fd) (hm : mg "_law_frac" = some (.ref f)) (hb : Binds K fd ["a", "b"] []) : Cal P w K mg base "_law_frac" 1 ["a", "b"] F__law_frac := by
  refine cal_mk arity_fnF (fnV F sc__law_frac 4 rfl (W := [2, 3, 4, 5]) fun cdv A outer s H E hr => ?_) hm F.kp hb
  exact bv_W (bv_cons (sv_set (i := 2) sc__law_frac.nd rfl (by first | exact .inl rfl | exact .inr rfl) (ev_callB call_abs on_abs (by rfl) T.b_abs (by decide +kernel) (av_cons (ev_look (pv 0)) av_nil))) (bv_cons (sv_set (i := 3) sc__law_frac.nd rfl (by first | exact .inl rfl | exact .inr rfl) (ev_callB call_abs on_abs (by rfl) T.b_abs (by decide +kernel) (av_cons (ev_look (pv 1)) av_nil))) (bv_cons (sv_for (FB := L__law_frac_1) PySem.PassesOwn.never rfl (iv_range1 (by rfl) T.b_range (av_cons (ev_bin opr_add o2_add (ev_bin op_mulZ o2_mul ev_int (ev_bits (ev_callB call_abs on_abs (by rfl) T.b_abs (by decide +kernel) (av_cons (ev_look (pv 1)) av_nil)))) ev_int) av_nil)) (gv_name sc__law_frac.nd rfl (by first | exact .inl rfl | exact .inr rfl)) (bv_cons (sv_if (tv_cmp (op_eqD hr.units) o2_eq (ev_look (pv 3)) ev_int (nomark _)) (bv_one sv_break) bv_nil) (bv_cons (sv_set (i := 5) sc__law_frac.nd rfl (by first | exact .inl rfl | exact .inr rfl) (ev_bin op_modN o2_mod (ev_callTy call_int1 on_int (by rfl) T.b_int (by decide +kernel) (av_cons (ev_look (pv 2)) av_nil)) (ev_look (pv 3)))) (bv_cons (sv_set (i := 2) sc__law_frac.nd rfl (by first | exact .inl rfl | exact .inr rfl) (ev_name (pv 3))) (bv_one (sv_set (i := 3) sc__law_frac.nd rfl (by first | exact .inl rfl | exact .inr rfl) (ev_name (pv 5)))))))) (bv_cons (sv_if (tv_cmp (opr_lt hr.units0) o2_lt (ev_look (pv 1)) ev_int (nomark _)) (bv_one (sv_set (i := 2) sc__law_frac.nd rfl (by first | exact .inl rfl | exact .inr rfl) (ev_bin op_sub o2_sub ev_int (ev_look (pv 2))))) bv_nil) (bv_one (sv_ret (ev_tup (av_cons (ev_bin op_fdivX o2_div (ev_look (pv 0)) (ev_look (pv 2))) (av_cons (ev_bin op_fdivX o2_div (ev_look (pv 1)) (ev_look (pv 2))) av_nil))))))))) (by decide)
theorem sc__law_below : FnScope ["x", "y"] ["x", "y"] (defScope (tp 10)) := ⟨rfl, rfl, rfl, by decide +kernel, rfl, by decide +kernel, by decide +kernel⟩
theorem cal__law_below {f : Addr} {fd : FuncData} (T : Txt K mg) (F : Fun K "_law_below" "_law_below" (tp 10) f fd) (hm : mg "_law_below" = some (.ref f)) (hb : Binds K fd ["x", "y"] []) : Cal P w K mg base "_law_below" 1 ["x", "y"] F__law_below := by
  refine cal_mk arity_fnF (fnV F sc__law_below 0 rfl (W := []) fun cdv A outer s H E hr => ?_) hm F.kp hb
  exact bv_W (bv_cons (sv_if (tv_cmp (op_eqD hr.units) o2_eq (ev_look (pv 0)) (ev_tup av_nil) (nomark _)) (bv_one (sv_ret ev_bl)) bv_nil) (bv_one (sv_ret (ev_or (ev_cmp (op_eqD hr.units) o2_eq (ev_look (pv 1)) (ev_tup av_nil) (nomark _)) (ev_one (ev_cmp (opr_lt hr.units0) o2_lt (ev_bin op_mulZ o2_mul (ev_sub (ev_look (pv 0)) ev_int (fun _ _ => rfl)) (ev_sub (ev_look (pv 1)) ev_int (fun _ _ => rfl))) (ev_bin op_mulZ o2_mul (ev_sub (ev_look (pv 1)) ev_int (fun _ _ => rfl)) (ev_sub (ev_look (pv 0)) ev_int (fun _ _ => rfl))) (nomark _))))))) (by decide)
theorem sc__law_divided : FnScope ["p", "a", "many", "k"] ["p", "a"] (defScope (tp 13)) := ⟨rfl, rfl, rfl, by decide +kernel, rfl, by decide +kernel, by decide +kernel⟩
theorem cal__law_divided {f : Addr} {fd : FuncData} (T : Txt K mg) (F : Fun K "_law_divided" "_law_divided" (tp 13) f fd) (hm : mg "_law_divided" = some (.ref f)) (hb : Binds K fd ["p", "a"] []) : Cal P w K mg base "_law_divided" 1 ["p", "a"] F__law_divided := by
  refine cal_mk arity_fnF (fnV F sc__law_divided 2 rfl (W := [1, 2, 3]) fun cdv A outer s H E hr => ?_) hm F.kp hb
  exact bv_W (bv_cons (sv_set (i := 2) sc__law_divided.nd rfl (by first | exact .inl rfl | exact .inr rfl) ev_int) (bv_cons (sv_for (FB := L__law_divided_1) PySem.PassesOwn.never rfl (iv_range1 (by rfl) T.b_range (av_cons ev_int av_nil)) (gv_name sc__law_divided.nd rfl (by first | exact .inl rfl | exact .inr rfl)) (bv_cons (sv_if (tv_cmp (op_neD hr.units) o2_ne (ev_bin op_modN o2_mod (ev_callTy call_int1 on_int (by rfl) T.b_int (by decide +kernel) (av_cons (ev_look (pv 1)) av_nil)) (ev_look (pv 0))) ev_int (nomark _)) (bv_one sv_break) bv_nil) (bv_cons (sv_set (i := 1) sc__law_divided.nd rfl (by first | exact .inl rfl | exact .inr rfl) (ev_bin op_fdivX o2_div (ev_look (pv 1)) (ev_look (pv 0)))) (bv_one (sv_set (i := 2) sc__law_divided.nd rfl (by first | exact .inl rfl | exact .inr rfl) (ev_bin opr_add o2_add (ev_look (pv 2)) ev_int)))))) (bv_one (sv_ret (ev_name (pv 2)))))) (by decide)
theorem sc_valuation : FnScope ["p", "x"] ["p", "x"] (defScope (tp 3)) := ⟨rfl, rfl, rfl, by decide +kernel, rfl, by decide +kernel, by decide +kernel⟩
theorem cal_valuation {f : Addr} {fd : FuncData} (T : Txt K mg) (F : Fun K "valuation" "valuation" (tp 3) f fd) (hm : mg "valuation" = some (.ref f)) (hb : Binds K fd ["p", "x"] []) (c_divisions : Cal P w K mg base "divisions" 1 ["p", "a"] F_divisions) : Cal P w K mg base "valuation" 2 ["p", "x"] F_valuation := by
  refine cal_mk arity_fnF (fnV F sc_valuation 0 rfl (W := []) fun cdv A outer s H E hr => ?_) hm F.kp hb
  exact bv_W (bv_cons (sv_if (tv_cmp (op_eqD hr.units) o2_eq (ev_sub (ev_look (pv 1)) ev_int (fun _ _ => rfl)) ev_int (nomark _)) (bv_one (sv_ret (ev_globX (by rfl) T.e_INFINITE))) bv_nil) (bv_one (sv_ret (ev_tup (av_cons (ev_bin op_sub o2_sub (ev_def c_divisions (hr.mono (by decide)) (by rfl) (av_cons (ev_name (pv 0)) (av_cons (ev_own (ev_sub (ev_look (pv 1)) ev_int (fun _ _ => rfl))) av_nil))) (ev_def c_divisions (hr.mono (by decide)) (by rfl) (av_cons (ev_name (pv 0)) (av_cons (ev_own (ev_sub (ev_look (pv 1)) ev_int (fun _ _ => rfl))) av_nil)))) (av_cons ev_int av_nil)))))) (by decide)
theorem sc__law_plus : FnScope ["x", "y"] ["x", "y"] (defScope (tp 8)) := ⟨rfl, rfl, rfl, by decide +kernel, rfl, by decide +kernel, by decide +kernel⟩
theorem cal__law_plus {f : Addr} {fd : FuncData} (T : Txt K mg) (F : Fun K "_law_plus" "_law_plus" (tp 8) f fd) (hm : mg "_law_plus" = some (.ref f)) (hb : Binds K fd ["x", "y"] []) (c__law_frac : Cal P w K mg base "_law_frac" 1 ["a", "b"] F__law_frac) : Cal P w K mg base "_law_plus" 2 ["x", "y"] F__law_plus := by
  refine cal_mk arity_fnF (fnV F sc__law_plus 0 rfl (W := []) fun cdv A outer s H E hr => ?_) hm F.kp hb
  exact bv_W (bv_one (sv_ret (ev_def c__law_frac (hr.mono (by decide)) (by rfl) (av_cons (ev_bin opr_add o2_add (ev_bin op_mulZ o2_mul (ev_sub (ev_look (pv 0)) ev_int (fun _ _ => rfl)) (ev_sub (ev_look (pv 1)) ev_int (fun _ _ => rfl))) (ev_bin op_mulZ o2_mul (ev_sub (ev_look (pv 1)) ev_int (fun _ _ => rfl)) (ev_sub (ev_look (pv 0)) ev_int (fun _ _ => rfl)))) (av_cons (ev_bin op_mulZ o2_mul (ev_sub (ev_look (pv 0)) ev_int (fun _ _ => rfl)) (ev_sub (ev_look (pv 1)) ev_int (fun _ _ => rfl))) av_nil))))) (by decide)
theorem sc__law_times : FnScope ["x", "y"] ["x", "y"] (defScope (tp 9)) := ⟨rfl, rfl, rfl, by decide +kernel, rfl, by decide +kernel, by decide +kernel⟩
theorem cal__law_times {f : Addr} {fd : FuncData} (T : Txt K mg) (F : Fun K "_law_times" "_law_times" (tp 9) f fd) (hm : mg "_law_times" = some (.ref f)) (hb : Binds K fd ["x", "y"] []) (c__law_frac : Cal P w K mg base "_law_frac" 1 ["a", "b"] F__law_frac) : Cal P w K mg base "_law_times" 2 ["x", "y"] F__law_times := by
  refine cal_mk arity_fnF (fnV F sc__law_times 0 rfl (W := []) fun cdv A outer s H E hr => ?_) hm F.kp hb
  exact bv_W (bv_one (sv_ret (ev_def c__law_frac (hr.mono (by decide)) (by rfl) (av_cons (ev_bin op_mulZ o2_mul (ev_sub (ev_look (pv 0)) ev_int (fun _ _ => rfl)) (ev_sub (ev_look (pv 1)) ev_int (fun _ _ => rfl))) (av_cons (ev_bin op_mulZ o2_mul (ev_sub (ev_look (pv 0)) ev_int (fun _ _ => rfl)) (ev_sub (ev_look (pv 1)) ev_int (fun _ _ => rfl))) av_nil))))) (by decide)
theorem sc__law_least : FnScope ["values", "best", "value"] ["values"] (defScope (tp 12)) := ⟨rfl, rfl, rfl, by decide +kernel, rfl, by decide +kernel, by decide +kernel⟩
theorem cal__law_least {f : Addr} {fd : FuncData} (T : Txt K mg) (F : Fun K "_law_least" "_law_least" (tp 12) f fd) (hm : mg "_law_least" = some (.ref f)) (hb : Binds K fd ["values"] []) (c__law_below : Cal P w K mg base "_law_below" 1 ["x", "y"] F__law_below) : Cal P w K mg base "_law_least" 2 ["values"] F__law_least := by
  refine cal_mk arity_fnF (fnV F sc__law_least 2 rfl (W := [1, 2]) fun cdv A outer s H E hr => ?_) hm F.kp hb
  exact bv_W (bv_cons (sv_set (i := 1) sc__law_least.nd rfl (by first | exact .inl rfl | exact .inr rfl) (ev_tup av_nil)) (bv_cons (sv_for (FB := L__law_least_1) PySem.PassesOwn.never rfl (iv_seq (ev_share (pv 0))) (gv_name sc__law_least.nd rfl (by first | exact .inl rfl | exact .inr rfl)) (bv_one (sv_if (tv_tru (ev_def c__law_below (hr.mono (by decide)) (by rfl) (av_cons (ev_name (pv 2)) (av_cons (ev_name (pv 1)) av_nil)))) (bv_one (sv_set (i := 1) sc__law_least.nd rfl (by first | exact .inl rfl | exact .inr rfl) (ev_name (pv 2)))) bv_nil))) (bv_one (sv_ret (ev_name (pv 1)))))) (by decide)
theorem sc__law_val : FnScope ["p", "x"] ["p", "x"] (defScope (tp 14)) := ⟨rfl, rfl, rfl, by decide +kernel, rfl, by decide +kernel, by decide +kernel⟩
theorem cal__law_val {f : Addr} {fd : FuncData} (T : Txt K mg) (F : Fun K "_law_val" "_law_val" (tp 14) f fd) (hm : mg "_law_val" = some (.ref f)) (hb : Binds K fd ["p", "x"] []) (c__law_divided : Cal P w K mg base "_law_divided" 1 ["p", "a"] F__law_divided) : Cal P w K mg base "_law_val" 2 ["p", "x"] F__law_val := by
  refine cal_mk arity_fnF (fnV F sc__law_val 0 rfl (W := []) fun cdv A outer s H E hr => ?_) hm F.kp hb
  exact bv_W (bv_cons (sv_if (tv_cmp (op_eqD hr.units) o2_eq (ev_sub (ev_look (pv 1)) ev_int (fun _ _ => rfl)) ev_int (nomark _)) (bv_one (sv_ret (ev_tup av_nil))) bv_nil) (bv_one (sv_ret (ev_tup (av_cons (ev_bin op_sub o2_sub (ev_def c__law_divided (hr.mono (by decide)) (by rfl) (av_cons (ev_name (pv 0)) (av_cons (ev_own (ev_sub (ev_look (pv 1)) ev_int (fun _ _ => rfl))) av_nil))) (ev_def c__law_divided (hr.mono (by decide)) (by rfl) (av_cons (ev_name (pv 0)) (av_cons (ev_own (ev_sub (ev_look (pv 1)) ev_int (fun _ _ => rfl))) av_nil)))) (av_cons ev_int av_nil)))))) (by decide)
theorem sc__law_added : FnScope ["x", "y"] ["x", "y"] (defScope (tp 11)) := ⟨rfl, rfl, rfl, by decide +kernel, rfl, by decide +kernel, by decide +kernel⟩
theorem cal__law_added {f : Addr} {fd : FuncData} (T : Txt K mg) (F : Fun K "_law_added" "_law_added" (tp 11) f fd) (hm : mg "_law_added" = some (.ref f)) (hb : Binds K fd ["x", "y"] []) (c__law_plus : Cal P w K mg base "_law_plus" 2 ["x", "y"] F__law_plus) : Cal P w K mg base "_law_added" 3 ["x", "y"] F__law_added := by
  refine cal_mk arity_fnF (fnV F sc__law_added 0 rfl (W := []) fun cdv A outer s H E hr => ?_) hm F.kp hb
  exact bv_W (bv_cons (sv_if (tv_w (wv_or (tv_cmp (op_eqD hr.units) o2_eq (ev_look (pv 0)) (ev_tup av_nil) (nomark _)) (wv_or1 (tv_cmp (op_eqD hr.units) o2_eq (ev_look (pv 1)) (ev_tup av_nil) (nomark _))))) (bv_one (sv_ret (ev_tup av_nil))) bv_nil) (bv_one (sv_ret (ev_def c__law_plus (hr.mono (by decide)) (by rfl) (av_cons (ev_name (pv 0)) (av_cons (ev_name (pv 1)) av_nil)))))) (by decide)
theorem sc__law_to_power : FnScope ["x", "k", "found", "turn"] ["x", "k"] (defScope (tp 15)) := ⟨rfl, rfl, rfl, by decide +kernel, rfl, by decide +kernel, by decide +kernel⟩
theorem cal__law_to_power {f : Addr} {fd : FuncData} (T : Txt K mg) (F : Fun K "_law_to_power" "_law_to_power" (tp 15) f fd) (hm : mg "_law_to_power" = some (.ref f)) (hb : Binds K fd ["x", "k"] []) (c__law_times : Cal P w K mg base "_law_times" 2 ["x", "y"] F__law_times) : Cal P w K mg base "_law_to_power" 3 ["x", "k"] F__law_to_power := by
  refine cal_mk arity_fnF (fnV F sc__law_to_power 2 rfl (W := [2, 3]) fun cdv A outer s H E hr => ?_) hm F.kp hb
  exact bv_W (bv_cons (sv_set (i := 2) sc__law_to_power.nd rfl (by first | exact .inl rfl | exact .inr rfl) (ev_tup (av_cons ev_int (av_cons ev_int av_nil)))) (bv_cons (sv_for (FB := L__law_to_power_1) PySem.PassesOwn.never rfl (iv_range1 (by rfl) T.b_range (av_cons (ev_name (pv 1)) av_nil)) (gv_name sc__law_to_power.nd rfl (by first | exact .inl rfl | exact .inr rfl)) (bv_one (sv_set (i := 2) sc__law_to_power.nd rfl (by first | exact .inl rfl | exact .inr rfl) (ev_def c__law_times (hr.mono (by decide)) (by rfl) (av_cons (ev_name (pv 2)) (av_cons (ev_name (pv 0)) av_nil)))))) (bv_one (sv_ret (ev_name (pv 2)))))) (by decide)
theorem sc__law_prime : FnScope ["p", "k"] ["p", "k"] (defScope (tp 16)) := ⟨rfl, rfl, rfl, by decide +kernel, rfl, by decide +kernel, by decide +kernel⟩
theorem cal__law_prime {f : Addr} {fd : FuncData} (T : Txt K mg) (F : Fun K "_law_prime" "_law_prime" (tp 16) f fd) (hm : mg "_law_prime" = some (.ref f)) (hb : Binds K fd ["p", "k"] []) (c__law_to_power : Cal P w K mg base "_law_to_power" 3 ["x", "k"] F__law_to_power) : Cal P w K mg base "_law_prime" 4 ["p", "k"] F__law_prime := by
  refine cal_mk arity_fnF (fnV F sc__law_prime 0 rfl (W := []) fun cdv A outer s H E hr => ?_) hm F.kp hb
  exact bv_W (bv_cons (sv_if (tv_cmp (opr_lt hr.units0) o2_lt (ev_look (pv 1)) ev_int (nomark _)) (bv_one (sv_ret (ev_tup (av_cons ev_int (av_cons (ev_own (ev_sub (ev_def c__law_to_power (hr.mono (by decide)) (by rfl) (av_cons (ev_tup (av_cons (ev_name (pv 0)) (av_cons ev_int av_nil))) (av_cons (ev_bin op_sub o2_sub ev_int (ev_look (pv 1))) av_nil))) ev_int (fun _ _ => rfl))) av_nil))))) bv_nil) (bv_one (sv_ret (ev_def c__law_to_power (hr.mono (by decide)) (by rfl) (av_cons (ev_tup (av_cons (ev_name (pv 0)) (av_cons ev_int av_nil))) (av_cons (ev_name (pv 1)) av_nil)))))) (by decide)
theorem sc_law : FnScope ["script", "one", "two", "p", "rows", "cell", "a", "b", "x", "told", "y", "mine", "whole", "lesser", "k"] ["script"] (defScope (tp 17)) := ⟨rfl, rfl, rfl, by decide +kernel, rfl, by decide +kernel, by decide +kernel⟩
theorem cal_law {f : Addr} {fd : FuncData} (T : Txt K mg) (F : Fun K "law" "law" (tp 17) f fd) (hm : mg "law" = some (.ref f)) (hb : Binds K fd ["script"] []) (c__law_cell : Cal P w K mg base "_law_cell" 1 ["script", "k"] F__law_cell) (c__law_prime : Cal P w K mg base "_law_prime" 4 ["p", "k"] F__law_prime) (c__law_frac : Cal P w K mg base "_law_frac" 1 ["a", "b"] F__law_frac) (c__law_times : Cal P w K mg base "_law_times" 2 ["x", "y"] F__law_times) (c_valuation : Cal P w K mg base "valuation" 2 ["p", "x"] F_valuation) (c__law_val : Cal P w K mg base "_law_val" 2 ["p", "x"] F__law_val) (c__law_is_integer : Cal P w K mg base "_law_is_integer" 1 ["actual"] F__law_is_integer) (c__law_added : Cal P w K mg base "_law_added" 3 ["x", "y"] F__law_added) (c__law_plus : Cal P w K mg base "_law_plus" 2 ["x", "y"] F__law_plus) (c__law_least : Cal P w K mg base "_law_least" 2 ["values"] F__law_least) (c__law_below : Cal P w K mg base "_law_below" 1 ["x", "y"] F__law_below) : Cal P w K mg base "law" 5 ["script"] F_law := by
  refine cal_mk arity_fnF (fnV F sc_law 14 rfl (W := [1, 2, 3, 4, 5, 6, 7, 8, 9, 10, 11, 12, 13]) fun cdv A outer s H E hr => ?_) hm F.kp hb
  exact bv_W (bv_cons (sv_set (i := 1) sc_law.nd rfl (by first | exact .inl rfl | exact .inr rfl) (ev_callB call_abs on_abs (by rfl) T.b_abs (by decide +kernel) (av_cons (ev_def c__law_cell (hr.mono (by decide)) (by rfl) (av_cons (ev_name (pv 0)) (av_cons ev_int av_nil))) av_nil))) (bv_cons (sv_set (i := 2) sc_law.nd rfl (by first | exact .inl rfl | exact .inr rfl) (ev_callB call_abs on_abs (by rfl) T.b_abs (by decide +kernel) (av_cons (ev_def c__law_cell (hr.mono (by decide)) (by rfl) (av_cons (ev_name (pv 0)) (av_cons ev_int av_nil))) av_nil))) (bv_cons (sv_set (i := 3) sc_law.nd rfl (by first | exact .inl rfl | exact .inr rfl) (ev_own (ev_sub (ev_lst (av_cons ev_int (av_cons ev_int (av_cons ev_int (av_cons ev_int (av_cons ev_int (av_cons ev_int (av_cons ev_int (av_cons ev_int av_nil))))))))) (ev_bin op_modN o2_mod (ev_callTy call_int1 on_int (by rfl) T.b_int (by decide +kernel) (av_cons (ev_look (pv 1)) av_nil)) ev_int) (fun _ _ => rfl)))) (bv_cons (sv_set (i := 4) sc_law.nd rfl (by first | exact .inl rfl | exact .inr rfl) (ev_lst av_nil)) (bv_cons (sv_for (FB := L_law_1) PySem.PassesOwn.never rfl (iv_seq (ev_tup (av_cons (ev_bin op_fdivX o2_div (ev_look (pv 1)) ev_int) (av_cons (ev_name (pv 2)) (av_cons (ev_bin opr_add o2_add (ev_bin op_fdivX o2_div (ev_look (pv 1)) ev_int) (ev_look (pv 2))) (av_cons (ev_bin opr_add o2_add (ev_bin op_mulZ o2_mul (ev_look (pv 2)) ev_int) (ev_look (pv 1))) av_nil)))))) (gv_name sc_law.nd rfl (by first | exact .inl rfl | exact .inr rfl)) (bv_cons (sv_set (i := 6) sc_law.nd rfl (by first | exact .inl rfl | exact .inr rfl) (ev_bin op_sub o2_sub (ev_bin op_modN o2_mod (ev_callTy call_int1 on_int (by rfl) T.b_int (by decide +kernel) (av_cons (ev_look (pv 5)) av_nil)) ev_int) ev_int)) (bv_cons (sv_set (i := 7) sc_law.nd rfl (by first | exact .inl rfl | exact .inr rfl) (ev_bin opr_add o2_add ev_int (ev_bin op_modN o2_mod (ev_bin op_fdivX o2_div (ev_look (pv 5)) ev_int) ev_int))) (bv_one (sv_expr (ev_mt PySem.F.slot_list_append PySem.F.type_list_append mt_append mut_append (pv 4) (av_cons (ev_def c__law_times (hr.mono (by decide)) (by rfl) (av_cons (ev_def c__law_frac (hr.mono (by decide)) (by rfl) (av_cons (ev_name (pv 6)) (av_cons (ev_name (pv 7)) av_nil))) (av_cons (ev_def c__law_prime (hr.mono (by decide)) (by rfl) (av_cons (ev_name (pv 3)) (av_cons (ev_bin op_sub o2_sub (ev_bin op_modN o2_mod (ev_bin op_fdivX o2_div (ev_look (pv 5)) ev_int) ev_int) ev_int) av_nil))) av_nil))) av_nil))))))) (bv_cons (sv_expr (ev_mt PySem.F.slot_list_append PySem.F.type_list_append mt_append mut_append (pv 4) (av_cons (ev_def c__law_frac (hr.mono (by decide)) (by rfl) (av_cons (ev_bin op_sub o2_sub (ev_bin op_modN o2_mod (ev_callTy call_int1 on_int (by rfl) T.b_int (by decide +kernel) (av_cons (ev_look (pv 1)) av_nil)) (ev_bin op_pow o2_pow ev_int ev_int)) (ev_bin op_pow o2_pow ev_int ev_int)) (av_cons (ev_bin opr_add o2_add ev_int (ev_bin op_modN o2_mod (ev_callTy call_int1 on_int (by rfl) T.b_int (by decide +kernel) (av_cons (ev_look (pv 2)) av_nil)) (ev_bin op_pow o2_pow ev_int ev_int))) av_nil))) av_nil))) (bv_cons (sv_expr (ev_mt PySem.F.slot_list_append PySem.F.type_list_append mt_append mut_append (pv 4) (av_cons (ev_tup (av_cons ev_int (av_cons ev_int av_nil))) av_nil))) (bv_cons (sv_for (FB := L_law_5) PySem.PassesOwn.never rfl (iv_seq (ev_share (pv 4))) (gv_name sc_law.nd rfl (by first | exact .inl rfl | exact .inr rfl)) (bv_cons (sv_set (i := 9) sc_law.nd rfl (by first | exact .inl rfl | exact .inr rfl) (ev_def c_valuation (hr.mono (by decide)) (by rfl) (av_cons (ev_name (pv 3)) (av_cons (ev_name (pv 8)) av_nil)))) (bv_cons (sv_if (tv_w (wv_or (tv_not (tv_tru (ev_callB call_isi on_isi (by rfl) T.b_isinstance (by decide +kernel) (av_cons (ev_look (pv 9)) (av_cons (ev_ty (by rfl) T.b_tuple (by decide +kernel)) av_nil))))) (wv_or (tv_cmp (op_neD hr.units) o2_ne (ev_look (pv 9)) (ev_def c__law_val (hr.mono (by decide)) (by rfl) (av_cons (ev_name (pv 3)) (av_cons (ev_name (pv 8)) av_nil))) (nomark _)) (wv_or1 (tv_cmp (op_neD hr.units) o2_ne (ev_lc (own := [("k", 14)]) rfl sc_law.nd (iv_seq (ev_name (pv 9))) (blkOk_by (N := ["script", "one", "two", "p", "rows", "cell", "a", "b", "x", "told", "y", "mine", "whole", "lesser", "k"]) (sc := defScope (tp 17)) (by decide +kernel)) (fun _ _ _ _ _ => (gv_name sc_law.nd rfl (by first | exact .inl rfl | exact .inr rfl))) (fun _ _ _ _ _ => (cv_one (tv_not (tv_tru (ev_def c__law_is_integer (hr.mono (by decide)) (by rfl) (av_cons (ev_name (pv 14)) av_nil)))))) (fun _ _ _ _ _ => (ev_name (pv 14))) (by decide)) (ev_lst av_nil) (nomark _)))))) (bv_one (sv_ret ev_bl)) bv_nil) (bv_one (sv_for (FB := L_law_4) PySem.PassesOwn.never rfl (iv_seq (ev_share (pv 4))) (gv_name sc_law.nd rfl (by first | exact .inl rfl | exact .inr rfl)) (bv_cons (sv_set (i := 11) sc_law.nd rfl (by first | exact .inl rfl | exact .inr rfl) (ev_def c__law_val (hr.mono (by decide)) (by rfl) (av_cons (ev_name (pv 3)) (av_cons (ev_name (pv 10)) av_nil)))) (bv_cons (sv_if (tv_cmp (op_neD hr.units) o2_ne (ev_def c_valuation (hr.mono (by decide)) (by rfl) (av_cons (ev_name (pv 3)) (av_cons (ev_def c__law_times (hr.mono (by decide)) (by rfl) (av_cons (ev_name (pv 8)) (av_cons (ev_name (pv 10)) av_nil))) av_nil))) (ev_def c__law_added (hr.mono (by decide)) (by rfl) (av_cons (ev_name (pv 9)) (av_cons (ev_name (pv 11)) av_nil))) (nomark _)) (bv_one (sv_ret ev_bl)) bv_nil) (bv_cons (sv_set (i := 12) sc_law.nd rfl (by first | exact .inl rfl | exact .inr rfl) (ev_def c_valuation (hr.mono (by decide)) (by rfl) (av_cons (ev_name (pv 3)) (av_cons (ev_def c__law_plus (hr.mono (by decide)) (by rfl) (av_cons (ev_name (pv 8)) (av_cons (ev_name (pv 10)) av_nil))) av_nil)))) (bv_cons (sv_set (i := 13) sc_law.nd rfl (by first | exact .inl rfl | exact .inr rfl) (ev_def c__law_least (hr.mono (by decide)) (by rfl) (av_cons (ev_lst (av_cons (ev_name (pv 9)) (av_cons (ev_name (pv 11)) av_nil))) av_nil))) (bv_one (sv_if (tv_w (wv_or (tv_tru (ev_def c__law_below (hr.mono (by decide)) (by rfl) (av_cons (ev_name (pv 12)) (av_cons (ev_name (pv 13)) av_nil)))) (wv_or1 (tv_w (wv_and (tv_cmp (op_neD hr.units) o2_ne (ev_look (pv 9)) (ev_look (pv 11)) (nomark _)) (wv_and1 (tv_cmp (op_neD hr.units) o2_ne (ev_look (pv 12)) (ev_look (pv 13)) (nomark _)))))))) (bv_one (sv_ret ev_bl)) bv_nil))))))))))) (bv_one (sv_ret ev_bl)))))))))) (by decide)
end
theorem law_of {l : PySem.W.OpenLaw} {w : World} {K : PySem.W.Frag} {h : Heap} {mg : Str → Option Value} {fa : Addr} (X : K.In h) (G : h.Ns mainGlobals mg) (hfa : mg "law" = some (.ref fa))
    {f0 f1 f2 f3 f4 f5 f6 f7 f8 f9 f10 f11 f12 f13 f14 : Addr} {od0 an0 od1 an1 od2 an2 od3 an3 od4 an4 od5 an5 od6 an6 od7 an7 od8 an8 od9 an9 od10 an10 od11 an11 od12 an12 od13 an13 od14 an14 : Option Addr} {sl0 sl1 sl2 sl3 sl4 sl5 sl6 sl7 sl8 sl9 sl10 sl11 sl12 sl13 sl14 : Array (Option Value)} {oc0 kV0 dc0 pm0 cd0 ct0 oc1 kV1 dc1 pm1 cd1 ct1 oc2 kV2 dc2 pm2 cd2 ct2 oc3 kV3 dc3 pm3 cd3 ct3 oc4 kV4 dc4 pm4 cd4 ct4 oc5 kV5 dc5 pm5 cd5 ct5 oc6 kV6 dc6 pm6 cd6 ct6 oc7 kV7 dc7 pm7 cd7 ct7 oc8 kV8 dc8 pm8 cd8 ct8 oc9 kV9 dc9 pm9 cd9 ct9 oc10 kV10 dc10 pm10 cd10 ct10 oc11 kV11 dc11 pm11 cd11 ct11 oc12 kV12 dc12 pm12 cd12 ct12 oc13 kV13 dc13 pm13 cd13 ct13 oc14 kV14 dc14 pm14 cd14 ct14 : Value}
    (a0 : PySem.W.nsIn K mainGlobals "divisions" = some (some (.ref f0))) (l0 : K.lookup f0 = some ⟨oc0, od0, .func (PySem.W.fnOf "divisions" "divisions" (defArgs (tp 2)) (defBody (tp 2)) (defScope (tp 2)) .none kV0 dc0 pm0 an0 cd0 ct0), sl0⟩) (c0 : PySem.W.codeIn K cd0 "divisions" = true) (k0 : PySem.W.keepIn K (.ref f0) = true)
    (a1 : PySem.W.nsIn K mainGlobals "_law_cell" = some (some (.ref f1))) (l1 : K.lookup f1 = some ⟨oc1, od1, .func (PySem.W.fnOf "_law_cell" "_law_cell" (defArgs (tp 5)) (defBody (tp 5)) (defScope (tp 5)) .none kV1 dc1 pm1 an1 cd1 ct1), sl1⟩) (c1 : PySem.W.codeIn K cd1 "_law_cell" = true) (k1 : PySem.W.keepIn K (.ref f1) = true)
    (a2 : PySem.W.nsIn K mainGlobals "_law_is_integer" = some (some (.ref f2))) (l2 : K.lookup f2 = some ⟨oc2, od2, .func (PySem.W.fnOf "_law_is_integer" "_law_is_integer" (defArgs (tp 6)) (defBody (tp 6)) (defScope (tp 6)) .none kV2 dc2 pm2 an2 cd2 ct2), sl2⟩) (c2 : PySem.W.codeIn K cd2 "_law_is_integer" = true) (k2 : PySem.W.keepIn K (.ref f2) = true)
    (a3 : PySem.W.nsIn K mainGlobals "_law_frac" = some (some (.ref f3))) (l3 : K.lookup f3 = some ⟨oc3, od3, .func (PySem.W.fnOf "_law_frac" "_law_frac" (defArgs (tp 7)) (defBody (tp 7)) (defScope (tp 7)) .none kV3 dc3 pm3 an3 cd3 ct3), sl3⟩) (c3 : PySem.W.codeIn K cd3 "_law_frac" = true) (k3 : PySem.W.keepIn K (.ref f3) = true)
    (a4 : PySem.W.nsIn K mainGlobals "_law_below" = some (some (.ref f4))) (l4 : K.lookup f4 = some ⟨oc4, od4, .func (PySem.W.fnOf "_law_below" "_law_below" (defArgs (tp 10)) (defBody (tp 10)) (defScope (tp 10)) .none kV4 dc4 pm4 an4 cd4 ct4), sl4⟩) (c4 : PySem.W.codeIn K cd4 "_law_below" = true) (k4 : PySem.W.keepIn K (.ref f4) = true)
    (a5 : PySem.W.nsIn K mainGlobals "_law_divided" = some (some (.ref f5))) (l5 : K.lookup f5 = some ⟨oc5, od5, .func (PySem.W.fnOf "_law_divided" "_law_divided" (defArgs (tp 13)) (defBody (tp 13)) (defScope (tp 13)) .none kV5 dc5 pm5 an5 cd5 ct5), sl5⟩) (c5 : PySem.W.codeIn K cd5 "_law_divided" = true) (k5 : PySem.W.keepIn K (.ref f5) = true)
    (a6 : PySem.W.nsIn K mainGlobals "valuation" = some (some (.ref f6))) (l6 : K.lookup f6 = some ⟨oc6, od6, .func (PySem.W.fnOf "valuation" "valuation" (defArgs (tp 3)) (defBody (tp 3)) (defScope (tp 3)) .none kV6 dc6 pm6 an6 cd6 ct6), sl6⟩) (c6 : PySem.W.codeIn K cd6 "valuation" = true) (k6 : PySem.W.keepIn K (.ref f6) = true)
    (a7 : PySem.W.nsIn K mainGlobals "_law_plus" = some (some (.ref f7))) (l7 : K.lookup f7 = some ⟨oc7, od7, .func (PySem.W.fnOf "_law_plus" "_law_plus" (defArgs (tp 8)) (defBody (tp 8)) (defScope (tp 8)) .none kV7 dc7 pm7 an7 cd7 ct7), sl7⟩) (c7 : PySem.W.codeIn K cd7 "_law_plus" = true) (k7 : PySem.W.keepIn K (.ref f7) = true)
    (a8 : PySem.W.nsIn K mainGlobals "_law_times" = some (some (.ref f8))) (l8 : K.lookup f8 = some ⟨oc8, od8, .func (PySem.W.fnOf "_law_times" "_law_times" (defArgs (tp 9)) (defBody (tp 9)) (defScope (tp 9)) .none kV8 dc8 pm8 an8 cd8 ct8), sl8⟩) (c8 : PySem.W.codeIn K cd8 "_law_times" = true) (k8 : PySem.W.keepIn K (.ref f8) = true)
    (a9 : PySem.W.nsIn K mainGlobals "_law_least" = some (some (.ref f9))) (l9 : K.lookup f9 = some ⟨oc9, od9, .func (PySem.W.fnOf "_law_least" "_law_least" (defArgs (tp 12)) (defBody (tp 12)) (defScope (tp 12)) .none kV9 dc9 pm9 an9 cd9 ct9), sl9⟩) (c9 : PySem.W.codeIn K cd9 "_law_least" = true) (k9 : PySem.W.keepIn K (.ref f9) = true)
    (a10 : PySem.W.nsIn K mainGlobals "_law_val" = some (some (.ref f10))) (l10 : K.lookup f10 = some ⟨oc10, od10, .func (PySem.W.fnOf "_law_val" "_law_val" (defArgs (tp 14)) (defBody (tp 14)) (defScope (tp 14)) .none kV10 dc10 pm10 an10 cd10 ct10), sl10⟩) (c10 : PySem.W.codeIn K cd10 "_law_val" = true) (k10 : PySem.W.keepIn K (.ref f10) = true)
    (a11 : PySem.W.nsIn K mainGlobals "_law_added" = some (some (.ref f11))) (l11 : K.lookup f11 = some ⟨oc11, od11, .func (PySem.W.fnOf "_law_added" "_law_added" (defArgs (tp 11)) (defBody (tp 11)) (defScope (tp 11)) .none kV11 dc11 pm11 an11 cd11 ct11), sl11⟩) (c11 : PySem.W.codeIn K cd11 "_law_added" = true) (k11 : PySem.W.keepIn K (.ref f11) = true)
    (a12 : PySem.W.nsIn K mainGlobals "_law_to_power" = some (some (.ref f12))) (l12 : K.lookup f12 = some ⟨oc12, od12, .func (PySem.W.fnOf "_law_to_power" "_law_to_power" (defArgs (tp 15)) (defBody (tp 15)) (defScope (tp 15)) .none kV12 dc12 pm12 an12 cd12 ct12), sl12⟩) (c12 : PySem.W.codeIn K cd12 "_law_to_power" = true) (k12 : PySem.W.keepIn K (.ref f12) = true)
    (a13 : PySem.W.nsIn K mainGlobals "_law_prime" = some (some (.ref f13))) (l13 : K.lookup f13 = some ⟨oc13, od13, .func (PySem.W.fnOf "_law_prime" "_law_prime" (defArgs (tp 16)) (defBody (tp 16)) (defScope (tp 16)) .none kV13 dc13 pm13 an13 cd13 ct13), sl13⟩) (c13 : PySem.W.codeIn K cd13 "_law_prime" = true) (k13 : PySem.W.keepIn K (.ref f13) = true)
    (a14 : PySem.W.nsIn K mainGlobals "law" = some (some (.ref f14))) (l14 : K.lookup f14 = some ⟨oc14, od14, .func (PySem.W.fnOf "law" "law" (defArgs (tp 17)) (defBody (tp 17)) (defScope (tp 17)) .none kV14 dc14 pm14 an14 cd14 ct14), sl14⟩) (c14 : PySem.W.codeIn K cd14 "law" = true) (k14 : PySem.W.keepIn K (.ref f14) = true)
    (z_abs : PySem.W.nsIn K mainGlobals "abs" = some none)
    (z_bool : PySem.W.nsIn K mainGlobals "bool" = some none)
    (z_int : PySem.W.nsIn K mainGlobals "int" = some none)
    (z_isinstance : PySem.W.nsIn K mainGlobals "isinstance" = some none)
    (z_len : PySem.W.nsIn K mainGlobals "len" = some none)
    (z_range : PySem.W.nsIn K mainGlobals "range" = some none)
    (z_tuple : PySem.W.nsIn K mainGlobals "tuple" = some none)
    {ga_INFINITE : Addr} {gd_INFINITE : Option Addr} {gn_INFINITE : Nat} {gs_INFINITE : Array (Option Value)} (ya_INFINITE : PySem.W.nsIn K mainGlobals "INFINITE" = some (some (.ref ga_INFINITE))) (yl_INFINITE : K.lookup ga_INFINITE = some ⟨.type "tuple", gd_INFINITE, .seq #[] gn_INFINITE, gs_INFINITE⟩)
    : ∃ fd : FuncData, (∀ (s : Shared) (v : Value), BindsTo s fd ⟨[v], []⟩ [("script", v)]) ∧ ∀ base : Heap, K.In base → base.Ns mainGlobals mg → FnOk l.prog w K mg base CX0 5 fa fd ["script"] (spF K 1 F_law) := by
  have e := hfa.symm.trans (PySem.W.mg_of X G a14)
  cases e
  have T : Txt K mg := ⟨PySem.W.mg_none_of X G z_abs, PySem.W.mg_none_of X G z_bool, PySem.W.mg_none_of X G z_int, PySem.W.mg_none_of X G z_isinstance, PySem.W.mg_none_of X G z_len, PySem.W.mg_none_of X G z_range, PySem.W.mg_none_of X G z_tuple, ⟨.ref _, _, PySem.W.mg_of X G ya_INFINITE, rfl, rp_ktup0 yl_INFINITE rfl rfl⟩⟩
  have F0 := fun_mk (st := (tp 2)) l0 c0 k0
  have b0 := F0.binds (ps := ["p", "a"]) fun _ _ _ _ _ _ us hl => match us, hl with | [_, _], _ => rfl
  have F1 := fun_mk (st := (tp 5)) l1 c1 k1
  have b1 := F1.binds (ps := ["script", "k"]) fun _ _ _ _ _ _ us hl => match us, hl with | [_, _], _ => rfl
  have F2 := fun_mk (st := (tp 6)) l2 c2 k2
  have b2 := F2.binds (ps := ["actual"]) fun _ _ _ _ _ _ us hl => match us, hl with | [_], _ => rfl
  have F3 := fun_mk (st := (tp 7)) l3 c3 k3
  have b3 := F3.binds (ps := ["a", "b"]) fun _ _ _ _ _ _ us hl => match us, hl with | [_, _], _ => rfl
  have F4 := fun_mk (st := (tp 10)) l4 c4 k4
  have b4 := F4.binds (ps := ["x", "y"]) fun _ _ _ _ _ _ us hl => match us, hl with | [_, _], _ => rfl
  have F5 := fun_mk (st := (tp 13)) l5 c5 k5
  have b5 := F5.binds (ps := ["p", "a"]) fun _ _ _ _ _ _ us hl => match us, hl with | [_, _], _ => rfl
  have F6 := fun_mk (st := (tp 3)) l6 c6 k6
  have b6 := F6.binds (ps := ["p", "x"]) fun _ _ _ _ _ _ us hl => match us, hl with | [_, _], _ => rfl
  have F7 := fun_mk (st := (tp 8)) l7 c7 k7
  have b7 := F7.binds (ps := ["x", "y"]) fun _ _ _ _ _ _ us hl => match us, hl with | [_, _], _ => rfl
  have F8 := fun_mk (st := (tp 9)) l8 c8 k8
  have b8 := F8.binds (ps := ["x", "y"]) fun _ _ _ _ _ _ us hl => match us, hl with | [_, _], _ => rfl
  have F9 := fun_mk (st := (tp 12)) l9 c9 k9
  have b9 := F9.binds (ps := ["values"]) fun _ _ _ _ _ _ us hl => match us, hl with | [_], _ => rfl
  have F10 := fun_mk (st := (tp 14)) l10 c10 k10
  have b10 := F10.binds (ps := ["p", "x"]) fun _ _ _ _ _ _ us hl => match us, hl with | [_, _], _ => rfl
  have F11 := fun_mk (st := (tp 11)) l11 c11 k11
  have b11 := F11.binds (ps := ["x", "y"]) fun _ _ _ _ _ _ us hl => match us, hl with | [_, _], _ => rfl
  have F12 := fun_mk (st := (tp 15)) l12 c12 k12
  have b12 := F12.binds (ps := ["x", "k"]) fun _ _ _ _ _ _ us hl => match us, hl with | [_, _], _ => rfl
  have F13 := fun_mk (st := (tp 16)) l13 c13 k13
  have b13 := F13.binds (ps := ["p", "k"]) fun _ _ _ _ _ _ us hl => match us, hl with | [_, _], _ => rfl
  have F14 := fun_mk (st := (tp 17)) l14 c14 k14
  have b14 := F14.binds (ps := ["script"]) fun _ _ _ _ _ _ us hl => match us, hl with | [_], _ => rfl
  refine ⟨PySem.W.fnOf "law" "law" (defArgs (tp 17)) (defBody (tp 17)) (defScope (tp 17)) .none kV14 dc14 pm14 an14 cd14 ct14, fun s v => .of_eq rfl, fun base _ _ => ?_⟩
  have q_divisions := cal_divisions (P := l.prog) (w := w) (base := base) T F0 (PySem.W.mg_of X G a0) b0 
  have q__law_cell := cal__law_cell (P := l.prog) (w := w) (base := base) T F1 (PySem.W.mg_of X G a1) b1 
  have q__law_is_integer := cal__law_is_integer (P := l.prog) (w := w) (base := base) T F2 (PySem.W.mg_of X G a2) b2 
  have q__law_frac := cal__law_frac (P := l.prog) (w := w) (base := base) T F3 (PySem.W.mg_of X G a3) b3 
  have q__law_below := cal__law_below (P := l.prog) (w := w) (base := base) T F4 (PySem.W.mg_of X G a4) b4 
  have q__law_divided := cal__law_divided (P := l.prog) (w := w) (base := base) T F5 (PySem.W.mg_of X G a5) b5 
  have q_valuation := cal_valuation (P := l.prog) (w := w) (base := base) T F6 (PySem.W.mg_of X G a6) b6 q_divisions
  have q__law_plus := cal__law_plus (P := l.prog) (w := w) (base := base) T F7 (PySem.W.mg_of X G a7) b7 q__law_frac
  have q__law_times := cal__law_times (P := l.prog) (w := w) (base := base) T F8 (PySem.W.mg_of X G a8) b8 q__law_frac
  have q__law_least := cal__law_least (P := l.prog) (w := w) (base := base) T F9 (PySem.W.mg_of X G a9) b9 q__law_below
  have q__law_val := cal__law_val (P := l.prog) (w := w) (base := base) T F10 (PySem.W.mg_of X G a10) b10 q__law_divided
  have q__law_added := cal__law_added (P := l.prog) (w := w) (base := base) T F11 (PySem.W.mg_of X G a11) b11 q__law_plus
  have q__law_to_power := cal__law_to_power (P := l.prog) (w := w) (base := base) T F12 (PySem.W.mg_of X G a12) b12 q__law_times
  have q__law_prime := cal__law_prime (P := l.prog) (w := w) (base := base) T F13 (PySem.W.mg_of X G a13) b13 q__law_to_power
  refine fnV F14 sc_law 14 rfl (W := [1, 2, 3, 4, 5, 6, 7, 8, 9, 10, 11, 12, 13]) fun cdv A outer s H E hr => ?_
  exact bv_W (bv_cons (sv_set (i := 1) sc_law.nd rfl (by first | exact .inl rfl | exact .inr rfl) (ev_callB call_abs on_abs (by rfl) T.b_abs (by decide +kernel) (av_cons (ev_def q__law_cell (hr.mono (by decide)) (by rfl) (av_cons (ev_name (pv 0)) (av_cons ev_int av_nil))) av_nil))) (bv_cons (sv_set (i := 2) sc_law.nd rfl (by first | exact .inl rfl | exact .inr rfl) (ev_callB call_abs on_abs (by rfl) T.b_abs (by decide +kernel) (av_cons (ev_def q__law_cell (hr.mono (by decide)) (by rfl) (av_cons (ev_name (pv 0)) (av_cons ev_int av_nil))) av_nil))) (bv_cons (sv_set (i := 3) sc_law.nd rfl (by first | exact .inl rfl | exact .inr rfl) (ev_own (ev_sub (ev_lst (av_cons ev_int (av_cons ev_int (av_cons ev_int (av_cons ev_int (av_cons ev_int (av_cons ev_int (av_cons ev_int (av_cons ev_int av_nil))))))))) (ev_bin op_modN o2_mod (ev_callTy call_int1 on_int (by rfl) T.b_int (by decide +kernel) (av_cons (ev_look (pv 1)) av_nil)) ev_int) (fun _ _ => rfl)))) (bv_cons (sv_set (i := 4) sc_law.nd rfl (by first | exact .inl rfl | exact .inr rfl) (ev_lst av_nil)) (bv_cons (sv_for (FB := L_law_1) PySem.PassesOwn.never rfl (iv_seq (ev_tup (av_cons (ev_bin op_fdivX o2_div (ev_look (pv 1)) ev_int) (av_cons (ev_name (pv 2)) (av_cons (ev_bin opr_add o2_add (ev_bin op_fdivX o2_div (ev_look (pv 1)) ev_int) (ev_look (pv 2))) (av_cons (ev_bin opr_add o2_add (ev_bin op_mulZ o2_mul (ev_look (pv 2)) ev_int) (ev_look (pv 1))) av_nil)))))) (gv_name sc_law.nd rfl (by first | exact .inl rfl | exact .inr rfl)) (bv_cons (sv_set (i := 6) sc_law.nd rfl (by first | exact .inl rfl | exact .inr rfl) (ev_bin op_sub o2_sub (ev_bin op_modN o2_mod (ev_callTy call_int1 on_int (by rfl) T.b_int (by decide +kernel) (av_cons (ev_look (pv 5)) av_nil)) ev_int) ev_int)) (bv_cons (sv_set (i := 7) sc_law.nd rfl (by first | exact .inl rfl | exact .inr rfl) (ev_bin opr_add o2_add ev_int (ev_bin op_modN o2_mod (ev_bin op_fdivX o2_div (ev_look (pv 5)) ev_int) ev_int))) (bv_one (sv_expr (ev_mt PySem.F.slot_list_append PySem.F.type_list_append mt_append mut_append (pv 4) (av_cons (ev_def q__law_times (hr.mono (by decide)) (by rfl) (av_cons (ev_def q__law_frac (hr.mono (by decide)) (by rfl) (av_cons (ev_name (pv 6)) (av_cons (ev_name (pv 7)) av_nil))) (av_cons (ev_def q__law_prime (hr.mono (by decide)) (by rfl) (av_cons (ev_name (pv 3)) (av_cons (ev_bin op_sub o2_sub (ev_bin op_modN o2_mod (ev_bin op_fdivX o2_div (ev_look (pv 5)) ev_int) ev_int) ev_int) av_nil))) av_nil))) av_nil))))))) (bv_cons (sv_expr (ev_mt PySem.F.slot_list_append PySem.F.type_list_append mt_append mut_append (pv 4) (av_cons (ev_def q__law_frac (hr.mono (by decide)) (by rfl) (av_cons (ev_bin op_sub o2_sub (ev_bin op_modN o2_mod (ev_callTy call_int1 on_int (by rfl) T.b_int (by decide +kernel) (av_cons (ev_look (pv 1)) av_nil)) (ev_bin op_pow o2_pow ev_int ev_int)) (ev_bin op_pow o2_pow ev_int ev_int)) (av_cons (ev_bin opr_add o2_add ev_int (ev_bin op_modN o2_mod (ev_callTy call_int1 on_int (by rfl) T.b_int (by decide +kernel) (av_cons (ev_look (pv 2)) av_nil)) (ev_bin op_pow o2_pow ev_int ev_int))) av_nil))) av_nil))) (bv_cons (sv_expr (ev_mt PySem.F.slot_list_append PySem.F.type_list_append mt_append mut_append (pv 4) (av_cons (ev_tup (av_cons ev_int (av_cons ev_int av_nil))) av_nil))) (bv_cons (sv_for (FB := L_law_5) PySem.PassesOwn.never rfl (iv_seq (ev_share (pv 4))) (gv_name sc_law.nd rfl (by first | exact .inl rfl | exact .inr rfl)) (bv_cons (sv_set (i := 9) sc_law.nd rfl (by first | exact .inl rfl | exact .inr rfl) (ev_def q_valuation (hr.mono (by decide)) (by rfl) (av_cons (ev_name (pv 3)) (av_cons (ev_name (pv 8)) av_nil)))) (bv_cons (sv_if (tv_w (wv_or (tv_not (tv_tru (ev_callB call_isi on_isi (by rfl) T.b_isinstance (by decide +kernel) (av_cons (ev_look (pv 9)) (av_cons (ev_ty (by rfl) T.b_tuple (by decide +kernel)) av_nil))))) (wv_or (tv_cmp (op_neD hr.units) o2_ne (ev_look (pv 9)) (ev_def q__law_val (hr.mono (by decide)) (by rfl) (av_cons (ev_name (pv 3)) (av_cons (ev_name (pv 8)) av_nil))) (nomark _)) (wv_or1 (tv_cmp (op_neD hr.units) o2_ne (ev_lc (own := [("k", 14)]) rfl sc_law.nd (iv_seq (ev_name (pv 9))) (blkOk_by (N := ["script", "one", "two", "p", "rows", "cell", "a", "b", "x", "told", "y", "mine", "whole", "lesser", "k"]) (sc := defScope (tp 17)) (by decide +kernel)) (fun _ _ _ _ _ => (gv_name sc_law.nd rfl (by first | exact .inl rfl | exact .inr rfl))) (fun _ _ _ _ _ => (cv_one (tv_not (tv_tru (ev_def q__law_is_integer (hr.mono (by decide)) (by rfl) (av_cons (ev_name (pv 14)) av_nil)))))) (fun _ _ _ _ _ => (ev_name (pv 14))) (by decide)) (ev_lst av_nil) (nomark _)))))) (bv_one (sv_ret ev_bl)) bv_nil) (bv_one (sv_for (FB := L_law_4) PySem.PassesOwn.never rfl (iv_seq (ev_share (pv 4))) (gv_name sc_law.nd rfl (by first | exact .inl rfl | exact .inr rfl)) (bv_cons (sv_set (i := 11) sc_law.nd rfl (by first | exact .inl rfl | exact .inr rfl) (ev_def q__law_val (hr.mono (by decide)) (by rfl) (av_cons (ev_name (pv 3)) (av_cons (ev_name (pv 10)) av_nil)))) (bv_cons (sv_if (tv_cmp (op_neD hr.units) o2_ne (ev_def q_valuation (hr.mono (by decide)) (by rfl) (av_cons (ev_name (pv 3)) (av_cons (ev_def q__law_times (hr.mono (by decide)) (by rfl) (av_cons (ev_name (pv 8)) (av_cons (ev_name (pv 10)) av_nil))) av_nil))) (ev_def q__law_added (hr.mono (by decide)) (by rfl) (av_cons (ev_name (pv 9)) (av_cons (ev_name (pv 11)) av_nil))) (nomark _)) (bv_one (sv_ret ev_bl)) bv_nil) (bv_cons (sv_set (i := 12) sc_law.nd rfl (by first | exact .inl rfl | exact .inr rfl) (ev_def q_valuation (hr.mono (by decide)) (by rfl) (av_cons (ev_name (pv 3)) (av_cons (ev_def q__law_plus (hr.mono (by decide)) (by rfl) (av_cons (ev_name (pv 8)) (av_cons (ev_name (pv 10)) av_nil))) av_nil)))) (bv_cons (sv_set (i := 13) sc_law.nd rfl (by first | exact .inl rfl | exact .inr rfl) (ev_def q__law_least (hr.mono (by decide)) (by rfl) (av_cons (ev_lst (av_cons (ev_name (pv 9)) (av_cons (ev_name (pv 11)) av_nil))) av_nil))) (bv_one (sv_if (tv_w (wv_or (tv_tru (ev_def q__law_below (hr.mono (by decide)) (by rfl) (av_cons (ev_name (pv 12)) (av_cons (ev_name (pv 13)) av_nil)))) (wv_or1 (tv_w (wv_and (tv_cmp (op_neD hr.units) o2_ne (ev_look (pv 9)) (ev_look (pv 11)) (nomark _)) (wv_and1 (tv_cmp (op_neD hr.units) o2_ne (ev_look (pv 12)) (ev_look (pv 13)) (nomark _)))))))) (bv_one (sv_ret ev_bl)) bv_nil))))))))))) (bv_one (sv_ret ev_bl)))))))))) (by decide)
theorem walk {l : PySem.W.OpenLaw} {q : Program} {loose : List Str} {XP : (Str → Option Value) → Heap → Prop} {YP : World → Heap → Prop} {d : DefRec} {K : Params → PySem.W.Frag} (hn : l.most = some 63) (hdf : d.params.defaults = [])
    (hY : ∀ (w : World) (h : Heap), YP w h → (K w.params).In h)
    (F : ∀ (w : World) (mg : Str → Option Value) (fa : Addr) (h : Heap), (K w.params).In h → h.Ns mainGlobals mg → mg d.name = some (.ref fa) →
      ∃ fd : FuncData, (∀ (s : Shared) (u : Value), BindsTo s fd ⟨[u], []⟩ [("script", u)]) ∧ ∀ base : Heap, (K w.params).In base → base.Ns mainGlobals mg → FnOk l.prog w (K w.params) mg base CX0 5 fa fd ["script"] (spF (K w.params) 1 F_law))
    (law : ∀ ns : List Int, ns.length ≤ 63 → (∀ z ∈ ns, Builtin.Int.intBits z ≤ 1048576) → ∃ env, F_law [.scr ns] = some (.bl true, env)) :
    PySem.W.WalkO q loose XP YP l.row.toRowW d [] (fun f vs => PySem.call f vs) :=
  L2.walk_ofB (n := 63) (k := 5) (x := "script") (CX := fun _ => CX0) (sp := fun w => spF (K w.params) 1 F_law) hn (by decide) hdf ⟨rfl, by decide, by decide⟩ hY F (fun _ _ a ns hl hb _ hS => (law ns hl hb).elim fun _ h => law_end hS h) fun _ _ _ _ _ z => z
end
end G40


set_option Elab.async false
set_option maxRecDepth 100000
open PySem PySem.W PyProof.Rows in
set_option maxRecDepth 100000 in
set_option maxHeartbeats 0 in
theorem PySem.Challenge.cw_leastplus_k40_valuations_holds : PySem.Challenge.rw_leastplus_k40_valuations.Holds := by
  w_on; o_law; k_head; (case hw => w_witness2)
  k_fill
  refine G40.walk (l := PySem.Challenge.rw_leastplus_k40_valuations) rfl rfl (fun w h Y => PySem.W.kIn_of Y) ?F (fun ns _ _ => G40.law_ok ns)
  case F =>
    intro w mg fa h KX G hmg
    refine' G40.law_of KX G hmg ?a0 ?l0 ?c0 ?k0 ?a1 ?l1 ?c1 ?k1 ?a2 ?l2 ?c2 ?k2 ?a3 ?l3 ?c3 ?k3 ?a4 ?l4 ?c4 ?k4 ?a5 ?l5 ?c5 ?k5 ?a6 ?l6 ?c6 ?k6 ?a7 ?l7 ?c7 ?k7 ?a8 ?l8 ?c8 ?k8 ?a9 ?l9 ?c9 ?k9 ?a10 ?l10 ?c10 ?k10 ?a11 ?l11 ?c11 ?k11 ?a12 ?l12 ?c12 ?k12 ?a13 ?l13 ?c13 ?k13 ?a14 ?l14 ?c14 ?k14 ?z_abs ?z_bool ?z_int ?z_isinstance ?z_len ?z_range ?z_tuple ?ya_INFINITE ?yl_INFINITE
    (case a0 => k_is)
    (case l0 => k_is)
    (case c0 => k_is)
    (case k0 => k_is)
    (case a1 => k_is)
    (case l1 => k_is)
    (case c1 => k_is)
    (case k1 => k_is)
    (case a2 => k_is)
    (case l2 => k_is)
    (case c2 => k_is)
    (case k2 => k_is)
    (case a3 => k_is)
    (case l3 => k_is)
    (case c3 => k_is)
    (case k3 => k_is)
    (case a4 => k_is)
    (case l4 => k_is)
    (case c4 => k_is)
    (case k4 => k_is)
    (case a5 => k_is)
    (case l5 => k_is)
    (case c5 => k_is)
    (case k5 => k_is)
    (case a6 => k_is)
    (case l6 => k_is)
    (case c6 => k_is)
    (case k6 => k_is)
    (case a7 => k_is)
    (case l7 => k_is)
    (case c7 => k_is)
    (case k7 => k_is)
    (case a8 => k_is)
    (case l8 => k_is)
    (case c8 => k_is)
    (case k8 => k_is)
    (case a9 => k_is)
    (case l9 => k_is)
    (case c9 => k_is)
    (case k9 => k_is)
    (case a10 => k_is)
    (case l10 => k_is)
    (case c10 => k_is)
    (case k10 => k_is)
    (case a11 => k_is)
    (case l11 => k_is)
    (case c11 => k_is)
    (case k11 => k_is)
    (case a12 => k_is)
    (case l12 => k_is)
    (case c12 => k_is)
    (case k12 => k_is)
    (case a13 => k_is)
    (case l13 => k_is)
    (case c13 => k_is)
    (case k13 => k_is)
    (case a14 => k_is)
    (case l14 => k_is)
    (case c14 => k_is)
    (case k14 => k_is)
    (case z_abs => k_is)
    (case z_bool => k_is)
    (case z_int => k_is)
    (case z_isinstance => k_is)
    (case z_len => k_is)
    (case z_range => k_is)
    (case z_tuple => k_is)
    (case ya_INFINITE => k_is)
    (case yl_INFINITE => k_is)
