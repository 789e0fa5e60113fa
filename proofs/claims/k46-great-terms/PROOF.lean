import PyProof.Rows.All
import Wide.All
import OpenK.AllK
import Wide.FinOn
import HandS.ForMost
import HandS.TupAny
import HandS.Deep
import HandS.Wide
import HandS.WideMore
import HandS.IsInst
import HandS.CallLocal
import HandS.Zip
import HandS.EndBits
import HandS.WideBits
import HandS.Flow
import HandS.Walk
import HandS.TupSets
import HandS.SortOrd
import HandS.SortRule
import KE.KDictCopyH
import HandS.SortInts
import HandS.TupMul
import PySem.Challenge.RW_leastplus_k46_great_terms
set_option Elab.async false
set_option linter.all false
set_option maxRecDepth 100000
set_option maxHeartbeats 1000000
namespace Pz
open PySem L2

/-- a Python value, by value. A list that is `true` is owned by the one who holds it: it may be changed -/
inductive D where
  | non | bl (b : Bool) | int (i : Int) | str (x : Str) | raw (v : V)
  | scr (ns : List Int)
  | tup (xs : List D) | lst (o : Bool) (xs : List D) | dct (o : Bool) (ks : List (List Int)) (vs : List D)

mutual
def D.pure : D → Bool
  | .tup xs => D.pures xs
  | .lst o xs => !o && D.pures xs
  | .dct o _ vs => !o && D.pures vs
  | .non | .bl _ | .int _ | .str _ | .raw _ | .scr _ => true
def D.pures : List D → Bool
  | [] => true
  | x :: xs => x.pure && D.pures xs
end
mutual
def D.fz : D → D
  | .tup xs => .tup (D.fzs xs)
  | .lst _ xs => .lst false (D.fzs xs)
  | .dct _ ks vs => .dct false ks (D.fzs vs)
  | .non => .non | .bl b => .bl b | .int i => .int i | .str x => .str x | .raw v => .raw v | .scr ns => .scr ns
def D.fzs : List D → List D
  | [] => []
  | x :: xs => x.fz :: D.fzs xs
end

theorem D.pures_all : ∀ xs : List D, D.pures xs = xs.all D.pure
  | [] => rfl
  | x :: xs => by simp [D.pures, D.pures_all xs]
theorem D.fzs_map : ∀ xs : List D, D.fzs xs = xs.map D.fz
  | [] => rfl
  | x :: xs => by simp [D.fzs, D.fzs_map xs]

/-- an entry of a dict whose keys are tuples of ints -/
def entI (x : List Int × Addr × Value) : DictEntry := ⟨reduceHash (Builtin.Tuple.tupleHashOf (x.1.map hashInt)), .ref x.2.1, x.2.2⟩
abbrev PrR : List (List Int × Addr × V) → List (List Int × Addr × Value) → Prop := Paired fun p q => p.1 = q.1 ∧ p.2.1 = q.2.1 ∧ RelV p.2.2 q.2.2
/-- a dict whose keys are tuples of ints, wherever these stand -/
def kvO (a : Addr) (kvs : List (List Int × Addr × V)) : HO := .ext fun h => kvs.length ≤ sizeLine ∧ (a == sysModules) = false ∧ ∃ xs : List (List Int × Addr × Value), PrR kvs xs ∧
  ∃ o es ep, h.get? a = some o ∧ o.ExactDict ∧ o.data = .dict es ep ∧ es.toList = xs.map entI ∧ (xs.map (·.1)).Nodup

section
variable (K : PySem.W.Frag)
mutual
/-- d lies as the value v: G what stays for ever, H the heap, L the lists that are owned within d -/
inductive Rp (G H : Hp) : D → V → List Addr → Prop
  | non : Rp G H .non .non []
  | bl (b : Bool) : Rp G H (.bl b) (.bl b) []
  | int (i : Int) : Rp G H (.int i) (.int i) []
  | str (x : Str) : Rp G H (.str x) (.str x) []
  | raw (v : V) : Rp G H (.raw v) v []
  | scr {a : Addr} {ns : List Int} (h : SqL K G a (ns.map V.int)) : Rp G H (.scr ns) (.ref a) []
  | tup {a : Addr} {vs : List V} {ds : List D} {L : List Addr} (h : SqT K G a vs) (hs : Rps G H ds vs L) : Rp G H (.tup ds) (.ref a) L
  | lstF {a : Addr} {vs : List V} {ds : List D} (h : G a = some (.lst vs)) (hs : Rps G H ds vs []) : Rp G H (.lst false ds) (.ref a) []
  | lstO {a : Addr} {vs : List V} {ds : List D} {L : List Addr} (n : G a = none) (h : H a = some (.lst vs)) (hs : Rps G H ds vs L) : Rp G H (.lst true ds) (.ref a) (a :: L)
  | dctF {a : Addr} {kvs : List (List Int × Addr × V)} {ks : List (List Int)} {ds : List D} (h : G a = some (kvO a kvs)) (ek : kvs.map (·.1) = ks) (hk : ∀ x ∈ kvs, SqT K G x.2.1 (x.1.map V.int)) (hs : Rps G H ds (kvs.map (·.2.2)) []) : Rp G H (.dct false ks ds) (.ref a) []
  | dctO {a : Addr} {kvs : List (List Int × Addr × V)} {ks : List (List Int)} {ds : List D} (n : G a = none) (h : H a = some (kvO a kvs)) (ek : kvs.map (·.1) = ks) (hk : ∀ x ∈ kvs, SqT K G x.2.1 (x.1.map V.int)) (hs : Rps G H ds (kvs.map (·.2.2)) []) : Rp G H (.dct true ks ds) (.ref a) [a]
inductive Rps (G H : Hp) : List D → List V → List Addr → Prop
  | nil : Rps G H [] [] []
  | cons {d : D} {v : V} {ds : List D} {vs : List V} {L1 L2 : List Addr} (h : Rp G H d v L1) (hs : Rps G H ds vs L2) : Rps G H (d :: ds) (v :: vs) (L1 ++ L2)
end
end

/-- G is part of H -/
def Le (G H : Hp) : Prop := ∀ a o, G a = some o → H a = some o
theorem Le.refl (G : Hp) : Le G G := fun _ _ h => h
theorem Le.trans {G H I : Hp} (a : Le G H) (b : Le H I) : Le G I := fun c o h => b c o (a c o h)
theorem Le.sqL {K : PySem.W.Frag} {G H : Hp} (l : Le G H) {a : Addr} {xs : List V} (h : SqL K G a xs) : SqL K H a xs := Same.seq l h
theorem Le.sqT {K : PySem.W.Frag} {G H : Hp} (e : Le G H) {a : Addr} {xs : List V} (h : SqT K G a xs) : SqT K H a xs := by
  rcases h with (h | ⟨o, h⟩) | h
  · exact .inl (.inl (e _ _ h))
  · exact .inl (.inr ⟨o, e _ _ h⟩)
  · exact .inr h
theorem Le.none {G H : Hp} (e : Le G H) {l : Addr} (h : H l = none) : G l = none := by
  cases q : G l with
  | none => rfl
  | some o => rw [e l o q] at h; cases h

section
variable {K : PySem.W.Frag} {G H G' H' : Hp}
mutual
theorem Rp.mono : ∀ {d : D} {v : V} {L : List Addr}, Rp K G H d v L → Le G G' → (∀ a ∈ L, G' a = none ∧ H' a = H a) → Rp K G' H' d v L
  | _, _, _, .non, _, _ => .non
  | _, _, _, .bl b, _, _ => .bl b
  | _, _, _, .int i, _, _ => .int i
  | _, _, _, .str x, _, _ => .str x
  | _, _, _, .raw v, _, _ => .raw v
  | _, _, _, .scr h, l, _ => .scr (l.sqL h)
  | _, _, _, .tup h hs, l, k => .tup (l.sqT h) (Rps.mono hs l k)
  | _, _, _, .lstF h hs, l, _ => .lstF (l _ _ h) (Rps.mono hs l fun _ z => nomatch z)
  | _, _, _, .lstO n h hs, l, k => .lstO (k _ (List.mem_cons_self ..)).1 ((k _ (List.mem_cons_self ..)).2.trans h) (Rps.mono hs l fun a z => k a (List.mem_cons_of_mem _ z))
  | _, _, _, .dctF h ek hk hs, l, _ => .dctF (l _ _ h) ek (fun x hx => l.sqT (hk x hx)) (Rps.mono hs l fun _ z => nomatch z)
  | _, _, _, .dctO n h ek hk hs, l, k => .dctO (k _ (List.mem_cons_self ..)).1 ((k _ (List.mem_cons_self ..)).2.trans h) ek (fun x hx => l.sqT (hk x hx)) (Rps.mono hs l fun _ z => nomatch z)
theorem Rps.mono : ∀ {ds : List D} {vs : List V} {L : List Addr}, Rps K G H ds vs L → Le G G' → (∀ a ∈ L, G' a = none ∧ H' a = H a) → Rps K G' H' ds vs L
  | _, _, _, .nil, _, _ => .nil
  | _, _, _, .cons h hs, l, k => .cons (Rp.mono h l fun a z => k a (List.mem_append_left _ z)) (Rps.mono hs l fun a z => k a (List.mem_append_right _ z))
end
mutual
theorem Rp.pure_nil : ∀ {d : D} {v : V} {L : List Addr}, Rp K G H d v L → d.pure = true → L = []
  | _, _, _, .non, _ => rfl
  | _, _, _, .bl b, _ => rfl
  | _, _, _, .int i, _ => rfl
  | _, _, _, .str x, _ => rfl
  | _, _, _, .raw v, _ => rfl
  | _, _, _, .scr h, _ => rfl
  | _, _, _, .tup h hs, p => Rps.pure_nil hs (by simpa [D.pure] using p)
  | _, _, _, .lstF h hs, p => rfl
  | _, _, _, .lstO n h hs, p => by simp [D.pure] at p
  | _, _, _, .dctF _ _ _ _, p => rfl
  | _, _, _, .dctO _ _ _ _ _, p => by simp [D.pure] at p
theorem Rps.pure_nil : ∀ {ds : List D} {vs : List V} {L : List Addr}, Rps K G H ds vs L → D.pures ds = true → L = []
  | _, _, _, .nil, _ => rfl
  | _, _, _, .cons h hs, p => by
    simp only [D.pures, Bool.and_eq_true] at p
    rw [Rp.pure_nil h p.1, Rps.pure_nil hs p.2]; rfl
end
mutual
theorem Rp.own : ∀ {d : D} {v : V} {L : List Addr}, Rp K G H d v L → ∀ a ∈ L, G a = none ∧ H a ≠ none
  | _, _, _, .non, _, z => nomatch z
  | _, _, _, .bl b, _, z => nomatch z
  | _, _, _, .int i, _, z => nomatch z
  | _, _, _, .str x, _, z => nomatch z
  | _, _, _, .raw v, _, z => nomatch z
  | _, _, _, .scr _, _, z => nomatch z
  | _, _, _, .tup h hs, a, z => Rps.own hs a z
  | _, _, _, .lstF h hs, _, z => nomatch z
  | _, _, _, .lstO n h hs, a, z => by
    rcases List.mem_cons.mp z with e | e
    · subst e; exact ⟨n, by rw [h]; simp⟩
    · exact Rps.own hs a e
  | _, _, _, .dctF _ _ _ _, _, z => nomatch z
  | _, _, _, .dctO n h _ _ _, a, z => by
    obtain rfl := List.mem_singleton.mp z
    exact ⟨n, by rw [h]; simp⟩
theorem Rps.own : ∀ {ds : List D} {vs : List V} {L : List Addr}, Rps K G H ds vs L → ∀ a ∈ L, G a = none ∧ H a ≠ none
  | _, _, _, .nil, _, z => nomatch z
  | _, _, _, .cons h hs, a, z => (List.mem_append.mp z).elim (Rp.own h a) (Rps.own hs a)
end
mutual
theorem Rp.fz : ∀ {d : D} {v : V} {L : List Addr}, Rp K G H d v L → Le G G' → (∀ a ∈ L, G' a = H a) → Rp K G' H' d.fz v []
  | _, _, _, .non, _, _ => .non
  | _, _, _, .bl b, _, _ => .bl b
  | _, _, _, .int i, _, _ => .int i
  | _, _, _, .str x, _, _ => .str x
  | _, _, _, .raw v, _, _ => .raw v
  | _, _, _, .scr h, l, _ => .scr (l.sqL h)
  | _, _, _, .tup h hs, l, k => .tup (l.sqT h) (Rps.fz hs l k)
  | _, _, _, .lstF h hs, l, _ => .lstF (l _ _ h) (Rps.fz hs l fun _ z => nomatch z)
  | _, _, _, .lstO n h hs, l, k => .lstF ((k _ (List.mem_cons_self ..)).trans h) (Rps.fz hs l fun a z => k a (List.mem_cons_of_mem _ z))
  | _, _, _, .dctF h ek hk hs, l, _ => .dctF (l _ _ h) ek (fun x hx => l.sqT (hk x hx)) (Rps.fz hs l fun _ z => nomatch z)
  | _, _, _, .dctO n h ek hk hs, l, k => .dctF ((k _ (List.mem_cons_self ..)).trans h) ek (fun x hx => l.sqT (hk x hx)) (Rps.fz hs l fun _ z => nomatch z)
theorem Rps.fz : ∀ {ds : List D} {vs : List V} {L : List Addr}, Rps K G H ds vs L → Le G G' → (∀ a ∈ L, G' a = H a) → Rps K G' H' (D.fzs ds) vs []
  | _, _, _, .nil, _, _ => .nil
  | _, _, _, .cons h hs, l, k => .cons (L1 := []) (L2 := []) (Rp.fz h l fun a z => k a (List.mem_append_left _ z)) (Rps.fz hs l fun a z => k a (List.mem_append_right _ z))
end
theorem Rps.length : ∀ {ds : List D} {vs : List V} {L : List Addr}, Rps K G H ds vs L → ds.length = vs.length
  | _, _, _, .nil => rfl
  | _, _, _, .cons h hs => by simp [Rps.length hs]
theorem Rps.get : ∀ {ds : List D} {vs : List V} {L : List Addr} {i : Nat} {d : D}, Rps K G H ds vs L → ds[i]? = some d → ∃ v L1, vs[i]? = some v ∧ Rp K G H d v L1 ∧ L1.Sublist L
  | _, _, _, _, _, .nil, e => by simp at e
  | _, _, _, 0, _, .cons h hs, e => by
    simp at e; subst e
    exact ⟨_, _, rfl, h, List.sublist_append_left _ _⟩
  | _, _, _, i + 1, _, .cons h hs, e => by
    obtain ⟨v, L1, e1, r, s⟩ := Rps.get (i := i) hs (by simpa using e)
    exact ⟨v, L1, by simpa using e1, r, s.trans (List.sublist_append_right _ _)⟩
theorem Rps.getV : ∀ {ds : List D} {vs : List V} {L : List Addr} {i : Nat} {v : V}, Rps K G H ds vs L → vs[i]? = some v → ∃ d L1, ds[i]? = some d ∧ Rp K G H d v L1 ∧ L1.Sublist L
  | _, _, _, _, _, .nil, e => by simp at e
  | _, _, _, 0, _, .cons h hs, e => by
    simp at e; subst e
    exact ⟨_, _, rfl, h, List.sublist_append_left _ _⟩
  | _, _, _, i + 1, _, .cons h hs, e => by
    obtain ⟨v, L1, e1, r, s⟩ := Rps.getV (i := i) hs (by simpa using e)
    exact ⟨v, L1, by simpa using e1, r, s.trans (List.sublist_append_right _ _)⟩
theorem Rps.append : ∀ {ds ds' : List D} {vs vs' : List V} {L L' : List Addr}, Rps K G H ds vs L → Rps K G H ds' vs' L' → Rps K G H (ds ++ ds') (vs ++ vs') (L ++ L')
  | _, _, _, _, _, _, .nil, s => s
  | _, _, _, _, _, _, .cons h hs, s => by
    rw [List.append_assoc]; exact .cons h (Rps.append hs s)
/-- nothing owned: item by item -/
abbrev Rp0 (K : PySem.W.Frag) (G : Hp) (d : D) (v : V) : Prop := Rp K G G d v []
abbrev Rps0 (K : PySem.W.Frag) (G : Hp) (ds : List D) (vs : List V) : Prop := Rps K G G ds vs []
theorem Rp.un (h : Rp K G H d v []) : Rp K G H' d v [] := h.mono (Le.refl _) fun _ z => nomatch z
theorem Rps.un (h : Rps K G H ds vs []) : Rps K G H' ds vs [] := h.mono (Le.refl _) fun _ z => nomatch z
theorem Rps.take : ∀ {ds : List D} {vs : List V} (n : Nat), Rps K G H ds vs [] → Rps K G H (ds.take n) (vs.take n) []
  | _, _, 0, _ => by simpa using Rps.nil
  | [], _, n + 1, h => by cases h; exact .nil
  | d :: ds, _, n + 1, h => by
    generalize e : ([] : List Addr) = L at h
    cases h with
    | @cons d v ds vs L1 L2 h hs =>
      obtain ⟨rfl, rfl⟩ := List.append_eq_nil_iff.mp e.symm
      exact .cons (L1 := []) (L2 := []) h (Rps.take n hs)
theorem Rps.drop : ∀ {ds : List D} {vs : List V} (n : Nat), Rps K G H ds vs [] → Rps K G H (ds.drop n) (vs.drop n) []
  | _, _, 0, h => by simpa using h
  | [], _, n + 1, h => by cases h; exact .nil
  | d :: ds, _, n + 1, h => by
    generalize e : ([] : List Addr) = L at h
    cases h with
    | @cons d v ds vs L1 L2 h hs =>
      obtain ⟨rfl, rfl⟩ := List.append_eq_nil_iff.mp e.symm
      simpa using Rps.drop n hs
end

/-- one item owned L1 among those of L is replaced: what remains -/
theorem Rps.set {K : PySem.W.Frag} {G H : Hp} : ∀ {ds : List D} {vs : List V} {L : List Addr} {i : Nat} {d : D}, Rps K G H ds vs L → ds[i]? = some d →
    ∃ v La L1 Lb, L = La ++ L1 ++ Lb ∧ vs[i]? = some v ∧ Rp K G H d v L1 ∧ ∀ {G' H' : Hp} {d' : D} {v' : V} {L1' : List Addr}, Le G G' → (∀ a ∈ La ++ Lb, G' a = none ∧ H' a = H a) → Rp K G' H' d' v' L1' → Rps K G' H' (ds.set i d') (vs.set i v') (La ++ L1' ++ Lb)
  | _, _, _, _, _, .nil, e => by simp at e
  | _, _, _, 0, _, .cons (L1 := L1) (L2 := L2) h hs, e => by
    simp at e; subst e
    refine ⟨_, [], L1, L2, rfl, rfl, h, fun l k r => ?_⟩
    exact .cons r (hs.mono l fun a z => k a (by simpa using z))
  | _, _, _, i + 1, _, .cons (L1 := L0) (L2 := L2) h hs, e => by
    obtain ⟨v, La, L1, Lb, e0, e1, r, f⟩ := Rps.set (i := i) hs (by simpa using e)
    refine ⟨v, L0 ++ La, L1, Lb, by rw [e0]; simp, by simpa using e1, r, fun l k r' => ?_⟩
    have q := Rps.cons (h.mono l fun a z => k a (by simp [z])) (f l (fun a z => k a (by rcases List.mem_append.mp z with z | z <;> simp [z])) r')
    simpa using q

/-! ### slots -/
abbrev En := List (Option D)
section
variable (K : PySem.W.Frag)
inductive REnv (G H : Hp) : En → St → List Addr → Prop
  | nil : REnv G H [] [] []
  | non {o : Option V} {es : En} {σ : St} {L : List Addr} (hs : REnv G H es σ L) : REnv G H (none :: es) (o :: σ) L
  | val {d : D} {v : V} {es : En} {σ : St} {L1 L2 : List Addr} (h : Rp K G H d v L1) (hs : REnv G H es σ L2) : REnv G H (some d :: es) (some v :: σ) (L1 ++ L2)
end
section
variable {K : PySem.W.Frag} {G H G' H' : Hp}
theorem REnv.mono : ∀ {es : En} {σ : St} {L : List Addr}, REnv K G H es σ L → Le G G' → (∀ a ∈ L, G' a = none ∧ H' a = H a) → REnv K G' H' es σ L
  | _, _, _, .nil, _, _ => .nil
  | _, _, _, .non hs, l, k => .non (REnv.mono hs l k)
  | _, _, _, .val h hs, l, k => .val (h.mono l fun a z => k a (List.mem_append_left _ z)) (REnv.mono hs l fun a z => k a (List.mem_append_right _ z))
theorem REnv.own : ∀ {es : En} {σ : St} {L : List Addr}, REnv K G H es σ L → ∀ a ∈ L, G a = none ∧ H a ≠ none
  | _, _, _, .nil, _, z => nomatch z
  | _, _, _, .non hs, a, z => REnv.own hs a z
  | _, _, _, .val h hs, a, z => (List.mem_append.mp z).elim (h.own a) (REnv.own hs a)
theorem REnv.length : ∀ {es : En} {σ : St} {L : List Addr}, REnv K G H es σ L → es.length = σ.length
  | _, _, _, .nil => rfl
  | _, _, _, .non hs => by simp [REnv.length hs]
  | _, _, _, .val h hs => by simp [REnv.length hs]
/-- the i-th slot among the others -/
theorem REnv.at : ∀ {es : En} {σ : St} {L : List Addr} {i : Nat}, REnv K G H es σ L → i < es.length →
    ∃ La Li Lb, L = La ++ Li ++ Lb ∧ (∀ d, es[i]? = some (some d) → ∃ v, σ[i]? = some (some v) ∧ Rp K G H d v Li) ∧
      (∀ {G' H' : Hp}, Le G G' → (∀ a ∈ La ++ Lb, G' a = none ∧ H' a = H a) → (∀ {d' : D} {v' : V} {L' : List Addr}, Rp K G' H' d' v' L' → REnv K G' H' (es.set i (some d')) (σ.set i (some v')) (La ++ L' ++ Lb)) ∧ ∀ o : Option V, REnv K G' H' (es.set i none) (σ.set i o) (La ++ Lb))
  | _, _, _, _, .nil, h => by simp at h
  | _, _, _, 0, .non (L := L) hs, _ => by
    refine ⟨[], [], L, rfl, fun d e => by simp at e, fun l k => ⟨fun r => ?_, fun o => ?_⟩⟩
    · exact .val r (hs.mono l fun a z => k a (by simpa using z))
    · exact .non (hs.mono l fun a z => k a (by simpa using z))
  | _, _, _, 0, .val (L1 := L1) (L2 := L2) h hs, _ => by
    refine ⟨[], L1, L2, rfl, fun d e => ?_, fun l k => ⟨fun r => ?_, fun o => ?_⟩⟩
    · simp at e; subst e; exact ⟨_, rfl, h⟩
    · exact .val r (hs.mono l fun a z => k a (by simpa using z))
    · exact .non (hs.mono l fun a z => k a (by simpa using z))
  | _, _, _, i + 1, .non hs, hi => by
    obtain ⟨La, Li, Lb, e0, e1, f⟩ := REnv.at (i := i) hs (by simpa using hi)
    refine ⟨La, Li, Lb, e0, fun d e => e1 d (by simpa using e), fun l k => ⟨fun r => ?_, fun o => ?_⟩⟩
    · exact .non ((f l k).1 r)
    · exact .non ((f l k).2 o)
  | _, _, _, i + 1, .val (L1 := L0) h hs, hi => by
    obtain ⟨La, Li, Lb, e0, e1, f⟩ := REnv.at (i := i) hs (by simpa using hi)
    refine ⟨L0 ++ La, Li, Lb, by rw [e0]; simp, fun d e => e1 d (by simpa using e), fun l k => ?_⟩
    have k' : ∀ a ∈ La ++ Lb, _ := fun a z => k a (by rcases List.mem_append.mp z with z | z <;> simp [z])
    refine ⟨fun r => ?_, fun o => ?_⟩
    · have q := REnv.val (h.mono l fun a z => k a (by simp [z])) ((f l k').1 r)
      simpa using q
    · have q := REnv.val (h.mono l fun a z => k a (by simp [z])) ((f l k').2 o)
      simpa using q
end

/-! ### the change of a heap -/
structure Ext (L : List Addr) (G H G' H' : Hp) (L' : List Addr) : Prop where
  le : Le G G'
  fr : ∀ b, b ∉ L → H b ≠ none → H' b = H b
  gd : ∀ b, G' b ≠ none → G b ≠ none ∨ b ∈ L ∨ H b = none
  own : ∀ b ∈ L', b ∈ L ∨ H b = none
theorem Ext.refl {L L' : List Addr} {G H : Hp} (h : ∀ b ∈ L', b ∈ L) : Ext L G H G H L' := ⟨Le.refl _, fun _ _ _ => rfl, fun _ h => .inl h, fun b z => .inl (h b z)⟩
theorem Ext.trans {L L1 L1' L2 : List Addr} {G H G1 H1 G2 H2 : Hp} (a : Ext L G H G1 H1 L1) (b : Ext L1' G1 H1 G2 H2 L2) (s : ∀ x ∈ L1', x ∈ L ∨ H x = none) : Ext L G H G2 H2 L2 where
  le := a.le.trans b.le
  fr := fun x n h => by
    have e1 := a.fr x n h
    refine (b.fr x (fun z => ?_) (by rw [e1]; exact h)).trans e1
    rcases s x z with q | q
    · exact n q
    · exact h q
  gd := fun x h => by
    have out : H1 x = none → x ∈ L ∨ H x = none := fun q => by
      by_cases hx : x ∈ L
      · exact .inl hx
      · by_cases hh : H x = none
        · exact .inr hh
        · rw [a.fr x hx hh] at q; exact absurd q hh
    rcases b.gd x h with q | q | q
    · exact a.gd x q
    · exact .inr (s x q)
    · exact .inr (out q)
  own := fun x h => by
    rcases b.own x h with q | q
    · exact s x q
    · by_cases hx : x ∈ L
      · exact .inl hx
      · by_cases hh : H x = none
        · exact .inr hh
        · rw [a.fr x hx hh] at q; exact absurd q hh
theorem Ext.sub {L L' L'' : List Addr} {G H G' H' : Hp} (a : Ext L G H G' H' L') (s : ∀ x ∈ L'', x ∈ L ∨ H x = none) : Ext L G H G' H' L'' := ⟨a.le, a.fr, a.gd, s⟩
/-- what is owned beside stays -/
theorem Ext.keep {L L' : List Addr} {G H G' H' : Hp} (a : Ext L G H G' H' L') {b : Addr} (n : b ∉ L) (g : G b = none) (h : H b ≠ none) : G' b = none ∧ H' b = H b := by
  refine ⟨?_, a.fr b n h⟩
  cases q : G' b with
  | none => rfl
  | some o =>
    rcases a.gd b (by rw [q]; simp) with z | z | z
    · exact absurd g z
    · exact absurd z n
    · exact absurd z h
end Pz

set_option Elab.async false
set_option linter.all false
set_option maxRecDepth 100000
set_option maxHeartbeats 1000000
namespace Pz
open PySem L2

structure RSt (K : PySem.W.Frag) (σ : St) (G H : Hp) (env : En) (L : List Addr) : Prop where
  le : Le G H
  rep : REnv K G H env σ L
  nd : L.Nodup

/-- only new things came; Lr are new and owned -/
structure Fresh (G H G' H' : Hp) (Lr : List Addr) : Prop where
  le : Le G G'
  le' : Le G' H'
  ext : ∀ b, H b ≠ none → H' b = H b
  gd : ∀ b, G' b ≠ none → G b ≠ none ∨ H b = none
  nd : Lr.Nodup
  new : ∀ b ∈ Lr, H b = none
section
variable {K : PySem.W.Frag} {σ : St} {G H G' H' G1 H1 G2 H2 : Hp} {env e1 e2 : En} {L L' L1 L2 La Lb Lr : List Addr}
theorem Fresh.refl (l : Le G H) : Fresh G H G H [] := ⟨Le.refl _, l, fun _ _ => rfl, fun _ h => .inl h, List.nodup_nil, fun _ z => nomatch z⟩
theorem Fresh.keepOf (f : Fresh G H G' H' Lr) {b : Addr} (g : G b = none ∧ H b ≠ none) : G' b = none ∧ H' b = H b := by
  refine ⟨?_, f.ext b g.2⟩
  cases q : G' b with
  | none => rfl
  | some o =>
    rcases f.gd b (by rw [q]; simp) with z | z
    · exact absurd g.1 z
    · exact absurd z g.2
theorem RSt.fresh (R : RSt K σ G H env L) (f : Fresh G H G' H' Lr) : RSt K σ G' H' env L :=
  ⟨f.le', R.rep.mono f.le fun a z => f.keepOf (R.rep.own a z), R.nd⟩
theorem Rp.fresh {d : D} {v : V} (r : Rp K G H d v La) (f : Fresh G H G' H' Lr) : Rp K G' H' d v La := r.mono f.le fun a z => f.keepOf (r.own a z)
theorem Rps.fresh {d : List D} {v : List V} (r : Rps K G H d v La) (f : Fresh G H G' H' Lr) : Rps K G' H' d v La := r.mono f.le fun a z => f.keepOf (r.own a z)
theorem Fresh.ext' (f : Fresh G H G' H' Lr) (s : ∀ x ∈ L', x ∈ L ∨ H x = none) : Ext L G H G' H' L' :=
  ⟨f.le, fun b _ h => f.ext b h, fun b h => (f.gd b h).imp id fun z => .inr z, s⟩
theorem Fresh.nodup (f : Fresh G H G' H' Lr) (n : L.Nodup) (o : ∀ a ∈ L, H a ≠ none) : (L ++ Lr).Nodup :=
  List.nodup_append.mpr ⟨n, f.nd, fun a h b h' e => by subst e; exact o a h (f.new a h')⟩
/-- a tuple, a list, any object laid at a new address, for ever -/
theorem Fresh.laid (l : Le G H) {p : Addr} (n : H p = none) (o : HO) : Fresh G H (upd G p o) (upd H p o) [] := by
  refine ⟨fun a u e => ?_, fun a u e => ?_, fun b h => ?_, fun b h => ?_, List.nodup_nil, fun _ z => nomatch z⟩
  · rw [upd_ne (ne_of_none (l a u e) n)]; exact e
  · by_cases q : a = p
    · subst q; rw [upd_same] at e ⊢; exact e
    · rw [upd_ne q] at e ⊢; exact l a u e
  · exact upd_ne fun e => h (by rw [e]; exact n)
  · by_cases q : b = p
    · subst q; exact .inr n
    · rw [upd_ne q] at h; exact .inl h
/-- an owned list laid at a new address -/
theorem Fresh.lst (l : Le G H) {p : Addr} (n : H p = none) (o : HO) : Fresh G H G (upd H p o) [p] := by
  refine ⟨Le.refl _, fun a u e => ?_, fun b h => ?_, fun b h => .inl h, by simp, fun b z => ?_⟩
  · rw [upd_ne (ne_of_none (l a u e) n)]; exact l a u e
  · exact upd_ne fun e => h (by rw [e]; exact n)
  · rw [List.mem_singleton.mp z]; exact n
end

/-! ### expressions -/
/-- what the function F of the slots tells of an expression: own: its value is no one else's; st: nothing that stood was changed -/
def tE (K : PySem.W.Frag) (own st : Bool) (F : En → Option (D × En)) : TE := fun σ H Q => ∃ G env L, RSt K σ G H env L ∧ ∃ d env', F env = some (d, env') ∧
  ∀ v G' H' L' Lr, RSt K σ G' H' env' L' → Rp K G' H' d v Lr → (own = true → (L' ++ Lr).Nodup) → (st = true → env' = env ∧ L' = L ∧ ∀ b, H b ≠ none → H' b = H b) → Ext L G H G' H' (L' ++ Lr) → Q v H'
def tA (K : PySem.W.Frag) (own st : Bool) (F : En → Option (List D × En)) : TA := fun σ H Q => ∃ G env L, RSt K σ G H env L ∧ ∃ d env', F env = some (d, env') ∧
  ∀ v G' H' L' Lr, RSt K σ G' H' env' L' → Rps K G' H' d v Lr → (own = true → (L' ++ Lr).Nodup) → (st = true → env' = env ∧ L' = L ∧ ∀ b, H b ≠ none → H' b = H b) → Ext L G H G' H' (L' ++ Lr) → Q v H'
def tT (K : PySem.W.Frag) (st : Bool) (F : En → Option (Bool × En)) : TT := fun σ H Q => ∃ G env L, RSt K σ G H env L ∧ ∃ d env', F env = some (d, env') ∧
  ∀ G' H' L', RSt K σ G' H' env' L' → (st = true → env' = env ∧ L' = L ∧ ∀ b, H b ≠ none → H' b = H b) → Ext L G H G' H' L' → Q d H'
abbrev Ev (X : Cx) (own st : Bool) (e : Expr) (F : En → Option (D × En)) : Prop := PE X e (tE X.K own st F)
abbrev Av (X : Cx) (own st : Bool) (es : List Expr) (F : En → Option (List D × En)) : Prop := PA X es (tA X.K own st F)
abbrev Tv (X : Cx) (st : Bool) (e : Expr) (F : En → Option (Bool × En)) : Prop := PT X e (tT X.K st F)
/-- a test whatever its whole is -/
abbrev Wv (X : Cx) (st : Bool) (e : Expr) (F : En → Option (Bool × En)) : Prop := PW X e (tT X.K st F)
theorem peM {X : Cx} {e : Expr} {t u : TE} (h : PE X e t) (k : ∀ σ H Q, u σ H Q → t σ H Q) : PE X e u := ⟨fun pins s σ H Q I hw => h.run pins s σ H Q I (k σ H Q hw)⟩
theorem paM {X : Cx} {e : List Expr} {t u : TA} (h : PA X e t) (k : ∀ σ H Q, u σ H Q → t σ H Q) : PA X e u := ⟨fun pos pins s σ H Q I hw => h.run pos pins s σ H Q I (k σ H Q hw)⟩
theorem ptM {X : Cx} {e : Expr} {t u : TT} (h : PT X e t) (k : ∀ σ H Q, u σ H Q → t σ H Q) : PT X e u := ⟨fun pins s σ H Q I hw => h.run pins s σ H Q I (k σ H Q hw)⟩
theorem pwM {X : Cx} {e : Expr} {t u : TT} (h : PW X e t) (k : ∀ σ H Q, u σ H Q → t σ H Q) : PW X e u := ⟨fun w pins s σ H Q I hw => h.run w pins s σ H Q I (k σ H Q hw)⟩

section
variable {K : PySem.W.Frag} {σ : St} {G H G' H' G1 H1 G2 H2 : Hp} {env e1 e2 : En} {L L' L1 L2 La Lb Lr : List Addr}
/-- an earlier value (owned La) behind a later expression -/
theorem persist {o1 s2 : Bool} (hm : o1 = true ∨ s2 = true) (own : ∀ a ∈ La, G1 a = none ∧ H1 a ≠ none) (n1 : o1 = true → (L1 ++ La).Nodup) (R2 : RSt K σ G2 H2 e2 L2)
    (st2 : s2 = true → e2 = e1 ∧ L2 = L1 ∧ ∀ b, H1 b ≠ none → H2 b = H1 b) (x : Ext L1 G1 H1 G2 H2 L') : ∀ a ∈ La, G2 a = none ∧ H2 a = H1 a := fun a ha => by
  by_cases hl : a ∈ L1
  · rcases hm with h | h
    · exact absurd rfl ((List.nodup_append.mp (n1 h)).2.2 a hl a ha)
    · obtain ⟨_, e, k⟩ := st2 h
      exact ⟨(R2.rep.own a (by rw [e]; exact hl)).1, k a (own a ha).2⟩
  · exact x.keep hl (own a ha).1 (own a ha).2
theorem st_trans {s1 s2 : Bool} (a : s1 = true → e1 = env ∧ L1 = L ∧ ∀ b, H b ≠ none → H1 b = H b) (b : s2 = true → e2 = e1 ∧ L2 = L1 ∧ ∀ b, H1 b ≠ none → H2 b = H1 b) :
    (s1 && s2) = true → e2 = env ∧ L2 = L ∧ ∀ b, H b ≠ none → H2 b = H b := fun h => by
  obtain ⟨h1, h2⟩ := Bool.and_eq_true_iff.mp h
  obtain ⟨a1, a2, a3⟩ := a h1
  obtain ⟨b1, b2, b3⟩ := b h2
  exact ⟨b1.trans a1, b2.trans a2, fun x hx => (b3 x (by rw [a3 x hx]; exact hx)).trans (a3 x hx)⟩
theorem st_fresh {s : Bool} (a : s = true → e1 = env ∧ L1 = L ∧ ∀ b, H b ≠ none → H1 b = H b) (f : Fresh G1 H1 G2 H2 Lr) : s = true → e1 = env ∧ L1 = L ∧ ∀ b, H b ≠ none → H2 b = H b := fun h => by
  obtain ⟨a1, a2, a3⟩ := a h
  exact ⟨a1, a2, fun x hx => (f.ext x (by rw [a3 x hx]; exact hx)).trans (a3 x hx)⟩
/-- a fresh value behind it all -/
theorem ext_fresh (x : Ext L G H G1 H1 (L1 ++ La)) (f : Fresh G1 H1 G2 H2 Lr) : Ext L G H G2 H2 (L1 ++ Lr) := by
  refine x.trans (f.ext' (L := L1) fun a z => ?_) fun a z => x.own a (List.mem_append_left _ z)
  exact (List.mem_append.mp z).imp id (f.new a)
theorem ext_then (x : Ext L G H G1 H1 (L1 ++ La)) (y : Ext L1 G1 H1 G2 H2 L2) : Ext L G H G2 H2 L2 := x.trans y fun a z => x.own a (List.mem_append_left _ z)
theorem ext_two (x : Ext L G H G1 H1 (L1 ++ La)) (y : Ext L1 G1 H1 G2 H2 (L2 ++ Lb)) : Ext L G H G2 H2 (L2 ++ (La ++ Lb)) :=
  (ext_then x y).sub fun a z => by
    rcases List.mem_append.mp z with z | z
    · exact (ext_then x y).own a (List.mem_append_left _ z)
    · rcases List.mem_append.mp z with z | z
      · exact x.own a (List.mem_append_right _ z)
      · exact (ext_then x y).own a (List.mem_append_right _ z)
end

/-! ### coercions -/
def ownF (F : En → Option (D × En)) : En → Option (D × En) := fun env => (F env).bind fun r => if r.1.pure = true then some r else none
section
variable {X : Cx} {e : Expr} {F : En → Option (D × En)} {o st : Bool}
theorem ev_own (h : Ev X o st e F) : Ev X true st e (ownF F) := peM h fun σ H Q ⟨G, env, L, R, d, env', hf, k⟩ => by
  unfold ownF at hf
  cases q : F env with
  | none => rw [q] at hf; simp at hf
  | some r =>
    obtain ⟨d', e'⟩ := r
    rw [q] at hf
    simp only [Option.bind_some] at hf
    split at hf
    · rename_i hp
      cases hf
      refine ⟨G, env, L, R, d, env', q, fun v G' H' L' Lr R' r n s x => ?_⟩
      have z := r.pure_nil hp
      subst z
      exact k v G' H' L' [] R' r (fun _ => by simpa using R'.nd) s x
    · cases hf
theorem ev_view (h : Ev X true st e F) : Ev X false st e F := peM h fun σ H Q ⟨G, env, L, R, d, env', hf, k⟩ => ⟨G, env, L, R, d, env', hf, fun v G' H' L' Lr R' r n s x => k v G' H' L' Lr R' r (fun z => nomatch z) s x⟩
theorem ev_eff (h : Ev X o true e F) : Ev X o false e F := peM h fun σ H Q ⟨G, env, L, R, d, env', hf, k⟩ => ⟨G, env, L, R, d, env', hf, fun v G' H' L' Lr R' r n s x => k v G' H' L' Lr R' r n (fun z => nomatch z) x⟩
end

/-! ### constants and names -/
def cF (d : D) : En → Option (D × En) := fun env => some (d, env)
section
variable {X : Cx} {pos : Pos}
theorem ev_c {e : Expr} {d : D} {v : V} (h : PE X e (tC v)) (r : ∀ G H, Rp X.K G H d v []) : Ev X true true e (cF d) := peM h fun σ H Q ⟨G, env, L, R, d', env', hf, k⟩ => by
  cases hf
  exact k v G H L [] R (r G H) (fun _ => by simpa using R.nd) (fun _ => ⟨rfl, rfl, fun _ _ => rfl⟩) (Ext.refl fun b z => by simpa using z)
theorem ev_int {i j} : Ev X true true (.Constant (.int i) j pos) (cF (.int i)) := ev_c pe_int fun _ _ => .int i
theorem ev_bl {b j} : Ev X true true (.Constant (.bool b) j pos) (cF (.bl b)) := ev_c pe_bl fun _ _ => .bl b
theorem ev_non {j} : Ev X true true (.Constant .none j pos) (cF .non) := ev_c pe_non fun _ _ => .non
theorem ev_str {x j} : Ev X true true (.Constant (.str x) j pos) (cF (.str x)) := ev_c pe_str fun _ _ => .str x
/-- a module's constant -/
theorem ev_glob {x : Str} {d : D} {v : V} {u : Value} (hg : Gl X x) (hm : X.mg x = some u) (r : RelV v u) (k : ∀ G H, Rp X.K G H d v []) (hd : (x == ("__debug__" : Str)) = false := by decide) : Ev X true true (.Name x pos) (cF d) := ev_c (pe_glob hg hm r hd) k

def nmF (i : Nat) : En → Option (D × En) := fun env => (env[i]?).bind fun o => o.map fun d => (d, env)
/-- a name, looked at -/
theorem ev_look {i : Nat} {e : Expr} (h : PE X e (tVar i)) : Ev X false true e (nmF i) := peM h fun σ H Q ⟨G, env, L, R, d, env', hf, k⟩ => by
  unfold nmF at hf
  cases q : env[i]? with
  | none => rw [q] at hf; simp at hf
  | some o =>
    cases o with
    | none => rw [q] at hf; simp at hf
    | some d' =>
      rw [q] at hf
      simp only [Option.bind_some, Option.map_some, Option.some.injEq, Prod.mk.injEq] at hf
      obtain ⟨rfl, rfl⟩ := hf
      obtain ⟨hi, _⟩ := List.getElem?_eq_some_iff.mp q
      obtain ⟨La, Li, Lb, e0, f, _⟩ := R.rep.at hi
      obtain ⟨v, ev, r⟩ := f d' q
      refine ⟨v, ev, k v G H L Li R r (fun z => nomatch z) (fun _ => ⟨rfl, rfl, fun _ _ => rfl⟩) (Ext.refl fun b z => ?_)⟩
      rcases List.mem_append.mp z with z | z
      · exact z
      · rw [e0]; simp [z]
/-- a name whose value owns nothing -/
abbrev nmO (i : Nat) := ownF (nmF i)
theorem ev_name {i : Nat} {e : Expr} (h : PE X e (tVar i)) : Ev X true true e (nmO i) := ev_own (ev_look h)
/-- a name whose value is shared from now on: it may not be changed any more -/
def fzF (i : Nat) : En → Option (D × En) := fun env => (env[i]?).bind fun o => o.map fun d => (d.fz, env.set i (some d.fz))
def frG (G H : Hp) (L : List Addr) : Hp := fun a => if a ∈ L then H a else G a
theorem frG_in {G H : Hp} {L : List Addr} {a : Addr} (h : a ∈ L) : frG G H L a = H a := if_pos h
theorem frG_out {G H : Hp} {L : List Addr} {a : Addr} (h : a ∉ L) : frG G H L a = G a := if_neg h
theorem frG_le {G H : Hp} {L : List Addr} (l : Le G H) : Le G (frG G H L) := fun a o e => by
  by_cases h : a ∈ L
  · rw [frG_in h]; exact l a o e
  · rw [frG_out h]; exact e
theorem frG_le' {G H : Hp} {L : List Addr} (l : Le G H) : Le (frG G H L) H := fun a o e => by
  by_cases h : a ∈ L
  · rw [frG_in h] at e; exact e
  · rw [frG_out h] at e; exact l a o e
theorem ev_share {i : Nat} {e : Expr} (h : PE X e (tVar i)) : Ev X true false e (fzF i) := peM h fun σ H Q ⟨G, env, L, R, d, env', hf, k⟩ => by
  unfold fzF at hf
  cases q : env[i]? with
  | none => rw [q] at hf; simp at hf
  | some o =>
    cases o with
    | none => rw [q] at hf; simp at hf
    | some d' =>
      rw [q] at hf
      simp only [Option.bind_some, Option.map_some, Option.some.injEq, Prod.mk.injEq] at hf
      obtain ⟨rfl, rfl⟩ := hf
      obtain ⟨hi, _⟩ := List.getElem?_eq_some_iff.mp q
      obtain ⟨La, Li, Lb, e0, f, g⟩ := R.rep.at hi
      obtain ⟨v, ev, r⟩ := f d' q
      have nd : (La ++ Li ++ Lb).Nodup := e0 ▸ R.nd
      have out : ∀ a ∈ La ++ Lb, a ∉ Li := fun a z y => by
        have nd1 := List.nodup_append.mp nd
        rcases List.mem_append.mp z with z | z
        · exact (List.nodup_append.mp nd1.1).2.2 a z a y rfl
        · exact nd1.2.2 a (List.mem_append_right _ y) a z rfl
      have r' : Rp X.K (frG G H Li) H d'.fz v [] := r.fz (frG_le R.le) fun a z => frG_in z
      have g' := ((g (G' := frG G H Li) (H' := H) (frG_le R.le) fun a z => ⟨by rw [frG_out (out a z)]; exact (R.rep.own a (by rw [e0]; rcases List.mem_append.mp z with z | z <;> simp [z])).1, rfl⟩).1 r')
      have eσ : σ.set i (some v) = σ := by
        refine List.ext_getElem? fun j => ?_
        by_cases hj : i = j
        · subst hj
          obtain ⟨hl, _⟩ := List.getElem?_eq_some_iff.mp ev
          rw [List.getElem?_set_self hl, ev]
        · rw [List.getElem?_set_ne hj]
      rw [eσ] at g'
      refine ⟨v, ev, k v (frG G H Li) H (La ++ [] ++ Lb) [] ⟨frG_le' R.le, g', ?_⟩ r' (fun _ => ?_) (fun z => nomatch z) ⟨frG_le R.le, fun _ _ _ => rfl, fun b hb => ?_, fun b hb => ?_⟩⟩
      · exact nd.sublist (by simp)
      · rw [List.append_nil]; exact nd.sublist (by simp)
      · by_cases hx : b ∈ Li
        · exact .inr (.inl (by rw [e0]; simp [hx]))
        · rw [frG_out hx] at hb; exact .inl hb
      · refine .inl ?_
        rw [e0]
        simp at hb ⊢
        rcases hb with z | z <;> simp [z]
end

/-! ### operators -/
/-- a two-place operation on values is told by f -/
def Op2 (K : PySem.W.Frag) (r : R2) (f : D → D → Option D) : Prop := ∀ {G H : Hp} {a b c : D} {x y : V} {La Lb : List Addr} {Q : VK}, Le G H → Rp K G H a x La → Rp K G H b y Lb → f a b = some c →
  (∀ v G' H' Lr, Fresh G H G' H' Lr → Rp K G' H' c v Lr → Q v H') → r x y H Q
def Op1 (K : PySem.W.Frag) (r : V → Hp → VK → Prop) (f : D → Option D) : Prop := ∀ {G H : Hp} {a c : D} {x : V} {La : List Addr} {Q : VK}, Le G H → Rp K G H a x La → f a = some c →
  (∀ v G' H' Lr, Fresh G H G' H' Lr → Rp K G' H' c v Lr → Q v H') → r x H Q
def OpN (K : PySem.W.Frag) (r : List V → Hp → VK → Prop) (f : List D → Option D) : Prop := ∀ {G H : Hp} {a : List D} {c : D} {x : List V} {La : List Addr} {Q : VK}, Le G H → Rps K G H a x La → f a = some c →
  (∀ v G' H' Lr, Fresh G H G' H' Lr → Rp K G' H' c v Lr → Q v H') → r x H Q
def b2 (f : D → D → Option D) (FA FB : En → Option (D × En)) : En → Option (D × En) := fun env => (FA env).bind fun a => (FB a.2).bind fun b => (f a.1 b.1).map fun c => (c, b.2)
def b1 (f : D → Option D) (FA : En → Option (D × En)) : En → Option (D × En) := fun env => (FA env).bind fun a => (f a.1).map fun c => (c, a.2)
def bN (f : List D → Option D) (FA : En → Option (List D × En)) : En → Option (D × En) := fun env => (FA env).bind fun a => (f a.1).map fun c => (c, a.2)
theorem b2_some {f : D → D → Option D} {FA FB : En → Option (D × En)} {env env' : En} {d : D} (h : b2 f FA FB env = some (d, env')) : ∃ a e1 b, FA env = some (a, e1) ∧ FB e1 = some (b, env') ∧ f a b = some d := by
  unfold b2 at h
  cases q : FA env with
  | none => rw [q] at h; simp at h
  | some a =>
    rw [q] at h; simp only [Option.bind_some] at h
    cases q2 : FB a.2 with
    | none => rw [q2] at h; simp at h
    | some b =>
      rw [q2] at h; simp only [Option.bind_some] at h
      cases q3 : f a.1 b.1 with
      | none => rw [q3] at h; simp at h
      | some c => rw [q3] at h; simp at h; obtain ⟨rfl, rfl⟩ := h; exact ⟨a.1, a.2, b.1, rfl, q2, q3⟩
theorem b1_some {f : D → Option D} {FA : En → Option (D × En)} {env env' : En} {d : D} (h : b1 f FA env = some (d, env')) : ∃ a, FA env = some (a, env') ∧ f a = some d := by
  unfold b1 at h
  cases q : FA env with
  | none => rw [q] at h; simp at h
  | some a =>
    rw [q] at h; simp only [Option.bind_some] at h
    cases q3 : f a.1 with
    | none => rw [q3] at h; simp at h
    | some c => rw [q3] at h; simp at h; obtain ⟨rfl, rfl⟩ := h; exact ⟨a.1, rfl, q3⟩
theorem bN_some {f : List D → Option D} {FA : En → Option (List D × En)} {env env' : En} {d : D} (h : bN f FA env = some (d, env')) : ∃ a, FA env = some (a, env') ∧ f a = some d := by
  unfold bN at h
  cases q : FA env with
  | none => rw [q] at h; simp at h
  | some a =>
    rw [q] at h; simp only [Option.bind_some] at h
    cases q3 : f a.1 with
    | none => rw [q3] at h; simp at h
    | some c => rw [q3] at h; simp at h; obtain ⟨rfl, rfl⟩ := h; exact ⟨a.1, rfl, q3⟩
section
variable {X : Cx} {a b : Expr} {FA FB : En → Option (D × En)} {o1 o2 s1 s2 : Bool} {pos : Pos}
theorem op2_lift {r : R2} {f : D → D → Option D} (ho : Op2 X.K r f) (hm : o1 = true ∨ s2 = true) (σ : St) (H : Hp) (Q : VK) (h : tE X.K true (s1 && s2) (b2 f FA FB) σ H Q) : tOp r (tE X.K o1 s1 FA) (tE X.K o2 s2 FB) σ H Q := by
  obtain ⟨G, env, L, R, d, env', hf, k⟩ := h
  obtain ⟨da, e1, db, h1, h2, h3⟩ := b2_some hf
  refine ⟨G, env, L, R, da, e1, h1, fun x G1 H1 L1 La R1 ra n1 st1 x1 => ⟨G1, e1, L1, R1, db, env', h2, fun y G2 H2 L2 Lb R2 rb n2 st2 x2 => ?_⟩⟩
  have ra2 : Rp X.K G2 H2 da x La := ra.mono x2.le (persist hm ra.own n1 R2 st2 x2)
  refine ho R2.le ra2 rb h3 fun v G3 H3 Lr fr rc => ?_
  exact k v G3 H3 L2 Lr (R2.fresh fr) rc (fun _ => fr.nodup R2.nd fun a z => (R2.rep.own a z).2) (st_fresh (st_trans st1 st2) fr) (ext_fresh (ext_then x1 x2) fr)
theorem op1_lift {r : V → Hp → VK → Prop} {f : D → Option D} (ho : Op1 X.K r f) (σ : St) (H : Hp) (Q : VK) (h : tE X.K true s1 (b1 f FA) σ H Q) : tUn r (tE X.K o1 s1 FA) σ H Q := by
  obtain ⟨G, env, L, R, d, env', hf, k⟩ := h
  obtain ⟨da, h1, h3⟩ := b1_some hf
  refine ⟨G, env, L, R, da, env', h1, fun x G1 H1 L1 La R1 ra n1 st1 x1 => ho R1.le ra h3 fun v G3 H3 Lr fr rc => ?_⟩
  exact k v G3 H3 L1 Lr (R1.fresh fr) rc (fun _ => fr.nodup R1.nd fun a z => (R1.rep.own a z).2) (st_fresh st1 fr) (ext_fresh x1 fr)
theorem ev_bin {op : Operator} {r : R2} {f : D → D → Option D} (hr : OpR X (binaryOp op) r) (ho : Op2 X.K r f) (ha : Ev X o1 s1 a FA) (hb : Ev X o2 s2 b FB) (hm : o1 = true ∨ s2 = true := by first | exact .inl rfl | exact .inr rfl) :
    Ev X true (s1 && s2) (.BinOp a op b pos) (b2 f FA FB) := peM (pe_op hr ha hb) (op2_lift ho hm)
theorem ev_un {op : UnaryOp} {r : V → Hp → VK → Prop} {f : D → Option D} (hr : UnR X (unaryOp op) r) (ho : Op1 X.K r f) (ha : Ev X o1 s1 a FA) : Ev X true s1 (.UnaryOp op a pos) (b1 f FA) := peM (pe_un hr ha) (op1_lift ho)
theorem ev_cmp {op : CmpOp} {r : R2} {f : D → D → Option D} (hr : OpR X (compareOp op) r) (ho : Op2 X.K r f) (ha : Ev X o1 s1 a FA) (hb : Ev X o2 s2 b FB) (hk : behindInMarks op b = false)
    (hm : o1 = true ∨ s2 = true := by first | exact .inl rfl | exact .inr rfl) : Ev X true (s1 && s2) (.Compare a [op] [b] pos) (b2 f FA FB) := peM (pe_cmpR hr ha hb hk) (op2_lift ho hm)
theorem ev_ix {r : R2} {f : D → D → Option D} (hr : IxR X r) (ho : Op2 X.K r f) (ha : Ev X o1 s1 a FA) (hb : Ev X o2 s2 b FB) (hs : PlainIx b)
    (hm : o1 = true ∨ s2 = true := by first | exact .inl rfl | exact .inr rfl) : Ev X true (s1 && s2) (.Subscript a b pos) (b2 f FA FB) := peM (pe_ix hr ha hb hs) (op2_lift ho hm)
end
end Pz

set_option Elab.async false
set_option linter.all false
set_option maxRecDepth 100000
set_option maxHeartbeats 1000000
namespace Pz
open PySem L2

/-! ### a value as data (for ==) -/
mutual
def D.py : D → PyData
  | .non => .none | .bl b => .bool b | .int i => .int i | .str x => .str x | .raw _ => .dict []
  | .scr ns => .list (ns.map .int)
  | .tup xs => .tuple (D.pys xs)
  | .lst _ xs => .list (D.pys xs)
  | .dct _ _ _ => .dict []
def D.pys : List D → List PyData
  | [] => []
  | x :: xs => x.py :: D.pys xs
end
def shp (d : D) : Bool := SeqAt.shaped d.py
section
variable {K : PySem.W.Frag} {G H G' H' : Hp}
theorem canLayAll_cons {x : PyData} {xs : List PyData} (h : PyData.canLayAll0 (x :: xs) = true) : x.canLay0 = true ∧ PyData.canLayAll0 xs = true := by simpa [PyData.canLayAll0] using h
theorem dpAll_ints : ∀ ns : List Int, DpAll K H (ns.map V.int) (ns.map PyData.int)
  | [] => .nil
  | n :: ns => .cons (.int n) (dpAll_ints ns)
mutual
theorem Rp.dp : ∀ {d : D} {v : V} {L : List Addr}, Rp K G H d v L → Le G H → d.py.canLay0 = true → Dp K H v d.py
  | _, _, _, .non, _, _ => .non
  | _, _, _, .bl b, _, _ => .bl b
  | _, _, _, .int i, _, _ => .int i
  | _, _, _, .str x, _, _ => .str x
  | _, _, _, .raw v, _, c => by simp [D.py, PyData.canLay0] at c
  | _, _, _, .scr h, l, _ => .lst (l.sqL h) (dpAll_ints _)
  | _, _, _, .tup h hs, l, c => .tup (l.sqT h) (Rps.dp hs l (by simpa [D.py, PyData.canLay0] using c))
  | _, _, _, .lstF h hs, l, c => .lst (SqL.of (l _ _ h)) (Rps.dp hs l (by simpa [D.py, PyData.canLay0] using c))
  | _, _, _, .lstO _ h hs, l, c => .lst (SqL.of h) (Rps.dp hs l (by simpa [D.py, PyData.canLay0] using c))
  | _, _, _, .dctF _ _ _ _, l, c => by simp [D.py, PyData.canLay0] at c
  | _, _, _, .dctO _ _ _ _ _, l, c => by simp [D.py, PyData.canLay0] at c
theorem Rps.dp : ∀ {d : List D} {v : List V} {L : List Addr}, Rps K G H d v L → Le G H → PyData.canLayAll0 (D.pys d) = true → DpAll K H v (D.pys d)
  | _, _, _, .nil, _, _ => .nil
  | _, _, _, .cons h hs, l, c => .cons (Rp.dp h l (canLayAll_cons c).1) (Rps.dp hs l (canLayAll_cons c).2)
end
theorem Rp.dps {d : D} {v : V} {L : List Addr} (r : Rp K G H d v L) (l : Le G H) (h : shp d = true) : Dp K H v d.py := r.dp l (SeqAt.canLay_of_shaped h)
/-- the answer is a new scalar -/
theorem fin {d : D} {v : V} {Q : VK} {G : Hp} (l : Le G H) (h : ∀ v' G' H' Lr, Fresh G H G' H' Lr → Rp K G' H' d v' Lr → Q v' H') (r : Rp K G H d v []) : Q v H := h v G H [] (Fresh.refl l) r

/-! ### inversions -/
theorem Rp.int_inv {i : Int} {v : V} {L : List Addr} (r : Rp K G H (.int i) v L) : v = .int i ∧ L = [] := by cases r; exact ⟨rfl, rfl⟩
theorem Rp.bl_inv {i : Bool} {v : V} {L : List Addr} (r : Rp K G H (.bl i) v L) : v = .bl i ∧ L = [] := by cases r; exact ⟨rfl, rfl⟩
theorem Rp.str_inv {i : Str} {v : V} {L : List Addr} (r : Rp K G H (.str i) v L) : v = .str i ∧ L = [] := by cases r; exact ⟨rfl, rfl⟩
theorem Rp.raw_inv {i : V} {v : V} {L : List Addr} (r : Rp K G H (.raw i) v L) : v = i ∧ L = [] := by cases r; exact ⟨rfl, rfl⟩
theorem Rp.non_inv {v : V} {L : List Addr} (r : Rp K G H .non v L) : v = .non ∧ L = [] := by cases r; exact ⟨rfl, rfl⟩
theorem Rp.scr_inv {ns : List Int} {v : V} {L : List Addr} (r : Rp K G H (.scr ns) v L) : ∃ a, v = .ref a ∧ L = [] ∧ SqL K G a (ns.map V.int) := by cases r with | scr h => exact ⟨_, rfl, rfl, h⟩
theorem Rp.tup_inv {ds : List D} {v : V} {L : List Addr} (r : Rp K G H (.tup ds) v L) : ∃ a vs, v = .ref a ∧ SqT K G a vs ∧ Rps K G H ds vs L := by cases r with | tup h hs => exact ⟨_, _, rfl, h, hs⟩
/-- a list as it is read, whoever owns it -/
theorem Rp.lst_inv {o : Bool} {ds : List D} {v : V} {L : List Addr} (l : Le G H) (r : Rp K G H (.lst o ds) v L) : ∃ a vs L1, v = .ref a ∧ H a = some (.lst vs) ∧ Rps K G H ds vs L1 ∧ ∀ x ∈ L1, x ∈ L := by
  cases r with
  | lstF h hs => exact ⟨_, _, _, rfl, l _ _ h, hs, fun _ z => nomatch z⟩
  | lstO _ h hs => exact ⟨_, _, _, rfl, h, hs, fun _ z => List.mem_cons_of_mem _ z⟩
theorem Rps.ints : ∀ (ns : List Int), Rps K G H (ns.map D.int) (ns.map V.int) []
  | [] => .nil
  | n :: ns => .cons (L1 := []) (L2 := []) (.int n) (Rps.ints ns)
theorem Rps.ints_inv : ∀ {ns : List Int} {vs : List V} {L : List Addr}, Rps K G H (ns.map D.int) vs L → vs = ns.map V.int ∧ L = []
  | [], _, _, h => by cases h; exact ⟨rfl, rfl⟩
  | n :: ns, _, _, h => by
    cases h with
    | cons h hs =>
      obtain ⟨rfl, rfl⟩ := h.int_inv
      obtain ⟨rfl, rfl⟩ := Rps.ints_inv hs
      exact ⟨rfl, rfl⟩
end
/-- all items are ints -/
def intsOf : List D → Option (List Int)
  | [] => some []
  | .int i :: r => (intsOf r).map (i :: ·)
  | _ :: _ => none
theorem intsOf_eq : ∀ {ds : List D} {ns : List Int}, intsOf ds = some ns → ds = ns.map D.int
  | [], _, h => by cases h; rfl
  | d :: r, ns, h => by
    cases d <;> simp only [intsOf] at h <;> try (cases h)
    rename_i i
    cases q : intsOf r with
    | none => rw [q] at h; cases h
    | some ms =>
      rw [q] at h; cases h
      rw [intsOf_eq q]; rfl
theorem intsOf_map : ∀ ns : List Int, intsOf (ns.map D.int) = some ns
  | [] => rfl
  | n :: ns => by simp [intsOf, intsOf_map ns]

/-! ### arithmetic -/
/-- a test that no reckoning looks into -/
noncomputable def tst (p : Prop) : Bool := @decide p (Classical.propDecidable p)
theorem tst_of {p : Prop} (h : p) : tst p = true := @decide_eq_true p (Classical.propDecidable p) h
theorem of_tst {p : Prop} (h : tst p = true) : p := @of_decide_eq_true p (Classical.propDecidable p) h
noncomputable section
def lineOk (n : Nat) : Bool := tst (n ≤ 16777216)
theorem lineOk_le {n : Nat} (h : lineOk n = true) : n ≤ sizeLine := by rw [sizeLine_eq]; exact of_tst h
def mulOk (i j : Int) : Bool := tst (CMul i j ∨ CMulW i j)
theorem mulOk_r {i j : Int} (h : j.natAbs < 2 ^ 64) : mulOk i j = true := tst_of (.inl (.inr (by omega)))
theorem mulOk_l {i j : Int} (h : i.natAbs < 2 ^ 64) : mulOk i j = true := tst_of (.inl (.inl (by omega)))
theorem mulOk_of {i j : Int} {a b : Nat} (ha : i.natAbs < 2 ^ a) (hb : j.natAbs < 2 ^ b) (h : a + b < 1000000 := by decide) : mulOk i j = true := by
  refine tst_of (.inr ?_)
  show _ + _ < 1000000
  have h0 : 0 < a ∨ 0 < b ∨ (a = 0 ∧ b = 0) := by omega
  by_cases ia : a = 0
  · subst ia
    have : i.natAbs = 0 := by simpa using ha
    rw [this]
    by_cases ib : b = 0
    · subst ib
      have : j.natAbs = 0 := by simpa using hb
      rw [this]; decide
    · have := PySem.Flt.log2_lt_of (by omega : 0 < b) hb
      have e : (0 : Nat).log2 = 0 := by decide
      omega
  · have ea := PySem.Flt.log2_lt_of (by omega : 0 < a) ha
    by_cases ib : b = 0
    · subst ib
      have : j.natAbs = 0 := by simpa using hb
      rw [this]
      have e : (0 : Nat).log2 = 0 := by decide
      omega
    · have := PySem.Flt.log2_lt_of (by omega : 0 < b) hb
      omega
def divOk (j : Int) : Bool := tst (j ≠ 0 ∧ j.natAbs.log2 < 9000)
theorem divOk_of {j : Int} {b : Nat} (h : j ≠ 0) (hb : j.natAbs < 2 ^ b) (h9 : b ≤ 9000 := by decide) : divOk j = true := by
  unfold divOk
  have : 0 < b := by
    rcases Nat.eq_zero_or_pos b with e | e
    · subst e; simp at hb; omega
    · exact e
  have := PySem.Flt.log2_lt_of this hb
  exact tst_of ⟨h, by omega⟩
def dAdd : D → D → Option D
  | .int i, .int j => some (.int (i + j))
  | .str x, .str y => if lineOk (x.length + y.length) = true then some (.str (x ++ y)) else none
  | .tup a, .tup b => if D.pures a = true ∧ D.pures b = true ∧ lineOk (a.length + b.length) = true then some (.tup (a ++ b)) else none
  | .lst _ a, .lst _ b => if D.pures a = true ∧ D.pures b = true ∧ lineOk (a.length + b.length) = true then some (.lst true (a ++ b)) else none
  | _, _ => none
def dSub : D → D → Option D
  | .int i, .int j => some (.int (i - j))
  | _, _ => none
def dMul : D → D → Option D
  | .int i, .int j => if mulOk i j = true then some (.int (i * j)) else none
  | _, _ => none
def dDiv : D → D → Option D
  | .int i, .int j => if divOk j = true then some (.int (i.fdiv j)) else none
  | _, _ => none
def dMod : D → D → Option D
  | .int i, .int j => if j ≠ 0 then some (.int (i.fmod j)) else none
  | _, _ => none
def powOk (i j : Int) : Bool := tst (0 ≤ j ∧ j ≤ 1000000 ∧ i.natAbs < 2 ^ 64)
def dPow : D → D → Option D
  | .int i, .int j => if powOk i j = true then some (.int (i ^ j.toNat)) else none
  | _, _ => none
def dNeg : D → Option D
  | .int i => some (.int (-i))
  | _ => none
abbrev rAddX (K : PySem.W.Frag) : R2 := fun x y H Q => (rI0 fun i j => .int (i + j)) x y H Q ∨ ((∃ i j, x = .str i ∧ y = .str j ∧ i.length + j.length ≤ sizeLine ∧ Q (.str (i ++ j)) H) ∨ (rCatA K x y H Q ∨ rCat x y H Q))
section
variable {X : Cx} {K : PySem.W.Frag}
theorem opr_add : OpR X (binaryOp .Add) (rAddX X.K) := op_add.or (op_add_str.or (op_catA.or op_cat))
theorem o2_add : Op2 K (rAddX K) dAdd := by
  intro G H a b c x y La Lb Q l ra rb e k
  unfold dAdd at e
  split at e
  · obtain ⟨rfl, _⟩ := ra.int_inv
    obtain ⟨rfl, _⟩ := rb.int_inv
    cases e
    exact .inl ⟨_, _, rfl, rfl, fin l k (.int _)⟩
  · obtain ⟨rfl, _⟩ := ra.str_inv
    obtain ⟨rfl, _⟩ := rb.str_inv
    split at e
    · rename_i h
      cases e
      exact .inr (.inl ⟨_, _, rfl, rfl, lineOk_le h, fin l k (.str _)⟩)
    · cases e
  · split at e
    · rename_i h
      cases e
      obtain ⟨p, vs, rfl, sa, qa⟩ := ra.tup_inv
      obtain ⟨q, ws, rfl, sb, qb⟩ := rb.tup_inv
      obtain rfl := qa.pure_nil h.1
      obtain rfl := qb.pure_nil h.2.1
      have ha := qa.length
      have hb := qb.length
      refine .inr (.inr (.inl ⟨p, q, vs, ws, rfl, rfl, l.sqT sa, l.sqT sb, by rw [← ha, ← hb]; exact lineOk_le h.2.2, fun z => ?_, fun z1 z2 => ?_, fun z1 z2 t nt => ?_⟩))
      · subst z
        have z : _ = [] := List.length_eq_zero_iff.mp (by simpa using ha)
        rw [z] at k
        exact fin l k (.tup sb (by simpa using qb))
      · subst z2
        have z : _ = [] := List.length_eq_zero_iff.mp (by simpa using hb)
        rw [z] at k
        exact fin l k (by rw [List.append_nil]; exact .tup sa qa)
      · have f := Fresh.laid l nt (.tup (vs ++ ws))
        exact k _ _ _ _ f (.tup (.inl (.inl upd_same)) (by simpa using (qa.append qb).fresh f))
    · cases e
  · split at e
    · rename_i h
      cases e
      obtain ⟨p, vs, L1, rfl, sa, qa, _⟩ := ra.lst_inv l
      obtain ⟨q, ws, L2, rfl, sb, qb, _⟩ := rb.lst_inv l
      obtain rfl := qa.pure_nil h.1
      obtain rfl := qb.pure_nil h.2.1
      have ha := qa.length
      have hb := qb.length
      refine .inr (.inr (.inr ⟨p, q, vs, ws, rfl, rfl, sa, sb, by rw [← ha, ← hb]; exact lineOk_le h.2.2, fun t nt => ?_⟩))
      have f := Fresh.lst l nt (.lst (vs ++ ws))
      exact k _ _ _ _ f (.lstO (l.none nt) upd_same (by simpa using (qa.append qb).fresh f))
    · cases e
  · cases e
/-- ints in, an int out -/
theorem o2_int {C : Int → Int → Prop} {g : Int → Int → Int} {f : D → D → Option D} (h : ∀ a b c, f a b = some c → ∃ i j, a = .int i ∧ b = .int j ∧ C i j ∧ c = .int (g i j)) : Op2 K (rI C fun i j => .int (g i j)) f := by
  intro G H a b c x y La Lb Q l ra rb e k
  obtain ⟨i, j, rfl, rfl, hc, rfl⟩ := h a b c e
  obtain ⟨rfl, _⟩ := ra.int_inv
  obtain ⟨rfl, _⟩ := rb.int_inv
  exact ⟨_, _, rfl, rfl, hc, fin l k (.int _)⟩
theorem o2_int0 {g : Int → Int → Int} {f : D → D → Option D} (h : ∀ a b c, f a b = some c → ∃ i j, a = .int i ∧ b = .int j ∧ c = .int (g i j)) : Op2 K (rI0 fun i j => .int (g i j)) f := by
  intro G H a b c x y La Lb Q l ra rb e k
  obtain ⟨i, j, rfl, rfl, rfl⟩ := h a b c e
  obtain ⟨rfl, _⟩ := ra.int_inv
  obtain ⟨rfl, _⟩ := rb.int_inv
  exact ⟨_, _, rfl, rfl, fin l k (.int _)⟩
theorem o2_intB {g : Int → Int → Bool} {f : D → D → Option D} (h : ∀ a b c, f a b = some c → ∃ i j, a = .int i ∧ b = .int j ∧ c = .bl (g i j)) : Op2 K (rI0 fun i j => .bl (g i j)) f := by
  intro G H a b c x y La Lb Q l ra rb e k
  obtain ⟨i, j, rfl, rfl, rfl⟩ := h a b c e
  obtain ⟨rfl, _⟩ := ra.int_inv
  obtain ⟨rfl, _⟩ := rb.int_inv
  exact ⟨_, _, rfl, rfl, fin l k (.bl _)⟩
theorem o2_sub : Op2 K (rI0 fun i j => .int (i - j)) dSub := o2_int0 fun a b c e => by
  unfold dSub at e; split at e <;> cases e; exact ⟨_, _, rfl, rfl, rfl⟩
theorem op_mulZ : OpR X (binaryOp .Mult) (rI (fun i j => CMul i j ∨ CMulW i j) fun i j => .int (i * j)) := opI fun _ _ _ _ _ _ _ hc q => PyProof.Rows.mul_int q (hc.elim CMul.ok CMulW.ok)
theorem iop_mulZ : OpR X (inplaceOp .Mult) (rI (fun i j => CMul i j ∨ CMulW i j) fun i j => .int (i * j)) := opI fun _ _ _ _ _ _ _ hc q => PyProof.Rows.imul_int q (hc.elim CMul.ok CMulW.ok)
theorem o2_mul : Op2 K (rI (fun i j => CMul i j ∨ CMulW i j) fun i j => .int (i * j)) dMul := o2_int fun a b c e => by
  unfold dMul at e; split at e
  · split at e
    · rename_i h; cases e; 
      exact ⟨_, _, rfl, rfl, of_tst h, rfl⟩
    · cases e
  · cases e
def CDivX (_ j : Int) : Prop := j ≠ 0 ∧ j.natAbs.log2 < 9000
theorem op_fdivX : OpR X (binaryOp .FloorDiv) (rI CDivX fun i j => .int (i.fdiv j)) := opI fun _ _ _ _ _ _ _ hc q => PyProof.Rows.floordiv_int hc.1 q (.inl (PyProof.noPylong_of_log2 hc.2))
theorem iop_fdivX : OpR X (inplaceOp .FloorDiv) (rI CDivX fun i j => .int (i.fdiv j)) := opI fun _ _ _ _ _ _ _ hc q => PyProof.Rows.ifloordiv_int hc.1 q (.inl (PyProof.noPylong_of_log2 hc.2))
theorem o2_div : Op2 K (rI CDivX fun i j => .int (i.fdiv j)) dDiv := o2_int fun a b c e => by
  unfold dDiv at e; split at e
  · split at e
    · rename_i h; cases e
      exact ⟨_, _, rfl, rfl, of_tst (p := _ ≠ 0 ∧ _) h, rfl⟩
    · cases e
  · cases e
theorem o2_mod : Op2 K (rI (fun _ j => j ≠ 0) fun i j => .int (i.fmod j)) dMod := o2_int fun a b c e => by
  unfold dMod at e; split at e
  · split at e
    · rename_i h; cases e; exact ⟨_, _, rfl, rfl, h, rfl⟩
    · cases e
  · cases e
theorem o2_pow : Op2 K (rI CPow fun i j => .int (i ^ j.toNat)) dPow := o2_int fun a b c e => by
  unfold dPow at e; split at e
  · split at e
    · rename_i h; cases e
      exact ⟨_, _, rfl, rfl, (of_tst h : _ ∧ _ ∧ _), rfl⟩
    · cases e
  · cases e
theorem o1_neg : Op1 K (rU fun i => .int (-i)) dNeg := by
  intro G H a c x La Q l ra e k
  unfold dNeg at e
  split at e
  · cases e
    obtain ⟨rfl, _⟩ := ra.int_inv
    exact ⟨_, rfl, fin l k (.int _)⟩
  · cases e
end

/-! ### comparisons -/
def dEq (a b : D) : Option D := if shp a = true ∧ shp b = true then some (.bl (PyData.eqv a.py b.py)) else none
def dNe (a b : D) : Option D := if shp a = true ∧ shp b = true then some (.bl (!PyData.eqv a.py b.py)) else none
def dLt : D → D → Option D
  | .int i, .int j => some (.bl (decide (i < j)))
  | .tup a, .tup b => match intsOf a, intsOf b with
    | some ns, some ms => some (.bl (HT.lexLt ns ms))
    | _, _ => none
  | _, _ => none
def dLe : D → D → Option D
  | .int i, .int j => some (.bl (decide (i ≤ j)))
  | _, _ => none
def dGt : D → D → Option D
  | .int i, .int j => some (.bl (decide (j < i)))
  | _, _ => none
def dGe : D → D → Option D
  | .int i, .int j => some (.bl (decide (j ≤ i)))
  | _, _ => none
def isNon : D → Bool
  | .non => true
  | _ => false
def dIsN : D → D → Option D
  | .non, .non => some (.bl true)
  | .raw _, .non => none
  | _, .non => some (.bl false)
  | _, _ => none
def dNotN : D → D → Option D
  | .non, .non => some (.bl false)
  | .raw _, .non => none
  | _, .non => some (.bl true)
  | _, _ => none
section
variable {X : Cx} {K : PySem.W.Frag}
theorem o2_eq : Op2 K (rEqD K) dEq := by
  intro G H a b c x y La Lb Q l ra rb e k
  unfold dEq at e
  split at e
  · rename_i h; cases e
    exact ⟨_, _, ra.dps l h.1, rb.dps l h.2, h.1, h.2, fin l k (.bl _)⟩
  · cases e
theorem o2_ne : Op2 K (rNeD K) dNe := by
  intro G H a b c x y La Lb Q l ra rb e k
  unfold dNe at e
  split at e
  · rename_i h; cases e
    exact ⟨_, _, ra.dps l h.1, rb.dps l h.2, h.1, h.2, fin l k (.bl _)⟩
  · cases e
abbrev rLtX (K : PySem.W.Frag) : R2 := fun x y H Q => (rI0 fun i j => .bl (decide (i < j))) x y H Q ∨ rLtT K x y H Q
theorem opr_lt (hu : X.A.units < cLine) : OpR X (compareOp .Lt) (rLtX X.K) := op_lt.or (op_ltT hu)
theorem o2_lt : Op2 K (rLtX K) dLt := by
  intro G H a b c x y La Lb Q l ra rb e k
  unfold dLt at e
  split at e
  · cases e
    obtain ⟨rfl, _⟩ := ra.int_inv
    obtain ⟨rfl, _⟩ := rb.int_inv
    exact .inl ⟨_, _, rfl, rfl, fin l k (.bl _)⟩
  · split at e
    · rename_i ns ms h1 h2
      cases e
      obtain ⟨p, vs, rfl, sa, qa⟩ := ra.tup_inv
      obtain ⟨q, ws, rfl, sb, qb⟩ := rb.tup_inv
      rw [intsOf_eq h1] at qa
      rw [intsOf_eq h2] at qb
      obtain ⟨rfl, _⟩ := qa.ints_inv
      obtain ⟨rfl, _⟩ := qb.ints_inv
      exact .inr ⟨p, q, ns, ms, rfl, rfl, l.sqT sa, l.sqT sb, fin l k (.bl _)⟩
    · cases e
  · cases e
theorem o2_le : Op2 K (rI0 fun i j => .bl (decide (i ≤ j))) dLe := o2_intB fun a b c e => by
  unfold dLe at e; split at e <;> cases e; exact ⟨_, _, rfl, rfl, rfl⟩
theorem o2_gt : Op2 K (rI0 fun i j => .bl (decide (j < i))) dGt := o2_intB fun a b c e => by
  unfold dGt at e; split at e <;> cases e; exact ⟨_, _, rfl, rfl, rfl⟩
theorem o2_ge : Op2 K (rI0 fun i j => .bl (decide (j ≤ i))) dGe := o2_intB fun a b c e => by
  unfold dGe at e; split at e <;> cases e; exact ⟨_, _, rfl, rfl, rfl⟩
theorem isN_eq {G H : Hp} {a : D} {x : V} {La : List Addr} (ra : Rp K G H a x La) (h : ∀ v, a ≠ .raw v) : decide (x = .non) = isNon a := by
  cases ra <;> first | rfl | exact absurd rfl (h _) | simp
theorem o2_isN : Op2 K (fun x y H Q => y = .non ∧ Q (.bl (decide (x = .non))) H) dIsN := by
  intro G H a b c x y La Lb Q l ra rb e k
  have hr : (∀ v, a ≠ .raw v) := fun v z => by subst z; cases b <;> simp [dIsN] at e
  have hb : b = .non := by cases b <;> cases a <;> first | rfl | (simp [dIsN] at e)
  subst hb
  obtain ⟨rfl, _⟩ := rb.non_inv
  refine ⟨rfl, ?_⟩
  rw [isN_eq ra hr]
  have : c = .bl (isNon a) := by cases a <;> simp [dIsN] at e <;> first | exact e.symm | (exact absurd rfl (hr _))
  subst this
  exact fin l k (.bl _)
theorem o2_notN : Op2 K (fun x y H Q => y = .non ∧ Q (.bl (!decide (x = .non))) H) dNotN := by
  intro G H a b c x y La Lb Q l ra rb e k
  have hr : (∀ v, a ≠ .raw v) := fun v z => by subst z; cases b <;> simp [dNotN] at e
  have hb : b = .non := by cases b <;> cases a <;> first | rfl | (simp [dNotN] at e)
  subst hb
  obtain ⟨rfl, _⟩ := rb.non_inv
  refine ⟨rfl, ?_⟩
  rw [isN_eq ra hr]
  have : c = .bl (!isNon a) := by cases a <;> simp [dNotN] at e <;> first | exact e.symm | (exact absurd rfl (hr _))
  subst this
  exact fin l k (.bl _)
end
end
end Pz

set_option Elab.async false
set_option linter.all false
set_option maxRecDepth 100000
set_option maxHeartbeats 1000000
namespace Pz
open PySem L2
noncomputable section

/-! ### items and slices -/
def dIx : D → D → Option D
  | .tup xs, .int i => atI xs i
  | .lst _ xs, .int i => atI xs i
  | .scr ns, .int i => (atI ns i).map .int
  | .str z, .int i => if lineOk z.length = true then (atI z.cps.toList i).map fun c => .str ⟨#[c]⟩ else none
  | _, _ => none
section
variable {K : PySem.W.Frag} {G H : Hp} {σ : St}
theorem Rps.atI {ds : List D} {vs : List V} {L : List Addr} {i : Int} {d : D} (r : Rps K G H ds vs L) (e : atI ds i = some d) : ∃ v L1, L2.atI vs i = some v ∧ Rp K G H d v L1 ∧ L1.Sublist L := by
  unfold L2.atI at e ⊢
  rw [← r.length]
  cases q : ixN ds.length i with
  | none => rw [q] at e; cases e
  | some j =>
    rw [q] at e
    obtain ⟨v, L1, h1, h2, h3⟩ := r.get (i := j) e
    exact ⟨v, L1, h1, h2, h3⟩
theorem atI_map {α β : Type} {f : α → β} {xs : List α} {i : Int} : atI (xs.map f) i = (atI xs i).map f := by
  unfold atI
  rw [List.length_map]
  cases q : ixN xs.length i with
  | none => rfl
  | some j => simp
end
section
variable {X : Cx} {a b : Expr} {FA FB : En → Option (D × En)} {o1 o2 s1 s2 : Bool} {pos p2 : Pos}
/-- an item, looked at -/
theorem ev_sub (ha : Ev X o1 s1 a FA) (hb : Ev X o2 s2 b FB) (hs : PlainIx b) (hm : o1 = true ∨ s2 = true := by first | exact .inl rfl | exact .inr rfl) : Ev X false (s1 && s2) (.Subscript a b pos) (b2 dIx FA FB) :=
  peM (pe_ix ix_seq ha hb hs) fun σ H Q h => by
    obtain ⟨G, env, L, R, d, env', hf, k⟩ := h
    obtain ⟨da, e1, db, h1, h2, h3⟩ := b2_some hf
    refine ⟨G, env, L, R, da, e1, h1, fun x G1 H1 L1 La R1 ra n1 st1 x1 => ⟨G1, e1, L1, R1, db, env', h2, fun y G2 H2 L2 Lb R2 rb n2 st2 x2 => ?_⟩⟩
    have ra2 : Rp X.K G2 H2 da x La := ra.mono x2.le (persist hm ra.own n1 R2 st2 x2)
    have fini : ∀ v L3, Rp X.K G2 H2 d v L3 → (∀ z ∈ L3, z ∈ La) → Q v H2 := fun v L3 r3 s3 =>
      k v G2 H2 L2 L3 R2 r3 (fun z => nomatch z) (st_trans st1 st2) ((ext_two x1 x2).sub fun z hz => (ext_two x1 x2).own z (by
        rcases List.mem_append.mp hz with q | q
        · exact List.mem_append_left _ q
        · exact List.mem_append_right _ (List.mem_append_left _ (s3 z q))))
    unfold dIx at h3
    split at h3
    · obtain ⟨p, vs, rfl, sa, qa⟩ := ra2.tup_inv
      obtain ⟨rfl, _⟩ := rb.int_inv
      obtain ⟨v, L3, hv, r3, s3⟩ := qa.atI h3
      exact .inr (.inl ⟨p, vs, _, v, rfl, rfl, R2.le.sqT sa, hv, fini v L3 r3 fun z hz => s3.subset hz⟩)
    · obtain ⟨p, vs, L5, rfl, sa, qa, s5⟩ := ra2.lst_inv R2.le
      obtain ⟨rfl, _⟩ := rb.int_inv
      obtain ⟨v, L3, hv, r3, s3⟩ := qa.atI h3
      exact .inl ⟨p, vs, _, v, rfl, rfl, SqL.of sa, hv, fini v L3 r3 fun z hz => s5 z (s3.subset hz)⟩
    · rename_i ns i
      obtain ⟨p, rfl, rfl, sa⟩ := ra2.scr_inv
      obtain ⟨rfl, _⟩ := rb.int_inv
      cases q : atI ns i with
      | none => rw [q] at h3; cases h3
      | some m =>
        rw [q] at h3; cases h3
        exact .inl ⟨p, _, _, .int m, rfl, rfl, R2.le.sqL sa, by rw [atI_map, q]; rfl, fini _ [] (.int m) fun z hz => nomatch hz⟩
    · rename_i z i
      obtain ⟨rfl, rfl⟩ := ra2.str_inv
      obtain ⟨rfl, _⟩ := rb.int_inv
      split at h3
      · rename_i hl
        cases q : atI z.cps.toList i with
        | none => rw [q] at h3; cases h3
        | some c =>
          rw [q] at h3; cases h3
          exact .inr (.inr ⟨z, i, c, rfl, rfl, lineOk_le hl, q, fini _ [] (.str _) fun z hz => nomatch hz⟩)
      · cases h3
    · cases h3

/-- a slice's part -/
def tO (K : PySem.W.Frag) (st : Bool) (F : En → Option (Option Int × En)) : TO := fun σ H Q => ∃ G env L, RSt K σ G H env L ∧ ∃ d env', F env = some (d, env') ∧
  ∀ G' H' L', RSt K σ G' H' env' L' → (st = true → env' = env ∧ L' = L ∧ ∀ b, H b ≠ none → H' b = H b) → Ext L G H G' H' L' → Q d H'
abbrev Ov (X : Cx) (st : Bool) (e : Option Expr) (F : En → Option (Option Int × En)) : Prop := PO X e (tO X.K st F)
theorem poM {X : Cx} {e : Option Expr} {t u : TO} (h : PO X e t) (k : ∀ σ H Q, u σ H Q → t σ H Q) : PO X e u := ⟨fun pins s σ H Q I hw => h.run pins s σ H Q I (k σ H Q hw)⟩
def noPt : En → Option (Option Int × En) := fun env => some (none, env)
def ptI : D → Option (Option Int)
  | .int i => some (some i)
  | _ => none
def ptF (F : En → Option (D × En)) : En → Option (Option Int × En) := fun env => (F env).bind fun a => (ptI a.1).map fun i => (i, a.2)
theorem ov_none : Ov X true none noPt := poM po_none fun σ H Q ⟨G, env, L, R, d, env', hf, k⟩ => by
  cases hf
  exact k G H L R (fun _ => ⟨rfl, rfl, fun _ _ => rfl⟩) (Ext.refl fun b z => z)
theorem ov_some (h : Ev X o1 s1 a FA) : Ov X s1 (some a) (ptF FA) := poM (po_some h) fun σ H Q ⟨G, env, L, R, d, env', hf, k⟩ => by
  unfold ptF at hf
  cases q : FA env with
  | none => rw [q] at hf; simp at hf
  | some r =>
    obtain ⟨da, e1⟩ := r
    rw [q] at hf
    simp only [Option.bind_some] at hf
    cases da <;> simp only [ptI, Option.map_none, Option.map_some, reduceCtorEq] at hf
    rename_i i
    cases hf
    refine ⟨G, env, L, R, .int i, _, q, fun x G1 H1 L1 La R1 ra n1 st1 x1 => ?_⟩
    obtain ⟨rfl, rfl⟩ := ra.int_inv
    exact ⟨i, rfl, k G1 H1 L1 R1 st1 (by simpa using x1)⟩
def cutD {α : Type} (xs : List α) (lo hi : Option Int) : List α := (xs.drop (HT.sIx xs.length 0 lo)).take (HT.sIx xs.length xs.length hi - HT.sIx xs.length 0 lo)
def dSl : D → Option Int → Option Int → Option D
  | .tup xs, lo, hi => if D.pures xs = true then some (.tup (cutD xs lo hi)) else none
  | .lst _ xs, lo, hi => if D.pures xs = true then some (.lst true (cutD xs lo hi)) else none
  | .scr ns, lo, hi => some (.lst true ((cutD ns lo hi).map .int))
  | _, _, _ => none
theorem Rps.cut {K : PySem.W.Frag} {G H : Hp} {ds : List D} {vs : List V} {lo hi : Option Int} (r : Rps K G H ds vs []) : Rps K G H (cutD ds lo hi) (cutV vs lo hi) [] := by
  unfold cutD cutV
  rw [r.length]
  exact (r.drop _).take _
def bSl (FA : En → Option (D × En)) (FL FU : En → Option (Option Int × En)) : En → Option (D × En) := fun env => (FA env).bind fun a => (FL a.2).bind fun l => (FU l.2).bind fun u => (dSl a.1 l.1 u.1).map fun c => (c, u.2)
theorem ev_slice {lo hi : Option Expr} {FL FU : En → Option (Option Int × En)} (ha : Ev X o1 s1 a FA) (hl : Ov X true lo FL) (hu : Ov X true hi FU) : Ev X true s1 (.Subscript a (.Slice lo hi none p2) pos) (bSl FA FL FU) :=
  peM (pe_slice (sl_tupA.or sl_list) ha hl hu) fun σ H Q h => by
    obtain ⟨G, env, L, R, d, env', hf, k⟩ := h
    unfold bSl at hf
    cases q1 : FA env with
    | none => rw [q1] at hf; simp at hf
    | some r1 =>
    obtain ⟨da, e1⟩ := r1
    rw [q1] at hf
    simp only [Option.bind_some] at hf
    cases q2 : FL e1 with
    | none => rw [q2] at hf; simp at hf
    | some r2 =>
    obtain ⟨lo', e2⟩ := r2
    rw [q2] at hf
    simp only [Option.bind_some] at hf
    cases q3 : FU e2 with
    | none => rw [q3] at hf; simp at hf
    | some r3 =>
    obtain ⟨hi', e3⟩ := r3
    rw [q3] at hf
    simp only [Option.bind_some] at hf
    cases q4 : dSl da lo' hi' with
    | none => rw [q4] at hf; simp at hf
    | some c =>
    rw [q4] at hf
    simp only [Option.map_some, Option.some.injEq, Prod.mk.injEq] at hf
    obtain ⟨rfl, rfl⟩ := hf
    refine ⟨G, env, L, R, da, e1, q1, fun x G1 H1 L1 La R1 ra n1 st1 x1 => ⟨G1, e1, L1, R1, lo', e2, q2, fun G2 H2 L2 R2 st2 x2 => ⟨G2, e2, L2, R2, hi', e3, q3, fun G3 H3 L3 R3 st3 x3 => ?_⟩⟩⟩
    have ra2 : Rp X.K G2 H2 da x La := ra.mono x2.le (persist (L' := L2) (o1 := o1) (s2 := true) (.inr rfl) ra.own n1 R2 st2 x2)
    have ra3 : Rp X.K G3 H3 da x La := by
      obtain ⟨f1, f2, f3⟩ := st2 rfl
      subst f1 f2
      exact ra2.mono x3.le (persist (L' := L3) (o1 := o1) (s2 := true) (.inr rfl) ra2.own n1 R3 st3 x3)
    have stt : s1 = true → e3 = env ∧ L3 = L ∧ ∀ b, H b ≠ none → H3 b = H b := fun h => by
      have z := st_trans (st_trans st1 st2) st3
      exact z (by simp [h])
    have xx : Ext L G H G3 H3 L3 := by
      have y1 := ext_then x1 x2
      exact y1.trans x3 fun z hz => y1.own z hz
    have fini : ∀ v G4 H4 Lr, Fresh G3 H3 G4 H4 Lr → Rp X.K G4 H4 c v Lr → Q v H4 := fun v G4 H4 Lr fr rc =>
      k v G4 H4 L3 Lr (R3.fresh fr) rc (fun _ => fr.nodup R3.nd fun a z => (R3.rep.own a z).2) (st_fresh stt fr) (ext_fresh (La := []) (by simpa using xx) fr)
    unfold dSl at q4
    split at q4
    · split at q4
      · rename_i hp
        cases q4
        obtain ⟨p, vs, rfl, sa, qa⟩ := ra3.tup_inv
        obtain rfl := qa.pure_nil hp
        refine .inl ⟨p, vs, rfl, R3.le.sqT sa, fun w => ?_, fun w t nt => ?_⟩
        · have e : cutD _ lo' hi' = _ := show (List.drop _ _).take _ = _ from by rw [qa.length, w.1, w.2, List.drop_zero, Nat.sub_zero, List.take_of_length_le (Nat.le_of_eq qa.length)]
          rw [e] at fini
          exact fini _ _ _ _ (Fresh.refl R3.le) (.tup sa qa)
        · have f := Fresh.laid R3.le nt (.tup (cutV vs lo' hi'))
          exact fini _ _ _ _ f (.tup (.inl (.inl upd_same)) (qa.cut.fresh f))
      · cases q4
    · split at q4
      · rename_i hp
        cases q4
        obtain ⟨p, vs, L5, rfl, sa, qa, s5⟩ := ra3.lst_inv R3.le
        obtain rfl := qa.pure_nil hp
        refine .inr ⟨p, vs, rfl, SqL.of sa, fun t nt => ?_⟩
        have f := Fresh.lst R3.le nt (.lst (cutV vs lo' hi'))
        exact fini _ _ _ _ f (.lstO (R3.le.none nt) upd_same (qa.cut.fresh f))
      · cases q4
    · rename_i ns
      cases q4
      obtain ⟨p, rfl, rfl, sa⟩ := ra3.scr_inv
      refine .inr ⟨p, _, rfl, R3.le.sqL sa, fun t nt => ?_⟩
      have f := Fresh.lst R3.le nt (.lst (cutV (ns.map V.int) lo' hi'))
      refine fini _ _ _ _ f (.lstO (R3.le.none nt) upd_same ?_)
      have e : (cutD ns lo' hi').map V.int = cutV (ns.map V.int) lo' hi' := by
        unfold cutD cutV
        rw [List.length_map, List.map_take, List.map_drop]
      rw [← e]
      exact Rps.ints _
    · cases q4
end

/-! ### lists of arguments, displays -/
def aNil : En → Option (List D × En) := fun env => some ([], env)
def aCons (F : En → Option (D × En)) (FR : En → Option (List D × En)) : En → Option (List D × En) := fun env => (F env).bind fun a => (FR a.2).map fun r => (a.1 :: r.1, r.2)
def dTup (ds : List D) : Option D := if lineOk ds.length = true then some (.tup ds) else none
def dLst (ds : List D) : Option D := if lineOk ds.length = true then some (.lst true ds) else none
section
variable {X : Cx} {e : Expr} {es : List Expr} {F : En → Option (D × En)} {FR : En → Option (List D × En)} {o1 o2 s1 s2 o s : Bool} {pos : Pos}
theorem av_nil : Av X true true [] aNil := paM pa_nil fun σ H Q ⟨G, env, L, R, d, env', hf, k⟩ => by
  cases hf
  exact k [] G H L [] R .nil (fun _ => by simpa using R.nd) (fun _ => ⟨rfl, rfl, fun _ _ => rfl⟩) (Ext.refl fun b z => by simpa using z)
theorem av_cons (he : Ev X o1 s1 e F) (hr : Av X o2 s2 es FR) (hm : o1 = true ∨ s2 = true := by first | exact .inl rfl | exact .inr rfl) (hs : starEach (e :: es) X.env = (false, eval e X.env) :: starEach es X.env := by rfl) :
    Av X (o1 && o2) (s1 && s2) (e :: es) (aCons F FR) := paM (pa_cons he hr hs) fun σ H Q ⟨G, env, L, R, d, env', hf, k⟩ => by
  unfold aCons at hf
  cases q1 : F env with
  | none => rw [q1] at hf; simp at hf
  | some r1 =>
  obtain ⟨da, e1⟩ := r1
  rw [q1] at hf
  simp only [Option.bind_some] at hf
  cases q2 : FR e1 with
  | none => rw [q2] at hf; simp at hf
  | some r2 =>
  obtain ⟨dr, e2⟩ := r2
  rw [q2] at hf
  simp only [Option.map_some, Option.some.injEq, Prod.mk.injEq] at hf
  obtain ⟨rfl, rfl⟩ := hf
  refine ⟨G, env, L, R, da, e1, q1, fun x G1 H1 L1 La R1 ra n1 st1 x1 => ⟨G1, e1, L1, R1, dr, _, q2, fun y G2 H2 L2 Lb R2 rb n2 st2 x2 => ?_⟩⟩
  have ra2 : Rp X.K G2 H2 da x La := ra.mono x2.le (persist hm ra.own n1 R2 st2 x2)
  refine k (x :: y) G2 H2 L2 (La ++ Lb) R2 (.cons ra2 rb) (fun ho => ?_) (st_trans st1 st2) (ext_two x1 x2)
  obtain ⟨h1, h2⟩ := Bool.and_eq_true_iff.mp ho
  have n1' := n1 h1
  have n2' := n2 h2
  have a1 := List.nodup_append.mp n1'
  have a2 := List.nodup_append.mp n2'
  have apart : ∀ z ∈ La, z ∉ L2 ++ Lb := fun z hz hz2 => by
    rcases x2.own z hz2 with w | w
    · exact a1.2.2 z w z hz rfl
    · exact (ra.own z hz).2 w
  refine List.nodup_append.mpr ⟨a2.1, List.nodup_append.mpr ⟨a1.2.1, a2.2.1, fun z hz y hy e => ?_⟩, fun z hz y hy e => ?_⟩
  · subst e; exact apart z hz (List.mem_append_right _ hy)
  · subst e
    rcases List.mem_append.mp hy with w | w
    · exact apart z w (List.mem_append_left _ hz)
    · exact a2.2.2 z hz z w rfl
theorem bN_lift {K : PySem.W.Frag} {f : List D → Option D} {r : List V → Hp → VK → Prop} (ho : OpN K r f) (σ : St) (H : Hp) (Q : VK) (h : tE K true s (bN f FR) σ H Q) : tA K o s FR σ H (fun vs H1 => r vs H1 Q) := by
  obtain ⟨G, env, L, R, d, env', hf, k⟩ := h
  obtain ⟨da, h1, h3⟩ := bN_some hf
  refine ⟨G, env, L, R, da, env', h1, fun x G1 H1 L1 La R1 ra n1 st1 x1 => ho R1.le ra h3 fun v G3 H3 Lr fr rc => ?_⟩
  exact k v G3 H3 L1 Lr (R1.fresh fr) rc (fun _ => fr.nodup R1.nd fun a z => (R1.rep.own a z).2) (st_fresh st1 fr) (ext_fresh x1 fr)
theorem ev_tup {x1} (h : Av X true s es FR) : Ev X true s (.Tuple es x1 pos) (bN dTup FR) := peM (pe_tup h) fun σ H Q hw => by
  obtain ⟨G, env, L, R, d, env', hf, k⟩ := hw
  obtain ⟨da, h1, h3⟩ := bN_some hf
  refine ⟨G, env, L, R, da, env', h1, fun x G1 H1 L1 La R1 ra n1 st1 x1 => ?_⟩
  unfold dTup at h3
  split at h3
  · rename_i hl
    cases h3
    refine ⟨by rw [← ra.length]; exact lineOk_le hl, fun p np => ?_⟩
    have f := Fresh.laid R1.le np (.tup x)
    exact k _ _ _ L1 La (R1.fresh f) (.tup (.inl (.inl upd_same)) (ra.fresh f)) n1 (st_fresh st1 f) (x1.trans (f.ext' fun z hz => .inl hz) fun z hz => x1.own z hz)
  · cases h3
theorem ev_lst (h : Av X true s es FR) : Ev X true s (.List es pos) (bN dLst FR) := peM (pe_lst h) fun σ H Q hw => by
  obtain ⟨G, env, L, R, d, env', hf, k⟩ := hw
  obtain ⟨da, h1, h3⟩ := bN_some hf
  refine ⟨G, env, L, R, da, env', h1, fun x G1 H1 L1 La R1 ra n1 st1 x1 => ?_⟩
  unfold dLst at h3
  split at h3
  · rename_i hl
    cases h3
    refine ⟨by rw [← ra.length]; exact lineOk_le hl, fun p np => ?_⟩
    have f := Fresh.lst R1.le np (.lst x)
    refine k _ _ _ L1 (p :: La) (R1.fresh f) (.lstO (R1.le.none np) upd_same (ra.fresh f)) (fun ho => ?_) (st_fresh st1 f) (x1.trans (f.ext' (L := L1 ++ La) fun z hz => ?_) fun z hz => x1.own z hz)
    · have nn := n1 ho
      have pn : p ∉ L1 ++ La := fun z => by
        rcases List.mem_append.mp z with z | z
        · exact (R1.rep.own p z).2 np
        · exact (ra.own p z).2 np
      rw [List.nodup_append] at nn ⊢
      refine ⟨nn.1, List.nodup_cons.mpr ⟨fun z => pn (List.mem_append_right _ z), nn.2.1⟩, fun z hz y hy e => ?_⟩
      subst e
      rcases List.mem_cons.mp hy with w | w
      · subst w; exact pn (List.mem_append_left _ hz)
      · exact nn.2.2 z hz z w rfl
    · rcases List.mem_append.mp hz with w | w
      · exact .inl (List.mem_append_left _ w)
      · rcases List.mem_cons.mp w with q | q
        · subst q; exact .inr np
        · exact .inl (List.mem_append_right _ q)
  · cases h3
/-- a call of a built-in by its name -/
theorem ev_callB {x : Str} {p : Pos} {id : String} {r : List V → Hp → VK → Prop} {f : List D → Option D} (hc : CallR X (.builtin id) r) (hf : OpN X.K r f) (hg : Gl X x) (hm : X.mg x = none) (hv : bootBuiltins x = some (.builtin id)) (ha : Av X o s (e :: es) FR)
    (hn : x ≠ "__name__" := by decide) (hdb : (x == ("__debug__" : Str)) = false := by decide)
    (he : starEach (e :: es) X.env = (false, eval e X.env) :: starEach es X.env := by rfl) (hpl : (backTo pos (starEach es X.env)).any (·.1) = false := by rfl) : Ev X true s (.Call (.Name x p) (e :: es) [] pos) (bN f FR) := peM (pe_callB hc hg hm hv ha hn hdb he hpl) (bN_lift hf)
theorem ev_callTy {x : Str} {p : Pos} {T : String} {r : List V → Hp → VK → Prop} {f : List D → Option D} (hc : CallR X (.type T) r) (hf : OpN X.K r f) (hg : Gl X x) (hm : X.mg x = none) (hv : bootBuiltins x = some (.type T)) (ha : Av X o s (e :: es) FR)
    (hn : x ≠ "__name__" := by decide) (hdb : (x == ("__debug__" : Str)) = false := by decide)
    (he : starEach (e :: es) X.env = (false, eval e X.env) :: starEach es X.env := by rfl) (hpl : (backTo pos (starEach es X.env)).any (·.1) = false := by rfl) : Ev X true s (.Call (.Name x p) (e :: es) [] pos) (bN f FR) := peM (pe_callTy hc hg hm hv ha hn hdb he hpl) (bN_lift hf)
end
end
end Pz

set_option Elab.async false
set_option linter.all false
set_option maxRecDepth 100000
set_option maxHeartbeats 1000000
namespace Pz
open PySem L2
noncomputable section

def asB : D → Option Bool
  | .bl b => some b
  | _ => none
def dTru : D → Option Bool
  | .non => some false
  | .bl b => some b
  | .int i => some (i != 0)
  | .str x => if lineOk x.length = true then some ((x.length : Int) != 0) else none
  | .scr ns => some (!ns.isEmpty)
  | .tup xs => some (!xs.isEmpty)
  | .lst _ xs => some (!xs.isEmpty)
  | _ => none
def tbF (F : En → Option (D × En)) : En → Option (Bool × En) := fun env => (F env).bind fun a => (asB a.1).map fun b => (b, a.2)
def ttF (F : En → Option (D × En)) : En → Option (Bool × En) := fun env => (F env).bind fun a => (dTru a.1).map fun b => (b, a.2)
theorem t_some {f : D → Option Bool} {F : En → Option (D × En)} {env env' : En} {b : Bool} (h : ((F env).bind fun a => (f a.1).map fun b => (b, a.2)) = some (b, env')) : ∃ a, F env = some (a, env') ∧ f a = some b := by
  cases q : F env with
  | none => rw [q] at h; simp at h
  | some a =>
    rw [q] at h; simp only [Option.bind_some] at h
    cases q3 : f a.1 with
    | none => rw [q3] at h; simp at h
    | some c => rw [q3] at h; simp at h; obtain ⟨rfl, rfl⟩ := h; exact ⟨a.1, rfl, q3⟩
section
variable {K : PySem.W.Frag} {G H : Hp} {σ : St} {F : En → Option (D × En)} {o s : Bool}
theorem tb_lift (Q : Bool → Hp → Prop) (h : tT K s (tbF F) σ H Q) (o : Bool) : tE K o s F σ H (fun x H' => ∃ k, x = .bl k ∧ Q k H') := by
  obtain ⟨G, env, L, R, d, env', hf, k⟩ := h
  obtain ⟨a, h1, h2⟩ := t_some hf
  refine ⟨G, env, L, R, a, env', h1, fun v G1 H1 L1 La R1 ra n1 st1 x1 => ?_⟩
  cases a <;> simp only [asB, reduceCtorEq] at h2
  cases h2
  obtain ⟨rfl, rfl⟩ := ra.bl_inv
  exact ⟨_, rfl, k G1 H1 L1 R1 st1 (by simpa using x1)⟩
theorem isEmpty_len {α β : Type} {xs : List α} {ys : List β} (h : xs.length = ys.length) : xs.isEmpty = ys.isEmpty := by
  cases xs <;> cases ys <;> first | rfl | (simp at h)
theorem dTru_ok {a : D} {x : V} {L : List Addr} {b : Bool} (r : Rp K G H a x L) (l : Le G H) (h : dTru a = some b) : TruV K x H b := by
  cases a <;> simp only [dTru, reduceCtorEq] at h
  · cases h; obtain ⟨rfl, _⟩ := r.non_inv; rfl
  · cases h; obtain ⟨rfl, _⟩ := r.bl_inv; rfl
  · cases h; obtain ⟨rfl, _⟩ := r.int_inv; rfl
  · split at h
    · rename_i hl; cases h; obtain ⟨rfl, _⟩ := r.str_inv; exact ⟨lineOk_le hl, rfl⟩
    · cases h
  · cases h
    obtain ⟨p, rfl, _, sa⟩ := r.scr_inv
    exact .inl ⟨_, l.sqL sa, by rw [isEmpty_len (List.length_map (as := _) V.int)]⟩
  · cases h
    obtain ⟨p, vs, rfl, sa, qa⟩ := r.tup_inv
    exact .inr (.inl ⟨vs, l.sqT sa, by rw [isEmpty_len qa.length]⟩)
  · cases h
    obtain ⟨p, vs, L1, rfl, sa, qa, _⟩ := r.lst_inv l
    exact .inl ⟨vs, SqL.of sa, by rw [isEmpty_len qa.length]⟩
theorem tt_lift (Q : Bool → Hp → Prop) (h : tT K s (ttF F) σ H Q) (o : Bool) : tE K o s F σ H (fun x H' => ∃ k, TruV K x H' k ∧ Q k H') := by
  obtain ⟨G, env, L, R, d, env', hf, k⟩ := h
  obtain ⟨a, h1, h2⟩ := t_some hf
  refine ⟨G, env, L, R, a, env', h1, fun v G1 H1 L1 La R1 ra n1 st1 x1 => ⟨d, dTru_ok ra R1.le h2, k G1 H1 L1 R1 st1 (x1.sub fun z hz => x1.own z (List.mem_append_left _ hz))⟩⟩
end
section
variable {X : Cx} {a b c : Expr} {FA FB : En → Option (D × En)} {TA' TB : En → Option (Bool × En)} {o o1 o2 s s1 s2 s3 : Bool} {pos : Pos} {rest : List Expr}
theorem tv_cmp {op : CmpOp} {r : R2} {f : D → D → Option D} (hr : OpR X (compareOp op) r) (ho : Op2 X.K r f) (ha : Ev X o1 s1 a FA) (hb : Ev X o2 s2 b FB) (hk : behindInMarks op b = false)
    (hm : o1 = true ∨ s2 = true := by first | exact .inl rfl | exact .inr rfl) : Tv X (s1 && s2) (.Compare a [op] [b] pos) (tbF (b2 f FA FB)) :=
  ptM (pt_cmpR hr ha hb hk) fun σ H Q h => op2_lift ho hm σ H _ (tb_lift Q h true)
/-- an expression whose test is its value's truth -/
theorem tv_tru (ha : Ev X o s a FA) (he : ∀ whole, isTrue a X.env whole = (do let v ← whole; standAt a.pos; holding [v] (truthy v)) := by intro _; rfl) : Tv X s a (ttF FA) :=
  ptM (pt_truth ha he) fun σ H Q h => tt_lift Q h o
def andF (FA FB : En → Option (Bool × En)) : En → Option (Bool × En) := fun env => (FA env).bind fun a => if a.1 = true then FB a.2 else some (false, a.2)
def orF (FA FB : En → Option (Bool × En)) : En → Option (Bool × En) := fun env => (FA env).bind fun a => if a.1 = true then some (true, a.2) else FB a.2
def notF (FA : En → Option (Bool × En)) : En → Option (Bool × En) := fun env => (FA env).map fun a => (!a.1, a.2)
theorem wv_and1 (ha : Tv X s a TA') : Wv X s (.BoolOp .And [a] pos) TA' := pw_and1 ha
theorem wv_or1 (ha : Tv X s a TA') : Wv X s (.BoolOp .Or [a] pos) TA' := pw_or1 ha
theorem st_left {s1 s2 : Bool} {env e1 : En} {L L1 : List Addr} {H H1 : Hp} (st : s1 = true → e1 = env ∧ L1 = L ∧ ∀ b, H b ≠ none → H1 b = H b) : (s1 && s2) = true → e1 = env ∧ L1 = L ∧ ∀ b, H b ≠ none → H1 b = H b := fun h => st (Bool.and_eq_true_iff.mp h).1
theorem wv_and (ha : Tv X s1 a TA') (hb : Wv X s2 (.BoolOp .And (b :: rest) pos) TB) : Wv X (s1 && s2) (.BoolOp .And (a :: b :: rest) pos) (andF TA' TB) :=
  pwM (pw_and ha hb) fun σ H Q ⟨G, env, L, R, d, env', hf, k⟩ => by
    unfold andF at hf
    cases q : TA' env with
    | none => rw [q] at hf; simp at hf
    | some r =>
      obtain ⟨c, e1⟩ := r
      rw [q] at hf
      simp only [Option.bind_some] at hf
      refine ⟨G, env, L, R, c, e1, q, fun G1 H1 L1 R1 st1 x1 => ?_⟩
      cases c with
      | true =>
        rw [if_pos rfl] at hf ⊢
        exact ⟨G1, e1, L1, R1, d, env', hf, fun G2 H2 L2 R2 st2 x2 => k G2 H2 L2 R2 (st_trans st1 st2) (x1.trans x2 fun z hz => x1.own z hz)⟩
      | false =>
        rw [if_neg (by decide)] at hf ⊢
        cases hf
        exact k G1 H1 L1 R1 (st_left st1) x1
theorem wv_or (ha : Tv X s1 a TA') (hb : Wv X s2 (.BoolOp .Or (b :: rest) pos) TB) : Wv X (s1 && s2) (.BoolOp .Or (a :: b :: rest) pos) (orF TA' TB) :=
  pwM (pw_or ha hb) fun σ H Q ⟨G, env, L, R, d, env', hf, k⟩ => by
    unfold orF at hf
    cases q : TA' env with
    | none => rw [q] at hf; simp at hf
    | some r =>
      obtain ⟨c, e1⟩ := r
      rw [q] at hf
      simp only [Option.bind_some] at hf
      refine ⟨G, env, L, R, c, e1, q, fun G1 H1 L1 R1 st1 x1 => ?_⟩
      cases c with
      | false =>
        rw [if_neg (by decide)] at hf ⊢
        exact ⟨G1, e1, L1, R1, d, env', hf, fun G2 H2 L2 R2 st2 x2 => k G2 H2 L2 R2 (st_trans st1 st2) (x1.trans x2 fun z hz => x1.own z hz)⟩
      | true =>
        rw [if_pos rfl] at hf ⊢
        cases hf
        exact k G1 H1 L1 R1 (st_left st1) x1
theorem tv_w (h : Wv X s a TA') : Tv X s a TA' := h.pt
theorem tv_not (ha : Tv X s a TA') : Tv X s (.UnaryOp .Not a pos) (notF TA') := ptM (pt_not ha) fun σ H Q ⟨G, env, L, R, d, env', hf, k⟩ => by
  unfold notF at hf
  cases q : TA' env with
  | none => rw [q] at hf; simp at hf
  | some r =>
    rw [q] at hf
    cases hf
    exact ⟨G, env, L, R, r.1, r.2, q, fun G1 H1 L1 R1 st1 x1 => k G1 H1 L1 R1 st1 x1⟩

/-! ### as values -/
def andV (FA FB : En → Option (D × En)) : En → Option (D × En) := fun env => (FA env).bind fun a => (dTru a.1).bind fun k => if k = true then FB a.2 else some a
def orV (FA FB : En → Option (D × En)) : En → Option (D × En) := fun env => (FA env).bind fun a => (dTru a.1).bind fun k => if k = true then some a else FB a.2
def ifF (FC : En → Option (Bool × En)) (FA FB : En → Option (D × En)) : En → Option (D × En) := fun env => (FC env).bind fun c => if c.1 = true then FA c.2 else FB c.2
def dNot (d : D) : Option D := (dTru d).map fun k => .bl (!k)
theorem ev_one {op} (h : Ev X o s a FA) : Ev X o s (.BoolOp op [a] pos) FA := pe_one h
theorem ev_and (ha : Ev X o s1 a FA) (hb : Ev X o s2 (.BoolOp .And (b :: rest) pos) FB) : Ev X o (s1 && s2) (.BoolOp .And (a :: b :: rest) pos) (andV FA FB) :=
  peM (pe_andT ha hb) fun σ H Q ⟨G, env, L, R, d, env', hf, k⟩ => by
    unfold andV at hf
    cases q : FA env with
    | none => rw [q] at hf; simp at hf
    | some r =>
      obtain ⟨da, e1⟩ := r
      rw [q] at hf
      simp only [Option.bind_some] at hf
      cases q2 : dTru da with
      | none => rw [q2] at hf; simp at hf
      | some c =>
      rw [q2] at hf
      simp only [Option.bind_some] at hf
      refine ⟨G, env, L, R, da, e1, q, fun x G1 H1 L1 La R1 ra n1 st1 x1 => ⟨c, dTru_ok ra R1.le q2, ?_⟩⟩
      cases c with
      | true =>
        rw [if_pos rfl] at hf ⊢
        refine ⟨G1, e1, L1, R1, d, env', hf, fun y G2 H2 L2 Lb R2 rb n2 st2 x2 => k y G2 H2 L2 Lb R2 rb n2 (st_trans st1 st2) (ext_then x1 x2)⟩
      | false =>
        rw [if_neg (by decide)] at hf ⊢
        cases hf
        exact k x G1 H1 L1 La R1 ra n1 (st_left st1) x1
theorem ev_or (ha : Ev X o s1 a FA) (hb : Ev X o s2 (.BoolOp .Or (b :: rest) pos) FB) : Ev X o (s1 && s2) (.BoolOp .Or (a :: b :: rest) pos) (orV FA FB) :=
  peM (pe_orT ha hb) fun σ H Q ⟨G, env, L, R, d, env', hf, k⟩ => by
    unfold orV at hf
    cases q : FA env with
    | none => rw [q] at hf; simp at hf
    | some r =>
      obtain ⟨da, e1⟩ := r
      rw [q] at hf
      simp only [Option.bind_some] at hf
      cases q2 : dTru da with
      | none => rw [q2] at hf; simp at hf
      | some c =>
      rw [q2] at hf
      simp only [Option.bind_some] at hf
      refine ⟨G, env, L, R, da, e1, q, fun x G1 H1 L1 La R1 ra n1 st1 x1 => ⟨c, dTru_ok ra R1.le q2, ?_⟩⟩
      cases c with
      | false =>
        rw [if_neg (by decide)] at hf ⊢
        refine ⟨G1, e1, L1, R1, d, env', hf, fun y G2 H2 L2 Lb R2 rb n2 st2 x2 => k y G2 H2 L2 Lb R2 rb n2 (st_trans st1 st2) (ext_then x1 x2)⟩
      | true =>
        rw [if_pos rfl] at hf ⊢
        cases hf
        exact k x G1 H1 L1 La R1 ra n1 (st_left st1) x1
theorem ev_not (ha : Ev X o s a FA) : Ev X true s (.UnaryOp .Not a pos) (b1 dNot FA) := peM (pe_notT ha) fun σ H Q h => by
  obtain ⟨G, env, L, R, d, env', hf, k⟩ := h
  obtain ⟨da, h1, h3⟩ := b1_some hf
  unfold dNot at h3
  cases q : dTru da with
  | none => rw [q] at h3; cases h3
  | some c =>
    rw [q] at h3; cases h3
    exact ⟨G, env, L, R, da, env', h1, fun x G1 H1 L1 La R1 ra n1 st1 x1 => ⟨c, dTru_ok ra R1.le q, k _ G1 H1 L1 [] R1 (.bl _) (fun _ => by simpa using R1.nd) st1 (x1.sub fun z hz => x1.own z (List.mem_append_left _ (by simpa using hz)))⟩⟩
theorem ev_if (hc : Tv X s1 c TA') (ha : Ev X o s2 a FA) (hb : Ev X o s3 b FB) : Ev X o (s1 && (s2 && s3)) (.IfExp c a b pos) (ifF TA' FA FB) :=
  peM (pe_ifExp hc ha hb) fun σ H Q ⟨G, env, L, R, d, env', hf, k⟩ => by
    unfold ifF at hf
    cases q : TA' env with
    | none => rw [q] at hf; simp at hf
    | some r =>
      obtain ⟨c, e1⟩ := r
      rw [q] at hf
      simp only [Option.bind_some] at hf
      refine ⟨G, env, L, R, c, e1, q, fun G1 H1 L1 R1 st1 x1 => ?_⟩
      have x1' : Ext L G H G1 H1 (L1 ++ []) := by simpa using x1
      cases c with
      | true =>
        rw [if_pos rfl] at hf
        show (if true = true then _ else _)
        rw [if_pos rfl]
        refine ⟨G1, e1, L1, R1, d, env', hf, fun y G2 H2 L2 Lb R2 rb n2 st2 x2 => k y G2 H2 L2 Lb R2 rb n2 (fun h => ?_) (ext_then x1' x2)⟩
        obtain ⟨h1, h2⟩ := Bool.and_eq_true_iff.mp h
        exact st_trans st1 st2 (by simp [h1, (Bool.and_eq_true_iff.mp h2).1])
      | false =>
        rw [if_neg (by decide)] at hf
        show (if false = true then _ else _)
        rw [if_neg (by decide)]
        refine ⟨G1, e1, L1, R1, d, env', hf, fun y G2 H2 L2 Lb R2 rb n2 st2 x2 => k y G2 H2 L2 Lb R2 rb n2 (fun h => ?_) (ext_then x1' x2)⟩
        obtain ⟨h1, h2⟩ := Bool.and_eq_true_iff.mp h
        exact st_trans st1 st2 (by simp [h1, (Bool.and_eq_true_iff.mp h2).2])
/-- chains a < b < c -/
def chF (f g : D → D → Option D) (FA FB FC : En → Option (D × En)) : En → Option (D × En) := fun env => (FA env).bind fun a => (FB a.2).bind fun b => (f a.1 b.1).bind fun r => (asB r).bind fun k =>
  if k = true then (FC b.2).bind fun c => (g b.1 c.1).map fun z => (z, c.2) else some (.bl false, b.2)
theorem chain_lift {op op' : CmpOp} {r r' : R2} {f g : D → D → Option D} {FC : En → Option (D × En)} {K : PySem.W.Frag} (ho : Op2 K r f) (ho' : Op2 K r' g) (σ : St) (H : Hp) (Q : VK) (h : tE K true (s1 && (s2 && s3)) (chF f g FA FB FC) σ H Q) :
    tChain r r' (tE K true s1 FA) (tE K true s2 FB) (tE K true s3 FC) σ H Q := by
  obtain ⟨G, env, L, R, d, env', hf, k⟩ := h
  unfold chF at hf
  cases q : FA env with
  | none => rw [q] at hf; simp at hf
  | some r1 =>
  obtain ⟨da, e1⟩ := r1
  rw [q] at hf
  simp only [Option.bind_some] at hf
  cases q2 : FB e1 with
  | none => rw [q2] at hf; simp at hf
  | some r2 =>
  obtain ⟨db, e2⟩ := r2
  rw [q2] at hf
  simp only [Option.bind_some] at hf
  cases q3 : f da db with
  | none => rw [q3] at hf; simp at hf
  | some t =>
  rw [q3] at hf
  simp only [Option.bind_some] at hf
  cases t <;> simp only [asB, Option.bind_none, Option.bind_some, reduceCtorEq] at hf
  rename_i kk
  refine ⟨G, env, L, R, da, e1, q, fun x G1 H1 L1 La R1 ra n1 st1 x1 => ⟨G1, e1, L1, R1, db, e2, q2, fun y G2 H2 L2 Lb R2 rb n2 st2 x2 => ?_⟩⟩
  have ra2 : Rp K G2 H2 da x La := ra.mono x2.le (persist (s2 := s2) (.inl rfl) ra.own n1 R2 st2 x2)
  refine ho R2.le ra2 rb q3 fun v G3 H3 Lr fr rc => ?_
  obtain ⟨rfl, rfl⟩ := rc.bl_inv
  refine ⟨kk, rfl, ?_⟩
  have R3 := R2.fresh fr
  have x3 : Ext L G H G3 H3 (L2 ++ Lb) := (ext_then x1 x2).trans (fr.ext' fun z hz => .inl hz) fun z hz => (ext_then x1 x2).own z hz
  have st3 := st_fresh (st_trans st1 st2) fr
  cases kk with
  | true =>
    rw [if_pos rfl] at hf ⊢
    cases q4 : FC e2 with
    | none => rw [q4] at hf; simp at hf
    | some r4 =>
    obtain ⟨dc, e3⟩ := r4
    rw [q4] at hf
    simp only [Option.bind_some] at hf
    cases q5 : g db dc with
    | none => rw [q5] at hf; simp at hf
    | some z =>
    rw [q5] at hf
    simp only [Option.map_some, Option.some.injEq, Prod.mk.injEq] at hf
    obtain ⟨rfl, rfl⟩ := hf
    refine ⟨G3, e2, L2, R3, dc, e3, q4, fun w G4 H4 L4 Lc R4 rc4 n4 st4 x4 => ?_⟩
    have rb3 := rb.fresh fr
    have rb4 : Rp K G4 H4 db y Lb := rb3.mono x4.le (persist (s2 := s3) (.inl rfl) rb3.own n2 R4 st4 x4)
    refine ho' R4.le rb4 rc4 q5 fun v5 G5 H5 L5 fr5 rc5 => ?_
    exact k v5 G5 H5 L4 L5 (R4.fresh fr5) rc5 (fun _ => fr5.nodup R4.nd fun a z => (R4.rep.own a z).2) (st_fresh (fun h => st_trans st3 st4 (by
      revert h; cases s1 <;> cases s2 <;> cases s3 <;> simp)) fr5) (ext_fresh (ext_then x3 x4) fr5)
  | false =>
    rw [if_neg (by decide)] at hf ⊢
    cases hf
    exact k _ G3 H3 L2 [] R3 (.bl _) (fun _ => by simpa using R3.nd) (fun h => st3 (by revert h; cases s1 <;> cases s2 <;> cases s3 <;> simp)) (x3.sub fun z hz => x3.own z (List.mem_append_left _ (by simpa using hz)))
theorem ev_chain {op op' : CmpOp} {r r' : R2} {f g : D → D → Option D} {FC : En → Option (D × En)} (hr : OpR X (compareOp op) r) (hr' : OpR X (compareOp op') r') (ho : Op2 X.K r f) (ho' : Op2 X.K r' g) (ha : Ev X true s1 a FA) (hb : Ev X true s2 b FB) (hc : Ev X true s3 c FC)
    (hm : lastMarks [op, op'] [b, c] = false := by with_unfolding_all rfl) : Ev X true (s1 && (s2 && s3)) (.Compare a [op, op'] [b, c] pos) (chF f g FA FB FC) := peM (pe_chain hr hr' ha hb hc hm) (chain_lift (op := op) (op' := op') ho ho')
theorem tv_chain {op op' : CmpOp} {r r' : R2} {f g : D → D → Option D} {FC : En → Option (D × En)} (hr : OpR X (compareOp op) r) (hr' : OpR X (compareOp op') r') (ho : Op2 X.K r f) (ho' : Op2 X.K r' g) (ha : Ev X true s1 a FA) (hb : Ev X true s2 b FB) (hc : Ev X true s3 c FC)
    (hm : lastMarks [op, op'] [b, c] = false := by with_unfolding_all rfl) : Tv X (s1 && (s2 && s3)) (.Compare a [op, op'] [b, c] pos) (tbF (chF f g FA FB FC)) := ptM (pt_chain hr hr' ha hb hc hm) fun σ H Q h => chain_lift (op := op) (op' := op') ho ho' σ H _ (tb_lift Q h true)
end

/-! ### built-ins -/
def boolsOf : List D → Option (List Bool)
  | [] => some []
  | .bl i :: r => (boolsOf r).map (i :: ·)
  | _ :: _ => none
theorem boolsOf_eq : ∀ {ds : List D} {ns : List Bool}, boolsOf ds = some ns → ds = ns.map D.bl
  | [], _, h => by cases h; rfl
  | d :: r, ns, h => by
    cases d <;> simp only [boolsOf] at h <;> try (cases h)
    rename_i i
    cases q : boolsOf r with
    | none => rw [q] at h; cases h
    | some ms =>
      rw [q] at h; cases h
      rw [boolsOf_eq q]; rfl
theorem boolsOf_map : ∀ ns : List Bool, boolsOf (ns.map D.bl) = some ns
  | [] => rfl
  | n :: ns => by simp [boolsOf, boolsOf_map ns]
def fLen : List D → Option D
  | [.tup xs] => some (.int xs.length)
  | [.lst _ xs] => some (.int xs.length)
  | [.scr xs] => some (.int xs.length)
  | [.str x] => if lineOk x.length = true then some (.int x.length) else none
  | _ => none
def fAbs : List D → Option D
  | [.int i] => some (.int (if i < 0 then -i else i))
  | _ => none
def fInt : List D → Option D
  | [.int i] => some (.int i)
  | [.bl b] => some (.int (if b = true then 1 else 0))
  | _ => none
def fMax2 : List D → Option D
  | [.int i, .int j] => some (.int (if j > i then j else i))
  | _ => none
def fMin2 : List D → Option D
  | [.int i, .int j] => some (.int (if j < i then j else i))
  | _ => none
def strOk (i : Int) : Bool := tst (i.natAbs.log2 < 1920)
def fStr : List D → Option D
  | [.int i] => if strOk i = true then some (.str (toString i)) else none
  | _ => none
def fList : List D → Option D
  | [.tup xs] => if D.pures xs = true then some (.lst true xs) else none
  | [.lst _ xs] => if D.pures xs = true then some (.lst true xs) else none
  | [.scr ns] => some (.lst true (ns.map .int))
  | _ => none
def fTuple : List D → Option D
  | [.tup xs] => if D.pures xs = true then some (.tup xs) else none
  | [.lst _ xs] => if D.pures xs = true then some (.tup xs) else none
  | [.scr ns] => some (.tup (ns.map .int))
  | _ => none
def fSum : List D → Option D
  | [.lst _ xs] => (intsOf xs).map fun ns => .int ns.sum
  | [.scr ns] => some (.int ns.sum)
  | _ => none
def fMaxL : List D → Option D
  | [.lst _ xs] => (intsOf xs).bind fun ns => ns.max?.map .int
  | _ => none
def fMinL : List D → Option D
  | [.lst _ xs] => (intsOf xs).bind fun ns => ns.min?.map .int
  | _ => none
def fAll : List D → Option D
  | [.lst _ xs] => (boolsOf xs).map fun bs => .bl (bs.all id)
  | _ => none
def fAny : List D → Option D
  | [.lst _ xs] => (boolsOf xs).map fun bs => .bl (bs.any id)
  | _ => none
def tyOf : D → Option String
  | .non => some "NoneType" | .bl _ => some "bool" | .int _ => some "int" | .str _ => some "str"
  | .scr _ => some "list" | .tup _ => some "tuple" | .lst _ _ => some "list" | _ => none
def fIsi : List D → Option D
  | [d, .raw (.ty n)] => (tyOf d).bind fun t => (kitB t n).map .bl
  | _ => none
def fBits : D → Option D
  | .int i => some (.int (Builtin.Int.intBits i : Nat))
  | _ => none
section
variable {X : Cx} {K : PySem.W.Frag} {G H : Hp}
theorem Rps.one {d : D} {x : List V} {L : List Addr} (r : Rps K G H [d] x L) : ∃ v, x = [v] ∧ Rp K G H d v L := by
  cases r with
  | @cons _ _ _ _ L1 L2 h hs => cases hs; exact ⟨_, rfl, by simpa using h⟩
theorem Rps.two {d e : D} {x : List V} {L : List Addr} (r : Rps K G H [d, e] x L) : ∃ v w L1 L2, x = [v, w] ∧ Rp K G H d v L1 ∧ Rp K G H e w L2 ∧ L = L1 ++ L2 := by
  cases r with
  | cons h hs => obtain ⟨w, rfl, h2⟩ := hs.one; exact ⟨_, _, _, _, rfl, h, h2, rfl⟩
theorem on_len : OpN K (fun xs H Q => ∃ x n, xs = [x] ∧ LenV K x H n ∧ Q (.int n) H) fLen := by
  intro G H a c x La Q l ra e k
  unfold fLen at e
  split at e
  · obtain ⟨v, rfl, r⟩ := ra.one
    obtain ⟨p, vs, rfl, sa, qa⟩ := r.tup_inv
    cases e
    exact ⟨_, vs.length, rfl, .inr ⟨vs, l.sqT sa, rfl⟩, by rw [← qa.length]; exact fin l k (.int _)⟩
  · obtain ⟨v, rfl, r⟩ := ra.one
    obtain ⟨p, vs, L1, rfl, sa, qa, _⟩ := r.lst_inv l
    cases e
    exact ⟨_, vs.length, rfl, .inl ⟨vs, SqL.of sa, rfl⟩, by rw [← qa.length]; exact fin l k (.int _)⟩
  · obtain ⟨v, rfl, r⟩ := ra.one
    obtain ⟨p, rfl, _, sa⟩ := r.scr_inv
    cases e
    exact ⟨_, _, rfl, .inl ⟨_, l.sqL sa, rfl⟩, by rw [List.length_map]; exact fin l k (.int _)⟩
  · split at e
    · rename_i hl
      obtain ⟨v, rfl, r⟩ := ra.one
      obtain ⟨rfl, _⟩ := r.str_inv
      cases e
      exact ⟨_, _, rfl, ⟨lineOk_le hl, rfl⟩, fin l k (.int _)⟩
    · cases e
  · cases e
theorem on_abs : OpN K (fun xs H Q => ∃ i, xs = [.int i] ∧ Q (.int (if i < 0 then -i else i)) H) fAbs := by
  intro G H a c x La Q l ra e k
  unfold fAbs at e
  split at e
  · obtain ⟨v, rfl, r⟩ := ra.one
    obtain ⟨rfl, _⟩ := r.int_inv
    cases e
    exact ⟨_, rfl, fin l k (.int _)⟩
  · cases e
theorem on_int : OpN K (fun xs H Q => (∃ i, xs = [.int i] ∧ Q (.int i) H) ∨ ∃ k, xs = [.bl k] ∧ Q (.int (if k then 1 else 0)) H) fInt := by
  intro G H a c x La Q l ra e k
  unfold fInt at e
  split at e
  · obtain ⟨v, rfl, r⟩ := ra.one
    obtain ⟨rfl, _⟩ := r.int_inv
    cases e
    exact .inl ⟨_, rfl, fin l k (.int _)⟩
  · obtain ⟨v, rfl, r⟩ := ra.one
    obtain ⟨rfl, _⟩ := r.bl_inv
    cases e
    exact .inr ⟨_, rfl, fin l k (.int _)⟩
  · cases e
theorem on_max2 : OpN K (fun xs H Q => ∃ i j, xs = [.int i, .int j] ∧ Q (.int (if j > i then j else i)) H) fMax2 := by
  intro G H a c x La Q l ra e k
  unfold fMax2 at e
  split at e
  · obtain ⟨v, w, L1, L2, rfl, r1, r2, _⟩ := ra.two
    obtain ⟨rfl, _⟩ := r1.int_inv
    obtain ⟨rfl, _⟩ := r2.int_inv
    cases e
    exact ⟨_, _, rfl, fin l k (.int _)⟩
  · cases e
theorem on_min2 : OpN K (fun xs H Q => ∃ i j, xs = [.int i, .int j] ∧ Q (.int (if j < i then j else i)) H) fMin2 := by
  intro G H a c x La Q l ra e k
  unfold fMin2 at e
  split at e
  · obtain ⟨v, w, L1, L2, rfl, r1, r2, _⟩ := ra.two
    obtain ⟨rfl, _⟩ := r1.int_inv
    obtain ⟨rfl, _⟩ := r2.int_inv
    cases e
    exact ⟨_, _, rfl, fin l k (.int _)⟩
  · cases e
theorem on_str : OpN K (fun xs H Q => ∃ i, xs = [.int i] ∧ i.natAbs.log2 < 1920 ∧ Q (.str (toString i)) H) fStr := by
  intro G H a c x La Q l ra e k
  unfold fStr at e
  split at e
  · split at e
    · rename_i hl
      obtain ⟨v, rfl, r⟩ := ra.one
      obtain ⟨rfl, _⟩ := r.int_inv
      cases e
      exact ⟨_, rfl, of_tst hl, fin l k (.str _)⟩
    · cases e
  · cases e
theorem on_list : OpN K (fun xs H Q => ∃ p ys, xs = [.ref p] ∧ (SqL K H p ys ∨ SqT K H p ys) ∧ ∀ l, H l = none → Q (.ref l) (upd H l (.lst ys))) fList := by
  intro G H a c x La Q l ra e k
  unfold fList at e
  split at e
  · split at e
    · rename_i hp
      obtain ⟨v, rfl, r⟩ := ra.one
      obtain ⟨p, vs, rfl, sa, qa⟩ := r.tup_inv
      obtain rfl := qa.pure_nil hp
      cases e
      refine ⟨p, vs, rfl, .inr (l.sqT sa), fun t nt => ?_⟩
      have f := Fresh.lst l nt (.lst vs)
      exact k _ _ _ _ f (.lstO (l.none nt) upd_same (qa.fresh f))
    · cases e
  · split at e
    · rename_i hp
      obtain ⟨v, rfl, r⟩ := ra.one
      obtain ⟨p, vs, L1, rfl, sa, qa, _⟩ := r.lst_inv l
      obtain rfl := qa.pure_nil hp
      cases e
      refine ⟨p, vs, rfl, .inl (SqL.of sa), fun t nt => ?_⟩
      have f := Fresh.lst l nt (.lst vs)
      exact k _ _ _ _ f (.lstO (l.none nt) upd_same (qa.fresh f))
    · cases e
  · rename_i ns
    obtain ⟨v, rfl, r⟩ := ra.one
    obtain ⟨p, rfl, _, sa⟩ := r.scr_inv
    cases e
    refine ⟨p, _, rfl, .inl (l.sqL sa), fun t nt => ?_⟩
    have f := Fresh.lst l nt (.lst (ns.map V.int))
    exact k _ _ _ _ f (.lstO (l.none nt) upd_same (Rps.ints _))
  · cases e
theorem on_tuple : OpN K (fun xs H Q => ∃ p ys, xs = [.ref p] ∧ ((SqL K H p ys ∧ ∀ l, H l = none → Q (.ref l) (upd H l (.tup ys))) ∨ (SqT K H p ys ∧ Q (.ref p) H))) fTuple := by
  intro G H a c x La Q l ra e k
  unfold fTuple at e
  split at e
  · split at e
    · rename_i hp
      obtain ⟨v, rfl, r⟩ := ra.one
      obtain ⟨p, vs, rfl, sa, qa⟩ := r.tup_inv
      obtain rfl := qa.pure_nil hp
      cases e
      exact ⟨p, vs, rfl, .inr ⟨l.sqT sa, fin l k (.tup sa qa)⟩⟩
    · cases e
  · split at e
    · rename_i hp
      obtain ⟨v, rfl, r⟩ := ra.one
      obtain ⟨p, vs, L1, rfl, sa, qa, _⟩ := r.lst_inv l
      obtain rfl := qa.pure_nil hp
      cases e
      refine ⟨p, vs, rfl, .inl ⟨SqL.of sa, fun t nt => ?_⟩⟩
      have f := Fresh.laid l nt (.tup vs)
      exact k _ _ _ _ f (.tup (.inl (.inl upd_same)) (qa.fresh f))
    · cases e
  · rename_i ns
    obtain ⟨v, rfl, r⟩ := ra.one
    obtain ⟨p, rfl, _, sa⟩ := r.scr_inv
    cases e
    refine ⟨p, _, rfl, .inl ⟨l.sqL sa, fun t nt => ?_⟩⟩
    have f := Fresh.laid l nt (.tup (ns.map V.int))
    exact k _ _ _ _ f (.tup (.inl (.inl upd_same)) (Rps.ints _))
  · cases e
/-- a list of ints, wherever it comes from -/
theorem lst_ints {o : Bool} {xs : List D} {ns : List Int} {v : V} {L : List Addr} (l : Le G H) (r : Rp K G H (.lst o xs) v L) (h : intsOf xs = some ns) : ∃ p, v = .ref p ∧ SqL K H p (ns.map V.int) := by
  obtain ⟨p, vs, L1, rfl, sa, qa, _⟩ := r.lst_inv l
  rw [intsOf_eq h] at qa
  obtain ⟨rfl, _⟩ := qa.ints_inv
  exact ⟨p, rfl, SqL.of sa⟩
theorem Rps.bls_inv : ∀ {ns : List Bool} {vs : List V} {L : List Addr}, Rps K G H (ns.map D.bl) vs L → vs = ns.map V.bl ∧ L = []
  | [], _, _, h => by cases h; exact ⟨rfl, rfl⟩
  | n :: ns, _, _, h => by
    cases h with
    | cons h hs =>
      obtain ⟨rfl, rfl⟩ := h.bl_inv
      obtain ⟨rfl, rfl⟩ := Rps.bls_inv hs
      exact ⟨rfl, rfl⟩
theorem lst_bools {o : Bool} {xs : List D} {ns : List Bool} {v : V} {L : List Addr} (l : Le G H) (r : Rp K G H (.lst o xs) v L) (h : boolsOf xs = some ns) : ∃ p, v = .ref p ∧ SqL K H p (ns.map V.bl) := by
  obtain ⟨p, vs, L1, rfl, sa, qa, _⟩ := r.lst_inv l
  rw [boolsOf_eq h] at qa
  obtain ⟨rfl, _⟩ := qa.bls_inv
  exact ⟨p, rfl, SqL.of sa⟩
theorem on_sum : OpN K (rSum K) fSum := by
  intro G H a c x La Q l ra e k
  unfold fSum at e
  split at e
  · rename_i o xs
    obtain ⟨v, rfl, r⟩ := ra.one
    cases q : intsOf xs with
    | none => rw [q] at e; cases e
    | some ns =>
      rw [q] at e; cases e
      obtain ⟨p, rfl, sa⟩ := lst_ints l r q
      exact ⟨p, ns, rfl, sa, fin l k (.int _)⟩
  · obtain ⟨v, rfl, r⟩ := ra.one
    obtain ⟨p, rfl, _, sa⟩ := r.scr_inv
    cases e
    exact ⟨p, _, rfl, l.sqL sa, fin l k (.int _)⟩
  · cases e
theorem on_max : OpN K (rMax K) fMaxL := by
  intro G H a c x La Q l ra e k
  unfold fMaxL at e
  split at e
  · rename_i o xs
    obtain ⟨v, rfl, r⟩ := ra.one
    cases q : intsOf xs with
    | none => rw [q] at e; cases e
    | some ns =>
      rw [q] at e
      simp only [Option.bind_some] at e
      cases q2 : ns.max? with
      | none => rw [q2] at e; cases e
      | some m =>
        rw [q2] at e; cases e
        obtain ⟨p, rfl, sa⟩ := lst_ints l r q
        obtain ⟨hm, hu⟩ := List.max?_eq_some_iff.mp q2
        refine ⟨p, ns, rfl, sa, List.length_pos_of_mem hm, fun m' h1 h2 => ?_⟩
        have : m' = m := Int.le_antisymm (hu m' h1) (h2 m hm)
        subst this
        exact fin l k (.int _)
  · cases e
theorem on_min : OpN K (rMin K) fMinL := by
  intro G H a c x La Q l ra e k
  unfold fMinL at e
  split at e
  · rename_i o xs
    obtain ⟨v, rfl, r⟩ := ra.one
    cases q : intsOf xs with
    | none => rw [q] at e; cases e
    | some ns =>
      rw [q] at e
      simp only [Option.bind_some] at e
      cases q2 : ns.min? with
      | none => rw [q2] at e; cases e
      | some m =>
        rw [q2] at e; cases e
        obtain ⟨p, rfl, sa⟩ := lst_ints l r q
        obtain ⟨hm, hu⟩ := List.min?_eq_some_iff.mp q2
        refine ⟨p, ns, rfl, sa, List.length_pos_of_mem hm, fun m' h1 h2 => ?_⟩
        have : m' = m := Int.le_antisymm (h2 m hm) (hu m' h1)
        subst this
        exact fin l k (.int _)
  · cases e
theorem on_all : OpN K (rAll K) fAll := by
  intro G H a c x La Q l ra e k
  unfold fAll at e
  split at e
  · rename_i o xs
    obtain ⟨v, rfl, r⟩ := ra.one
    cases q : boolsOf xs with
    | none => rw [q] at e; cases e
    | some ns =>
      rw [q] at e; cases e
      obtain ⟨p, rfl, sa⟩ := lst_bools l r q
      exact ⟨p, ns, rfl, sa, fin l k (.bl _)⟩
  · cases e
theorem on_any : OpN K (rAny K) fAny := by
  intro G H a c x La Q l ra e k
  unfold fAny at e
  split at e
  · rename_i o xs
    obtain ⟨v, rfl, r⟩ := ra.one
    cases q : boolsOf xs with
    | none => rw [q] at e; cases e
    | some ns =>
      rw [q] at e; cases e
      obtain ⟨p, rfl, sa⟩ := lst_bools l r q
      exact ⟨p, ns, rfl, sa, fin l k (.bl _)⟩
  · cases e
theorem tyOf_ok {d : D} {x : V} {L : List Addr} {t : String} (r : Rp K G H d x L) (l : Le G H) (h : tyOf d = some t) : TyX K H x (.type t) := by
  cases d <;> simp only [tyOf, reduceCtorEq, Option.some.injEq] at h <;> subst h
  · obtain ⟨rfl, _⟩ := r.non_inv; exact .base .non
  · obtain ⟨rfl, _⟩ := r.bl_inv; exact .base (.bl _)
  · obtain ⟨rfl, _⟩ := r.int_inv; exact .base (.int _)
  · obtain ⟨rfl, _⟩ := r.str_inv; exact .base (.str _)
  · obtain ⟨p, rfl, _, sa⟩ := r.scr_inv
    rcases l.sqL sa with (h | ⟨o, h⟩) | ⟨o, its, n, h, c, _⟩
    · exact .base (.lst h)
    · exact .base (.frz h)
    · exact .kList h c
  · obtain ⟨p, vs, rfl, sa, _⟩ := r.tup_inv
    rcases l.sqT sa with (h | ⟨o, h⟩) | ⟨o, its, n, h, c, _⟩
    · exact .base (.tup h)
    · exact .fTuple h
    · exact .kTuple h c
  · obtain ⟨p, vs, _, rfl, sa, _, _⟩ := r.lst_inv l
    exact .base (.lst sa)
theorem on_isi : OpN K (rIsi K) fIsi := by
  intro G H a c x La Q l ra e k
  unfold fIsi at e
  split at e
  · rename_i d n
    obtain ⟨v, w, L1, L2, rfl, r1, r2, _⟩ := ra.two
    obtain ⟨rfl, _⟩ := r2.raw_inv
    cases q : tyOf d with
    | none => rw [q] at e; cases e
    | some t =>
      rw [q] at e
      simp only [Option.bind_some] at e
      cases q2 : kitB t n with
      | none => rw [q2] at e; cases e
      | some b =>
        rw [q2] at e; cases e
        exact ⟨v, .ty n, .type t, .type n, b, rfl, .ty n, tyOf_ok r1 l q, kit_ty q2, fin l k (.bl _)⟩
  · cases e
theorem ev_bits {o s : Bool} {e : Expr} {F : En → Option (D × En)} {apos pos : Pos} (ho : Ev X o s e F) (hbase : attributeBase e "bit_length" X.env (eval e X.env) = eval e X.env := by rfl) (hline : (apos.endLine == pos.line) = true := by rfl) :
    Ev X true s (.Call (.Attribute e "bit_length" apos) [] [] pos) (b1 fBits F) := peM (pe_bits ho hbase hline) fun σ H Q h => by
  have z : Op1 X.K (fun x H1 Q => ∃ i, x = .int i ∧ Q (.int (Builtin.Int.intBits i : Nat)) H1) fBits := by
    intro G H a c x La Q l ra e k
    unfold fBits at e
    split at e
    · obtain ⟨rfl, _⟩ := ra.int_inv
      cases e
      exact ⟨_, rfl, fin l k (.int _)⟩
    · cases e
  exact op1_lift z σ H Q h
end
end
end Pz

set_option Elab.async false
set_option linter.all false
set_option maxRecDepth 100000
set_option maxHeartbeats 1000000
namespace Pz
open PySem L2
noncomputable section

inductive Fl where
  | nx | bk | ct | rt (d : D)
def Keep (W : List Nat) (σ σ' : St) : Prop := σ'.length = σ.length ∧ ∀ j, j ∉ W → σ'[j]? = σ[j]?
theorem Keep.refl (W : List Nat) (σ : St) : Keep W σ σ := ⟨rfl, fun _ _ => rfl⟩
theorem Keep.trans {W W' W'' : List Nat} {σ σ' σ'' : St} (a : Keep W σ σ') (b : Keep W' σ' σ'') (h : ∀ j, j ∈ W ∨ j ∈ W' → j ∈ W'') : Keep W'' σ σ'' := ⟨b.1.trans a.1, fun j n => (b.2 j fun z => n (h j (.inr z))).trans (a.2 j fun z => n (h j (.inl z)))⟩
theorem Keep.sub {W W' : List Nat} {σ σ' : St} (a : Keep W σ σ') (h : ∀ j, j ∈ W → j ∈ W') : Keep W' σ σ' := ⟨a.1, fun j n => a.2 j fun z => n (h j z)⟩

section
variable (K : PySem.W.Frag)
def Post (W : List Nat) (D : Ends) (σ : St) (G H : Hp) (L : List Addr) : Fl → En → Prop
  | .nx, env' => ∀ σ' G' H' L', RSt K σ' G' H' env' L' → Keep W σ σ' → Ext L G H G' H' L' → D.nx σ' H'
  | .bk, env' => ∀ σ' G' H' L', RSt K σ' G' H' env' L' → Keep W σ σ' → Ext L G H G' H' L' → D.bk σ' H'
  | .ct, env' => ∀ σ' G' H' L', RSt K σ' G' H' env' L' → Keep W σ σ' → Ext L G H G' H' L' → D.ct σ' H'
  | .rt d, env' => ∀ σ' v G' H' L' Lr, RSt K σ' G' H' env' L' → Keep W σ σ' → Rp K G' H' d v Lr → (L' ++ Lr).Nodup → Ext L G H G' H' (L' ++ Lr) → D.rt v H'
def tS (W : List Nat) (F : En → Option (Fl × En)) : TS := fun D σ H => ∃ G env L, RSt K σ G H env L ∧ ∃ fl env', F env = some (fl, env') ∧ Post K W D σ G H L fl env'
/-- a target: stores a value -/
def tG (W : List Nat) (F : D → En → Option En) : TG := fun v σ H Q => ∃ G env L d Lr, RSt K σ G H env L ∧ Rp K G H d v Lr ∧ (L ++ Lr).Nodup ∧ ∃ env', F d env = some env' ∧
  ∀ σ' G' H' L', RSt K σ' G' H' env' L' → Keep W σ σ' → Ext (L ++ Lr) G H G' H' L' → Q σ' H'
def tGs (W : List Nat) (F : List D → En → Option En) : TGs := fun v σ H Q => ∃ G env L d Lr, RSt K σ G H env L ∧ Rps K G H d v Lr ∧ (L ++ Lr).Nodup ∧ ∃ env', F d env = some env' ∧
  ∀ σ' G' H' L', RSt K σ' G' H' env' L' → Keep W σ σ' → Ext (L ++ Lr) G H G' H' L' → Q σ' H'
end
theorem Post.mono {K : PySem.W.Frag} {W W' : List Nat} {D D' : Ends} {σ σ0 : St} {G G0 H H0 : Hp} {L L0 : List Addr} {fl : Fl} {env' : En} (p : Post K W' D' σ0 G0 H0 L0 fl env')
    (hk : ∀ σ', Keep W σ σ' → Keep W' σ0 σ') (hx : ∀ G' H' L', Ext L G H G' H' L' → Ext L0 G0 H0 G' H' L') (hn : ∀ σ' H', D'.nx σ' H' → D.nx σ' H') (hb : ∀ σ' H', D'.bk σ' H' → D.bk σ' H') (hc : ∀ σ' H', D'.ct σ' H' → D.ct σ' H') (hr : ∀ v H', D'.rt v H' → D.rt v H') : Post K W D σ G H L fl env' := by
  cases fl with
  | nx => exact fun σ' G' H' L' R k x => hn _ _ (p σ' G' H' L' R (hk _ k) (hx _ _ _ x))
  | bk => exact fun σ' G' H' L' R k x => hb _ _ (p σ' G' H' L' R (hk _ k) (hx _ _ _ x))
  | ct => exact fun σ' G' H' L' R k x => hc _ _ (p σ' G' H' L' R (hk _ k) (hx _ _ _ x))
  | rt d => exact fun σ' v G' H' L' Lr R k r n x => hr _ _ (p σ' v G' H' L' Lr R (hk _ k) r n (hx _ _ _ x))
abbrev Sv (X : Cx) (W : List Nat) (st : Stmt) (F : En → Option (Fl × En)) : Prop := PS X st (tS X.K W F)
abbrev Bv (X : Cx) (W : List Nat) (st : List Stmt) (F : En → Option (Fl × En)) : Prop := PSs X st (tS X.K W F)
abbrev Gv (X : Cx) (W : List Nat) (e : Expr) (F : D → En → Option En) : Prop := PG X e (tG X.K W F)
abbrev Gvs (X : Cx) (W : List Nat) (es : List Expr) (F : List D → En → Option En) : Prop := PGs X es (tGs X.K W F)
theorem psM {X : Cx} {e : Stmt} {t u : TS} (h : PS X e t) (k : ∀ D σ H, u D σ H → t D σ H) : PS X e u := ⟨fun pins s σ H D I hw => h.run pins s σ H D I (k D σ H hw)⟩
theorem pssM {X : Cx} {e : List Stmt} {t u : TS} (h : PSs X e t) (k : ∀ D σ H, u D σ H → t D σ H) : PSs X e u := ⟨fun pins s σ H D I hw => h.run pins s σ H D I (k D σ H hw)⟩
theorem pgM {X : Cx} {e : Expr} {t u : TG} (h : PG X e t) (k : ∀ v σ H Q, u v σ H Q → t v σ H Q) : PG X e u := ⟨fun pins s σ H v w Q I r hw => h.run pins s σ H v w Q I r (k v σ H Q hw)⟩
theorem pgsM {X : Cx} {e : List Expr} {t u : TGs} (h : PGs X e t) (k : ∀ v σ H Q, u v σ H Q → t v σ H Q) : PGs X e u := ⟨fun pins s σ H v w Q I r hw => h.run pins s σ H v w Q I r (k v σ H Q hw)⟩

/-! ### storing at a slot -/
def put (i : Nat) (d : D) (env : En) : Option En := if i < env.length then some (env.set i (some d)) else none
theorem put_some {i : Nat} {d : D} {env env' : En} (h : put i d env = some env') : i < env.length ∧ env' = env.set i (some d) := by
  unfold put at h
  split at h
  · rename_i q; cases h; exact ⟨q, rfl⟩
  · cases h
theorem set_keep {σ : St} {i : Nat} {o : Option V} : Keep [i] σ (σ.set i o) := ⟨by simp, fun j n => List.getElem?_set_ne fun e => n (by simp [e])⟩
/-- the state behind a store -/
theorem RSt.put {K : PySem.W.Frag} {σ : St} {G H : Hp} {env env' : En} {L Lr : List Addr} {i : Nat} {d : D} {v : V} (R : RSt K σ G H env L) (r : Rp K G H d v Lr) (n : (L ++ Lr).Nodup) (h : Pz.put i d env = some env') :
    ∃ L', RSt K (σ.set i (some v)) G H env' L' ∧ ∀ a ∈ L', a ∈ L ++ Lr := by
  obtain ⟨hi, rfl⟩ := put_some h
  obtain ⟨La, Li, Lb, e0, _, f⟩ := R.rep.at hi
  have q := (f (Le.refl G) fun a z => ⟨(R.rep.own a (by rw [e0]; rcases List.mem_append.mp z with z | z <;> simp [z])).1, rfl⟩).1 r
  refine ⟨_, ⟨R.le, q, ?_⟩, fun a z => ?_⟩
  · subst e0
    rw [List.nodup_append] at n
    obtain ⟨n1, n2, n3⟩ := n
    rw [List.nodup_append] at n1
    obtain ⟨n4, n5, n6⟩ := n1
    rw [List.nodup_append] at n4
    obtain ⟨n7, n8, n9⟩ := n4
    refine List.nodup_append.mpr ⟨List.nodup_append.mpr ⟨n7, n2, fun a ha b hb e => n3 a (by simp [ha]) b hb e⟩, n5, fun a ha b hb e => ?_⟩
    rcases List.mem_append.mp ha with z | z
    · exact n6 a (List.mem_append_left _ z) b hb e
    · exact n3 b (by simp [hb]) a z e.symm
  · subst e0
    simp only [List.mem_append] at z ⊢
    rcases z with (z | z) | z <;> simp [z]
theorem gv_name {X : Cx} {i : Nat} {x : Str} {pos : Pos} (hN : X.N.Nodup) (hi : X.N[i]? = some x) (hx : Loc X.env.scope x) (hf : X.fn x = true ∨ X.env.scope.names.lookup x = some .local := by first | exact .inl rfl | exact .inr rfl | assumption) :
    Gv X [i] (.Name x pos) (put i) := pgM (pg_name hN hi hx hf) fun v σ H Q ⟨G, env, L, d, Lr, R, r, n, env', hf, k⟩ => by
  obtain ⟨L', R', s⟩ := R.put r n hf
  exact k _ G H L' R' set_keep ⟨Le.refl _, fun _ _ _ => rfl, fun _ h => .inl h, fun a z => .inl (s a z)⟩
def gsNil : List D → En → Option En
  | [], env => some env
  | _, _ => none
def gsCons (F : D → En → Option En) (FR : List D → En → Option En) : List D → En → Option En
  | d :: ds, env => (F d env).bind (FR ds)
  | [], _ => none
theorem gvs_nil {X : Cx} : Gvs X [] [] gsNil := pgsM pgs_nil fun v σ H Q ⟨G, env, L, d, Lr, R, r, n, env', hf, k⟩ => by
  cases d with
  | nil =>
    cases hf
    cases r
    exact ⟨rfl, k σ G H L R (Keep.refl _ _) (Ext.refl fun b z => by simpa using z)⟩
  | cons _ _ => cases hf
theorem gvs_cons {X : Cx} {W1 W2 : List Nat} {e : Expr} {es : List Expr} {F : D → En → Option En} {FR : List D → En → Option En} (h1 : Gv X W1 e F) (h2 : Gvs X W2 es FR)
    (hs : (assignEach (e :: es) X.env).map (·.2) = assign e X.env :: (assignEach es X.env).map (·.2) := by rfl) : Gvs X (W1 ++ W2) (e :: es) (gsCons F FR) :=
  pgsM (pgs_cons h1 h2 hs) fun v σ H Q ⟨G, env, L, d, Lr, R, r, n, env', hf, k⟩ => by
    cases d with
    | nil => cases hf
    | cons d ds =>
    cases r with
    | @cons _ v _ vs L1 L2 r rs =>
    simp only [gsCons] at hf
    cases q : F d env with
    | none => rw [q] at hf; simp at hf
    | some e1 =>
    rw [q] at hf
    simp only [Option.bind_some] at hf
    refine ⟨v, vs, rfl, G, env, L, d, L1, R, r, n.sublist (by simp), e1, q, fun σ1 G1 H1 Lx R1 k1 x1 => ?_⟩
    have apart : ∀ a ∈ L2, a ∉ L ++ L1 := fun a ha hb => by
      have n' : ((L ++ L1) ++ L2).Nodup := by simpa using n
      exact (List.nodup_append.mp n').2.2 a hb a ha rfl
    have rs1 : Rps X.K G1 H1 ds vs L2 := rs.mono x1.le fun a ha => x1.keep (apart a ha) (rs.own a ha).1 (rs.own a ha).2
    have n2 : L2.Nodup := n.sublist (by simp)
    refine ⟨G1, e1, Lx, ds, L2, R1, rs1, List.nodup_append.mpr ⟨R1.nd, n2, fun a ha b hb e => ?_⟩, env', hf, fun σ2 G2 H2 Ly R2 k2 x2 => k σ2 G2 H2 Ly R2 (k1.trans k2 fun j z => by simpa using z) ?_⟩
    · subst e
      rcases x1.own a ha with z | z
      · exact apart a hb z
      · exact (rs.own a hb).2 z
    · have x1' : Ext (L ++ (L1 ++ L2)) G H G1 H1 (Lx ++ L2) := by
        refine ⟨x1.le, fun b nb hb => x1.fr b (fun z => nb (by simp only [List.mem_append] at z ⊢; rcases z with z | z <;> simp [z])) hb, fun b hb => (x1.gd b hb).imp id fun z => z.imp (fun z => by simp only [List.mem_append] at z ⊢; rcases z with z | z <;> simp [z]) id, fun b hb => ?_⟩
        rcases List.mem_append.mp hb with z | z
        · exact (x1.own b z).imp (fun z => by simp only [List.mem_append] at z ⊢; rcases z with z | z <;> simp [z]) id
        · exact .inl (by simp [z])
      exact x1'.trans x2 fun b hb => x1'.own b hb
/-- a, b = a tuple -/
def gTupF (F : List D → En → Option En) : D → En → Option En
  | .tup ds, env => F ds env
  | _, _ => none
theorem gv_tup {X : Cx} {W : List Nat} {es : List Expr} {k : Nat} {pos : Pos} {F : List D → En → Option En} (hc : X.calm = true) (h : Gvs X W es F) (hl : ∀ ds env env', F ds env = some env' → ds.length = es.length)
    (hn : (assignEach es X.env).length = es.length := by rfl) (hst : (assignEach es X.env).findIdx? (·.1) = none := by rfl) : Gv X W (.Tuple es k pos) (gTupF F) :=
  pgM (pg_tup hc h hn hst) fun v σ H Q ⟨G, env, L, d, Lr, R, r, n, env', hf, k⟩ => by
    cases d <;> simp only [gTupF, reduceCtorEq] at hf
    obtain ⟨a, vs, rfl, sa, qa⟩ := r.tup_inv
    exact ⟨a, vs, rfl, R.le.sqT sa, by rw [← qa.length]; exact hl _ _ _ hf, G, env, L, _, Lr, R, qa, n, env', hf, k⟩

/-! ### blocks -/
def seqF (F1 F2 : En → Option (Fl × En)) : En → Option (Fl × En) := fun env => (F1 env).bind fun r => match r.1 with
  | .nx => F2 r.2
  | fl => some (fl, r.2)
def nxF : En → Option (Fl × En) := fun env => some (.nx, env)
def bkF : En → Option (Fl × En) := fun env => some (.bk, env)
def ctF : En → Option (Fl × En) := fun env => some (.ct, env)
def nvF : En → Option (Fl × En) := fun _ => none
section
variable {X : Cx} {st : Stmt} {rest sa sb : List Stmt} {F F1 F2 : En → Option (Fl × En)} {FE : En → Option (D × En)} {FT : En → Option (Bool × En)} {W W1 W2 : List Nat} {e c : Expr} {o s : Bool} {pos : Pos}
theorem bv_nil : Bv X [] [] nxF := pssM pss_nil fun D σ H ⟨G, env, L, R, fl, env', hf, k⟩ => by
  cases hf
  exact k σ G H L R (Keep.refl _ _) (Ext.refl fun _ z => z)
theorem bv_one (h : Sv X W st F) : Bv X W [st] F := pss_one h
theorem bv_cons (h1 : Sv X W1 st F1) (h2 : Bv X W2 rest F2) : Bv X (W1 ++ W2) (st :: rest) (seqF F1 F2) := pssM (pss_cons h1 h2) fun D σ H ⟨G, env, L, R, fl, env', hf, k⟩ => by
  unfold seqF at hf
  cases q : F1 env with
  | none => rw [q] at hf; simp at hf
  | some r =>
  obtain ⟨f1, e1⟩ := r
  rw [q] at hf
  simp only [Option.bind_some] at hf
  refine ⟨G, env, L, R, f1, e1, q, ?_⟩
  have hk : ∀ σ', Keep W1 σ σ' → Keep (W1 ++ W2) σ σ' := fun σ' z => z.sub fun j h => List.mem_append_left _ h
  cases f1 with
  | nx =>
    intro σ1 G1 H1 L1 R1 k1 x1
    refine ⟨G1, e1, L1, R1, fl, env', hf, k.mono (fun σ' z => k1.trans z fun j h => by simpa using h) (fun _ _ _ x => x1.trans x fun a z => x1.own a z) (fun _ _ z => z) (fun _ _ z => z) (fun _ _ z => z) fun _ _ z => z⟩
  | bk => cases hf; exact fun σ' G' H' L' R' k' x' => k σ' G' H' L' R' (hk _ k') x'
  | ct => cases hf; exact fun σ' G' H' L' R' k' x' => k σ' G' H' L' R' (hk _ k') x'
  | rt d => cases hf; exact fun σ' v G' H' L' Lr R' k' r' n' x' => k σ' v G' H' L' Lr R' (hk _ k') r' n' x'
theorem sv_pass : Sv X [] (.Pass pos) nxF := psM ps_pass fun D σ H ⟨G, env, L, R, fl, env', hf, k⟩ => by
  cases hf
  exact k σ G H L R (Keep.refl _ _) (Ext.refl fun _ z => z)
theorem sv_break : Sv X [] (.Break pos) bkF := psM ps_break fun D σ H ⟨G, env, L, R, fl, env', hf, k⟩ => by
  cases hf
  exact k σ G H L R (Keep.refl _ _) (Ext.refl fun _ z => z)
theorem sv_continue : Sv X [] (.Continue pos) ctF := psM ps_continue fun D σ H ⟨G, env, L, R, fl, env', hf, k⟩ => by
  cases hf
  exact k σ G H L R (Keep.refl _ _) (Ext.refl fun _ z => z)
/-- what this proof never comes to -/
theorem sv_never : Sv X [] st nvF := psM ps_never fun D σ H ⟨G, env, L, R, fl, env', hf, k⟩ => by cases hf
theorem bv_never : Bv X [] rest nvF := pssM pss_never fun D σ H ⟨G, env, L, R, fl, env', hf, k⟩ => by cases hf
def exF (F : En → Option (D × En)) : En → Option (Fl × En) := fun env => (F env).map fun a => (.nx, a.2)
theorem sv_expr (h : Ev X o s e FE) (hs : swapsWith e none pos.line X.env = pure false := by rfl) : Sv X [] (.Expr e pos) (exF FE) := psM (ps_expr h hs) fun D σ H ⟨G, env, L, R, fl, env', hf, k⟩ => by
  unfold exF at hf
  cases q : FE env with
  | none => rw [q] at hf; simp at hf
  | some r =>
    rw [q] at hf
    simp only [Option.map_some, Option.some.injEq, Prod.mk.injEq] at hf
    obtain ⟨rfl, rfl⟩ := hf
    exact ⟨G, env, L, R, r.1, r.2, q, fun v G1 H1 L1 Lr R1 r1 n1 st1 x1 => k σ G1 H1 L1 R1 (Keep.refl _ _) (x1.sub fun a z => x1.own a (List.mem_append_left _ z))⟩
def rtF (F : En → Option (D × En)) : En → Option (Fl × En) := fun env => (F env).map fun a => (.rt a.1, a.2)
theorem sv_ret (h : Ev X true s e FE) : Sv X [] (.Return (some e) pos) (rtF FE) := psM (ps_ret h) fun D σ H ⟨G, env, L, R, fl, env', hf, k⟩ => by
  unfold rtF at hf
  cases q : FE env with
  | none => rw [q] at hf; simp at hf
  | some r =>
    rw [q] at hf
    simp only [Option.map_some, Option.some.injEq, Prod.mk.injEq] at hf
    obtain ⟨rfl, rfl⟩ := hf
    exact ⟨G, env, L, R, r.1, r.2, q, fun v G1 H1 L1 Lr R1 r1 n1 st1 x1 => k σ v G1 H1 L1 Lr R1 (Keep.refl _ _) r1 (n1 rfl) x1⟩
def rnF : En → Option (Fl × En) := fun env => some (.rt .non, env)
theorem sv_retN : Sv X [] (.Return none pos) rnF := psM ps_retN fun D σ H ⟨G, env, L, R, fl, env', hf, k⟩ => by
  cases hf
  exact k σ .non G H L [] R (Keep.refl _ _) .non (by simpa using R.nd) (Ext.refl fun _ z => by simpa using z)
/-- return x: the value leaves with the frame -/
def rmF (i : Nat) : En → Option (Fl × En) := fun env => (env[i]?).bind fun o => o.map fun d => (.rt d, env.set i none)
theorem sv_retMove {i : Nat} (h : PE X e (tVar i)) : Sv X [] (.Return (some e) pos) (rmF i) := psM (ps_ret h) fun D σ H ⟨G, env, L, R, fl, env', hf, k⟩ => by
  unfold rmF at hf
  cases q : env[i]? with
  | none => rw [q] at hf; simp at hf
  | some o =>
    cases o with
    | none => rw [q] at hf; simp at hf
    | some d =>
      rw [q] at hf
      simp only [Option.bind_some, Option.map_some, Option.some.injEq, Prod.mk.injEq] at hf
      obtain ⟨rfl, rfl⟩ := hf
      obtain ⟨hi, _⟩ := List.getElem?_eq_some_iff.mp q
      obtain ⟨La, Li, Lb, e0, f, g⟩ := R.rep.at hi
      obtain ⟨v, ev, r⟩ := f d q
      refine ⟨v, ev, ?_⟩
      have g' := (g (Le.refl G) (H' := H) fun a z => ⟨(R.rep.own a (by rw [e0]; rcases List.mem_append.mp z with z | z <;> simp [z])).1, rfl⟩).2 (some v)
      have eσ : σ.set i (some v) = σ := by
        refine List.ext_getElem? fun j => ?_
        by_cases hj : i = j
        · subst hj
          obtain ⟨hl, _⟩ := List.getElem?_eq_some_iff.mp ev
          rw [List.getElem?_set_self hl, ev]
        · rw [List.getElem?_set_ne hj]
      rw [eσ] at g'
      have nd : (La ++ Li ++ Lb).Nodup := e0 ▸ R.nd
      have nd2 : (La ++ Lb ++ Li).Nodup := by
        rw [List.nodup_append] at nd
        obtain ⟨n1, n2, n3⟩ := nd
        rw [List.nodup_append] at n1
        obtain ⟨n4, n5, n6⟩ := n1
        refine List.nodup_append.mpr ⟨List.nodup_append.mpr ⟨n4, n2, fun a ha b hb e => n3 a (by simp [ha]) b hb e⟩, n5, fun a ha b hb e => ?_⟩
        rcases List.mem_append.mp ha with z | z
        · exact n6 a z b hb e
        · exact n3 b (by simp [hb]) a z e.symm
      exact k σ v G H (La ++ Lb) Li ⟨R.le, g', nd2.sublist (List.sublist_append_left _ _)⟩ (Keep.refl _ _) r nd2 (Ext.refl fun a z => by
        rw [e0]; simp only [List.mem_append] at z ⊢; rcases z with (z | z) | z <;> simp [z])
def stF (F : En → Option (D × En)) (T : D → En → Option En) : En → Option (Fl × En) := fun env => (F env).bind fun a => (T a.1 a.2).map fun e => (.nx, e)
theorem asg_lift {tg : Expr} {T : D → En → Option En} {K : PySem.W.Frag} (D : Ends) (σ : St) (H : Hp) (h : tS K W (stF FE T) D σ H) : tAsg (tE K true s FE) (tG K W T) D σ H := by
  obtain ⟨G, env, L, R, fl, env', hf, k⟩ := h
  unfold stF at hf
  cases q : FE env with
  | none => rw [q] at hf; simp at hf
  | some r =>
  obtain ⟨d, e1⟩ := r
  rw [q] at hf
  simp only [Option.bind_some] at hf
  cases q2 : T d e1 with
  | none => rw [q2] at hf; simp at hf
  | some e2 =>
  rw [q2] at hf
  simp only [Option.map_some, Option.some.injEq, Prod.mk.injEq] at hf
  obtain ⟨rfl, rfl⟩ := hf
  exact ⟨G, env, L, R, d, e1, q, fun v G1 H1 L1 Lr R1 r1 n1 st1 x1 => ⟨G1, e1, L1, d, Lr, R1, r1, n1 rfl, e2, q2, fun σ2 G2 H2 L2 R2 k2 x2 => k σ2 G2 H2 L2 R2 k2 (x1.trans x2 fun a z => x1.own a z)⟩⟩
theorem sv_asg {tg : Expr} {T : D → En → Option En} (he : Ev X true s e FE) (hg : Gv X W tg T) (hs : swapsWithSole [tg] e pos.line X.env = pure false := by rfl) (hw : swappedStores [tg] e X.env = pure none := by rfl)
    (h1 : (assignEach [tg] X.env).map (·.2) = [assign tg X.env] := by rfl) : Sv X W (.Assign [tg] e pos) (stF FE T) := psM (ps_asg he hg hs hw h1) (asg_lift (tg := tg))
theorem sv_set {i : Nat} {x : Str} {pos' : Pos} (hN : X.N.Nodup) (hi : X.N[i]? = some x) (hx : Loc X.env.scope x) (he : Ev X true s e FE) (hs : swapsWith e (some (.Name x pos')) pos.line X.env = pure false := by rfl)
    (hf : X.fn x = true ∨ X.env.scope.names.lookup x = some .local := by first | exact .inl rfl | exact .inr rfl | assumption) : Sv X [i] (.Assign [.Name x pos'] e pos) (stF FE (put i)) :=
  psM (ps_set hN hi hx he hs hf) fun D σ H h => by
    obtain ⟨G, env, L, R, fl, env', hff, k⟩ := h
    unfold stF at hff
    cases q : FE env with
    | none => rw [q] at hff; simp at hff
    | some r =>
    obtain ⟨d, e1⟩ := r
    rw [q] at hff
    simp only [Option.bind_some] at hff
    cases q2 : put i d e1 with
    | none => rw [q2] at hff; simp at hff
    | some e2 =>
    rw [q2] at hff
    simp only [Option.map_some, Option.some.injEq, Prod.mk.injEq] at hff
    obtain ⟨rfl, rfl⟩ := hff
    refine ⟨G, env, L, R, d, e1, q, fun v G1 H1 L1 Lr R1 r1 n1 st1 x1 => ?_⟩
    obtain ⟨L', R', ss⟩ := R1.put r1 (n1 rfl) q2
    exact k _ G1 H1 L' R' set_keep (x1.sub fun a z => x1.own a (ss a z))
/-- a, b = x, y -/
def parF (F : En → Option (List D × En)) (i j : Nat) : En → Option (Fl × En) := fun env => (F env).bind fun a => match a.1 with
  | [d, e] => (put i d a.2).bind fun e1 => (put j e e1).map fun e2 => (.nx, e2)
  | _ => none
theorem sv_par {i j : Nat} {x y : Str} {a b : Expr} {FA : En → Option (List D × En)} {px py pt : Pos} {kt k2 pt2} (hc : X.calm = true) (hN : X.N.Nodup) (hi : X.N[i]? = some x) (hj : X.N[j]? = some y) (hij : i ≠ j)
    (hx : X.env.scope.names.lookup x = some .local) (hy : X.env.scope.names.lookup y = some .local) (ha : Av X true s [a, b] FA)
    (hw : swappedStores [.Tuple [.Name x px, .Name y py] kt pt] (.Tuple [a, b] k2 pt2) X.env = pure (some [x, y]))
    (hs : swapsWithSole [.Tuple [.Name x px, .Name y py] kt pt] (.Tuple [a, b] k2 pt2) pos.line X.env = pure false := by rfl) :
    Sv X [i, j] (.Assign [.Tuple [.Name x px, .Name y py] kt pt] (.Tuple [a, b] k2 pt2) pos) (parF FA i j) := psM (ps_par hc hN hi hj hij hx hy ha hw hs) fun D σ H h => by
  obtain ⟨G, env, L, R, fl, env', hff, k⟩ := h
  unfold parF at hff
  cases q : FA env with
  | none => rw [q] at hff; simp at hff
  | some r =>
  obtain ⟨ds, e1⟩ := r
  rw [q] at hff
  simp only [Option.bind_some] at hff
  cases ds with
  | nil => simp at hff
  | cons d1 t =>
  cases t with
  | nil => simp at hff
  | cons d2 t =>
  cases t with
  | cons _ _ => simp at hff
  | nil =>
    simp only at hff
    cases q2 : put i d1 e1 with
    | none => rw [q2] at hff; simp at hff
    | some e2 =>
    rw [q2] at hff
    simp only [Option.bind_some] at hff
    cases q3 : put j d2 e2 with
    | none => rw [q3] at hff; simp at hff
    | some e3 =>
    rw [q3] at hff
    simp only [Option.map_some, Option.some.injEq, Prod.mk.injEq] at hff
    obtain ⟨rfl, rfl⟩ := hff
    refine ⟨G, env, L, R, _, e1, q, fun vs G1 H1 L1 Lr R1 r1 n1 st1 x1 => ?_⟩
    obtain ⟨v, w, La, Lb, rfl, ra, rb, rfl⟩ := r1.two
    have nn := n1 rfl
    obtain ⟨L', R', s1⟩ := R1.put ra (nn.sublist (by simp)) q2
    obtain ⟨L'', R'', s2⟩ := R'.put rb (List.nodup_append.mpr ⟨R'.nd, nn.sublist (by simp), fun a ha b hb e => by
      subst e
      have nn' : ((L1 ++ La) ++ Lb).Nodup := by simpa using nn
      exact (List.nodup_append.mp nn').2.2 a (s1 a ha) a hb rfl⟩) q3
    refine ⟨v, w, rfl, k _ G1 H1 L'' R'' (set_keep.trans set_keep fun z hz => ?_) (x1.sub fun a z => x1.own a ?_)⟩
    · rcases hz with hz | hz <;> simp only [List.mem_singleton] at hz <;> simp [hz]
    · rcases List.mem_append.mp (s2 a z) with w | w
      · have := s1 a w
        simp only [List.mem_append] at this ⊢
        rcases this with w | w <;> simp [w]
      · simp [w]
/-- x op= e, nothing owned -/
def agF (i : Nat) (f : D → D → Option D) (F : En → Option (D × En)) : En → Option (Fl × En) := fun env => (nmF i env).bind fun x => if x.1.pure = true then (F env).bind fun a => (f x.1 a.1).bind fun c => (put i c a.2).map fun e => (.nx, e) else none
theorem sv_aug {i : Nat} {x : Str} {op : Operator} {ti : TIp} {f : D → D → Option D} {pos' : Pos} (hN : X.N.Nodup) (hi : X.N[i]? = some x) (hx : Loc X.env.scope x) (he : Ev X true s e FE) (ho : PIp X op ti) (hop : Op2 X.K ti f)
    (hf : X.fn x = true ∨ X.env.scope.names.lookup x = some .local := by first | exact .inl rfl | exact .inr rfl | assumption) : Sv X [i] (.AugAssign (.Name x pos') op e pos) (agF i f FE) :=
  psM (ps_aug hN hi hx he ho hf) fun D σ H h => by
    obtain ⟨G, env, L, R, fl, env', hff, k⟩ := h
    unfold agF at hff
    cases q : nmF i env with
    | none => rw [q] at hff; simp at hff
    | some r =>
    rw [q] at hff
    simp only [Option.bind_some] at hff
    split at hff
    · rename_i hp
      unfold nmF at q
      cases q0 : env[i]? with
      | none => rw [q0] at q; simp at q
      | some o =>
      cases o with
      | none => rw [q0] at q; simp at q
      | some d0 =>
      rw [q0] at q
      simp only [Option.bind_some, Option.map_some, Option.some.injEq] at q
      subst q
      cases q1 : FE env with
      | none => rw [q1] at hff; simp at hff
      | some r1 =>
      obtain ⟨d1, e1⟩ := r1
      rw [q1] at hff
      simp only [Option.bind_some] at hff
      cases q2 : f d0 d1 with
      | none => rw [q2] at hff; simp at hff
      | some c =>
      rw [q2] at hff
      simp only [Option.bind_some] at hff
      cases q3 : put i c e1 with
      | none => rw [q3] at hff; simp at hff
      | some e2 =>
      rw [q3] at hff
      simp only [Option.map_some, Option.some.injEq, Prod.mk.injEq] at hff
      obtain ⟨rfl, rfl⟩ := hff
      obtain ⟨hil, _⟩ := List.getElem?_eq_some_iff.mp q0
      obtain ⟨La, Li, Lb, e0, f0, _⟩ := R.rep.at hil
      obtain ⟨v, ev, r⟩ := f0 d0 q0
      obtain rfl := r.pure_nil hp
      refine ⟨v, ev, G, env, L, R, d1, e1, q1, fun y G1 H1 L1 Lr R1 r1 n1 st1 x1 => ?_⟩
      refine hop R1.le ((r.mono x1.le fun _ z => nomatch z) : Rp X.K G1 H1 d0 v []) r1 q2 fun z G2 H2 Lz fr rz => ?_
      obtain ⟨L', R', ss⟩ := (R1.fresh fr).put rz (fr.nodup R1.nd fun a z => (R1.rep.own a z).2) q3
      exact k _ G2 H2 L' R' set_keep ((ext_fresh x1 fr).sub fun a z => (ext_fresh x1 fr).own a (ss a z))
    · cases hff
def ifS (FC : En → Option (Bool × En)) (FA FB : En → Option (Fl × En)) : En → Option (Fl × En) := fun env => (FC env).bind fun c => if c.1 = true then FA c.2 else FB c.2
theorem sv_if (hc : Tv X s c FT) (ha : Bv X W1 sa F1) (hb : Bv X W2 sb F2) : Sv X (W1 ++ W2) (.If c sa sb pos) (ifS FT F1 F2) := psM (ps_if hc ha hb) fun D σ H ⟨G, env, L, R, fl, env', hf, k⟩ => by
  unfold ifS at hf
  cases q : FT env with
  | none => rw [q] at hf; simp at hf
  | some r =>
  obtain ⟨b, e1⟩ := r
  rw [q] at hf
  simp only [Option.bind_some] at hf
  refine ⟨G, env, L, R, b, e1, q, fun G1 H1 L1 R1 st1 x1 => ?_⟩
  cases b with
  | true =>
    rw [if_pos rfl] at hf
    show (if true = true then _ else _)
    rw [if_pos rfl]
    exact ⟨G1, e1, L1, R1, fl, env', hf, k.mono (fun σ' z => z.sub fun j h => List.mem_append_left _ h) (fun _ _ _ x => x1.trans x fun a z => x1.own a z) (fun _ _ z => z) (fun _ _ z => z) (fun _ _ z => z) fun _ _ z => z⟩
  | false =>
    rw [if_neg (by decide)] at hf
    show (if false = true then _ else _)
    rw [if_neg (by decide)]
    exact ⟨G1, e1, L1, R1, fl, env', hf, k.mono (fun σ' z => z.sub fun j h => List.mem_append_right _ h) (fun _ _ _ x => x1.trans x fun a z => x1.own a z) (fun _ _ z => z) (fun _ _ z => z) (fun _ _ z => z) fun _ _ z => z⟩
end

/-! ### while -/
def wN (c : En → Option (Bool × En)) (b : En → Option (Fl × En)) : Nat → En → Option (Fl × En)
  | 0, _ => none
  | n + 1, env => (c env).bind fun t => if t.1 = true then (b t.2).bind fun r => match r.1 with
      | .nx => wN c b n r.2
      | .ct => wN c b n r.2
      | .bk => some (.nx, r.2)
      | .rt d => some (.rt d, r.2)
    else some (.nx, t.2)
theorem wN_succ {c : En → Option (Bool × En)} {b : En → Option (Fl × En)} : ∀ {n : Nat} {env : En} {r : Fl × En}, wN c b n env = some r → wN c b (n + 1) env = some r
  | 0, _, _, h => by cases h
  | n + 1, env, r, h => by
    unfold wN at h ⊢
    cases q : c env with
    | none => rw [q] at h; simp at h
    | some t =>
      rw [q] at h
      simp only [Option.bind_some] at h ⊢
      split
      · rename_i ht
        rw [if_pos ht] at h
        cases q2 : b t.2 with
        | none => rw [q2] at h; simp at h
        | some u =>
          rw [q2] at h
          simp only [Option.bind_some] at h ⊢
          obtain ⟨f, e⟩ := u
          cases f with
          | nx => exact wN_succ h
          | ct => exact wN_succ h
          | bk => exact h
          | rt d => exact h
      · rename_i ht
        rw [if_neg ht] at h
        exact h
theorem wN_le {c : En → Option (Bool × En)} {b : En → Option (Fl × En)} {n : Nat} {env : En} {r : Fl × En} (h : wN c b n env = some r) : ∀ k, wN c b (n + k) env = some r
  | 0 => h
  | k + 1 => wN_succ (wN_le h k)
open Classical in
def whF (c : En → Option (Bool × En)) (b : En → Option (Fl × En)) : En → Option (Fl × En) := fun env => if h : ∃ n r, wN c b n env = some r then some (Classical.choose (Classical.choose_spec h)) else none
theorem whF_of {c : En → Option (Bool × En)} {b : En → Option (Fl × En)} {n : Nat} {env : En} {r : Fl × En} (h : wN c b n env = some r) : whF c b env = some r := by
  have ex : ∃ n r, wN c b n env = some r := ⟨n, r, h⟩
  unfold whF
  rw [dif_pos ex]
  have q := Classical.choose_spec (Classical.choose_spec ex)
  have a := wN_le h (Classical.choose ex)
  have b' := wN_le q n
  rw [Nat.add_comm] at b'
  rw [a] at b'
  exact congrArg some (Option.some.inj b').symm
theorem whF_some {c : En → Option (Bool × En)} {b : En → Option (Fl × En)} {env : En} {r : Fl × En} (h : whF c b env = some r) : ∃ n, wN c b n env = some r := by
  unfold whF at h
  split at h
  · rename_i ex
    have q := Classical.choose_spec (Classical.choose_spec ex)
    exact ⟨_, by rw [q]; exact h⟩
  · cases h
theorem sv_while {X : Cx} {c : Expr} {body : List Stmt} {FT : En → Option (Bool × En)} {F : En → Option (Fl × En)} {W : List Nat} {s : Bool} {pos : Pos} (hp : PassesOwn (model X.prog X.w) X.A X.env X.xe) (hc : Tv X s c FT) (hb : Bv X W body F) :
    Sv X W (.While c body [] pos) (whF FT F) := psM (ps_while hp hc hb) fun D σ H ⟨G, env, L, R, fl, env', hf, k⟩ => by
  obtain ⟨n, hn⟩ := whF_some hf
  refine ⟨fun m σ1 H1 => ∃ G1 env1 L1, RSt X.K σ1 G1 H1 env1 L1 ∧ Keep W σ σ1 ∧ Ext L G H G1 H1 L1 ∧ wN FT F m env1 = some (fl, env'), ⟨n, G, env, L, R, Keep.refl _ _, Ext.refl fun _ z => z, hn⟩, ?_⟩
  rintro m σ1 H1 ⟨G1, env1, L1, R1, k1, x1, h1⟩
  cases m with
  | zero => cases h1
  | succ m =>
  unfold wN at h1
  cases q : FT env1 with
  | none => rw [q] at h1; simp at h1
  | some t =>
  obtain ⟨b, e2⟩ := t
  rw [q] at h1
  simp only [Option.bind_some] at h1
  refine ⟨G1, env1, L1, R1, b, e2, q, fun G2 H2 L2 R2 st2 x2 => ?_⟩
  have x12 := x1.trans x2 fun a z => x1.own a z
  cases b with
  | false =>
    rw [if_neg (by decide)] at h1
    show (if false = true then _ else _)
    rw [if_neg (by decide)]
    cases h1
    exact k σ1 G2 H2 L2 R2 k1 x12
  | true =>
    rw [if_pos rfl] at h1
    show (if true = true then _ else _)
    rw [if_pos rfl]
    cases q3 : F e2 with
    | none => rw [q3] at h1; simp at h1
    | some u =>
    obtain ⟨f, e3⟩ := u
    rw [q3] at h1
    simp only [Option.bind_some] at h1
    refine ⟨fun σ3 H3 => ∃ G3 env3 L3, RSt X.K σ3 G3 H3 env3 L3 ∧ Keep W σ σ3 ∧ Ext L G H G3 H3 L3 ∧ wN FT F m env3 = some (fl, env'), fun σ3 H3 h3 => ⟨m, Nat.lt_succ_self m, h3⟩, G2, e2, L2, R2, f, e3, q3, ?_⟩
    have kk : ∀ σ', Keep W σ1 σ' → Keep W σ σ' := fun σ' z => k1.trans z fun j h => h.elim id id
    cases f with
    | nx => exact fun σ' G' H' L' R' k' x' => ⟨G', e3, L', R', kk _ k', x12.trans x' fun a z => x12.own a z, h1⟩
    | ct => exact fun σ' G' H' L' R' k' x' => ⟨G', e3, L', R', kk _ k', x12.trans x' fun a z => x12.own a z, h1⟩
    | bk => cases h1; exact fun σ' G' H' L' R' k' x' => k σ' G' H' L' R' (kk _ k') (x12.trans x' fun a z => x12.own a z)
    | rt d => cases h1; exact fun σ' v G' H' L' Lr R' k' r' n' x' => k σ' v G' H' L' Lr R' (kk _ k') r' n' (x12.trans x' fun a z => x12.own a z)
end
end Pz

set_option Elab.async false
set_option linter.all false
set_option maxRecDepth 100000
set_option maxHeartbeats 1000000
namespace Pz
open PySem L2
noncomputable section

section
variable (K : PySem.W.Frag)
def YD (G0 : Hp) (items : List D) : Nat → Hp → V → Hp → Prop := fun i H1 x H2 => ∀ G1, Le G0 G1 → Le G1 H1 → ∃ G2 d, items[i]? = some d ∧ Fresh G1 H1 G2 H2 [] ∧ Rp K G2 H2 d x []
def tI (F : En → Option (List D × En)) : TI := fun σ H R => ∃ G env L, RSt K σ G H env L ∧ ∃ items env', F env = some (items, env') ∧
  ∀ J G' H' L', RSt K σ G' H' env' L' → Ext L G H G' H' L' → Walk J items.length (fun H'' => Le G' H'') (YD K G' items) → R J H'
end
abbrev Iv (X : Cx) (tg e : Expr) (F : En → Option (List D × En)) : Prop := PI X tg e (tI X.K F)
theorem piM {X : Cx} {tg e : Expr} {t u : TI} (h : PI X tg e t) (k : ∀ σ H R, u σ H R → t σ H R) : PI X tg e u := ⟨fun pins s σ H R I hw => h.run pins s σ H R I (k σ H R hw)⟩
section
variable {K : PySem.W.Frag} {G G' H H' H1 H2 : Hp} {items : List D} {vs ws : List V}
theorem yd_at (r : Rps K G' H items vs []) {i : Nat} {x : V} (h : YAt vs i H1 x H2) : YD K G' items i H1 x H2 := fun G1 l1 l2 => by
  obtain ⟨rfl, e⟩ := h
  obtain ⟨d, L1, e1, r1, s1⟩ := r.getV e
  obtain rfl := List.sublist_nil.mp s1
  exact ⟨G1, d, e1, Fresh.refl l2, r1.mono l1 fun _ z => nomatch z⟩
theorem yd_pair {as bs : List D} (ra : Rps K G' H as vs []) (rb : Rps K G' H bs ws []) {i : Nat} {x : V} (h : YPair (fun i => vs[i]?) (fun i => ws[i]?) i H1 x H2) : YD K G' (List.zipWith (fun a b => .tup [a, b]) as bs) i H1 x H2 := fun G1 l1 l2 => by
  obtain ⟨T, x, y, rfl, nT, rfl, e1, e2⟩ := h
  obtain ⟨d, L1, q1, r1, s1⟩ := ra.getV e1
  obtain rfl := List.sublist_nil.mp s1
  obtain ⟨d', L2, q2, r2, s2⟩ := rb.getV e2
  obtain rfl := List.sublist_nil.mp s2
  have f := Fresh.laid l2 nT (.tup [x, y])
  refine ⟨_, .tup [d, d'], by rw [List.getElem?_zipWith, q1, q2], f, .tup (.inl (.inl upd_same)) ?_⟩
  exact .cons (L1 := []) (L2 := []) ((r1.mono l1 fun _ z => nomatch z : Rp K G1 H1 d x []).fresh f) (.cons (L1 := []) (L2 := []) ((r2.mono l1 fun _ z => nomatch z : Rp K G1 H1 d' y []).fresh f) .nil)
end

/-! ### lists, tuples, ranges -/
def iSeq (K : PySem.W.Frag) (tl : TE) : TI := fun σ H R => tl σ H fun x H1 => ∃ a, x = .ref a ∧ ((∃ xs, SqL K H1 a xs) ∧ R (Itl K a) H1 ∨ (∃ xs, SqT K H1 a xs) ∧ R (Itt K a) H1)
section
open PySem.Spec PyProof.Rows
theorem pi_seq {X : Cx} {tg l : Expr} {tl : TE} (hl : PE X l tl) : PI X tg l (iSeq X.K tl) := by
  refine ⟨fun pins s σ H R I h => ?_⟩
  refine thn (hl.run pins s σ H _ I h) fun v s1 ⟨x, H1, I1, r1, q1⟩ => ?_
  obtain ⟨a, e, q⟩ := q1
  subst e
  cases r1
  rcases q with ⟨⟨xs, hq⟩, q⟩ | ⟨⟨xs, hq⟩, q⟩
  · obtain ⟨its, rv, p, hz⟩ := I1.list hq
    refine wpAny_pyIter_list p.isList ?_
    refine ⟨s1.heap.objs.size, [s1.heap.objs.size], _, _, H1, rfl, I1.kept (t' := s1.toks) fun b o e => Heap.get?_push_of_some _ e, turn_list a _, ⟨_, Heap.get?_push_size _ rfl, rfl, rfl⟩, fun b hb => ?_, q⟩
    have e : b = s1.heap.objs.size := by simpa using hb
    subst e
    exact I1.fpOk (Nat.le_refl _) (I1.hok.fresh (Nat.le_refl _))
  · obtain ⟨its, rv, p, hz⟩ := I1.tuple hq
    refine wpAny_pyIter_tuple (show s1.heap.IsTuple a its.toArray from p) ?_
    refine ⟨s1.heap.objs.size, [s1.heap.objs.size], _, _, H1, rfl, I1.kept (t' := s1.toks) fun b o e => Heap.get?_push_of_some _ e, turn_tuple a _, ⟨_, Heap.get?_push_size _ rfl, rfl, rfl⟩, fun b hb => ?_, q⟩
    have e : b = s1.heap.objs.size := by simpa using hb
    subst e
    exact I1.fpOk (Nat.le_refl _) (I1.hok.fresh (Nat.le_refl _))
end
def itOf : D → Option (List D)
  | .tup xs => some (D.fzs xs)
  | .lst _ xs => some (D.fzs xs)
  | .scr ns => some (ns.map .int)
  | _ => none
def itF (FE : En → Option (D × En)) : En → Option (List D × En) := fun env => (FE env).bind fun a => (itOf a.1).map fun xs => (xs, a.2)
section
variable {X : Cx} {tg e e2 : Expr} {es : List Expr} {FE : En → Option (D × En)} {FA : En → Option (List D × En)} {s : Bool}
/-- the state when what is owned beside is given away for ever -/
theorem RSt.give {K : PySem.W.Frag} {σ : St} {G H : Hp} {env : En} {L Lr : List Addr} (R : RSt K σ G H env L) (n : (L ++ Lr).Nodup) : RSt K σ (frG G H Lr) H env L :=
  ⟨frG_le' R.le, R.rep.mono (frG_le R.le) fun a z => ⟨by rw [frG_out fun y => (List.nodup_append.mp n).2.2 a z a y rfl]; exact (R.rep.own a z).1, rfl⟩, R.nd⟩
theorem Ext.give {L L1 Lr : List Addr} {G H G1 H1 : Hp} (x : Ext L G H G1 H1 (L1 ++ Lr)) (l : Le G1 H1) : Ext L G H (frG G1 H1 Lr) H1 L1 :=
  ⟨x.le.trans (frG_le l), x.fr, fun b h => by
    by_cases z : b ∈ Lr
    · exact .inr (x.own b (List.mem_append_right _ z))
    · rw [frG_out z] at h; exact x.gd b h, fun b h => x.own b (List.mem_append_left _ h)⟩
theorem iv_seq (he : Ev X true s e FE) : Iv X tg e (itF FE) := piM (pi_seq he) fun σ H Rr ⟨G, env, L, R, items, env', hf, k⟩ => by
  unfold itF at hf
  cases q : FE env with
  | none => rw [q] at hf; simp at hf
  | some r =>
  obtain ⟨d, e1⟩ := r
  rw [q] at hf
  simp only [Option.bind_some] at hf
  cases q2 : itOf d with
  | none => rw [q2] at hf; simp at hf
  | some xs =>
  rw [q2] at hf
  simp only [Option.map_some, Option.some.injEq, Prod.mk.injEq] at hf
  obtain ⟨rfl, rfl⟩ := hf
  refine ⟨G, env, L, R, d, _, q, fun x G1 H1 L1 Lr R1 r1 n1 st1 x1 => ?_⟩
  have R2 := R1.give (n1 rfl)
  have x2 := x1.give R1.le
  have rz := r1.fz (G' := frG G1 H1 Lr) (H' := H1) (frG_le R1.le) fun a z => frG_in z
  cases d <;> simp only [itOf, reduceCtorEq, Option.some.injEq] at q2 <;> subst q2
  · rename_i ns
    obtain ⟨p, rfl, rfl, sa⟩ := r1.scr_inv
    have sa' := (frG_le (L := []) R1.le).sqL sa
    refine ⟨p, rfl, .inl ⟨⟨_, R2.le.sqL sa'⟩, k _ _ _ _ R2 x2 ?_⟩⟩
    have w := walk_list (K := X.K) (a := p) (xs := List.map V.int ns)
    rw [List.length_map] at w
    rw [List.length_map]
    exact w.mono (fun H' l => l.sqL sa') fun i H' x H'' hi l y => yd_at (Rps.ints (H := H1) _) y
  · obtain ⟨p, vs, rfl, sa, qa⟩ := rz.tup_inv
    refine ⟨p, rfl, .inr ⟨⟨_, R2.le.sqT sa⟩, k _ _ _ _ R2 x2 ?_⟩⟩
    have w := walk_tup (K := X.K) (a := p) (xs := vs)
    rw [← qa.length] at w
    exact w.mono (fun H' l => l.sqT sa) fun i H' x H'' hi l y => yd_at qa y
  · rename_i o xs
    obtain ⟨p, vs, rfl, sa, qa⟩ : ∃ p vs, x = .ref p ∧ (frG G1 H1 Lr) p = some (.lst vs) ∧ Rps X.K (frG G1 H1 Lr) H1 (D.fzs xs) vs [] := by
      have rz' : Rp X.K (frG G1 H1 Lr) H1 (.lst false (D.fzs xs)) x [] := rz
      cases rz' with
      | lstF h hs => exact ⟨_, _, rfl, h, hs⟩
    refine ⟨p, rfl, .inl ⟨⟨_, SqL.of (R2.le _ _ sa)⟩, k _ _ _ _ R2 x2 ?_⟩⟩
    have w := walk_list (K := X.K) (a := p) (xs := vs)
    rw [← qa.length] at w
    exact w.mono (fun H' l => SqL.of (l _ _ sa)) fun i H' x H'' hi l y => yd_at qa y
/-- from a list of arguments -/
def inF (f : List D → Option (List D)) (FA : En → Option (List D × En)) : En → Option (List D × En) := fun env => (FA env).bind fun a => (f a.1).map fun xs => (xs, a.2)
theorem inF_some {f : List D → Option (List D)} {env env' : En} {items : List D} (h : inF f FA env = some (items, env')) : ∃ a, FA env = some (a, env') ∧ f a = some items := by
  unfold inF at h
  cases q : FA env with
  | none => rw [q] at h; simp at h
  | some a =>
    rw [q] at h; simp only [Option.bind_some] at h
    cases q3 : f a.1 with
    | none => rw [q3] at h; simp at h
    | some c => rw [q3] at h; simp at h; obtain ⟨rfl, rfl⟩ := h; exact ⟨a.1, rfl, q3⟩
def rgOk (i : Int) : Bool := tst (-4611686018427387904 ≤ i ∧ i < 4611686018427387904)
theorem rgOk_of {i : Int} (h : rgOk i = true) : -(2 ^ 62) ≤ i ∧ i < 2 ^ 62 := by
  have h := of_tst h
  omega
def rng1 : List D → Option (List D)
  | [.int j] => if rgOk j = true then some ((List.range j.toNat).map fun i : Nat => .int (i : Int)) else none
  | _ => none
def rng2 : List D → Option (List D)
  | [.int i, .int j] => if rgOk i = true ∧ rgOk j = true then some ((List.range (j - i).toNat).map fun k : Nat => .int (i + (k : Int))) else none
  | _ => none
theorem yd_fn {K : PySem.W.Frag} {G' H1 H2 : Hp} {n : Nat} {lo : Int} {i : Nat} {x : V} (hi : i < n) (h : YFn (fun i : Nat => V.int (lo + (i : Int))) i H1 x H2) : YD K G' ((List.range n).map fun k : Nat => .int (lo + (k : Int))) i H1 x H2 := fun G1 l1 l2 => by
  obtain ⟨rfl, rfl⟩ := h
  exact ⟨G1, .int (lo + i), by simp [hi], Fresh.refl l2, .int _⟩
theorem iv_range1 {p pos : Pos} (hg : Gl X "range") (hm : X.mg "range" = none) (ha : Av X true s [e] FA) (hs : starEach [e] X.env = [(false, eval e X.env)] := by rfl) : Iv X tg (.Call (.Name "range" p) [e] [] pos) (inF rng1 FA) :=
  piM (pi_range1 hg hm ha hs) fun σ H Rr ⟨G, env, L, R, items, env', hf, k⟩ => by
    obtain ⟨da, h1, h3⟩ := inF_some hf
    refine ⟨G, env, L, R, da, env', h1, fun x G1 H1 L1 La R1 ra n1 st1 x1 => ?_⟩
    unfold rng1 at h3
    split at h3
    · split at h3
      · rename_i j hj
        cases h3
        obtain ⟨v, rfl, r⟩ := ra.one
        obtain ⟨rfl, rfl⟩ := r.int_inv
        obtain ⟨b1, b2⟩ := rgOk_of hj
        refine ⟨j, rfl, b1, b2, k _ G1 H1 L1 R1 (by simpa using x1) ?_⟩
        have w := walk_range (lo := 0) (n := j.toNat)
        have e0 : ((List.range j.toNat).map fun i : Nat => D.int (i : Int)) = ((List.range j.toNat).map fun i : Nat => D.int (0 + (i : Int))) := by simp
        rw [e0]
        rw [List.length_map, List.length_range]
        exact w.mono (fun _ _ => trivial) fun i H' x H'' hi l y => yd_fn hi y
      · cases h3
    · cases h3
theorem iv_range2 {p pos : Pos} (hg : Gl X "range") (hm : X.mg "range" = none) (ha : Av X true s [e, e2] FA) (hs : starEach [e, e2] X.env = [(false, eval e X.env), (false, eval e2 X.env)] := by rfl) (hs2 : starEach [e2] X.env = [(false, eval e2 X.env)] := by rfl) :
    Iv X tg (.Call (.Name "range" p) [e, e2] [] pos) (inF rng2 FA) :=
  piM (pi_range2 hg hm ha hs hs2) fun σ H Rr ⟨G, env, L, R, items, env', hf, k⟩ => by
    obtain ⟨da, h1, h3⟩ := inF_some hf
    refine ⟨G, env, L, R, da, env', h1, fun x G1 H1 L1 La R1 ra n1 st1 x1 => ?_⟩
    unfold rng2 at h3
    split at h3
    · split at h3
      · rename_i i j hj
        cases h3
        obtain ⟨v, w, La, Lb, rfl, r, r', rfl⟩ := ra.two
        obtain ⟨rfl, rfl⟩ := r.int_inv
        obtain ⟨rfl, rfl⟩ := r'.int_inv
        obtain ⟨b1, b2⟩ := rgOk_of hj.1
        obtain ⟨b3, b4⟩ := rgOk_of hj.2
        refine ⟨i, j, rfl, ⟨b1, b2, b3, b4⟩, k _ G1 H1 L1 R1 (by simpa using x1) ?_⟩
        have w := walk_range (lo := i) (n := (j - i).toNat)
        rw [List.length_map, List.length_range]
        exact w.mono (fun _ _ => trivial) fun i H' x H'' hi l y => yd_fn hi y
      · cases h3
    · cases h3
/-- zip of two lists, or of two tuples -/
def fzip : List D → Option (List D)
  | [.tup a, .tup b] => if D.pures a = true ∧ D.pures b = true then some (List.zipWith (fun a b => .tup [a, b]) a b) else none
  | [.lst _ a, .lst _ b] => if D.pures a = true ∧ D.pures b = true then some (List.zipWith (fun a b => .tup [a, b]) (D.fzs a) (D.fzs b)) else none
  | _ => none
theorem walk_zipT {K : PySem.W.Frag} {a b : Addr} {xs ys : List V} {n : Nat} (hn : n = min xs.length ys.length) : Walk (RZ.ItzT K a b) n (fun H => SqT K H a xs ∧ SqT K H b ys) (YPair (fun i => xs[i]?) (fun i => ys[i]?)) := by
  subst hn
  refine ⟨fun i _ hi q => ?_, fun _ q => ⟨xs, ys, q.1, q.2, by omega⟩, fun i H v H' _ q y => ?_⟩
  · have h1 : i < xs.length := by omega
    have h2 : i < ys.length := by omega
    exact ⟨xs, ys, xs[i], ys[i], q.1, q.2, by simp [h1], by simp [h2]⟩
  · obtain ⟨T, x, z, h1, h2, h3, h4, h5⟩ := y
    exact ⟨T, x, z, h1, h2, h3, h4 xs q.1, h5 ys q.2⟩
theorem iv_zip {p pos tpos : Pos} {elts : List Expr} {kk : Nat} (hg : Gl X "zip") (hm : X.mg "zip" = none) (ha : Av X true s [e, e2] FA)
    (hs : starEach [e, e2] X.env = (false, eval e X.env) :: starEach [e2] X.env := by rfl) (hpl : (backTo pos (starEach [e2] X.env)).any (·.1) = false := by rfl) :
    Iv X (.Tuple elts kk tpos) (.Call (.Name "zip" p) [e, e2] [] pos) (inF fzip FA) := piM (RZ.pi_zipA hg hm ha hs hpl) fun σ H Rr ⟨G, env, L, R, items, env', hf, k⟩ => by
  obtain ⟨da, h1, h3⟩ := inF_some hf
  refine ⟨G, env, L, R, da, env', h1, fun x G1 H1 L1 La R1 ra n1 st1 x1 => ?_⟩
  unfold fzip at h3
  split at h3
  · split at h3
    · rename_i a b hj
      cases h3
      obtain ⟨v, w, La, Lb, rfl, r, r', rfl⟩ := ra.two
      obtain ⟨p, vs, rfl, sa, qa⟩ := r.tup_inv
      obtain ⟨q, ws, rfl, sb, qb⟩ := r'.tup_inv
      obtain rfl := qa.pure_nil hj.1
      obtain rfl := qb.pure_nil hj.2
      refine ⟨p, q, vs, ws, rfl, .inr ⟨R1.le.sqT sa, R1.le.sqT sb, k _ G1 H1 L1 R1 (by simpa using x1) ?_⟩⟩
      have w := walk_zipT (K := X.K) (a := p) (b := q) (xs := vs) (ys := ws) rfl
      rw [List.length_zipWith, qa.length, qb.length]
      exact w.mono (fun H' l => ⟨l.sqT sa, l.sqT sb⟩) fun i H' x H'' hi l y => yd_pair qa qb y
    · cases h3
  · split at h3
    · rename_i o1 a o2 b hj
      cases h3
      have R2 := R1.give (n1 rfl)
      have x2 := x1.give R1.le
      have rz := ra.fz (G' := frG G1 H1 La) (H' := H1) (frG_le R1.le) fun a z => frG_in z
      obtain ⟨v, w, L3, L4, rfl, r, r', e0⟩ := rz.two
      obtain ⟨rfl, rfl⟩ := List.append_eq_nil_iff.mp e0.symm
      have r : Rp X.K (frG G1 H1 La) H1 (.lst false (D.fzs a)) v [] := r
      have r' : Rp X.K (frG G1 H1 La) H1 (.lst false (D.fzs b)) w [] := r'
      cases r with
      | @lstF p vs _ sa qa =>
      cases r' with
      | @lstF q ws _ sb qb =>
      refine ⟨p, q, vs, ws, rfl, .inl ⟨SqL.of (R2.le _ _ sa), SqL.of (R2.le _ _ sb), k _ _ H1 L1 R2 x2 ?_⟩⟩
      have w := walk_zip (K := X.K) (a := p) (b := q) (xs := vs) (ys := ws) rfl
      rw [List.length_zipWith, qa.length, qb.length]
      exact w.mono (fun H' l => ⟨SqL.of (l _ _ sa), SqL.of (l _ _ sb)⟩) fun i H' x H'' hi l y => yd_pair qa qb y
    · cases h3
  · cases h3
end

/-! ### for -/
def flF (FT : D → En → Option En) (FB : En → Option (Fl × En)) : List D → En → Option (Fl × En)
  | [], env => some (.nx, env)
  | x :: xs, env => (FT x env).bind fun e1 => (FB e1).bind fun r => match r.1 with
    | .nx => flF FT FB xs r.2
    | .ct => flF FT FB xs r.2
    | .bk => some (.nx, r.2)
    | .rt d => some (.rt d, r.2)
def forF (FI : En → Option (List D × En)) (FT : D → En → Option En) (FB : En → Option (Fl × En)) : En → Option (Fl × En) := fun env => (FI env).bind fun a => flF FT FB a.1 a.2
theorem sv_for {X : Cx} {tg iter : Expr} {body : List Stmt} {FI : En → Option (List D × En)} {FT : D → En → Option En} {FB : En → Option (Fl × En)} {W1 W2 : List Nat} {pos : Pos} (hp : PassesOwn (model X.prog X.w) X.A X.env X.xe) (hc : X.calm = true)
    (hi : Iv X tg iter FI) (hg : Gv X W1 tg FT) (hb : Bv X W2 body FB) (hs : ∀ x, foldedSetIterable iter X.env x = pure x := by intro _; rfl) : Sv X (W1 ++ W2) (.For tg iter body [] pos) (forF FI FT FB) :=
  psM (ps_for hp hc hi hg hb hs) fun D σ H ⟨G, env, L, R, fl, env', hf, k⟩ => by
  unfold forF at hf
  cases q : FI env with
  | none => rw [q] at hf; simp at hf
  | some r =>
  obtain ⟨items, e0⟩ := r
  rw [q] at hf
  simp only [Option.bind_some] at hf
  refine ⟨G, env, L, R, items, e0, q, fun J G1 H1 L1 R1 x1 w => ?_⟩
  have go : ∀ {W : List Nat}, (∀ j ∈ W, j ∈ W1 ++ W2) → ∀ {σ1 σ2 : St}, Keep (W1 ++ W2) σ σ1 → Keep W σ1 σ2 → Keep (W1 ++ W2) σ σ2 := @fun _ hW _ _ a b => Keep.trans a b fun j h => h.elim id (hW j)
  refine for_it w (fun i σ1 H2 => ∃ G2 env1 L2, RSt X.K σ1 G2 H2 env1 L2 ∧ Le G1 G2 ∧ Keep (W1 ++ W2) σ σ1 ∧ Ext L G H G2 H2 L2 ∧ flF FT FB (items.drop i) env1 = some (fl, env')) ⟨G1, e0, L1, R1, Le.refl _, Keep.refl _ _, x1, by simpa using hf⟩ ?_ ?_ ?_
  · rintro i σ1 H2 hi ⟨G2, env1, L2, R2, l2, _⟩
    exact l2.trans R2.le
  · rintro i x σ1 H2 H3 hi ⟨G2, env1, L2, R2, l2, k2, x2, h2⟩ y
    obtain ⟨G3, d, hd, fr, rd⟩ := y G2 l2 R2.le
    have e1 : items.drop i = d :: items.drop (i + 1) := by
      obtain ⟨hl, hd'⟩ := List.getElem?_eq_some_iff.mp hd
      rw [← hd', List.getElem_cons_drop]
    rw [e1] at h2
    simp only [flF] at h2
    cases q3 : FT d env1 with
    | none => rw [q3] at h2; simp at h2
    | some e3 =>
    rw [q3] at h2
    simp only [Option.bind_some] at h2
    cases q4 : FB e3 with
    | none => rw [q4] at h2; simp at h2
    | some u =>
    obtain ⟨f, e4⟩ := u
    rw [q4] at h2
    simp only [Option.bind_some] at h2
    have R3 := R2.fresh fr
    have x3 : Ext L G H G3 H3 L2 := x2.trans (fr.ext' fun a z => .inl z) fun a z => x2.own a z
    refine ⟨G3, env1, L2, d, [], R3, rd, by simpa using R3.nd, e3, q3, fun σ4 G4 H4 L4 R4 k4 x4 => ?_⟩
    have x4' : Ext L G H G4 H4 L4 := x3.trans x4 fun a z => x3.own a (by simpa using z)
    have k4' := go (fun j h => List.mem_append_left _ h) k2 k4
    have l4 : Le G1 G4 := (l2.trans fr.le).trans x4.le
    refine ⟨G4, e3, L4, R4, f, e4, q4, ?_⟩
    cases f with
    | nx => exact fun σ5 G5 H5 L5 R5 k5 x5 => ⟨G5, e4, L5, R5, l4.trans x5.le, go (fun j h => List.mem_append_right _ h) k4' k5, x4'.trans x5 fun a z => x4'.own a z, h2⟩
    | ct => exact fun σ5 G5 H5 L5 R5 k5 x5 => ⟨G5, e4, L5, R5, l4.trans x5.le, go (fun j h => List.mem_append_right _ h) k4' k5, x4'.trans x5 fun a z => x4'.own a z, h2⟩
    | bk => cases h2; exact fun σ5 G5 H5 L5 R5 k5 x5 => k σ5 G5 H5 L5 R5 (go (fun j h => List.mem_append_right _ h) k4' k5) (x4'.trans x5 fun a z => x4'.own a z)
    | rt d => cases h2; exact fun σ5 v G5 H5 L5 Lr R5 k5 r5 n5 x5 => k σ5 v G5 H5 L5 Lr R5 (go (fun j h => List.mem_append_right _ h) k4' k5) r5 n5 (x4'.trans x5 fun a z => x4'.own a z)
  · rintro σ1 H2 ⟨G2, env1, L2, R2, l2, k2, x2, h2⟩
    rw [List.drop_length] at h2
    cases h2
    exact k σ1 G2 H2 L2 R2 k2 x2
end
end Pz

set_option Elab.async false
set_option linter.all false
set_option maxRecDepth 100000
set_option maxHeartbeats 1000000
namespace Pz
open PySem L2
noncomputable section

def wpE : List Nat → En → En
  | [], e => e
  | v :: vs, e => (wpE vs e).set v none
def mgE (vs : List Nat) : Nat → En → En → En
  | n, a :: as, b :: bs => (if vs.contains n = true then a else b) :: mgE vs (n + 1) as bs
  | _, _, _ => []
def okE (vs : List Nat) : Nat → En → Bool
  | n, some d :: as => (!vs.contains n || d.pure) && okE vs (n + 1) as
  | n, none :: as => okE vs (n + 1) as
  | _, [] => true
section
variable {K : PySem.W.Frag} {G G0 H H0 : Hp}
theorem REnv.setNone {es : En} {σ : St} {L : List Addr} (r : REnv K G H es σ L) (v : Nat) : ∃ L', REnv K G H (es.set v none) (σ.set v none) L' ∧ L'.Sublist L := by
  by_cases h : v < es.length
  · obtain ⟨La, Li, Lb, e0, _, f⟩ := r.at h
    refine ⟨La ++ Lb, (f (Le.refl _) fun a z => ⟨(r.own a (by rw [e0]; rcases List.mem_append.mp z with z | z <;> simp [z])).1, rfl⟩).2 none, ?_⟩
    rw [e0]; simp
  · rw [List.set_eq_of_length_le (by omega), List.set_eq_of_length_le (by rw [← r.length]; omega)]
    exact ⟨L, r, List.Sublist.refl _⟩
theorem REnv.wipe {es : En} {σ : St} {L : List Addr} (r : REnv K G H es σ L) : ∀ vs : List Nat, ∃ L', REnv K G H (wpE vs es) (L2.wipe σ vs) L' ∧ L'.Sublist L
  | [] => ⟨L, r, List.Sublist.refl _⟩
  | v :: vs => by
    obtain ⟨L1, r1, s1⟩ := REnv.wipe r vs
    obtain ⟨L2, r2, s2⟩ := r1.setNone v
    exact ⟨L2, r2, s2.trans s1⟩
theorem wpE_length (es : En) : ∀ vs : List Nat, (wpE vs es).length = es.length
  | [] => rfl
  | v :: vs => by unfold wpE; rw [List.length_set, wpE_length es vs]
theorem wpE_at {es : En} : ∀ {vs : List Nat} {i : Nat}, i ∈ vs → i < es.length → (wpE vs es)[i]? = some none
  | v :: vs, i, h, hl => by
    unfold wpE
    by_cases e : v = i
    · subst e; rw [List.getElem?_set_self (by rw [wpE_length]; exact hl)]
    · rw [List.getElem?_set_ne e]
      exact wpE_at ((List.mem_cons.mp h).resolve_left fun z => e z.symm) hl
theorem wipe_at {σ : St} : ∀ {vs : List Nat} {i : Nat}, i ∈ vs → i < σ.length → (L2.wipe σ vs)[i]? = some none
  | v :: vs, i, h, hl => by
    unfold L2.wipe
    by_cases e : v = i
    · subst e; rw [List.getElem?_set_self (by rw [wipe_length]; exact hl)]
    · rw [List.getElem?_set_ne e]
      exact wipe_at ((List.mem_cons.mp h).resolve_left fun z => e z.symm) hl
theorem wipe_off {σ : St} : ∀ {vs : List Nat} {i : Nat}, i ∉ vs → (L2.wipe σ vs)[i]? = σ[i]?
  | [], _, _ => rfl
  | v :: vs, i, h => by
    unfold L2.wipe
    rw [List.getElem?_set_ne fun e => h (by simp [e])]
    exact wipe_off fun z => h (by simp [z])
theorem REnv.merge {vs : List Nat} : ∀ {n : Nat} {a b : En} {σ τ : St} {La Lb : List Addr}, REnv K G0 H0 a σ La → REnv K G H b τ Lb → Le G0 G → a.length = b.length → okE vs n a = true →
    (∀ i, vs.contains (n + i) = true → i < b.length → b[i]? = some none) → (∀ i, vs.contains (n + i) = false → τ[i]? = σ[i]?) → REnv K G H (mgE vs n a b) σ Lb
  | _, _, _, _, _, _, _, .nil, .nil, _, _, _, _, _ => .nil
  | n, _, _, _, _, _, _, .nil, .non _, _, hl, _, _, _ => by simp at hl
  | n, _, _, _, _, _, _, .nil, .val _ _, _, hl, _, _, _ => by simp at hl
  | n, _, _, _, _, _, _, .non _, .nil, _, hl, _, _, _ => by simp at hl
  | n, _, _, _, _, _, _, .val _ _, .nil, _, hl, _, _, _ => by simp at hl
  | n, _, _, _, _, _, _, .non ra, .non rb, l, hl, ok, h1, h2 => by
    have q := REnv.merge (n := n + 1) ra rb l (by simpa using hl) (by simpa [okE] using ok) (fun i hi hb => by have := h1 (i + 1) (by rw [← hi]; congr 1; omega) (by simpa using hb); simpa using this) fun i hi => by have := h2 (i + 1) (by rw [← hi]; congr 1; omega); simpa using this
    simp only [mgE]
    split <;> exact .non q
  | n, _, _, _, _, _, _, .non ra, .val (d := d) (v := v) r rb, l, hl, ok, h1, h2 => by
    have q := REnv.merge (n := n + 1) ra rb l (by simpa using hl) (by simpa [okE] using ok) (fun i hi hb => by have := h1 (i + 1) (by rw [← hi]; congr 1; omega) (by simpa using hb); simpa using this) fun i hi => by have := h2 (i + 1) (by rw [← hi]; congr 1; omega); simpa using this
    simp only [mgE]
    by_cases hc : vs.contains n = true
    · have := h1 0 (by simpa using hc) (by simp); simp at this
    · rw [if_neg hc]
      have e := h2 0 (by simpa using hc)
      simp at e
      rw [← e]
      exact .val r q
  | n, _, _, _, _, _, _, .val (d := d) (v := v) r ra, .non rb, l, hl, ok, h1, h2 => by
    simp only [okE, Bool.and_eq_true] at ok
    have q := REnv.merge (n := n + 1) ra rb l (by simpa using hl) ok.2 (fun i hi hb => by have := h1 (i + 1) (by rw [← hi]; congr 1; omega) (by simpa using hb); simpa using this) fun i hi => by have := h2 (i + 1) (by rw [← hi]; congr 1; omega); simpa using this
    simp only [mgE]
    by_cases hc : vs.contains n = true
    · rw [if_pos hc]
      have hp : d.pure = true := by have := ok.1; rw [hc] at this; simpa using this
      obtain rfl := r.pure_nil hp
      exact .val (L1 := []) (r.mono l fun _ z => nomatch z) q
    · rw [if_neg hc]
      exact .non q
  | n, _, _, _, _, _, _, .val (d := d) (v := v) r ra, .val r' rb, l, hl, ok, h1, h2 => by
    simp only [okE, Bool.and_eq_true] at ok
    have q := REnv.merge (n := n + 1) ra rb l (by simpa using hl) ok.2 (fun i hi hb => by have := h1 (i + 1) (by rw [← hi]; congr 1; omega) (by simpa using hb); simpa using this) fun i hi => by have := h2 (i + 1) (by rw [← hi]; congr 1; omega); simpa using this
    simp only [mgE]
    by_cases hc : vs.contains n = true
    · have := h1 0 (by simpa using hc) (by simp); simp at this
    · rw [if_neg hc]
      have e := h2 0 (by simpa using hc)
      simp at e
      rw [← e]
      exact .val r' q
end

/-- the turns of a comprehension -/
def lcL (vs : List Nat) (FT : D → En → Option En) (FC : En → Option (Bool × En)) (FE : En → Option (D × En)) : List D → List D → En → Option (List D × En)
  | acc, [], env => some (acc, env)
  | acc, x :: xs, env => (FT x env).bind fun e1 => (FC e1).bind fun c => if c.1 = true then (FE c.2).bind fun a => lcL vs FT FC FE (acc ++ [a.1]) xs (wpE vs a.2) else lcL vs FT FC FE acc xs (wpE vs c.2)
def yesF : En → Option (Bool × En) := fun env => some (true, env)
def lcF (vs : List Nat) (FI : En → Option (List D × En)) (FT : D → En → Option En) (FC : En → Option (Bool × En)) (FE : En → Option (D × En)) : En → Option (D × En) := fun env =>
  (FI env).bind fun a => if lineOk a.1.length = true ∧ okE vs 0 a.2 = true then (lcL vs FT FC FE [] a.1 (wpE vs a.2)).map fun r => (.lst true r.1, mgE vs 0 a.2 r.2) else none
abbrev Cv (X : Cx) (ifs : List Expr) (F : En → Option (Bool × En)) : Prop := PTs X ifs (tT X.K false F)
theorem cv_nil {X : Cx} : Cv X [] yesF := ⟨fun pins s σ H Q I ⟨G, env, L, R, d, env', hf, k⟩ => pts_nil.run pins s σ H Q I (by
  cases hf
  exact k G H L R (fun z => nomatch z) (Ext.refl fun _ z => z))⟩
theorem tv_eff {X : Cx} {e : Expr} {F : En → Option (Bool × En)} {s : Bool} (h : Tv X s e F) : Tv X false e F := ptM h fun σ H Q ⟨G, env, L, R, d, env', hf, k⟩ => ⟨G, env, L, R, d, env', hf, fun G' H' L' R' st x => k G' H' L' R' (fun z => nomatch z) x⟩
theorem cv_one {X : Cx} {e : Expr} {F : En → Option (Bool × En)} {s : Bool} (h : Tv X s e F) : Cv X [e] F := pts_one (tv_eff h)
theorem lcL_wiped {vs : List Nat} {FT : D → En → Option En} {FC : En → Option (Bool × En)} {FE : En → Option (D × En)} : ∀ {xs acc : List D} {env e0 env' : En} {r : List D}, env = wpE vs e0 → lcL vs FT FC FE acc xs env = some (r, env') → ∃ e1, env' = wpE vs e1
  | [], acc, env, e0, env', r, hw, h => by
    simp only [lcL, Option.some.injEq, Prod.mk.injEq] at h
    exact ⟨e0, h.2 ▸ hw⟩
  | x :: xs, acc, env, e0, env', r, hw, h => by
    simp only [lcL] at h
    cases q : FT x env with
    | none => rw [q] at h; simp at h
    | some e1 =>
    rw [q] at h; simp only [Option.bind_some] at h
    cases q2 : FC e1 with
    | none => rw [q2] at h; simp at h
    | some c =>
    rw [q2] at h; simp only [Option.bind_some] at h
    split at h
    · cases q3 : FE c.2 with
      | none => rw [q3] at h; simp at h
      | some a => rw [q3] at h; simp only [Option.bind_some] at h; exact lcL_wiped (e0 := a.2) rfl h
    · exact lcL_wiped (e0 := c.2) rfl h
section
variable {K : PySem.W.Frag}
/-- what was owned beside is apart from what is owned now -/
theorem lc_nd {L2 L5 M : List Addr} {G2 H2 G5 H5 : Hp} (x : Ext L2 G2 H2 G5 H5 L5) (n5 : L5.Nodup) (nn : (L2 ++ M).Nodup) (own : ∀ {a : Addr}, a ∈ M → G2 a = none ∧ H2 a ≠ none) : (L5 ++ M).Nodup :=
  List.nodup_append.mpr ⟨n5, (List.nodup_append.mp nn).2.1, fun a ha b hb e => by
    subst e
    rcases x.own a ha with z | z
    · exact (List.nodup_append.mp nn).2.2 a z a hb rfl
    · exact (own hb).2 z⟩
theorem lc_ext {L L2 L5 M : List Addr} {G H G2 H2 G5 H5 : Hp} (x : Ext L G H G2 H2 (L2 ++ M)) (y : Ext L2 G2 H2 G5 H5 L5) : Ext L G H G5 H5 (L5 ++ M) := by
  have z : Ext L G H G5 H5 L5 := x.trans y fun a h => x.own a (List.mem_append_left _ h)
  refine z.sub fun a h => ?_
  rcases List.mem_append.mp h with h | h
  · exact z.own a h
  · exact x.own a (List.mem_append_right _ h)
theorem lc_lift {vs W : List Nat} {FI : En → Option (List D × En)} {FT : D → En → Option En} {FC : En → Option (Bool × En)} {FE : En → Option (D × En)} {s2 : Bool} (hW : ∀ j ∈ W, j ∈ vs) (σ : St) (H : Hp) (Q : VK) (h : tE K true false (lcF vs FI FT FC FE) σ H Q) :
    tLc (tI K FI) (tG K W FT) (tT K false FC) (tE K true s2 FE) vs σ H Q := by
  obtain ⟨G, env, L, R, d, env', hf, k⟩ := h
  unfold lcF at hf
  cases q : FI env with
  | none => rw [q] at hf; simp at hf
  | some r =>
  obtain ⟨items, e0⟩ := r
  rw [q] at hf
  simp only [Option.bind_some] at hf
  split at hf
  case isFalse => cases hf
  rename_i hok
  cases q2 : lcL vs FT FC FE [] items (wpE vs e0) with
  | none => rw [q2] at hf; simp at hf
  | some r =>
  obtain ⟨res, ef⟩ := r
  rw [q2] at hf
  simp only [Option.map_some, Option.some.injEq, Prod.mk.injEq] at hf
  obtain ⟨rfl, rfl⟩ := hf
  refine ⟨G, env, L, R, items, e0, q, fun J G1 H1 L1 R1 x1 w D hD => ?_⟩
  have hlen := lineOk_le hok.1
  obtain ⟨Lw, rw0, sw0⟩ := R1.rep.wipe vs
  have f0 := Fresh.lst R1.le hD (.lst [])
  have Rw : RSt K (wipe σ vs) G1 (upd H1 D (.lst [])) (wpE vs e0) Lw := ⟨f0.le', rw0.mono f0.le fun a z => f0.keepOf (rw0.own a z), R1.nd.sublist sw0⟩
  have gD : G1 D = none := R1.le.none hD
  refine lc_it w (fun i H2 => ∃ G2 e2 L2 acc av La, RSt K (wipe σ vs) G2 H2 e2 L2 ∧ Le G1 G2 ∧ H2 D = some (.lst av) ∧ G2 D = none ∧ Rps K G2 H2 acc av La ∧ (L2 ++ (D :: La)).Nodup ∧ Ext Lw G1 H1 G2 H2 (L2 ++ (D :: La)) ∧ acc.length ≤ i ∧ (∃ e3, e2 = wpE vs e3) ∧
      lcL vs FT FC FE acc (items.drop i) e2 = some (res, ef)) ?_ ?_ ?_ ?_
  · refine ⟨G1, wpE vs e0, Lw, [], [], [], Rw, Le.refl _, upd_same, gD, .nil, ?_, ?_, Nat.zero_le _, ⟨_, rfl⟩, by simpa using q2⟩
    · exact f0.nodup (R1.nd.sublist sw0) fun a z => (rw0.own a z).2
    · exact f0.ext' fun a z => by
        rcases List.mem_append.mp z with z | z
        · exact .inl z
        · exact .inr (f0.new a z)
  · rintro i H2 hi ⟨G2, e2, L2, acc, av, La, R2, l2, _⟩
    exact l2.trans R2.le
  · rintro i x H2 H3 hi ⟨G2, e2, L2, acc, av, La, R2, l2, hH, gD2, ra, nn, x2, hal, ⟨e3, he3⟩, h2⟩ y
    obtain ⟨G3, dx, hd, fr, rd⟩ := y G2 l2 R2.le
    have e1 : items.drop i = dx :: items.drop (i + 1) := by
      obtain ⟨hl, hd'⟩ := List.getElem?_eq_some_iff.mp hd
      rw [← hd', List.getElem_cons_drop]
    rw [e1] at h2
    simp only [lcL] at h2
    cases q3 : FT dx e2 with
    | none => rw [q3] at h2; simp at h2
    | some e4 =>
    rw [q3] at h2
    simp only [Option.bind_some] at h2
    cases q4 : FC e4 with
    | none => rw [q4] at h2; simp at h2
    | some c =>
    obtain ⟨c, e5⟩ := c
    rw [q4] at h2
    simp only [Option.bind_some] at h2
    have R3 := R2.fresh fr
    have ra3 := ra.fresh fr
    have dOwn : ∀ {a : Addr}, a ∈ D :: La → G2 a = none ∧ H2 a ≠ none := fun {a} z => by
      rcases List.mem_cons.mp z with e | e
      · subst e; exact ⟨gD2, by rw [hH]; simp⟩
      · exact ra.own a e
    have apart : ∀ {a : Addr}, a ∈ D :: La → a ∉ L2 := fun {a} z y => (List.nodup_append.mp nn).2.2 a y a z rfl
    -- the owned list and its items behind any further change within L2
    have stay : ∀ {G4 H4 : Hp} {L4 : List Addr}, Ext L2 G2 H2 G4 H4 L4 → ∀ a ∈ D :: La, G4 a = none ∧ H4 a = H2 a := fun x a z => x.keep (apart z) (dOwn z).1 (dOwn z).2
    have x3 : Ext L2 G2 H2 G3 H3 L2 := fr.ext' fun a z => .inl z
    refine ⟨G3, e2, L2, dx, [], R3, rd, by simpa using R3.nd, e4, q3, fun σ4 G4 H4 L4 R4 k4 x4 => ⟨?_, ?_⟩⟩
    · -- the block's names alone have changed
      refine List.ext_getElem? fun j => ?_
      by_cases hj : j ∈ vs
      · by_cases hl : j < σ.length
        · rw [wipe_at hj (by rw [k4.1, wipe_length]; exact hl), wipe_at hj hl]
        · rw [List.getElem?_eq_none (by rw [wipe_length, k4.1, wipe_length]; omega), List.getElem?_eq_none (by rw [wipe_length]; omega)]
      · rw [wipe_off hj]
        exact (k4.2 j fun z => hj (hW j z)).trans rfl
    have wq : wipe σ4 vs = wipe σ vs := by
      refine List.ext_getElem? fun j => ?_
      by_cases hj : j ∈ vs
      · by_cases hl : j < σ.length
        · rw [wipe_at hj (by rw [k4.1, wipe_length]; exact hl), wipe_at hj hl]
        · rw [List.getElem?_eq_none (by rw [wipe_length, k4.1, wipe_length]; omega), List.getElem?_eq_none (by rw [wipe_length]; omega)]
      · rw [wipe_off hj]
        exact (k4.2 j fun z => hj (hW j z)).trans rfl
    have x24 : Ext L2 G2 H2 G4 H4 L4 := x3.trans x4 fun a z => .inl (by simpa using z)
    refine ⟨G4, e4, L4, R4, c, e5, q4, fun G5 H5 L5 R5 st5 x5 => ?_⟩
    have x25 : Ext L2 G2 H2 G5 H5 L5 := x24.trans x5 fun a z => x24.own a z
    cases c with
    | false =>
      rw [if_neg (by decide)] at h2
      show (if false = true then _ else _)
      rw [if_neg (by decide)]
      obtain ⟨L6, rw6, sw6⟩ := R5.rep.wipe vs
      rw [wq] at rw6
      have s5 := stay x25
      refine ⟨G5, wpE vs e5, L6, acc, av, La, ⟨R5.le, rw6, R5.nd.sublist sw6⟩, l2.trans x25.le, by rw [(s5 D (List.mem_cons_self ..)).2]; exact hH, (s5 D (List.mem_cons_self ..)).1, ra.mono x25.le fun a z => s5 a (List.mem_cons_of_mem _ z), ?_, ?_, by omega, ⟨_, rfl⟩, h2⟩
      · exact lc_nd (x25.sub fun a z => x25.own a (sw6.subset z)) (R5.nd.sublist sw6) nn dOwn
      · exact lc_ext x2 (x25.sub fun a z => x25.own a (sw6.subset z))
    | true =>
      rw [if_pos rfl] at h2
      show (if true = true then _ else _)
      rw [if_pos rfl]
      cases q5 : FE e5 with
      | none => rw [q5] at h2; simp at h2
      | some u =>
      obtain ⟨du, e6⟩ := u
      rw [q5] at h2
      simp only [Option.bind_some] at h2
      refine ⟨G5, e5, L5, R5, du, e6, q5, fun v G6 H6 L6 Lv R6 rv n6 st6 x6 => ?_⟩
      have x26 : Ext L2 G2 H2 G6 H6 (L6 ++ Lv) := x25.trans x6 fun a z => x25.own a z
      have s6 := stay x26
      have hD6 : H6 D = some (.lst av) := by rw [(s6 D (List.mem_cons_self ..)).2]; exact hH
      have gD6 := (s6 D (List.mem_cons_self ..)).1
      have hav : av.length < sizeLine := by rw [← ra.length]; omega
      refine ⟨av, hD6, hav, ?_⟩
      obtain ⟨L7, rw7, sw7⟩ := R6.rep.wipe vs
      rw [wq] at rw7
      -- nothing else lies at D
      have nD : D ∉ L6 ++ Lv := fun z => by
        rcases x26.own D z with w | w
        · exact apart (List.mem_cons_self ..) w
        · exact (dOwn (List.mem_cons_self ..)).2 w
      have keepD : ∀ {a : Addr}, a ≠ D → upd H6 D (.lst (av ++ [v])) a = H6 a := fun {a} n => upd_ne n
      have nn6 : (L6 ++ Lv ++ (D :: La)).Nodup := lc_nd x26 (n6 rfl) nn dOwn
      have le7 : Le G6 (upd H6 D (.lst (av ++ [v]))) := fun a o e => by
        rw [keepD fun z => by rw [z, gD6] at e; cases e]
        exact R6.le a o e
      refine ⟨G6, wpE vs e6, L7, acc ++ [du], av ++ [v], La ++ Lv, ⟨le7, rw7.mono (Le.refl _) fun a z => ⟨(rw7.own a z).1, keepD fun e => nD (by rw [← e]; exact List.mem_append_left _ (sw7.subset z))⟩, R6.nd.sublist sw7⟩, l2.trans x26.le, upd_same, gD6, ?_, ?_, ?_, by simp; omega, ⟨_, rfl⟩, h2⟩
      · have hLa : ∀ a ∈ La, a ≠ D := fun a z e => by
          have n1 := (List.nodup_append.mp nn).2.1
          rw [e] at z
          exact (List.nodup_cons.mp n1).1 z
        have p1 : Rps K G6 (upd H6 D (.lst (av ++ [v]))) acc av La := ra.mono x26.le fun a z => ⟨(s6 a (List.mem_cons_of_mem _ z)).1, (keepD (hLa a z)).trans (s6 a (List.mem_cons_of_mem _ z)).2⟩
        have p2 : Rp K G6 (upd H6 D (.lst (av ++ [v]))) du v Lv := rv.mono (Le.refl _) fun a z => ⟨(rv.own a z).1, keepD fun e => nD (by rw [← e]; exact List.mem_append_right _ z)⟩
        have p3 := p1.append (.cons (L1 := Lv) (L2 := []) p2 .nil)
        simpa using p3
      · have : (L7 ++ Lv ++ (D :: La)).Nodup := nn6.sublist ((sw7.append (List.Sublist.refl _)).append (List.Sublist.refl _))
        refine (List.Perm.nodup_iff ?_).mp this
        rw [List.append_assoc]
        exact List.Perm.append_left _ (by simpa using List.perm_append_comm (l₁ := Lv) (l₂ := D :: La))
      · have z := lc_ext x2 x26
        refine ⟨z.le, fun b nb hb => ?_, z.gd, fun b hb => z.own b ?_⟩
        · rw [keepD fun e => hb (by rw [e]; exact hD)]
          exact z.fr b nb hb
        · simp only [List.mem_append, List.mem_cons] at hb ⊢
          rcases hb with w | w | w | w
          · exact .inl (.inl (sw7.subset w))
          · exact .inr (.inl w)
          · exact .inr (.inr w)
          · exact .inl (.inr w)
  · rintro H2 ⟨G2, e2, L2, acc, av, La, R2, l2, hH, gD2, ra, nn, x2, hal, ⟨e3, rfl⟩, h2⟩
    rw [List.drop_length] at h2
    simp only [lcL, Option.some.injEq, Prod.mk.injEq] at h2
    obtain ⟨rfl, rfl⟩ := h2
    have m := REnv.merge (vs := vs) (n := 0) R1.rep R2.rep l2 (by rw [R1.rep.length, R2.rep.length, wipe_length]) hok.2 (fun i hi hl => by
      rw [Nat.zero_add] at hi
      exact wpE_at (List.contains_iff_mem.mp hi) (by rw [wpE_length] at hl; exact hl)) fun i hi => by
      rw [Nat.zero_add] at hi
      exact wipe_off fun z => by rw [List.contains_iff_mem.mpr z] at hi; cases hi
    exact k (.ref D) G2 H2 L2 (D :: La) ⟨R2.le, m, R2.nd⟩ (.lstO gD2 hH ra) (fun _ => nn) (fun z => nomatch z) (x1.trans x2 fun a z => x1.own a (sw0.subset z))
end
section
variable {X : Cx} {elt tg iter : Expr} {ifs : List Expr} {scope : Scope} {own : List (Str × Nat)} {pos spos py : Pos} {FI : En → Option (List D × En)} {FT : D → En → Option En} {FC : En → Option (Bool × En)} {FE : En → Option (D × En)} {W : List Nat} {s2 : Bool} {i : Nat} {y : Str}
theorem ev_lc (hc : X.calm = true) (hN : X.N.Nodup) (hi : Iv X tg iter FI) (ok : BlkOk X.N X.env.scope scope own)
    (hg : ∀ (s : Shared) (H : Hp) (C : Addr) (cl : List (Str × Addr)) (fp : List Addr), Gv (X.blk s H scope (compEnvC scope cl C X.env) fp) W tg FT) (ht : ∀ (s : Shared) (H : Hp) (C : Addr) (cl : List (Str × Addr)) (fp : List Addr), Cv (X.blk s H scope (compEnvC scope cl C X.env) fp) ifs FC)
    (he : ∀ (s : Shared) (H : Hp) (C : Addr) (cl : List (Str × Addr)) (fp : List Addr), Ev (X.blk s H scope (compEnvC scope cl C X.env) fp) true s2 elt FE) (hW : ∀ j ∈ W, j ∈ own.map (·.2)) (hs : ∀ x, foldedSetIterable iter X.env x = pure x := by intro _; rfl) :
    Ev X true false (.ListComp elt [⟨tg, iter, ifs, 0⟩] scope pos) (lcF (own.map (·.2)) FI FT FC FE) := peM (pe_lc hc hN hi ok hg ht he hs) fun σ H Q h => lc_lift hW σ H Q h
/-- name = [..] on one line -/
theorem sv_setLc (hc : X.calm = true) (hN : X.N.Nodup) (hy : X.N[i]? = some y) (hyl : X.env.scope.names.lookup y = some .local)
    (hsw : swapsWith (.ListComp elt [⟨tg, iter, ifs, 0⟩] scope pos) (some (.Name y py)) spos.line X.env = pure true) (hi : Iv X tg iter FI) (ok : BlkOk X.N X.env.scope scope own)
    (hg : ∀ (s : Shared) (H : Hp) (C : Addr) (cl : List (Str × Addr)) (fp : List Addr), Gv (X.blk s H scope (compEnvC scope cl C X.env) fp) W tg FT) (ht : ∀ (s : Shared) (H : Hp) (C : Addr) (cl : List (Str × Addr)) (fp : List Addr), Cv (X.blk s H scope (compEnvC scope cl C X.env) fp) ifs FC)
    (he : ∀ (s : Shared) (H : Hp) (C : Addr) (cl : List (Str × Addr)) (fp : List Addr), Ev (X.blk s H scope (compEnvC scope cl C X.env) fp) true s2 elt FE) (hW : ∀ j ∈ W, j ∈ own.map (·.2)) (hs : ∀ x, foldedSetIterable iter X.env x = pure x := by intro _; rfl) :
    Sv X [i] (.Assign [.Name y py] (.ListComp elt [⟨tg, iter, ifs, 0⟩] scope pos) spos) (stF (lcF (own.map (·.2)) FI FT FC FE) (put i)) :=
  psM (ps_setLc hc hN hy hyl hsw hi ok hg ht he hs) fun D σ H h => by
    obtain ⟨G, env, L, R, fl, env', hff, k⟩ := h
    unfold stF at hff
    cases q : lcF (own.map (·.2)) FI FT FC FE env with
    | none => rw [q] at hff; simp at hff
    | some r =>
    obtain ⟨d, e1⟩ := r
    rw [q] at hff
    simp only [Option.bind_some] at hff
    cases q2 : put i d e1 with
    | none => rw [q2] at hff; simp at hff
    | some e2 =>
    rw [q2] at hff
    simp only [Option.map_some, Option.some.injEq, Prod.mk.injEq] at hff
    obtain ⟨rfl, rfl⟩ := hff
    refine lc_lift (s2 := s2) hW σ H _ ⟨G, env, L, R, d, e1, q, fun v G1 H1 L1 Lr R1 r1 n1 st1 x1 => ?_⟩
    obtain ⟨L', R', ss⟩ := R1.put r1 (n1 rfl) q2
    exact k _ G1 H1 L' R' set_keep (x1.sub fun a z => x1.own a (ss a z))
end
end
end Pz

set_option Elab.async false
set_option linter.all false
set_option maxRecDepth 100000
set_option maxHeartbeats 1000000
namespace Pz
open PySem L2
noncomputable section

/-! ### a def -/
section
variable (K : PySem.W.Frag)
/-- what a def's function promises: its value, and what it gives back at each parameter -/
def spF (n : Nat) (F : List D → Option (D × En)) : Sp := fun vs H Q _ => vs.length = n ∧ ∃ G ds L, Le G H ∧ Rps K G H ds vs L ∧ L.Nodup ∧ ∃ d back, F ds = some (d, back) ∧
  ∀ v G' H' Lr Lb, Le G' H' → REnv K G' H' back (vs.map some) Lb → Rp K G' H' d v Lr → (Lb ++ Lr).Nodup → Ext L G H G' H' (Lb ++ Lr) → Q v H'
end
abbrev FnV (P : Program) (w : World) (K : PySem.W.Frag) (mg : Str → Option Value) (base : Heap) (k : Nat) (f : Addr) (fd : FuncData) (ps : List Str) (F : List D → Option (D × En)) : Prop := FnOk P w K mg base CX0 k f fd ps (spF K ps.length F)
def fnF (n m : Nat) (W : List Nat) (FB : En → Option (Fl × En)) : List D → Option (D × En) := fun ds => if ds.length = n then (FB (ds.map some ++ List.replicate m none)).bind fun r => match r.1 with
  | .rt d => some (d, (wpE W r.2).take n)
  | .nx => some (.non, (wpE W r.2).take n)
  | _ => none
  else none
section
variable {K : PySem.W.Frag} {G H G' H' : Hp}
theorem REnv.nones : ∀ m : Nat, REnv K G H (List.replicate m none) (List.replicate m none) []
  | 0 => .nil
  | m + 1 => .non (REnv.nones m)
theorem Rps.env : ∀ {ds : List D} {vs : List V} {L : List Addr} {es : En} {σ : St} {L2 : List Addr}, Rps K G H ds vs L → REnv K G H es σ L2 → REnv K G H (ds.map some ++ es) (vs.map some ++ σ) (L ++ L2)
  | _, _, _, _, _, _, .nil, r => r
  | _, _, _, _, _, _, .cons h hs, r => by
    rw [List.append_assoc]
    exact .val h (Rps.env hs r)
theorem REnv.take : ∀ {es : En} {σ : St} {L : List Addr} (n : Nat), REnv K G H es σ L → ∃ L', REnv K G H (es.take n) (σ.take n) L' ∧ L'.Sublist L
  | _, _, _, 0, _ => ⟨[], by simpa using REnv.nil, List.nil_sublist _⟩
  | _, _, _, _ + 1, .nil => ⟨[], .nil, List.Sublist.refl _⟩
  | _, _, _, n + 1, .non r => by
    obtain ⟨L', r', s⟩ := REnv.take n r
    exact ⟨L', .non r', s⟩
  | _, _, _, n + 1, .val h r => by
    obtain ⟨L', r', s⟩ := REnv.take n r
    exact ⟨_, .val h r', (List.Sublist.refl _).append s⟩
/-- the same slots by other values where nothing is said -/
theorem REnv.retag : ∀ {es : En} {τ σ : St} {L : List Addr}, REnv K G H es τ L → τ.length = σ.length → (∀ (i : Nat) (d : D), es[i]? = some (some d) → τ[i]? = σ[i]?) → REnv K G H es σ L
  | _, _, [], _, .nil, _, _ => .nil
  | _, _, _ :: _, _, .nil, h, _ => by simp at h
  | _, _, [], _, .non _, h, _ => by simp at h
  | _, _, [], _, .val _ _, h, _ => by simp at h
  | _, _, o :: σ, _, .non r, h, k => .non (REnv.retag r (by simpa using h) fun i d e => by have := k (i + 1) d (by simpa using e); simpa using this)
  | _, _, o :: σ, _, .val (v := v) q r, h, k => by
    have e := k 0 _ rfl
    simp at e
    rw [← e]
    exact .val q (REnv.retag r (by simpa using h) fun i d e => by have := k (i + 1) d (by simpa using e); simpa using this)
variable {P : Program} {w : World} {mg : Str → Option Value} {base : Heap}
theorem fnV {x qual : Str} {st : Stmt} {f : Addr} {fd : FuncData} {N ps : List Str} {k : Nat} {W : List Nat} {FB : En → Option (Fl × En)} (F : Fun K x qual st f fd) (S : FnScope N ps (defScope st)) (m : Nat) (hm : N.length = ps.length + m)
    (hbody : ∀ (cdv : Value) (A : Around) (outer : List Env) (s : Shared) (H : Hp) (E : XK), Room k (A.deeper (PyProof.Rows.envOfC qual (defScope st) s.heap.objs.size f cdv)) → Bv (cxOf CX0 P w K mg base N qual (defScope st) f cdv A outer s H E).nox W (defBody st) FB) :
    FnV P w K mg base (k + 1) f fd ps (fnF ps.length m W FB) := by
  refine F.ok S (fun vs H Q E h => h.1) fun cdv A outer s H vs Q E hr h => ?_
  refine ⟨_, hbody cdv A outer s H E hr, ?_⟩
  obtain ⟨hl, G, ds, L, l, r, nd, d, back, hF, q⟩ := h
  unfold fnF at hF
  have hds : ds.length = ps.length := by rw [r.length, hl]
  rw [if_pos hds] at hF
  cases q2 : FB (ds.map some ++ List.replicate m none) with
  | none => rw [q2] at hF; simp at hF
  | some u =>
  obtain ⟨fl, env'⟩ := u
  rw [q2] at hF
  simp only [Option.bind_some] at hF
  have es : L2.start N vs = vs.map some ++ List.replicate m none := by
    unfold L2.start
    rw [hm, hl, Nat.add_sub_cancel_left]
  have R0 : RSt K (L2.start N vs) G H (ds.map some ++ List.replicate m none) L := ⟨l, by rw [es]; simpa using r.env (REnv.nones m), nd⟩
  -- what is given back
  have giv : ∀ {σ' : St} {G' H' : Hp} {L' : List Addr}, RSt K σ' G' H' env' L' → Keep W (L2.start N vs) σ' → ∃ Lb, REnv K G' H' ((wpE W env').take ps.length) (vs.map some) Lb ∧ Lb.Sublist L' := fun {σ' G' H' L'} R' k' => by
    obtain ⟨L1, r1, s1⟩ := R'.rep.wipe W
    have r2 : REnv K G' H' (wpE W env') (L2.start N vs) L1 := r1.retag (by rw [wipe_length]; exact k'.1) fun i d e => by
      have hi : i ∉ W := fun z => by
        have hl : i < env'.length := by
          have := (List.getElem?_eq_some_iff.mp e).1
          rwa [wpE_length] at this
        rw [wpE_at z hl] at e; cases e
      rw [wipe_off hi]
      exact k'.2 i hi
    obtain ⟨L3, r3, s2⟩ := r2.take ps.length
    refine ⟨L3, ?_, s2.trans s1⟩
    have : (_root_.L2.start N vs).take ps.length = vs.map some := by
      rw [es, ← hl, List.take_append_of_le_length (by simp), List.take_of_length_le (by simp)]
    rwa [this] at r3
  refine ⟨G, _, L, R0, fl, env', q2, ?_⟩
  cases fl with
  | bk => cases hF
  | ct => cases hF
  | nx =>
    cases hF
    intro σ' G' H' L' R' k' x'
    obtain ⟨Lb, rb, sb⟩ := giv R' k'
    exact q .non G' H' [] Lb R'.le rb .non (by rw [List.append_nil]; exact R'.nd.sublist sb) (x'.sub fun a z => x'.own a (sb.subset (by simpa using z)))
  | rt d =>
    cases hF
    intro σ' v G' H' L' Lr R' k' r' n' x'
    obtain ⟨Lb, rb, sb⟩ := giv R' k'
    exact q v G' H' Lr Lb R'.le rb r' (n'.sublist (sb.append (List.Sublist.refl _))) (x'.sub fun a z => x'.own a (((sb.append (List.Sublist.refl Lr)).subset) z))
end

/-! ### a call -/
def clF (F : List D → Option (D × En)) (FA : En → Option (List D × En)) : En → Option (D × En) := fun env => (FA env).bind fun a => (F a.1).map fun r => (r.1, a.2)
section
variable {X : Cx} {k : Nat} {f : Addr} {fd : FuncData} {ps : List Str} {F : List D → Option (D × En)} {FA : En → Option (List D × En)} {x : Str} {p pos : Pos} {e : Expr} {es : List Expr} {s : Bool}
theorem cl_lift {K : PySem.W.Frag} {n : Nat} {E : XK} (hn : ∀ ds r, F ds = some r → ds.length = n) (σ : St) (H : Hp) (Q : VK) (h : tE K true s (clF F FA) σ H Q) : tCall (spF K n F) [] E (tA K true s FA) σ H Q := by
  obtain ⟨G, env, L, R, d, env', hf, k⟩ := h
  unfold clF at hf
  cases q : FA env with
  | none => rw [q] at hf; simp at hf
  | some r =>
  obtain ⟨ds, e1⟩ := r
  rw [q] at hf
  simp only [Option.bind_some] at hf
  cases q2 : F ds with
  | none => rw [q2] at hf; simp at hf
  | some r =>
  obtain ⟨dr, back⟩ := r
  rw [q2] at hf
  simp only [Option.map_some, Option.some.injEq, Prod.mk.injEq] at hf
  obtain ⟨rfl, rfl⟩ := hf
  refine ⟨G, env, L, R, ds, e1, q, fun vs G1 H1 L1 La R1 ra n1 st1 x1 => ?_⟩
  have nn := n1 rfl
  have ap : ∀ a ∈ L1, a ∉ La := fun a h h' => (List.nodup_append.mp nn).2.2 a h a h' rfl
  refine ⟨by rw [List.append_nil, ← ra.length]; exact hn ds _ q2, G1, ds, La, R1.le, by rw [List.append_nil]; exact ra, (List.nodup_append.mp nn).2.1, dr, back, q2, fun v G2 H2 Lr Lb l2 rb rr n2 x2 => ?_⟩
  have R2 : RSt K σ G2 H2 e1 L1 := ⟨l2, R1.rep.mono x2.le fun a z => x2.keep (ap a z) (R1.rep.own a z).1 (R1.rep.own a z).2, R1.nd⟩
  have x12 : Ext L G H G2 H2 (Lb ++ Lr) := x1.trans x2 fun a z => x1.own a (List.mem_append_right _ z)
  refine k v G2 H2 L1 Lr R2 rr (fun _ => List.nodup_append.mpr ⟨R1.nd, (List.nodup_append.mp n2).2.1, fun a ha b hb e => ?_⟩) (fun hs => ?_) (x12.sub fun a z => ?_)
  · subst e
    rcases x2.own a (List.mem_append_right _ hb) with z | z
    · exact ap a ha z
    · exact (R1.rep.own a ha).2 z
  · obtain ⟨f1, f2, f3⟩ := st1 hs
    refine ⟨f1, f2, fun b hb => ?_⟩
    have hb1 : H1 b ≠ none := by rw [f3 b hb]; exact hb
    refine (x2.fr b (fun z => ?_) hb1).trans (f3 b hb)
    rcases x1.own b (List.mem_append_right _ z) with w | w
    · exact ap b (by rw [f2]; exact w) z
    · exact hb w
  · rcases List.mem_append.mp z with w | w
    · exact x1.own a (List.mem_append_left _ w)
    · exact x12.own a (List.mem_append_right _ w)
theorem ev_call (F' : FnV X.prog X.w X.K X.mg X.base k f fd ps F) (hn : ∀ ds r, F ds = some r → ds.length = ps.length) (hr : Room k X.A) (hg : Gl X x) (hm : X.mg x = some (.ref f)) (hk : PySem.W.keepIn X.K (.ref f) = true) (hb : Binds X.K fd ps []) (ha : Av X true s (e :: es) FA)
    (hdb : (x == ("__debug__" : Str)) = false := by decide) (he : starEach (e :: es) X.env = (false, eval e X.env) :: starEach es X.env := by rfl) (hpl : (backTo pos (starEach es X.env)).any (·.1) = false := by rfl) :
    Ev X true s (.Call (.Name x p) (e :: es) [] pos) (clF F FA) := peM (pe_call F' hr hg hm hk hb .nil pass0 ha hdb he hpl) (cl_lift hn)

/-! ### arguments that are lent -/
/-- lens: for each argument the slot that it was taken from, if it was lent -/
def tL (K : PySem.W.Frag) (lens : List (Option Nat)) (F : En → Option (List D × En)) : TA := fun σ H Q => ∃ G env L, RSt K σ G H env L ∧ ∃ d env', F env = some (d, env') ∧
  ∀ v G' H' L' Lr, RSt K σ G' H' env' L' → Rps K G' H' d v Lr → (L' ++ Lr).Nodup → (∀ (j i : Nat) (u : V), lens[j]? = some (some i) → v[j]? = some u → σ[i]? = some (some u)) → v.length = lens.length → Ext L G H G' H' (L' ++ Lr) → Q v H'
abbrev Lv (X : Cx) (lens : List (Option Nat)) (es : List Expr) (F : En → Option (List D × En)) : Prop := PA X es (tL X.K lens F)
def ldF (i : Nat) : En → Option (D × En) := fun env => (env[i]?).bind fun o => o.map fun d => (d, env.set i none)
theorem lv_nil : Lv X [] [] aNil := paM pa_nil fun σ H Q ⟨G, env, L, R, d, env', hf, k⟩ => by
  cases hf
  exact k [] G H L [] R .nil (by simpa using R.nd) (fun j i u h => by simp at h) rfl (Ext.refl fun b z => by simpa using z)
theorem lv_cons {F : En → Option (D × En)} {FR : En → Option (List D × En)} {lens : List (Option Nat)} (he : Ev X true s e F) (hr : Lv X lens es FR) (hs : starEach (e :: es) X.env = (false, eval e X.env) :: starEach es X.env := by rfl) : Lv X (none :: lens) (e :: es) (aCons F FR) :=
  paM (pa_cons he hr hs) fun σ H Q ⟨G, env, L, R, d, env', hf, k⟩ => by
  unfold aCons at hf
  cases q1 : F env with
  | none => rw [q1] at hf; simp at hf
  | some r1 =>
  obtain ⟨da, e1⟩ := r1
  rw [q1] at hf
  simp only [Option.bind_some] at hf
  cases q2 : FR e1 with
  | none => rw [q2] at hf; simp at hf
  | some r2 =>
  obtain ⟨dr, e2⟩ := r2
  rw [q2] at hf
  simp only [Option.map_some, Option.some.injEq, Prod.mk.injEq] at hf
  obtain ⟨rfl, rfl⟩ := hf
  refine ⟨G, env, L, R, da, e1, q1, fun x G1 H1 L1 La R1 ra n1 st1 x1 => ⟨G1, e1, L1, R1, dr, _, q2, fun y G2 H2 L2 Lb R2 rb n2 ln2 len2 x2 => ?_⟩⟩
  have n1' := n1 rfl
  have a1 := List.nodup_append.mp n1'
  have ra2 : Rp X.K G2 H2 da x La := ra.mono x2.le fun a z => x2.keep (fun w => a1.2.2 a w a z rfl) (ra.own a z).1 (ra.own a z).2
  refine k (x :: y) G2 H2 L2 (La ++ Lb) R2 (.cons ra2 rb) ?_ (fun j i u hj hu => ?_) (by simp [len2]) (ext_two x1 x2)
  · have a2 := List.nodup_append.mp n2
    have apart : ∀ z ∈ La, z ∉ L2 ++ Lb := fun z hz hz2 => by
      rcases x2.own z hz2 with w | w
      · exact a1.2.2 z w z hz rfl
      · exact (ra.own z hz).2 w
    refine List.nodup_append.mpr ⟨a2.1, List.nodup_append.mpr ⟨a1.2.1, a2.2.1, fun z hz y hy e => ?_⟩, fun z hz y hy e => ?_⟩
    · subst e; exact apart z hz (List.mem_append_right _ hy)
    · subst e
      rcases List.mem_append.mp hy with w | w
      · exact apart z w (List.mem_append_left _ hz)
      · exact a2.2.2 z hz z w rfl
  · cases j with
    | zero => simp at hj
    | succ j => exact ln2 j i u (by simpa using hj) (by simpa using hu)
/-- a list that is lent: it is taken when all arguments are there -/
def aConsL (i : Nat) (FR : En → Option (List D × En)) : En → Option (List D × En) := fun env => match env[i]? with
  | some (some _) => (FR env).bind fun r => (r.2[i]?).bind fun o => o.map fun d => (d :: r.1, r.2.set i none)
  | _ => none
theorem lv_lend {i : Nat} {FR : En → Option (List D × En)} {lens : List (Option Nat)} (he : PE X e (tVar i)) (hr : Lv X lens es FR) (hs : starEach (e :: es) X.env = (false, eval e X.env) :: starEach es X.env := by rfl) : Lv X (some i :: lens) (e :: es) (aConsL i FR) :=
  paM (pa_cons he hr hs) fun σ H Q ⟨G, env, L, R, d, env', hf, k⟩ => by
  unfold aConsL at hf
  split at hf
  case h_2 => cases hf
  rename_i d0 q0
  cases q2 : FR env with
  | none => rw [q2] at hf; simp at hf
  | some r2 =>
  obtain ⟨dr, e2⟩ := r2
  rw [q2] at hf
  simp only [Option.bind_some] at hf
  cases q3 : e2[i]? with
  | none => rw [q3] at hf; simp at hf
  | some o =>
  cases o with
  | none => rw [q3] at hf; simp at hf
  | some da =>
  rw [q3] at hf
  simp only [Option.bind_some, Option.map_some, Option.some.injEq, Prod.mk.injEq] at hf
  obtain ⟨rfl, rfl⟩ := hf
  obtain ⟨hi0, _⟩ := List.getElem?_eq_some_iff.mp q0
  obtain ⟨_, _, _, _, f0, _⟩ := R.rep.at hi0
  obtain ⟨v, ev, _⟩ := f0 d0 q0
  refine ⟨v, ev, G, env, L, R, dr, e2, q2, fun y G2 H2 L2 Lc R2 rb n2 ln2 len2 x2 => ?_⟩
  obtain ⟨hi, _⟩ := List.getElem?_eq_some_iff.mp q3
  obtain ⟨La, Li, Lb, e0, f, g⟩ := R2.rep.at hi
  obtain ⟨v', ev', r⟩ := f da q3
  obtain rfl : v = v' := by rw [ev] at ev'; simpa using ev'
  have g' := (g (Le.refl G2) (H' := H2) fun a z => ⟨(R2.rep.own a (by rw [e0]; rcases List.mem_append.mp z with z | z <;> simp [z])).1, rfl⟩).2 (some v)
  have eσ : σ.set i (some v) = σ := by
    refine List.ext_getElem? fun j => ?_
    by_cases hj : i = j
    · subst hj
      obtain ⟨hl, _⟩ := List.getElem?_eq_some_iff.mp ev
      rw [List.getElem?_set_self hl, ev]
    · rw [List.getElem?_set_ne hj]
  rw [eσ] at g'
  have nd : ((La ++ Lb) ++ (Li ++ Lc)).Nodup := by
    rw [e0] at n2
    refine (List.Perm.nodup_iff ?_).mp n2
    rw [List.append_assoc, List.append_assoc, List.append_assoc]
    refine List.Perm.append_left _ ?_
    rw [← List.append_assoc, ← List.append_assoc]
    exact List.Perm.append_right _ List.perm_append_comm
  refine k (v :: y) G2 H2 (La ++ Lb) (Li ++ Lc) ⟨R2.le, g', nd.sublist (List.sublist_append_left _ _)⟩ (.cons r rb) nd (fun j i' u hj hu => ?_) (by simp [len2]) (x2.sub fun a z => x2.own a ?_)
  · cases j with
    | zero => simp at hj hu; subst hj hu; exact ev
    | succ j => exact ln2 j i' u (by simpa using hj) (by simpa using hu)
  · rw [e0]
    simp only [List.mem_append] at z ⊢
    rcases z with (z | z) | z | z <;> simp [z]
/-- what was lent comes back -/
def giveE : List (Option Nat) → List D → En → En → En
  | some i :: ls, d :: ds, b :: bs, env => giveE ls ds bs (if d.pure = true then env.set i (some d) else match b with | some b => env.set i (some b) | none => env)
  | none :: ls, _ :: ds, _ :: bs, env => giveE ls ds bs env
  | _, _, _, env => env
theorem RSt.setAt {K : PySem.W.Frag} {σ : St} {G H : Hp} {env : En} {L Lr : List Addr} {i : Nat} {d : D} {v : V} (R : RSt K σ G H env L) (r : Rp K G H d v Lr) (n : (L ++ Lr).Nodup) (e : σ[i]? = some (some v)) :
    ∃ L', RSt K σ G H (env.set i (some d)) L' ∧ ∀ a ∈ L', a ∈ L ++ Lr := by
  have hi : i < env.length := by rw [R.rep.length]; exact (List.getElem?_eq_some_iff.mp e).1
  obtain ⟨L', R', s⟩ := R.put (i := i) r n (by unfold Pz.put; rw [if_pos hi])
  have eσ : σ.set i (some v) = σ := by
    refine List.ext_getElem? fun j => ?_
    by_cases hj : i = j
    · subst hj
      obtain ⟨hl, _⟩ := List.getElem?_eq_some_iff.mp e
      rw [List.getElem?_set_self hl, e]
    · rw [List.getElem?_set_ne hj]
  rw [eσ] at R'
  exact ⟨L', R', s⟩
theorem give_ok {K : PySem.W.Frag} {σ : St} {G G1 H H1 : Hp} : ∀ {lens : List (Option Nat)} {ds : List D} {vs : List V} {back env : En} {La Lb L : List Addr}, Rps K G1 H1 ds vs La → Le G1 G → REnv K G H back (vs.map some) Lb → RSt K σ G H env L → (L ++ Lb).Nodup →
    (∀ (j i : Nat) (u : V), lens[j]? = some (some i) → vs[j]? = some u → σ[i]? = some (some u)) → ∃ L', RSt K σ G H (giveE lens ds back env) L' ∧ ∀ a ∈ L', a ∈ L ++ Lb
  | [], ds, vs, back, env, La, Lb, L, ra, l, rb, R, n, ln => ⟨L, by simpa [giveE] using R, fun a z => List.mem_append_left _ z⟩
  | o :: ls, [], vs, back, env, La, Lb, L, ra, l, rb, R, n, ln => ⟨L, by cases o <;> simpa [giveE] using R, fun a z => List.mem_append_left _ z⟩
  | o :: ls, d :: ds, _ :: vs, _, env, _, _, L, .cons r ra, l, .non rb, R, n, ln => by
    have ln' : ∀ (j i : Nat) (u : V), ls[j]? = some (some i) → vs[j]? = some u → σ[i]? = some (some u) := fun j i u h1 h2 => ln (j + 1) i u (by simpa using h1) (by simpa using h2)
    cases o with
    | none => simpa [giveE] using give_ok ra l rb R n ln'
    | some i =>
      simp only [giveE]
      split
      · rename_i hp
        obtain rfl := r.pure_nil hp
        obtain ⟨L', R', s⟩ := R.setAt (r.mono l fun _ z => nomatch z : Rp K G H d _ []) (by simpa using R.nd) (ln 0 i _ rfl rfl)
        obtain ⟨L'', R'', s'⟩ := give_ok ra l rb R' (List.nodup_append.mpr ⟨R'.nd, (List.nodup_append.mp n).2.1, fun a ha b hb e => (List.nodup_append.mp n).2.2 a (by simpa using s a ha) b hb e⟩) ln'
        exact ⟨L'', R'', fun a z => by
          rcases List.mem_append.mp (s' a z) with w | w
          · exact List.mem_append_left _ (by simpa using s a w)
          · exact List.mem_append_right _ w⟩
      · exact give_ok ra l rb R n ln'
  | o :: ls, d :: ds, _ :: vs, _, env, _, _, L, .cons r ra, l, .val (d := b) (L1 := L1) (L2 := L2) q rb, R, n, ln => by
    have ln' : ∀ (j i : Nat) (u : V), ls[j]? = some (some i) → vs[j]? = some u → σ[i]? = some (some u) := fun j i u h1 h2 => ln (j + 1) i u (by simpa using h1) (by simpa using h2)
    cases o with
    | none =>
      obtain ⟨L', R', s⟩ := give_ok ra l rb R (n.sublist ((List.Sublist.refl _).append (List.sublist_append_right _ _))) ln'
      exact ⟨L', by simpa [giveE] using R', fun a z => by rcases List.mem_append.mp (s a z) with w | w <;> simp [w]⟩
    | some i =>
      simp only [giveE]
      split
      · rename_i hp
        obtain rfl := r.pure_nil hp
        obtain ⟨L', R', s⟩ := R.setAt (r.mono l fun _ z => nomatch z : Rp K G H d _ []) (by simpa using R.nd) (ln 0 i _ rfl rfl)
        obtain ⟨L'', R'', s'⟩ := give_ok ra l rb R' (List.nodup_append.mpr ⟨R'.nd, ((List.nodup_append.mp n).2.1).sublist (List.sublist_append_right _ _), fun a ha b hb e => (List.nodup_append.mp n).2.2 a (by simpa using s a ha) b (List.mem_append_right _ hb) e⟩) ln'
        exact ⟨L'', R'', fun a z => by
          rcases List.mem_append.mp (s' a z) with w | w
          · exact List.mem_append_left _ (by simpa using s a w)
          · simp [w]⟩
      · obtain ⟨L', R', s⟩ := R.setAt q (n.sublist ((List.Sublist.refl _).append (List.sublist_append_left _ _))) (ln 0 i _ rfl rfl)
        have n3 : (L ++ L1 ++ L2).Nodup := by simpa using n
        obtain ⟨L'', R'', s'⟩ := give_ok ra l rb R' (List.nodup_append.mpr ⟨R'.nd, (List.nodup_append.mp n3).2.1, fun a ha b hb e => (List.nodup_append.mp n3).2.2 a (s a ha) b hb e⟩) ln'
        exact ⟨L'', R'', fun a z => by
          rcases List.mem_append.mp (s' a z) with w | w
          · have := s a w; simp only [List.mem_append] at this ⊢; rcases this with w | w <;> simp [w]
          · simp [w]⟩
def lcallF (lens : List (Option Nat)) (F : List D → Option (D × En)) (FA : En → Option (List D × En)) : En → Option (D × En) := fun env => (FA env).bind fun a => (F a.1).map fun r => (r.1, giveE lens a.1 r.2 a.2)
theorem ev_callL {lens : List (Option Nat)} (F' : FnV X.prog X.w X.K X.mg X.base k f fd ps F) (hr : Room k X.A) (hg : Gl X x) (hm : X.mg x = some (.ref f)) (hk : PySem.W.keepIn X.K (.ref f) = true) (hb : Binds X.K fd ps []) (ha : Lv X lens (e :: es) FA) (hlen : lens.length = ps.length := by rfl)
    (hdb : (x == ("__debug__" : Str)) = false := by decide) (he : starEach (e :: es) X.env = (false, eval e X.env) :: starEach es X.env := by rfl) (hpl : (backTo pos (starEach es X.env)).any (·.1) = false := by rfl) :
    Ev X true false (.Call (.Name x p) (e :: es) [] pos) (lcallF lens F FA) := peM (pe_call F' hr hg hm hk hb .nil pass0 ha hdb he hpl) fun σ H Q h => by
  obtain ⟨G, env, L, R, d, env', hf, k⟩ := h
  unfold lcallF at hf
  cases q : FA env with
  | none => rw [q] at hf; simp at hf
  | some r =>
  obtain ⟨ds, e1⟩ := r
  rw [q] at hf
  simp only [Option.bind_some] at hf
  cases q2 : F ds with
  | none => rw [q2] at hf; simp at hf
  | some r =>
  obtain ⟨dr, back⟩ := r
  rw [q2] at hf
  simp only [Option.map_some, Option.some.injEq, Prod.mk.injEq] at hf
  obtain ⟨rfl, rfl⟩ := hf
  refine ⟨G, env, L, R, ds, e1, q, fun vs G1 H1 L1 La R1 ra nn ln1 len1 x1 => ?_⟩
  have ap : ∀ a ∈ L1, a ∉ La := fun a h h' => (List.nodup_append.mp nn).2.2 a h a h' rfl
  refine ⟨by rw [List.append_nil, len1, hlen], G1, ds, La, R1.le, by rw [List.append_nil]; exact ra, (List.nodup_append.mp nn).2.1, dr, back, q2, fun v G2 H2 Lr Lb l2 rb rr n2 x2 => ?_⟩
  rw [List.append_nil] at rb
  have R2 : RSt X.K σ G2 H2 e1 L1 := ⟨l2, R1.rep.mono x2.le fun a z => x2.keep (ap a z) (R1.rep.own a z).1 (R1.rep.own a z).2, R1.nd⟩
  have x12 : Ext L G H G2 H2 (Lb ++ Lr) := x1.trans x2 fun a z => x1.own a (List.mem_append_right _ z)
  have ap2 : ∀ a ∈ Lb ++ Lr, a ∉ L1 := fun a h h' => by
    rcases x2.own a h with z | z
    · exact ap a h' z
    · exact (R1.rep.own a h').2 z
  have n3 : ((L1 ++ Lb) ++ Lr).Nodup := by
    rw [List.append_assoc]
    exact List.nodup_append.mpr ⟨R1.nd, n2, fun a ha b hb e => ap2 b hb (by rw [← e]; exact ha)⟩
  obtain ⟨L3, R3, s3⟩ := give_ok ra x2.le rb R2 (n3.sublist (List.sublist_append_left _ _)) ln1
  refine k v G2 H2 L3 Lr R3 rr (fun _ => List.nodup_append.mpr ⟨R3.nd, (List.nodup_append.mp n3).2.1, fun a ha b hb e => (List.nodup_append.mp n3).2.2 a (s3 a ha) b hb e⟩) (fun z => nomatch z) (x12.sub fun a z => ?_)
  rcases List.mem_append.mp z with w | w
  · rcases List.mem_append.mp (s3 a w) with w | w
    · exact x1.own a (List.mem_append_left _ w)
    · exact x12.own a (List.mem_append_left _ w)
  · exact x12.own a (List.mem_append_right _ w)
end
end
end Pz

set_option Elab.async false
set_option linter.all false
set_option maxRecDepth 100000
set_option maxHeartbeats 1000000
namespace Pz
open PySem L2
noncomputable section

def lineLt (n : Nat) : Bool := tst (n < 16777216)
theorem lineLt_lt {n : Nat} (h : lineLt n = true) : n < sizeLine := by rw [sizeLine_eq]; exact of_tst h
def isL : Option (Option D) → Bool
  | some (some (.lst _ _)) => true
  | _ => false
def mtF (i : Nat) (f : List D → List D → Option (D × List D)) (FA : En → Option (List D × En)) : En → Option (D × En) := fun env => if isL env[i]? = true then (FA env).bind fun a => match a.2[i]? with
  | some (some (.lst true ds)) => (f ds a.1).map fun r => (r.1, a.2.set i (some (.lst true r.2)))
  | _ => none
  else none
def MutOK (K : PySem.W.Frag) (r : V → List V → Hp → VK → Prop) (f : List D → List D → Option (D × List D)) : Prop := ∀ {G H : Hp} {ds as ds' : List D} {vs xs : List V} {p : Addr} {L1 La : List Addr} {res : D} {Q : VK},
  Le G H → G p = none → H p = some (.lst vs) → Rps K G H ds vs L1 → Rps K G H as xs La → (L1 ++ La).Nodup → f ds as = some (res, ds') →
  (∀ v vs' Lr L', Rp K G H res v Lr → Rps K G H ds' vs' L' → (L' ++ Lr).Nodup → (∀ a ∈ L' ++ Lr, a ∈ L1 ++ La) → Q v (upd H p (.lst vs'))) → r (.ref p) xs H Q
section
variable {K : PySem.W.Frag}
theorem isL_ok {σ : St} {G H : Hp} {env : En} {L : List Addr} {i : Nat} (R : RSt K σ G H env L) (h : isL env[i]? = true) : ∃ p, σ[i]? = some (some (.ref p)) ∧ ∃ xs, SqL K H p xs := by
  cases q : env[i]? with
  | none => rw [q] at h; cases h
  | some o =>
  cases o with
  | none => rw [q] at h; cases h
  | some d =>
  rw [q] at h
  obtain ⟨hi, _⟩ := List.getElem?_eq_some_iff.mp q
  obtain ⟨La, Li, Lb, e0, f, _⟩ := R.rep.at hi
  obtain ⟨v, ev, r⟩ := f d q
  cases d <;> simp only [isL, Bool.false_eq_true] at h
  obtain ⟨p, vs, _, rfl, sa, _, _⟩ := r.lst_inv R.le
  exact ⟨p, ev, vs, SqL.of sa⟩
/-- the changed list in its slot -/
theorem RSt.chg {σ : St} {G H : Hp} {env : En} {L Lx : List Addr} {i : Nat} {ds : List D} (R : RSt K σ G H env L) (e : env[i]? = some (some (.lst true ds))) (nx : ∀ a ∈ Lx, a ∉ L) :
    ∃ p vs L1, σ[i]? = some (some (.ref p)) ∧ G p = none ∧ H p = some (.lst vs) ∧ Rps K G H ds vs L1 ∧ p ∈ L ∧ (∀ a ∈ L1, a ∈ L) ∧ (p :: L1).Nodup ∧
      ∀ {ds' : List D} {vs' : List V} {L' : List Addr}, Rps K G H ds' vs' L' → L'.Nodup → (∀ a ∈ L', a ∈ L1 ∨ a ∈ Lx) → p ∉ L' → ∃ L2, RSt K σ G (upd H p (.lst vs')) (env.set i (some (.lst true ds'))) L2 ∧ ∀ a ∈ L2, (a ∈ L ∧ a ∉ L1) ∨ a ∈ L' := by
  obtain ⟨hi, _⟩ := List.getElem?_eq_some_iff.mp e
  obtain ⟨La, Li, Lb, e0, f, g⟩ := R.rep.at hi
  obtain ⟨v, ev, r⟩ := f _ e
  cases r with
  | @lstO p vs _ L1 n h hs =>
  have nd : (La ++ (p :: L1) ++ Lb).Nodup := e0 ▸ R.nd
  have nd1 := List.nodup_append.mp nd
  have nd2 := List.nodup_append.mp nd1.1
  have offp : ∀ a ∈ La ++ Lb, a ∉ p :: L1 := fun a z w => by
    rcases List.mem_append.mp z with z | z
    · exact nd2.2.2 a z a w rfl
    · exact nd1.2.2 a (List.mem_append_right _ w) a z rfl
  refine ⟨p, vs, L1, ev, n, h, hs, by rw [e0]; simp, fun a z => by rw [e0]; simp [z], nd2.2.1, fun {ds' vs' L'} r' n' s' np => ?_⟩
  have up : ∀ a, a ≠ p → upd H p (.lst vs') a = H a := fun a z => upd_ne z
  have r2 : Rp K G (upd H p (.lst vs')) (.lst true ds') (.ref p) (p :: L') := .lstO n upd_same (r'.mono (Le.refl _) fun a z => ⟨(r'.own a z).1, up a fun q => np (q ▸ z)⟩)
  have q := (g (Le.refl G) (H' := upd H p (.lst vs')) fun a z => ⟨(R.rep.own a (by rw [e0]; rcases List.mem_append.mp z with z | z <;> simp [z])).1, up a fun w => offp a z (by simp [w])⟩).1 r2
  have eσ : σ.set i (some (.ref p)) = σ := by
    refine List.ext_getElem? fun j => ?_
    by_cases hj : i = j
    · subst hj
      obtain ⟨hl, _⟩ := List.getElem?_eq_some_iff.mp ev
      rw [List.getElem?_set_self hl, ev]
    · rw [List.getElem?_set_ne hj]
  rw [eσ] at q
  have inL : ∀ a ∈ La ++ Lb, a ∈ L := fun a z => by rw [e0]; rcases List.mem_append.mp z with z | z <;> simp [z]
  have ap : ∀ a ∈ p :: L', a ∉ La ++ Lb := fun a z w => by
    rcases List.mem_cons.mp z with y | y
    · exact offp a w (by simp [y])
    · rcases s' a y with y | y
      · exact offp a w (by simp [y])
      · exact nx a y (inL a w)
  refine ⟨La ++ (p :: L') ++ Lb, ⟨fun a o x => ?_, q, ?_⟩, fun a z => ?_⟩
  · rw [up a fun w => by rw [w, n] at x; cases x]
    exact R.le a o x
  · refine List.nodup_append.mpr ⟨List.nodup_append.mpr ⟨nd2.1, List.nodup_cons.mpr ⟨np, n'⟩, fun a ha b hb e => ?_⟩, nd1.2.1, fun a ha b hb e => ?_⟩
    · subst e; exact ap a hb (List.mem_append_left _ ha)
    · subst e
      rcases List.mem_append.mp ha with w | w
      · exact nd1.2.2 a (List.mem_append_left _ w) a hb rfl
      · exact ap a w (List.mem_append_right _ hb)
  · simp only [List.mem_append, List.mem_cons] at z
    rcases z with (z | z | z) | z
    · exact .inl ⟨inL a (by simp [z]), fun w => offp a (by simp [z]) (by simp [w])⟩
    · subst z; exact .inl ⟨by rw [e0]; simp, fun w => (List.nodup_cons.mp nd2.2.1).1 w⟩
    · exact .inr z
    · exact .inl ⟨inL a (by simp [z]), fun w => offp a (by simp [z]) (by simp [w])⟩
theorem mt_lift {i : Nat} {r : V → List V → Hp → VK → Prop} {f : List D → List D → Option (D × List D)} {FA : En → Option (List D × En)} {s : Bool} (hr : MutOK K r f) (σ : St) (H : Hp) (Q : VK) (h : tE K true false (mtF i f FA) σ H Q) :
    ∃ x, σ[i]? = some (some x) ∧ tyV K "list" x H ∧ tA K true s FA σ H fun xs H2 => r x xs H2 Q := by
  obtain ⟨G, env, L, R, d, env', hf, k⟩ := h
  unfold mtF at hf
  split at hf
  case isFalse => cases hf
  rename_i hl
  obtain ⟨p0, e0, xs0, sq0⟩ := isL_ok R hl
  cases q : FA env with
  | none => rw [q] at hf; simp at hf
  | some a =>
  obtain ⟨as, e1⟩ := a
  rw [q] at hf
  simp only [Option.bind_some] at hf
  split at hf
  case h_2 => cases hf
  rename_i ds hd
  cases q2 : f ds as with
  | none => rw [q2] at hf; simp at hf
  | some u =>
  obtain ⟨res, ds'⟩ := u
  rw [q2] at hf
  simp only [Option.map_some, Option.some.injEq, Prod.mk.injEq] at hf
  obtain ⟨rfl, rfl⟩ := hf
  refine ⟨_, e0, .inl ⟨rfl, _, sq0⟩, G, env, L, R, as, e1, q, fun xs G1 H1 L1 La R1 ra n1 st1 x1 => ?_⟩
  have nn := List.nodup_append.mp (n1 rfl)
  obtain ⟨p, vs, Li, ep, gp, hp, rs, pL, iL, nL, chg⟩ := R1.chg (Lx := La) hd fun a z w => nn.2.2 a w a z rfl
  rw [e0] at ep
  cases ep
  refine hr R1.le gp hp rs ra (List.nodup_append.mpr ⟨(List.nodup_cons.mp nL).2, nn.2.1, fun a ha b hb e => nn.2.2 a (iL a ha) b hb e⟩) q2 fun v vs' Lr L' rr rs' nr sr => ?_
  have nr' := List.nodup_append.mp nr
  have np : p0 ∉ L' ++ Lr := fun z => by
    rcases List.mem_append.mp (sr _ z) with w | w
    · exact (List.nodup_cons.mp nL).1 w
    · exact nn.2.2 _ pL _ w rfl
  obtain ⟨L2, R2, s2⟩ := chg rs' nr'.1 (fun a z => List.mem_append.mp (sr a (List.mem_append_left _ z))) fun z => np (List.mem_append_left _ z)
  have rr2 : Rp K G1 (upd H1 p0 (.lst vs')) res v Lr := rr.mono (Le.refl _) fun a z => ⟨(rr.own a z).1, upd_ne fun w => np (by rw [← w]; exact List.mem_append_right _ z)⟩
  refine k v G1 _ L2 Lr R2 rr2 (fun _ => List.nodup_append.mpr ⟨R2.nd, nr'.2.1, fun a ha b hb e => ?_⟩) (fun z => nomatch z) ⟨x1.le, fun b nb hb => ?_, x1.gd, fun b hb => ?_⟩
  · subst e
    rcases s2 a ha with ⟨w, w'⟩ | w
    · rcases List.mem_append.mp (sr a (List.mem_append_right _ hb)) with z | z
      · exact w' z
      · exact nn.2.2 a w a z rfl
    · exact nr'.2.2 a w a hb rfl
  · rw [upd_ne fun w => ?_]
    · exact x1.fr b nb hb
    · rcases x1.own b (by rw [w]; exact List.mem_append_left _ pL) with z | z
      · exact nb z
      · exact hb z
  · refine x1.own b ?_
    have : b ∈ L1 ∨ b ∈ Li ++ La := by
      rcases List.mem_append.mp hb with w | w
      · rcases s2 b w with ⟨w, _⟩ | w
        · exact .inl w
        · exact .inr (sr b (List.mem_append_left _ w))
      · exact .inr (sr b (List.mem_append_right _ w))
    rcases this with w | w
    · exact List.mem_append_left _ w
    · rcases List.mem_append.mp w with w | w
      · exact List.mem_append_left _ (iL b w)
      · exact List.mem_append_right _ w
end
section
variable {X : Cx} {o e : Expr} {es : List Expr} {name : Str} {apos cpos : Pos} {id : String} {r : V → List V → Hp → VK → Prop} {f : List D → List D → Option (D × List D)} {FA : En → Option (List D × En)} {i : Nat} {s : Bool}
theorem ev_mt (slot : PySem.Slot "list" name id) (hty : typeOf (.builtin id) = pure (.type "method_descriptor")) (hm : MtR X id r) (hr : MutOK X.K r f) (ho : PE X o (tVar i)) (ha : Av X true s (e :: es) FA)
    (hbase : attributeBase o name X.env (eval o X.env) = eval o X.env := by rfl)
    (hfew : ((backTo cpos (starEach (e :: es) X.env)).all (fun x => !x.1) && (backToKw cpos (keywordEach [] X.env)).all (fun x => x.1.isSome)
      && decide ((e :: es).length + ([] : List Keyword).length + (if ([] : List Keyword).isEmpty then 0 else 1) < 30)) = true := by rfl)
    (hline : (apos.endLine == cpos.line) = true := by rfl) (hs : starEach (e :: es) X.env = (false, eval e X.env) :: starEach es X.env := by rfl) (hplain : (backTo cpos (starEach es X.env)).any (·.1) = false := by rfl) :
    Ev X true false (.Call (.Attribute o name apos) (e :: es) [] cpos) (mtF i f FA) := peM (pe_bm PySem.F.plainAttrs_list slot hty hm ho ha hbase hfew hline hs hplain) fun σ H Q h => mt_lift hr σ H Q h
theorem ev_mt0 (slot : PySem.Slot "list" name id) (hty : typeOf (.builtin id) = pure (.type "method_descriptor")) (hm : MtR X id r) (hr : MutOK X.K r f) (ho : PE X o (tVar i))
    (hbase : attributeBase o name X.env (eval o X.env) = eval o X.env := by rfl) (hline : (apos.endLine == cpos.line) = true := by rfl) :
    Ev X true false (.Call (.Attribute o name apos) [] [] cpos) (mtF i f aNil) := peM (pe_bm0 PySem.F.plainAttrs_list slot hty hm ho hbase hline) fun σ H Q h => by
  obtain ⟨x, e1, ty, G, env, L, R, d, env', hf, k⟩ := mt_lift (s := true) hr σ H Q h
  cases hf
  exact ⟨x, e1, ty, k [] G H L [] R .nil (fun _ => by simpa using R.nd) (fun _ => ⟨rfl, rfl, fun _ _ => rfl⟩) (Ext.refl fun b z => by simpa using z)⟩
end

/-! ### the methods -/
def mAppend : List D → List D → Option (D × List D)
  | ds, [d] => if lineLt ds.length = true then some (.non, ds ++ [d]) else none
  | _, _ => none
def mInsert : List D → List D → Option (D × List D)
  | ds, [.int i, d] => if lineLt ds.length = true ∧ rgOk i = true ∧ 0 ≤ i ∧ D.pures ds = true then some (.non, ds.take i.toNat ++ [d] ++ ds.drop i.toNat) else none
  | _, _ => none
def mPop : List D → List D → Option (D × List D)
  | ds, [] => if D.pures ds = true then ds[ds.length - 1]?.map fun d => (d, ds.dropLast) else none
  | _, _ => none
def mPopAt : List D → List D → Option (D × List D)
  | ds, [.int i] => if D.pures ds = true ∧ rgOk i = true then (seqIndex? i ds.length).bind fun k => ds[k]?.map fun d => (d, ds.eraseIdx k) else none
  | _, _ => none
def mExtend : List D → List D → Option (D × List D)
  | ds, [.lst _ xs] => if D.pures xs = true ∧ lineOk (ds.length + xs.length) = true then some (.non, ds ++ xs) else none
  | _, _ => none
section
variable {K : PySem.W.Frag} {G H : Hp}
theorem mut_append : MutOK K rAppend mAppend := by
  intro G H ds as ds' vs xs p L1 La res Q l gp hp rs ra nd e k
  unfold mAppend at e
  split at e
  · split at e
    · rename_i d hl
      cases e
      obtain ⟨v, rfl, r⟩ := ra.one
      exact ⟨p, vs, v, rfl, rfl, hp, by rw [← rs.length]; exact lineLt_lt hl, k .non (vs ++ [v]) [] (L1 ++ La) .non (rs.append (by simpa using Rps.cons (L2 := []) r .nil)) (by simpa using nd) fun a z => by simpa using z⟩
    · cases e
  · cases e
theorem Rps.pures {ds : List D} {vs : List V} {L : List Addr} (r : Rps K G H ds vs L) (h : D.pures ds = true) : Rps K G H ds vs [] ∧ L = [] := by
  have e := r.pure_nil h
  subst e
  exact ⟨r, rfl⟩
theorem mut_insert : MutOK K (fun x vs H Q => ∃ (l : Addr) (xs : List V) (i : Int) (y : V), x = .ref l ∧ vs = [.int i, y] ∧ H l = some (.lst xs) ∧ xs.length < sizeLine ∧ 0 ≤ i ∧ i < 2 ^ 63 ∧
    Q .non (upd H l (.lst (xs.take i.toNat ++ [y] ++ xs.drop i.toNat)))) mInsert := by
  intro G H ds as ds' vs xs p L1 La res Q l gp hp rs ra nd e k
  unfold mInsert at e
  split at e
  · split at e
    · rename_i i d hl
      cases e
      obtain ⟨v, w, L2, L3, rfl, r1, r2, rfl⟩ := ra.two
      obtain ⟨rfl, rfl⟩ := r1.int_inv
      obtain ⟨rs', rfl⟩ := rs.pures hl.2.2.2
      obtain ⟨b1, b2⟩ := rgOk_of hl.2.1
      refine ⟨p, vs, i, w, rfl, rfl, hp, by rw [← rs.length]; exact lineLt_lt hl.1, hl.2.2.1, by omega, ?_⟩
      refine k .non (vs.take i.toNat ++ [w] ++ vs.drop i.toNat) [] L3 .non ?_ (by simpa using nd) fun a z => by simpa using z
      have q := ((rs'.take i.toNat).append (Rps.cons (L2 := []) r2 .nil)).append (rs'.drop i.toNat)
      simpa using q
    · cases e
  · cases e
theorem Rps.dropLast {ds : List D} {vs : List V} (r : Rps K G H ds vs []) : Rps K G H ds.dropLast vs.dropLast [] := by
  rw [List.dropLast_eq_take, List.dropLast_eq_take, r.length]
  exact r.take _
theorem mut_pop : MutOK K rPop mPop := by
  intro G H ds as ds' vs xs p L1 La res Q l gp hp rs ra nd e k
  unfold mPop at e
  split at e
  · split at e
    · rename_i hl
      obtain ⟨rs', rfl⟩ := rs.pures hl
      cases q : ds[ds.length - 1]? with
      | none => rw [q] at e; cases e
      | some d =>
        rw [q] at e; cases e
        cases ra
        obtain ⟨v, L2, ev, rv, s⟩ := rs'.get q
        obtain rfl := List.sublist_nil.mp s
        exact ⟨p, vs, v, rfl, rfl, hp, by rw [← rs.length]; exact ev, k v vs.dropLast [] [] rv rs'.dropLast (by simp) fun a z => by simp at z⟩
    · cases e
  · cases e
theorem Rps.eraseIdx {ds : List D} {vs : List V} (j : Nat) (r : Rps K G H ds vs []) : Rps K G H (ds.eraseIdx j) (vs.eraseIdx j) [] := by
  rw [List.eraseIdx_eq_take_drop_succ, List.eraseIdx_eq_take_drop_succ]
  simpa using (r.take j).append (r.drop (j + 1))
theorem mut_popAt : MutOK K rPopAt mPopAt := by
  intro G H ds as ds' vs xs p L1 La res Q l gp hp rs ra nd e k
  unfold mPopAt at e
  split at e
  · rename_i i
    split at e
    · rename_i hl
      obtain ⟨rs', rfl⟩ := rs.pures hl.1
      obtain ⟨w, rfl, ri⟩ := ra.one
      obtain ⟨rfl, _⟩ := ri.int_inv
      cases q : seqIndex? i ds.length with
      | none => rw [q] at e; cases e
      | some j =>
        rw [q] at e
        simp only [Option.bind_some] at e
        cases q2 : ds[j]? with
        | none => rw [q2] at e; cases e
        | some d =>
          rw [q2] at e; cases e
          obtain ⟨v, L2, ev, rv, s⟩ := rs'.get q2
          obtain rfl := List.sublist_nil.mp s
          obtain ⟨b1, b2⟩ := rgOk_of hl.2
          exact ⟨p, vs, i, j, v, rfl, rfl, hp, by omega, by omega, by rw [← rs.length]; exact q, ev, k v (vs.eraseIdx j) [] [] rv (rs'.eraseIdx j) (by simp) fun a z => by simp at z⟩
    · cases e
  · cases e
theorem mut_extend : MutOK K rExtend mExtend := by
  intro G H ds as ds' vs xs p L1 La res Q l gp hp rs ra nd e k
  unfold mExtend at e
  split at e
  · split at e
    · rename_i o ys hl
      cases e
      obtain ⟨w, rfl, r⟩ := ra.one
      obtain ⟨b, ws, L2, rfl, sb, qb, s2⟩ := r.lst_inv l
      obtain ⟨qb', rfl⟩ := qb.pures hl.1
      exact ⟨p, b, vs, ws, rfl, rfl, hp, sb, by rw [← rs.length, ← qb'.length]; exact lineOk_le hl.2, k .non (vs ++ ws) [] L1 .non (by simpa using rs.append qb') (by simpa using nd.sublist (List.sublist_append_left _ _)) fun a z => by simp at z ⊢; exact .inl z⟩
    · cases e
  · cases e
end

/-! ### xs[i] = v -/
def siF (i : Nat) (FI : En → Option (D × En)) : D → En → Option En := fun d env => if isL env[i]? = true then (FI env).bind fun a => match a.1, a.2[i]? with
  | .int k, some (some (.lst true ds)) => (ixN ds.length k).map fun j => a.2.set i (some (.lst true (ds.set j d)))
  | _, _ => none
  else none
theorem Rps.setPure {K : PySem.W.Frag} {G H : Hp} {ds : List D} {vs : List V} {j : Nat} {d : D} {v : V} {Lv : List Addr} (r : Rps K G H ds vs []) (rv : Rp K G H d v Lv) (hj : j < ds.length) : Rps K G H (ds.set j d) (vs.set j v) Lv := by
  obtain ⟨v0, La, L1, Lb, e0, _, _, f⟩ := r.set (i := j) (d := ds[j]) (by simp [hj])
  have e : La = [] ∧ L1 = [] ∧ Lb = [] := by
    have := e0.symm
    simp at this
    exact ⟨this.1, this.2.1, this.2.2⟩
  obtain ⟨rfl, rfl, rfl⟩ := e
  simpa using f (Le.refl _) (fun a z => by simp at z) rv
theorem gv_item {X : Cx} {o b : Expr} {pos : Pos} {FI : En → Option (D × En)} {i : Nat} {s : Bool} (ho : PE X o (tVar i)) (hi : Ev X true s b FI) (ha : ∀ v, assign (.Subscript o b pos) X.env v = (do
      let ov ← holding [v] (eval o X.env)
      let iv ← holding [v, ov] (eval b X.env)
      standAt pos
      holding [v, ov, iv] (setItem ov iv v)
      release [v, ov, iv] []) := by intro _; rfl) : Gv X [] (.Subscript o b pos) (siF i FI) := pgM (pg_sub ho hi set_list ha) fun v σ H Q ⟨G, env, L, d, Lr, R, r, n, env', hf, k⟩ => by
  unfold siF at hf
  split at hf
  case isFalse => cases hf
  rename_i hl
  obtain ⟨p0, e0, xs0, sq0⟩ := isL_ok R hl
  cases q : FI env with
  | none => rw [q] at hf; simp at hf
  | some a =>
  obtain ⟨ad, e1⟩ := a
  rw [q] at hf
  simp only [Option.bind_some] at hf
  split at hf
  case h_2 => cases hf
  rename_i kk ds hd2
  cases q2 : ixN ds.length kk with
  | none => rw [q2] at hf; cases hf
  | some j =>
  rw [q2] at hf
  simp only [Option.map_some, Option.some.injEq] at hf
  subst hf
  have nn := List.nodup_append.mp n
  refine ⟨_, e0, G, env, L, R, _, e1, q, fun x G1 H1 L1 La R1 ra n1 st1 x1 => ?_⟩
  obtain ⟨rfl, rfl⟩ := ra.int_inv
  have x1' : Ext L G H G1 H1 L1 := by simpa using x1
  have rv : Rp X.K G1 H1 d v Lr := r.mono x1.le fun a z => x1.keep (fun w => nn.2.2 a w a z rfl) (r.own a z).1 (r.own a z).2
  have ap : ∀ a ∈ Lr, a ∉ L1 := fun a z w => by
    rcases x1'.own a w with y | y
    · exact nn.2.2 a y a z rfl
    · exact (r.own a z).2 y
  obtain ⟨p, vs, Li, ep, gp, hp', rs, pL, iL, nL, chg⟩ := R1.chg (Lx := Lr) hd2 ap
  rw [e0] at ep
  cases ep
  have hj : j < ds.length := (ixN_seq q2).2.1
  have np : p0 ∉ Lr := fun z => ap _ z pL
  obtain ⟨v0, La', Lm', Lb', eL, _, _, fs⟩ := rs.set (i := j) (d := ds[j]) (by simp [hj])
  have rs2 := fs (Le.refl _) (fun a z => ⟨(rs.own a (by rw [eL]; rcases List.mem_append.mp z with z | z <;> simp [z])).1, rfl⟩) rv
  have inLi : ∀ a, a ∈ La' ∨ a ∈ Lb' → a ∈ Li := fun a z => by rw [eL]; rcases z with z | z <;> simp [z]
  have nLi : (La' ++ Lm' ++ Lb').Nodup := eL ▸ (List.nodup_cons.mp nL).2
  have n3 : (La' ++ Lr ++ Lb').Nodup := by
    have w1 := List.nodup_append.mp nLi
    have w2 := List.nodup_append.mp w1.1
    refine List.nodup_append.mpr ⟨List.nodup_append.mpr ⟨w2.1, nn.2.1, fun a ha b hb e => ?_⟩, w1.2.1, fun a ha b hb e => ?_⟩
    · subst e; exact ap a hb (iL a (inLi a (.inl ha)))
    · subst e
      rcases List.mem_append.mp ha with z | z
      · exact w1.2.2 a (List.mem_append_left _ z) a hb rfl
      · exact ap a z (iL a (inLi a (.inr hb)))
  obtain ⟨L2, R2, s2⟩ := chg rs2 n3 (fun a z => by
    simp only [List.mem_append] at z
    rcases z with (z | z) | z
    · exact .inl (inLi a (.inl z))
    · exact .inr z
    · exact .inl (inLi a (.inr z))) (fun z => by
    simp only [List.mem_append] at z
    rcases z with (z | z) | z
    · exact (List.nodup_cons.mp nL).1 (inLi _ (.inl z))
    · exact np z
    · exact (List.nodup_cons.mp nL).1 (inLi _ (.inr z)))
  refine ⟨p0, vs, kk, j, rfl, rfl, hp', by rw [← rs.length]; exact q2, ?_⟩
  refine k σ G1 _ L2 R2 (Keep.refl _ _) ⟨x1.le, fun b nb hb => ?_, fun b hb => (x1.gd b hb).imp id fun z => z.imp (List.mem_append_left _) id, fun b hb => ?_⟩
  · rw [upd_ne fun w => ?_]
    · exact x1'.fr b (fun z => nb (List.mem_append_left _ z)) hb
    · rcases x1'.own b (by rw [w]; exact pL) with z | z
      · exact nb (List.mem_append_left _ z)
      · exact hb z
  · rcases s2 b hb with ⟨w, _⟩ | w
    · exact (x1'.own b w).imp (List.mem_append_left _) id
    · simp only [List.mem_append] at w
      rcases w with (w | w) | w
      · exact (x1'.own b (iL b (inLi b (.inl w)))).imp (List.mem_append_left _) id
      · exact .inl (List.mem_append_right _ w)
      · exact (x1'.own b (iL b (inLi b (.inr w)))).imp (List.mem_append_left _) id
end
end Pz

set_option Elab.async false
set_option linter.all false
set_option maxRecDepth 100000
set_option maxHeartbeats 1000000
namespace Pz
open PySem L2
noncomputable section

def Arity (n : Nat) (F : List D → Option (D × En)) : Prop := ∀ ds r, F ds = some r → ds.length = n
theorem arity_fnF {n m : Nat} {W : List Nat} {FB : En → Option (Fl × En)} : Arity n (fnF n m W FB) := fun ds r h => by
  unfold fnF at h
  split at h
  · assumption
  · cases h
/-- a def as its callers see it -/
def Cal (P : Program) (w : World) (K : PySem.W.Frag) (mg : Str → Option Value) (base : Heap) (x : Str) (k : Nat) (ps : List Str) (F : List D → Option (D × En)) : Prop :=
  Arity ps.length F ∧ ∃ f fd, FnV P w K mg base k f fd ps F ∧ mg x = some (.ref f) ∧ PySem.W.keepIn K (.ref f) = true ∧ Binds K fd ps []
theorem cal_mk {P : Program} {w : World} {K : PySem.W.Frag} {mg : Str → Option Value} {base : Heap} {x : Str} {k : Nat} {ps : List Str} {F : List D → Option (D × En)} {f : Addr} {fd : FuncData} (a : Arity ps.length F) (h : FnV P w K mg base k f fd ps F) (hm : mg x = some (.ref f)) (hk : PySem.W.keepIn K (.ref f) = true) (hb : Binds K fd ps []) :
    Cal P w K mg base x k ps F := ⟨a, f, fd, h, hm, hk, hb⟩
section
variable {X : Cx} {k : Nat} {ps : List Str} {F : List D → Option (D × En)} {FA : En → Option (List D × En)} {x : Str} {p pos : Pos} {e : Expr} {es : List Expr} {s : Bool} {lens : List (Option Nat)}
theorem ev_def (h : Cal X.prog X.w X.K X.mg X.base x k ps F) (hr : Room k X.A) (hg : Gl X x) (ha : Av X true s (e :: es) FA)
    (hdb : (x == ("__debug__" : Str)) = false := by decide) (he : starEach (e :: es) X.env = (false, eval e X.env) :: starEach es X.env := by rfl) (hpl : (backTo pos (starEach es X.env)).any (·.1) = false := by rfl) :
    Ev X true s (.Call (.Name x p) (e :: es) [] pos) (clF F FA) := by
  obtain ⟨a, f, fd, F', hm, hk, hb⟩ := h
  exact ev_call F' a hr hg hm hk hb ha hdb he hpl
theorem ev_defL (h : Cal X.prog X.w X.K X.mg X.base x k ps F) (hr : Room k X.A) (hg : Gl X x) (ha : Lv X lens (e :: es) FA) (hlen : lens.length = ps.length := by rfl)
    (hdb : (x == ("__debug__" : Str)) = false := by decide) (he : starEach (e :: es) X.env = (false, eval e X.env) :: starEach es X.env := by rfl) (hpl : (backTo pos (starEach es X.env)).any (·.1) = false := by rfl) :
    Ev X true false (.Call (.Name x p) (e :: es) [] pos) (lcallF lens F FA) := by
  obtain ⟨a, f, fd, F', hm, hk, hb⟩ := h
  exact ev_callL F' hr hg hm hk hb ha hlen hdb he hpl
theorem ev_def0 (h : Cal X.prog X.w X.K X.mg X.base x k [] F) (hr : Room k X.A) (hg : Gl X x) (hdb : (x == ("__debug__" : Str)) = false := by decide) : Ev X true true (.Call (.Name x p) [] [] pos) (clF F aNil) := by
  obtain ⟨a, f, fd, F', hm, hk, hb⟩ := h
  refine peM (pe_call0 F' hr hg hm hk hb .nil pass0 hdb) fun σ H Q h => ?_
  have q := cl_lift (FA := aNil) (E := E0) (n := 0) (s := true) a σ H Q h
  obtain ⟨G, env, L, R, d, env', hf, k⟩ := q
  cases hf
  exact k [] G H L [] R .nil (fun _ => by simpa using R.nd) (fun _ => ⟨rfl, rfl, fun _ _ => rfl⟩) (Ext.refl fun b z => by simpa using z)
theorem bv_W {W W' : List Nat} {st : List Stmt} {FB : En → Option (Fl × En)} (h : Bv X W st FB) (hs : ∀ j ∈ W, j ∈ W') : Bv X W' st FB := pssM h fun D σ H ⟨G, env, L, R, fl, env', hf, k⟩ =>
  ⟨G, env, L, R, fl, env', hf, k.mono (fun σ' z => z.sub hs) (fun _ _ _ x => x) (fun _ _ z => z) (fun _ _ z => z) (fun _ _ z => z) fun _ _ z => z⟩
/-- a built-in type as a value -/
theorem ev_ty {n : String} (hg : Gl X x) (hm : X.mg x = none) (hv : bootBuiltins x = some (.type n)) (hn : x ≠ "__name__" := by decide) (hd : (x == ("__debug__" : Str)) = false := by decide) : Ev X true true (.Name x pos) (cF (.raw (.ty n))) :=
  ev_c (pe_bltn hg hm hv (show RelV (.ty n) (Value.type n) from rfl) hn hd) fun _ _ => .raw _
end
theorem ev_globX {X : Cx} {x : Str} {d : D} {pos : Pos} (hg : Gl X x) (h : ∃ v u, X.mg x = some u ∧ RelV v u ∧ ∀ G H, Rp X.K G H d v []) (hd : (x == ("__debug__" : Str)) = false := by decide) : Ev X true true (.Name x pos) (cF d) := by
  obtain ⟨v, u, hm, r, k⟩ := h
  exact ev_glob hg hm r k hd
theorem gs_len0 {ds : List D} {env env' : En} (h : gsNil ds env = some env') : ds.length = 0 := by
  cases ds with
  | nil => rfl
  | cons _ _ => cases h
theorem gs_lenS {n : Nat} {F : D → En → Option En} {FR : List D → En → Option En} {ds : List D} {env env' : En} (k : ∀ ds env env', FR ds env = some env' → ds.length = n) (h : gsCons F FR ds env = some env') : ds.length = n + 1 := by
  cases ds with
  | nil => cases h
  | cons d r =>
    simp only [gsCons] at h
    cases q : F d env with
    | none => rw [q] at h; simp at h
    | some e1 => rw [q] at h; simp only [Option.bind_some] at h; simp [k r e1 env' h]
theorem gs_len1 {f1 : D → En → Option En} {ds : List D} {env env' : En} (h : gsCons f1 gsNil ds env = some env') : ds.length = 1 := gs_lenS (fun _ _ _ h => gs_len0 h) h
theorem gs_len2 {f1 f2 : D → En → Option En} {ds : List D} {env env' : En} (h : gsCons f1 (gsCons f2 gsNil) ds env = some env') : ds.length = 2 := gs_lenS (fun _ _ _ h => gs_len1 h) h
theorem gs_len3 {f1 f2 f3 : D → En → Option En} {ds : List D} {env env' : En} (h : gsCons f1 (gsCons f2 (gsCons f3 gsNil)) ds env = some env') : ds.length = 3 := gs_lenS (fun _ _ _ h => gs_len2 h) h
theorem gs_len4 {f1 f2 f3 f4 : D → En → Option En} {ds : List D} {env env' : En} (h : gsCons f1 (gsCons f2 (gsCons f3 (gsCons f4 gsNil))) ds env = some env') : ds.length = 4 := gs_lenS (fun _ _ _ h => gs_len3 h) h
/-! ### in place -/
def dAddI : D → D → Option D
  | .int i, .int j => some (.int (i + j))
  | _, _ => none
section
variable {X : Cx} {K : PySem.W.Frag}
theorem o2_addI : Op2 K (rI0 fun i j => .int (i + j)) dAddI := o2_int0 fun a b c e => by
  unfold dAddI at e; split at e <;> cases e; exact ⟨_, _, rfl, rfl, rfl⟩
end
/-! ### constants of the module -/
theorem rp_ktup0 {K : PySem.W.Frag} {a : Addr} {oc : Obj} {n : Nat} (h : K.lookup a = some oc) (hc : oc.cls = .type "tuple") (hd : oc.data = .seq #[] n) : ∀ G H, Rp K G H (.tup []) (.ref a) [] := fun G H =>
  .tup (.inr ⟨oc, #[], n, h, hc, hd, by simp, .nil⟩) .nil
def toksInts : List Int → List Tok → List Value
  | n :: ns, t :: ts => .int n t :: toksInts ns ts
  | _, _ => []
theorem rp_ktupI {K : PySem.W.Frag} {a : Addr} {oc : Obj} {n : Nat} {ns : List Int} {its : Array Value} (h : K.lookup a = some oc) (hc : oc.cls = .type "tuple") (hd : oc.data = .seq its n) (hv : Vals (ns.map V.int) its.toList) (hz : ns.length ≤ sizeLine) : ∀ G H, Rp K G H (.tup (ns.map D.int)) (.ref a) [] := fun G H =>
  .tup (.inr ⟨oc, its, n, h, hc, hd, by have := hv.length; simp at this; omega, hv⟩) (Rps.ints ns)
/-- the law's entry -/
theorem law_end {K : PySem.W.Frag} {F : List D → Option (D × En)} {H : Hp} {a : Addr} {ns : List Int} {env : En} (hs : SqL K H a (ns.map V.int)) (h : F [.scr ns] = some (.bl true, env)) : spF K 1 F [.ref a] H (fun v _ => v = .bl true) fun _ _ _ => False :=
  ⟨rfl, H, [.scr ns], [], Le.refl _, by simpa using Rps.cons (L1 := []) (L2 := []) (.scr hs) .nil, List.nodup_nil, _, _, h, fun v G' H' Lr Lb _ _ r _ _ => r.bl_inv.1⟩
end
end Pz

set_option Elab.async false
set_option linter.all false
set_option maxRecDepth 100000
set_option maxHeartbeats 1000000
namespace Pz
open PySem L2
noncomputable section

/-- the value alone -/
def val (F : List D → Option (D × En)) (ds : List D) : Option D := (F ds).map (·.1)
def retV : Fl → Option D
  | .rt d => some d
  | .nx => some .non
  | _ => none
theorem clF_val {F : List D → Option (D × En)} {FA : En → Option (List D × En)} {env : En} : clF F FA env = (FA env).bind fun a => (val F a.1).map fun d => (d, a.2) := by
  unfold clF val
  congr 1
  funext a
  rw [Option.map_map]; rfl
theorem val_fnF {n m : Nat} {W : List Nat} {FB : En → Option (Fl × En)} {ds : List D} : val (fnF n m W FB) ds = if ds.length = n then (FB (ds.map some ++ List.replicate m none)).bind fun r => retV r.1 else none := by
  unfold val fnF
  split
  · cases FB (ds.map some ++ List.replicate m none) with
    | none => rfl
    | some r =>
      obtain ⟨f, e⟩ := r
      cases f <;> rfl
  · rfl
theorem val_some {F : List D → Option (D × En)} {ds : List D} {d : D} (h : val F ds = some d) : ∃ e, F ds = some (d, e) := by
  unfold val at h
  cases q : F ds with
  | none => rw [q] at h; cases h
  | some r => rw [q] at h; cases h; exact ⟨r.2, rfl⟩
theorem bind_ite {α β : Type} {c : Prop} [Decidable c] {a b : Option α} {f : α → Option β} : (if c then a else b).bind f = if c then a.bind f else b.bind f := by split <;> rfl
theorem map_ite {α β : Type} {c : Prop} [Decidable c] {a b : Option α} {f : α → β} : (if c then a else b).map f = if c then a.map f else b.map f := by split <;> rfl
/-- behind a statement -/
def andThen (F2 : En → Option (Fl × En)) : Fl × En → Option (Fl × En)
  | (.nx, e) => F2 e
  | (.bk, e) => some (.bk, e)
  | (.ct, e) => some (.ct, e)
  | (.rt d, e) => some (.rt d, e)
theorem seqF_eq {F1 F2 : En → Option (Fl × En)} {env : En} : seqF F1 F2 env = (F1 env).bind (andThen F2) := by
  unfold seqF
  congr 1
  funext r
  obtain ⟨f, e⟩ := r
  cases f <;> rfl
theorem andThen_nx {F2 : En → Option (Fl × En)} {e : En} : andThen F2 (.nx, e) = F2 e := rfl
theorem andThen_bk {F2 : En → Option (Fl × En)} {e : En} : andThen F2 (.bk, e) = some (.bk, e) := rfl
theorem andThen_ct {F2 : En → Option (Fl × En)} {e : En} : andThen F2 (.ct, e) = some (.ct, e) := rfl
theorem andThen_rt {F2 : En → Option (Fl × En)} {e : En} {d : D} : andThen F2 (.rt d, e) = some (.rt d, e) := rfl
theorem retV_rt {d : D} : retV (.rt d) = some d := rfl
theorem retV_nx : retV .nx = some .non := rfl
/-- a turn of a for -/
def flK (FT : D → En → Option En) (FB : En → Option (Fl × En)) (xs : List D) : Fl × En → Option (Fl × En)
  | (.nx, e) => flF FT FB xs e
  | (.ct, e) => flF FT FB xs e
  | (.bk, e) => some (.nx, e)
  | (.rt d, e) => some (.rt d, e)
theorem flF_nil {FT : D → En → Option En} {FB : En → Option (Fl × En)} {env : En} : flF FT FB [] env = some (.nx, env) := rfl
theorem flF_cons {FT : D → En → Option En} {FB : En → Option (Fl × En)} {x : D} {xs : List D} {env : En} : flF FT FB (x :: xs) env = (FT x env).bind fun e => (FB e).bind (flK FT FB xs) := by
  simp only [flF]
  congr 1
  funext e
  congr 1
  funext r
  obtain ⟨f, e⟩ := r
  cases f <;> rfl
theorem flK_nx {FT : D → En → Option En} {FB : En → Option (Fl × En)} {xs : List D} {e : En} : flK FT FB xs (.nx, e) = flF FT FB xs e := rfl
theorem flK_ct {FT : D → En → Option En} {FB : En → Option (Fl × En)} {xs : List D} {e : En} : flK FT FB xs (.ct, e) = flF FT FB xs e := rfl
theorem flK_bk {FT : D → En → Option En} {FB : En → Option (Fl × En)} {xs : List D} {e : En} : flK FT FB xs (.bk, e) = some (.nx, e) := rfl
theorem flK_rt {FT : D → En → Option En} {FB : En → Option (Fl × En)} {xs : List D} {e : En} {d : D} : flK FT FB xs (.rt d, e) = some (.rt d, e) := rfl
theorem forF_eq {FI : En → Option (List D × En)} {FT : D → En → Option En} {FB : En → Option (Fl × En)} {env : En} : forF FI FT FB env = (FI env).bind fun a => flF FT FB a.1 a.2 := rfl
theorem wN_eq {c : En → Option (Bool × En)} {b : En → Option (Fl × En)} {n : Nat} {env : En} : wN c b (n + 1) env = (c env).bind fun t => if t.1 = true then (b t.2).bind fun r => match r with
      | (.nx, e) => wN c b n e
      | (.ct, e) => wN c b n e
      | (.bk, e) => some (.nx, e)
      | (.rt d, e) => some (.rt d, e)
    else some (.nx, t.2) := by
  conv => lhs; unfold wN
  congr 1
  funext t
  split
  · congr 1
    funext r
    obtain ⟨f, e⟩ := r
    cases f <;> rfl
  · rfl
/-- a while turn by turn -/
theorem whF_done {c : En → Option (Bool × En)} {b : En → Option (Fl × En)} {env e : En} (h : c env = some (false, e)) : whF c b env = some (.nx, e) :=
  whF_of (n := 1) (by rw [wN_eq, h]; rfl)
theorem whF_turn {c : En → Option (Bool × En)} {b : En → Option (Fl × En)} {env e e' : En} {r : Fl × En} (h : c env = some (true, e)) (hb : b e = some (.nx, e')) (k : whF c b e' = some r) : whF c b env = some r := by
  obtain ⟨n, hn⟩ := whF_some k
  exact whF_of (n := n + 1) (by rw [wN_eq, h]; simp only [Option.bind_some, if_true, hb]; exact hn)
theorem whF_ret {c : En → Option (Bool × En)} {b : En → Option (Fl × En)} {env e e' : En} {d : D} (h : c env = some (true, e)) (hb : b e = some (.rt d, e')) : whF c b env = some (.rt d, e') :=
  whF_of (n := 1) (by rw [wN_eq, h]; simp only [Option.bind_some, if_true, hb])
theorem whF_brk {c : En → Option (Bool × En)} {b : En → Option (Fl × En)} {env e e' : En} (h : c env = some (true, e)) (hb : b e = some (.bk, e')) : whF c b env = some (.nx, e') :=
  whF_of (n := 1) (by rw [wN_eq, h]; simp only [Option.bind_some, if_true, hb])
theorem nmF_eq {i : Nat} {env : En} {d : D} (h : env[i]? = some (some d)) : nmF i env = some (d, env) := by unfold nmF; rw [h]; rfl

/-! ### what the operators give -/
theorem dIx_tup0 {a : D} {r : List D} : dIx (.tup (a :: r)) (.int 0) = some a := by
  show atI (a :: r) ((0 : Nat) : Int) = _
  exact atI_nat rfl
theorem dIx_tup1 {a b : D} {r : List D} : dIx (.tup (a :: b :: r)) (.int 1) = some b := by
  show atI (a :: b :: r) ((1 : Nat) : Int) = _
  exact atI_nat rfl
theorem dIx_lstN {o : Bool} {xs : List D} {k : Nat} : dIx (.lst o xs) (.int (k : Int)) = xs[k]? := by
  show atI xs ((k : Nat) : Int) = _
  cases h : xs[k]? with
  | some v => exact atI_nat h
  | none =>
    have hk : xs.length ≤ k := List.getElem?_eq_none_iff.mp h
    unfold atI ixN
    rw [if_pos (Int.natCast_nonneg _), if_neg (by omega)]; rfl
theorem dIx_tupN {xs : List D} {k : Nat} : dIx (.tup xs) (.int (k : Int)) = xs[k]? := dIx_lstN (o := true)
theorem dIx_scrN {ns : List Int} {k : Nat} : dIx (.scr ns) (.int (k : Int)) = (ns[k]?).map .int := by
  show (atI ns ((k : Nat) : Int)).map _ = _
  congr 1
  cases h : ns[k]? with
  | some v => exact atI_nat h
  | none =>
    have hk : ns.length ≤ k := List.getElem?_eq_none_iff.mp h
    unfold atI ixN
    rw [if_pos (Int.natCast_nonneg _), if_neg (by omega)]; rfl
theorem shp_int {i : Int} : shp (.int i) = true := by
  unfold shp SeqAt.shaped; simp [D.py, PyData.canLay0, PyData.depth]
theorem shp_bl {i : Bool} : shp (.bl i) = true := by
  unfold shp SeqAt.shaped; simp [D.py, PyData.canLay0, PyData.depth]
theorem shp_non : shp .non = true := by
  unfold shp SeqAt.shaped; simp [D.py, PyData.canLay0, PyData.depth]
theorem dEq_int {i j : Int} : dEq (.int i) (.int j) = some (.bl (decide (i = j))) := by
  unfold dEq; rw [if_pos ⟨shp_int, shp_int⟩]; simp only [D.py, PyData.eqv]; rfl
theorem dNe_int {i j : Int} : dNe (.int i) (.int j) = some (.bl (!decide (i = j))) := by
  unfold dNe; rw [if_pos ⟨shp_int, shp_int⟩]; simp only [D.py, PyData.eqv]; rfl
theorem dAdd_int {i j : Int} : dAdd (.int i) (.int j) = some (.int (i + j)) := rfl
theorem dSub_int {i j : Int} : dSub (.int i) (.int j) = some (.int (i - j)) := rfl
theorem dMul_int {i j : Int} (h : mulOk i j = true) : dMul (.int i) (.int j) = some (.int (i * j)) := by simp only [dMul]; rw [if_pos h]
theorem dMod_pos {i j : Int} (h : 0 < j) : dMod (.int i) (.int j) = some (.int (i % j)) := by simp only [dMod]; rw [if_pos (by omega), Int.fmod_eq_emod_of_nonneg _ (by omega)]
theorem dDiv_pos {i j : Int} (h : 0 < j) (hd : divOk j = true) : dDiv (.int i) (.int j) = some (.int (i / j)) := by simp only [dDiv]; rw [if_pos hd, Int.fdiv_eq_ediv_of_nonneg _ (by omega)]
theorem dLt_int {i j : Int} : dLt (.int i) (.int j) = some (.bl (decide (i < j))) := rfl
theorem dLe_int {i j : Int} : dLe (.int i) (.int j) = some (.bl (decide (i ≤ j))) := rfl
theorem dGt_int {i j : Int} : dGt (.int i) (.int j) = some (.bl (decide (j < i))) := rfl
theorem dGe_int {i j : Int} : dGe (.int i) (.int j) = some (.bl (decide (j ≤ i))) := rfl
theorem dAddI_int {i j : Int} : dAddI (.int i) (.int j) = some (.int (i + j)) := rfl
theorem asB_bl {b : Bool} : asB (.bl b) = some b := rfl
theorem dTup_le {ds : List D} (h : ds.length ≤ 16777216) : dTup ds = some (.tup ds) := by unfold dTup; rw [if_pos (show lineOk _ = true from tst_of h)]
theorem dLst_le {ds : List D} (h : ds.length ≤ 16777216) : dLst ds = some (.lst true ds) := by unfold dLst; rw [if_pos (show lineOk _ = true from tst_of h)]
/-! ### isinstance -/
theorem isi_int_int {i : Int} : fIsi [.int i, .raw (.ty "int")] = some (.bl true) := by
  show (kitB "int" "int").map D.bl = _
  have : kitB "int" "int" = some true := by decide +kernel
  rw [this]; rfl
end
end Pz

set_option Elab.async false
set_option linter.all false
set_option maxRecDepth 100000
set_option maxHeartbeats 1000000
namespace Pz
open PySem L2
noncomputable section
def frzF (F : En → Option (D × En)) : En → Option (D × En) := fun env => (F env).map fun r => (r.1.fz, r.2)
section
variable {X : Cx} {e : Expr} {F : En → Option (D × En)} {o st : Bool}
theorem ev_frz (h : Ev X true st e F) : Ev X true false e (frzF F) := peM h fun σ H Q ⟨G, env, L, R, d, env', hf, k⟩ => by
  unfold frzF at hf
  cases q : F env with
  | none => rw [q] at hf; simp at hf
  | some r =>
  obtain ⟨d', e'⟩ := r
  rw [q] at hf
  simp only [Option.map_some, Option.some.injEq, Prod.mk.injEq] at hf
  obtain ⟨rfl, rfl⟩ := hf
  refine ⟨G, env, L, R, d', e', q, fun v G' H' L' Lr R' r n s x => ?_⟩
  have nn := List.nodup_append.mp (n rfl)
  have out : ∀ a ∈ L', a ∉ Lr := fun a z y => nn.2.2 a z a y rfl
  have r' : Rp X.K (frG G' H' Lr) H' d'.fz v [] := r.fz (frG_le R'.le) fun a z => frG_in z
  refine k v (frG G' H' Lr) H' L' [] ⟨frG_le' R'.le, R'.rep.mono (frG_le R'.le) fun a z => ⟨by rw [frG_out (out a z)]; exact (R'.rep.own a z).1, rfl⟩, R'.nd⟩ r' (fun _ => by simpa using R'.nd) (fun z => nomatch z) ⟨x.le.trans (frG_le R'.le), x.fr, fun b hb => ?_, fun b hb => x.own b (List.mem_append_left _ (by simpa using hb))⟩
  by_cases hx : b ∈ Lr
  · exact (x.own b (List.mem_append_right _ hx)).elim (fun z => .inr (.inl z)) fun z => .inr (.inr z)
  · rw [frG_out hx] at hb; exact x.gd b hb
end
/-! ### a def that calls itself -/
def recF (B : (List D → Option (D × En)) → List D → Option (D × En)) (n : Nat) : List D → Option (D × En) := Nat.rec (fun _ => none) (fun _ r => B r) n
theorem recF_zero {B : (List D → Option (D × En)) → List D → Option (D × En)} : recF B 0 = fun _ => none := rfl
theorem recF_succ {B : (List D → Option (D × En)) → List D → Option (D × En)} {n : Nat} : recF B (n + 1) = B (recF B n) := rfl
theorem cal_none {P : Program} {w : World} {K : PySem.W.Frag} {mg : Str → Option Value} {base : Heap} {x : Str} {k : Nat} {ps : List Str} {f : Addr} {fd : FuncData} (hm : mg x = some (.ref f)) (hk : PySem.W.keepIn K (.ref f) = true) (hb : Binds K fd ps []) :
    Cal P w K mg base x k ps (fun _ => none) := by
  refine ⟨fun ds r h => (by cases h), f, fd, ⟨fun vs H Q E h => h.1, fun A outer s H args us vs Q E hr he hb hv hs => ?_⟩, hm, hk, hb⟩
  obtain ⟨_, G, ds, L, _, _, _, d, back, h, _⟩ := hs
  cases h
end
end Pz
namespace Pz
open PySem L2
abbrev fsc (ns : List (Str × NameKind)) : Scope := { kind := .function, names := ns, isGenerator := false, isCoroutine := false, more := [] }
end Pz
namespace Pz
open PySem L2
noncomputable section
/-! ### a name whose value is frozen behind a statement -/
def fzAt (i : Nat) (e : En) : En := match e[i]? with
  | some (some d) => e.set i (some d.fz)
  | _ => e
def zsF (i : Nat) (F : En → Option (Fl × En)) : En → Option (Fl × En) := fun env => (F env).map fun r => match r with
  | (.nx, e) => (.nx, fzAt i e)
  | r => r
theorem fzAt_some {i : Nat} {e : En} {d : D} (h : e[i]? = some (some d)) : fzAt i e = e.set i (some d.fz) := by unfold fzAt; rw [h]
theorem zsF_eq {i : Nat} {F : En → Option (Fl × En)} {env : En} : zsF i F env = (F env).bind fun r => match r with
  | (.nx, e) => some (.nx, fzAt i e)
  | r => some r := by
  unfold zsF
  cases F env with
  | none => rfl
  | some r => obtain ⟨f, e⟩ := r; cases f <;> rfl
theorem RSt.fzAt {K : PySem.W.Frag} {σ : St} {G H : Hp} {env : En} {L : List Addr} (i : Nat) (R : RSt K σ G H env L) : ∃ G' L', RSt K σ G' H (Pz.fzAt i env) L' ∧ Ext L G H G' H L' := by
  unfold Pz.fzAt
  split
  case h_2 => exact ⟨G, L, R, Ext.refl fun _ z => z⟩
  rename_i d' q
  obtain ⟨hi, _⟩ := List.getElem?_eq_some_iff.mp q
  obtain ⟨La, Li, Lb, e0, f, g⟩ := R.rep.at hi
  obtain ⟨v, ev, r⟩ := f d' q
  have nd : (La ++ Li ++ Lb).Nodup := e0 ▸ R.nd
  have out : ∀ a ∈ La ++ Lb, a ∉ Li := fun a z y => by
    have nd1 := List.nodup_append.mp nd
    rcases List.mem_append.mp z with z | z
    · exact (List.nodup_append.mp nd1.1).2.2 a z a y rfl
    · exact nd1.2.2 a (List.mem_append_right _ y) a z rfl
  have r' : Rp K (frG G H Li) H d'.fz v [] := r.fz (frG_le R.le) fun a z => frG_in z
  have g' := ((g (G' := frG G H Li) (H' := H) (frG_le R.le) fun a z => ⟨by rw [frG_out (out a z)]; exact (R.rep.own a (by rw [e0]; rcases List.mem_append.mp z with z | z <;> simp [z])).1, rfl⟩).1 r')
  have eσ : σ.set i (some v) = σ := by
    refine List.ext_getElem? fun j => ?_
    by_cases hj : i = j
    · subst hj
      obtain ⟨hl, _⟩ := List.getElem?_eq_some_iff.mp ev
      rw [List.getElem?_set_self hl, ev]
    · rw [List.getElem?_set_ne hj]
  rw [eσ] at g'
  refine ⟨frG G H Li, La ++ [] ++ Lb, ⟨frG_le' R.le, g', nd.sublist (by simp)⟩, ⟨frG_le R.le, fun _ _ _ => rfl, fun b hb => ?_, fun b hb => ?_⟩⟩
  · by_cases hx : b ∈ Li
    · exact .inr (.inl (by rw [e0]; simp [hx]))
    · rw [frG_out hx] at hb; exact .inl hb
  · refine .inl ?_
    rw [e0]
    simp at hb ⊢
    rcases hb with z | z <;> simp [z]
theorem sv_frz {X : Cx} {W : List Nat} {st : Stmt} {F : En → Option (Fl × En)} (i : Nat) (h : Sv X W st F) : Sv X W st (zsF i F) := psM h fun D σ H ⟨G, env, L, R, fl, env', hf, k⟩ => by
  unfold zsF at hf
  cases q : F env with
  | none => rw [q] at hf; simp at hf
  | some r =>
  obtain ⟨f1, e1⟩ := r
  rw [q] at hf
  simp only [Option.map_some, Option.some.injEq] at hf
  refine ⟨G, env, L, R, f1, e1, q, ?_⟩
  cases f1 with
  | nx =>
    cases hf
    intro σ' G' H' L' R' k' x'
    obtain ⟨G2, L2, R2, x2⟩ := R'.fzAt i
    exact k σ' G2 H' L2 R2 k' (x'.trans x2 fun a z => x'.own a z)
  | bk => cases hf; exact k
  | ct => cases hf; exact k
  | rt d => cases hf; exact k
end
end Pz

set_option Elab.async false
set_option linter.all false
set_option maxRecDepth 100000
set_option maxHeartbeats 1000000
namespace Pz
open PySem L2
noncomputable section
/-! ### a for over a list that is told by ys -/
theorem flF_fold {α S J : Type} {FT : D → En → Option En} {FB : En → Option (Fl × En)} (f : α → D) (st : S → J → En) (step : S → α → S) :
    ∀ (ys : List α) (s : S) (j : J), (∀ s j y, y ∈ ys → ∃ j', (FT (f y) (st s j)).bind FB = some (.nx, st (step s y) j')) → ∃ j', flF FT FB (ys.map f) (st s j) = some (.nx, st (ys.foldl step s) j')
  | [], s, j, _ => ⟨j, rfl⟩
  | y :: ys, s, j, h => by
    obtain ⟨j1, e1⟩ := h s j y (List.mem_cons_self ..)
    obtain ⟨j2, e2⟩ := flF_fold f st step ys (step s y) j1 fun s j z hz => h s j z (List.mem_cons_of_mem _ hz)
    refine ⟨j2, ?_⟩
    rw [List.map_cons, flF_cons]
    cases q : FT (f y) (st s j) with
    | none => rw [q] at e1; cases e1
    | some e =>
      rw [q] at e1
      simp only [Option.bind_some] at e1 ⊢
      rw [e1]
      exact e2
/-- with a claim that is kept -/
theorem flF_keep {α S J : Type} {FT : D → En → Option En} {FB : En → Option (Fl × En)} (f : α → D) (st : S → J → En) (step : S → α → S) (I : S → Prop) :
    ∀ (ys : List α) (s : S) (j : J), I s → (∀ s j y, y ∈ ys → I s → I (step s y) ∧ ∃ j', (FT (f y) (st s j)).bind FB = some (.nx, st (step s y) j')) → I (ys.foldl step s) ∧ ∃ j', flF FT FB (ys.map f) (st s j) = some (.nx, st (ys.foldl step s) j')
  | [], s, j, i, _ => ⟨i, j, rfl⟩
  | y :: ys, s, j, i, h => by
    obtain ⟨i1, j1, e1⟩ := h s j y (List.mem_cons_self ..) i
    obtain ⟨i2, j2, e2⟩ := flF_keep f st step I ys (step s y) j1 i1 fun s j z hz => h s j z (List.mem_cons_of_mem _ hz)
    refine ⟨i2, j2, ?_⟩
    rw [List.map_cons, flF_cons]
    cases q : FT (f y) (st s j) with
    | none => rw [q] at e1; cases e1
    | some e =>
      rw [q] at e1
      simp only [Option.bind_some] at e1 ⊢
      rw [e1]
      exact e2
/-- with a relation that is kept: what the loop leaves is not told by a function -/
theorem flF_rel {α : Type} {FT : D → En → Option En} {FB : En → Option (Fl × En)} (f : α → D) (R : List α → En → Prop) :
    ∀ (ys : List α) (e : En), R ys e → (∀ y zs e, R (y :: zs) e → ∃ e', (FT (f y) e).bind FB = some (.nx, e') ∧ R zs e') → ∃ e', flF FT FB (ys.map f) e = some (.nx, e') ∧ R [] e'
  | [], e, r, _ => ⟨e, rfl, r⟩
  | y :: ys, e, r, h => by
    obtain ⟨e1, q1, r1⟩ := h y ys e r
    obtain ⟨e2, q2, r2⟩ := flF_rel f R ys e1 r1 h
    refine ⟨e2, ?_, r2⟩
    rw [List.map_cons, flF_cons]
    cases q : FT (f y) e with
    | none => rw [q] at q1; cases q1
    | some e' =>
      rw [q] at q1
      simp only [Option.bind_some] at q1 ⊢
      rw [q1]
      exact q2
/-- a loop that puts one thing after the other behind a list -/
theorem flF_append {α J : Type} {FT : D → En → Option En} {FB : En → Option (Fl × En)} (f : α → D) (g : α → D) (st : List D → J → En) :
    ∀ (ys : List α) (acc : List D) (j : J), acc.length + ys.length ≤ 1000000 → (∀ (acc : List D) j y, y ∈ ys → lineLt acc.length = true → ∃ j', (FT (f y) (st acc j)).bind FB = some (.nx, st (acc ++ [g y]) j')) → ∃ j', flF FT FB (ys.map f) (st acc j) = some (.nx, st (acc ++ ys.map g) j')
  | [], acc, j, _, _ => ⟨j, by simp [flF_nil]⟩
  | y :: ys, acc, j, hl, h => by
    simp only [List.length_cons] at hl
    obtain ⟨j1, e1⟩ := h acc j y (List.mem_cons_self ..) (tst_of (by omega))
    obtain ⟨j2, e2⟩ := flF_append f g st ys (acc ++ [g y]) j1 (by simp; omega) fun acc j z hz => h acc j z (List.mem_cons_of_mem _ hz)
    refine ⟨j2, ?_⟩
    rw [List.map_cons, flF_cons]
    cases q : FT (f y) (st acc j) with
    | none => rw [q] at e1; cases e1
    | some e =>
      rw [q] at e1
      simp only [Option.bind_some] at e1 ⊢
      rw [e1]
      simpa [flK_nx] using e2
/-! ### a comprehension whose element changes nothing -/
theorem lcL_map {α : Type} {vs : List Nat} {FT : D → En → Option En} {FE : En → Option (D × En)} {e0 : En} (f : α → D) (g : α → D) :
    ∀ (ys : List α) (acc : List D), (∀ y ∈ ys, ∃ e1 e2, FT (f y) e0 = some e1 ∧ FE e1 = some (g y, e2) ∧ wpE vs e2 = e0) → lcL vs FT yesF FE acc (ys.map f) e0 = some (acc ++ ys.map g, e0)
  | [], acc, _ => by simp [lcL]
  | y :: ys, acc, h => by
    obtain ⟨e1, e2, h1, h2, h3⟩ := h y (List.mem_cons_self ..)
    have q := lcL_map (vs := vs) f g ys (acc ++ [g y]) fun z hz => h z (List.mem_cons_of_mem _ hz)
    simp only [List.map_cons, lcL, h1, Option.bind_some, yesF, if_true, h2, h3, q]
    simp
theorem lcF_map {α : Type} {vs : List Nat} {FI : En → Option (List D × En)} {FT : D → En → Option En} {FE : En → Option (D × En)} {env env' : En} (f : α → D) (g : α → D) (ys : List α)
    (hI : FI env = some (ys.map f, env')) (hl : ys.length ≤ 16777216) (hk : okE vs 0 env' = true)
    (h : ∀ y ∈ ys, ∃ e1 e2, FT (f y) (wpE vs env') = some e1 ∧ FE e1 = some (g y, e2) ∧ wpE vs e2 = wpE vs env') :
    lcF vs FI FT yesF FE env = some (.lst true (ys.map g), mgE vs 0 env' (wpE vs env')) := by
  unfold lcF
  rw [hI]
  simp only [Option.bind_some, hk, and_true, List.length_map]
  rw [if_pos (show lineOk _ = true from tst_of hl), lcL_map f g ys [] h]
  simp
/-- a comprehension whose element changes the slots: what is kept -/
theorem lcL_rel {α : Type} {vs : List Nat} {FT : D → En → Option En} {FE : En → Option (D × En)} (f : α → D) (R : List D → En → Prop) :
    ∀ (ys : List α) (acc : List D) (e : En), R acc e → (∀ y ∈ ys, ∀ acc e, R acc e → ∃ e1 d e2, FT (f y) e = some e1 ∧ FE e1 = some (d, e2) ∧ R (acc ++ [d]) (wpE vs e2)) → ∃ acc' e', lcL vs FT yesF FE acc (ys.map f) e = some (acc', e') ∧ R acc' e' ∧ acc'.length = acc.length + ys.length
  | [], acc, e, r, _ => ⟨acc, e, by simp [lcL], r, by simp⟩
  | y :: ys, acc, e, r, h => by
    obtain ⟨e1, d, e2, h1, h2, r2⟩ := h y (List.mem_cons_self ..) acc e r
    obtain ⟨acc', e', h3, r3, l3⟩ := lcL_rel f R ys (acc ++ [d]) _ r2 fun z hz => h z (List.mem_cons_of_mem _ hz)
    refine ⟨acc', e', ?_, r3, by simp at l3 ⊢; omega⟩
    simp only [List.map_cons, lcL, h1, Option.bind_some, yesF, if_true, h2, h3]
theorem lcF_rel {α : Type} {vs : List Nat} {FI : En → Option (List D × En)} {FT : D → En → Option En} {FE : En → Option (D × En)} {env env' : En} (f : α → D) (R : List D → En → Prop) (ys : List α)
    (hI : FI env = some (ys.map f, env')) (hl : ys.length ≤ 16777216) (hk : okE vs 0 env' = true) (h0 : R [] (wpE vs env'))
    (h : ∀ y ∈ ys, ∀ acc e, R acc e → ∃ e1 d e2, FT (f y) e = some e1 ∧ FE e1 = some (d, e2) ∧ R (acc ++ [d]) (wpE vs e2)) :
    ∃ acc e, lcF vs FI FT yesF FE env = some (.lst true acc, mgE vs 0 env' e) ∧ R acc e ∧ acc.length = ys.length := by
  obtain ⟨acc, e, h1, r, l⟩ := lcL_rel (vs := vs) f R ys [] _ h0 h
  refine ⟨acc, e, ?_, r, by simpa using l⟩
  unfold lcF
  rw [hI]
  simp only [Option.bind_some, hk, and_true, List.length_map]
  rw [if_pos (show lineOk _ = true from tst_of hl), h1]
  rfl
/-- the same, with what is still to come -/
theorem lcL_rem {α : Type} {vs : List Nat} {FT : D → En → Option En} {FE : En → Option (D × En)} (f : α → D) (R : List α → List D → En → Prop)
    (h : ∀ y zs acc e, R (y :: zs) acc e → ∃ e1 d e2, FT (f y) e = some e1 ∧ FE e1 = some (d, e2) ∧ R zs (acc ++ [d]) (wpE vs e2)) :
    ∀ (ys : List α) (acc : List D) (e : En), R ys acc e → ∃ acc' e', lcL vs FT yesF FE acc (ys.map f) e = some (acc', e') ∧ R [] acc' e'
  | [], acc, e, r => ⟨acc, e, by simp [lcL], r⟩
  | y :: ys, acc, e, r => by
    obtain ⟨e1, d, e2, h1, h2, r2⟩ := h y ys acc e r
    obtain ⟨acc', e', h3, r3⟩ := lcL_rem f R h ys (acc ++ [d]) _ r2
    refine ⟨acc', e', ?_, r3⟩
    simp only [List.map_cons, lcL, h1, Option.bind_some, yesF, if_true, h2, h3]
theorem lcF_rem {α : Type} {vs : List Nat} {FI : En → Option (List D × En)} {FT : D → En → Option En} {FE : En → Option (D × En)} {env env' : En} (f : α → D) (R : List α → List D → En → Prop) (ys : List α)
    (hI : FI env = some (ys.map f, env')) (hl : ys.length ≤ 16777216) (hk : okE vs 0 env' = true) (h0 : R ys [] (wpE vs env'))
    (h : ∀ y zs acc e, R (y :: zs) acc e → ∃ e1 d e2, FT (f y) e = some e1 ∧ FE e1 = some (d, e2) ∧ R zs (acc ++ [d]) (wpE vs e2)) :
    ∃ acc e, lcF vs FI FT yesF FE env = some (.lst true acc, mgE vs 0 env' e) ∧ R [] acc e := by
  obtain ⟨acc, e, h1, r⟩ := lcL_rem (vs := vs) f R h ys [] _ h0
  refine ⟨acc, e, ?_, r⟩
  unfold lcF
  rw [hI]
  simp only [Option.bind_some, hk, and_true, List.length_map]
  rw [if_pos (show lineOk _ = true from tst_of hl), h1]
  rfl
/-- the same, chosen by a test -/
theorem lcL_filter {α : Type} {vs : List Nat} {FT : D → En → Option En} {FC : En → Option (Bool × En)} {FE : En → Option (D × En)} {e0 : En} (f : α → D) (c : α → Bool) (g : α → D) :
    ∀ (ys : List α) (acc : List D), (∀ y ∈ ys, ∃ e1 e2, FT (f y) e0 = some e1 ∧ FC e1 = some (c y, e2) ∧ (c y = true → ∃ e3, FE e2 = some (g y, e3) ∧ wpE vs e3 = e0) ∧ (c y = false → wpE vs e2 = e0)) → lcL vs FT FC FE acc (ys.map f) e0 = some (acc ++ (ys.filter c).map g, e0)
  | [], acc, _ => by simp [lcL]
  | y :: ys, acc, h => by
    obtain ⟨e1, e2, h1, h2, h3, h4⟩ := h y (List.mem_cons_self ..)
    cases hc : c y with
    | true =>
      obtain ⟨e3, h5, h6⟩ := h3 hc
      have q := lcL_filter (vs := vs) (FC := FC) f c g ys (acc ++ [g y]) fun z hz => h z (List.mem_cons_of_mem _ hz)
      simp only [List.map_cons, lcL, h1, Option.bind_some, h2, hc, if_true, h5, h6, q]
      simp [hc]
    | false =>
      have q := lcL_filter (vs := vs) (FC := FC) f c g ys acc fun z hz => h z (List.mem_cons_of_mem _ hz)
      simp only [List.map_cons, lcL, h1, Option.bind_some, h2, hc, Bool.false_eq_true, if_false, h4 hc, q]
      simp [hc]
theorem lcF_filter {α : Type} {vs : List Nat} {FI : En → Option (List D × En)} {FT : D → En → Option En} {FC : En → Option (Bool × En)} {FE : En → Option (D × En)} {env env' : En} (f : α → D) (c : α → Bool) (g : α → D) (ys : List α)
    (hI : FI env = some (ys.map f, env')) (hl : ys.length ≤ 16777216) (hk : okE vs 0 env' = true)
    (h : ∀ y ∈ ys, ∃ e1 e2, FT (f y) (wpE vs env') = some e1 ∧ FC e1 = some (c y, e2) ∧ (c y = true → ∃ e3, FE e2 = some (g y, e3) ∧ wpE vs e3 = wpE vs env') ∧ (c y = false → wpE vs e2 = wpE vs env')) :
    lcF vs FI FT FC FE env = some (.lst true ((ys.filter c).map g), mgE vs 0 env' (wpE vs env')) := by
  unfold lcF
  rw [hI]
  simp only [Option.bind_some, hk, and_true, List.length_map]
  rw [if_pos (show lineOk _ = true from tst_of hl), lcL_filter f c g ys [] h]
  simp
/-! ### fractions -/
/-- the pair of a fraction -/
def fr (q : Rat) : D := .tup [.int q.num, .int q.den]
theorem fr_def (q : Rat) : fr q = .tup [.int q.num, .int (q.den : Int)] := rfl
theorem fr_inj {a b : Rat} (h : fr a = fr b) : a = b := by
  simp [fr] at h
  exact Rat.ext h.1 (by omega)
theorem den_pos (q : Rat) : (0 : Int) < q.den := by have := q.den_pos; omega
/-- what the programs make of a pair: both divided by the greatest common divisor -/
theorem divInt_num {a b : Int} (hb : 0 < b) : (Rat.divInt a b).num = a / (Int.gcd a b : Int) := by
  rw [Rat.num_divInt, Int.sign_eq_one_of_pos hb, Int.one_mul, Int.gcd_comm]
theorem divInt_den {a b : Int} (hb : 0 < b) : ((Rat.divInt a b).den : Int) = b / (Int.gcd a b : Int) := by
  rw [Rat.den_divInt, if_neg (by omega), Int.gcd_comm]
  rw [Int.natCast_ediv]
  congr 1
  omega
theorem add_divInt (x y : Rat) : x + y = Rat.divInt (x.num * y.den + y.num * x.den) (x.den * y.den) := by
  rw [Rat.add_def, Rat.normalize_eq_mkRat, ← Int.natCast_mul, Rat.divInt_ofNat]
theorem sub_divInt (x y : Rat) : x - y = Rat.divInt (x.num * y.den - y.num * x.den) (x.den * y.den) := by
  rw [Rat.sub_def', ← Int.natCast_mul, Rat.divInt_ofNat]
theorem mul_divInt (x y : Rat) : x * y = Rat.divInt (x.num * y.num) (x.den * y.den) := by
  rw [Rat.mul_def, Rat.normalize_eq_mkRat, ← Int.natCast_mul, Rat.divInt_ofNat]
theorem fdiv_gcd {a g : Int} (hg : 0 < g) (h : g ∣ a) : a.fdiv g = a / g ∧ a.fdiv (-g) = -(a / g) := by
  obtain ⟨c, rfl⟩ := h
  have e1 : (g * c).fdiv g = c := Int.mul_fdiv_cancel_left c (by omega)
  have e2 : (g * c).fdiv (-g) = -c := by
    have : g * c = (-g) * (-c) := by rw [Int.neg_mul_neg]
    rw [this]; exact Int.mul_fdiv_cancel_left _ (by omega)
  rw [e1, e2, Int.mul_ediv_cancel_left c (by omega)]
  exact ⟨rfl, rfl⟩
theorem gcd_pos {a b : Int} (hb : b ≠ 0) : (0 : Int) < (Int.gcd a b : Nat) := by
  have := Int.gcd_pos_of_ne_zero_right a hb
  omega
theorem gcd_le {a b : Int} (hb : b ≠ 0) : Int.gcd a b ≤ b.natAbs := Nat.le_of_dvd (by omega) (Int.gcd_dvd_natAbs_right a b)
/-- the value that the code makes: both parts divided by the divisor, of b's sign -/
theorem fr_divInt {a b : Int} (hb : b ≠ 0) : fr (Rat.divInt a b) = if b < 0 then .tup [.int (a.fdiv (-(Int.gcd a b : Int))), .int (b.fdiv (-(Int.gcd a b : Int)))] else .tup [.int (a.fdiv (Int.gcd a b : Int)), .int (b.fdiv (Int.gcd a b : Int))] := by
  obtain ⟨a1, a2⟩ := fdiv_gcd (gcd_pos (a := a) hb) (Int.gcd_dvd_left a b)
  obtain ⟨b1, b2⟩ := fdiv_gcd (gcd_pos (a := a) hb) (Int.gcd_dvd_right a b)
  obtain ⟨c, hc⟩ := Int.gcd_dvd_left a b
  obtain ⟨d, hd⟩ := Int.gcd_dvd_right a b
  have hg := gcd_pos (a := a) hb
  rw [a1, a2, b1, b2]
  unfold fr
  rw [Rat.num_divInt, Rat.den_divInt, if_neg hb]
  have e1 : (b.gcd a : Int) = (a.gcd b : Int) := by rw [Int.gcd_comm]
  have e2 : ((b.natAbs / b.gcd a : Nat) : Int) = (b.natAbs : Int) / (a.gcd b : Int) := by rw [Int.natCast_ediv, e1]
  rw [e1, e2]
  split
  · rename_i h
    rw [Int.sign_eq_neg_one_of_neg h]
    have e3 : (b.natAbs : Int) = -b := by omega
    rw [e3, Int.neg_ediv_of_dvd (Int.gcd_dvd_right a b)]
    rw [show -1 * a = -a by omega, Int.neg_ediv_of_dvd (Int.gcd_dvd_left a b)]
  · rename_i h
    rw [Int.sign_eq_one_of_pos (by omega), Int.one_mul]
    have e3 : (b.natAbs : Int) = b := by omega
    rw [e3]
theorem shp_fr (q : Rat) : shp (fr q) = true := by
  unfold shp SeqAt.shaped; simp [fr, D.py, D.pys, PyData.canLay0, PyData.canLayAll0, PyData.depth, PyData.depthAll]
theorem shp_nil : shp (.tup []) = true := by
  unfold shp SeqAt.shaped; simp [D.py, D.pys, PyData.canLay0, PyData.canLayAll0, PyData.depth, PyData.depthAll]
theorem pure_fr (q : Rat) : (fr q).pure = true := by simp [fr, D.pure, D.pures]
theorem fz_fr (q : Rat) : (fr q).fz = fr q := by simp [fr, D.fz, D.fzs]
/-- a value: a fraction, or () -/
abbrev T := Option Rat
def fv : T → D
  | none => .tup []
  | some q => fr q
theorem fv_none : fv none = .tup [] := rfl
theorem fv_some (q : Rat) : fv (some q) = fr q := rfl
theorem pure_fv (t : T) : (fv t).pure = true := by cases t <;> simp [fv, fr, D.pure, D.pures]
theorem fz_fv (t : T) : (fv t).fz = fv t := by cases t <;> simp [fv, fr, D.fz, D.fzs]
theorem shp_fv (t : T) : shp (fv t) = true := by
  cases t with
  | none => exact shp_nil
  | some q => exact shp_fr q
theorem pures_fv (ts : List T) : D.pures (ts.map fv) = true := by
  rw [D.pures_all]; simp [pure_fv]
theorem fzs_fv (ts : List T) : D.fzs (ts.map fv) = ts.map fv := by
  rw [D.fzs_map, List.map_map]; exact List.map_congr_left fun t _ => fz_fv t
theorem dEq_fv0 (t : T) : dEq (fv t) (.tup []) = some (.bl t.isNone) := by
  unfold dEq
  rw [if_pos ⟨shp_fv t, shp_nil⟩]
  cases t <;> simp [fv, fr, D.py, D.pys, PyData.eqv, PyData.eqvAll]
theorem dNe_fv0 (t : T) : dNe (fv t) (.tup []) = some (.bl t.isSome) := by
  unfold dNe
  rw [if_pos ⟨shp_fv t, shp_nil⟩]
  cases t <;> simp [fv, fr, D.py, D.pys, PyData.eqv, PyData.eqvAll]
def tlt : T → T → Bool
  | none, _ => false
  | some _, none => true
  | some a, some b => decide (a < b)
def tle (a b : T) : Bool := !tlt b a
def tadd : T → T → T
  | some a, some b => some (a + b)
  | _, _ => none
def minL (ts : List T) : T := ts.foldl (fun f x => if tlt x f = true then x else f) none
theorem tle_refl (a : T) : tle a a = true := by
  cases a <;> simp [tle, tlt]
theorem tle_antisymm {a b : T} (h : tle a b = true) (k : tle b a = true) : a = b := by
  cases a <;> cases b <;> simp [tle, tlt] at h k ⊢
  grind
theorem tle_trans {a b c : T} (h : tle a b = true) (k : tle b c = true) : tle a c = true := by
  cases a <;> cases b <;> cases c <;> simp [tle, tlt] at h k ⊢
  grind
theorem minL_fold (z : T) : ∀ (ts : List T) (f : T), tle z (ts.foldl (fun f x => if tlt x f = true then x else f) f) = true ↔ tle z f = true ∧ ∀ x ∈ ts, tle z x = true
  | [], f => by simp
  | x :: xs, f => by
    rw [List.foldl_cons, minL_fold z xs]
    by_cases h : tlt x f = true
    · rw [if_pos h]
      have : tle x f = true := by
        cases x <;> cases f <;> simp [tle, tlt] at h ⊢; grind
      constructor
      · rintro ⟨a, b⟩; exact ⟨tle_trans a this, by simpa using ⟨a, b⟩⟩
      · rintro ⟨a, b⟩
        simp only [List.mem_cons, forall_eq_or_imp] at b
        exact b
    · rw [if_neg h]
      have : tle f x = true := by unfold tle; simpa using h
      constructor
      · rintro ⟨a, b⟩; exact ⟨a, by simpa using ⟨tle_trans a this, b⟩⟩
      · rintro ⟨a, b⟩
        simp only [List.mem_cons, forall_eq_or_imp] at b
        exact ⟨a, b.2⟩
/-- the least: below what is below all -/
theorem le_minL {z : T} {ts : List T} : tle z (minL ts) = true ↔ ∀ x ∈ ts, tle z x = true := by
  unfold minL
  rw [minL_fold]
  exact ⟨fun h => h.2, fun h => ⟨by cases z <;> rfl, h⟩⟩
theorem minL_eq {a b : T} (h : ∀ z, tle z a = true ↔ tle z b = true) : a = b := tle_antisymm ((h a).mp (tle_refl a)) ((h b).mpr (tle_refl b))
theorem minL_mem_fold : ∀ (ts : List T) (f : T), ts.foldl (fun f x => if tlt x f = true then x else f) f = f ∨ ts.foldl (fun f x => if tlt x f = true then x else f) f ∈ ts
  | [], f => .inl rfl
  | x :: xs, f => by
    rw [List.foldl_cons]
    rcases minL_mem_fold xs (if tlt x f = true then x else f) with h | h
    · rw [h]; split
      · exact .inr (List.mem_cons_self ..)
      · exact .inl rfl
    · exact .inr (List.mem_cons_of_mem _ h)
theorem minL_mem (ts : List T) : minL ts = none ∨ minL ts ∈ ts := minL_mem_fold ts none
theorem le_tadd {z a c : T} : tle z (tadd a c) = true ↔ match c with | none => True | some q => tle (tadd z (some (-q))) a = true := by
  cases a <;> cases c <;> cases z <;> simp [tadd, tle, tlt]
  rename_i a c z
  constructor <;> intro h <;> grind
theorem le_tadd_none {z a c : T} (hz : z = none) : tle z (tadd a c) = true ↔ (c = none ∨ a = none) := by
  subst hz
  cases a <;> cases c <;> simp [tadd, tle, tlt]
theorem minL_tadd (ts : List T) (c : T) : tadd (minL ts) c = minL (ts.map fun t => tadd t c) := by
  refine minL_eq fun z => ?_
  rw [le_tadd, le_minL]
  cases c with
  | none => simp [le_tadd]
  | some q =>
    simp only [List.mem_map, forall_exists_index, and_imp, forall_apply_eq_imp_iff₂]
    rw [le_minL]
    exact ⟨fun h a ha => le_tadd.mpr (h a ha), fun h a ha => le_tadd.mp (h a ha)⟩
theorem tadd_comm (a b : T) : tadd a b = tadd b a := by
  cases a <;> cases b <;> simp [tadd]; exact Rat.add_comm ..
theorem tadd_assoc (a b c : T) : tadd (tadd a b) c = tadd a (tadd b c) := by
  cases a <;> cases b <;> cases c <;> simp [tadd]; exact Rat.add_assoc ..
end
end Pz

set_option Elab.async false
set_option linter.all false
set_option maxRecDepth 100000
set_option maxHeartbeats 1000000
namespace Pz
open PySem L2
noncomputable section
namespace I
theorem isi_non_tuple  : fIsi [.non, .raw (.ty "tuple")] = some (.bl false) := by
  show (kitB "NoneType" "tuple").map D.bl = _
  have : kitB "NoneType" "tuple" = some false := by decide +kernel
  rw [this]; rfl
theorem isi_non_list  : fIsi [.non, .raw (.ty "list")] = some (.bl false) := by
  show (kitB "NoneType" "list").map D.bl = _
  have : kitB "NoneType" "list" = some false := by decide +kernel
  rw [this]; rfl
theorem isi_non_bool  : fIsi [.non, .raw (.ty "bool")] = some (.bl false) := by
  show (kitB "NoneType" "bool").map D.bl = _
  have : kitB "NoneType" "bool" = some false := by decide +kernel
  rw [this]; rfl
theorem isi_non_int  : fIsi [.non, .raw (.ty "int")] = some (.bl false) := by
  show (kitB "NoneType" "int").map D.bl = _
  have : kitB "NoneType" "int" = some false := by decide +kernel
  rw [this]; rfl
theorem isi_non_str  : fIsi [.non, .raw (.ty "str")] = some (.bl false) := by
  show (kitB "NoneType" "str").map D.bl = _
  have : kitB "NoneType" "str" = some false := by decide +kernel
  rw [this]; rfl
theorem isi_bl_tuple {b : Bool} : fIsi [.bl b, .raw (.ty "tuple")] = some (.bl false) := by
  show (kitB "bool" "tuple").map D.bl = _
  have : kitB "bool" "tuple" = some false := by decide +kernel
  rw [this]; rfl
theorem isi_bl_list {b : Bool} : fIsi [.bl b, .raw (.ty "list")] = some (.bl false) := by
  show (kitB "bool" "list").map D.bl = _
  have : kitB "bool" "list" = some false := by decide +kernel
  rw [this]; rfl
theorem isi_bl_bool {b : Bool} : fIsi [.bl b, .raw (.ty "bool")] = some (.bl true) := by
  show (kitB "bool" "bool").map D.bl = _
  have : kitB "bool" "bool" = some true := by decide +kernel
  rw [this]; rfl
theorem isi_bl_int {b : Bool} : fIsi [.bl b, .raw (.ty "int")] = some (.bl true) := by
  show (kitB "bool" "int").map D.bl = _
  have : kitB "bool" "int" = some true := by decide +kernel
  rw [this]; rfl
theorem isi_bl_str {b : Bool} : fIsi [.bl b, .raw (.ty "str")] = some (.bl false) := by
  show (kitB "bool" "str").map D.bl = _
  have : kitB "bool" "str" = some false := by decide +kernel
  rw [this]; rfl
theorem isi_int_tuple {i : Int} : fIsi [.int i, .raw (.ty "tuple")] = some (.bl false) := by
  show (kitB "int" "tuple").map D.bl = _
  have : kitB "int" "tuple" = some false := by decide +kernel
  rw [this]; rfl
theorem isi_int_list {i : Int} : fIsi [.int i, .raw (.ty "list")] = some (.bl false) := by
  show (kitB "int" "list").map D.bl = _
  have : kitB "int" "list" = some false := by decide +kernel
  rw [this]; rfl
theorem isi_int_bool {i : Int} : fIsi [.int i, .raw (.ty "bool")] = some (.bl false) := by
  show (kitB "int" "bool").map D.bl = _
  have : kitB "int" "bool" = some false := by decide +kernel
  rw [this]; rfl
theorem isi_int_int {i : Int} : fIsi [.int i, .raw (.ty "int")] = some (.bl true) := by
  show (kitB "int" "int").map D.bl = _
  have : kitB "int" "int" = some true := by decide +kernel
  rw [this]; rfl
theorem isi_int_str {i : Int} : fIsi [.int i, .raw (.ty "str")] = some (.bl false) := by
  show (kitB "int" "str").map D.bl = _
  have : kitB "int" "str" = some false := by decide +kernel
  rw [this]; rfl
theorem isi_str_tuple {x : Str} : fIsi [.str x, .raw (.ty "tuple")] = some (.bl false) := by
  show (kitB "str" "tuple").map D.bl = _
  have : kitB "str" "tuple" = some false := by decide +kernel
  rw [this]; rfl
theorem isi_str_list {x : Str} : fIsi [.str x, .raw (.ty "list")] = some (.bl false) := by
  show (kitB "str" "list").map D.bl = _
  have : kitB "str" "list" = some false := by decide +kernel
  rw [this]; rfl
theorem isi_str_bool {x : Str} : fIsi [.str x, .raw (.ty "bool")] = some (.bl false) := by
  show (kitB "str" "bool").map D.bl = _
  have : kitB "str" "bool" = some false := by decide +kernel
  rw [this]; rfl
theorem isi_str_int {x : Str} : fIsi [.str x, .raw (.ty "int")] = some (.bl false) := by
  show (kitB "str" "int").map D.bl = _
  have : kitB "str" "int" = some false := by decide +kernel
  rw [this]; rfl
theorem isi_str_str {x : Str} : fIsi [.str x, .raw (.ty "str")] = some (.bl true) := by
  show (kitB "str" "str").map D.bl = _
  have : kitB "str" "str" = some true := by decide +kernel
  rw [this]; rfl
theorem isi_tup_tuple {xs : List D} : fIsi [.tup xs, .raw (.ty "tuple")] = some (.bl true) := by
  show (kitB "tuple" "tuple").map D.bl = _
  have : kitB "tuple" "tuple" = some true := by decide +kernel
  rw [this]; rfl
theorem isi_tup_list {xs : List D} : fIsi [.tup xs, .raw (.ty "list")] = some (.bl false) := by
  show (kitB "tuple" "list").map D.bl = _
  have : kitB "tuple" "list" = some false := by decide +kernel
  rw [this]; rfl
theorem isi_tup_bool {xs : List D} : fIsi [.tup xs, .raw (.ty "bool")] = some (.bl false) := by
  show (kitB "tuple" "bool").map D.bl = _
  have : kitB "tuple" "bool" = some false := by decide +kernel
  rw [this]; rfl
theorem isi_tup_int {xs : List D} : fIsi [.tup xs, .raw (.ty "int")] = some (.bl false) := by
  show (kitB "tuple" "int").map D.bl = _
  have : kitB "tuple" "int" = some false := by decide +kernel
  rw [this]; rfl
theorem isi_tup_str {xs : List D} : fIsi [.tup xs, .raw (.ty "str")] = some (.bl false) := by
  show (kitB "tuple" "str").map D.bl = _
  have : kitB "tuple" "str" = some false := by decide +kernel
  rw [this]; rfl
theorem isi_lst_tuple {o : Bool} {xs : List D} : fIsi [.lst o xs, .raw (.ty "tuple")] = some (.bl false) := by
  show (kitB "list" "tuple").map D.bl = _
  have : kitB "list" "tuple" = some false := by decide +kernel
  rw [this]; rfl
theorem isi_lst_list {o : Bool} {xs : List D} : fIsi [.lst o xs, .raw (.ty "list")] = some (.bl true) := by
  show (kitB "list" "list").map D.bl = _
  have : kitB "list" "list" = some true := by decide +kernel
  rw [this]; rfl
theorem isi_lst_bool {o : Bool} {xs : List D} : fIsi [.lst o xs, .raw (.ty "bool")] = some (.bl false) := by
  show (kitB "list" "bool").map D.bl = _
  have : kitB "list" "bool" = some false := by decide +kernel
  rw [this]; rfl
theorem isi_lst_int {o : Bool} {xs : List D} : fIsi [.lst o xs, .raw (.ty "int")] = some (.bl false) := by
  show (kitB "list" "int").map D.bl = _
  have : kitB "list" "int" = some false := by decide +kernel
  rw [this]; rfl
theorem isi_lst_str {o : Bool} {xs : List D} : fIsi [.lst o xs, .raw (.ty "str")] = some (.bl false) := by
  show (kitB "list" "str").map D.bl = _
  have : kitB "list" "str" = some false := by decide +kernel
  rw [this]; rfl
theorem isi_scr_tuple {ns : List Int} : fIsi [.scr ns, .raw (.ty "tuple")] = some (.bl false) := by
  show (kitB "list" "tuple").map D.bl = _
  have : kitB "list" "tuple" = some false := by decide +kernel
  rw [this]; rfl
theorem isi_scr_list {ns : List Int} : fIsi [.scr ns, .raw (.ty "list")] = some (.bl true) := by
  show (kitB "list" "list").map D.bl = _
  have : kitB "list" "list" = some true := by decide +kernel
  rw [this]; rfl
theorem isi_scr_bool {ns : List Int} : fIsi [.scr ns, .raw (.ty "bool")] = some (.bl false) := by
  show (kitB "list" "bool").map D.bl = _
  have : kitB "list" "bool" = some false := by decide +kernel
  rw [this]; rfl
theorem isi_scr_int {ns : List Int} : fIsi [.scr ns, .raw (.ty "int")] = some (.bl false) := by
  show (kitB "list" "int").map D.bl = _
  have : kitB "list" "int" = some false := by decide +kernel
  rw [this]; rfl
theorem isi_scr_str {ns : List Int} : fIsi [.scr ns, .raw (.ty "str")] = some (.bl false) := by
  show (kitB "list" "str").map D.bl = _
  have : kitB "list" "str" = some false := by decide +kernel
  rw [this]; rfl
end I
theorem dEq_bl {i j : Bool} : dEq (.bl i) (.bl j) = some (.bl (decide (i = j))) := by
  unfold dEq; rw [if_pos ⟨shp_bl, shp_bl⟩]; cases i <;> cases j <;> rfl
theorem dNe_bl {i j : Bool} : dNe (.bl i) (.bl j) = some (.bl (!decide (i = j))) := by
  unfold dNe; rw [if_pos ⟨shp_bl, shp_bl⟩]; cases i <;> cases j <;> rfl
theorem dIsN_non : dIsN .non .non = some (.bl true) := rfl
theorem dIsN_bl {b : Bool} : dIsN (.bl b) .non = some (.bl false) := rfl
theorem dIsN_int {b : Int} : dIsN (.int b) .non = some (.bl false) := rfl
theorem dIsN_str {b : Str} : dIsN (.str b) .non = some (.bl false) := rfl
theorem dIsN_tup {b : List D} : dIsN (.tup b) .non = some (.bl false) := rfl
theorem dIsN_lst {o : Bool} {b : List D} : dIsN (.lst o b) .non = some (.bl false) := rfl
mutual
def D.dep : D → Nat
  | .tup xs => D.deps xs + 1
  | .lst _ xs => D.deps xs + 1
  | .scr _ => 1
  | _ => 0
def D.deps : List D → Nat
  | [] => 0
  | x :: xs => max x.dep (D.deps xs)
end
mutual
/-- made of numbers, booleans, words, None, tuples and frozen lists, no longer than a million -/
def D.nice : D → Bool
  | .tup xs => D.nices xs && decide (xs.length ≤ 1000000)
  | .lst o xs => !o && (D.nices xs && decide (xs.length ≤ 1000000))
  | .str x => (D.str x).py.canLay0
  | .non | .bl _ | .int _ => true
  | .scr _ | .raw _ | .dct _ _ _ => false
def D.nices : List D → Bool
  | [] => true
  | x :: xs => x.nice && D.nices xs
end
theorem D.nices_all : ∀ xs : List D, D.nices xs = xs.all D.nice
  | [] => rfl
  | x :: xs => by simp [D.nices, D.nices_all xs]
theorem D.deps_le {n : Nat} : ∀ {xs : List D}, D.deps xs ≤ n ↔ ∀ x ∈ xs, x.dep ≤ n
  | [] => by simp [D.deps]
  | x :: xs => by simp only [D.deps, Nat.max_le, D.deps_le (xs := xs), List.mem_cons, forall_eq_or_imp]
mutual
theorem D.nice_pure : ∀ {d : D}, d.nice = true → d.pure = true ∧ d.fz = d
  | .non, _ | .bl _, _ | .int _, _ | .str _, _ => ⟨rfl, rfl⟩
  | .tup xs, h => by
    simp only [D.nice, Bool.and_eq_true] at h
    obtain ⟨a, b⟩ := D.nices_pure h.1
    exact ⟨by simpa [D.pure] using a, by simp [D.fz, b]⟩
  | .lst o xs, h => by
    simp only [D.nice, Bool.and_eq_true] at h
    obtain ⟨a, b⟩ := D.nices_pure h.2.1
    cases o
    · exact ⟨by simpa [D.pure] using a, by simp [D.fz, b]⟩
    · simp at h
theorem D.nices_pure : ∀ {ds : List D}, D.nices ds = true → D.pures ds = true ∧ D.fzs ds = ds
  | [], _ => ⟨rfl, rfl⟩
  | x :: xs, h => by
    simp only [D.nices, Bool.and_eq_true] at h
    obtain ⟨a, b⟩ := D.nice_pure h.1
    obtain ⟨c, d⟩ := D.nices_pure h.2
    exact ⟨by simp [D.pures, a, c], by simp [D.fzs, b, d]⟩
end
mutual
theorem D.nice_lay : ∀ {d : D}, d.nice = true → d.py.canLay0 = true ∧ d.py.depth ≤ d.dep + 1
  | .non, _ | .bl _, _ | .int _, _ => by simp [D.py, PyData.canLay0, PyData.depth]
  | .str x, h => ⟨h, by simp [D.py, PyData.depth]⟩
  | .tup xs, h => by
    simp only [D.nice, Bool.and_eq_true] at h
    obtain ⟨a, b⟩ := D.nices_lay h.1
    simp only [D.py, PyData.canLay0, a, PyData.depth, D.dep, true_and]
    omega
  | .lst o xs, h => by
    simp only [D.nice, Bool.and_eq_true] at h
    obtain ⟨a, b⟩ := D.nices_lay h.2.1
    simp only [D.py, PyData.canLay0, a, PyData.depth, D.dep, true_and]
    omega
theorem D.nices_lay : ∀ {ds : List D}, D.nices ds = true → PyData.canLayAll0 (D.pys ds) = true ∧ PyData.depthAll (D.pys ds) ≤ D.deps ds + 1
  | [], _ => by simp [D.pys, PyData.canLayAll0, PyData.depthAll]
  | x :: xs, h => by
    simp only [D.nices, Bool.and_eq_true] at h
    obtain ⟨a, b⟩ := D.nice_lay h.1
    obtain ⟨c, d⟩ := D.nices_lay h.2
    simp only [D.pys, PyData.canLayAll0, a, c, PyData.depthAll, D.deps, Bool.and_self, true_and]
    omega
end
theorem D.nice_shp {d : D} (h : d.nice = true) (k : d.dep ≤ 60) : shp d = true := by
  obtain ⟨a, b⟩ := D.nice_lay h
  unfold shp SeqAt.shaped
  simp only [a, Bool.true_and, decide_eq_true_eq]
  omega
/-- one among a thing's items -/
theorem D.nice_tup {xs : List D} {x : D} (h : (D.tup xs).nice = true) (m : x ∈ xs) : x.nice = true := by
  simp only [D.nice, Bool.and_eq_true, D.nices_all, List.all_eq_true] at h
  exact h.1 x m
theorem D.nice_lst {o : Bool} {xs : List D} {x : D} (h : (D.lst o xs).nice = true) (m : x ∈ xs) : x.nice = true := by
  simp only [D.nice, Bool.and_eq_true, D.nices_all, List.all_eq_true] at h
  exact h.2.1 x m
theorem D.dep_tup {xs : List D} {x : D} {n : Nat} (h : (D.tup xs).dep ≤ n + 1) (m : x ∈ xs) : x.dep ≤ n := by
  simp only [D.dep] at h
  exact (D.deps_le.mp (by omega : D.deps xs ≤ n)) x m
theorem D.dep_lst {o : Bool} {xs : List D} {x : D} {n : Nat} (h : (D.lst o xs).dep ≤ n + 1) (m : x ∈ xs) : x.dep ≤ n := by
  simp only [D.dep] at h
  exact (D.deps_le.mp (by omega : D.deps xs ≤ n)) x m
theorem D.len_tup {xs : List D} (h : (D.tup xs).nice = true) : xs.length ≤ 1000000 := by
  simp only [D.nice, Bool.and_eq_true, decide_eq_true_eq] at h
  exact h.2
theorem D.len_lst {o : Bool} {xs : List D} (h : (D.lst o xs).nice = true) : xs.length ≤ 1000000 ∧ o = false := by
  simp only [D.nice, Bool.and_eq_true, decide_eq_true_eq] at h
  exact ⟨h.2.2, by cases o <;> simp at h ⊢⟩
theorem rg_of {n : Nat} (h : n ≤ 1000000) : rgOk (n : Int) = true := tst_of (by omega)
end
end Pz

set_option Elab.async false
set_option linter.all false
set_option maxRecDepth 100000
set_option maxHeartbeats 1000000
namespace Pz
open PySem L2
noncomputable section
mutual
def D.wid : D → Nat
  | .tup xs => max xs.length (D.wids xs)
  | .lst _ xs => max xs.length (D.wids xs)
  | _ => 0
def D.wids : List D → Nat
  | [] => 0
  | x :: xs => max x.wid (D.wids xs)
end
theorem D.wids_le {n : Nat} : ∀ {xs : List D}, D.wids xs ≤ n ↔ ∀ x ∈ xs, x.wid ≤ n
  | [] => by simp [D.wids]
  | x :: xs => by simp only [D.wids, Nat.max_le, D.wids_le (xs := xs), List.mem_cons, forall_eq_or_imp]
structure Wl (w h : Nat) (d : D) : Prop where
  nice : d.nice = true
  dep : d.dep ≤ h
  wid : d.wid ≤ w
theorem Wl.mono {w h w' h' : Nat} {d : D} (k : Wl w h d) (hw : w ≤ w') (hh : h ≤ h') : Wl w' h' d := ⟨k.nice, Nat.le_trans k.dep hh, Nat.le_trans k.wid hw⟩
theorem Wl.tup {w h : Nat} {xs : List D} (k : ∀ x ∈ xs, Wl w h x) (hl : xs.length ≤ w) (hw : w ≤ 1000000) : Wl w (h + 1) (.tup xs) := by
  refine ⟨?_, ?_, ?_⟩
  · simp only [D.nice, Bool.and_eq_true, D.nices_all, List.all_eq_true, decide_eq_true_eq]
    exact ⟨fun x hx => (k x hx).nice, by omega⟩
  · simp only [D.dep]
    have := D.deps_le.mpr fun x hx => (k x hx).dep
    omega
  · simp only [D.wid]
    exact Nat.max_le.mpr ⟨hl, D.wids_le.mpr fun x hx => (k x hx).wid⟩
theorem Wl.lst {w h : Nat} {xs : List D} (k : ∀ x ∈ xs, Wl w h x) (hl : xs.length ≤ w) (hw : w ≤ 1000000) : Wl w (h + 1) (.lst false xs) := by
  refine ⟨?_, ?_, ?_⟩
  · simp only [D.nice, Bool.and_eq_true, D.nices_all, List.all_eq_true, decide_eq_true_eq]
    exact ⟨rfl, fun x hx => (k x hx).nice, by omega⟩
  · simp only [D.dep]
    have := D.deps_le.mpr fun x hx => (k x hx).dep
    omega
  · simp only [D.wid]
    exact Nat.max_le.mpr ⟨hl, D.wids_le.mpr fun x hx => (k x hx).wid⟩
theorem Wl.mem {w h : Nat} {xs : List D} (k : Wl w h (.tup xs)) {x : D} (hx : x ∈ xs) : Wl w (h - 1) x ∧ 0 < h := by
  have h1 := k.dep
  have h2 := k.wid
  simp only [D.dep] at h1
  simp only [D.wid, Nat.max_le] at h2
  have := D.deps_le.mp (show D.deps xs ≤ h - 1 by omega) x hx
  exact ⟨⟨D.nice_tup k.nice hx, this, D.wids_le.mp h2.2 x hx⟩, by omega⟩
theorem Wl.len {w h : Nat} {xs : List D} (k : Wl w h (.tup xs)) : xs.length ≤ w := by
  have h2 := k.wid
  simp only [D.wid, Nat.max_le] at h2
  exact h2.1
theorem Wl.fz {w h : Nat} {d : D} (k : Wl w h d) : d.fz = d := (D.nice_pure k.nice).2
theorem Wl.pure {w h : Nat} {d : D} (k : Wl w h d) : d.pure = true := (D.nice_pure k.nice).1
theorem Wl.pures {w h : Nat} {xs : List D} (k : Wl w h (.tup xs)) : D.pures xs = true := by simpa [D.pure] using k.pure
theorem Wl.int {w h : Nat} (i : Int) : Wl w h (.int i) := ⟨rfl, Nat.zero_le _, Nat.zero_le _⟩
theorem Wl.bl {w h : Nat} (i : Bool) : Wl w h (.bl i) := ⟨rfl, Nat.zero_le _, Nat.zero_le _⟩
theorem Wl.non {w h : Nat} : Wl w h .non := ⟨rfl, Nat.zero_le _, Nat.zero_le _⟩
theorem Wl.nil {w h : Nat} : Wl w (h + 1) (.tup []) := ⟨rfl, by simp [D.dep, D.deps], by simp [D.wid, D.wids]⟩
/-- a loop that leaves at the first that fails -/
theorem flF_all {α J : Type} {FT : D → En → Option En} {FB : En → Option (Fl × En)} (f : α → D) (c : α → Bool) (d : D) (st : J → En) :
    ∀ (ys : List α) (j : J), (∀ j y, y ∈ ys → ∃ j', (c y = true → (FT (f y) (st j)).bind FB = some (.nx, st j')) ∧ (c y = false → (FT (f y) (st j)).bind FB = some (.rt d, st j'))) →
      ∃ j', flF FT FB (ys.map f) (st j) = some (if ys.all c = true then (.nx, st j') else (.rt d, st j'))
  | [], j, _ => ⟨j, rfl⟩
  | y :: ys, j, h => by
    obtain ⟨j1, e1, e2⟩ := h j y (List.mem_cons_self ..)
    cases hc : c y with
    | true =>
      obtain ⟨j2, e3⟩ := flF_all f c d st ys j1 fun j z hz => h j z (List.mem_cons_of_mem _ hz)
      refine ⟨j2, ?_⟩
      have e1 := e1 hc
      rw [List.map_cons, flF_cons]
      cases q : FT (f y) (st j) with
      | none => rw [q] at e1; cases e1
      | some e =>
        rw [q] at e1
        simp only [Option.bind_some] at e1 ⊢
        rw [e1]
        simp only [Option.bind_some, flK_nx, e3, List.all_cons, hc, Bool.true_and]
    | false =>
      refine ⟨j1, ?_⟩
      have e2 := e2 hc
      rw [List.map_cons, flF_cons]
      cases q : FT (f y) (st j) with
      | none => rw [q] at e2; cases e2
      | some e =>
        rw [q] at e2
        simp only [Option.bind_some] at e2 ⊢
        rw [e2]
        simp only [Option.bind_some, flK_rt, List.all_cons, hc, Bool.false_and, Bool.false_eq_true, if_false]
/-- the end of a def -/
def fnO (W : List Nat) (n : Nat) : Fl × En → Option (D × En)
  | (.rt d, e) => some (d, (wpE W e).take n)
  | (.nx, e) => some (.non, (wpE W e).take n)
  | _ => none
theorem fnO_rt {W : List Nat} {n : Nat} {d : D} {e : En} : fnO W n (.rt d, e) = some (d, (wpE W e).take n) := rfl
theorem fnO_nx {W : List Nat} {n : Nat} {e : En} : fnO W n (.nx, e) = some (.non, (wpE W e).take n) := rfl
theorem fnF_eq {n m : Nat} {W : List Nat} {FB : En → Option (Fl × En)} {ds : List D} : fnF n m W FB ds = if ds.length = n then (FB (ds.map some ++ List.replicate m none)).bind (fnO W n) else none := by
  unfold fnF
  split
  · congr 1
    funext r
    obtain ⟨f, e⟩ := r
    cases f <;> rfl
  · rfl
/-- cuts -/
theorem cut_to {α : Type} {xs : List α} {k : Nat} (h : k ≤ xs.length) : cutD xs none (some (k : Int)) = xs.take k := by
  unfold cutD
  have e1 : HT.sIx xs.length 0 none = 0 := rfl
  have e2 : HT.sIx xs.length xs.length (some (k : Int)) = k := by
    rw [HT.sIx_nat]; omega
  rw [e1, e2]; simp
theorem cut_from {α : Type} {xs : List α} {k : Nat} (h : k ≤ xs.length) : cutD xs (some (k : Int)) none = xs.drop k := by
  unfold cutD
  have e1 : HT.sIx xs.length 0 (some (k : Int)) = k := by
    rw [HT.sIx_nat]; omega
  have e2 : HT.sIx xs.length xs.length none = xs.length := rfl
  rw [e1, e2]
  exact List.take_of_length_le (by simp)
end
end Pz

set_option Elab.async false
set_option linter.all false
set_option maxRecDepth 100000
set_option maxHeartbeats 1000000
namespace Pz
open PySem L2
noncomputable section

/-! ### the model's side -/
section
variable {P : Program} {w : World}
theorem entI_eq : (entryOfKey (tupleKind (intKind P w)) : List Int × Addr × Value → DictEntry) = entI := by
  funext x; rfl
def valK (kvs : List (List Int × Addr × V)) (k : List Int) : Option V := (kvs.find? fun x => decide (x.1 = k)).map (·.2.2)
def putK3 (kvs : List (List Int × Addr × V)) (k : List Int) (b : Addr) (v : V) : List (List Int × Addr × V) :=
  if (valK kvs k).isSome then kvs.map (fun x => if x.1 = k then (x.1, x.2.1, v) else x) else kvs ++ [(k, b, v)]
theorem valK_pos {p : List Int × Addr × V} {r : List (List Int × Addr × V)} {k : List Int} (e : p.1 = k) : valK (p :: r) k = some p.2.2 := by simp [valK, List.find?_cons, e]
theorem valK_neg {p : List Int × Addr × V} {r : List (List Int × Addr × V)} {k : List Int} (e : ¬ p.1 = k) : valK (p :: r) k = valK r k := by simp [valK, List.find?_cons, e]
theorem PrR.val : ∀ {kvs : List (List Int × Addr × V)} {xs : List (List Int × Addr × Value)}, PrR kvs xs → ∀ k, RelO (valK kvs k) ((atKey xs k).map (·.2))
  | _, _, .nil, k => by simp [valK, atKey, RelO]
  | _, _, .cons (a := p) (b := q) h t, k => by
    by_cases e : p.1 = k
    · have e' : q.1 = k := h.1 ▸ e
      rw [valK_pos e]
      have z : ∀ l, atKey (q :: l) k = some q.2 := fun l => by simp [atKey, List.find?_cons, e']
      rw [z]
      exact h.2.2
    · have e' : ¬ q.1 = k := h.1 ▸ e
      rw [valK_neg e]
      have := PrR.val t k
      have z : ∀ l, atKey (q :: l) k = atKey l k := fun l => by simp [atKey, List.find?_cons, e']
      rw [z]
      exact this
theorem PrR.rep (k : List Int) {v : V} {u : Value} (rv : RelV v u) : ∀ {kvs : List (List Int × Addr × V)} {xs : List (List Int × Addr × Value)}, PrR kvs xs → PrR (kvs.map fun x => if x.1 = k then (x.1, x.2.1, v) else x) (xs.map (putAt k u))
  | _, _, .nil => .nil
  | _, _, .cons (a := p) (b := q) h t => .cons (by
      by_cases e : p.1 = k
      · have e' : q.1 = k := h.1 ▸ e
        simp only [e, e', putAt, if_true]
        exact ⟨by first | trivial | rfl, h.2.1, rv⟩
      · have e' : ¬ q.1 = k := h.1 ▸ e
        simp only [e, e', putAt, if_false]
        exact h) (PrR.rep k rv t)
theorem PrR.snoc {k : List Int} {b : Addr} {v : V} {u : Value} (rv : RelV v u) : ∀ {kvs : List (List Int × Addr × V)} {xs : List (List Int × Addr × Value)}, PrR kvs xs → PrR (kvs ++ [(k, b, v)]) (xs ++ [(k, b, u)])
  | _, _, .nil => .cons ⟨rfl, rfl, rv⟩ .nil
  | _, _, .cons h t => .cons h (PrR.snoc rv t)
theorem PrR.put {kvs : List (List Int × Addr × V)} {xs : List (List Int × Addr × Value)} (r : PrR kvs xs) (k : List Int) (b : Addr) {v : V} {u : Value} (rv : RelV v u) : PrR (putK3 kvs k b v) (storedH xs k b u) := by
  have e := (r.val k).isSome_eq
  rw [Option.isSome_map] at e
  unfold putK3 storedH
  rw [e]
  split
  · exact r.rep k rv
  · exact r.snoc rv
theorem length_putK3 (kvs : List (List Int × Addr × V)) (k : List Int) (b : Addr) (v : V) : (putK3 kvs k b v).length ≤ kvs.length + 1 := by
  unfold putK3; split <;> simp
end
section
variable {X : Cx} {pins : List (Addr × Obj)} {σ : St} {H : Hp} {s : Shared} {a b : Addr} {kvs : List (List Int × Addr × V)} {k : List Int} {A : Around} {E : Value → Shared → Prop}
theorem items_int : ∀ {ks : List Int} {us : List Value}, Vals (ks.map V.int) us → PySem.ItemsAre (intKind X.prog X.w) ks us
  | [], _, .nil => .nil
  | k :: ks, _, .cons h t => by
    obtain ⟨tk, rfl⟩ := h
    exact .cons (by simp [intKind, Value.isInt]) (items_int t)
theorem kv_key (I : Inv X pins σ H s) (h : SqT X.K H b (k.map V.int)) : (tupleKind (intKind X.prog X.w)).is s.heap k b := by
  obtain ⟨its, rv, hT, _⟩ := I.tuple h
  obtain ⟨o, h1, h2, n, h3⟩ := hT
  exact ⟨o, its.toArray, n, h1, h2, h3, by simpa using items_int rv⟩
def KeysIn (K : PySem.W.Frag) (H : Hp) (kvs : List (List Int × Addr × V)) : Prop := ∀ x ∈ kvs, SqT K H x.2.1 (x.1.map V.int)
theorem prR_keys : ∀ {kvs : List (List Int × Addr × V)} {xs : List (List Int × Addr × Value)}, PrR kvs xs → ∀ x ∈ xs, ∃ p ∈ kvs, p.1 = x.1 ∧ p.2.1 = x.2.1
  | _, _, .cons h t, x, hx => by
    rcases List.mem_cons.mp hx with e | hx
    · subst e; exact ⟨_, List.mem_cons_self .., h.1, h.2.1⟩
    · obtain ⟨p, hp, e⟩ := prR_keys t x hx
      exact ⟨p, List.mem_cons_of_mem _ hp, e⟩
theorem kv_at (I : Inv X pins σ H s) (e : H a = some (kvO a kvs)) (hk : KeysIn X.K H kvs) : kvs.length ≤ sizeLine ∧ (a == sysModules) = false ∧ ∃ xs, PrR kvs xs ∧ s.heap.DictOfH (tupleKind (intKind X.prog X.w)) a xs := by
  obtain ⟨⟨z, y, xs, r, o, es, ep, h1, h2, h3, h4, h5⟩, _⟩ := I.hok a _ e
  refine ⟨z, y, xs, r, o, es, ep, h1, h2, h3, by rw [entI_eq]; exact h4, fun x hx => ?_, h5⟩
  obtain ⟨p, hp, e1, e2⟩ := prR_keys r x hx
  rw [← e1, ← e2]
  exact kv_key I (hk p hp)
theorem kv_ok {P : Program} {w : World} {H : Hp} {h : Heap} {xs : List (List Int × Addr × Value)} (z : kvs.length ≤ sizeLine) (y : (a == sysModules) = false) (r : PrR kvs xs) (dd : h.DictOfH (tupleKind (intKind P w)) a xs) : ObjOk P w H h a (kvO a kvs) := by
  obtain ⟨o, es, ep, h1, h2, h3, h4, _, h5⟩ := dd
  rw [entI_eq] at h4
  refine ⟨⟨z, y, xs, r, o, es, ep, h1, h2, h3, h4, h5⟩, ⟨o, h1⟩, ?_⟩
  rintro g1 g2 ⟨z, y, xs, r, o, es, ep, h1, h2⟩ k
  exact ⟨z, y, xs, r, o, es, ep, k _ h1, h2⟩
end

/-! ### what d[k], k in d, d[k] = v ask -/
def rKv (K : PySem.W.Frag) : R2 := fun x y H Q => ∃ a kvs k b v, x = .ref a ∧ y = .ref b ∧ H a = some (kvO a kvs) ∧ KeysIn K H kvs ∧ SqT K H b (k.map V.int) ∧ valK kvs k = some v ∧ Q v H
def rKin (K : PySem.W.Frag) : R2 := fun y x H Q => ∃ a kvs k b, x = .ref a ∧ y = .ref b ∧ H a = some (kvO a kvs) ∧ KeysIn K H kvs ∧ SqT K H b (k.map V.int) ∧ Q (.bl (valK kvs k).isSome) H
def rKnin (K : PySem.W.Frag) : R2 := fun y x H Q => ∃ a kvs k b, x = .ref a ∧ y = .ref b ∧ H a = some (kvO a kvs) ∧ KeysIn K H kvs ∧ SqT K H b (k.map V.int) ∧ Q (.bl (!(valK kvs k).isSome)) H
section
variable {X : Cx}
theorem ix_kv (hu : X.A.units + 1 < cLine) : IxR X (rKv X.K) := by
  intro value slice pins s σ H x y v u Q I rx ry h hs
  obtain ⟨a, kvs, k, b, z, rfl, rfl, he, hk, hb, hv, q⟩ := h
  cases rx
  cases ry
  obtain ⟨_, hd, xs, rel, dd⟩ := kv_at I he hk
  have rl := rel.val k
  rw [hv] at rl
  cases hw : atKey xs k with
  | none => rw [hw] at rl; exact rl.elim
  | some p =>
    rw [hw] at rl
    exact PyProof.Rows.subscriptTail_builtinR (x := p.2) dd.typeIs PySem.F.slot_dict_getitem.lookup
      (wpAny_getItem_heap (tupleKind_room_in1 hu) (kv_key I hb) dd hw ⟨rfl, z, H, I.tok _, rl, q⟩) hs
theorem op_kin (hu : X.A.units + 1 < cLine) : OpR X (compareOp .In) (rKin X.K) := by
  intro pins s σ H x y v u Q I rx ry h
  obtain ⟨a, kvs, k, b, rfl, rfl, he, hk, hb, q⟩ := h
  cases rx
  cases ry
  obtain ⟨_, hd, xs, rel, dd⟩ := kv_at I he hk
  have rl := (rel.val k).isSome_eq
  rw [Option.isSome_map] at rl
  refine wpAny_in_heap (tupleKind_room_in1 hu) (kv_key I hb) hd dd ?_
  rw [← rl]
  exact ⟨.bl (valK kvs k).isSome, H, I.tok _, rfl, q⟩
theorem op_knin (hu : X.A.units + 1 < cLine) : OpR X (compareOp .NotIn) (rKnin X.K) := by
  intro pins s σ H x y v u Q I rx ry h
  obtain ⟨a, kvs, k, b, rfl, rfl, he, hk, hb, q⟩ := h
  cases rx
  cases ry
  obtain ⟨_, hd, xs, rel, dd⟩ := kv_at I he hk
  have rl := (rel.val k).isSome_eq
  rw [Option.isSome_map] at rl
  refine PyProof.Rows.wpAny_notIn_heap (tupleKind_room_in1 hu) (kv_key I hb) hd dd ?_
  rw [← rl]
  exact ⟨.bl (!(valK kvs k).isSome), H, I.tok _, rfl, q⟩
variable {o i value e f : Expr} {pos pos' apos cpos : Pos} {td ty tv tx : TE}
def sKput (K : PySem.W.Frag) (td ty tv : TE) : TS := fun D σ H => tv σ H fun v H1 => td σ H1 fun x H2 => ty σ H2 fun y H3 => ∃ a kvs k b, x = .ref a ∧ y = .ref b ∧ H3 a = some (kvO a kvs) ∧ KeysIn K H3 kvs ∧ SqT K H3 b (k.map V.int) ∧ kvs.length < sizeLine ∧ D.nx σ (upd H3 a (kvO a (putK3 kvs k b v)))
theorem ps_kput (hu : X.A.units + 1 < cLine) (ho : PE X o td) (hi : PE X i ty) (hv : PE X value tv) (hs : swapsWith value (some (.Subscript o i pos')) pos.line X.env = pure false) :
    PS X (.Assign [.Subscript o i pos'] value pos) (sKput X.K td ty tv) := by
  refine ⟨fun pins s σ H D I h => ?_⟩
  refine wpAny_Assign_Subscript (thn (hv.run pins s σ H _ I h) fun r s1 ⟨v, H1, I1, rv, q1⟩ => thn (ho.run pins s1 σ H1 _ I1 q1) fun u s2 ⟨x, H2, I2, rx, q2⟩ => thn (hi.run pins s2 σ H2 _ I2 q2) fun iv s3 ⟨y, H3, I3, ry, a, kvs, k, b, ex, ey, he, hk, hb, hl, q3⟩ => ?_) hs
  subst ex ey
  obtain rfl : u = Value.ref a := rx
  obtain rfl : iv = Value.ref b := ry
  obtain ⟨z, hd, xs, rel, dd⟩ := kv_at I3 he hk
  have hz : xs.length ≤ sizeLine := by rw [← Paired.length rel]; exact z
  have hl2 : (putK3 kvs k b v).length ≤ sizeLine := by have := length_putK3 kvs k b v; omega
  refine wpAny_setItem_heap (hsz := hz) (tupleKind_room_in1 hu) (kv_key I3 hb) dd fun h' dd' hs => ?_
  have hq : ∃ q, h'.get? a = some q := let ⟨q, _, _, hq, _⟩ := dd'; ⟨q, hq⟩
  exact ⟨σ, _, d_write I3 (by rw [he]; exact True.intro) hs hq (kv_ok hl2 hd (rel.put k b rv) dd'), q3⟩
def tKget2 (K : PySem.W.Frag) (td ty tx : TE) : TE := fun σ H Q => td σ H fun x H1 => ∃ a kvs, x = .ref a ∧ H1 a = some (kvO a kvs) ∧ KeysIn K H1 kvs ∧ ty σ H1 fun y H2 => tx σ H2 fun z H3 => ∃ kvs k b, H3 a = some (kvO a kvs) ∧ KeysIn K H3 kvs ∧ y = .ref b ∧ SqT K H3 b (k.map V.int) ∧ Q ((valK kvs k).getD z) H3
theorem pe_kget2 (hu : X.A.units + 1 < cLine) (ho : PE X o td) (he : PE X e ty) (hf : PE X f tx) (m : M2 X o "get" apos e f cpos) : PE X (.Call (.Attribute o "get" apos) [e, f] [] cpos) (tKget2 X.K td ty tx) := by
  refine ⟨fun pins s σ H Q I h => ?_⟩
  refine wpAny_Call_method m.base m.few m.line PySem.F.plainAttrs_dict PySem.F.slot_dict_get PySem.F.type_dict_get (thn (ho.run pins s σ H _ I h) fun u s1 ⟨x, H1, I1, rx, a, kvs, ex, hd, hk, q1⟩ => ?_)
  subst ex
  obtain rfl : u = Value.ref a := rx
  obtain ⟨_, _, xs, _, dd⟩ := kv_at I1 hd hk
  refine ⟨dd.typeIs, fun b q => by cases q; obtain ⟨ob, _, _, h1, h2, _⟩ := dd; exact ⟨ob, h1, h2.2.1⟩, ?_⟩
  rw [m.trees]
  refine Calls.callWith_builtin rfl (Calls.evalArgs_plain (Calls.spliced_cons (thn (he.run pins s1 σ H1 _ I1 q1) fun iv s2 ⟨y, H2, I2, ry, q2⟩ =>
    Calls.spliced_cons (thn (hf.run pins s2 σ H2 _ I2 q2) fun fv s3 ⟨z, H3, I3, rz, kvs3, k, b, hd3, hk3, ey, hb, q3⟩ => Calls.spliced_nil ?_))))
  subst ey
  obtain rfl : iv = Value.ref b := ry
  obtain ⟨_, hm, xs3, rel, dd3⟩ := kv_at I3 hd3 hk3
  refine call_meetsIn PySem.F.slot_dict_get dd3.typeIs PySem.F.entry_dict_get (PySem.F.args_dict_get_3 _ _ _) (meetsH_dict_get_default (tupleKind (intKind X.prog X.w)) a b hm fv) ⟨tupleKind_room_in1 hu, k, xs3, kv_key I3 hb, dd3, _, H3, I3.tok _, (rel.val k).getD rz, q3⟩
theorem kv_empty {P : Program} {w : World} {H : Hp} (h : Heap) (hb : sysModules < h.objs.size) : ObjOk P w H (h.push { cls := .type "dict", data := .dict #[] }) h.objs.size (kvO h.objs.size []) :=
  kv_ok (Nat.zero_le _) (beq_eq_false_iff_ne.mpr (Ne.symm (Nat.ne_of_lt hb))) .nil (Heap.DictOfH.new h)
theorem pe_knew : PE X (.Dict [] [] pos) (fun _ H Q => ∀ p, H p = none → Q (.ref p) (upd H p (kvO p []))) := ⟨fun pins s σ H Q I h =>
  wpAny_Dict_empty ⟨.ref s.heap.objs.size, _, I.laid (a := s.heap.objs.size) (o := kvO s.heap.objs.size []) (t' := s.toks) (fun _ _ q => Heap.get?_push_of_some _ q) (Nat.le_refl _) (kv_empty s.heap I.big), rfl, h _ (I.hok.fresh (Nat.le_refl _))⟩⟩
end
end
end Pz

set_option Elab.async false
set_option linter.all false
set_option maxRecDepth 100000
set_option maxHeartbeats 1000000
namespace Pz
open PySem L2
noncomputable section
def keyOf : D → Option (List Int)
  | .tup xs => intsOf xs
  | _ => none
def lookD : List (List Int) → List D → List Int → Option D
  | k' :: ks, d :: ds, k => if k' = k then some d else lookD ks ds k
  | _, _, _ => none
def putDs : List (List Int) → List D → List Int → D → List D
  | k' :: ks, d' :: ds, k, d => (if k' = k then d else d') :: putDs ks ds k d
  | _, ds, _, _ => ds
def dKx : D → D → Option D
  | .dct _ ks ds, y => (keyOf y).bind fun k => lookD ks ds k
  | _, _ => none
def dKin : D → D → Option D
  | y, .dct _ ks _ => (keyOf y).map fun k => .bl (decide (k ∈ ks))
  | _, _ => none
def dKnin : D → D → Option D
  | y, .dct _ ks _ => (keyOf y).map fun k => .bl (!decide (k ∈ ks))
  | _, _ => none
section
variable {K : PySem.W.Frag} {G H G' H' : Hp}
theorem Rp.dct_inv {o : Bool} {ks : List (List Int)} {ds : List D} {v : V} {L : List Addr} (l : Le G H) (r : Rp K G H (.dct o ks ds) v L) : ∃ a kvs, v = .ref a ∧ H a = some (kvO a kvs) ∧ kvs.map (·.1) = ks ∧ KeysIn K G kvs ∧ Rps K G H ds (kvs.map (·.2.2)) [] := by
  cases r with
  | dctF h ek hk hs => exact ⟨_, _, rfl, l _ _ h, ek, hk, hs⟩
  | dctO n h ek hk hs => exact ⟨_, _, rfl, h, ek, hk, hs⟩
theorem KeysIn.le {kvs : List (List Int × Addr × V)} (h : KeysIn K G kvs) (l : Le G H) : KeysIn K H kvs := fun x hx => l.sqT (h x hx)
theorem Rp.key_inv {y : D} {k : List Int} {v : V} {L : List Addr} (e : keyOf y = some k) (r : Rp K G H y v L) : ∃ b, v = .ref b ∧ SqT K G b (k.map V.int) ∧ L = [] := by
  unfold keyOf at e
  split at e
  · rename_i xs
    obtain rfl := intsOf_eq e
    obtain ⟨b, vs, rfl, s, q⟩ := r.tup_inv
    obtain ⟨rfl, rfl⟩ := q.ints_inv
    exact ⟨b, rfl, s, rfl⟩
  · cases e
theorem Rps.cons0 {d : D} {ds : List D} {vs : List V} (r : Rps K G H (d :: ds) vs []) : ∃ v ws, vs = v :: ws ∧ Rp K G H d v [] ∧ Rps K G H ds ws [] := by
  generalize e : ([] : List Addr) = L at r
  cases r with
  | @cons d v ds ws L1 L2 h hs =>
    obtain ⟨rfl, rfl⟩ := List.append_eq_nil_iff.mp e.symm
    exact ⟨v, ws, rfl, h, hs⟩
theorem rps_look {k : List Int} {d : D} : ∀ {kvs : List (List Int × Addr × V)} {ds : List D}, Rps K G H ds (kvs.map (·.2.2)) [] → lookD (kvs.map (·.1)) ds k = some d → ∃ v, valK kvs k = some v ∧ Rp K G H d v []
  | [], _, _, e => by simp [lookD] at e
  | p :: kvs, [], r, e => by simp [lookD] at e
  | p :: kvs, d' :: ds, r, e => by
    obtain ⟨v, ws, e1, h, hs⟩ := r.cons0
    simp only [List.map_cons, List.cons.injEq] at e1
    obtain ⟨rfl, rfl⟩ := e1
    simp only [List.map_cons, lookD] at e
    split at e
    · rename_i hk
      cases e
      exact ⟨_, valK_pos hk, h⟩
    · rename_i hk
      obtain ⟨v, h1, h2⟩ := rps_look hs e
      exact ⟨v, by rw [valK_neg hk]; exact h1, h2⟩
theorem valK_mem {k : List Int} : ∀ {kvs : List (List Int × Addr × V)}, (valK kvs k).isSome = decide (k ∈ kvs.map (·.1))
  | [] => by simp [valK]
  | p :: kvs => by
    by_cases h : p.1 = k
    · rw [valK_pos h]; simp [h]
    · rw [valK_neg h, valK_mem]
      have : ¬ k = p.1 := fun e => h e.symm
      simp [this]
theorem lookD_none {k : List Int} : ∀ {ks : List (List Int)} {ds : List D}, k ∉ ks → lookD ks ds k = none
  | [], _, _ => rfl
  | _ :: _, [], _ => rfl
  | k' :: ks, d :: ds, h => by
    simp only [List.mem_cons, not_or] at h
    rw [lookD, if_neg fun e => h.1 e.symm, lookD_none h.2]
theorem rps_len {kvs : List (List Int × Addr × V)} {ds : List D} (r : Rps K G H ds (kvs.map (·.2.2)) []) : ds.length = kvs.length := by
  have := r.length; simpa using this
theorem o2_kx : Op2 K (rKv K) dKx := by
  intro G H a b c x y La Lb Q l ra rb e k
  unfold dKx at e
  split at e
  · cases q : keyOf b with
    | none => rw [q] at e; cases e
    | some kk =>
      rw [q] at e
      simp only [Option.bind_some] at e
      obtain ⟨p, kvs, rfl, hp, rfl, hk, hs⟩ := ra.dct_inv l
      obtain ⟨bb, rfl, hb, _⟩ := rb.key_inv q
      obtain ⟨v, h1, h2⟩ := rps_look hs e
      exact ⟨p, kvs, kk, bb, v, rfl, rfl, hp, hk.le l, l.sqT hb, h1, fin l k (h2.un)⟩
  · cases e
theorem o2_kin : Op2 K (rKin K) dKin := by
  intro G H b a c y x Lb La Q l rb ra e k
  unfold dKin at e
  split at e
  · cases q : keyOf b with
    | none => rw [q] at e; cases e
    | some kk =>
      rw [q] at e
      cases e
      obtain ⟨p, kvs, rfl, hp, rfl, hk, hs⟩ := ra.dct_inv l
      obtain ⟨bb, rfl, hb, _⟩ := rb.key_inv q
      refine ⟨p, kvs, kk, bb, rfl, rfl, hp, hk.le l, l.sqT hb, ?_⟩
      rw [valK_mem]
      exact fin l k (.bl _)
  · cases e
theorem o2_knin : Op2 K (rKnin K) dKnin := by
  intro G H b a c y x Lb La Q l rb ra e k
  unfold dKnin at e
  split at e
  · cases q : keyOf b with
    | none => rw [q] at e; cases e
    | some kk =>
      rw [q] at e
      cases e
      obtain ⟨p, kvs, rfl, hp, rfl, hk, hs⟩ := ra.dct_inv l
      obtain ⟨bb, rfl, hb, _⟩ := rb.key_inv q
      refine ⟨p, kvs, kk, bb, rfl, rfl, hp, hk.le l, l.sqT hb, ?_⟩
      rw [valK_mem]
      exact fin l k (.bl _)
  · cases e
end
section
variable {X : Cx} {a b o e f : Expr} {FA FB FC : En → Option (D × En)} {o1 o2 o3 s1 s2 s3 : Bool} {pos apos cpos pos' : Pos}
theorem ev_kget (hu : X.A.units + 1 < cLine) (ha : Ev X o1 s1 a FA) (hb : Ev X o2 s2 b FB) (hs : PlainIx b) (hm : o1 = true ∨ s2 = true := by first | exact .inl rfl | exact .inr rfl) : Ev X true (s1 && s2) (.Subscript a b pos) (b2 dKx FA FB) :=
  peM (pe_ix (ix_kv hu) ha hb hs) (op2_lift o2_kx hm)
theorem ev_knew : Ev X true true (.Dict [] [] pos) (cF (.dct true [] [])) := peM pe_knew fun σ H Q ⟨G, env, L, R, d, env', hf, k⟩ p hp => by
  cases hf
  have f := Fresh.lst R.le hp (kvO p [])
  have r : Rp X.K G (upd H p (kvO p [])) (.dct true [] []) (.ref p) [p] := .dctO (kvs := []) (R.le.none hp) upd_same rfl (fun _ h => nomatch h) .nil
  exact k _ G _ L [p] (R.fresh f) r (fun _ => f.nodup R.nd fun a z => (R.rep.own a z).2) (fun _ => ⟨rfl, rfl, f.ext⟩) (f.ext' fun z hz => by
    rcases List.mem_append.mp hz with h | h
    · exact .inl h
    · exact .inr (f.new z h))
/-- d.get(k, x) -/
def kgF (i : Nat) (FA FB : En → Option (D × En)) : En → Option (D × En) := fun env => (nmF i env).bind fun d => (FA env).bind fun a => (FB env).bind fun b => match d.1 with
  | .dct _ ks ds => (keyOf a.1).map fun k => ((lookD ks ds k).getD b.1, env)
  | _ => none
theorem rps_nolook {K : PySem.W.Frag} {G H : Hp} {k : List Int} : ∀ {kvs : List (List Int × Addr × V)} {ds : List D}, Rps K G H ds (kvs.map (·.2.2)) [] → lookD (kvs.map (·.1)) ds k = none → valK kvs k = none
  | [], _, _, _ => rfl
  | p :: kvs, [], r, e => by have := r.length; simp at this
  | p :: kvs, d' :: ds, r, e => by
    obtain ⟨v, ws, e1, h, hs⟩ := r.cons0
    simp only [List.map_cons, List.cons.injEq] at e1
    obtain ⟨rfl, rfl⟩ := e1
    simp only [List.map_cons, lookD] at e
    split at e
    · cases e
    · rename_i hk
      rw [valK_neg hk]; exact rps_nolook hs e
theorem ev_kget2 {i : Nat} (hu : X.A.units + 1 < cLine) (ho : PE X o (tVar i)) (he : Ev X true true e FA) (hf : Ev X true true f FB) (m : M2 X o "get" apos e f cpos := by exact ⟨rfl, rfl, rfl, rfl⟩) :
    Ev X true true (.Call (.Attribute o "get" apos) [e, f] [] cpos) (kgF i FA FB) := peM (pe_kget2 hu ho he hf m) fun σ H Q ⟨G, env, L, R, d, env', hh, k⟩ => by
  unfold kgF nmF at hh
  cases q : env[i]? with
  | none => rw [q] at hh; simp at hh
  | some oo =>
  cases oo with
  | none => rw [q] at hh; simp at hh
  | some dd =>
  rw [q] at hh
  simp only [Option.bind_some, Option.map_some] at hh
  cases qa : FA env with
  | none => rw [qa] at hh; simp at hh
  | some ka =>
  obtain ⟨ka, e1⟩ := ka
  rw [qa] at hh
  simp only [Option.bind_some] at hh
  cases qb : FB env with
  | none => rw [qb] at hh; simp at hh
  | some kb =>
  obtain ⟨kb, e2⟩ := kb
  rw [qb] at hh
  simp only [Option.bind_some] at hh
  split at hh
  case h_2 => cases hh
  rename_i o ks ds
  cases qk : keyOf ka with
  | none => rw [qk] at hh; cases hh
  | some kk =>
  rw [qk] at hh
  simp only [Option.map_some, Option.some.injEq, Prod.mk.injEq] at hh
  obtain ⟨rfl, rfl⟩ := hh
  obtain ⟨hi, _⟩ := List.getElem?_eq_some_iff.mp q
  obtain ⟨La, Li, Lb, e0, g, _⟩ := R.rep.at hi
  obtain ⟨v, ev, r⟩ := g _ q
  obtain ⟨a, kvs, rfl, hp, _, hk, _⟩ := r.dct_inv R.le
  refine ⟨_, ev, a, kvs, rfl, hp, hk.le R.le, G, env, L, R, ka, e1, qa, fun y G1 H1 L1 La1 R1 ra n1 st1 x1 => ?_⟩
  obtain ⟨rfl, rfl, ex1⟩ := st1 rfl
  refine ⟨G1, e1, L1, R1, kb, e2, qb, fun z G2 H2 L2 Lb2 R2 rb n2 st2 x2 => ?_⟩
  obtain ⟨rfl, rfl, ex2⟩ := st2 rfl
  obtain ⟨La', Li', Lb', e0', g2, _⟩ := R2.rep.at hi
  obtain ⟨v2, ev2, r2⟩ := g2 _ q
  obtain rfl : V.ref a = v2 := by rw [ev] at ev2; simpa using ev2
  obtain ⟨a2, kvs2, e3, hp2, rfl, hk2, hs2⟩ := r2.dct_inv R2.le
  cases e3
  obtain ⟨bb, rfl, hb, rfl⟩ := ra.key_inv qk
  refine ⟨kvs2, kk, bb, hp2, hk2.le R2.le, rfl, R2.le.sqT (x2.le.sqT hb), ?_⟩
  have xx : Ext L2 G H G2 H2 (L2 ++ Lb2) := by
    have := ext_two x1 x2
    simpa using this
  have ex : ∀ b, H b ≠ none → H2 b = H b := fun b hb => (ex2 b (by rw [ex1 b hb]; exact hb)).trans (ex1 b hb)
  cases ql : lookD (kvs2.map (·.1)) ds kk with
  | none =>
    rw [ql] at k
    rw [rps_nolook hs2 ql]
    exact k z G2 H2 L2 Lb2 R2 rb (fun _ => n2 rfl) (fun _ => ⟨rfl, rfl, ex⟩) xx
  | some d' =>
    rw [ql] at k
    obtain ⟨v, h1, h2⟩ := rps_look hs2 ql
    rw [h1]
    exact k v G2 H2 L2 [] R2 h2.un (fun _ => by simpa using R2.nd) (fun _ => ⟨rfl, rfl, ex⟩) (xx.sub fun b hb => .inl (by simpa using hb))
/-! ### d[k] = v -/
def isK : Option (Option D) → Bool
  | some (some (.dct _ _ _)) => true
  | _ => false
def kput (i : Nat) (k v : D) (env : En) : Option En := match env[i]? with
  | some (some (.dct true ks ds)) => if v.pure = true ∧ lineLt ks.length = true then (keyOf k).map fun kk => env.set i (some (.dct true (if kk ∈ ks then ks else ks ++ [kk]) (if kk ∈ ks then putDs ks ds kk v else ds ++ [v]))) else none
  | _ => none
def kpF (i : Nat) (FV FK : En → Option (D × En)) : En → Option (Fl × En) := fun env => (FV env).bind fun v => if isK v.2[i]? = true then (FK v.2).bind fun k => (kput i k.1 v.1 k.2).map fun e => (.nx, e) else none
section
variable {K : PySem.W.Frag} {G H : Hp} {kvs : List (List Int × Addr × V)} {ds : List D} {kk : List Int}
theorem rps_put {v : D} {vv : V} (rv : Rp K G H v vv []) : ∀ {kvs : List (List Int × Addr × V)} {ds : List D}, Rps K G H ds (kvs.map (·.2.2)) [] →
    Rps K G H (putDs (kvs.map (·.1)) ds kk v) ((kvs.map fun x => if x.1 = kk then (x.1, x.2.1, vv) else x).map (·.2.2)) []
  | [], ds, r => by
    have e : ds = [] := List.length_eq_zero_iff.mp (by simpa using r.length)
    subst e; exact .nil
  | p :: kvs, [], r => by have := r.length; simp at this
  | p :: kvs, d' :: ds, r => by
    obtain ⟨v, ws, e1, h, hs⟩ := r.cons0
    simp only [List.map_cons, List.cons.injEq] at e1
    obtain ⟨rfl, rfl⟩ := e1
    simp only [List.map_cons, putDs]
    by_cases hk : p.1 = kk
    · simp only [hk, if_true]; exact .cons (L1 := []) (L2 := []) rv (rps_put rv hs)
    · simp only [hk, if_false]; exact .cons (L1 := []) (L2 := []) h (rps_put rv hs)
theorem keys_put {b : Addr} {v : V} : (putK3 kvs kk b v).map (·.1) = if kk ∈ kvs.map (·.1) then kvs.map (·.1) else kvs.map (·.1) ++ [kk] := by
  unfold putK3
  rw [valK_mem]
  by_cases h : kk ∈ kvs.map (·.1)
  · rw [if_pos h, if_pos (decide_eq_true h), List.map_map]
    refine List.map_congr_left fun x _ => ?_
    show (if x.1 = kk then (x.1, x.2.1, v) else x).1 = x.1
    split <;> rfl
  · rw [if_neg h, if_neg (by simpa using h)]; simp
theorem rps_putK {v : D} {vv : V} {b : Addr} (rv : Rp K G H v vv []) (r : Rps K G H ds (kvs.map (·.2.2)) []) :
    Rps K G H (if kk ∈ kvs.map (·.1) then putDs (kvs.map (·.1)) ds kk v else ds ++ [v]) ((putK3 kvs kk b vv).map (·.2.2)) [] := by
  unfold putK3
  rw [valK_mem]
  by_cases h : kk ∈ kvs.map (·.1)
  · rw [if_pos h, if_pos (decide_eq_true h)]; exact rps_put rv r
  · rw [if_neg h, if_neg (by simpa using h)]
    have := r.append (Rps.cons (L1 := []) (L2 := []) rv .nil)
    simpa using this
theorem keysIn_put {b : Addr} {v : V} (h : KeysIn K G kvs) (hb : SqT K G b (kk.map V.int)) : KeysIn K G (putK3 kvs kk b v) := by
  unfold putK3
  split
  · intro x hx
    obtain ⟨y, hy, rfl⟩ := List.mem_map.mp hx
    have := h y hy
    split <;> exact this
  · intro x hx
    rcases List.mem_append.mp hx with w | w
    · exact h x w
    · rw [List.mem_singleton.mp w]; exact hb
theorem RSt.chgK {σ : St} {env : En} {L : List Addr} {i : Nat} {ks : List (List Int)} (R : RSt K σ G H env L) (e : env[i]? = some (some (.dct true ks ds))) :
    ∃ p kvs, σ[i]? = some (some (.ref p)) ∧ G p = none ∧ H p = some (kvO p kvs) ∧ kvs.map (·.1) = ks ∧ KeysIn K G kvs ∧ Rps K G H ds (kvs.map (·.2.2)) [] ∧ p ∈ L ∧
      ∀ {kvs' : List (List Int × Addr × V)} {ds' : List D}, KeysIn K G kvs' → Rps K G H ds' (kvs'.map (·.2.2)) [] → RSt K σ G (upd H p (kvO p kvs')) (env.set i (some (.dct true (kvs'.map (·.1)) ds'))) L := by
  obtain ⟨hi, _⟩ := List.getElem?_eq_some_iff.mp e
  obtain ⟨La, Li, Lb, e0, f, g⟩ := R.rep.at hi
  obtain ⟨v, ev, r⟩ := f _ e
  cases r with
  | @dctO p kvs _ _ n h ek hk hs =>
  have nd : (La ++ [p] ++ Lb).Nodup := e0 ▸ R.nd
  have nd1 := List.nodup_append.mp nd
  have nd2 := List.nodup_append.mp nd1.1
  have offp : ∀ a ∈ La ++ Lb, a ≠ p := fun a z w => by
    subst w
    rcases List.mem_append.mp z with z | z
    · exact nd2.2.2 a z a (by simp) rfl
    · exact nd1.2.2 a (by simp) a z rfl
  refine ⟨p, kvs, ev, n, h, ek, hk, hs, by rw [e0]; simp, fun {kvs' ds'} hk' hs' => ?_⟩
  have up : ∀ a, a ≠ p → upd H p (kvO p kvs') a = H a := fun a z => upd_ne z
  have r2 : Rp K G (upd H p (kvO p kvs')) (.dct true (kvs'.map (·.1)) ds') (.ref p) [p] := .dctO n upd_same rfl hk' hs'.un
  have q := (g (Le.refl G) (H' := upd H p (kvO p kvs')) fun a z => ⟨(R.rep.own a (by rw [e0]; rcases List.mem_append.mp z with z | z <;> simp [z])).1, up a (offp a z)⟩).1 r2
  have eσ : σ.set i (some (.ref p)) = σ := by
    refine List.ext_getElem? fun j => ?_
    by_cases hj : i = j
    · subst hj
      obtain ⟨hl, _⟩ := List.getElem?_eq_some_iff.mp ev
      rw [List.getElem?_set_self hl, ev]
    · rw [List.getElem?_set_ne hj]
  rw [eσ] at q
  rw [e0]
  refine ⟨fun a o x => ?_, q, nd⟩
  rw [up a fun w => by rw [w, n] at x; cases x]
  exact R.le a o x
end
theorem sv_kput {i : Nat} {b v o : Expr} {FV FK : En → Option (D × En)} {s : Bool} (hu : X.A.units + 1 < cLine) (ho : PE X o (tVar i)) (hk : Ev X true true b FK) (hv : Ev X true s v FV)
    (hs : swapsWith v (some (.Subscript o b pos')) pos.line X.env = pure false := by rfl) : Sv X [] (.Assign [.Subscript o b pos'] v pos) (kpF i FV FK) := psM (ps_kput hu ho hk hv hs) fun D σ H ⟨G, env, L, R, fl, env', hf, k⟩ => by
  unfold kpF at hf
  cases q1 : FV env with
  | none => rw [q1] at hf; simp at hf
  | some dv =>
  obtain ⟨dv, e1⟩ := dv
  rw [q1] at hf
  simp only [Option.bind_some] at hf
  split at hf
  case isFalse => cases hf
  rename_i hK
  cases q2 : FK e1 with
  | none => rw [q2] at hf; simp at hf
  | some dk =>
  obtain ⟨dk, e2⟩ := dk
  rw [q2] at hf
  simp only [Option.bind_some] at hf
  cases q3 : kput i dk dv e2 with
  | none => rw [q3] at hf; simp at hf
  | some e3 =>
  rw [q3] at hf
  simp only [Option.map_some, Option.some.injEq, Prod.mk.injEq] at hf
  obtain ⟨rfl, rfl⟩ := hf
  refine ⟨G, env, L, R, dv, e1, q1, fun vv G1 H1 L1 Lv R1 rv n1 st1 x1 => ?_⟩
  have sl : ∃ x, σ[i]? = some (some x) := by
    cases q : e1[i]? with
    | none => rw [q] at hK; cases hK
    | some oo =>
    cases oo with
    | none => rw [q] at hK; cases hK
    | some dd =>
    obtain ⟨hi, _⟩ := List.getElem?_eq_some_iff.mp q
    obtain ⟨La, Li, Lb, e0, g, _⟩ := R1.rep.at hi
    obtain ⟨v, ev, r⟩ := g _ q
    exact ⟨v, ev⟩
  obtain ⟨x0, ep⟩ := sl
  refine ⟨x0, ep, G1, e1, L1, R1, dk, e2, q2, fun y G2 H2 L2 Lk R2 rk n2 st2 x2 => ?_⟩
  obtain ⟨rfl, rfl, ex2⟩ := st2 rfl
  unfold kput at q3
  split at q3
  case h_2 => cases q3
  rename_i ks ds hd
  split at q3
  case isFalse => cases q3
  rename_i hh
  cases qk : keyOf dk with
  | none => rw [qk] at q3; cases q3
  | some kk =>
  rw [qk] at q3
  simp only [Option.map_some, Option.some.injEq] at q3
  subst q3
  obtain ⟨bb, rfl, hb, rfl⟩ := rk.key_inv qk
  obtain rfl := rv.pure_nil hh.1
  obtain ⟨p, kvs, ep2, gp, hp, rfl, hkk, hs2, pL, chg⟩ := R2.chgK hd
  obtain rfl : x0 = V.ref p := by rw [ep] at ep2; simpa using ep2
  have rv2 : Rp X.K G2 H2 dv vv [] := rv.mono x2.le fun _ z => nomatch z
  have hb2 : SqT X.K G2 bb (kk.map V.int) := hb
  refine ⟨p, kvs, kk, bb, rfl, rfl, hp, hkk.le R2.le, R2.le.sqT hb2, by have := lineLt_lt hh.2; simpa using this, ?_⟩
  have R3 := chg (keysIn_put (v := vv) hkk hb2) (rps_putK (kk := kk) (b := bb) rv2 hs2)
  rw [keys_put] at R3
  have xx : Ext L G H G2 H2 L2 := (ext_two x1 x2).sub fun b hb => (ext_two x1 x2).own b (by simp [hb])
  refine k σ G2 _ L2 R3 (Keep.refl _ _) ⟨xx.le, fun b nb hb => ?_, xx.gd, xx.own⟩
  have hne : b ≠ p := fun w => by
    subst w
    rcases xx.own b pL with z | z
    · exact nb z
    · exact hb z
  rw [upd_ne hne]
  exact xx.fr b nb hb
end
end
end Pz

set_option Elab.async false
set_option linter.all false
set_option maxRecDepth 100000
set_option maxHeartbeats 1000000
namespace Pz
open PySem L2 PyProof.Rows
noncomputable section
/-! ### the order -/
theorem lex_asym : ∀ a b : List Int, HT.lexLt a b = true → HT.lexLt b a = false
  | [], [], h => by cases h
  | [], _ :: _, _ => rfl
  | _ :: _, [], h => by cases h
  | x :: a, y :: b, h => by
    rw [HT.lexLt_cons] at h ⊢
    by_cases e : x = y
    · subst e; simp only [if_true] at h ⊢; exact lex_asym a b h
    · rw [if_neg e] at h; rw [if_neg fun q => e q.symm]
      have := of_decide_eq_true h
      exact decide_eq_false (by omega)
theorem lex_tr : ∀ a b c : List Int, HT.lexLt b a = false → HT.lexLt c b = false → HT.lexLt c a = false
  | [], [], c, _, h => h
  | [], y :: b, [], _, h => by cases h
  | [], y :: b, z :: c, _, _ => rfl
  | x :: a, [], c, h, _ => by cases h
  | x :: a, y :: b, [], _, h => by cases h
  | x :: a, y :: b, z :: c, h1, h2 => by
    rw [HT.lexLt_cons] at h1 h2 ⊢
    by_cases e1 : y = x
    · subst e1
      by_cases e2 : z = y
      · subst e2; simp only [if_true] at h1 h2 ⊢; exact lex_tr a b c h1 h2
      · rw [if_neg e2] at h2 ⊢; exact h2
    · rw [if_neg e1] at h1
      have h1 := of_decide_eq_false h1
      by_cases e2 : z = y
      · subst e2; rw [if_neg e1]; exact decide_eq_false h1
      · rw [if_neg e2] at h2
        have h2 := of_decide_eq_false h2
        rw [if_neg (by omega)]
        exact decide_eq_false (by omega)
theorem lex_antisymm : ∀ a b : List Int, HT.lexLt a b = false → HT.lexLt b a = false → a = b
  | [], [], _, _ => rfl
  | [], _ :: _, h, _ => by cases h
  | _ :: _, [], _, h => by cases h
  | x :: a, y :: b, h1, h2 => by
    rw [HT.lexLt_cons] at h1 h2
    by_cases e : x = y
    · subst e; simp only [if_true] at h1 h2; rw [lex_antisymm a b h1 h2]
    · rw [if_neg e] at h1; rw [if_neg fun q => e q.symm] at h2
      have h1 := of_decide_eq_false h1
      have h2 := of_decide_eq_false h2
      omega
theorem lex_swo {α : Type} (f : α → List Int) : SrtO.Swo fun x y => HT.lexLt (f x) (f y) := ⟨fun x y h => lex_asym _ _ h, fun x y z h1 h2 => lex_tr _ _ _ h1 h2⟩
def lexLe (a b : List Int) : Bool := !HT.lexLt b a
/-- the sorted list -/
def srtL (ks : List (List Int)) : List (List Int) := ks.mergeSort lexLe
theorem srtL_perm (ks : List (List Int)) : (srtL ks).Perm ks := List.mergeSort_perm ks _
theorem srtL_sorted (ks : List (List Int)) : (srtL ks).Pairwise fun a b => HT.lexLt b a = false := by
  have := List.pairwise_mergeSort (le := lexLe) (fun a b c h1 h2 => by
    unfold lexLe at *
    simp only [Bool.not_eq_true'] at *
    exact lex_tr _ _ _ h1 h2) (fun a b => by
    unfold lexLe
    cases h : HT.lexLt b a with
    | false => simp
    | true => simp [lex_asym _ _ h]) ks
  refine this.imp fun h => ?_
  unfold lexLe at h
  simpa using h
theorem srtL_uniq {ks l : List (List Int)} (p : l.Perm ks) (s : l.Pairwise fun a b => HT.lexLt b a = false) : l = srtL ks :=
  List.Perm.eq_of_pairwise (fun a b _ _ h1 h2 => lex_antisymm _ _ h2 h1) s (srtL_sorted ks) (p.trans (srtL_perm ks).symm)

/-! ### the model's sort -/
section
variable {prog : Program} {w : World} {A : Around} {E : Value → Shared → Prop} {s : Shared}
theorem lex_walk {Q : Bool → Shared → Prop} : ∀ {us ws : List Value} {ns ms : List Int} (i : Nat), IntsAre us ns → IntsAre ws ms → ns.length = ms.length → Q (HT.lexLt ns ms) s → PySem.W.KatLex prog w A true false Q (us.zip ws) i s
  | _, _, _, _, i, .nil, .nil, _, h => PySem.W.kat_nil h
  | _, _, _, _, i, .nil, .cons .., l, _ => by simp at l
  | _, _, _, _, i, .cons .., .nil, l, _ => by simp at l
  | _, _, _, _, i, .cons x t (vs := us) (ns := ns) hx, .cons y u (vs := ws) (ns := ms) hy, l, h => by
    show PySem.W.KatLex prog w A true false Q ((.int x t, .int y u) :: us.zip ws) i s
    refine PySem.W.kat_cons (SeqAt.EqAt.int_int x t y u prog w _ _ ?_)
    rw [HT.lexLt_cons] at h
    refine PySem.W.kat_go (fun e1 => ?_) (fun e1 => ?_)
    · have ex : x = y := by simpa using e1
      rw [if_pos ex] at h
      exact PySem.W.kat_yes (lex_walk (i + 1) hx hy (by simpa using l) h)
    · have ex : ¬ x = y := by simpa using e1
      rw [if_neg ex] at h
      cases i with
      | zero => exact PySem.W.kat_no (oneLt_int h)
      | succ i =>
        have e : (true && (i + 1 == 0)) = false := by simp
        refine PySem.W.kat_no ?_
        rw [e]
        exact PySem.W.kat_one _ _ (PyProof.Rows.lt_int h)
theorem ints_size {xs : Array Value} {ns : List Int} (i : IntsAre xs.toList ns) : xs.size = ns.length := by
  have := i.length; simpa using this
theorem tups_cmp {vs : List Value} {f : Value → List Int} {d : Nat} (hp : ∀ v ∈ vs, TS.TupInts s.heap v (f v) ∧ (f v).length = d) : SrtO.Cmp prog w A s (PyProof.Rows.tuples' true) (fun p => p.1 ∈ vs) (SrtO.lt2 fun v u => HT.lexLt (f v) (f u)) := by
  intro p q hm hm'
  obtain ⟨h1, l1⟩ := hp _ hm
  obtain ⟨h2, l2⟩ := hp _ hm'
  show wpAny (model prog w) A (keyLt' (tuples' true) p.1 q.1) (fun r s' => s' = s ∧ r = HT.lexLt (f p.1) (f q.1)) (fun _ _ => False) s
  generalize f p.1 = ns at h1 l1 ⊢
  generalize f q.1 = ms at h2 l2 ⊢
  obtain ⟨a, xs, e, ⟨o, ho, hc, n, hd⟩, i⟩ := h1
  obtain ⟨a', xs', e', ⟨o', ho', hc', n', hd'⟩, i'⟩ := h2
  rw [e, e']
  refine PySem.W.kat_lt ho hd ho' hd' ?_
  have z : decide (xs.size < xs'.size) = false := by
    rw [ints_size i, ints_size i', l1, l2]; exact decide_eq_false (Nat.lt_irrefl _)
  rw [z]
  exact lex_walk 0 i i' (l1.trans l2.symm) ⟨rfl, rfl⟩
theorem tups_firsts {h : Heap} {f : Value → List Int} {d : Nat} (hd : 1 ≤ d) : ∀ vs : List Value, (∀ v ∈ vs, TS.TupInts h v (f v) ∧ (f v).length = d) → ∃ fs, PySem.W.KatTups h vs fs ∧ fs.length = vs.length ∧ ∀ f ∈ fs, ∃ n t, f = Value.int n t
  | [], _ => ⟨[], PySem.W.KatTups.nil, rfl, fun f hf => by simp at hf⟩
  | v :: vs, x => by
    obtain ⟨fs, k, hl, hi⟩ := tups_firsts hd vs fun u hu => x u (List.mem_cons_of_mem _ hu)
    obtain ⟨ht, hn⟩ := x v (List.mem_cons_self ..)
    obtain ⟨a, xs, rfl, ⟨o, ho, hc, n, hdt⟩, i⟩ := ht
    obtain ⟨y, ys, e⟩ : ∃ y ys, xs.toList = y :: ys := by
      cases q : xs.toList with
      | nil =>
        have l := i.length
        rw [q, List.length_nil, hn] at l
        omega
      | cons y ys => exact ⟨y, ys, rfl⟩
    obtain ⟨m, t, hy⟩ := i.all y (by rw [e]; exact List.mem_cons_self ..)
    refine ⟨y :: fs, PySem.W.KatTups.cons ho hc hdt ?_ k, by simp [hl], ?_⟩
    · have z := congrArg (fun l : List Value => l[0]?) e
      simpa using z
    · intro f hf
      rcases List.mem_cons.mp hf with rfl | hf
      · exact ⟨m, t, hy⟩
      · exact hi f hf
theorem tups_sortO {a : Addr} {vs : List Value} {f : Value → List Int} {d : Nat} (hd : 1 ≤ d) (h0 : 0 < vs.length) (hp : ∀ v ∈ vs, TS.TupInts s.heap v (f v) ∧ (f v).length = d) (ha : ∀ o, s.heap.get? a = some o → o.cls ≠ .type "tuple") :
    SrtO.SortableO prog w A s a vs fun v u => HT.lexLt (f v) (f u) := by
  intro h' keep
  have hp' : ∀ v ∈ vs, TS.TupInts h' v (f v) ∧ (f v).length = d := fun v hm => ⟨(hp v hm).1.keeps fun b o e c => keep b o (fun z => by subst z; exact ha o e c) e, (hp v hm).2⟩
  obtain ⟨fs, h1, h2, h3⟩ := tups_firsts hd vs hp'
  refine ⟨tuples' true, fun Q E hq => ?_, tups_cmp hp'⟩
  refine PySem.W.kat_kind (T := .type "int") h1 (by omega) (fun f hm => ?_) (by rfl) ?_
  · obtain ⟨x, t, rfl⟩ := h3 f hm
    exact PySem.W.Looks.now
  · have e : (Value.type "int" != Value.type "tuple") = true := by first | decide +kernel | rfl | decide
    rw [e]
    exact hq
end

/-! ### the rules -/
abbrev KA := List Int × Addr
def refKA (x : KA) : Value := .ref x.2
def backKA (h : Heap) : Value → KA
  | .ref a => (TS.intsOf h (.ref a), a)
  | v => (TS.intsOf h v, 0)
theorem back_ref {h : Heap} {ps : List KA} (hp : ∀ x ∈ ps, TS.TupInts h (.ref x.2) x.1) : (ps.map refKA).map (backKA h) = ps := by
  rw [List.map_map]
  conv => rhs; rw [← List.map_id ps]
  refine List.map_congr_left fun x hx => ?_
  show (TS.intsOf h (.ref x.2), x.2) = x
  rw [(hp x hx).ints]
theorem refKA_vals : ∀ ps : List KA, Vals (ps.map fun x => V.ref x.2) (ps.map refKA)
  | [] => .nil
  | x :: ps => .cons rfl (refKA_vals ps)
/-- what a sort of such tuples gives -/
theorem sorted_KA {h : Heap} {ps : List KA} {out : List Value} (hp : ∀ x ∈ ps, TS.TupInts h (.ref x.2) x.1)
    (hs : SrtO.Srtd (fun v u => HT.lexLt (TS.intsOf h v) (TS.intsOf h u)) out) (hb : out.Perm (ps.map refKA)) :
    ∃ bs : List KA, bs.Perm ps ∧ out = bs.map refKA ∧ bs.map (·.1) = srtL (ps.map (·.1)) := by
  have p1 : (out.map (backKA h)).Perm ps := by
    have := hb.map (backKA h)
    rwa [back_ref hp] at this
  have e1 : out = (out.map (backKA h)).map refKA := by
    rw [List.map_map]
    conv => lhs; rw [← List.map_id out]
    refine List.map_congr_left fun v hv => ?_
    obtain ⟨x, hx, rfl⟩ := List.mem_map.mp (hb.mem_iff.mp hv)
    rfl
  refine ⟨_, p1, e1, srtL_uniq (p1.map _) ?_⟩
  rw [List.map_map, List.pairwise_map]
  refine hs.imp_of_mem fun {v u} hv hu hlt => ?_
  obtain ⟨x, hx, rfl⟩ := List.mem_map.mp (hb.mem_iff.mp hv)
  obtain ⟨y, hy, rfl⟩ := List.mem_map.mp (hb.mem_iff.mp hu)
  exact hlt
def rSortKv (K : PySem.W.Frag) : List V → Hp → VK → Prop := fun vs H Q => ∃ a kvs d, vs = [.ref a] ∧ H a = some (kvO a kvs) ∧ KeysIn K H kvs ∧ (∀ x ∈ kvs, x.1.length = d) ∧ 1 ≤ d ∧
  ∀ (bs : List KA) p, bs.Perm (kvs.map fun x => (x.1, x.2.1)) → bs.map (·.1) = srtL (kvs.map (·.1)) → H p = none → Q (.ref p) (upd H p (.lst (bs.map fun x => .ref x.2)))
def rSortTs (K : PySem.W.Frag) : List V → Hp → VK → Prop := fun vs H Q => ∃ a ps d, vs = [.ref a] ∧ SqL K H a (ps.map fun x : KA => .ref x.2) ∧ (∀ x ∈ ps, SqT K H x.2 (x.1.map V.int)) ∧ (∀ x ∈ ps, x.1.length = d) ∧ 1 ≤ d ∧
  ∀ (bs : List KA) p, bs.Perm ps → bs.map (·.1) = srtL (ps.map (·.1)) → H p = none → Q (.ref p) (upd H p (.lst (bs.map fun x => .ref x.2)))
section
variable {X : Cx}
theorem cr_sortTs : CallR X (.builtin "sorted") (rSortTs X.K) := by
  intro pins s σ H vs us Q I r h
  obtain ⟨a, ps, d, rfl, hs, hk, hl, hd, q⟩ := h
  obtain ⟨its, rv, hL, hz⟩ := I.list hs
  rw [Vals.ref1 r]
  have ei : its = ps.map refKA := by
    have : ∀ {ps : List KA} {its : List Value}, Vals (ps.map fun x => V.ref x.2) its → its = ps.map refKA := by
      intro ps
      induction ps with
      | nil => intro its h; cases h; rfl
      | cons x ps ih =>
        intro its h
        cases h with
        | cons h t => cases h; rw [ih t]; rfl
    exact this rv
  subst ei
  have tp : ∀ x ∈ ps, TS.TupInts s.heap (.ref x.2) x.1 := fun x hx => tupI_raw I (hk x hx)
  have hp : ∀ v ∈ ps.map refKA, TS.TupInts s.heap v (TS.intsOf s.heap v) ∧ (TS.intsOf s.heap v).length = d := fun v hv => by
    obtain ⟨x, hx, rfl⟩ := List.mem_map.mp hv
    show TS.TupInts s.heap (.ref x.2) (TS.intsOf s.heap (.ref x.2)) ∧ (TS.intsOf s.heap (.ref x.2)).length = d
    rw [(tp x hx).ints]
    exact ⟨tp x hx, hl x hx⟩
  refine SrtO.sorted_ord (lex_swo fun v => TS.intsOf s.heap v) hL.isList (by rw [← rv.length]; exact hz) (fun h2 h₁ b hb kk => ?_) fun out h1 h2 => ?_
  · refine tups_sortO (s := { s with heap := h₁ }) hd (by omega) (fun v hm => ⟨(hp v hm).1.keeps fun b o e _ => (kk b o e).2, (hp v hm).2⟩) fun o e => ?_
    have e' : some o = some (seqObj "list" (ps.map refKA).toArray 0) := e.symm.trans hb
    cases e'
    intro c
    exact absurd (Value.type.inj c) (by decide)
  · obtain ⟨bs, p1, rfl, e1⟩ := sorted_KA tp h1 h2.perm
    obtain ⟨ep, he'⟩ := PyProof.Rows.sortedAll_at s.heap (ps.map refKA) (bs.map refKA).toArray
    have hlen : (bs.map fun x : KA => V.ref x.2).length ≤ sizeLine := by
      rw [List.length_map, p1.length_eq]
      simpa using hz
    exact ⟨.ref _, upd H (s.heap.objs.size + 1) (.lst (bs.map fun x => .ref x.2)), I.laid (t' := s.toks) (fun _ _ => PyProof.Rows.sortedAll_old) (Nat.le_succ _) ⟨hlen, bs.map refKA, ep, refKA_vals bs, he'⟩, rfl, q _ _ p1 e1 (I.hok.fresh (Nat.le_succ _))⟩
end
end
end Pz

set_option Elab.async false
set_option linter.all false
set_option maxRecDepth 100000
set_option maxHeartbeats 1000000
namespace Pz
open PySem L2 PyProof.Rows
noncomputable section
section
variable {X : Cx}
theorem cr_sortKv (hcalm : X.calm = true) : CallR X (.builtin "sorted") (rSortKv X.K) := by
  intro pins s σ H vs us Q I r h
  obtain ⟨a, kvs, d, rfl, he, hk, hl, hd, q⟩ := h
  obtain ⟨u, eu, rx⟩ := vals1 r
  subst eu
  cases rx
  obtain ⟨z, lo, xs, rel, dd⟩ := kv_at I he hk
  obtain ⟨o, es, ep, h1, h2, h3, h4, h5, h6⟩ := dd
  have raw : s.heap.DictRaw a es ep := ⟨o, h1, h2, h3⟩
  have hsz : es.size = xs.length := size_of_entries h4
  have hxl : kvs.length = xs.length := Paired.length rel
  have h16 : es.size ≤ sizeLine := by omega
  have tp : ∀ x ∈ (kvs.map fun x => ((x.1, x.2.1) : KA)), TS.TupInts s.heap (.ref x.2) x.1 := fun x hx => by
    obtain ⟨y, hy, rfl⟩ := List.mem_map.mp hx
    exact tupI_raw I (hk y hy)
  refine Calls.call_function_entry PyProof.Rows.kind_sorted PyProof.Rows.plain_sorted PyProof.Rows.entry_sorted (PyProof.Rows.args_sorted1 _) ?_
  unfold Builtin.«sorted»
  refine wpAny_bind (m := checkCount "sorted" 1 1 _) (wpAny_pure ?_)
  refine wpAny_bind (PySem.W.kdu_collect (A := X.A.in1) (KdlSrc.rawDict lo) (I.ok.hd hcalm) raw h16 fun h' tk acc hk' hacc => ?_)
  have eacc : acc.toList = (kvs.map fun x => ((x.1, x.2.1) : KA)).map refKA := by
    refine List.ext_getElem? fun j => ?_
    by_cases hj : j < kvs.length
    · have hj2 : j < acc.size := by rw [hacc.1]; omega
      obtain ⟨hi, ev⟩ := hacc.2 j acc[j] (by simp [hj2])
      have e1 : es[j]? = some es[j] := by simp [hi]
      rw [entry_at h4, List.getElem?_eq_getElem (by omega)] at e1
      simp only [Option.map_some, Option.some.injEq] at e1
      have hx : xs[j] ∈ xs := List.getElem_mem _
      have ek : kvs[j].2.1 = (xs[j]'(by omega)).2.1 := by
        have : ∀ {kvs : List (List Int × Addr × V)} {xs : List (List Int × Addr × Value)}, PrR kvs xs → ∀ j (h1 : j < kvs.length) (h2 : j < xs.length), kvs[j].2.1 = xs[j].2.1 := by
          intro kvs xs r
          induction r with
          | nil => intro j h1; simp at h1
          | cons h t ih =>
            intro j h1 h2
            cases j with
            | zero => exact h.2.1
            | succ j => simpa using ih j (by simpa using h1) (by simpa using h2)
        exact this rel j hj (by omega)
      rw [Array.getElem?_toList, Array.getElem?_eq_getElem hj2, ev, ← e1]
      simp only [List.getElem?_map, List.getElem?_eq_getElem hj, Option.map_some]
      show some (Value.ref _) = some (Value.ref _)
      rw [ek]
    · rw [List.getElem?_eq_none (by rw [Array.length_toList, hacc.1]; omega), List.getElem?_eq_none (by simp; omega)]
  have I1 : Inv X pins σ H { s with heap := h', toks := tk } := I.kept hk'
  have hal : acc.toList.length = kvs.length := by rw [eacc]; simp
  refine wpAny_bind (wpAny_newList ?_ (by rw [hal]; exact z))
  have hoL : (h'.push (seqObj "list" acc.toList.toArray 0)).get? h'.objs.size = some (seqObj "list" acc.toList.toArray 0) := Heap.get?_push_size _ rfl
  show wpAny _ _ _ _ _ { s with heap := h'.push (seqObj "list" acc.toList.toArray 0), toks := tk }
  have keep : ∀ b o, s.heap.get? b = some o → (h'.push (seqObj "list" acc.toList.toArray 0)).get? b = some o := fun b o e => Heap.get?_push_of_some _ (hk' b o e)
  have hp : ∀ v ∈ acc.toList, TS.TupInts (h'.push (seqObj "list" acc.toList.toArray 0)) v (TS.intsOf s.heap v) ∧ (TS.intsOf s.heap v).length = d := fun v hv => by
    rw [eacc] at hv
    obtain ⟨x, hx, rfl⟩ := List.mem_map.mp hv
    have t := tp x hx
    obtain ⟨y, hy, rfl⟩ := List.mem_map.mp hx
    show TS.TupInts _ (.ref y.2.1) (TS.intsOf s.heap (.ref y.2.1)) ∧ (TS.intsOf s.heap (.ref y.2.1)).length = d
    rw [t.ints]
    exact ⟨t.keeps fun b o e _ => keep b o e, hl y hy⟩
  refine wpAny_bind (wpAny_holding (wpAny_call_entry PyProof.Rows.slot_list_sort ⟨_, hoL, rfl⟩ PyProof.Rows.entry_list_sort
    (SrtO.list_sort_ord (s := { s with heap := h'.push (seqObj "list" acc.toList.toArray 0), toks := tk }) (lex_swo fun v => TS.intsOf s.heap v) hoL (by rw [hal]; exact z) (fun h2 => tups_sortO hd (by omega) hp fun o e => ?_) fun out hs hb => ⟨_, rfl, ?_⟩)
    (PyProof.Rows.args_list_sort _)))
  · have e' : some o = some (seqObj "list" acc.toList.toArray 0) := e.symm.trans hoL
    cases e'
    intro c
    exact absurd (Value.type.inj c) (by decide)
  · have hb' : out.Perm ((kvs.map fun x => ((x.1, x.2.1) : KA)).map refKA) := by rw [← eacc]; exact hb.perm
    obtain ⟨bs, p1, rfl, e1⟩ := sorted_KA tp hs hb'
    obtain ⟨e', he'⟩ := PyProof.Rows.sortedHeap_at (vs := acc.toList) (out := (bs.map refKA).toArray) hoL
    have hlen : (bs.map fun x : KA => V.ref x.2).length ≤ sizeLine := by
      rw [List.length_map, p1.length_eq]
      simpa using z
    rw [List.map_map] at e1
    refine wpAny_pure ⟨_, rfl, .ref h'.objs.size, upd H h'.objs.size (.lst (bs.map fun x => .ref x.2)), I1.laid (t' := tk) (fun b u e => ?_) (Nat.le_refl _)
      (show ObjOk X.prog X.w _ _ _ (.lst (bs.map fun x : KA => V.ref x.2)) from ⟨hlen, bs.map refKA, e', refKA_vals bs, he'⟩), rfl, q bs _ p1 e1 (I1.hok.fresh (Nat.le_refl _))⟩
    have hb2 : b < h'.objs.size := Heap.lt_size e
    rw [PyProof.Rows.sortedHeap_old (Nat.ne_of_lt hb2) (by rw [size_push']; exact Nat.lt_succ_of_lt hb2)]
    exact Heap.get?_push_of_some _ e
end
/-! ### by value -/
def keyD (k : List Int) : D := .tup (k.map .int)
def keysOf : List D → Option (List (List Int))
  | [] => some []
  | d :: ds => (keyOf d).bind fun k => (keysOf ds).map fun ks => k :: ks
def evenK : List (List Int) → Bool
  | [] => true
  | k :: ks => decide (1 ≤ k.length) && ks.all fun j => decide (j.length = k.length)
theorem evenK_ok {ks : List (List Int)} (h : evenK ks = true) : ∃ d, 1 ≤ d ∧ ∀ k ∈ ks, k.length = d := by
  cases ks with
  | nil => exact ⟨1, Nat.le_refl _, fun k h => nomatch h⟩
  | cons k ks =>
    simp only [evenK, Bool.and_eq_true, decide_eq_true_eq, List.all_eq_true] at h
    refine ⟨k.length, h.1, fun j hj => ?_⟩
    rcases List.mem_cons.mp hj with rfl | hj
    · rfl
    · exact h.2 j hj
theorem evenK_of {ks : List (List Int)} {d : Nat} (hd : 1 ≤ d) (h : ∀ k ∈ ks, k.length = d) : evenK ks = true := by
  cases ks with
  | nil => rfl
  | cons k ks =>
    simp only [evenK, Bool.and_eq_true, decide_eq_true_eq, List.all_eq_true]
    have e := h k (by simp)
    exact ⟨by omega, fun j hj => by rw [h j (by simp [hj]), e]⟩
theorem keysOf_map : ∀ ks : List (List Int), keysOf (ks.map keyD) = some ks
  | [] => rfl
  | k :: ks => by simp [keysOf, keyOf, keyD, intsOf_map, keysOf_map ks]
theorem keyOf_keyD (k : List Int) : keyOf (keyD k) = some k := by simp [keyOf, keyD, intsOf_map]
theorem keyOf_eq {d : D} {k : List Int} (h : keyOf d = some k) : d = keyD k := by
  unfold keyOf at h
  split at h
  · rename_i xs
    rw [intsOf_eq h]; rfl
  · cases h
theorem keysOf_eq : ∀ {ds : List D} {ks : List (List Int)}, keysOf ds = some ks → ds = ks.map keyD
  | [], _, h => by cases h; rfl
  | d :: ds, ks, h => by
    simp only [keysOf] at h
    cases q : keyOf d with
    | none => rw [q] at h; cases h
    | some k =>
      rw [q] at h
      simp only [Option.bind_some] at h
      cases q2 : keysOf ds with
      | none => rw [q2] at h; cases h
      | some ks' =>
        rw [q2] at h; cases h
        rw [keyOf_eq q, keysOf_eq q2]; rfl
def srtI (ns : List Int) : List Int := ns.mergeSort fun a b => decide (a ≤ b)
def fSorted : List D → Option D
  | [.dct _ ks _] => if evenK ks = true then some (.lst true ((srtL ks).map keyD)) else none
  | [.lst _ xs] => match keysOf xs with
    | some ks => if evenK ks = true then some (.lst true ((srtL ks).map keyD)) else none
    | none => (intsOf xs).map fun ns => .lst true ((srtI ns).map .int)
  | _ => none
section
variable {K : PySem.W.Frag} {G H : Hp}
theorem rps_keys : ∀ {bs : List KA}, (∀ x ∈ bs, SqT K G x.2 (x.1.map V.int)) → Rps K G H ((bs.map (·.1)).map keyD) (bs.map fun x => V.ref x.2) []
  | [], _ => .nil
  | x :: bs, h => .cons (L1 := []) (L2 := []) (.tup (h x (by simp)) (Rps.ints _)) (rps_keys fun y hy => h y (by simp [hy]))
theorem keys_rps : ∀ {ks : List (List Int)} {vs : List V} {L : List Addr}, Rps K G H (ks.map keyD) vs L → ∃ bs : List KA, vs = bs.map (fun x => V.ref x.2) ∧ bs.map (·.1) = ks ∧ (∀ x ∈ bs, SqT K G x.2 (x.1.map V.int)) ∧ L = []
  | [], _, _, h => by cases h; exact ⟨[], rfl, rfl, (fun x h => nomatch h), rfl⟩
  | k :: ks, _, _, h => by
    cases h with
    | @cons _ v _ vs L1 L2 h hs =>
      obtain ⟨bs, rfl, e, hb, rfl⟩ := keys_rps hs
      obtain ⟨b, rfl, s, rfl⟩ := h.key_inv (keyOf_keyD k)
      refine ⟨(k, b) :: bs, rfl, by simp [e], fun x hx => ?_, rfl⟩
      rcases List.mem_cons.mp hx with rfl | hx
      · exact s
      · exact hb x hx
abbrev rSortX (K : PySem.W.Frag) : List V → Hp → VK → Prop := fun xs H Q => rSortKv K xs H Q ∨ (rSortTs K xs H Q ∨ rSortedI K xs H Q)
theorem crx_sorted {X : Cx} (hcalm : X.calm = true := by rfl) : CallR X (.builtin "sorted") (rSortX X.K) := (cr_sortKv hcalm).or (cr_sortTs.or cr_sortedI)
theorem on_sorted : OpN K (rSortX K) fSorted := by
  intro G H a c x La Q l ra e k
  unfold fSorted at e
  split at e
  · rename_i o ks ds
    split at e
    case isFalse => cases e
    rename_i hev
    cases e
    obtain ⟨v, rfl, r⟩ := ra.one
    obtain ⟨p, kvs, rfl, hp, rfl, hk, hs⟩ := r.dct_inv l
    obtain ⟨d, hd, hl⟩ := evenK_ok hev
    refine .inl ⟨p, kvs, d, rfl, hp, hk.le l, fun y hy => hl _ (List.mem_map.mpr ⟨y, hy, rfl⟩), hd, fun bs t p1 e1 nt => ?_⟩
    have f := Fresh.lst l nt (.lst (bs.map fun x => V.ref x.2))
    rw [← e1] at k
    refine k _ _ _ _ f (.lstO (l.none nt) upd_same ((rps_keys fun y hy => ?_).fresh f))
    obtain ⟨z, hz, rfl⟩ := List.mem_map.mp (p1.mem_iff.mp hy)
    exact hk z hz
  · rename_i o xs
    obtain ⟨v, rfl, r⟩ := ra.one
    obtain ⟨p, vs, L1, rfl, sa, qa, _⟩ := r.lst_inv l
    split at e
    · rename_i ks hks
      split at e
      case isFalse => cases e
      rename_i hev
      cases e
      obtain rfl := keysOf_eq hks
      obtain ⟨ps, rfl, rfl, hb, _⟩ := keys_rps qa
      obtain ⟨d, hd, hl⟩ := evenK_ok hev
      refine .inr (.inl ⟨p, ps, d, rfl, SqL.of sa, fun y hy => l.sqT (hb y hy), fun y hy => hl _ (List.mem_map.mpr ⟨y, hy, rfl⟩), hd, fun bs t p1 e1 nt => ?_⟩)
      have f := Fresh.lst l nt (.lst (bs.map fun x => V.ref x.2))
      rw [← e1] at k
      exact k _ _ _ _ f (.lstO (l.none nt) upd_same ((rps_keys fun y hy => hb y (p1.mem_iff.mp hy)).fresh f))
    · cases q : intsOf xs with
      | none => rw [q] at e; cases e
      | some ns =>
        rw [q] at e
        cases e
        obtain rfl := intsOf_eq q
        obtain ⟨rfl, _⟩ := qa.ints_inv
        refine .inr (.inr ⟨p, ns, rfl, SqL.of sa, fun ns' t pm so nt => ?_⟩)
        have f := Fresh.lst l nt (.lst (ns'.map V.int))
        have e1 : ns' = srtI ns := by
          refine List.Perm.eq_of_pairwise (le := fun a b : Int => a ≤ b) (fun a b _ _ h1 h2 => by omega) so ?_ (pm.trans (List.mergeSort_perm ns _).symm)
          have := List.pairwise_mergeSort (le := fun a b : Int => decide (a ≤ b)) (fun a b c h1 h2 => by simp at *; omega) (fun a b => by simp; omega) ns
          exact this.imp fun h => by simpa using h
        subst e1
        exact k _ _ _ _ f (.lstO (l.none nt) upd_same (Rps.ints _))
  · cases e
end
end
end Pz

set_option Elab.async false
set_option linter.all false
set_option maxRecDepth 100000
set_option maxHeartbeats 2000000
namespace Pz
open PySem L2
noncomputable section
section
variable (K : PySem.W.Frag)
/-- within a comprehension: the new list at D holds acc, the slots hold e, nothing below Gl has changed since (Lw, G1, H1) -/
def LI (σ : St) (Lw : List Addr) (G1 H1 : Hp) (D : Addr) (Gl : Hp) (acc : List Pz.D) (e : En) (H : Hp) : Prop :=
  ∃ G2 L2 av La, RSt K σ G2 H e L2 ∧ Le Gl G2 ∧ H D = some (.lst av) ∧ G2 D = none ∧ Rps K G2 H acc av La ∧ (L2 ++ (D :: La)).Nodup ∧ Ext Lw G1 H1 G2 H (L2 ++ (D :: La))
end
section
variable {K : PySem.W.Frag} {σ σ' : St} {Lw L2 L' La : List Addr} {G1 H1 G2 H Gl G' H' : Hp} {D : Addr} {acc : List Pz.D} {av : List V} {e e' : En} {vs W : List Nat}
theorem li_step (R2 : RSt K σ G2 H e L2) (hl : Le Gl G2) (hH : H D = some (.lst av)) (gD : G2 D = none) (ra : Rps K G2 H acc av La) (nn : (L2 ++ (D :: La)).Nodup) (x2 : Ext Lw G1 H1 G2 H (L2 ++ (D :: La)))
    (R' : RSt K σ' G' H' e' L') (x : Ext L2 G2 H G' H' L') : LI K σ' Lw G1 H1 D Gl acc e' H' := by
  have dOwn : ∀ {a : Addr}, a ∈ D :: La → G2 a = none ∧ H a ≠ none := fun {a} z => by
    rcases List.mem_cons.mp z with e | e
    · subst e; exact ⟨gD, by rw [hH]; simp⟩
    · exact ra.own a e
  have apart : ∀ {a : Addr}, a ∈ D :: La → a ∉ L2 := fun {a} z y => (List.nodup_append.mp nn).2.2 a y a z rfl
  have stay : ∀ a ∈ D :: La, G' a = none ∧ H' a = H a := fun a z => x.keep (apart z) (dOwn z).1 (dOwn z).2
  exact ⟨G', L', av, La, R', hl.trans x.le, by rw [(stay D (List.mem_cons_self ..)).2]; exact hH, (stay D (List.mem_cons_self ..)).1, ra.mono x.le fun a z => stay a (List.mem_cons_of_mem _ z), lc_nd x R'.nd nn dOwn, lc_ext x2 x⟩
theorem LI.le (h : LI K σ Lw G1 H1 D Gl acc e H) : Le Gl H := by
  obtain ⟨G2, L2, av, La, R2, hl, _⟩ := h
  exact hl.trans R2.le
theorem LI.low {Gl' : Hp} (h : LI K σ Lw G1 H1 D Gl acc e H) (l : Le Gl' Gl) : LI K σ Lw G1 H1 D Gl' acc e H := by
  obtain ⟨G2, L2, av, La, R2, hl, r⟩ := h
  exact ⟨G2, L2, av, La, R2, l.trans hl, r⟩
theorem LI.wipe (h : LI K σ Lw G1 H1 D Gl acc e H) (vs : List Nat) : LI K (wipe σ vs) Lw G1 H1 D Gl acc (wpE vs e) H := by
  obtain ⟨G2, L2, av, La, R2, hl, hH, gD, ra, nn, x2⟩ := h
  obtain ⟨L6, rw6, sw6⟩ := R2.rep.wipe vs
  exact li_step R2 hl hH gD ra nn x2 (σ' := _root_.L2.wipe σ vs) ⟨R2.le, rw6, R2.nd.sublist sw6⟩ (Ext.refl fun b z => sw6.subset z)
theorem LI.test {FC : En → Option (Bool × En)} {b : Bool} {Q : Bool → Hp → Prop} (h : LI K σ Lw G1 H1 D Gl acc e H) (hf : FC e = some (b, e')) (k : ∀ H', LI K σ Lw G1 H1 D Gl acc e' H' → Q b H') : tT K false FC σ H Q := by
  obtain ⟨G2, L2, av, La, R2, hl, hH, gD, ra, nn, x2⟩ := h
  exact ⟨G2, e, L2, R2, b, e', hf, fun G5 H5 L5 R5 st5 x5 => k H5 (li_step R2 hl hH gD ra nn x2 R5 x5)⟩
theorem LI.target {FT : Pz.D → En → Option En} {items : List Pz.D} {i : Nat} {x : V} {H3 : Hp} {Q : St → Hp → Prop} (h : LI K σ Lw G1 H1 D Gl acc e H) (y : YD K Gl items i H x H3)
    (hf : ∀ dx, items[i]? = some dx → ∃ e4, FT dx e = some e4 ∧ ∀ σ4 H4, Keep W σ σ4 → LI K σ4 Lw G1 H1 D Gl acc e4 H4 → Q σ4 H4) : tG K W FT x σ H3 Q := by
  obtain ⟨G2, L2, av, La, R2, hl, hH, gD, ra, nn, x2⟩ := h
  obtain ⟨G3, dx, hd, fr, rd⟩ := y G2 hl R2.le
  obtain ⟨e4, q, k⟩ := hf dx hd
  have x3 : Ext L2 G2 H G3 H3 L2 := fr.ext' fun a z => .inl z
  exact ⟨G3, e, L2, dx, [], R2.fresh fr, rd, by simpa using (R2.fresh fr).nd, e4, q, fun σ4 G4 H4 L4 R4 k4 x4 => k σ4 H4 k4 (li_step R2 hl hH gD ra nn x2 R4 (x3.trans x4 fun a z => .inl (by simpa using z)))⟩
theorem LI.iter {FI : En → Option (List Pz.D × En)} {items : List Pz.D} {R : It → Hp → Prop} (h : LI K σ Lw G1 H1 D Gl acc e H) (hf : FI e = some (items, e'))
    (k : ∀ J H' Gn, Le Gl Gn → LI K σ Lw G1 H1 D Gn acc e' H' → Walk J items.length (fun H'' => Le Gn H'') (YD K Gn items) → R J H') : tI K FI σ H R := by
  obtain ⟨G2, L2, av, La, R2, hl, hH, gD, ra, nn, x2⟩ := h
  refine ⟨G2, e, L2, R2, items, e', hf, fun J G' H' L' R' x w => k J H' G' (hl.trans x.le) ?_ w⟩
  exact li_step R2 hl hH gD ra nn x2 R' x |>.elim fun G3 h => by
    obtain ⟨L3, av3, La3, R3, _, hH3, gD3, ra3, nn3, x3⟩ := h
    have hG := li_step (Gl := G2) R2 (Le.refl _) hH gD ra nn x2 R' x
    have dOwn : ∀ {a : Addr}, a ∈ D :: La → G2 a = none ∧ H a ≠ none := fun {a} z => by
      rcases List.mem_cons.mp z with e | e
      · subst e; exact ⟨gD, by rw [hH]; simp⟩
      · exact ra.own a e
    have apart : ∀ {a : Addr}, a ∈ D :: La → a ∉ L2 := fun {a} z y => (List.nodup_append.mp nn).2.2 a y a z rfl
    have stay : ∀ a ∈ D :: La, G' a = none ∧ H' a = H a := fun a z => x.keep (apart z) (dOwn z).1 (dOwn z).2
    exact ⟨G', L', av, La, R', Le.refl _, by rw [(stay D (List.mem_cons_self ..)).2]; exact hH, (stay D (List.mem_cons_self ..)).1, ra.mono x.le fun a z => stay a (List.mem_cons_of_mem _ z), lc_nd x R'.nd nn dOwn, lc_ext x2 x⟩
theorem LI.elem {FE : En → Option (Pz.D × En)} {d : Pz.D} {s2 : Bool} {P : Hp → Prop} (h : LI K σ Lw G1 H1 D Gl acc e H) (hD : H1 D = none) (hf : FE e = some (d, e')) (hlt : acc.length < sizeLine) (k : ∀ H', LI K σ Lw G1 H1 D Gl (acc ++ [d]) e' H' → P H') :
    tE K true s2 FE σ H fun y H4 => ∃ av, H4 D = some (.lst av) ∧ av.length < sizeLine ∧ P (upd H4 D (.lst (av ++ [y]))) := by
  obtain ⟨G2, L2, av, La, R2, hl, hH, gD, ra, nn, x2⟩ := h
  refine ⟨G2, e, L2, R2, d, e', hf, fun v G6 H6 L6 Lv R6 rv n6 st6 x6 => ?_⟩
  have dOwn : ∀ {a : Addr}, a ∈ D :: La → G2 a = none ∧ H a ≠ none := fun {a} z => by
    rcases List.mem_cons.mp z with e | e
    · subst e; exact ⟨gD, by rw [hH]; simp⟩
    · exact ra.own a e
  have apart : ∀ {a : Addr}, a ∈ D :: La → a ∉ L2 := fun {a} z y => (List.nodup_append.mp nn).2.2 a y a z rfl
  have s6 : ∀ a ∈ D :: La, G6 a = none ∧ H6 a = H a := fun a z => x6.keep (apart z) (dOwn z).1 (dOwn z).2
  have hD6 : H6 D = some (.lst av) := by rw [(s6 D (List.mem_cons_self ..)).2]; exact hH
  have gD6 := (s6 D (List.mem_cons_self ..)).1
  refine ⟨av, hD6, by rw [← ra.length]; exact hlt, k _ ?_⟩
  have nD : D ∉ L6 ++ Lv := fun z => by
    rcases x6.own D z with w | w
    · exact apart (List.mem_cons_self ..) w
    · exact (dOwn (List.mem_cons_self ..)).2 w
  have keepD : ∀ {a : Addr}, a ≠ D → upd H6 D (.lst (av ++ [v])) a = H6 a := fun {a} n => upd_ne n
  have nn6 : (L6 ++ Lv ++ (D :: La)).Nodup := lc_nd x6 (n6 rfl) nn dOwn
  have le7 : Le G6 (upd H6 D (.lst (av ++ [v]))) := fun a o e => by
    rw [keepD fun z => by rw [z, gD6] at e; cases e]
    exact R6.le a o e
  refine ⟨G6, L6, av ++ [v], La ++ Lv, ⟨le7, R6.rep.mono (Le.refl _) fun a z => ⟨(R6.rep.own a z).1, keepD fun e => nD (by rw [← e]; exact List.mem_append_left _ z)⟩, R6.nd⟩, hl.trans x6.le, upd_same, gD6, ?_, ?_, ?_⟩
  · have hLa : ∀ a ∈ La, a ≠ D := fun a z e => by
      have n1 := (List.nodup_append.mp nn).2.1
      rw [e] at z
      exact (List.nodup_cons.mp n1).1 z
    have p1 : Rps K G6 (upd H6 D (.lst (av ++ [v]))) acc av La := ra.mono x6.le fun a z => ⟨(s6 a (List.mem_cons_of_mem _ z)).1, (keepD (hLa a z)).trans (s6 a (List.mem_cons_of_mem _ z)).2⟩
    have p2 : Rp K G6 (upd H6 D (.lst (av ++ [v]))) d v Lv := rv.mono (Le.refl _) fun a z => ⟨(rv.own a z).1, keepD fun e => nD (by rw [← e]; exact List.mem_append_right _ z)⟩
    have p3 := p1.append (.cons (L1 := Lv) (L2 := []) p2 .nil)
    simpa using p3
  · refine (List.Perm.nodup_iff ?_).mp nn6
    rw [List.append_assoc]
    exact List.Perm.append_left _ (by simpa using List.perm_append_comm (l₁ := Lv) (l₂ := D :: La))
  · have z := lc_ext x2 x6
    refine ⟨z.le, fun b nb hb => ?_, z.gd, fun b hb => z.own b ?_⟩
    · rw [keepD fun e => hb (by rw [e]; exact hD)]
      exact z.fr b nb hb
    · simp only [List.mem_append, List.mem_cons] at hb ⊢
      rcases hb with w | w | w | w
      · exact .inl (.inl w)
      · exact .inr (.inl w)
      · exact .inr (.inr w)
      · exact .inl (.inr w)
theorem wpE_off {e : En} : ∀ {vs : List Nat} {i : Nat}, i ∉ vs → (wpE vs e)[i]? = e[i]?
  | [], _, _ => rfl
  | v :: vs, i, h => by
    unfold wpE
    rw [List.getElem?_set_ne fun e => h (by simp [e])]
    exact wpE_off fun z => h (by simp [z])
theorem wpE_wpE {e : En} {vs : List Nat} : wpE vs (wpE vs e) = wpE vs e := by
  refine List.ext_getElem? fun j => ?_
  by_cases hj : j ∈ vs
  · by_cases hl : j < e.length
    · rw [wpE_at hj (by rw [wpE_length]; exact hl), wpE_at hj hl]
    · rw [List.getElem?_eq_none (by rw [wpE_length, wpE_length]; omega), List.getElem?_eq_none (by rw [wpE_length]; omega)]
  · rw [wpE_off hj, wpE_off hj]
theorem keep_wipe {σ σ4 : St} (k4 : Keep W (wipe σ vs) σ4) (hW : ∀ j ∈ W, j ∈ vs) : wipe σ4 vs = wipe σ vs := by
  refine List.ext_getElem? fun j => ?_
  by_cases hj : j ∈ vs
  · by_cases hl : j < σ.length
    · rw [wipe_at hj (by rw [k4.1, wipe_length]; exact hl), wipe_at hj hl]
    · rw [List.getElem?_eq_none (by rw [wipe_length, k4.1, wipe_length]; omega), List.getElem?_eq_none (by rw [wipe_length]; omega)]
  · rw [wipe_off hj]
    exact (k4.2 j fun z => hj (hW j z)).trans rfl
theorem wipe_wipe {σ : St} {vs vs1 : List Nat} (h : ∀ i ∈ vs1, i ∈ vs) : wipe (wipe σ vs1) vs = wipe σ vs := by
  refine List.ext_getElem? fun j => ?_
  by_cases hj : j ∈ vs
  · by_cases hl : j < σ.length
    · rw [wipe_at hj (by rw [wipe_length]; exact hl), wipe_at hj hl]
    · rw [List.getElem?_eq_none (by rw [wipe_length, wipe_length]; omega), List.getElem?_eq_none (by rw [wipe_length]; omega)]
  · rw [wipe_off hj, wipe_off hj, wipe_off fun z => hj (h j z)]
end
/-! ### the function -/
def lcL2 (vs vs1 : List Nat) (FT : D → En → Option En) (FC : En → Option (Bool × En)) (FI1 : En → Option (List D × En)) (FT1 : D → En → Option En) (FC1 : En → Option (Bool × En)) (FE : En → Option (D × En)) : List D → List D → En → Option (List D × En)
  | acc, [], env => some (acc, env)
  | acc, x :: xs, env => (FT x env).bind fun e1 => (FC e1).bind fun c => if c.1 = true then (FI1 c.2).bind fun b => if lineOk (acc.length + b.1.length) = true then (lcL vs1 FT1 FC1 FE acc b.1 (wpE vs1 b.2)).bind fun r => lcL2 vs vs1 FT FC FI1 FT1 FC1 FE r.1 xs (wpE vs r.2) else none
    else lcL2 vs vs1 FT FC FI1 FT1 FC1 FE acc xs (wpE vs c.2)
def lcF2 (vs vs1 : List Nat) (FI : En → Option (List D × En)) (FT : D → En → Option En) (FC : En → Option (Bool × En)) (FI1 : En → Option (List D × En)) (FT1 : D → En → Option En) (FC1 : En → Option (Bool × En)) (FE : En → Option (D × En)) : En → Option (D × En) := fun env =>
  (FI env).bind fun a => if okE vs 0 a.2 = true then (lcL2 vs vs1 FT FC FI1 FT1 FC1 FE [] a.1 (wpE vs a.2)).map fun r => (.lst true r.1, mgE vs 0 a.2 r.2) else none
section
variable {K : PySem.W.Frag}
theorem lc2_lift {vs vs1 W W1 : List Nat} {FI FI1 : En → Option (List D × En)} {FT FT1 : D → En → Option En} {FC FC1 : En → Option (Bool × En)} {FE : En → Option (D × En)} {s2 : Bool} (hW : ∀ j ∈ W, j ∈ vs) (hW1 : ∀ j ∈ W1, j ∈ vs1) (hv : ∀ i ∈ vs1, i ∈ vs)
    (σ : St) (H : Hp) (Q : VK) (h : tE K true false (lcF2 vs vs1 FI FT FC FI1 FT1 FC1 FE) σ H Q) :
    tLc2 (tI K FI) (tG K W FT) (tT K false FC) (tI K FI1) (tG K W1 FT1) (tT K false FC1) (tE K true s2 FE) vs vs1 σ H Q := by
  obtain ⟨G, env, L, R, d, env', hf, k⟩ := h
  unfold lcF2 at hf
  cases q : FI env with
  | none => rw [q] at hf; simp at hf
  | some r =>
  obtain ⟨items, e0⟩ := r
  rw [q] at hf
  simp only [Option.bind_some] at hf
  split at hf
  case isFalse => cases hf
  rename_i hok
  cases q2 : lcL2 vs vs1 FT FC FI1 FT1 FC1 FE [] items (wpE vs e0) with
  | none => rw [q2] at hf; simp at hf
  | some r =>
  obtain ⟨res, ef⟩ := r
  rw [q2] at hf
  simp only [Option.map_some, Option.some.injEq, Prod.mk.injEq] at hf
  obtain ⟨rfl, rfl⟩ := hf
  refine ⟨G, env, L, R, items, e0, q, fun J G1 H1 L1 R1 x1 w D hD => ?_⟩
  obtain ⟨Lw, rw0, sw0⟩ := R1.rep.wipe vs
  have f0 := Fresh.lst R1.le hD (.lst [])
  have Rw : RSt K (wipe σ vs) G1 (upd H1 D (.lst [])) (wpE vs e0) Lw := ⟨f0.le', rw0.mono f0.le fun a z => f0.keepOf (rw0.own a z), R1.nd.sublist sw0⟩
  have gD : G1 D = none := R1.le.none hD
  have st0 : LI K (wipe σ vs) Lw G1 H1 D G1 [] (wpE vs e0) (upd H1 D (.lst [])) := ⟨G1, Lw, [], [], Rw, Le.refl _, upd_same, gD, .nil, f0.nodup (R1.nd.sublist sw0) fun a z => (rw0.own a z).2, f0.ext' fun a z => by
      rcases List.mem_append.mp z with z | z
      · exact .inl z
      · exact .inr (f0.new a z)⟩
  -- the outer turns
  refine ⟨fun i m H2 => m = items.length - i ∧ i ≤ items.length ∧ ∃ acc e2, LI K (wipe σ vs) Lw G1 H1 D G1 acc e2 H2 ∧ (∃ e3, e2 = wpE vs e3) ∧ lcL2 vs vs1 FT FC FI1 FT1 FC1 FE acc (items.drop i) e2 = some (res, ef), ⟨items.length, by simp, Nat.zero_le _, [], wpE vs e0, st0, ⟨_, rfl⟩, by simpa using q2⟩, ?_⟩
  rintro i m H2 ⟨rfl, hi, acc, e2, li, ⟨e3, he3⟩, h2⟩
  by_cases hlt : i < items.length
  case neg =>
    have e : i = items.length := by omega
    subst e
    refine .inl ⟨w.stops H2 li.le, ?_⟩
    rw [List.drop_length] at h2
    simp only [lcL2, Option.some.injEq, Prod.mk.injEq] at h2
    obtain ⟨rfl, rfl⟩ := h2
    subst he3
    obtain ⟨G2, L2, av, La, R2, l2, hH, gD2, ra, nn, x2⟩ := li
    have m := REnv.merge (vs := vs) (n := 0) R1.rep R2.rep l2 (by rw [R1.rep.length, R2.rep.length, wipe_length]) hok (fun i hi hl => by
      rw [Nat.zero_add] at hi
      exact wpE_at (List.contains_iff_mem.mp hi) (by rw [wpE_length] at hl; exact hl)) fun i hi => by
      rw [Nat.zero_add] at hi
      exact wipe_off fun z => by rw [List.contains_iff_mem.mpr z] at hi; cases hi
    exact k (.ref D) G2 H2 L2 (D :: La) ⟨R2.le, m, R2.nd⟩ (.lstO gD2 hH ra) (fun _ => nn) (fun z => nomatch z) (x1.trans x2 fun a z => x1.own a (sw0.subset z))
  refine .inr ⟨w.goes i H2 hlt li.le, fun H' => ∃ acc e2, LI K (wipe σ vs) Lw G1 H1 D G1 acc e2 H' ∧ (∃ e3, e2 = wpE vs e3) ∧ lcL2 vs vs1 FT FC FI1 FT1 FC1 FE acc (items.drop (i + 1)) e2 = some (res, ef), fun H' p => ⟨items.length - (i + 1), by omega, rfl, hlt, p⟩, fun x H3 y => ?_⟩
  refine li.target (w.yields i H2 x H3 hlt li.le y) fun dx hd => ?_
  have e1 : items.drop i = dx :: items.drop (i + 1) := by
    obtain ⟨hl, hd'⟩ := List.getElem?_eq_some_iff.mp hd
    rw [← hd', List.getElem_cons_drop]
  rw [e1] at h2
  simp only [lcL2] at h2
  cases q3 : FT dx e2 with
  | none => rw [q3] at h2; simp at h2
  | some e4 =>
  rw [q3] at h2
  simp only [Option.bind_some] at h2
  refine ⟨e4, rfl, fun σ4 H4 k4 li4 => ?_⟩
  have wq := keep_wipe k4 hW
  refine ⟨wq, ?_⟩
  cases q4 : FC e4 with
  | none => rw [q4] at h2; simp at h2
  | some c =>
  obtain ⟨c, e5⟩ := c
  rw [q4] at h2
  simp only [Option.bind_some] at h2
  refine li4.test q4 fun H5 li5 => ?_
  cases c with
  | false =>
    rw [if_neg (by decide)] at h2
    rw [if_neg (by decide)]
    have := li5.wipe vs
    rw [wq] at this
    exact ⟨acc, _, this, ⟨_, rfl⟩, h2⟩
  | true =>
  rw [if_pos rfl] at h2
  rw [if_pos rfl]
  cases q5 : FI1 e5 with
  | none => rw [q5] at h2; simp at h2
  | some b =>
  obtain ⟨items1, e6⟩ := b
  rw [q5] at h2
  simp only [Option.bind_some] at h2
  split at h2
  case isFalse => cases h2
  rename_i hln
  have hln := lineOk_le hln
  cases q6 : lcL vs1 FT1 FC1 FE acc items1 (wpE vs1 e6) with
  | none => rw [q6] at h2; simp at h2
  | some r =>
  obtain ⟨acc7, e7⟩ := r
  rw [q6] at h2
  simp only [Option.bind_some] at h2
  refine li5.iter q5 fun J1 H6 Gn hn li6 w1 => ?_
  have st1 := li6.wipe vs1
  -- the inner turns
  refine ⟨fun j k H7 => k = items1.length - j ∧ j ≤ items1.length ∧ ∃ acc8 e8, (∃ σ8, wipe σ8 vs = wipe σ vs ∧ LI K σ8 Lw G1 H1 D Gn acc8 e8 H7 ∧ (j = 0 ∨ σ8 = wipe σ4 vs1) ∧ (j = 0 → wipe σ8 vs1 = wipe σ4 vs1)) ∧ acc8.length ≤ acc.length + j ∧ lcL vs1 FT1 FC1 FE acc8 (items1.drop j) (wpE vs1 e8) = some (acc7, e7) ∧ (j ≠ 0 → ∃ e9, e8 = wpE vs1 e9), ⟨items1.length, by simp, Nat.zero_le _, acc, e6, ⟨σ4, wq, li6, .inl rfl, fun _ => rfl⟩, by omega, by simpa using q6, fun h => absurd rfl h⟩, ?_⟩
  rintro j m1 H7 ⟨rfl, hj, acc8, e8, ⟨σ8, wq8, li8, hs8, hs9⟩, hal, h8, _⟩
  have sw : wipe σ8 vs1 = wipe σ4 vs1 := by
    rcases hs8 with z | z
    · exact hs9 z
    · rw [z]; exact wipe_wipe fun _ h => h
  have li8' : LI K (wipe σ4 vs1) Lw G1 H1 D Gn acc8 (wpE vs1 e8) H7 := by rw [← sw]; exact li8.wipe vs1
  by_cases hlt1 : j < items1.length
  case neg =>
    have e : j = items1.length := by omega
    subst e
    refine .inl ⟨w1.stops H7 li8.le, ?_⟩
    rw [List.drop_length] at h8
    simp only [lcL, Option.some.injEq, Prod.mk.injEq] at h8
    obtain ⟨rfl, rfl⟩ := h8
    have := (li8'.low hn).wipe vs
    rw [wipe_wipe hv, wq] at this
    exact ⟨acc8, _, this, ⟨_, rfl⟩, h2⟩
  refine .inr ⟨w1.goes j H7 hlt1 li8.le, fun H' => ∃ acc8 e8, (∃ σ8, wipe σ8 vs = wipe σ vs ∧ LI K σ8 Lw G1 H1 D Gn acc8 e8 H' ∧ (j + 1 = 0 ∨ σ8 = wipe σ4 vs1) ∧ (j + 1 = 0 → wipe σ8 vs1 = wipe σ4 vs1)) ∧ acc8.length ≤ acc.length + (j + 1) ∧ lcL vs1 FT1 FC1 FE acc8 (items1.drop (j + 1)) (wpE vs1 e8) = some (acc7, e7) ∧ (j + 1 ≠ 0 → ∃ e9, e8 = wpE vs1 e9), fun H' p => ⟨items1.length - (j + 1), by omega, rfl, hlt1, p⟩, fun x H8 y => ?_⟩
  refine li8'.target (w1.yields j H7 x H8 hlt1 li8.le y) fun dx1 hd1 => ?_
  have e1' : items1.drop j = dx1 :: items1.drop (j + 1) := by
    obtain ⟨hl, hd'⟩ := List.getElem?_eq_some_iff.mp hd1
    rw [← hd', List.getElem_cons_drop]
  rw [e1'] at h8
  simp only [lcL] at h8
  cases p3 : FT1 dx1 (wpE vs1 e8) with
  | none => rw [p3] at h8; simp at h8
  | some e9 =>
  rw [p3] at h8
  simp only [Option.bind_some] at h8
  refine ⟨e9, rfl, fun σ9 H9 k9 li9 => ?_⟩
  have wq9 := keep_wipe k9 hW1
  refine ⟨wq9, ?_⟩
  cases p4 : FC1 e9 with
  | none => rw [p4] at h8; simp at h8
  | some c1 =>
  obtain ⟨c1, e10⟩ := c1
  rw [p4] at h8
  simp only [Option.bind_some] at h8
  refine li9.test p4 fun H10 li10 => ?_
  have wq4 : wipe (wipe σ4 vs1) vs = wipe σ vs := by rw [wipe_wipe hv, wq]
  cases c1 with
  | false =>
    rw [if_neg (by decide)] at h8
    rw [if_neg (by decide)]
    have := li10.wipe vs1
    rw [wq9] at this
    exact ⟨acc8, _, ⟨_, wq4, this, .inr rfl, fun z => nomatch z⟩, by omega, by
      have e : wpE vs1 (wpE vs1 e10) = wpE vs1 e10 := wpE_wpE
      rw [e]; exact h8, fun _ => ⟨_, rfl⟩⟩
  | true =>
    rw [if_pos rfl] at h8
    rw [if_pos rfl]
    cases p5 : FE e10 with
    | none => rw [p5] at h8; simp at h8
    | some u =>
    obtain ⟨du, e11⟩ := u
    rw [p5] at h8
    simp only [Option.bind_some] at h8
    refine li10.elem (s2 := s2) (P := fun H' => ∃ acc8 e8, (∃ σ8, wipe σ8 vs = wipe σ vs ∧ LI K σ8 Lw G1 H1 D Gn acc8 e8 H' ∧ (j + 1 = 0 ∨ σ8 = wipe σ4 vs1) ∧ (j + 1 = 0 → wipe σ8 vs1 = wipe σ4 vs1)) ∧ acc8.length ≤ acc.length + (j + 1) ∧ lcL vs1 FT1 FC1 FE acc8 (items1.drop (j + 1)) (wpE vs1 e8) = some (acc7, e7) ∧ (j + 1 ≠ 0 → ∃ e9, e8 = wpE vs1 e9)) hD p5 (by omega) fun H11 li11 => ?_
    have := li11.wipe vs1
    rw [wq9] at this
    exact ⟨acc8 ++ [du], _, ⟨_, wq4, this, .inr rfl, fun z => nomatch z⟩, by simp; omega, by
      have e : wpE vs1 (wpE vs1 e11) = wpE vs1 e11 := wpE_wpE
      rw [e]; exact h8, fun _ => ⟨_, rfl⟩⟩
end
end
end Pz

set_option Elab.async false
set_option linter.all false
set_option maxRecDepth 100000
set_option maxHeartbeats 1000000
namespace Pz
open PySem L2
noncomputable section
section
variable {X : Cx} {elt tg iter tg1 iter1 : Expr} {ifs ifs1 : List Expr} {scope : Scope} {own : List (Str × Nat)} {pos spos py : Pos} {FI FI1 : En → Option (List D × En)} {FT FT1 : D → En → Option En} {FC FC1 : En → Option (Bool × En)} {FE : En → Option (D × En)} {W W1 vs1 : List Nat} {s2 : Bool} {i : Nat} {y : Str}
theorem ev_lc2 (hc : X.calm = true) (hN : X.N.Nodup) (hi : Iv X tg iter FI) (ok : BlkOk X.N X.env.scope scope own) (hv : ∀ i ∈ vs1, i ∈ own.map (·.2))
    (hg : ∀ (s : Shared) (H : Hp) (C : Addr) (cl : List (Str × Addr)) (fp : List Addr), Gv (X.blk s H scope (compEnvC scope cl C X.env) fp) W tg FT) (ht : ∀ (s : Shared) (H : Hp) (C : Addr) (cl : List (Str × Addr)) (fp : List Addr), Cv (X.blk s H scope (compEnvC scope cl C X.env) fp) ifs FC)
    (hi1 : ∀ (s : Shared) (H : Hp) (C : Addr) (cl : List (Str × Addr)) (fp : List Addr), Iv (X.blk s H scope (compEnvC scope cl C X.env) fp) tg1 iter1 FI1)
    (hg1 : ∀ (s : Shared) (H : Hp) (C : Addr) (cl : List (Str × Addr)) (fp : List Addr), Gv (X.blk s H scope (compEnvC scope cl C X.env) fp) W1 tg1 FT1) (ht1 : ∀ (s : Shared) (H : Hp) (C : Addr) (cl : List (Str × Addr)) (fp : List Addr), Cv (X.blk s H scope (compEnvC scope cl C X.env) fp) ifs1 FC1)
    (he : ∀ (s : Shared) (H : Hp) (C : Addr) (cl : List (Str × Addr)) (fp : List Addr), Ev (X.blk s H scope (compEnvC scope cl C X.env) fp) true s2 elt FE) (hW : ∀ j ∈ W, j ∈ own.map (·.2)) (hW1 : ∀ j ∈ W1, j ∈ vs1)
    (hs : ∀ x, foldedSetIterable iter X.env x = pure x := by intro _; rfl) (hs1 : ∀ env x, foldedSetIterable iter1 env x = pure x := by intro _ _; rfl) :
    Ev X true false (.ListComp elt [⟨tg, iter, ifs, 0⟩, ⟨tg1, iter1, ifs1, 0⟩] scope pos) (lcF2 (own.map (·.2)) vs1 FI FT FC FI1 FT1 FC1 FE) := peM (pe_lc2 hc hN hi ok hv hg ht hi1 hg1 ht1 he hs hs1) fun σ H Q h => lc2_lift hW hW1 hv σ H Q h
theorem sv_setLc2 (hc : X.calm = true) (hN : X.N.Nodup) (hy : X.N[i]? = some y) (hyl : X.env.scope.names.lookup y = some .local)
    (hsw : swapsWith (.ListComp elt [⟨tg, iter, ifs, 0⟩, ⟨tg1, iter1, ifs1, 0⟩] scope pos) (some (.Name y py)) spos.line X.env = pure true) (hi : Iv X tg iter FI) (ok : BlkOk X.N X.env.scope scope own) (hv : ∀ i ∈ vs1, i ∈ own.map (·.2))
    (hg : ∀ (s : Shared) (H : Hp) (C : Addr) (cl : List (Str × Addr)) (fp : List Addr), Gv (X.blk s H scope (compEnvC scope cl C X.env) fp) W tg FT) (ht : ∀ (s : Shared) (H : Hp) (C : Addr) (cl : List (Str × Addr)) (fp : List Addr), Cv (X.blk s H scope (compEnvC scope cl C X.env) fp) ifs FC)
    (hi1 : ∀ (s : Shared) (H : Hp) (C : Addr) (cl : List (Str × Addr)) (fp : List Addr), Iv (X.blk s H scope (compEnvC scope cl C X.env) fp) tg1 iter1 FI1)
    (hg1 : ∀ (s : Shared) (H : Hp) (C : Addr) (cl : List (Str × Addr)) (fp : List Addr), Gv (X.blk s H scope (compEnvC scope cl C X.env) fp) W1 tg1 FT1) (ht1 : ∀ (s : Shared) (H : Hp) (C : Addr) (cl : List (Str × Addr)) (fp : List Addr), Cv (X.blk s H scope (compEnvC scope cl C X.env) fp) ifs1 FC1)
    (he : ∀ (s : Shared) (H : Hp) (C : Addr) (cl : List (Str × Addr)) (fp : List Addr), Ev (X.blk s H scope (compEnvC scope cl C X.env) fp) true s2 elt FE) (hW : ∀ j ∈ W, j ∈ own.map (·.2)) (hW1 : ∀ j ∈ W1, j ∈ vs1)
    (hs : ∀ x, foldedSetIterable iter X.env x = pure x := by intro _; rfl) (hs1 : ∀ env x, foldedSetIterable iter1 env x = pure x := by intro _ _; rfl) :
    Sv X [i] (.Assign [.Name y py] (.ListComp elt [⟨tg, iter, ifs, 0⟩, ⟨tg1, iter1, ifs1, 0⟩] scope pos) spos) (stF (lcF2 (own.map (·.2)) vs1 FI FT FC FI1 FT1 FC1 FE) (put i)) :=
  psM (ps_setLc2 hc hN hy hyl hsw hi ok hv hg ht hi1 hg1 ht1 he hs hs1) fun D σ H h => by
    obtain ⟨G, env, L, R, fl, env', hff, k⟩ := h
    unfold stF at hff
    cases q : lcF2 (own.map (·.2)) vs1 FI FT FC FI1 FT1 FC1 FE env with
    | none => rw [q] at hff; simp at hff
    | some r =>
    obtain ⟨d, e1⟩ := r
    rw [q] at hff
    simp only [Option.bind_some] at hff
    cases q2 : put i d e1 with
    | none => rw [q2] at hff; simp at hff
    | some e2 =>
    rw [q2] at hff
    simp only [Option.map_some, Option.some.injEq, Prod.mk.injEq] at hff
    obtain ⟨rfl, rfl⟩ := hff
    refine lc2_lift (s2 := s2) hW hW1 hv σ H _ ⟨G, env, L, R, d, e1, q, fun v G1 H1 L1 Lr R1 r1 n1 st1 x1 => ?_⟩
    obtain ⟨L', R', ss⟩ := R1.put r1 (n1 rfl) q2
    exact k _ G1 H1 L' R' set_keep (x1.sub fun a z => x1.own a (ss a z))
end
/-! ### in -/
def rInT (K : PySem.W.Frag) : R2 := fun x y H Q => ∃ d ds, Dp K H x d ∧ Dp K H y (.tuple ds) ∧ SeqAt.shaped d = true ∧ SeqAt.shaped (.tuple ds) = true ∧ Q (.bl (ds.any fun z => PyData.eqv z d)) H
def rNotInT (K : PySem.W.Frag) : R2 := fun x y H Q => ∃ d ds, Dp K H x d ∧ Dp K H y (.tuple ds) ∧ SeqAt.shaped d = true ∧ SeqAt.shaped (.tuple ds) = true ∧ Q (.bl (!ds.any fun z => PyData.eqv z d)) H
section
variable {X : Cx}
theorem op_inT (hu : X.A.units + 65 < cLine) : OpR X (compareOp .In) (rInT X.K) := by
  intro pins s σ H x y v u Q I rx ry h
  obtain ⟨d, ds, hd, he, sd, se, q⟩ := h
  obtain ⟨as, r1⟩ := Dp.reads I d x v hd rx
  obtain ⟨bs, r2⟩ := Dp.reads I (.tuple ds) y u he ry
  exact SeqAt.in_tuple_reads r2 r1 (SeqAt.canLay_of_shaped se) (SeqAt.canLay_of_shaped sd) (PyProof.Rows.room_in_shaped sd hu) ⟨.bl _, H, I, rfl, q⟩
theorem op_notInT (hu : X.A.units + 65 < cLine) : OpR X (compareOp .NotIn) (rNotInT X.K) := by
  intro pins s σ H x y v u Q I rx ry h
  obtain ⟨d, ds, hd, he, sd, se, q⟩ := h
  obtain ⟨as, r1⟩ := Dp.reads I d x v hd rx
  obtain ⟨bs, r2⟩ := Dp.reads I (.tuple ds) y u he ry
  exact SeqAt.notIn_tuple_reads r2 r1 (SeqAt.canLay_of_shaped se) (SeqAt.canLay_of_shaped sd) (PyProof.Rows.room_in_shaped sd hu) ⟨.bl _, H, I, rfl, q⟩
end
def anyD (xs : List D) (a : D) : Bool := xs.any fun x => PyData.eqv x.py a.py
def dIn : D → D → Option D
  | a, .lst o xs => if shp a = true ∧ shp (.lst o xs) = true then some (.bl (anyD xs a)) else none
  | a, .tup xs => if shp a = true ∧ shp (.tup xs) = true then some (.bl (anyD xs a)) else none
  | _, _ => none
def dNin : D → D → Option D
  | a, .lst o xs => if shp a = true ∧ shp (.lst o xs) = true then some (.bl (!anyD xs a)) else none
  | a, .tup xs => if shp a = true ∧ shp (.tup xs) = true then some (.bl (!anyD xs a)) else none
  | _, _ => none
section
variable {K : PySem.W.Frag} {X : Cx}
theorem pys_any (a : PyData) : ∀ xs : List D, ((D.pys xs).any fun z => PyData.eqv z a) = xs.any fun x => PyData.eqv x.py a
  | [] => rfl
  | x :: xs => by simp only [D.pys, List.any_cons, pys_any a xs]
abbrev rInX (K : PySem.W.Frag) : R2 := fun x y H Q => rInD K x y H Q ∨ rInT K x y H Q
abbrev rNotInX (K : PySem.W.Frag) : R2 := fun x y H Q => rNotInD K x y H Q ∨ rNotInT K x y H Q
theorem opr_in (hu : X.A.units + 65 < cLine) : OpR X (compareOp .In) (rInX X.K) := (op_inD hu).or (op_inT hu)
theorem opr_nin (hu : X.A.units + 65 < cLine) : OpR X (compareOp .NotIn) (rNotInX X.K) := (op_notInD hu).or (op_notInT hu)
theorem o2_in : Op2 K (rInX K) dIn := by
  intro G H a b c x y La Lb Q l ra rb e k
  unfold dIn at e
  split at e
  · split at e
    · rename_i h; cases e
      refine .inl ⟨_, _, ra.dps l h.1, rb.dps l h.2, h.1, h.2, ?_⟩
      rw [pys_any]
      exact fin l k (.bl _)
    · cases e
  · split at e
    · rename_i h; cases e
      refine .inr ⟨_, _, ra.dps l h.1, rb.dps l h.2, h.1, h.2, ?_⟩
      rw [pys_any]
      exact fin l k (.bl _)
    · cases e
  · cases e
theorem o2_nin : Op2 K (rNotInX K) dNin := by
  intro G H a b c x y La Lb Q l ra rb e k
  unfold dNin at e
  split at e
  · split at e
    · rename_i h; cases e
      refine .inl ⟨_, _, ra.dps l h.1, rb.dps l h.2, h.1, h.2, ?_⟩
      rw [pys_any]
      exact fin l k (.bl _)
    · cases e
  · split at e
    · rename_i h; cases e
      refine .inr ⟨_, _, ra.dps l h.1, rb.dps l h.2, h.1, h.2, ?_⟩
      rw [pys_any]
      exact fin l k (.bl _)
    · cases e
  · cases e
end
/-! ### bits -/
def shOk (i j : Int) : Bool := tst (CPow i j)
def dShl : D → D → Option D
  | .int i, .int j => if shOk i j = true then some (.int (i * 2 ^ j.toNat)) else none
  | _, _ => none
def dShr : D → D → Option D
  | .int i, .int j => if 0 ≤ j then some (.int (i / 2 ^ j.toNat)) else none
  | _, _ => none
def dAnd : D → D → Option D
  | .int i, .int j => some (.int (Builtin.bitAnd i j))
  | _, _ => none
section
variable {K : PySem.W.Frag}
theorem o2_shl : Op2 K (rI CPow fun i j => .int (i * 2 ^ j.toNat)) dShl := o2_int fun a b c e => by
  unfold dShl at e; split at e
  · split at e
    · rename_i h; cases e; exact ⟨_, _, rfl, rfl, of_tst h, rfl⟩
    · cases e
  · cases e
theorem o2_shr : Op2 K (rI (fun _ j => 0 ≤ j) fun i j => .int (i / 2 ^ j.toNat)) dShr := o2_int fun a b c e => by
  unfold dShr at e; split at e
  · split at e
    · rename_i h; cases e; exact ⟨_, _, rfl, rfl, h, rfl⟩
    · cases e
  · cases e
theorem o2_and : Op2 K (rI0 fun i j => .int (Builtin.bitAnd i j)) dAnd := o2_int0 fun a b c e => by
  unfold dAnd at e; split at e <;> cases e; exact ⟨_, _, rfl, rfl, rfl⟩
end
/-! ### enumerate, range with a step -/
def fenum : List D → Option (List D)
  | [.lst _ xs] => some (((D.fzs xs).zipIdx).map fun p => .tup [.int (p.2 : Int), p.1])
  | _ => none
def rng3 : List D → Option (List D)
  | [.int i, .int j, .int c] => if rgOk i = true ∧ rgOk j = true ∧ c = -1 then some ((List.range (i - j).toNat).map fun k : Nat => .int (i + (k : Int) * c)) else none
  | _ => none
section
variable {X : Cx} {tg e e2 e3 : Expr} {FA : En → Option (List D × En)} {s : Bool}
theorem iv_enum {p pos tpos : Pos} {elts : List Expr} {kk : Nat} (hg : Gl X "enumerate") (hm : X.mg "enumerate" = none) (ha : Av X true s [e] FA) (hs : starEach [e] X.env = [(false, eval e X.env)] := by rfl) :
    Iv X (.Tuple elts kk tpos) (.Call (.Name "enumerate" p) [e] [] pos) (inF fenum FA) := piM (pi_enum hg hm ha hs) fun σ H Rr ⟨G, env, L, R, items, env', hf, k⟩ => by
  obtain ⟨da, h1, h3⟩ := inF_some hf
  refine ⟨G, env, L, R, da, env', h1, fun x G1 H1 L1 La R1 ra n1 st1 x1 => ?_⟩
  unfold fenum at h3
  split at h3
  · rename_i o a
    cases h3
    have R2 := R1.give (n1 rfl)
    have x2 := x1.give R1.le
    have rz := ra.fz (G' := frG G1 H1 La) (H' := H1) (frG_le R1.le) fun a z => frG_in z
    obtain ⟨v, rfl, r⟩ := rz.one
    have r : Rp X.K (frG G1 H1 La) H1 (.lst false (D.fzs a)) v [] := r
    cases r with
    | @lstF p vs _ sa qa =>
    refine ⟨p, vs, rfl, SqL.of (R2.le _ _ sa), k _ _ H1 L1 R2 x2 ?_⟩
    have w := walk_enum (K := X.K) (a := p) (xs := vs)
    have hl : (((D.fzs a).zipIdx).map fun p => D.tup [.int (p.2 : Int), p.1]).length = vs.length := by simp [qa.length]
    rw [hl]
    refine w.mono (fun H' l => SqL.of (l _ _ sa)) fun i H' x H'' hi l y => fun G3 l1 l2 => ?_
    obtain ⟨T, u, z, rfl, nT, rfl, e1, e2⟩ := y
    cases e1
    obtain ⟨d, L1, q1, r1, s1⟩ := qa.getV e2
    obtain rfl := List.sublist_nil.mp s1
    have f := Fresh.laid l2 nT (.tup [.int (i : Nat), z])
    refine ⟨_, .tup [.int (i : Int), d], by rw [List.getElem?_map, List.getElem?_zipIdx, q1]; simp, f, .tup (.inl (.inl upd_same)) ?_⟩
    exact .cons (L1 := []) (L2 := []) (.int _) (.cons (L1 := []) (L2 := []) ((r1.mono l1 fun _ z => nomatch z : Rp X.K G3 H' d z []).fresh f) .nil)
  · cases h3
theorem iv_range3 {p pos : Pos} (hg : Gl X "range") (hm : X.mg "range" = none) (ha : Av X true s [e, e2, e3] FA)
    (hs : starEach [e, e2, e3] X.env = (false, eval e X.env) :: starEach [e2, e3] X.env := by rfl) (hpl : (backTo pos (starEach [e2, e3] X.env)).any (·.1) = false := by rfl) :
    Iv X tg (.Call (.Name "range" p) [e, e2, e3] [] pos) (inF rng3 FA) := piM (pi_range3 hg hm ha hs hpl) fun σ H Rr ⟨G, env, L, R, items, env', hf, k⟩ => by
  obtain ⟨da, h1, h3⟩ := inF_some hf
  refine ⟨G, env, L, R, da, env', h1, fun x G1 H1 L1 La R1 ra n1 st1 x1 => ?_⟩
  unfold rng3 at h3
  split at h3
  · rename_i i j c
    split at h3
    case isFalse => cases h3
    rename_i hh
    obtain ⟨hi, hj, rfl⟩ := hh
    cases h3
    cases ra with
    | cons r1 rs =>
    obtain ⟨rfl, rfl⟩ := r1.int_inv
    obtain ⟨v2, w2, L3, L4, rfl, r2, r3, rfl⟩ := rs.two
    obtain ⟨rfl, rfl⟩ := r2.int_inv
    obtain ⟨rfl, rfl⟩ := r3.int_inv
    obtain ⟨a1, a2⟩ := rgOk_of hi
    obtain ⟨b1, b2⟩ := rgOk_of hj
    refine ⟨i, j, -1, (i - j).toNat, rfl, RgC.neg a1 a2 b1 b2, k _ G1 H1 L1 R1 (by simpa using x1) ?_⟩
    have w := walk_rangeC (lo := i) (c := -1) (n := (i - j).toNat)
    rw [List.length_map, List.length_range]
    refine w.mono (fun _ _ => True.intro) fun k H' x H'' hk l y => fun G3 l1 l2 => ?_
    obtain ⟨rfl, rfl⟩ := y
    exact ⟨G3, .int (i + (k : Int) * -1), by simp [List.getElem?_range, hk], Fresh.refl l2, .int _⟩
  · cases h3
end
end
end Pz
namespace Pz
open PySem L2
theorem hu65 {k : Nat} {A : Around} (hr : Room k A) : A.units + 65 < cLine := by have := hr.un; omega
end Pz

set_option Elab.async false
set_option linter.all false
set_option maxRecDepth 100000
set_option maxHeartbeats 1000000
namespace Pz
open PySem L2
noncomputable section
theorem lcL2_map {α β : Type} {vs vs1 : List Nat} {FT FT1 : D → En → Option En} {FI1 : En → Option (List D × En)} {FE : En → Option (D × En)} {e0 : En} (f : α → D) (f1 : β → D) (g : α → β → D) (zs : List β) :
    ∀ (ys : List α) (acc : List D), acc.length + ys.length * zs.length ≤ 16777216 →
      (∀ y ∈ ys, ∃ e1 e2, FT (f y) e0 = some e1 ∧ FI1 e1 = some (zs.map f1, e2) ∧ (∀ z ∈ zs, ∃ e3 e4, FT1 (f1 z) (wpE vs1 e2) = some e3 ∧ FE e3 = some (g y z, e4) ∧ wpE vs1 e4 = wpE vs1 e2) ∧ wpE vs (wpE vs1 e2) = e0) →
      lcL2 vs vs1 FT yesF FI1 FT1 yesF FE acc (ys.map f) e0 = some (acc ++ ys.flatMap fun y => zs.map (g y), e0)
  | [], acc, _, _ => by simp [lcL2]
  | y :: ys, acc, hl, h => by
    obtain ⟨e1, e2, h1, h2, h3, h4⟩ := h y (List.mem_cons_self ..)
    simp only [List.length_cons, Nat.add_mul, Nat.one_mul] at hl
    have q1 := lcL_map (vs := vs1) (FT := FT1) (FE := FE) f1 (g y) zs acc h3
    have q := lcL2_map (vs := vs) (vs1 := vs1) (FT := FT) (FI1 := FI1) (FT1 := FT1) (FE := FE) f f1 g zs ys (acc ++ zs.map (g y)) (by simp; omega) fun z hz => h z (List.mem_cons_of_mem _ hz)
    have lo : lineOk (acc.length + (zs.map f1).length) = true := tst_of (by simp; omega)
    simp only [List.map_cons, lcL2, h1, Option.bind_some, yesF, if_true, h2, lo, q1, h4, q]
    simp
theorem lcF2_map {α β : Type} {vs vs1 : List Nat} {FI FI1 : En → Option (List D × En)} {FT FT1 : D → En → Option En} {FE : En → Option (D × En)} {env env' : En} (f : α → D) (f1 : β → D) (g : α → β → D) (ys : List α) (zs : List β)
    (hI : FI env = some (ys.map f, env')) (hk : okE vs 0 env' = true) (hl : ys.length * zs.length ≤ 16777216)
    (h : ∀ y ∈ ys, ∃ e1 e2, FT (f y) (wpE vs env') = some e1 ∧ FI1 e1 = some (zs.map f1, e2) ∧ (∀ z ∈ zs, ∃ e3 e4, FT1 (f1 z) (wpE vs1 e2) = some e3 ∧ FE e3 = some (g y z, e4) ∧ wpE vs1 e4 = wpE vs1 e2) ∧ wpE vs (wpE vs1 e2) = wpE vs env') :
    lcF2 vs vs1 FI FT yesF FI1 FT1 yesF FE env = some (.lst true (ys.flatMap fun y => zs.map (g y)), mgE vs 0 env' (wpE vs env')) := by
  unfold lcF2
  rw [hI]
  simp only [Option.bind_some, hk, if_true]
  rw [lcL2_map f f1 g zs ys [] (by simpa using hl) h]
  simp
/-! ### sums -/
def rsum : List Rat → Rat
  | [] => 0
  | x :: l => x + rsum l
theorem rsum_append : ∀ a b : List Rat, rsum (a ++ b) = rsum a + rsum b
  | [], b => by simp [rsum]; grind
  | x :: a, b => by simp only [List.cons_append, rsum, rsum_append a b]; grind
theorem rsum_perm {a b : List Rat} (h : a.Perm b) : rsum a = rsum b := by
  induction h with
  | nil => rfl
  | cons x _ ih => simp only [rsum, ih]
  | swap x y l => simp only [rsum]; grind
  | trans _ _ h1 h2 => rw [h1, h2]
theorem rsum_map_add {α : Type} (f g : α → Rat) : ∀ l : List α, rsum (l.map fun x => f x + g x) = rsum (l.map f) + rsum (l.map g)
  | [] => by simp [rsum]; grind
  | x :: l => by simp only [List.map_cons, rsum, rsum_map_add f g l]; grind
theorem rsum_map_mul {α : Type} (f : α → Rat) (c : Rat) : ∀ l : List α, rsum (l.map fun x => c * f x) = c * rsum (l.map f)
  | [] => by simp [rsum]
  | x :: l => by simp only [List.map_cons, rsum, rsum_map_mul f c l]; grind
theorem rsum_map_neg {α : Type} (f : α → Rat) : ∀ l : List α, rsum (l.map fun x => - f x) = - rsum (l.map f)
  | [] => by simp [rsum]
  | x :: l => by simp only [List.map_cons, rsum, rsum_map_neg f l]; grind
theorem rsum_zero {α : Type} (f : α → Rat) : ∀ l : List α, (∀ x ∈ l, f x = 0) → rsum (l.map f) = 0
  | [], _ => rfl
  | x :: l, h => by
    simp only [List.map_cons, rsum, h x (by simp), rsum_zero f l fun y hy => h y (by simp [hy])]; grind
theorem rsum_filter {α : Type} (f : α → Rat) (c : α → Bool) : ∀ l : List α, (∀ x ∈ l, c x = false → f x = 0) → rsum ((l.filter c).map f) = rsum (l.map f)
  | [], _ => rfl
  | x :: l, h => by
    have ih := rsum_filter f c l fun y hy => h y (by simp [hy])
    cases hc : c x with
    | true => simp only [List.filter_cons, hc, if_true, List.map_cons, rsum, ih]
    | false => simp only [List.filter_cons, hc, List.map_cons, rsum, ih, h x (by simp) hc]; simp; grind
theorem rsum_flatMap {α : Type} (f : α → List Rat) : ∀ l : List α, rsum (l.flatMap f) = rsum (l.map fun x => rsum (f x))
  | [] => rfl
  | x :: l => by simp only [List.flatMap_cons, rsum_append, List.map_cons, rsum, rsum_flatMap f l]
theorem foldl_rsum {α : Type} (f : α → Rat) : ∀ (l : List α) (s : Rat), l.foldl (fun s x => s + f x) s = s + rsum (l.map f)
  | [], s => by simp [rsum]; grind
  | x :: l, s => by rw [List.foldl_cons, foldl_rsum f l]; simp only [List.map_cons, rsum]; grind
/-- one place of a list without doubles -/
theorem rsum_at {α : Type} [DecidableEq α] (f : α → Rat) (a : α) (v : Rat) : ∀ l : List α, l.Nodup → a ∈ l → rsum (l.map fun x => if a = x then f x + v else f x) = rsum (l.map f) + v
  | [], _, h => by simp at h
  | x :: l, hn, h => by
    obtain ⟨h1, h2⟩ := List.nodup_cons.mp hn
    simp only [List.map_cons, rsum]
    by_cases e : a = x
    · subst e
      have e2 : (l.map fun x => if a = x then f x + v else f x) = l.map f := List.map_congr_left fun y hy => if_neg (show ¬ a = y from fun z => h1 (z ▸ hy))
      rw [e2]; simp; grind
    · rw [if_neg e, rsum_at f a v l h2 ((List.mem_cons.mp h).resolve_left e)]; grind
theorem rpow_add (x : Rat) (m n : Nat) : x ^ (m + n) = x ^ m * x ^ n := by
  induction n with
  | zero => simp
  | succ n ih => rw [← Nat.add_assoc, Rat.pow_succ, ih, Rat.pow_succ]; grind
theorem rmul_pow (x y : Rat) (n : Nat) : (x * y) ^ n = x ^ n * y ^ n := by
  induction n with
  | zero => simp
  | succ n ih => rw [Rat.pow_succ, ih, Rat.pow_succ, Rat.pow_succ]; grind
end
end Pz

set_option Elab.async false
set_option linter.all false
set_option maxRecDepth 100000
set_option maxHeartbeats 4000000
namespace L2
open PySem PySem.Spec PyProof.Rows
theorem tuple_mul1 (l : Addr) (items : Array Value) (n : Nat) (dd : Option Addr) (sl : Array (Option Value)) (u : Tok) (c1 : (items.isEmpty || (1 : Int) == 1) = true) :
    Meets (Builtin.«tuple.__mul__» ⟨[.ref l, .int 1 u], []⟩) (fun _ R s => s.heap.get? l = some { cls := .type "tuple", dict := dd, data := .seq items n, slots := sl } ∧
      R (.ok (.ret (Value.ref l))) s) :=
  .of_wp fun prog w A R s h => by
    obtain ⟨hp, g, d, tk, os⟩ := s
    obtain ⟨hl, h⟩ := h
    have f1 := AutoSeq1.idx_int
    wp_walk using wpAny_loadPart' hl
    repeat (first
      | (refine wpAny_ite_false (by decide) ?_; wp_walk using wpAny_loadPart' hl)
      | (refine wpAny_ite_true (decide_eq_true c1) ?_; wp_walk using wpAny_loadPart' hl))
    exact ⟨_, rfl, h⟩
end L2
namespace Pz
open PySem PySem.Spec PyProof.Rows L2
def rRepT1 (K : PySem.W.Frag) : R2 := fun x y H Q => ∃ l xs, x = .ref l ∧ y = .int 1 ∧ SqT K H l xs ∧ Q (.ref l) H
abbrev rRepX (K : PySem.W.Frag) : R2 := fun x y H Q => rRepT1 K x y H Q ∨ rRepT K x y H Q
section
variable {X : Cx}
theorem op_repT1 : OpR X (binaryOp .Mult) (rRepT1 X.K) := by
  intro pins s σ H x y v u Q I rx ry h
  obtain ⟨l, xs, rfl, rfl, hq, q⟩ := h
  cases rx
  obtain ⟨t, rfl⟩ := ry
  obtain ⟨its, r, ⟨⟨cls, dd, data, sl⟩, ho, hc, n, hd⟩, hs⟩ := I.tuple hq
  simp only at hc hd
  subst hc hd
  refine wpAny_binaryOp_repeat_ref (T := "tuple") (U := "int") (by decide) ⟨_, ho, rfl⟩ (fun s' => typeIs_int s' 1 t) noFill_tuple_mul F.fills_int_mul F.slot_int_rmul repeat_tuple F.slot_int_index.lookup
    (call_meets F.slot_int_rmul (typeIs_int s 1 t) F.entry_int_rmul (F.args_int_rmul_2 _ _) (int_rmul_tuple 1 t l its.toArray n dd sl)
      ⟨ho, rfl, ⟨_, ho, rfl⟩, call_meets F.slot_tuple_mul ⟨_, ho, rfl⟩ F.entry_tuple_mul (F.args_tuple_mul_2 _ _) (tuple_mul1 l its.toArray n dd sl t (by simp)) ⟨ho, ?_⟩⟩)
  exact ⟨.ref l, H, I, rfl, q⟩
theorem opr_tmu : OpR X (binaryOp .Mult) (rRepX X.K) := op_repT1.or op_repT
end
noncomputable section
def tmuOk (n : Nat) (k : Int) : Bool := tst (0 < n ∧ 1 ≤ k ∧ k ≤ 1000 ∧ n ≤ 1000)
/-- a tuple some times -/
def dTmu : D → D → Option D
  | .tup a, .int k => if D.pures a = true ∧ tmuOk a.length k = true then some (.tup (List.replicate k.toNat a).flatten) else none
  | _, _ => none
section
variable {K : PySem.W.Frag} {G H : Hp}
theorem Rps.rep {ds : List D} {vs : List V} (r : Rps K G H ds vs []) : ∀ k : Nat, Rps K G H (List.replicate k ds).flatten (List.replicate k vs).flatten []
  | 0 => .nil
  | k + 1 => by
    rw [List.replicate_succ, List.replicate_succ, List.flatten_cons, List.flatten_cons]
    simpa using r.append (Rps.rep r k)
theorem o2_tmu : Op2 K (rRepX K) dTmu := by
  intro G H a b c x y La Lb Q l ra rb e k
  unfold dTmu at e
  split at e
  · rename_i a m
    split at e
    · rename_i h
      cases e
      obtain ⟨p, vs, rfl, sa, qa⟩ := ra.tup_inv
      obtain ⟨rfl, rfl⟩ := rb.int_inv
      obtain rfl := qa.pure_nil h.1
      have ha := qa.length
      obtain ⟨h0, h1, h2, h3⟩ := of_tst h.2
      by_cases h4 : m = 1
      · subst h4
        refine .inl ⟨p, vs, rfl, rfl, l.sqT sa, ?_⟩
        have e1 : (List.replicate (1 : Int).toNat a).flatten = a := by simp
        rw [e1] at k
        exact fin l k (.tup sa qa)
      · refine .inr ⟨p, m, vs, rfl, rfl, l.sqT sa, fun z => ?_, by omega, h2, by omega, fun t nt => ?_⟩
        · subst z
          simp only [List.length_nil] at ha
          omega
        · have f := Fresh.laid l nt (.tup (List.replicate m.toNat vs).flatten)
          exact k _ _ _ _ f (.tup (.inl (.inl upd_same)) ((Rps.rep qa m.toNat).fresh f))
    · cases e
  · cases e
end
theorem dTmu_eq {a : List D} {k : Nat} (hp : D.pures a = true) (h0 : 0 < a.length) (h1 : 1 ≤ k) (h2 : k ≤ 1000) (h3 : a.length ≤ 1000) : dTmu (.tup a) (.int k) = some (.tup (List.replicate k a).flatten) := by
  have t : tmuOk a.length k = true := tst_of ⟨h0, by omega, by omega, h3⟩
  simp only [dTmu, hp, t, and_self, if_true, Int.toNat_natCast]
end
end Pz

set_option Elab.async false
set_option linter.all false
set_option maxRecDepth 100000
set_option maxHeartbeats 4000000
namespace Pz
open PySem PySem.Spec PyProof.Rows L2 RZ
/-- a sequence: a tuple (true) or a list (false) -/
def SqK (k : Bool) (h : Heap) (l : Addr) (xs : Array Value) : Prop := match k with | true => h.IsTuple l xs | false => h.IsList l xs
/-- what runs over it -/
def SiK (k : Bool) (h : Heap) (i l : Addr) (n : Nat) : Prop := match k with | true => h.IsTupleIter i l n | false => h.IsListIter i l n
theorem SqK.fr {k : Bool} {h g : Heap} {l : Addr} {xs : Array Value} (x : SqK k h l xs) (e : ∀ o, h.get? l = some o → g.get? l = some o) : SqK k g l xs := by
  cases k <;> exact match x with | ⟨o, ho, r⟩ => ⟨o, e o ho, r⟩
theorem SiK.fr {k : Bool} {h g : Heap} {i l : Addr} {n : Nat} (x : SiK k h i l n) (e : ∀ o, h.get? i = some o → g.get? i = some o) : SiK k g i l n := by
  cases k <;> exact match x with | ⟨o, ho, r⟩ => ⟨o, e o ho, r⟩
theorem SiK.lt {k : Bool} {h : Heap} {i l : Addr} {n : Nat} (x : SiK k h i l n) : i < h.objs.size := by
  cases k <;> exact match x with | ⟨o, ho, r⟩ => Heap.lt_size ho
theorem SqK.lt {k : Bool} {h : Heap} {l : Addr} {xs : Array Value} (x : SqK k h l xs) : l < h.objs.size := by
  cases k <;> exact match x with | ⟨o, ho, r⟩ => Heap.lt_size ho
def But (S : List Addr) (h g : Heap) : Prop := ∀ c o, c ∉ S → h.get? c = some o → g.get? c = some o
section
variable {prog : Program} {w : World} {A : Around} {E : Value → Shared → Prop} {s : Shared}
theorem nxK {k : Bool} {i l : Addr} {n : Nat} {xs : Array Value} {x : Value} {R : Value → Shared → Prop} (a : SiK k s.heap i l n) (c : SqK k s.heap l xs) (hx : xs[n]? = some x)
    (r : ∀ g, SiK k g i l (n + 1) → Heap.SameBut i s.heap g → R x { s with heap := g }) : wpAny (model prog w) A (Builtin.SmallTypes.nextOf (.ref i)) R E s := by
  cases k
  · exact wpAny_nextOf_list_item a c hx r
  · exact nextOf_tuple_item a c hx r
theorem nxKe {k : Bool} {i l : Addr} {n : Nat} {xs : Array Value} {R : Value → Shared → Prop} (no : A.handled = none) (a : SiK k s.heap i l n) (c : SqK k s.heap l xs) (hx : xs[n]? = none)
    (r : ∀ g e, Heap.ExtBut i s.heap g → (∃ o, g.get? e = some o ∧ o.cls = .type "StopIteration") → E (.ref e) { s with heap := g }) : wpAny (model prog w) A (Builtin.SmallTypes.nextOf (.ref i)) R E s := by
  cases k
  · exact wpAny_nextOf_list_end no a c hx r
  · exact nextOf_tuple_end no a c hx r
variable {k1 k2 : Bool} {q pI pO i1 i2 l1 l2 : Addr} {n1 n2 : Nat} {xs ys : Array Value} {u v x y : Value}
/-- the state of such a zip -/
structure Zk (k1 k2 : Bool) (h : Heap) (q pI pO i1 i2 l1 l2 : Addr) (n1 n2 : Nat) (xs ys : Array Value) : Prop where
  ap : ZipApart q pI pO i1 i2 l1 l2
  z : IsZip h q pI pO .none
  pI : IsPair h pI (.ref i1) (.ref i2)
  pO : ∃ u v, IsPair h pO u v
  a1 : SiK k1 h i1 l1 n1
  a2 : SiK k2 h i2 l2 n2
  c1 : SqK k1 h l1 xs
  c2 : SqK k2 h l2 ys
theorem zk_item {R : Value → Shared → Prop} (Z : Zk k1 k2 s.heap q pI pO i1 i2 l1 l2 n1 n2 xs ys) (hx : xs[n1]? = some x) (hy : ys[n2]? = some y)
    (r : ∀ g, IsZip g q pI pO (rawInt s.heap.objs.size) → IsPair g pO x y → SiK k1 g i1 l1 (n1 + 1) → SiK k2 g i2 l2 (n2 + 1) → IsPair g s.heap.objs.size x y → g.objs.size = s.heap.objs.size + 1 → But [q, pO, i1, i2] s.heap g →
      R (.ref s.heap.objs.size) { s with heap := g }) :
    wpAny (model prog w) A (Builtin.«zip.__next__» ⟨[.ref q], []⟩) (fun fin t => ∃ v, fin = .done (.ret v) ∧ R v t) E s := by
  obtain ⟨D, hq, hI, ⟨u, v, hO⟩, a1, a2, c1, c2⟩ := Z
  show wpAny _ _ (field (.ref q) 2 >>= _) _ _ _
  refine wpAny_bind (wpAny_field hq rfl (x := .bool false) rfl ?_)
  show wpAny _ _ (field (.ref q) 3 >>= _) _ _ _
  refine wpAny_bind (wpAny_field hq rfl (x := .ref pI) rfl ?_)
  refine wpAny_bind (wpAny_seqItems hI rfl ?_)
  show wpAny _ _ (Builtin.SmallTypes.ownedTupleIsFree (.ref q) >>= _) _ _ _
  refine wpAny_bind ?_; unfold Builtin.SmallTypes.ownedTupleIsFree
  refine wpAny_bind (wpAny_field hq rfl (x := .none) rfl (wpAny_pure ?_)); simp only [if_true]
  refine wpAny_bind (wpAny_rule ?_)
  refine wpAny_bind (wpAny_field hq rfl (x := .ref pO) rfl ?_)
  refine wpAny_bind (wpAny_setField_rec hq (by simp) fun g1 hq1 b1 => ?_)
  replace hq1 : IsZip g1 q pI pO .ellipsis := hq1
  refine wpAny_bind ?_; simp only [List.forIn_cons, List.forIn_nil, List.zipIdx_cons, List.zipIdx_nil]
  refine wpAny_bind (wpAny_bind (wpAny_onRaise ?_)); show wpAny _ _ (Builtin.SmallTypes.nextOf (.ref i1) >>= _) _ _ _
  refine wpAny_bind (nxK (a1.fr fun o e => b1.extBut _ _ D.i1z e) (c1.fr fun o e => b1.extBut _ _ D.l1z e) hx fun g2 a1 b2 => wpAny_pure ?_)
  have hO2 : IsPair g2 pO u v := b2.extBut _ _ D.TOi1 (b1.extBut _ _ D.TOz hO)
  refine wpAny_bind (wpAny_seqItems hO2 rfl ?_)
  refine wpAny_bind (wpAny_updateSeq_pair hO2 fun g3 hO3 b3 => ?_)
  replace hO3 : IsPair g3 pO x v := hO3
  apply wpAny_bind; refine wpAny_letGo (wpAny_pure ?_)
  refine wpAny_bind (wpAny_bind (wpAny_onRaise ?_)); show wpAny _ _ (Builtin.SmallTypes.nextOf (.ref i2) >>= _) _ _ _
  refine wpAny_bind (nxK (a2.fr fun o e => b3.extBut _ _ D.TOi2.symm (b2.extBut _ _ D.i12.symm (b1.extBut _ _ D.i2z e))) (c2.fr fun o e => b3.extBut _ _ D.l2TO (b2.extBut _ _ D.l2i1 (b1.extBut _ _ D.l2z e))) hy fun g4 a2 b4 => wpAny_pure ?_)
  have hO4 : IsPair g4 pO x v := b4.extBut _ _ D.TOi2 hO3
  refine wpAny_bind (wpAny_seqItems hO4 rfl ?_)
  refine wpAny_bind (wpAny_updateSeq_pair hO4 fun g5 hO5 b5 => ?_)
  replace hO5 : IsPair g5 pO x y := hO5
  apply wpAny_bind; refine wpAny_letGo (wpAny_pure (wpAny_pure ?_))
  refine wpAny_bind (wpAny_seqItems hO5 rfl ?_)
  apply wpAny_bind; refine wpAny_newTuple ?_
  have sz : g5.objs.size = s.heap.objs.size := by rw [b5.1, b4.1, b3.1, b2.1, b1.1]
  have hq5 : IsZip g5 q pI pO .ellipsis := b5.extBut _ _ D.TOz.symm (b4.extBut _ _ D.i2z.symm (b3.extBut _ _ D.TOz.symm (b2.extBut _ _ D.i1z.symm hq1)))
  have but5 : But [q, pO, i1, i2] s.heap g5 := fun c o hc e => by
    simp only [List.mem_cons, List.not_mem_nil, or_false, not_or] at hc
    obtain ⟨d1, d2, d3, d4⟩ := hc
    exact b5.extBut _ _ d2 (b4.extBut _ _ d4 (b3.extBut _ _ d2 (b2.extBut _ _ d3 (b1.extBut _ _ d1 e))))
  have a1' : SiK k1 g5 i1 l1 (n1 + 1) := a1.fr fun o e => b5.extBut _ _ D.TOi1.symm (b4.extBut _ _ D.i12 (b3.extBut _ _ D.TOi1.symm e))
  have a2' : SiK k2 g5 i2 l2 (n2 + 1) := a2.fr fun o e => b5.extBut _ _ D.TOi2.symm e
  have ql : q < g5.objs.size := Heap.lt_size hq5
  show wpAny _ _ (Builtin.SmallTypes.ownedTupleHandOut (.ref q) (.ref g5.objs.size) >>= _) _ _ _
  refine wpAny_bind ?_; unfold Builtin.SmallTypes.ownedTupleHandOut
  have hq6 : IsZip (g5.push { cls := .type "tuple", data := .seq #[x, y] }) q pI pO .ellipsis := Heap.get?_push_of_some _ hq5
  refine wpAny_bind (wpAny_setField_rec hq6 (by simp) fun g7 hq7 b7 => ?_)
  replace hq7 : IsZip g7 q pI pO (rawInt g5.objs.size) := hq7
  refine wpAny_setField_rec hq7 (by simp) fun g8 hq8 b8 => ?_
  replace hq8 : IsZip g8 q pI pO (rawInt g5.objs.size) := hq8
  have up : ∀ c o, c ≠ q → g5.get? c = some o → g8.get? c = some o := fun c o d e => b8.extBut _ _ d (b7.extBut _ _ d (Heap.get?_push_of_some _ e))
  have nw : IsPair g8 g5.objs.size x y := b8.extBut _ _ (Nat.ne_of_gt ql) (b7.extBut _ _ (Nat.ne_of_gt ql) (Heap.get?_push_size _ rfl))
  have s8 : g8.objs.size = g5.objs.size + 1 := by rw [b8.1, b7.1, Heap.size_push]
  rw [sz] at hq8 nw s8
  refine wpAny_pure ⟨_, rfl, ?_⟩
  show R (.ref g5.objs.size) _
  rw [sz]
  exact r g8 hq8 (up _ _ D.TOz hO5) (a1'.fr fun o e => up _ o D.i1z e) (a2'.fr fun o e => up _ o D.i2z e) nw s8 fun c o hc e => up c o (fun z => hc (by simp [z])) (but5 c o hc e)
theorem zk_end {R : Fin → Shared → Prop} (no : A.handled = none) (Z : Zk k1 k2 s.heap q pI pO i1 i2 l1 l2 n1 n2 xs ys) (fin : xs[n1]? = none ∨ ys[n2]? = none)
    (r : ∀ g e, But [q, pO, i1, i2] s.heap g → (∃ o, g.get? e = some o ∧ o.cls = .type "StopIteration") → E (.ref e) { s with heap := g }) :
    wpAny (model prog w) A (Builtin.«zip.__next__» ⟨[.ref q], []⟩) R E s := by
  obtain ⟨D, hq, hI, ⟨u, v, hO⟩, a1, a2, c1, c2⟩ := Z
  show wpAny _ _ (field (.ref q) 2 >>= _) _ _ _
  refine wpAny_bind (wpAny_field hq rfl (x := .bool false) rfl ?_)
  show wpAny _ _ (field (.ref q) 3 >>= _) _ _ _
  refine wpAny_bind (wpAny_field hq rfl (x := .ref pI) rfl ?_)
  refine wpAny_bind (wpAny_seqItems hI rfl ?_)
  show wpAny _ _ (Builtin.SmallTypes.ownedTupleIsFree (.ref q) >>= _) _ _ _
  refine wpAny_bind ?_; unfold Builtin.SmallTypes.ownedTupleIsFree
  refine wpAny_bind (wpAny_field hq rfl (x := .none) rfl (wpAny_pure ?_)); simp only [if_true]
  refine wpAny_bind (wpAny_rule ?_)
  refine wpAny_bind (wpAny_field hq rfl (x := .ref pO) rfl ?_)
  refine wpAny_bind (wpAny_setField_rec hq (by simp) fun g1 hq1 b1 => ?_)
  replace hq1 : IsZip g1 q pI pO .ellipsis := hq1
  refine wpAny_bind ?_; simp only [List.forIn_cons, List.forIn_nil, List.zipIdx_cons, List.zipIdx_nil]
  refine wpAny_bind (wpAny_bind (wpAny_onRaise ?_)); show wpAny _ _ (Builtin.SmallTypes.nextOf (.ref i1) >>= _) _ _ _
  cases hx : xs[n1]? with
  | none =>
    refine wpAny_bind (nxKe no (a1.fr fun o e => b1.extBut _ _ D.i1z e) (c1.fr fun o e => b1.extBut _ _ D.l1z e) hx fun g2 e b2 ⟨oe, he, ce⟩ => ?_)
    have hq2 : IsZip g2 q pI pO .ellipsis := b2 _ _ D.i1z.symm hq1
    have ne : e ≠ q := fun z => by rw [z, hq2] at he; cases he; simp at ce
    refine wpAny_setField_rec hq2 (by simp) fun g3 _ b3 => r g3 e (fun c o hc t => ?_) ⟨oe, b3.extBut _ _ ne he, ce⟩
    simp only [List.mem_cons, List.not_mem_nil, or_false, not_or] at hc
    exact b3.extBut _ _ hc.1 (b2 _ _ hc.2.2.1 (b1.extBut _ _ hc.1 t))
  | some x =>
    have hy : ys[n2]? = none := by
      rcases fin with t | t
      · rw [hx] at t; cases t
      · exact t
    refine wpAny_bind (nxK (a1.fr fun o e => b1.extBut _ _ D.i1z e) (c1.fr fun o e => b1.extBut _ _ D.l1z e) hx fun g2 a1 b2 => wpAny_pure ?_)
    have hO2 : IsPair g2 pO u v := b2.extBut _ _ D.TOi1 (b1.extBut _ _ D.TOz hO)
    refine wpAny_bind (wpAny_seqItems hO2 rfl ?_)
    refine wpAny_bind (wpAny_updateSeq_pair hO2 fun g3 hO3 b3 => ?_)
    apply wpAny_bind; refine wpAny_letGo (wpAny_pure ?_)
    refine wpAny_bind (wpAny_bind (wpAny_onRaise ?_)); show wpAny _ _ (Builtin.SmallTypes.nextOf (.ref i2) >>= _) _ _ _
    refine wpAny_bind (nxKe no (a2.fr fun o e => b3.extBut _ _ D.TOi2.symm (b2.extBut _ _ D.i12.symm (b1.extBut _ _ D.i2z e))) (c2.fr fun o e => b3.extBut _ _ D.l2TO (b2.extBut _ _ D.l2i1 (b1.extBut _ _ D.l2z e))) hy fun g4 e b4 ⟨oe, he, ce⟩ => ?_)
    have hq4 : IsZip g4 q pI pO .ellipsis := b4 _ _ D.i2z.symm (b3.extBut _ _ D.TOz.symm (b2.extBut _ _ D.i1z.symm hq1))
    have ne : e ≠ q := fun z => by rw [z, hq4] at he; cases he; simp at ce
    refine wpAny_setField_rec hq4 (by simp) fun g5 _ b5 => r g5 e (fun c o hc t => ?_) ⟨oe, b5.extBut _ _ ne he, ce⟩
    simp only [List.mem_cons, List.not_mem_nil, or_false, not_or] at hc
    exact b5.extBut _ _ hc.1 (b4 _ _ hc.2.2.2 (b3.extBut _ _ hc.2.1 (b2.extBut _ _ hc.2.2.1 (b1.extBut _ _ hc.1 t))))
theorem pyNext_zk {R : Option Value → Shared → Prop} (Z : Zk k1 k2 s.heap q pI pO i1 i2 l1 l2 n1 n2 xs ys) (hx : xs[n1]? = some x) (hy : ys[n2]? = some y)
    (r : ∀ g, IsZip g q pI pO (rawInt s.heap.objs.size) → IsPair g pO x y → SiK k1 g i1 l1 (n1 + 1) → SiK k2 g i2 l2 (n2 + 1) → IsPair g s.heap.objs.size x y → g.objs.size = s.heap.objs.size + 1 → But [q, pO, i1, i2] s.heap g →
      R (some (.ref s.heap.objs.size)) { s with heap := g }) : wpAny (model prog w) A (pyNext (.ref q)) R E s := by
  have ty : s.TypeIs (.ref q) "zip" := ⟨_, Z.z, rfl⟩
  unfold pyNext
  refine wpAny_bind (wpAny_attempt (wpAny_callSpecial?_slot (name := Str.ofString "__next__") ty F.slot_zip_next (wpAny_call_entry F.slot_zip_next ty F.entry_zip_next (zk_item Z hx hy fun g t1 t2 t3 t4 t5 t6 t7 => ?_) (F.args_zip_next_1 _))))
  exact wpAny_pure (r g t1 t2 t3 t4 t5 t6 t7)
theorem pyNext_zke {R : Option Value → Shared → Prop} (no : A.handled = none) (Z : Zk k1 k2 s.heap q pI pO i1 i2 l1 l2 n1 n2 xs ys) (fin : xs[n1]? = none ∨ ys[n2]? = none)
    (r : ∀ g, But [q, pO, i1, i2] s.heap g → R none { s with heap := g }) : wpAny (model prog w) A (pyNext (.ref q)) R E s := by
  have ty : s.TypeIs (.ref q) "zip" := ⟨_, Z.z, rfl⟩
  unfold pyNext
  refine wpAny_bind (wpAny_attempt (wpAny_callSpecial?_slot (name := Str.ofString "__next__") ty F.slot_zip_next (wpAny_call_entry F.slot_zip_next ty F.entry_zip_next (zk_end no Z fin fun g e b ⟨o, ho, ce⟩ => ?_) (F.args_zip_next_1 _))))
  refine wpAny_bind (wpAny_isInstance (T := "StopIteration") (b := true) ⟨o, ho, ce⟩ isSubtype_stop ?_)
  exact wpAny_pure (r _ b)
end
end Pz

set_option Elab.async false
set_option linter.all false
set_option maxRecDepth 100000
set_option maxHeartbeats 4000000
namespace Pz
open PySem PySem.Spec PyProof.Rows L2 RZ
/-! the call -/
def itN : Bool → String | true => "tuple_iterator" | false => "list_iterator"
def zkO (k : Bool) (l : Addr) : Obj := match k with | true => { cls := .type "tuple_iterator", data := .fields #[.ref l, .int 0 0] } | false => { cls := .type "list_iterator", data := .fields #[.ref l, .int 0 0] }
abbrev zk1 (k : Bool) (h : Heap) (a : Addr) : Heap := h.push (zkO k a)
abbrev zk2 (k m : Bool) (h : Heap) (a b : Addr) : Heap := (zk1 k h a).push (zkO m b)
abbrev zk3 (k m : Bool) (h : Heap) (a b : Addr) : Heap := (zk2 k m h a b).push { cls := .type "tuple", data := .seq #[.ref h.objs.size, .ref (zk1 k h a).objs.size] }
abbrev zk4 (k m : Bool) (h : Heap) (a b : Addr) : Heap := (zk3 k m h a b).push { cls := .type "tuple", data := .seq #[.none, .none] }
abbrev zk5 (k m : Bool) (h : Heap) (a b : Addr) : Heap := (zk4 k m h a b).push { cls := .type "zip", data := .fields #[.none, .bool false, .bool false, .ref (zk2 k m h a b).objs.size, .ref (zk3 k m h a b).objs.size] }
theorem meets_zk (k : Bool) (a b : Addr) (xs ys : Array Value) :
    Meets (Builtin.«zip.__new__» ⟨[.type "zip", .ref a, .ref b], []⟩) (fun _ R s => SqK k s.heap a xs ∧ SqK (!k) s.heap b ys ∧ R (.ok (.ret (.ref (zk4 k (!k) s.heap a b).objs.size))) { s with heap := zk5 k (!k) s.heap a b }) := by
  cases k
  · exact .of_wp fun prog w A R s h => by
      obtain ⟨hp, g, d, tk, os⟩ := s
      obtain ⟨p, q, h⟩ := h
      have hsub := sub_zip
      have P : Heap.IsList (Shared.heap ⟨hp, g, d, tk, os⟩) a xs := p
      have Q : Heap.IsTuple (Shared.heap ⟨hp.push { cls := .type "list_iterator", data := .fields #[.ref a, .int 0 0] }, g, d, tk, os⟩) b ys := Heap.IsTuple.push q _
      wp_walk using wpAny_pyIter_list P, wpAny_pyIter_tuple Q
      exact ⟨_, rfl, h⟩
  · exact .of_wp fun prog w A R s h => by
      obtain ⟨hp, g, d, tk, os⟩ := s
      obtain ⟨p, q, h⟩ := h
      have hsub := sub_zip
      have P : Heap.IsTuple (Shared.heap ⟨hp, g, d, tk, os⟩) a xs := p
      have Q : Heap.IsList (Shared.heap ⟨hp.push { cls := .type "tuple_iterator", data := .fields #[.ref a, .int 0 0] }, g, d, tk, os⟩) b ys := Heap.IsList.push q _
      wp_walk using wpAny_pyIter_tuple P, wpAny_pyIter_list Q
      exact ⟨_, rfl, h⟩
theorem zkO_it (k : Bool) {h : Heap} {i l : Addr} (e : h.get? i = some (zkO k l)) : SiK k h i l 0 := by
  cases k <;> exact ⟨_, e, rfl, rfl⟩
theorem zkO_free (k : Bool) (l : Addr) : (zkO k l).isFreed = false := by cases k <;> rfl
section
variable {prog : Program} {w : World} {A : Around} {E : Value → Shared → Prop} {s : Shared}
theorem call_zk {k : Bool} {a b : Addr} {xs ys : Array Value} {R : Value → Shared → Prop} (p : SqK k s.heap a xs) (q : SqK (!k) s.heap b ys)
    (r : ∀ g, Zk k (!k) g (s.heap.objs.size + 4) (s.heap.objs.size + 2) (s.heap.objs.size + 3) s.heap.objs.size (s.heap.objs.size + 1) a b 0 0 xs ys → (∀ c o, s.heap.get? c = some o → g.get? c = some o) → R (.ref (s.heap.objs.size + 4)) { s with heap := g }) :
    wpAny (model prog w) A (call (.type "zip") [.ref a, .ref b]) R E s := by
  refine callType_new F.called_zip (by decide) (F.typeCall_zip_2 _ _) (F.newCall_zip_2 _ _) (fun obj => F.args_object_init_3 obj _ _) F.entry_zip_new (meets_zk k a b xs ys) ⟨p, q, ?_⟩
  have s1 : (zk1 k s.heap a).objs.size = s.heap.objs.size + 1 := Heap.size_push ..
  have s2 : (zk2 k (!k) s.heap a b).objs.size = s.heap.objs.size + 2 := by rw [Heap.size_push, s1]
  have s3 : (zk3 k (!k) s.heap a b).objs.size = s.heap.objs.size + 3 := by rw [Heap.size_push, s2]
  have s4 : (zk4 k (!k) s.heap a b).objs.size = s.heap.objs.size + 4 := by rw [Heap.size_push, s3]
  have e5 : (zk5 k (!k) s.heap a b).get? (zk4 k (!k) s.heap a b).objs.size = some _ := Heap.get?_push_size _ rfl
  have e4 : (zk5 k (!k) s.heap a b).get? (zk3 k (!k) s.heap a b).objs.size = some _ := Heap.get?_push_of_some _ (Heap.get?_push_size _ rfl)
  have e3 : (zk5 k (!k) s.heap a b).get? (zk2 k (!k) s.heap a b).objs.size = some _ := Heap.get?_push_of_some _ (Heap.get?_push_of_some _ (Heap.get?_push_size _ rfl))
  have e2 : (zk5 k (!k) s.heap a b).get? (zk1 k s.heap a).objs.size = some (zkO (!k) b) := Heap.get?_push_of_some _ (Heap.get?_push_of_some _ (Heap.get?_push_of_some _ (Heap.get?_push_size _ (zkO_free _ _))))
  have e1 : (zk5 k (!k) s.heap a b).get? s.heap.objs.size = some (zkO k a) := Heap.get?_push_of_some _ (Heap.get?_push_of_some _ (Heap.get?_push_of_some _ (Heap.get?_push_of_some _ (Heap.get?_push_size _ (zkO_free _ _)))))
  have up : ∀ c o, s.heap.get? c = some o → (zk5 k (!k) s.heap a b).get? c = some o := fun c o x => Heap.get?_push_of_some _ (Heap.get?_push_of_some _ (Heap.get?_push_of_some _ (Heap.get?_push_of_some _ (Heap.get?_push_of_some _ x))))
  show _ ∧ _
  rw [s2, s3, s4] at e5
  rw [s1, s2] at e3
  rw [s3] at e4
  rw [s1] at e2
  rw [s4]
  exact ⟨⟨_, e5, rfl⟩, r _ ⟨PySem.W.ktu_apart s.heap.objs.size a b p.lt q.lt, e5, e3, ⟨_, _, e4⟩, zkO_it k e1, zkO_it _ e2, p.fr fun o => up _ o, q.fr fun o => up _ o⟩ up⟩
end
/-! what is seen of it -/
def SvK (k : Bool) (K : PySem.W.Frag) (H : Hp) (a : Addr) (xs : List V) : Prop := match k with | true => SqT K H a xs | false => SqL K H a xs
section
variable {X : Cx} {pins : List (Addr × Obj)} {σ : L2.St} {H : Hp} {s : Shared}
theorem SvK.at {k : Bool} {a : Addr} {xs : List V} (h : SvK k X.K H a xs) (I : Inv X pins σ H s) : ∃ its : List Value, Vals xs its ∧ SqK k s.heap a its.toArray := by
  cases k
  · obtain ⟨its, rv, p, _⟩ := I.list h
    exact ⟨its, rv, p.isList⟩
  · obtain ⟨its, rv, p, _⟩ := I.tuple h
    exact ⟨its, rv, p⟩
theorem SvK.inj {k : Bool} {a : Addr} {xs ys : List V} (I : Inv X pins σ H s) (h : SvK k X.K H a xs) (h' : SvK k X.K H a ys) : xs = ys := by
  cases k
  · exact I.list_inj h h'
  · exact I.tuple_inj h h'
end
def Izk (k m : Bool) (K : PySem.W.Frag) (a b : Addr) : It :=
  ⟨fun i H => ∃ (xs ys : List V) (x y : V), SvK k K H a xs ∧ SvK m K H b ys ∧ xs[i]? = some x ∧ ys[i]? = some y,
    fun i H v G => ∃ T x y, v = .ref T ∧ H T = none ∧ G = upd H T (.tup [x, y]) ∧ (∀ xs, SvK k K H a xs → xs[i]? = some x) ∧ ∀ ys, SvK m K H b ys → ys[i]? = some y,
    fun i H => ∃ xs ys : List V, SvK k K H a xs ∧ SvK m K H b ys ∧ (xs.length ≤ i ∨ ys.length ≤ i)⟩
/-- its own objects at the i-th turn -/
def Tzk (k m : Bool) (q pI pO i1 i2 a b : Addr) (i : Nat) (h : Heap) : Prop := ZipApart q pI pO i1 i2 a b ∧ IsZip h q pI pO .none ∧ IsPair h pI (.ref i1) (.ref i2) ∧ (∃ x y, IsPair h pO x y) ∧ SiK k h i1 a i ∧ SiK m h i2 b i
theorem SiK.obj {k : Bool} {h : Heap} {i l : Addr} {n : Nat} (x : SiK k h i l n) : ∃ o, h.get? i = some o ∧ ∀ v, o.data ≠ .cell v := by
  cases k <;> exact match x with | ⟨o, ho, _, d⟩ => ⟨o, ho, fun v z => by rw [d] at z; cases z⟩
theorem turn_zk {P : Program} {w : World} {K : PySem.W.Frag} {elts : List Expr} {kk : Nat} {tpos : Pos} {k m : Bool} {a b q pI pO i1 i2 : Addr} :
    Turn P w K (.Tuple elts kk tpos) (Izk k m K a b) [q, pI, pO, i1, i2] q (Tzk k m q pI pO i1 i2 a b) where
  mem := by simp
  obj := fun i h st c hc => by
    obtain ⟨_, hz, hI, ⟨x, y, hO⟩, t1, t2⟩ := st
    simp only [List.mem_cons, List.not_mem_nil, or_false] at hc
    rcases hc with rfl | rfl | rfl | rfl | rfl
    · exact ⟨_, hz, fun v z => nomatch z⟩
    · exact ⟨_, hI, fun v z => nomatch z⟩
    · exact ⟨_, hO, fun v z => nomatch z⟩
    · exact t1.obj
    · exact t2.obj
  keep := fun i h g st e => by
    obtain ⟨D, hz, hI, ⟨x, y, hO⟩, t1, t2⟩ := st
    exact ⟨D, e q (by simp) _ hz, e pI (by simp) _ hI, ⟨x, y, e pO (by simp) _ hO⟩, t1.fr fun o z => e i1 (by simp) o z, t2.fr fun o z => e i2 (by simp) o z⟩
  item := by
    intro X hP hw hK hc i pins s σ H E I hf st hgo
    subst hP hw hK
    obtain ⟨D, hz, hI, hO, t1, t2⟩ := st
    obtain ⟨xs, ys, x, y, qx, qy, hx, hy⟩ := hgo
    obtain ⟨its, rv, p⟩ := qx.at I
    obtain ⟨jts, rw', p2⟩ := qy.at I
    obtain ⟨u, hu, ru⟩ := rv.get hx
    obtain ⟨v, hv, rv'⟩ := rw'.get hy
    have ql : q < s.heap.objs.size := Heap.lt_size hz
    refine pyNext_zk ⟨D, hz, hI, hO, t1, t2, p, p2⟩ (x := u) (y := v) (by simpa using hu) (by simpa using hv) fun g z1 O1 a1 a2 nw sz bt => ?_
    refine ⟨_, rfl, wpAny_letOwnedTupleGo_zip (s := { s with heap := g }) z1 fun f z2 sb => ?_⟩
    have nw2 : f.get? s.heap.objs.size = some { cls := .type "tuple", data := .seq #[u, v] } := (sb.2 _ (Nat.ne_of_gt ql)).trans nw
    have ok : ObjOk X.prog X.w (upd H s.heap.objs.size (.tup [x, y])) f s.heap.objs.size (.tup [x, y]) := ⟨by show 2 ≤ sizeLine; decide, [u, v], .cons ru (.cons rv' .nil), ⟨_, nw2, rfl, _, rfl⟩⟩
    have I1 : Inv X pins σ (upd H s.heap.objs.size (.tup [x, y])) { s with heap := f } :=
      I.turnedNew (t' := s.toks) (ch := [q, pI, pO, i1, i2]) (fun c o hb e => (sb.2 c (fun z => hb (by simp [z]))).trans (bt c o (fun z => hb (by
        simp only [List.mem_cons, List.not_mem_nil, or_false] at z ⊢
        rcases z with z | z | z | z <;> simp [z])) e)) hf (Nat.le_refl _) ok
    refine ⟨.ref s.heap.objs.size, _, I1, rfl, ⟨_, x, y, rfl, I.hok.fresh (Nat.le_refl _), rfl, fun l hl => by rw [SvK.inj I hl qx]; exact hx, fun l hl => by rw [SvK.inj I hl qy]; exact hy⟩, ⟨D, z2, ?_, ⟨u, v, (sb.2 _ D.TOz).trans O1⟩, a1.fr fun o e => (sb.2 _ D.i1z).trans e, a2.fr fun o e => (sb.2 _ D.i2z).trans e⟩, fun c hcm => ?_⟩
    · refine (sb.2 _ D.TIz).trans (bt _ _ (fun z => ?_) hI)
      simp only [List.mem_cons, List.not_mem_nil, or_false] at z
      rcases z with z | z | z | z
      · exact D.TIz z
      · exact D.TITO z
      · exact D.TIi1 z
      · exact D.TIi2 z
    · have lt : c < s.heap.objs.size := by
        simp only [List.mem_cons, List.not_mem_nil, or_false] at hcm
        rcases hcm with rfl | rfl | rfl | rfl | rfl
        · exact ql
        · exact Heap.lt_size hI
        · obtain ⟨_, _, hO⟩ := hO; exact Heap.lt_size hO
        · exact t1.lt
        · exact t2.lt
      rw [upd_ne (Nat.ne_of_lt lt)]
      exact (hf c hcm).1
  done := by
    intro X hP hw hK hc i pins s σ H E I hf st hgo
    subst hP hw hK
    obtain ⟨D, hz, hI, hO, t1, t2⟩ := st
    obtain ⟨xs, ys, qx, qy, fin⟩ := hgo
    obtain ⟨its, rv, p⟩ := qx.at I
    obtain ⟨jts, rw', p2⟩ := qy.at I
    have n1 := rv.length
    have n2 := rw'.length
    refine pyNext_zke (I.ok.hd hc) ⟨D, hz, hI, hO, t1, t2, p, p2⟩ (fin.elim (fun z => .inl (by simp; omega)) fun z => .inr (by simp; omega)) fun g bt => ⟨rfl, I.turnedL (t' := s.toks) (ch := [q, pI, pO, i1, i2]) (fun c o hb e => bt c o (fun z => hb (by
      simp only [List.mem_cons, List.not_mem_nil, or_false] at z ⊢
      rcases z with z | z | z | z <;> simp [z])) e) hf⟩
  self := fun A i s Q E st h => wpAny_pyIter_zip st.2.1 h
def iZk (K : PySem.W.Frag) (ta : TA) : TI := fun σ H R => ta σ H fun vs H1 => ∃ a b xs ys k, vs = [.ref a, .ref b] ∧ SvK k K H1 a xs ∧ SvK (!k) K H1 b ys ∧ R (Izk k (!k) K a b) H1
theorem pi_zk {X : Cx} {e e2 : Expr} {ta : TA} {p pos tpos : Pos} {elts : List Expr} {kk : Nat} (hg : Gl X "zip") (hm : X.mg "zip" = none) (ha : PA X [e, e2] ta)
    (hs : starEach [e, e2] X.env = (false, eval e X.env) :: starEach [e2] X.env := by rfl) (hpl : (backTo pos (starEach [e2] X.env)).any (·.1) = false := by rfl) : PI X (.Tuple elts kk tpos) (.Call (.Name "zip" p) [e, e2] [] pos) (iZk X.K ta) := by
  refine ⟨fun pins s σ H R I h => Call_ (ld_blt I hg hm PyProof.Rows.boot_zip (PyProof.Rows.callWith_type1 (thn (ha.run pos pins s σ H _ I h) fun us t ⟨vs, H1, I1, r1, a, b, xs, ys, k, ex, qx, qy, q⟩ => ?_) hs hpl))⟩
  subst ex
  cases r1 with
  | cons r rr => cases rr with
    | cons r' rr =>
      cases rr; cases r; cases r'
      obtain ⟨its, rv, p1⟩ := qx.at I1
      obtain ⟨jts, rw', p2⟩ := qy.at I1
      refine call_zk p1 p2 fun g Z up => wpAny_pyIter_zip Z.z ?_
      refine ⟨t.heap.objs.size + 4, [t.heap.objs.size + 4, t.heap.objs.size + 2, t.heap.objs.size + 3, t.heap.objs.size, t.heap.objs.size + 1], _, _, H1, rfl, I1.kept (t' := t.toks) up, turn_zk, ⟨Z.ap, Z.z, Z.pI, Z.pO, Z.a1, Z.a2⟩, fun c hcm => ?_, q⟩
      have le : t.heap.objs.size ≤ c := by
        simp only [List.mem_cons, List.not_mem_nil, or_false] at hcm
        rcases hcm with rfl | rfl | rfl | rfl | rfl
        · exact Nat.le_add_right _ _
        · exact Nat.le_add_right _ _
        · exact Nat.le_add_right _ _
        · exact Nat.le_refl _
        · exact Nat.le_add_right _ _
      exact I1.fpOk le (I1.hok.fresh le)
theorem walk_zk {k m : Bool} {K : PySem.W.Frag} {a b : Addr} {xs ys : List V} {n : Nat} (hn : n = min xs.length ys.length) : Walk (Izk k m K a b) n (fun H => SvK k K H a xs ∧ SvK m K H b ys) (YPair (fun i => xs[i]?) (fun i => ys[i]?)) := by
  subst hn
  refine ⟨fun i _ hi q => ?_, fun _ q => ⟨xs, ys, q.1, q.2, by omega⟩, fun i H v G _ q ⟨T, x, z, h1, h2, h3, h4, h5⟩ => ⟨T, x, z, h1, h2, h3, h4 xs q.1, h5 ys q.2⟩⟩
  have h1 : i < xs.length := by omega
  have h2 : i < ys.length := by omega
  exact ⟨xs, ys, _, _, q.1, q.2, List.getElem?_eq_getElem h1, List.getElem?_eq_getElem h2⟩
noncomputable section
/-- zip of a tuple and a list -/
def fzipM : List D → Option (List D)
  | [.tup a, .lst _ b] => some (List.zipWith (fun a b => .tup [a, b]) (D.fzs a) (D.fzs b))
  | [.lst _ a, .tup b] => some (List.zipWith (fun a b => .tup [a, b]) (D.fzs a) (D.fzs b))
  | _ => none
section
variable {X : Cx} {s : Bool} {e e2 : Expr} {FA : En → Option (List D × En)}
theorem iv_zipM {p pos tpos : Pos} {elts : List Expr} {kk : Nat} (hg : Gl X "zip") (hm : X.mg "zip" = none) (ha : Av X true s [e, e2] FA)
    (hs : starEach [e, e2] X.env = (false, eval e X.env) :: starEach [e2] X.env := by rfl) (hpl : (backTo pos (starEach [e2] X.env)).any (·.1) = false := by rfl) :
    Iv X (.Tuple elts kk tpos) (.Call (.Name "zip" p) [e, e2] [] pos) (inF fzipM FA) := piM (pi_zk hg hm ha hs hpl) fun σ H Rr ⟨G, env, L, R, items, env', hf, k⟩ => by
  obtain ⟨da, h1, h3⟩ := inF_some hf
  refine ⟨G, env, L, R, da, env', h1, fun x G1 H1 L1 La R1 ra n1 st1 x1 => ?_⟩
  have R2 := R1.give (n1 rfl)
  have x2 := x1.give R1.le
  have rz := ra.fz (G' := frG G1 H1 La) (H' := H1) (frG_le R1.le) fun a z => frG_in z
  unfold fzipM at h3
  split at h3
  · cases h3
    obtain ⟨v, w, L3, L4, rfl, r, r', e0⟩ := rz.two
    obtain ⟨rfl, rfl⟩ := List.append_eq_nil_iff.mp e0.symm
    rename_i a o b
    have r : Rp X.K (frG G1 H1 La) H1 (.tup (D.fzs a)) v [] := r
    have r' : Rp X.K (frG G1 H1 La) H1 (.lst false (D.fzs b)) w [] := r'
    obtain ⟨p, vs, rfl, sa, qa⟩ := r.tup_inv
    cases r' with
    | @lstF q ws _ sb qb =>
    refine ⟨p, q, vs, ws, true, rfl, R2.le.sqT sa, SqL.of (R2.le _ _ sb), k _ _ H1 L1 R2 x2 ?_⟩
    have wk := walk_zk (k := true) (m := false) (K := X.K) (a := p) (b := q) (xs := vs) (ys := ws) rfl
    rw [List.length_zipWith, qa.length, qb.length]
    exact wk.mono (fun G' l => ⟨l.sqT sa, SqL.of (l _ _ sb)⟩) fun i G' x G'' hi l y => yd_pair qa qb y
  · cases h3
    obtain ⟨v, w, L3, L4, rfl, r, r', e0⟩ := rz.two
    obtain ⟨rfl, rfl⟩ := List.append_eq_nil_iff.mp e0.symm
    rename_i o a b
    have r : Rp X.K (frG G1 H1 La) H1 (.lst false (D.fzs a)) v [] := r
    have r' : Rp X.K (frG G1 H1 La) H1 (.tup (D.fzs b)) w [] := r'
    obtain ⟨q, ws, rfl, sb, qb⟩ := r'.tup_inv
    cases r with
    | @lstF p vs _ sa qa =>
    refine ⟨p, q, vs, ws, false, rfl, SqL.of (R2.le _ _ sa), R2.le.sqT sb, k _ _ H1 L1 R2 x2 ?_⟩
    have wk := walk_zk (k := false) (m := true) (K := X.K) (a := p) (b := q) (xs := vs) (ys := ws) rfl
    rw [List.length_zipWith, qa.length, qb.length]
    exact wk.mono (fun G' l => ⟨SqL.of (l _ _ sa), l.sqT sb⟩) fun i G' x G'' hi l y => yd_pair qa qb y
  · cases h3
end
end
end Pz

set_option Elab.async false
set_option linter.all false
set_option maxRecDepth 100000
namespace G46
open PySem L2 Pz
noncomputable section
def g_INFINITE : D := .tup []
def g_ZERO : D := .tup [.int 0, .int 1]
def C_common_divisor_1 : En → Option (Bool × En) := (tbF (b2 dGt (nmF 1) (cF (.int 0))))
def L_common_divisor_1 : En → Option (Fl × En) := (parF (aCons (nmO 1) (aCons (b2 dMod (nmF 0) (nmF 1)) aNil)) 0 1)
def F_common_divisor : List D → Option (D × En) := fnF 2 0 [0, 1] (seqF (parF (aCons (bN fAbs (aCons (nmF 0) aNil)) (aCons (bN fAbs (aCons (nmF 1) aNil)) aNil)) 0 1) (seqF (whF C_common_divisor_1 L_common_divisor_1) (rtF (nmO 0))))
def F_sign : List D → Option (D × En) := fnF 1 0 [] (rtF (b2 dSub (bN fInt (aCons (b2 dGt (b2 dIx (nmF 0) (cF (.int 0))) (cF (.int 0))) aNil)) (bN fInt (aCons (b2 dLt (b2 dIx (nmF 0) (cF (.int 0))) (cF (.int 0))) aNil))))
def F__law_cell : List D → Option (D × En) := fnF 2 0 [] (seqF (ifS (tbF (b2 dLt (nmF 1) (bN fLen (aCons (nmF 0) aNil)))) (rtF (ownF (b2 dIx (nmF 0) (nmF 1)))) nxF) (rtF (cF (.int 0))))
def L__law_numbers_1 : En → Option (Fl × En) := (ifS (andF (tbF (b2 dGt (nmF 5) (cF (.int 0)))) (tbF (b2 dLt (bN fLen (aCons (nmF 3) aNil)) (nmF 2)))) (seqF (exF (mtF 3 mAppend (aCons (b2 dMod (bN fInt (aCons (nmF 5) aNil)) (cF (.int 4096))) aNil))) (stF (b2 dDiv (nmF 5) (cF (.int 4096))) (put 5))) nxF)
def L__law_numbers_2 : En → Option (Fl × En) := (seqF (stF (bN fAbs (aCons (b2 dIx (nmF 0) (nmF 4)) aNil)) (put 5)) (ifS (tbF (b2 dGe (nmF 5) (cF (.int 1000000000000000000)))) (forF (inF rng1 (aCons (cF (.int 60)) aNil)) (put 6) L__law_numbers_1) (ifS (tbF (b2 dLt (bN fLen (aCons (nmF 3) aNil)) (nmF 2))) (seqF (stF (b2 dMod (bN fInt (aCons (b2 dAdd (b2 dAdd (b2 dMul (nmF 5) (cF (.int 48271))) (b2 dMul (nmF 4) (cF (.int 69621)))) (cF (.int 12345))) aNil)) (cF (.int 2147483647))) (put 7)) (seqF (stF (b2 dMod (bN fInt (aCons (b2 dAdd (b2 dMul (nmF 7) (cF (.int 69621))) (b2 dDiv (nmF 7) (cF (.int 1009)))) aNil)) (cF (.int 1000003))) (put 7)) (exF (mtF 3 mAppend (aCons (b2 dMod (bN fInt (aCons (nmF 7) aNil)) (cF (.int 4096))) aNil))))) nxF)))
def F__law_numbers : List D → Option (D × En) := fnF 3 5 [3, 4, 5, 6, 7] (seqF (stF (bN dLst aNil) (put 3)) (seqF (forF (inF rng2 (aCons (nmO 1) (aCons (bN fLen (aCons (nmF 0) aNil)) aNil))) (put 4) L__law_numbers_2) (rmF 3)))
def L__law_frac_1 : En → Option (Fl × En) := (seqF (ifS (tbF (b2 dEq (nmF 3) (cF (.int 0)))) bkF nxF) (seqF (stF (b2 dMod (bN fInt (aCons (nmF 2) aNil)) (nmF 3)) (put 5)) (seqF (stF (nmO 3) (put 2)) (stF (nmO 5) (put 3)))))
def F__law_frac : List D → Option (D × En) := fnF 2 4 [2, 3, 4, 5] (seqF (stF (bN fAbs (aCons (nmF 0) aNil)) (put 2)) (seqF (stF (bN fAbs (aCons (nmF 1) aNil)) (put 3)) (seqF (forF (inF rng1 (aCons (b2 dAdd (b2 dMul (cF (.int 2)) (b1 fBits (bN fAbs (aCons (nmF 1) aNil)))) (cF (.int 2))) aNil)) (put 4) L__law_frac_1) (seqF (ifS (tbF (b2 dLt (nmF 1) (cF (.int 0)))) (stF (b2 dSub (cF (.int 0)) (nmF 2)) (put 2)) nxF) (rtF (bN dTup (aCons (b2 dDiv (nmF 0) (nmF 2)) (aCons (b2 dDiv (nmF 1) (nmF 2)) aNil))))))))
def F__law_below : List D → Option (D × En) := fnF 2 0 [] (seqF (ifS (tbF (b2 dEq (nmF 0) (bN dTup aNil))) (rtF (cF (.bl false))) nxF) (rtF (orV (b2 dEq (nmF 1) (bN dTup aNil)) (b2 dLt (b2 dMul (b2 dIx (nmF 0) (cF (.int 0))) (b2 dIx (nmF 1) (cF (.int 1)))) (b2 dMul (b2 dIx (nmF 1) (cF (.int 0))) (b2 dIx (nmF 0) (cF (.int 1))))))))
def F_fraction : List D → Option (D × En) := fnF 2 1 [2] (seqF (ifS (tbF (b2 dEq (nmF 1) (cF (.int 0)))) nvF nxF) (seqF (stF (clF F_common_divisor (aCons (nmO 0) (aCons (nmO 1) aNil))) (put 2)) (seqF (ifS (tbF (b2 dLt (nmF 1) (cF (.int 0)))) (stF (b1 dNeg (nmF 2)) (put 2)) nxF) (rtF (bN dTup (aCons (b2 dDiv (nmF 0) (nmF 2)) (aCons (b2 dDiv (nmF 1) (nmF 2)) aNil)))))))
def F__law_plus : List D → Option (D × En) := fnF 2 0 [] (rtF (clF F__law_frac (aCons (b2 dAdd (b2 dMul (b2 dIx (nmF 0) (cF (.int 0))) (b2 dIx (nmF 1) (cF (.int 1)))) (b2 dMul (b2 dIx (nmF 1) (cF (.int 0))) (b2 dIx (nmF 0) (cF (.int 1))))) (aCons (b2 dMul (b2 dIx (nmF 0) (cF (.int 1))) (b2 dIx (nmF 1) (cF (.int 1)))) aNil))))
def F__law_times : List D → Option (D × En) := fnF 2 0 [] (rtF (clF F__law_frac (aCons (b2 dMul (b2 dIx (nmF 0) (cF (.int 0))) (b2 dIx (nmF 1) (cF (.int 0)))) (aCons (b2 dMul (b2 dIx (nmF 0) (cF (.int 1))) (b2 dIx (nmF 1) (cF (.int 1)))) aNil))))
def E__law_ordinary_1 : En → Option (D × En) := (b2 dMod (b2 dDiv (nmF 8) (b2 dAdd (cF (.int 1)) (b2 dMul (b2 dMul (cF (.int 5)) (nmF 11)) (nmF 11)))) (b2 dAdd (nmF 4) (cF (.int 1))))
def L__law_ordinary_2 : En → Option (Fl × En) := (seqF (stF (bN fInt (aCons (b2 dIx (nmF 0) (b2 dMod (b2 dAdd (b2 dAdd (nmF 1) (cF (.int 1))) (nmF 7)) (bN fLen (aCons (nmF 0) aNil)))) aNil)) (put 8)) (seqF (stF (bN fTuple (aCons (lcF [11] (inF rng1 (aCons (nmO 2) aNil)) (put 11) yesF E__law_ordinary_1) aNil)) (put 9)) (seqF (stF (b2 dMul (b2 dIx (bN dLst (aCons (cF (.int 1)) (aCons (b1 dNeg (cF (.int 1))) (aCons (cF (.int 2)) (aCons (cF (.int 3)) (aCons (b1 dNeg (cF (.int 4))) (aCons (cF (.int 6)) (aCons (cF (.int 9)) (aCons (b1 dNeg (cF (.int 12))) (aCons (cF (.int 25)) (aCons (cF (.int 8)) aNil))))))))))) (b2 dMod (b2 dDiv (nmF 8) (cF (.int 7))) (cF (.int 10)))) (b2 dIx (bN dLst (aCons (cF (.int 1)) (aCons (cF (.int 1)) (aCons (cF (.int 1)) (aCons (cF (.int 27)) (aCons (cF (.int 49)) aNil)))))) (b2 dMod (b2 dDiv (nmF 8) (cF (.int 70))) (cF (.int 5))))) (put 10)) (kpF 5 (clF F__law_frac (aCons (nmO 10) (aCons (ownF (b2 dIx (bN dLst (aCons (cF (.int 1)) (aCons (cF (.int 1)) (aCons (cF (.int 2)) (aCons (cF (.int 3)) (aCons (cF (.int 8)) aNil)))))) (b2 dMod (b2 dDiv (nmF 8) (cF (.int 350))) (cF (.int 5))))) aNil))) (nmO 9)))))
def E__law_ordinary_3 : En → Option (D × En) := (bN dTup (aCons (nmO 9) (aCons (b2 dKx (nmF 5) (nmF 9)) aNil)))
def F__law_ordinary : List D → Option (D × En) := fnF 5 7 [5, 6, 7, 8, 9, 10] (seqF (stF (cF (.dct true [] [])) (put 5)) (seqF (stF (b2 dMod (bN fInt (aCons (b2 dIx (nmF 0) (b2 dMod (bN fInt (aCons (nmF 1) aNil)) (bN fLen (aCons (nmF 0) aNil)))) aNil)) (b2 dAdd (nmF 3) (cF (.int 1)))) (put 6)) (seqF (forF (inF rng1 (aCons (nmO 6) aNil)) (put 7) L__law_ordinary_2) (rtF (bN fTuple (aCons (lcF [9] (itF (bN fSorted (aCons (nmF 5) aNil))) (put 9) yesF E__law_ordinary_3) aNil))))))
def F_plus : List D → Option (D × En) := fnF 2 0 [] (rtF (clF F_fraction (aCons (b2 dAdd (b2 dMul (b2 dIx (nmF 0) (cF (.int 0))) (b2 dIx (nmF 1) (cF (.int 1)))) (b2 dMul (b2 dIx (nmF 1) (cF (.int 0))) (b2 dIx (nmF 0) (cF (.int 1))))) (aCons (b2 dMul (b2 dIx (nmF 0) (cF (.int 1))) (b2 dIx (nmF 1) (cF (.int 1)))) aNil))))
def F_minus : List D → Option (D × En) := fnF 2 0 [] (rtF (clF F_fraction (aCons (b2 dSub (b2 dMul (b2 dIx (nmF 0) (cF (.int 0))) (b2 dIx (nmF 1) (cF (.int 1)))) (b2 dMul (b2 dIx (nmF 1) (cF (.int 0))) (b2 dIx (nmF 0) (cF (.int 1))))) (aCons (b2 dMul (b2 dIx (nmF 0) (cF (.int 1))) (b2 dIx (nmF 1) (cF (.int 1)))) aNil))))
def F_times : List D → Option (D × En) := fnF 2 0 [] (rtF (clF F_fraction (aCons (b2 dMul (b2 dIx (nmF 0) (cF (.int 0))) (b2 dIx (nmF 1) (cF (.int 0)))) (aCons (b2 dMul (b2 dIx (nmF 0) (cF (.int 1))) (b2 dIx (nmF 1) (cF (.int 1)))) aNil))))
def L__law_to_power_1 : En → Option (Fl × En) := (stF (clF F__law_times (aCons (nmO 2) (aCons (nmO 0) aNil))) (put 2))
def F__law_to_power : List D → Option (D × En) := fnF 2 2 [2, 3] (seqF (stF (bN dTup (aCons (cF (.int 1)) (aCons (cF (.int 1)) aNil))) (put 2)) (seqF (forF (inF rng1 (aCons (nmO 1) aNil)) (put 3) L__law_to_power_1) (rtF (nmO 2))))
def F_compare : List D → Option (D × En) := fnF 2 0 [] (seqF (ifS (orF (tbF (b2 dEq (nmF 0) (cF g_INFINITE))) (tbF (b2 dEq (nmF 1) (cF g_INFINITE)))) (rtF (b2 dSub (bN fInt (aCons (b2 dEq (nmF 0) (cF g_INFINITE)) aNil)) (bN fInt (aCons (b2 dEq (nmF 1) (cF g_INFINITE)) aNil)))) nxF) (rtF (clF F_sign (aCons (clF F_minus (aCons (nmO 0) (aCons (nmO 1) aNil))) aNil))))
def L_power_of_1 : En → Option (Fl × En) := (stF (clF F_times (aCons (nmO 2) (aCons (nmO 0) aNil))) (put 2))
def F_power_of : List D → Option (D × En) := fnF 2 2 [2, 3] (seqF (stF (bN dTup (aCons (cF (.int 1)) (aCons (cF (.int 1)) aNil))) (put 2)) (seqF (forF (inF rng1 (aCons (nmO 1) aNil)) (put 3) L_power_of_1) (rtF (nmO 2))))
def L__law_term_1 : En → Option (Fl × En) := (stF (clF F__law_times (aCons (nmO 2) (aCons (clF F__law_to_power (aCons (ownF (b2 dIx (nmF 1) (nmF 3))) (aCons (ownF (b2 dIx (b2 dIx (nmF 0) (cF (.int 0))) (nmF 3))) aNil))) aNil))) (put 2))
def F__law_term : List D → Option (D × En) := fnF 2 2 [2, 3] (seqF (stF (ownF (b2 dIx (nmF 0) (cF (.int 1)))) (put 2)) (seqF (forF (inF rng1 (aCons (bN fLen (aCons (nmF 1) aNil)) aNil)) (put 3) L__law_term_1) (rtF (nmO 2))))
def L_term_value_1 : En → Option (Fl × En) := (stF (clF F_times (aCons (nmO 2) (aCons (clF F_power_of (aCons (nmO 4) (aCons (nmO 3) aNil))) aNil))) (put 2))
def F_term_value : List D → Option (D × En) := fnF 2 3 [2, 3, 4] (seqF (stF (ownF (b2 dIx (nmF 0) (cF (.int 1)))) (put 2)) (seqF (forF (inF fzip (aCons (ownF (b2 dIx (nmF 0) (cF (.int 0)))) (aCons (nmO 1) aNil))) (gTupF (gsCons (put 3) (gsCons (put 4) gsNil))) L_term_value_1) (rtF (nmO 2))))
def L__law_value_1 : En → Option (Fl × En) := (stF (clF F__law_plus (aCons (nmO 2) (aCons (lcallF [none, some 1] F__law_term (aCons (nmO 3) (aConsL 1 aNil))) aNil))) (put 2))
def F__law_value : List D → Option (D × En) := fnF 2 2 [2, 3] (seqF (stF (bN dTup (aCons (cF (.int 0)) (aCons (cF (.int 1)) aNil))) (put 2)) (seqF (forF (itF (nmO 0)) (put 3) L__law_value_1) (rtF (nmO 2))))
def F_size_of : List D → Option (D × En) := fnF 2 1 [2] (seqF (stF (clF F_term_value (aCons (nmO 0) (aCons (nmO 1) aNil))) (put 2)) (rtF (bN dTup (aCons (bN fAbs (aCons (b2 dIx (nmF 2) (cF (.int 0))) aNil)) (aCons (ownF (b2 dIx (nmF 2) (cF (.int 1)))) aNil)))))
def E_great_term_1 : En → Option (D × En) := (clF F_size_of (aCons (nmO 5) (aCons (nmO 1) aNil)))
def L_great_term_2 : En → Option (Fl × En) := (stF (clF F_plus (aCons (nmO 3) (aCons (nmO 4) aNil))) (put 3))
def L_great_term_3 : En → Option (Fl × En) := (ifS (tbF (b2 dGt (clF F_compare (aCons (nmO 4) (aCons (clF F_minus (aCons (nmO 3) (aCons (nmO 4) aNil))) aNil))) (cF (.int 0)))) (rtF (ownF (b2 dIx (nmF 5) (cF (.int 0))))) nxF)
def F_great_term : List D → Option (D × En) := fnF 2 4 [2, 3, 4, 5] (seqF (zsF 2 (stF (lcF [5] (itF (nmO 0)) (put 5) yesF E_great_term_1) (put 2))) (seqF (stF (cF g_ZERO) (put 3)) (seqF (forF (itF (nmO 2)) (put 4) L_great_term_2) (seqF (forF (inF fzipM (aCons (nmO 0) (aCons (nmO 2) aNil))) (gTupF (gsCons (put 5) (gsCons (put 4) gsNil))) L_great_term_3) (rtF (cF .non))))))
def E_law_1 : En → Option (D × En) := (clF F__law_frac (aCons (b2 dAdd (cF (.int 1)) (b2 dMod (bN fInt (aCons (b2 dIx (nmF 2) (b2 dAdd (nmF 17) (cF (.int 6)))) aNil)) (cF (.int 9)))) (aCons (ownF (b2 dIx (bN dLst (aCons (cF (.int 1)) (aCons (cF (.int 1)) (aCons (cF (.int 3)) (aCons (cF (.int 10)) aNil))))) (b2 dMod (b2 dDiv (bN fInt (aCons (b2 dIx (nmF 2) (b2 dAdd (nmF 17) (cF (.int 6)))) aNil)) (cF (.int 9))) (cF (.int 4))))) aNil)))
def L_law_2 : En → Option (Fl × En) := (stF (clF F__law_plus (aCons (nmO 6) (aCons (bN dTup (aCons (bN fAbs (aCons (b2 dIx (b2 dIx (nmF 7) (cF (.int 1))) (cF (.int 0))) aNil)) (aCons (ownF (b2 dIx (b2 dIx (nmF 7) (cF (.int 1))) (cF (.int 1)))) aNil))) aNil))) (put 6))
def E_law_3 : En → Option (D × En) := (nmO 7)
def I_law_3 : En → Option (Bool × En) := (tbF (b2 dNe (b2 dIx (nmF 7) (cF (.int 1))) (bN dTup (aCons (cF (.int 0)) (aCons (cF (.int 1)) aNil)))))
def L_law_5 : En → Option (Fl × En) := (seqF (stF (clF F__law_term (aCons (nmO 7) (aCons (nmO 5) aNil))) (put 9)) (exF (mtF 8 mAppend (aCons (bN dTup (aCons (bN fAbs (aCons (b2 dIx (nmF 9) (cF (.int 0))) aNil)) (aCons (ownF (b2 dIx (nmF 9) (cF (.int 1)))) aNil))) aNil))))
def L_law_6 : En → Option (Fl × En) := (ifS (tbF (b2 dNe (nmF 13) (nmF 11))) (stF (clF F__law_plus (aCons (nmO 12) (aCons (ownF (b2 dIx (nmF 8) (nmF 13))) aNil))) (put 12)) nxF)
def L_law_7 : En → Option (Fl × En) := (seqF (stF (bN dTup (aCons (cF (.int 0)) (aCons (cF (.int 1)) aNil))) (put 12)) (seqF (forF (inF rng1 (aCons (bN fLen (aCons (nmF 4) aNil)) aNil)) (put 13) L_law_6) (ifS (ttF (clF F__law_below (aCons (nmO 12) (aCons (ownF (b2 dIx (nmF 8) (nmF 11))) aNil)))) (stF (ownF (b2 dIx (b2 dIx (nmF 4) (nmF 11)) (cF (.int 0)))) (put 10)) nxF)))
def L_law_8 : En → Option (Fl × En) := (seqF (stF (b2 dSub (cF (.int 1)) (b2 dMul (cF (.int 2)) (b2 dAnd (b2 dShr (nmF 15) (nmF 17)) (cF (.int 1))))) (put 18)) (exF (mtF 16 mAppend (aCons (bN dTup (aCons (b2 dMul (nmF 18) (b2 dIx (b2 dIx (nmF 5) (nmF 17)) (cF (.int 0)))) (aCons (ownF (b2 dIx (b2 dIx (nmF 5) (nmF 17)) (cF (.int 1)))) aNil))) aNil))))
def L_law_9 : En → Option (Fl × En) := (seqF (stF (bN dLst aNil) (put 16)) (seqF (forF (inF rng1 (aCons (nmO 3) aNil)) (put 17) L_law_8) (ifS (tbF (b2 dEq (lcallF [none, some 16] F__law_value (aCons (nmO 4) (aConsL 16 aNil))) (bN dTup (aCons (cF (.int 0)) (aCons (cF (.int 1)) aNil))))) (rtF (cF (.bl false))) nxF)))
def S_law_16 : En → Option (Fl × En) := (rtF (cF (.bl true)))
def S_law_15 : En → Option (Fl × En) := (seqF (ifS (tbF (b2 dNotN (nmF 10) (cF .non))) (forF (inF rng1 (aCons (b2 dShl (cF (.int 1)) (nmF 3)) aNil)) (put 15) L_law_9) nxF) S_law_16)
def S_law_14 : En → Option (Fl × En) := (seqF (ifS (orF (tbF (b2 dNe (b2 dIsN (nmF 14) (cF .non)) (b2 dIsN (nmF 10) (cF .non)))) (tbF (b2 dNe (nmF 14) (nmF 10)))) (rtF (cF (.bl false))) nxF) S_law_15)
def S_law_13 : En → Option (Fl × En) := (seqF (stF (clF F_great_term (aCons (nmO 4) (aCons (nmO 5) aNil))) (put 14)) S_law_14)
def S_law_12 : En → Option (Fl × En) := (seqF (forF (inF rng1 (aCons (bN fLen (aCons (nmF 4) aNil)) aNil)) (put 11) L_law_7) S_law_13)
def S_law_11 : En → Option (Fl × En) := (seqF (stF (cF .non) (put 10)) S_law_12)
def S_law_10 : En → Option (Fl × En) := (seqF (forF (itF (nmO 4)) (put 7) L_law_5) S_law_11)
def S_law_9 : En → Option (Fl × En) := (seqF (stF (bN dLst aNil) (put 8)) S_law_10)
def S_law_8 : En → Option (Fl × En) := (seqF (stF (bN fTuple (aCons (lcF [7] (itF (nmO 4)) (put 7) I_law_3 E_law_3) aNil)) (put 4)) S_law_9)
def S_law_7 : En → Option (Fl × En) := (seqF (ifS (tbF (b2 dEq (b2 dMod (b2 dDiv (nmF 1) (cF (.int 3))) (cF (.int 4))) (cF (.int 0)))) (seqF (stF (b2 dTmu (bN dTup (aCons (bN dTup (aCons (cF (.int 1)) (aCons (cF (.int 1)) aNil))) aNil)) (nmF 3)) (put 5)) (seqF (stF (bN dTup (aCons (cF (.int 0)) (aCons (cF (.int 1)) aNil))) (put 6)) (seqF (forF (itF (bSl (nmF 4) (ptF (cF (.int 1))) noPt)) (put 7) L_law_2) (ifS (tbF (b2 dNe (nmF 6) (bN dTup (aCons (cF (.int 0)) (aCons (cF (.int 1)) aNil))))) (stF (b2 dAdd (bN dTup (aCons (bN dTup (aCons (ownF (b2 dIx (b2 dIx (nmF 4) (cF (.int 0))) (cF (.int 0)))) (aCons (clF F__law_plus (aCons (nmO 6) (aCons (clF F__law_frac (aCons (b2 dSub (b2 dMod (b2 dDiv (nmF 1) (cF (.int 12))) (cF (.int 3))) (cF (.int 1))) (aCons (cF (.int 3)) aNil))) aNil))) aNil))) aNil)) (bSl (nmF 4) (ptF (cF (.int 1))) noPt)) (put 4)) nxF)))) nxF) S_law_8)
def S_law_6 : En → Option (Fl × En) := (seqF (stF (bN fTuple (aCons (lcF [17] (inF rng1 (aCons (nmO 3) aNil)) (put 17) yesF E_law_1) aNil)) (put 5)) S_law_7)
def S_law_5 : En → Option (Fl × En) := (seqF (ifS (tbF (b2 dEq (nmF 4) (bN dTup aNil))) (stF (bN dTup (aCons (bN dTup (aCons (b2 dTmu (bN dTup (aCons (cF (.int 1)) aNil)) (nmF 3)) (aCons (bN dTup (aCons (cF (.int 3)) (aCons (cF (.int 2)) aNil))) aNil))) aNil)) (put 4)) nxF) S_law_6)
def S_law_4 : En → Option (Fl × En) := (seqF (stF (clF F__law_ordinary (aCons (nmO 2) (aCons (cF (.int 0)) (aCons (nmO 3) (aCons (cF (.int 5)) (aCons (cF (.int 3)) aNil)))))) (put 4)) S_law_5)
def S_law_3 : En → Option (Fl × En) := (seqF (stF (b2 dAdd (cF (.int 1)) (b2 dMod (bN fInt (aCons (nmF 1) aNil)) (cF (.int 3)))) (put 3)) S_law_4)
def S_law_2 : En → Option (Fl × En) := (seqF (zsF 2 (stF (b2 dAdd (clF F__law_numbers (aCons (nmO 0) (aCons (cF (.int 1)) (aCons (cF (.int 14)) aNil)))) (bN dLst (aCons (cF (.int 5)) (aCons (cF (.int 11)) (aCons (cF (.int 17)) (aCons (cF (.int 2)) (aCons (cF (.int 14)) (aCons (cF (.int 23)) (aCons (cF (.int 40)) (aCons (cF (.int 8)) (aCons (cF (.int 31)) aNil))))))))))) (put 2))) S_law_3)
def F_law : List D → Option (D × En) := fnF 1 18 [1, 2, 3, 4, 5, 6, 7, 8, 9, 10, 11, 12, 13, 14, 15, 16, 17, 18] (seqF (stF (bN fAbs (aCons (clF F__law_cell (aCons (nmO 0) (aCons (cF (.int 0)) aNil))) aNil)) (put 1)) S_law_2)
end
end G46

set_option Elab.async false
set_option linter.all false
set_option maxRecDepth 100000
set_option maxHeartbeats 1000000
namespace G46
open PySem L2 Pz
noncomputable section
/-! numbers: the program's own functions; the law's own (the version of k40..k48) -/
theorem cd_c (x y : Nat) : C_common_divisor_1 [some (.int x), some (.int y)] = some (decide (0 < y), [some (.int x), some (.int y)]) := by
  simp only [C_common_divisor_1, val_fnF, zsF_eq, fzAt, D.fz, wpE, mgE, List.contains_cons, List.contains_nil, Nat.reduceBEq, Bool.or_false, Bool.or_true, Bool.false_or, Bool.true_or, seqF_eq, andThen_nx, andThen_bk, andThen_ct, andThen_rt, retV_rt, retV_nx, nxF, bkF, ctF, rtF, rnF, rmF, stF, exF, put, parF, agF, ifS, forF_eq, flF_nil, flF_cons, flK_nx, flK_ct, flK_bk, flK_rt, tbF, ttF, andF, orF, notF, andV, orV, ifF, chF, b1, b2, bN, clF_val, aNil, aCons, nmF, ownF, cF, fzF, itF, inF, itOf, rng1, rng2, yesF, dTru, dNot, I.isi_non_tuple, I.isi_non_list, I.isi_non_bool, I.isi_non_int, I.isi_non_str, I.isi_bl_tuple, I.isi_bl_list, I.isi_bl_bool, I.isi_bl_int, I.isi_bl_str, I.isi_int_tuple, I.isi_int_list, I.isi_int_bool, I.isi_int_int, I.isi_int_str, I.isi_str_tuple, I.isi_str_list, I.isi_str_bool, I.isi_str_int, I.isi_str_str, I.isi_tup_tuple, I.isi_tup_list, I.isi_tup_bool, I.isi_tup_int, I.isi_tup_str, I.isi_lst_tuple, I.isi_lst_list, I.isi_lst_bool, I.isi_lst_int, I.isi_lst_str, I.isi_scr_tuple, I.isi_scr_list, I.isi_scr_bool, I.isi_scr_int, I.isi_scr_str, dEq_bl, dNe_bl, dIsN_non, dIsN_bl, dIsN_int, dIsN_str, dIsN_tup, dIsN_lst, dAdd_int, dSub_int, dEq_int, dNe_int, dLt_int, dLe_int, dGt_int, dGe_int, dAddI_int, asB_bl, dIx_tup0, dIx_tup1, fLen, fAbs, fInt, fMax2, fMin2, gTupF, gsCons, gsNil, D.pure, D.pures, Bool.not_true, Bool.not_false, Bool.and_true, Bool.true_and, Bool.and_false, Bool.false_and, Option.bind_some, Option.bind_none, Option.map_some, Option.map_none, bind_ite, map_ite, List.map_cons, List.map_nil, List.replicate, List.cons_append, List.nil_append, List.append_nil, List.getElem?_cons_zero, List.getElem?_cons_succ, List.set_cons_zero, List.set_cons_succ, List.length_cons, List.length_nil, Nat.reduceAdd, Nat.reduceLT, Nat.zero_add, Nat.lt_add_one, if_true, if_false, ite_true, ite_false, decide_eq_true_eq, Bool.false_eq_true, reduceCtorEq, reduceIte, Nat.reduceLeDiff, Nat.reduceEqDiff]
  by_cases h : 0 < y
  · have : (0 : Int) < y := by omega
    simp only [h, this, val_fnF, zsF_eq, fzAt, D.fz, wpE, mgE, List.contains_cons, List.contains_nil, Nat.reduceBEq, Bool.or_false, Bool.or_true, Bool.false_or, Bool.true_or, seqF_eq, andThen_nx, andThen_bk, andThen_ct, andThen_rt, retV_rt, retV_nx, nxF, bkF, ctF, rtF, rnF, rmF, stF, exF, put, parF, agF, ifS, forF_eq, flF_nil, flF_cons, flK_nx, flK_ct, flK_bk, flK_rt, tbF, ttF, andF, orF, notF, andV, orV, ifF, chF, b1, b2, bN, clF_val, aNil, aCons, nmF, ownF, cF, fzF, itF, inF, itOf, rng1, rng2, yesF, dTru, dNot, I.isi_non_tuple, I.isi_non_list, I.isi_non_bool, I.isi_non_int, I.isi_non_str, I.isi_bl_tuple, I.isi_bl_list, I.isi_bl_bool, I.isi_bl_int, I.isi_bl_str, I.isi_int_tuple, I.isi_int_list, I.isi_int_bool, I.isi_int_int, I.isi_int_str, I.isi_str_tuple, I.isi_str_list, I.isi_str_bool, I.isi_str_int, I.isi_str_str, I.isi_tup_tuple, I.isi_tup_list, I.isi_tup_bool, I.isi_tup_int, I.isi_tup_str, I.isi_lst_tuple, I.isi_lst_list, I.isi_lst_bool, I.isi_lst_int, I.isi_lst_str, I.isi_scr_tuple, I.isi_scr_list, I.isi_scr_bool, I.isi_scr_int, I.isi_scr_str, dEq_bl, dNe_bl, dIsN_non, dIsN_bl, dIsN_int, dIsN_str, dIsN_tup, dIsN_lst, dAdd_int, dSub_int, dEq_int, dNe_int, dLt_int, dLe_int, dGt_int, dGe_int, dAddI_int, asB_bl, dIx_tup0, dIx_tup1, fLen, fAbs, fInt, fMax2, fMin2, gTupF, gsCons, gsNil, D.pure, D.pures, Bool.not_true, Bool.not_false, Bool.and_true, Bool.true_and, Bool.and_false, Bool.false_and, Option.bind_some, Option.bind_none, Option.map_some, Option.map_none, bind_ite, map_ite, List.map_cons, List.map_nil, List.replicate, List.cons_append, List.nil_append, List.append_nil, List.getElem?_cons_zero, List.getElem?_cons_succ, List.set_cons_zero, List.set_cons_succ, List.length_cons, List.length_nil, Nat.reduceAdd, Nat.reduceLT, Nat.zero_add, Nat.lt_add_one, if_true, if_false, ite_true, ite_false, decide_eq_true_eq, Bool.false_eq_true, reduceCtorEq, reduceIte, Nat.reduceLeDiff, Nat.reduceEqDiff, decide_true]
  · have : ¬ (0 : Int) < y := by omega
    simp only [h, this, val_fnF, zsF_eq, fzAt, D.fz, wpE, mgE, List.contains_cons, List.contains_nil, Nat.reduceBEq, Bool.or_false, Bool.or_true, Bool.false_or, Bool.true_or, seqF_eq, andThen_nx, andThen_bk, andThen_ct, andThen_rt, retV_rt, retV_nx, nxF, bkF, ctF, rtF, rnF, rmF, stF, exF, put, parF, agF, ifS, forF_eq, flF_nil, flF_cons, flK_nx, flK_ct, flK_bk, flK_rt, tbF, ttF, andF, orF, notF, andV, orV, ifF, chF, b1, b2, bN, clF_val, aNil, aCons, nmF, ownF, cF, fzF, itF, inF, itOf, rng1, rng2, yesF, dTru, dNot, I.isi_non_tuple, I.isi_non_list, I.isi_non_bool, I.isi_non_int, I.isi_non_str, I.isi_bl_tuple, I.isi_bl_list, I.isi_bl_bool, I.isi_bl_int, I.isi_bl_str, I.isi_int_tuple, I.isi_int_list, I.isi_int_bool, I.isi_int_int, I.isi_int_str, I.isi_str_tuple, I.isi_str_list, I.isi_str_bool, I.isi_str_int, I.isi_str_str, I.isi_tup_tuple, I.isi_tup_list, I.isi_tup_bool, I.isi_tup_int, I.isi_tup_str, I.isi_lst_tuple, I.isi_lst_list, I.isi_lst_bool, I.isi_lst_int, I.isi_lst_str, I.isi_scr_tuple, I.isi_scr_list, I.isi_scr_bool, I.isi_scr_int, I.isi_scr_str, dEq_bl, dNe_bl, dIsN_non, dIsN_bl, dIsN_int, dIsN_str, dIsN_tup, dIsN_lst, dAdd_int, dSub_int, dEq_int, dNe_int, dLt_int, dLe_int, dGt_int, dGe_int, dAddI_int, asB_bl, dIx_tup0, dIx_tup1, fLen, fAbs, fInt, fMax2, fMin2, gTupF, gsCons, gsNil, D.pure, D.pures, Bool.not_true, Bool.not_false, Bool.and_true, Bool.true_and, Bool.and_false, Bool.false_and, Option.bind_some, Option.bind_none, Option.map_some, Option.map_none, bind_ite, map_ite, List.map_cons, List.map_nil, List.replicate, List.cons_append, List.nil_append, List.append_nil, List.getElem?_cons_zero, List.getElem?_cons_succ, List.set_cons_zero, List.set_cons_succ, List.length_cons, List.length_nil, Nat.reduceAdd, Nat.reduceLT, Nat.zero_add, Nat.lt_add_one, if_true, if_false, ite_true, ite_false, decide_eq_true_eq, Bool.false_eq_true, reduceCtorEq, reduceIte, Nat.reduceLeDiff, Nat.reduceEqDiff, decide_false]
theorem cd_b {x y : Nat} (h : 0 < y) : L_common_divisor_1 [some (.int x), some (.int y)] = some (.nx, [some (.int y), some (.int (x % y : Nat))]) := by
  simp only [L_common_divisor_1, val_fnF, zsF_eq, fzAt, D.fz, wpE, mgE, List.contains_cons, List.contains_nil, Nat.reduceBEq, Bool.or_false, Bool.or_true, Bool.false_or, Bool.true_or, seqF_eq, andThen_nx, andThen_bk, andThen_ct, andThen_rt, retV_rt, retV_nx, nxF, bkF, ctF, rtF, rnF, rmF, stF, exF, put, parF, agF, ifS, forF_eq, flF_nil, flF_cons, flK_nx, flK_ct, flK_bk, flK_rt, tbF, ttF, andF, orF, notF, andV, orV, ifF, chF, b1, b2, bN, clF_val, aNil, aCons, nmF, ownF, cF, fzF, itF, inF, itOf, rng1, rng2, yesF, dTru, dNot, I.isi_non_tuple, I.isi_non_list, I.isi_non_bool, I.isi_non_int, I.isi_non_str, I.isi_bl_tuple, I.isi_bl_list, I.isi_bl_bool, I.isi_bl_int, I.isi_bl_str, I.isi_int_tuple, I.isi_int_list, I.isi_int_bool, I.isi_int_int, I.isi_int_str, I.isi_str_tuple, I.isi_str_list, I.isi_str_bool, I.isi_str_int, I.isi_str_str, I.isi_tup_tuple, I.isi_tup_list, I.isi_tup_bool, I.isi_tup_int, I.isi_tup_str, I.isi_lst_tuple, I.isi_lst_list, I.isi_lst_bool, I.isi_lst_int, I.isi_lst_str, I.isi_scr_tuple, I.isi_scr_list, I.isi_scr_bool, I.isi_scr_int, I.isi_scr_str, dEq_bl, dNe_bl, dIsN_non, dIsN_bl, dIsN_int, dIsN_str, dIsN_tup, dIsN_lst, dAdd_int, dSub_int, dEq_int, dNe_int, dLt_int, dLe_int, dGt_int, dGe_int, dAddI_int, asB_bl, dIx_tup0, dIx_tup1, fLen, fAbs, fInt, fMax2, fMin2, gTupF, gsCons, gsNil, D.pure, D.pures, Bool.not_true, Bool.not_false, Bool.and_true, Bool.true_and, Bool.and_false, Bool.false_and, Option.bind_some, Option.bind_none, Option.map_some, Option.map_none, bind_ite, map_ite, List.map_cons, List.map_nil, List.replicate, List.cons_append, List.nil_append, List.append_nil, List.getElem?_cons_zero, List.getElem?_cons_succ, List.set_cons_zero, List.set_cons_succ, List.length_cons, List.length_nil, Nat.reduceAdd, Nat.reduceLT, Nat.zero_add, Nat.lt_add_one, if_true, if_false, ite_true, ite_false, decide_eq_true_eq, Bool.false_eq_true, reduceCtorEq, reduceIte, Nat.reduceLeDiff, Nat.reduceEqDiff, dMod_pos (show (0 : Int) < (y : Int) by omega), Int.natCast_emod]
theorem cd_loop : ∀ (n x y : Nat), y ≤ n → whF C_common_divisor_1 L_common_divisor_1 [some (.int x), some (.int y)] = some (.nx, [some (.int (Nat.gcd x y : Nat)), some (.int 0)])
  | n, x, 0, _ => by
    rw [whF_done (cd_c x 0)]; simp
  | 0, x, y + 1, h => by omega
  | n + 1, x, y + 1, h => by
    have hm := Nat.mod_lt x (show 0 < y + 1 by omega)
    rw [whF_turn (by rw [cd_c, decide_eq_true (by omega)]) (cd_b (by omega)) (cd_loop n (y + 1) (x % (y + 1)) (by omega))]
    rw [Nat.gcd_comm (y + 1), ← Nat.gcd_rec, Nat.gcd_comm]
theorem cd_eq (a b : Int) : val F_common_divisor [.int a, .int b] = some (.int (Int.gcd a b : Nat)) := by
  have e1 : (if a < 0 then -a else a) = (a.natAbs : Int) := by split <;> omega
  have e2 : (if b < 0 then -b else b) = (b.natAbs : Int) := by split <;> omega
  simp only [F_common_divisor, val_fnF, zsF_eq, fzAt, D.fz, wpE, mgE, List.contains_cons, List.contains_nil, Nat.reduceBEq, Bool.or_false, Bool.or_true, Bool.false_or, Bool.true_or, seqF_eq, andThen_nx, andThen_bk, andThen_ct, andThen_rt, retV_rt, retV_nx, nxF, bkF, ctF, rtF, rnF, rmF, stF, exF, put, parF, agF, ifS, forF_eq, flF_nil, flF_cons, flK_nx, flK_ct, flK_bk, flK_rt, tbF, ttF, andF, orF, notF, andV, orV, ifF, chF, b1, b2, bN, clF_val, aNil, aCons, nmF, ownF, cF, fzF, itF, inF, itOf, rng1, rng2, yesF, dTru, dNot, I.isi_non_tuple, I.isi_non_list, I.isi_non_bool, I.isi_non_int, I.isi_non_str, I.isi_bl_tuple, I.isi_bl_list, I.isi_bl_bool, I.isi_bl_int, I.isi_bl_str, I.isi_int_tuple, I.isi_int_list, I.isi_int_bool, I.isi_int_int, I.isi_int_str, I.isi_str_tuple, I.isi_str_list, I.isi_str_bool, I.isi_str_int, I.isi_str_str, I.isi_tup_tuple, I.isi_tup_list, I.isi_tup_bool, I.isi_tup_int, I.isi_tup_str, I.isi_lst_tuple, I.isi_lst_list, I.isi_lst_bool, I.isi_lst_int, I.isi_lst_str, I.isi_scr_tuple, I.isi_scr_list, I.isi_scr_bool, I.isi_scr_int, I.isi_scr_str, dEq_bl, dNe_bl, dIsN_non, dIsN_bl, dIsN_int, dIsN_str, dIsN_tup, dIsN_lst, dAdd_int, dSub_int, dEq_int, dNe_int, dLt_int, dLe_int, dGt_int, dGe_int, dAddI_int, asB_bl, dIx_tup0, dIx_tup1, fLen, fAbs, fInt, fMax2, fMin2, gTupF, gsCons, gsNil, D.pure, D.pures, Bool.not_true, Bool.not_false, Bool.and_true, Bool.true_and, Bool.and_false, Bool.false_and, Option.bind_some, Option.bind_none, Option.map_some, Option.map_none, bind_ite, map_ite, List.map_cons, List.map_nil, List.replicate, List.cons_append, List.nil_append, List.append_nil, List.getElem?_cons_zero, List.getElem?_cons_succ, List.set_cons_zero, List.set_cons_succ, List.length_cons, List.length_nil, Nat.reduceAdd, Nat.reduceLT, Nat.zero_add, Nat.lt_add_one, if_true, if_false, ite_true, ite_false, decide_eq_true_eq, Bool.false_eq_true, reduceCtorEq, reduceIte, Nat.reduceLeDiff, Nat.reduceEqDiff, e1, e2, cd_loop b.natAbs a.natAbs b.natAbs (Nat.le_refl _)]
  rfl
theorem fraction_eq {a b : Int} (hb : b ≠ 0) (hs : b.natAbs < 2 ^ 9000) : val F_fraction [.int a, .int b] = some (fr (Rat.divInt a b)) := by
  have hg := gcd_pos (a := a) hb
  have hl := gcd_le (a := a) hb
  have d1 : divOk (Int.gcd a b : Int) = true := divOk_of (b := 9000) (by omega) (by omega)
  have d2 : divOk (-(Int.gcd a b : Int)) = true := divOk_of (b := 9000) (by omega) (by omega)
  rw [fr_divInt hb]
  simp only [F_fraction, val_fnF, zsF_eq, fzAt, D.fz, wpE, mgE, List.contains_cons, List.contains_nil, Nat.reduceBEq, Bool.or_false, Bool.or_true, Bool.false_or, Bool.true_or, seqF_eq, andThen_nx, andThen_bk, andThen_ct, andThen_rt, retV_rt, retV_nx, nxF, bkF, ctF, rtF, rnF, rmF, stF, exF, put, parF, agF, ifS, forF_eq, flF_nil, flF_cons, flK_nx, flK_ct, flK_bk, flK_rt, tbF, ttF, andF, orF, notF, andV, orV, ifF, chF, b1, b2, bN, clF_val, aNil, aCons, nmF, ownF, cF, fzF, itF, inF, itOf, rng1, rng2, yesF, dTru, dNot, I.isi_non_tuple, I.isi_non_list, I.isi_non_bool, I.isi_non_int, I.isi_non_str, I.isi_bl_tuple, I.isi_bl_list, I.isi_bl_bool, I.isi_bl_int, I.isi_bl_str, I.isi_int_tuple, I.isi_int_list, I.isi_int_bool, I.isi_int_int, I.isi_int_str, I.isi_str_tuple, I.isi_str_list, I.isi_str_bool, I.isi_str_int, I.isi_str_str, I.isi_tup_tuple, I.isi_tup_list, I.isi_tup_bool, I.isi_tup_int, I.isi_tup_str, I.isi_lst_tuple, I.isi_lst_list, I.isi_lst_bool, I.isi_lst_int, I.isi_lst_str, I.isi_scr_tuple, I.isi_scr_list, I.isi_scr_bool, I.isi_scr_int, I.isi_scr_str, dEq_bl, dNe_bl, dIsN_non, dIsN_bl, dIsN_int, dIsN_str, dIsN_tup, dIsN_lst, dAdd_int, dSub_int, dEq_int, dNe_int, dLt_int, dLe_int, dGt_int, dGe_int, dAddI_int, asB_bl, dIx_tup0, dIx_tup1, fLen, fAbs, fInt, fMax2, fMin2, gTupF, gsCons, gsNil, D.pure, D.pures, Bool.not_true, Bool.not_false, Bool.and_true, Bool.true_and, Bool.and_false, Bool.false_and, Option.bind_some, Option.bind_none, Option.map_some, Option.map_none, bind_ite, map_ite, List.map_cons, List.map_nil, List.replicate, List.cons_append, List.nil_append, List.append_nil, List.getElem?_cons_zero, List.getElem?_cons_succ, List.set_cons_zero, List.set_cons_succ, List.length_cons, List.length_nil, Nat.reduceAdd, Nat.reduceLT, Nat.zero_add, Nat.lt_add_one, if_true, if_false, ite_true, ite_false, decide_eq_true_eq, Bool.false_eq_true, reduceCtorEq, reduceIte, Nat.reduceLeDiff, Nat.reduceEqDiff, cd_eq, hb, decide_false]
  by_cases h : b < 0
  · simp only [h, decide_true, val_fnF, zsF_eq, fzAt, D.fz, wpE, mgE, List.contains_cons, List.contains_nil, Nat.reduceBEq, Bool.or_false, Bool.or_true, Bool.false_or, Bool.true_or, seqF_eq, andThen_nx, andThen_bk, andThen_ct, andThen_rt, retV_rt, retV_nx, nxF, bkF, ctF, rtF, rnF, rmF, stF, exF, put, parF, agF, ifS, forF_eq, flF_nil, flF_cons, flK_nx, flK_ct, flK_bk, flK_rt, tbF, ttF, andF, orF, notF, andV, orV, ifF, chF, b1, b2, bN, clF_val, aNil, aCons, nmF, ownF, cF, fzF, itF, inF, itOf, rng1, rng2, yesF, dTru, dNot, I.isi_non_tuple, I.isi_non_list, I.isi_non_bool, I.isi_non_int, I.isi_non_str, I.isi_bl_tuple, I.isi_bl_list, I.isi_bl_bool, I.isi_bl_int, I.isi_bl_str, I.isi_int_tuple, I.isi_int_list, I.isi_int_bool, I.isi_int_int, I.isi_int_str, I.isi_str_tuple, I.isi_str_list, I.isi_str_bool, I.isi_str_int, I.isi_str_str, I.isi_tup_tuple, I.isi_tup_list, I.isi_tup_bool, I.isi_tup_int, I.isi_tup_str, I.isi_lst_tuple, I.isi_lst_list, I.isi_lst_bool, I.isi_lst_int, I.isi_lst_str, I.isi_scr_tuple, I.isi_scr_list, I.isi_scr_bool, I.isi_scr_int, I.isi_scr_str, dEq_bl, dNe_bl, dIsN_non, dIsN_bl, dIsN_int, dIsN_str, dIsN_tup, dIsN_lst, dAdd_int, dSub_int, dEq_int, dNe_int, dLt_int, dLe_int, dGt_int, dGe_int, dAddI_int, asB_bl, dIx_tup0, dIx_tup1, fLen, fAbs, fInt, fMax2, fMin2, gTupF, gsCons, gsNil, D.pure, D.pures, Bool.not_true, Bool.not_false, Bool.and_true, Bool.true_and, Bool.and_false, Bool.false_and, Option.bind_some, Option.bind_none, Option.map_some, Option.map_none, bind_ite, map_ite, List.map_cons, List.map_nil, List.replicate, List.cons_append, List.nil_append, List.append_nil, List.getElem?_cons_zero, List.getElem?_cons_succ, List.set_cons_zero, List.set_cons_succ, List.length_cons, List.length_nil, Nat.reduceAdd, Nat.reduceLT, Nat.zero_add, Nat.lt_add_one, if_true, if_false, ite_true, ite_false, decide_eq_true_eq, Bool.false_eq_true, reduceCtorEq, reduceIte, Nat.reduceLeDiff, Nat.reduceEqDiff, dNeg, dDiv, d2, dTup_le (show [D.int (a.fdiv (-(Int.gcd a b : Int))), .int (b.fdiv (-(Int.gcd a b : Int)))].length ≤ 16777216 by simp)]
  · simp only [h, decide_false, val_fnF, zsF_eq, fzAt, D.fz, wpE, mgE, List.contains_cons, List.contains_nil, Nat.reduceBEq, Bool.or_false, Bool.or_true, Bool.false_or, Bool.true_or, seqF_eq, andThen_nx, andThen_bk, andThen_ct, andThen_rt, retV_rt, retV_nx, nxF, bkF, ctF, rtF, rnF, rmF, stF, exF, put, parF, agF, ifS, forF_eq, flF_nil, flF_cons, flK_nx, flK_ct, flK_bk, flK_rt, tbF, ttF, andF, orF, notF, andV, orV, ifF, chF, b1, b2, bN, clF_val, aNil, aCons, nmF, ownF, cF, fzF, itF, inF, itOf, rng1, rng2, yesF, dTru, dNot, I.isi_non_tuple, I.isi_non_list, I.isi_non_bool, I.isi_non_int, I.isi_non_str, I.isi_bl_tuple, I.isi_bl_list, I.isi_bl_bool, I.isi_bl_int, I.isi_bl_str, I.isi_int_tuple, I.isi_int_list, I.isi_int_bool, I.isi_int_int, I.isi_int_str, I.isi_str_tuple, I.isi_str_list, I.isi_str_bool, I.isi_str_int, I.isi_str_str, I.isi_tup_tuple, I.isi_tup_list, I.isi_tup_bool, I.isi_tup_int, I.isi_tup_str, I.isi_lst_tuple, I.isi_lst_list, I.isi_lst_bool, I.isi_lst_int, I.isi_lst_str, I.isi_scr_tuple, I.isi_scr_list, I.isi_scr_bool, I.isi_scr_int, I.isi_scr_str, dEq_bl, dNe_bl, dIsN_non, dIsN_bl, dIsN_int, dIsN_str, dIsN_tup, dIsN_lst, dAdd_int, dSub_int, dEq_int, dNe_int, dLt_int, dLe_int, dGt_int, dGe_int, dAddI_int, asB_bl, dIx_tup0, dIx_tup1, fLen, fAbs, fInt, fMax2, fMin2, gTupF, gsCons, gsNil, D.pure, D.pures, Bool.not_true, Bool.not_false, Bool.and_true, Bool.true_and, Bool.and_false, Bool.false_and, Option.bind_some, Option.bind_none, Option.map_some, Option.map_none, bind_ite, map_ite, List.map_cons, List.map_nil, List.replicate, List.cons_append, List.nil_append, List.append_nil, List.getElem?_cons_zero, List.getElem?_cons_succ, List.set_cons_zero, List.set_cons_succ, List.length_cons, List.length_nil, Nat.reduceAdd, Nat.reduceLT, Nat.zero_add, Nat.lt_add_one, if_true, if_false, ite_true, ite_false, decide_eq_true_eq, Bool.false_eq_true, reduceCtorEq, reduceIte, Nat.reduceLeDiff, Nat.reduceEqDiff, dDiv, d1, dTup_le (show [D.int (a.fdiv (Int.gcd a b : Int)), .int (b.fdiv (Int.gcd a b : Int))].length ≤ 16777216 by simp)]
/-- of bounded size -/
structure Nb (q : Rat) : Prop where
  a : q.num.natAbs < 2 ^ 2000
  b : q.den < 2 ^ 2000
theorem Nb.d {q : Rat} (h : Nb q) : (q.den : Int).natAbs < 2 ^ 2000 := by simpa using h.b
theorem abs_mul {a b : Int} {n m : Nat} (ha : a.natAbs < 2 ^ n) (hb : b.natAbs < 2 ^ m) : (a * b).natAbs < 2 ^ (n + m) := by
  rw [Int.natAbs_mul, Nat.pow_add]
  exact Nat.mul_lt_mul'' ha hb
theorem den2 {x y : Rat} (hx : Nb x) (hy : Nb y) : ((x.den : Int) * y.den).natAbs < 2 ^ 9000 ∧ (x.den : Int) * y.den ≠ 0 ∧ 0 < (x.den : Int) * y.den ∧ ((x.den : Int) * y.den).natAbs < 2 ^ 4000 := by
  have p := Int.mul_pos (den_pos x) (den_pos y)
  have q := abs_mul hx.d hy.d
  exact ⟨Nat.lt_of_lt_of_le q (Nat.pow_le_pow_right (by omega) (by omega)), by omega, p, q⟩
theorem plus_eq {x y : Rat} (hx : Nb x) (hy : Nb y) : val F_plus [fr x, fr y] = some (fr (x + y)) := by
  have m1 : mulOk x.num (y.den : Int) = true := mulOk_of hx.a hy.d
  have m2 : mulOk y.num (x.den : Int) = true := mulOk_of hy.a hx.d
  have m3 : mulOk (x.den : Int) (y.den : Int) = true := mulOk_of hx.d hy.d
  obtain ⟨h1, h2, _⟩ := den2 hx hy
  simp only [F_plus, fr_def, val_fnF, zsF_eq, fzAt, D.fz, wpE, mgE, List.contains_cons, List.contains_nil, Nat.reduceBEq, Bool.or_false, Bool.or_true, Bool.false_or, Bool.true_or, seqF_eq, andThen_nx, andThen_bk, andThen_ct, andThen_rt, retV_rt, retV_nx, nxF, bkF, ctF, rtF, rnF, rmF, stF, exF, put, parF, agF, ifS, forF_eq, flF_nil, flF_cons, flK_nx, flK_ct, flK_bk, flK_rt, tbF, ttF, andF, orF, notF, andV, orV, ifF, chF, b1, b2, bN, clF_val, aNil, aCons, nmF, ownF, cF, fzF, itF, inF, itOf, rng1, rng2, yesF, dTru, dNot, I.isi_non_tuple, I.isi_non_list, I.isi_non_bool, I.isi_non_int, I.isi_non_str, I.isi_bl_tuple, I.isi_bl_list, I.isi_bl_bool, I.isi_bl_int, I.isi_bl_str, I.isi_int_tuple, I.isi_int_list, I.isi_int_bool, I.isi_int_int, I.isi_int_str, I.isi_str_tuple, I.isi_str_list, I.isi_str_bool, I.isi_str_int, I.isi_str_str, I.isi_tup_tuple, I.isi_tup_list, I.isi_tup_bool, I.isi_tup_int, I.isi_tup_str, I.isi_lst_tuple, I.isi_lst_list, I.isi_lst_bool, I.isi_lst_int, I.isi_lst_str, I.isi_scr_tuple, I.isi_scr_list, I.isi_scr_bool, I.isi_scr_int, I.isi_scr_str, dEq_bl, dNe_bl, dIsN_non, dIsN_bl, dIsN_int, dIsN_str, dIsN_tup, dIsN_lst, dAdd_int, dSub_int, dEq_int, dNe_int, dLt_int, dLe_int, dGt_int, dGe_int, dAddI_int, asB_bl, dIx_tup0, dIx_tup1, fLen, fAbs, fInt, fMax2, fMin2, gTupF, gsCons, gsNil, D.pure, D.pures, Bool.not_true, Bool.not_false, Bool.and_true, Bool.true_and, Bool.and_false, Bool.false_and, Option.bind_some, Option.bind_none, Option.map_some, Option.map_none, bind_ite, map_ite, List.map_cons, List.map_nil, List.replicate, List.cons_append, List.nil_append, List.append_nil, List.getElem?_cons_zero, List.getElem?_cons_succ, List.set_cons_zero, List.set_cons_succ, List.length_cons, List.length_nil, Nat.reduceAdd, Nat.reduceLT, Nat.zero_add, Nat.lt_add_one, if_true, if_false, ite_true, ite_false, decide_eq_true_eq, Bool.false_eq_true, reduceCtorEq, reduceIte, Nat.reduceLeDiff, Nat.reduceEqDiff, dMul, m1, m2, m3, fraction_eq h2 h1, add_divInt]
theorem times_eq {x y : Rat} (hx : Nb x) (hy : Nb y) : val F_times [fr x, fr y] = some (fr (x * y)) := by
  have m1 : mulOk x.num y.num = true := mulOk_of hx.a hy.a
  have m3 : mulOk (x.den : Int) (y.den : Int) = true := mulOk_of hx.d hy.d
  obtain ⟨h1, h2, _⟩ := den2 hx hy
  simp only [F_times, fr_def, val_fnF, zsF_eq, fzAt, D.fz, wpE, mgE, List.contains_cons, List.contains_nil, Nat.reduceBEq, Bool.or_false, Bool.or_true, Bool.false_or, Bool.true_or, seqF_eq, andThen_nx, andThen_bk, andThen_ct, andThen_rt, retV_rt, retV_nx, nxF, bkF, ctF, rtF, rnF, rmF, stF, exF, put, parF, agF, ifS, forF_eq, flF_nil, flF_cons, flK_nx, flK_ct, flK_bk, flK_rt, tbF, ttF, andF, orF, notF, andV, orV, ifF, chF, b1, b2, bN, clF_val, aNil, aCons, nmF, ownF, cF, fzF, itF, inF, itOf, rng1, rng2, yesF, dTru, dNot, I.isi_non_tuple, I.isi_non_list, I.isi_non_bool, I.isi_non_int, I.isi_non_str, I.isi_bl_tuple, I.isi_bl_list, I.isi_bl_bool, I.isi_bl_int, I.isi_bl_str, I.isi_int_tuple, I.isi_int_list, I.isi_int_bool, I.isi_int_int, I.isi_int_str, I.isi_str_tuple, I.isi_str_list, I.isi_str_bool, I.isi_str_int, I.isi_str_str, I.isi_tup_tuple, I.isi_tup_list, I.isi_tup_bool, I.isi_tup_int, I.isi_tup_str, I.isi_lst_tuple, I.isi_lst_list, I.isi_lst_bool, I.isi_lst_int, I.isi_lst_str, I.isi_scr_tuple, I.isi_scr_list, I.isi_scr_bool, I.isi_scr_int, I.isi_scr_str, dEq_bl, dNe_bl, dIsN_non, dIsN_bl, dIsN_int, dIsN_str, dIsN_tup, dIsN_lst, dAdd_int, dSub_int, dEq_int, dNe_int, dLt_int, dLe_int, dGt_int, dGe_int, dAddI_int, asB_bl, dIx_tup0, dIx_tup1, fLen, fAbs, fInt, fMax2, fMin2, gTupF, gsCons, gsNil, D.pure, D.pures, Bool.not_true, Bool.not_false, Bool.and_true, Bool.true_and, Bool.and_false, Bool.false_and, Option.bind_some, Option.bind_none, Option.map_some, Option.map_none, bind_ite, map_ite, List.map_cons, List.map_nil, List.replicate, List.cons_append, List.nil_append, List.append_nil, List.getElem?_cons_zero, List.getElem?_cons_succ, List.set_cons_zero, List.set_cons_succ, List.length_cons, List.length_nil, Nat.reduceAdd, Nat.reduceLT, Nat.zero_add, Nat.lt_add_one, if_true, if_false, ite_true, ite_false, decide_eq_true_eq, Bool.false_eq_true, reduceCtorEq, reduceIte, Nat.reduceLeDiff, Nat.reduceEqDiff, dMul, m1, m3, fraction_eq h2 h1, mul_divInt]
/-! the law's -/
theorem frac_body (a b : D) (x y : Nat) (k o : Option D) : L__law_frac_1 [some a, some b, some (.int x), some (.int y), k, o] =
    if y = 0 then some (.bk, [some a, some b, some (.int x), some (.int y), k, o]) else some (.nx, [some a, some b, some (.int y), some (.int (x % y : Nat)), k, some (.int (x % y : Nat))]) := by
  simp only [L__law_frac_1, val_fnF, zsF_eq, fzAt, D.fz, wpE, mgE, List.contains_cons, List.contains_nil, Nat.reduceBEq, Bool.or_false, Bool.or_true, Bool.false_or, Bool.true_or, seqF_eq, andThen_nx, andThen_bk, andThen_ct, andThen_rt, retV_rt, retV_nx, nxF, bkF, ctF, rtF, rnF, rmF, stF, exF, put, parF, agF, ifS, forF_eq, flF_nil, flF_cons, flK_nx, flK_ct, flK_bk, flK_rt, tbF, ttF, andF, orF, notF, andV, orV, ifF, chF, b1, b2, bN, clF_val, aNil, aCons, nmF, ownF, cF, fzF, itF, inF, itOf, rng1, rng2, yesF, dTru, dNot, I.isi_non_tuple, I.isi_non_list, I.isi_non_bool, I.isi_non_int, I.isi_non_str, I.isi_bl_tuple, I.isi_bl_list, I.isi_bl_bool, I.isi_bl_int, I.isi_bl_str, I.isi_int_tuple, I.isi_int_list, I.isi_int_bool, I.isi_int_int, I.isi_int_str, I.isi_str_tuple, I.isi_str_list, I.isi_str_bool, I.isi_str_int, I.isi_str_str, I.isi_tup_tuple, I.isi_tup_list, I.isi_tup_bool, I.isi_tup_int, I.isi_tup_str, I.isi_lst_tuple, I.isi_lst_list, I.isi_lst_bool, I.isi_lst_int, I.isi_lst_str, I.isi_scr_tuple, I.isi_scr_list, I.isi_scr_bool, I.isi_scr_int, I.isi_scr_str, dEq_bl, dNe_bl, dIsN_non, dIsN_bl, dIsN_int, dIsN_str, dIsN_tup, dIsN_lst, dAdd_int, dSub_int, dEq_int, dNe_int, dLt_int, dLe_int, dGt_int, dGe_int, dAddI_int, asB_bl, dIx_tup0, dIx_tup1, fLen, fAbs, fInt, fMax2, fMin2, gTupF, gsCons, gsNil, D.pure, D.pures, Bool.not_true, Bool.not_false, Bool.and_true, Bool.true_and, Bool.and_false, Bool.false_and, Option.bind_some, Option.bind_none, Option.map_some, Option.map_none, bind_ite, map_ite, List.map_cons, List.map_nil, List.replicate, List.cons_append, List.nil_append, List.append_nil, List.getElem?_cons_zero, List.getElem?_cons_succ, List.set_cons_zero, List.set_cons_succ, List.length_cons, List.length_nil, Nat.reduceAdd, Nat.reduceLT, Nat.zero_add, Nat.lt_add_one, if_true, if_false, ite_true, ite_false, decide_eq_true_eq, Bool.false_eq_true, reduceCtorEq, reduceIte, Nat.reduceLeDiff, Nat.reduceEqDiff]
  by_cases h : y = 0
  · simp [h, val_fnF, zsF_eq, fzAt, D.fz, wpE, mgE, List.contains_cons, List.contains_nil, Nat.reduceBEq, Bool.or_false, Bool.or_true, Bool.false_or, Bool.true_or, seqF_eq, andThen_nx, andThen_bk, andThen_ct, andThen_rt, retV_rt, retV_nx, nxF, bkF, ctF, rtF, rnF, rmF, stF, exF, put, parF, agF, ifS, forF_eq, flF_nil, flF_cons, flK_nx, flK_ct, flK_bk, flK_rt, tbF, ttF, andF, orF, notF, andV, orV, ifF, chF, b1, b2, bN, clF_val, aNil, aCons, nmF, ownF, cF, fzF, itF, inF, itOf, rng1, rng2, yesF, dTru, dNot, I.isi_non_tuple, I.isi_non_list, I.isi_non_bool, I.isi_non_int, I.isi_non_str, I.isi_bl_tuple, I.isi_bl_list, I.isi_bl_bool, I.isi_bl_int, I.isi_bl_str, I.isi_int_tuple, I.isi_int_list, I.isi_int_bool, I.isi_int_int, I.isi_int_str, I.isi_str_tuple, I.isi_str_list, I.isi_str_bool, I.isi_str_int, I.isi_str_str, I.isi_tup_tuple, I.isi_tup_list, I.isi_tup_bool, I.isi_tup_int, I.isi_tup_str, I.isi_lst_tuple, I.isi_lst_list, I.isi_lst_bool, I.isi_lst_int, I.isi_lst_str, I.isi_scr_tuple, I.isi_scr_list, I.isi_scr_bool, I.isi_scr_int, I.isi_scr_str, dEq_bl, dNe_bl, dIsN_non, dIsN_bl, dIsN_int, dIsN_str, dIsN_tup, dIsN_lst, dAdd_int, dSub_int, dEq_int, dNe_int, dLt_int, dLe_int, dGt_int, dGe_int, dAddI_int, asB_bl, dIx_tup0, dIx_tup1, fLen, fAbs, fInt, fMax2, fMin2, gTupF, gsCons, gsNil, D.pure, D.pures, Bool.not_true, Bool.not_false, Bool.and_true, Bool.true_and, Bool.and_false, Bool.false_and, Option.bind_some, Option.bind_none, Option.map_some, Option.map_none, bind_ite, map_ite, List.map_cons, List.map_nil, List.replicate, List.cons_append, List.nil_append, List.append_nil, List.getElem?_cons_zero, List.getElem?_cons_succ, List.set_cons_zero, List.set_cons_succ, List.length_cons, List.length_nil, Nat.reduceAdd, Nat.reduceLT, Nat.zero_add, Nat.lt_add_one, if_true, if_false, ite_true, ite_false, decide_eq_true_eq, Bool.false_eq_true, reduceCtorEq, reduceIte, Nat.reduceLeDiff, Nat.reduceEqDiff]
  · have hy : (0 : Int) < (y : Int) := by omega
    have e : ¬ ((y : Int) = 0) := by omega
    simp only [h, e, val_fnF, zsF_eq, fzAt, D.fz, wpE, mgE, List.contains_cons, List.contains_nil, Nat.reduceBEq, Bool.or_false, Bool.or_true, Bool.false_or, Bool.true_or, seqF_eq, andThen_nx, andThen_bk, andThen_ct, andThen_rt, retV_rt, retV_nx, nxF, bkF, ctF, rtF, rnF, rmF, stF, exF, put, parF, agF, ifS, forF_eq, flF_nil, flF_cons, flK_nx, flK_ct, flK_bk, flK_rt, tbF, ttF, andF, orF, notF, andV, orV, ifF, chF, b1, b2, bN, clF_val, aNil, aCons, nmF, ownF, cF, fzF, itF, inF, itOf, rng1, rng2, yesF, dTru, dNot, I.isi_non_tuple, I.isi_non_list, I.isi_non_bool, I.isi_non_int, I.isi_non_str, I.isi_bl_tuple, I.isi_bl_list, I.isi_bl_bool, I.isi_bl_int, I.isi_bl_str, I.isi_int_tuple, I.isi_int_list, I.isi_int_bool, I.isi_int_int, I.isi_int_str, I.isi_str_tuple, I.isi_str_list, I.isi_str_bool, I.isi_str_int, I.isi_str_str, I.isi_tup_tuple, I.isi_tup_list, I.isi_tup_bool, I.isi_tup_int, I.isi_tup_str, I.isi_lst_tuple, I.isi_lst_list, I.isi_lst_bool, I.isi_lst_int, I.isi_lst_str, I.isi_scr_tuple, I.isi_scr_list, I.isi_scr_bool, I.isi_scr_int, I.isi_scr_str, dEq_bl, dNe_bl, dIsN_non, dIsN_bl, dIsN_int, dIsN_str, dIsN_tup, dIsN_lst, dAdd_int, dSub_int, dEq_int, dNe_int, dLt_int, dLe_int, dGt_int, dGe_int, dAddI_int, asB_bl, dIx_tup0, dIx_tup1, fLen, fAbs, fInt, fMax2, fMin2, gTupF, gsCons, gsNil, D.pure, D.pures, Bool.not_true, Bool.not_false, Bool.and_true, Bool.true_and, Bool.and_false, Bool.false_and, Option.bind_some, Option.bind_none, Option.map_some, Option.map_none, bind_ite, map_ite, List.map_cons, List.map_nil, List.replicate, List.cons_append, List.nil_append, List.append_nil, List.getElem?_cons_zero, List.getElem?_cons_succ, List.set_cons_zero, List.set_cons_succ, List.length_cons, List.length_nil, Nat.reduceAdd, Nat.reduceLT, Nat.zero_add, Nat.lt_add_one, if_true, if_false, ite_true, ite_false, decide_eq_true_eq, Bool.false_eq_true, reduceCtorEq, reduceIte, Nat.reduceLeDiff, Nat.reduceEqDiff, dMod_pos hy, decide_false, Int.natCast_emod]
theorem half {y r : Nat} (h : r < y) (h0 : 0 < r) : 2 * (y % r) < y := by
  by_cases q : 2 * r ≤ y
  · have := Nat.mod_lt y h0; omega
  · have e : y % r = y - r := by rw [Nat.mod_eq_sub_mod (by omega), Nat.mod_eq_of_lt (by omega)]
    omega
theorem frac_loop (a b : D) : ∀ (n : Nat) (xs : List D) (x y : Nat) (k o : Option D), y < 2 ^ n → 2 * n ≤ xs.length →
    ∃ k' o', flF (put 4) L__law_frac_1 xs [some a, some b, some (.int x), some (.int y), k, o] = some (.nx, [some a, some b, some (.int (Nat.gcd x y : Nat)), some (.int 0), k', o'])
  | n, [], x, y, k, o, hy, hx => by
    have : n = 0 := by simp at hx; omega
    subst this
    have : y = 0 := by simpa using hy
    subst this
    exact ⟨k, o, by simp [flF_nil]⟩
  | 0, u :: xs, x, y, k, o, hy, hx => by
    have : y = 0 := by simpa using hy
    subst this
    refine ⟨some u, o, ?_⟩
    simp only [val_fnF, zsF_eq, fzAt, D.fz, wpE, mgE, List.contains_cons, List.contains_nil, Nat.reduceBEq, Bool.or_false, Bool.or_true, Bool.false_or, Bool.true_or, seqF_eq, andThen_nx, andThen_bk, andThen_ct, andThen_rt, retV_rt, retV_nx, nxF, bkF, ctF, rtF, rnF, rmF, stF, exF, put, parF, agF, ifS, forF_eq, flF_nil, flF_cons, flK_nx, flK_ct, flK_bk, flK_rt, tbF, ttF, andF, orF, notF, andV, orV, ifF, chF, b1, b2, bN, clF_val, aNil, aCons, nmF, ownF, cF, fzF, itF, inF, itOf, rng1, rng2, yesF, dTru, dNot, I.isi_non_tuple, I.isi_non_list, I.isi_non_bool, I.isi_non_int, I.isi_non_str, I.isi_bl_tuple, I.isi_bl_list, I.isi_bl_bool, I.isi_bl_int, I.isi_bl_str, I.isi_int_tuple, I.isi_int_list, I.isi_int_bool, I.isi_int_int, I.isi_int_str, I.isi_str_tuple, I.isi_str_list, I.isi_str_bool, I.isi_str_int, I.isi_str_str, I.isi_tup_tuple, I.isi_tup_list, I.isi_tup_bool, I.isi_tup_int, I.isi_tup_str, I.isi_lst_tuple, I.isi_lst_list, I.isi_lst_bool, I.isi_lst_int, I.isi_lst_str, I.isi_scr_tuple, I.isi_scr_list, I.isi_scr_bool, I.isi_scr_int, I.isi_scr_str, dEq_bl, dNe_bl, dIsN_non, dIsN_bl, dIsN_int, dIsN_str, dIsN_tup, dIsN_lst, dAdd_int, dSub_int, dEq_int, dNe_int, dLt_int, dLe_int, dGt_int, dGe_int, dAddI_int, asB_bl, dIx_tup0, dIx_tup1, fLen, fAbs, fInt, fMax2, fMin2, gTupF, gsCons, gsNil, D.pure, D.pures, Bool.not_true, Bool.not_false, Bool.and_true, Bool.true_and, Bool.and_false, Bool.false_and, Option.bind_some, Option.bind_none, Option.map_some, Option.map_none, bind_ite, map_ite, List.map_cons, List.map_nil, List.replicate, List.cons_append, List.nil_append, List.append_nil, List.getElem?_cons_zero, List.getElem?_cons_succ, List.set_cons_zero, List.set_cons_succ, List.length_cons, List.length_nil, Nat.reduceAdd, Nat.reduceLT, Nat.zero_add, Nat.lt_add_one, if_true, if_false, ite_true, ite_false, decide_eq_true_eq, Bool.false_eq_true, reduceCtorEq, reduceIte, Nat.reduceLeDiff, Nat.reduceEqDiff, frac_body]
    simp
  | n + 1, [u], x, y, k, o, hy, hx => by simp at hx; omega
  | n + 1, u :: u2 :: xs, x, y, k, o, hy, hx => by
    by_cases h : y = 0
    · subst h
      refine ⟨some u, o, ?_⟩
      simp only [val_fnF, zsF_eq, fzAt, D.fz, wpE, mgE, List.contains_cons, List.contains_nil, Nat.reduceBEq, Bool.or_false, Bool.or_true, Bool.false_or, Bool.true_or, seqF_eq, andThen_nx, andThen_bk, andThen_ct, andThen_rt, retV_rt, retV_nx, nxF, bkF, ctF, rtF, rnF, rmF, stF, exF, put, parF, agF, ifS, forF_eq, flF_nil, flF_cons, flK_nx, flK_ct, flK_bk, flK_rt, tbF, ttF, andF, orF, notF, andV, orV, ifF, chF, b1, b2, bN, clF_val, aNil, aCons, nmF, ownF, cF, fzF, itF, inF, itOf, rng1, rng2, yesF, dTru, dNot, I.isi_non_tuple, I.isi_non_list, I.isi_non_bool, I.isi_non_int, I.isi_non_str, I.isi_bl_tuple, I.isi_bl_list, I.isi_bl_bool, I.isi_bl_int, I.isi_bl_str, I.isi_int_tuple, I.isi_int_list, I.isi_int_bool, I.isi_int_int, I.isi_int_str, I.isi_str_tuple, I.isi_str_list, I.isi_str_bool, I.isi_str_int, I.isi_str_str, I.isi_tup_tuple, I.isi_tup_list, I.isi_tup_bool, I.isi_tup_int, I.isi_tup_str, I.isi_lst_tuple, I.isi_lst_list, I.isi_lst_bool, I.isi_lst_int, I.isi_lst_str, I.isi_scr_tuple, I.isi_scr_list, I.isi_scr_bool, I.isi_scr_int, I.isi_scr_str, dEq_bl, dNe_bl, dIsN_non, dIsN_bl, dIsN_int, dIsN_str, dIsN_tup, dIsN_lst, dAdd_int, dSub_int, dEq_int, dNe_int, dLt_int, dLe_int, dGt_int, dGe_int, dAddI_int, asB_bl, dIx_tup0, dIx_tup1, fLen, fAbs, fInt, fMax2, fMin2, gTupF, gsCons, gsNil, D.pure, D.pures, Bool.not_true, Bool.not_false, Bool.and_true, Bool.true_and, Bool.and_false, Bool.false_and, Option.bind_some, Option.bind_none, Option.map_some, Option.map_none, bind_ite, map_ite, List.map_cons, List.map_nil, List.replicate, List.cons_append, List.nil_append, List.append_nil, List.getElem?_cons_zero, List.getElem?_cons_succ, List.set_cons_zero, List.set_cons_succ, List.length_cons, List.length_nil, Nat.reduceAdd, Nat.reduceLT, Nat.zero_add, Nat.lt_add_one, if_true, if_false, ite_true, ite_false, decide_eq_true_eq, Bool.false_eq_true, reduceCtorEq, reduceIte, Nat.reduceLeDiff, Nat.reduceEqDiff, frac_body]
      simp
    · by_cases h2 : x % y = 0
      · refine ⟨some u2, some (.int (x % y : Nat)), ?_⟩
        have e : Nat.gcd x y = y := by rw [Nat.gcd_comm, Nat.gcd_rec, h2, Nat.gcd_zero_left]
        simp only [val_fnF, zsF_eq, fzAt, D.fz, wpE, mgE, List.contains_cons, List.contains_nil, Nat.reduceBEq, Bool.or_false, Bool.or_true, Bool.false_or, Bool.true_or, seqF_eq, andThen_nx, andThen_bk, andThen_ct, andThen_rt, retV_rt, retV_nx, nxF, bkF, ctF, rtF, rnF, rmF, stF, exF, put, parF, agF, ifS, forF_eq, flF_nil, flF_cons, flK_nx, flK_ct, flK_bk, flK_rt, tbF, ttF, andF, orF, notF, andV, orV, ifF, chF, b1, b2, bN, clF_val, aNil, aCons, nmF, ownF, cF, fzF, itF, inF, itOf, rng1, rng2, yesF, dTru, dNot, I.isi_non_tuple, I.isi_non_list, I.isi_non_bool, I.isi_non_int, I.isi_non_str, I.isi_bl_tuple, I.isi_bl_list, I.isi_bl_bool, I.isi_bl_int, I.isi_bl_str, I.isi_int_tuple, I.isi_int_list, I.isi_int_bool, I.isi_int_int, I.isi_int_str, I.isi_str_tuple, I.isi_str_list, I.isi_str_bool, I.isi_str_int, I.isi_str_str, I.isi_tup_tuple, I.isi_tup_list, I.isi_tup_bool, I.isi_tup_int, I.isi_tup_str, I.isi_lst_tuple, I.isi_lst_list, I.isi_lst_bool, I.isi_lst_int, I.isi_lst_str, I.isi_scr_tuple, I.isi_scr_list, I.isi_scr_bool, I.isi_scr_int, I.isi_scr_str, dEq_bl, dNe_bl, dIsN_non, dIsN_bl, dIsN_int, dIsN_str, dIsN_tup, dIsN_lst, dAdd_int, dSub_int, dEq_int, dNe_int, dLt_int, dLe_int, dGt_int, dGe_int, dAddI_int, asB_bl, dIx_tup0, dIx_tup1, fLen, fAbs, fInt, fMax2, fMin2, gTupF, gsCons, gsNil, D.pure, D.pures, Bool.not_true, Bool.not_false, Bool.and_true, Bool.true_and, Bool.and_false, Bool.false_and, Option.bind_some, Option.bind_none, Option.map_some, Option.map_none, bind_ite, map_ite, List.map_cons, List.map_nil, List.replicate, List.cons_append, List.nil_append, List.append_nil, List.getElem?_cons_zero, List.getElem?_cons_succ, List.set_cons_zero, List.set_cons_succ, List.length_cons, List.length_nil, Nat.reduceAdd, Nat.reduceLT, Nat.zero_add, Nat.lt_add_one, if_true, if_false, ite_true, ite_false, decide_eq_true_eq, Bool.false_eq_true, reduceCtorEq, reduceIte, Nat.reduceLeDiff, Nat.reduceEqDiff, frac_body, if_neg h, h2, e]
        simp
      · have hr : x % y < y := Nat.mod_lt _ (by omega)
        have hh := half hr (by omega)
        obtain ⟨k', o', e⟩ := frac_loop a b n xs (x % y) (y % (x % y)) (some u2) (some (.int (y % (x % y) : Nat))) (by rw [Nat.pow_succ] at hy; omega) (by simp at hx; omega)
        refine ⟨k', o', ?_⟩
        have eg : Nat.gcd (x % y) (y % (x % y)) = Nat.gcd x y := by rw [Nat.gcd_comm, ← Nat.gcd_rec, ← Nat.gcd_rec, Nat.gcd_comm]
        rw [eg] at e
        simp only [val_fnF, zsF_eq, fzAt, D.fz, wpE, mgE, List.contains_cons, List.contains_nil, Nat.reduceBEq, Bool.or_false, Bool.or_true, Bool.false_or, Bool.true_or, seqF_eq, andThen_nx, andThen_bk, andThen_ct, andThen_rt, retV_rt, retV_nx, nxF, bkF, ctF, rtF, rnF, rmF, stF, exF, put, parF, agF, ifS, forF_eq, flF_nil, flF_cons, flK_nx, flK_ct, flK_bk, flK_rt, tbF, ttF, andF, orF, notF, andV, orV, ifF, chF, b1, b2, bN, clF_val, aNil, aCons, nmF, ownF, cF, fzF, itF, inF, itOf, rng1, rng2, yesF, dTru, dNot, I.isi_non_tuple, I.isi_non_list, I.isi_non_bool, I.isi_non_int, I.isi_non_str, I.isi_bl_tuple, I.isi_bl_list, I.isi_bl_bool, I.isi_bl_int, I.isi_bl_str, I.isi_int_tuple, I.isi_int_list, I.isi_int_bool, I.isi_int_int, I.isi_int_str, I.isi_str_tuple, I.isi_str_list, I.isi_str_bool, I.isi_str_int, I.isi_str_str, I.isi_tup_tuple, I.isi_tup_list, I.isi_tup_bool, I.isi_tup_int, I.isi_tup_str, I.isi_lst_tuple, I.isi_lst_list, I.isi_lst_bool, I.isi_lst_int, I.isi_lst_str, I.isi_scr_tuple, I.isi_scr_list, I.isi_scr_bool, I.isi_scr_int, I.isi_scr_str, dEq_bl, dNe_bl, dIsN_non, dIsN_bl, dIsN_int, dIsN_str, dIsN_tup, dIsN_lst, dAdd_int, dSub_int, dEq_int, dNe_int, dLt_int, dLe_int, dGt_int, dGe_int, dAddI_int, asB_bl, dIx_tup0, dIx_tup1, fLen, fAbs, fInt, fMax2, fMin2, gTupF, gsCons, gsNil, D.pure, D.pures, Bool.not_true, Bool.not_false, Bool.and_true, Bool.true_and, Bool.and_false, Bool.false_and, Option.bind_some, Option.bind_none, Option.map_some, Option.map_none, bind_ite, map_ite, List.map_cons, List.map_nil, List.replicate, List.cons_append, List.nil_append, List.append_nil, List.getElem?_cons_zero, List.getElem?_cons_succ, List.set_cons_zero, List.set_cons_succ, List.length_cons, List.length_nil, Nat.reduceAdd, Nat.reduceLT, Nat.zero_add, Nat.lt_add_one, if_true, if_false, ite_true, ite_false, decide_eq_true_eq, Bool.false_eq_true, reduceCtorEq, reduceIte, Nat.reduceLeDiff, Nat.reduceEqDiff, frac_body, if_neg h, if_neg h2, e]
theorem abs_eq (a : Int) : (if a < 0 then -a else a) = (a.natAbs : Int) := by split <;> omega
theorem bits_lt (b : Int) : b.natAbs < 2 ^ (Builtin.Int.intBits b) := by
  unfold Builtin.Int.intBits
  split
  · rename_i h; simp at h; subst h; decide
  · exact Nat.lt_log2_self
theorem lfrac_eq {a b : Int} (hb : 0 < b) (hn : b.natAbs < 2 ^ 4000) : val F__law_frac [.int a, .int b] = some (fr (Rat.divInt a b)) := by
  have hbits : Builtin.Int.intBits (b.natAbs : Int) ≤ 4000 := PyProof.Rows.intBits_le (by simpa using hn)
  have hlt := bits_lt (b.natAbs : Int)
  generalize hk : Builtin.Int.intBits (b.natAbs : Int) = bits at hbits hlt
  have hr : rgOk (2 * (bits : Int) + 2) = true := by
    exact tst_of (by omega)
  have hm : mulOk 2 (bits : Int) = true := mulOk_of (a := 2) (b := 12) (by decide) (by simp; omega)
  have hg' := gcd_pos (a := a) (b := b) (by omega)
  have hl := gcd_le (a := a) (b := b) (by omega)
  have hd : divOk (Int.gcd a b : Int) = true := divOk_of (b := 4000) (by omega) (by simp; omega) (by omega)
  obtain ⟨k', o', e⟩ := frac_loop (.int a) (.int b) bits ((List.range (2 * (bits : Int) + 2).toNat).map fun i : Nat => .int (i : Int)) a.natAbs b.natAbs none none (by simpa using hlt) (by simp; omega)
  have hb' : ¬ b < 0 := by omega
  have ht : ∀ a b : D, dTup [a, b] = some (.tup [a, b]) := fun _ _ => dTup_le (by show 2 ≤ 16777216; omega)
  have eg : (Nat.gcd a.natAbs b.natAbs : Nat) = Int.gcd a b := rfl
  rw [eg] at e
  rw [fr_divInt (by omega)]
  simp only [F__law_frac, val_fnF, zsF_eq, fzAt, D.fz, wpE, mgE, List.contains_cons, List.contains_nil, Nat.reduceBEq, Bool.or_false, Bool.or_true, Bool.false_or, Bool.true_or, seqF_eq, andThen_nx, andThen_bk, andThen_ct, andThen_rt, retV_rt, retV_nx, nxF, bkF, ctF, rtF, rnF, rmF, stF, exF, put, parF, agF, ifS, forF_eq, flF_nil, flF_cons, flK_nx, flK_ct, flK_bk, flK_rt, tbF, ttF, andF, orF, notF, andV, orV, ifF, chF, b1, b2, bN, clF_val, aNil, aCons, nmF, ownF, cF, fzF, itF, inF, itOf, rng1, rng2, yesF, dTru, dNot, I.isi_non_tuple, I.isi_non_list, I.isi_non_bool, I.isi_non_int, I.isi_non_str, I.isi_bl_tuple, I.isi_bl_list, I.isi_bl_bool, I.isi_bl_int, I.isi_bl_str, I.isi_int_tuple, I.isi_int_list, I.isi_int_bool, I.isi_int_int, I.isi_int_str, I.isi_str_tuple, I.isi_str_list, I.isi_str_bool, I.isi_str_int, I.isi_str_str, I.isi_tup_tuple, I.isi_tup_list, I.isi_tup_bool, I.isi_tup_int, I.isi_tup_str, I.isi_lst_tuple, I.isi_lst_list, I.isi_lst_bool, I.isi_lst_int, I.isi_lst_str, I.isi_scr_tuple, I.isi_scr_list, I.isi_scr_bool, I.isi_scr_int, I.isi_scr_str, dEq_bl, dNe_bl, dIsN_non, dIsN_bl, dIsN_int, dIsN_str, dIsN_tup, dIsN_lst, dAdd_int, dSub_int, dEq_int, dNe_int, dLt_int, dLe_int, dGt_int, dGe_int, dAddI_int, asB_bl, dIx_tup0, dIx_tup1, fLen, fAbs, fInt, fMax2, fMin2, gTupF, gsCons, gsNil, D.pure, D.pures, Bool.not_true, Bool.not_false, Bool.and_true, Bool.true_and, Bool.and_false, Bool.false_and, Option.bind_some, Option.bind_none, Option.map_some, Option.map_none, bind_ite, map_ite, List.map_cons, List.map_nil, List.replicate, List.cons_append, List.nil_append, List.append_nil, List.getElem?_cons_zero, List.getElem?_cons_succ, List.set_cons_zero, List.set_cons_succ, List.length_cons, List.length_nil, Nat.reduceAdd, Nat.reduceLT, Nat.zero_add, Nat.lt_add_one, if_true, if_false, ite_true, ite_false, decide_eq_true_eq, Bool.false_eq_true, reduceCtorEq, reduceIte, Nat.reduceLeDiff, Nat.reduceEqDiff, abs_eq, fBits, hk, dMul_int hm, hr, e, hb', decide_false, dDiv, hd, ht]
theorem lplus_eq {x y : Rat} (hx : Nb x) (hy : Nb y) : val F__law_plus [fr x, fr y] = some (fr (x + y)) := by
  have m1 : mulOk x.num (y.den : Int) = true := mulOk_of hx.a hy.d
  have m2 : mulOk y.num (x.den : Int) = true := mulOk_of hy.a hx.d
  have m3 : mulOk (x.den : Int) (y.den : Int) = true := mulOk_of hx.d hy.d
  obtain ⟨_, _, h1, h2⟩ := den2 hx hy
  simp only [F__law_plus, fr_def, val_fnF, zsF_eq, fzAt, D.fz, wpE, mgE, List.contains_cons, List.contains_nil, Nat.reduceBEq, Bool.or_false, Bool.or_true, Bool.false_or, Bool.true_or, seqF_eq, andThen_nx, andThen_bk, andThen_ct, andThen_rt, retV_rt, retV_nx, nxF, bkF, ctF, rtF, rnF, rmF, stF, exF, put, parF, agF, ifS, forF_eq, flF_nil, flF_cons, flK_nx, flK_ct, flK_bk, flK_rt, tbF, ttF, andF, orF, notF, andV, orV, ifF, chF, b1, b2, bN, clF_val, aNil, aCons, nmF, ownF, cF, fzF, itF, inF, itOf, rng1, rng2, yesF, dTru, dNot, I.isi_non_tuple, I.isi_non_list, I.isi_non_bool, I.isi_non_int, I.isi_non_str, I.isi_bl_tuple, I.isi_bl_list, I.isi_bl_bool, I.isi_bl_int, I.isi_bl_str, I.isi_int_tuple, I.isi_int_list, I.isi_int_bool, I.isi_int_int, I.isi_int_str, I.isi_str_tuple, I.isi_str_list, I.isi_str_bool, I.isi_str_int, I.isi_str_str, I.isi_tup_tuple, I.isi_tup_list, I.isi_tup_bool, I.isi_tup_int, I.isi_tup_str, I.isi_lst_tuple, I.isi_lst_list, I.isi_lst_bool, I.isi_lst_int, I.isi_lst_str, I.isi_scr_tuple, I.isi_scr_list, I.isi_scr_bool, I.isi_scr_int, I.isi_scr_str, dEq_bl, dNe_bl, dIsN_non, dIsN_bl, dIsN_int, dIsN_str, dIsN_tup, dIsN_lst, dAdd_int, dSub_int, dEq_int, dNe_int, dLt_int, dLe_int, dGt_int, dGe_int, dAddI_int, asB_bl, dIx_tup0, dIx_tup1, fLen, fAbs, fInt, fMax2, fMin2, gTupF, gsCons, gsNil, D.pure, D.pures, Bool.not_true, Bool.not_false, Bool.and_true, Bool.true_and, Bool.and_false, Bool.false_and, Option.bind_some, Option.bind_none, Option.map_some, Option.map_none, bind_ite, map_ite, List.map_cons, List.map_nil, List.replicate, List.cons_append, List.nil_append, List.append_nil, List.getElem?_cons_zero, List.getElem?_cons_succ, List.set_cons_zero, List.set_cons_succ, List.length_cons, List.length_nil, Nat.reduceAdd, Nat.reduceLT, Nat.zero_add, Nat.lt_add_one, if_true, if_false, ite_true, ite_false, decide_eq_true_eq, Bool.false_eq_true, reduceCtorEq, reduceIte, Nat.reduceLeDiff, Nat.reduceEqDiff, dMul, m1, m2, m3, lfrac_eq h1 h2, add_divInt]
theorem ltimes_eq {x y : Rat} (hx : Nb x) (hy : Nb y) : val F__law_times [fr x, fr y] = some (fr (x * y)) := by
  have m1 : mulOk x.num y.num = true := mulOk_of hx.a hy.a
  have m3 : mulOk (x.den : Int) (y.den : Int) = true := mulOk_of hx.d hy.d
  obtain ⟨_, _, h1, h2⟩ := den2 hx hy
  simp only [F__law_times, fr_def, val_fnF, zsF_eq, fzAt, D.fz, wpE, mgE, List.contains_cons, List.contains_nil, Nat.reduceBEq, Bool.or_false, Bool.or_true, Bool.false_or, Bool.true_or, seqF_eq, andThen_nx, andThen_bk, andThen_ct, andThen_rt, retV_rt, retV_nx, nxF, bkF, ctF, rtF, rnF, rmF, stF, exF, put, parF, agF, ifS, forF_eq, flF_nil, flF_cons, flK_nx, flK_ct, flK_bk, flK_rt, tbF, ttF, andF, orF, notF, andV, orV, ifF, chF, b1, b2, bN, clF_val, aNil, aCons, nmF, ownF, cF, fzF, itF, inF, itOf, rng1, rng2, yesF, dTru, dNot, I.isi_non_tuple, I.isi_non_list, I.isi_non_bool, I.isi_non_int, I.isi_non_str, I.isi_bl_tuple, I.isi_bl_list, I.isi_bl_bool, I.isi_bl_int, I.isi_bl_str, I.isi_int_tuple, I.isi_int_list, I.isi_int_bool, I.isi_int_int, I.isi_int_str, I.isi_str_tuple, I.isi_str_list, I.isi_str_bool, I.isi_str_int, I.isi_str_str, I.isi_tup_tuple, I.isi_tup_list, I.isi_tup_bool, I.isi_tup_int, I.isi_tup_str, I.isi_lst_tuple, I.isi_lst_list, I.isi_lst_bool, I.isi_lst_int, I.isi_lst_str, I.isi_scr_tuple, I.isi_scr_list, I.isi_scr_bool, I.isi_scr_int, I.isi_scr_str, dEq_bl, dNe_bl, dIsN_non, dIsN_bl, dIsN_int, dIsN_str, dIsN_tup, dIsN_lst, dAdd_int, dSub_int, dEq_int, dNe_int, dLt_int, dLe_int, dGt_int, dGe_int, dAddI_int, asB_bl, dIx_tup0, dIx_tup1, fLen, fAbs, fInt, fMax2, fMin2, gTupF, gsCons, gsNil, D.pure, D.pures, Bool.not_true, Bool.not_false, Bool.and_true, Bool.true_and, Bool.and_false, Bool.false_and, Option.bind_some, Option.bind_none, Option.map_some, Option.map_none, bind_ite, map_ite, List.map_cons, List.map_nil, List.replicate, List.cons_append, List.nil_append, List.append_nil, List.getElem?_cons_zero, List.getElem?_cons_succ, List.set_cons_zero, List.set_cons_succ, List.length_cons, List.length_nil, Nat.reduceAdd, Nat.reduceLT, Nat.zero_add, Nat.lt_add_one, if_true, if_false, ite_true, ite_false, decide_eq_true_eq, Bool.false_eq_true, reduceCtorEq, reduceIte, Nat.reduceLeDiff, Nat.reduceEqDiff, dMul, m1, m3, lfrac_eq h1 h2, mul_divInt]
/-! a multiple of 1 / N, at most B / N -/
def Md (N B : Nat) (q : Rat) : Prop := 0 < N ∧ ∃ k : Int, q = Rat.divInt k N ∧ k.natAbs ≤ B
theorem Md.nb {N B : Nat} {q : Rat} (h : Md N B q) (hN : N < 2 ^ 2000) (hB : B < 2 ^ 2000) : Nb q := by
  obtain ⟨n0, k, rfl, hk⟩ := h
  refine ⟨?_, ?_⟩
  · rw [Rat.num_divInt, Int.sign_eq_one_of_pos (by omega), Int.one_mul]
    have : (k / ((N : Int).gcd k : Int)).natAbs ≤ k.natAbs := by
      rw [Int.natAbs_ediv_of_dvd (Int.gcd_dvd_right ..)]
      exact Nat.div_le_self _ _
    omega
  · rw [Rat.den_divInt, if_neg (by omega)]
    exact Nat.lt_of_le_of_lt (Nat.div_le_self _ _) (by simpa using hN)
theorem Md.mono {N B C : Nat} {q : Rat} (h : Md N B q) (hl : B ≤ C) : Md N C q := by
  obtain ⟨n0, k, e, hk⟩ := h
  exact ⟨n0, k, e, by omega⟩
theorem Md.scale {N B : Nat} {q : Rat} (h : Md N B q) {m : Nat} (hm : 0 < m) : Md (N * m) (B * m) q := by
  obtain ⟨n0, k, rfl, hk⟩ := h
  refine ⟨Nat.mul_pos n0 hm, k * m, ?_, by rw [Int.natAbs_mul]; exact Nat.mul_le_mul_right _ hk⟩
  rw [Rat.divInt_eq_divInt_iff (by omega) (by have := Nat.mul_pos n0 hm; omega), Int.natCast_mul]
  rw [Int.mul_comm (N : Int) m, ← Int.mul_assoc]
theorem Md.add {N B C : Nat} {x y : Rat} (hx : Md N B x) (hy : Md N C y) : Md N (B + C) (x + y) := by
  obtain ⟨n0, k, rfl, hk⟩ := hx
  obtain ⟨_, l, rfl, hl⟩ := hy
  refine ⟨n0, k + l, ?_, by omega⟩
  rw [Rat.divInt_eq_div, Rat.divInt_eq_div, Rat.divInt_eq_div, Rat.intCast_add]
  grind
theorem Md.mul {N M B C : Nat} {x y : Rat} (hx : Md N B x) (hy : Md M C y) : Md (N * M) (B * C) (x * y) := by
  obtain ⟨n0, k, rfl, hk⟩ := hx
  obtain ⟨m0, l, rfl, hl⟩ := hy
  refine ⟨Nat.mul_pos n0 m0, k * l, ?_, by rw [Int.natAbs_mul]; exact Nat.mul_le_mul hk hl⟩
  rw [Rat.divInt_mul_divInt, Int.natCast_mul]
theorem Md.neg {N B : Nat} {x : Rat} (hx : Md N B x) : Md N B (-x) := by
  obtain ⟨n0, k, rfl, hk⟩ := hx
  refine ⟨n0, -k, ?_, by omega⟩
  rw [Rat.divInt_eq_div, Rat.divInt_eq_div, Rat.intCast_neg]
  grind
theorem Md.zero {N B : Nat} (h : 0 < N) : Md N B 0 := ⟨h, 0, by simp, by simp⟩
theorem Md.one {N B : Nat} (h : 0 < N) (hB : N ≤ B) : Md N B 1 := ⟨h, N, by rw [Rat.divInt_self' (by omega)], by simpa using hB⟩
theorem Md.of {a b : Int} {N B : Nat} (hb : 0 < b) (m : Nat) (hN : (N : Int) = b * m) (n0 : 0 < N) (hB : a.natAbs * m ≤ B) : Md N B (Rat.divInt a b) := by
  refine ⟨n0, a * m, ?_, by rw [Int.natAbs_mul]; simpa using hB⟩
  rw [Rat.divInt_eq_divInt_iff (by omega) (by omega), hN, Int.mul_assoc, Int.mul_comm (m : Int) b]
theorem fr0 : fr 0 = .tup [.int 0, .int 1] := by simp [fr]
theorem fr1 : fr 1 = .tup [.int 1, .int 1] := by simp [fr]
theorem g0_eq : g_ZERO = fr 0 := by rw [fr0]; rfl
theorem t0_eq : dTup [.int 0, .int 1] = some (fr 0) := by rw [fr0]; exact dTup_le (by simp)
theorem t1_eq : dTup [.int 1, .int 1] = some (fr 1) := by rw [fr1]; exact dTup_le (by simp)
theorem eqv_fr (a b : Rat) : PyData.eqv (fr a).py (fr b).py = decide (a = b) := by
  by_cases h : a = b
  · subst h; simp [fr, D.py, D.pys, PyData.eqv, PyData.eqvAll]
  · simp only [h, decide_false]
    by_cases h1 : a.num = b.num
    · have h2 : (a.den : Int) ≠ b.den := fun e => h (Rat.ext h1 (by omega))
      simp [fr, D.py, D.pys, PyData.eqv, PyData.eqvAll, h1, h2]
    · simp [fr, D.py, D.pys, PyData.eqv, PyData.eqvAll, h1]
theorem dNe_fr (a b : Rat) : dNe (fr a) (fr b) = some (.bl (!decide (a = b))) := by
  unfold dNe
  rw [if_pos ⟨shp_fr a, shp_fr b⟩, eqv_fr]
theorem dEq_fr (a b : Rat) : dEq (fr a) (fr b) = some (.bl (decide (a = b))) := by
  unfold dEq
  rw [if_pos ⟨shp_fr a, shp_fr b⟩, eqv_fr]
end
end G46

set_option Elab.async false
set_option linter.all false
set_option maxRecDepth 100000
set_option maxHeartbeats 1000000
namespace G46
open PySem L2 Pz
noncomputable section
/-! sums gathered by their exponents -/
abbrev Row := List Int × Rat
def termD (t : Row) : D := .tup [keyD t.1, fr t.2]
def polyD (p : List Row) : D := .tup (p.map termD)
theorem fzs_ints : ∀ k : List Int, D.fzs (k.map .int) = k.map .int
  | [] => rfl
  | x :: k => by simp [D.fzs, D.fz, fzs_ints k]
theorem pures_ints : ∀ k : List Int, D.pures (k.map .int) = true
  | [] => rfl
  | x :: k => by simp [D.pures, D.pure, pures_ints k]
theorem pure_key (k : List Int) : (keyD k).pure = true := by simpa [keyD, D.pure] using pures_ints k
theorem fz_key (k : List Int) : (keyD k).fz = keyD k := by simp [keyD, D.fz, fzs_ints]
theorem pure_term (t : Row) : (termD t).pure = true := by
  have := pure_key t.1
  simp [termD, D.pure, D.pures, pure_fr, this]
theorem fz_term (t : Row) : (termD t).fz = termD t := by
  have := fz_key t.1
  simp [termD, D.fz, D.fzs, fz_fr, this]
theorem pures_terms (p : List Row) : D.pures (p.map termD) = true := by rw [D.pures_all]; simp [pure_term]
theorem fzs_terms (p : List Row) : D.fzs (p.map termD) = p.map termD := by
  rw [D.fzs_map, List.map_map]; exact List.map_congr_left fun t _ => fz_term t
theorem fzs_keys (p : List (List Int)) : D.fzs (p.map keyD) = p.map keyD := by
  rw [D.fzs_map, List.map_map]; exact List.map_congr_left fun t _ => fz_key t
theorem pure_poly (p : List Row) : (polyD p).pure = true := by simpa [polyD, D.pure] using pures_terms p
def keysR (rows : List Row) : List (List Int) := rows.foldl (fun ks t => if t.1 ∈ ks then ks else ks ++ [t.1]) []
def csum (rows : List Row) (e : List Int) : Rat := rows.foldl (fun s t => if t.1 = e then s + t.2 else s) 0
theorem keysR_snoc (s : List Row) (t : Row) : keysR (s ++ [t]) = if t.1 ∈ keysR s then keysR s else keysR s ++ [t.1] := by
  unfold keysR; rw [List.foldl_append]; rfl
theorem csum_snoc (s : List Row) (t : Row) (e : List Int) : csum (s ++ [t]) e = if t.1 = e then csum s e + t.2 else csum s e := by
  unfold csum; rw [List.foldl_append]; rfl
theorem rows_ind {P : List Row → Prop} (h0 : P []) (h1 : ∀ s t, P s → P (s ++ [t])) : ∀ rows, P rows := fun rows => by
  have : ∀ l : List Row, P l.reverse := fun l => by
    induction l with
    | nil => exact h0
    | cons x l ih => rw [List.reverse_cons]; exact h1 _ _ ih
  have := this rows.reverse
  rwa [List.reverse_reverse] at this
theorem mem_keysR (rows : List Row) : ∀ e, e ∈ keysR rows ↔ ∃ t ∈ rows, t.1 = e := by
  refine rows_ind (P := fun rows => ∀ e, e ∈ keysR rows ↔ ∃ t ∈ rows, t.1 = e) (by simp [keysR]) (fun s t ih e => ?_) rows
  rw [keysR_snoc]
  simp only [List.mem_append, List.mem_singleton]
  split
  · rename_i h
    rw [ih e]
    constructor
    · rintro ⟨u, hu, r⟩; exact ⟨u, .inl hu, r⟩
    · rintro ⟨u, hu | rfl, r⟩
      · exact ⟨u, hu, r⟩
      · rw [← r]; exact (ih _).mp h
  · rw [List.mem_append, List.mem_singleton, ih e]
    constructor
    · rintro (⟨u, hu, r⟩ | rfl)
      · exact ⟨u, .inl hu, r⟩
      · exact ⟨t, .inr rfl, rfl⟩
    · rintro ⟨u, hu | rfl, r⟩
      · exact .inl ⟨u, hu, r⟩
      · exact .inr r.symm
theorem nodup_keysR (rows : List Row) : (keysR rows).Nodup := by
  refine rows_ind (P := fun rows => (keysR rows).Nodup) (by simp [keysR]) (fun s t ih => ?_) rows
  rw [keysR_snoc]
  split
  · exact ih
  · rename_i h
    rw [List.nodup_append]
    refine ⟨ih, by simp, fun a ha b hb e => ?_⟩
    rw [List.mem_singleton.mp hb] at e
    subst e; exact h ha
theorem len_keysR (rows : List Row) : (keysR rows).length ≤ rows.length := by
  refine rows_ind (P := fun rows => (keysR rows).length ≤ rows.length) (by simp [keysR]) (fun s t ih => ?_) rows
  rw [keysR_snoc]
  split <;> simp <;> omega
theorem csum_none {rows : List Row} {e : List Int} (h : e ∉ keysR rows) : csum rows e = 0 := by
  have h : ¬ ∃ t ∈ rows, t.1 = e := fun z => h ((mem_keysR rows e).mpr z)
  revert h
  refine rows_ind (P := fun rows => (¬ ∃ t ∈ rows, t.1 = e) → csum rows e = 0) (fun _ => rfl) (fun s t ih h => ?_) rows
  rw [csum_snoc, if_neg fun z => h ⟨t, by simp, z⟩]
  exact ih fun ⟨u, hu, r⟩ => h ⟨u, by simp [hu], r⟩
theorem csum_md {N B : Nat} (n0 : 0 < N) {rows : List Row} (h : ∀ t ∈ rows, Md N B t.2) (e : List Int) : Md N (rows.length * B) (csum rows e) := by
  revert h
  refine rows_ind (P := fun rows => (∀ t ∈ rows, Md N B t.2) → Md N (rows.length * B) (csum rows e)) (fun _ => Md.zero n0) (fun s t ih h => ?_) rows
  have i := ih fun u hu => h u (by simp [hu])
  rw [csum_snoc, List.length_append, List.length_singleton, Nat.add_mul, Nat.one_mul]
  split
  · exact i.add (h t (by simp))
  · exact i.mono (by omega)
def gath (rows : List Row) : List Row := ((srtL (keysR rows)).filter fun e => !decide (csum rows e = 0)).map fun e => (e, csum rows e)
theorem lookD_map (F : List Int → D) (e : List Int) : ∀ ks : List (List Int), lookD ks (ks.map F) e = if e ∈ ks then some (F e) else none
  | [] => by simp [lookD]
  | k :: ks => by
    rw [List.map_cons, lookD, lookD_map F e ks]
    by_cases h : k = e
    · simp [h]
    · have h' : ¬ e = k := fun z => h z.symm
      simp [h, h']
theorem putDs_map (F : List Int → D) (e : List Int) (v : D) : ∀ ks : List (List Int), putDs ks (ks.map F) e v = ks.map fun k => if k = e then v else F k
  | [] => rfl
  | k :: ks => by rw [List.map_cons, putDs, putDs_map F e v ks]; rfl
def dctR (s : List Row) : D := .dct true (keysR s) ((keysR s).map fun e => fr (csum s e))
theorem getD_dct (s : List Row) (e : List Int) : (lookD (keysR s) ((keysR s).map fun e => fr (csum s e)) e).getD (fr 0) = fr (csum s e) := by
  rw [lookD_map]
  split
  · rfl
  · rename_i h; rw [csum_none h]; rfl
theorem look_dct {s : List Row} {e : List Int} (h : e ∈ keysR s) : dKx (dctR s) (keyD e) = some (fr (csum s e)) := by
  simp only [dKx, dctR, keyOf_keyD, Option.bind_some, lookD_map, if_pos h]
theorem put_dct {s : List Row} {t : Row} (hl : s.length ≤ 100000) (a b c : Option D) : kput 1 (keyD t.1) (fr (csum s t.1 + t.2)) [a, some (dctR s), b, c] = some [a, some (dctR (s ++ [t])), b, c] := by
  have l := len_keysR s
  have e1 : (if t.1 ∈ keysR s then putDs (keysR s) ((keysR s).map fun e => fr (csum s e)) t.1 (fr (csum s t.1 + t.2)) else ((keysR s).map fun e => fr (csum s e)) ++ [fr (csum s t.1 + t.2)]) = (keysR (s ++ [t])).map fun e => fr (csum (s ++ [t]) e) := by
    rw [putDs_map, keysR_snoc]
    split
    · refine List.map_congr_left fun k hk => ?_
      rw [csum_snoc]
      by_cases h : t.1 = k
      · subst h; simp
      · have h' : ¬ k = t.1 := fun z => h z.symm
        simp [h, h']
    · rename_i hn
      rw [List.map_append, List.map_singleton, csum_snoc, if_pos rfl]
      congr 1
      refine List.map_congr_left fun k hk => ?_
      rw [csum_snoc, if_neg (show ¬ t.1 = k from fun z => hn (z ▸ hk))]
  have lt : lineLt (keysR s).length = true := tst_of (by omega)
  simp only [kput, dctR, List.getElem?_cons_succ, List.getElem?_cons_zero, pure_fr, lt, and_self, if_true, keyOf_keyD, Option.map_some, List.set_cons_succ, List.set_cons_zero, e1]
  rw [keysR_snoc]
theorem itOf_rows {d : D} {rows : List Row} (hd : d = .tup (rows.map termD) ∨ ∃ o, d = .lst o (rows.map termD)) : itOf d.fz = some (rows.map termD) := by
  rcases hd with rfl | ⟨o, rfl⟩
  · simp [D.fz, itOf, fzs_terms]
  · simp [D.fz, itOf, fzs_terms]
theorem srtL_mem {ks : List (List Int)} {e : List Int} : e ∈ srtL ks ↔ e ∈ ks := (srtL_perm ks).mem_iff
abbrev kO (k : Option (List Int)) : Option D := k.map keyD
abbrev qO (k : Option Rat) : Option D := k.map fr
section
variable {rows : List Row} {n N B : Nat}
/-- what is gathered may be gathered -/
structure Rows (n N B : Nat) (rows : List Row) : Prop where
  n1 : 1 ≤ n
  key : ∀ t ∈ rows, t.1.length = n
  len : rows.length ≤ 1000
  md : ∀ t ∈ rows, Md N B t.2
  N0 : 0 < N
  N1 : N < 2 ^ 1000
  B1 : B < 2 ^ 900
theorem Rows.even (h : Rows n N B rows) : evenK (keysR rows) = true := evenK_of h.n1 fun k hk => by
  obtain ⟨t, ht, rfl⟩ := (mem_keysR rows k).mp hk
  exact h.key t ht
theorem Rows.sub (h : Rows n N B rows) {s r : List Row} (e : s ++ r = rows) : Rows n N B s := by
  subst e
  exact ⟨h.n1, fun t ht => h.key t (by simp [ht]), by have := h.len; simp at this; omega, fun t ht => h.md t (by simp [ht]), h.N0, h.N1, h.B1⟩
theorem Rows.nb (h : Rows n N B rows) (e : List Int) : Nb (csum rows e) := by
  have hb : rows.length * B < 2 ^ 2000 := by
    have : rows.length * B ≤ 1000 * B := Nat.mul_le_mul_right _ h.len
    have h2 : 1000 * B < 2 ^ 1000 := by
      have : (1000 : Nat) * B < 1024 * 2 ^ 900 := Nat.lt_of_le_of_lt (Nat.mul_le_mul_right _ (by omega)) (Nat.mul_lt_mul_of_pos_left h.B1 (by omega))
      have e : (1024 : Nat) * 2 ^ 900 = 2 ^ 910 := by rw [show (1024 : Nat) = 2 ^ 10 by decide, ← Nat.pow_add]
      rw [e] at this
      exact Nat.lt_of_lt_of_le this (Nat.pow_le_pow_right (by omega) (by omega))
    have h3 : (2 : Nat) ^ 1000 ≤ 2 ^ 2000 := Nat.pow_le_pow_right (by omega) (by omega)
    omega
  exact (csum_md h.N0 h.md e).nb (Nat.lt_of_lt_of_le h.N1 (Nat.pow_le_pow_right (by omega) (by omega))) hb
theorem Rows.q (h : Rows n N B rows) {t : Row} (ht : t ∈ rows) : Nb t.2 := (h.md t ht).nb (Nat.lt_of_lt_of_le h.N1 (Nat.pow_le_pow_right (by omega) (by omega))) (Nat.lt_of_lt_of_le h.B1 (Nat.pow_le_pow_right (by omega) (by omega)))
end
end
end G46

set_option Elab.async false
set_option linter.all false
set_option maxRecDepth 100000
set_option maxHeartbeats 1000000
namespace G46
open PySem L2 Pz
noncomputable section
/-! the values of polynomials: plain -/
variable {n E F N B M C S T : Nat}
def mono : List Int → List Rat → Rat
  | e :: es, x :: xs => x ^ e.toNat * mono es xs
  | _, _ => 1
def tv (t : Row) (x : List Rat) : Rat := t.2 * mono t.1 x
def pval (p : List Row) (x : List Rat) : Rat := rsum (p.map fun t => tv t x)
theorem mono_add : ∀ (a b : List Int) (x : List Rat), a.length = b.length → (∀ e ∈ a, 0 ≤ e) → (∀ e ∈ b, 0 ≤ e) → mono (List.zipWith (· + ·) a b) x = mono a x * mono b x
  | [], [], x, _, _, _ => by simp [mono]
  | [], _ :: _, x, h, _, _ => by simp at h
  | _ :: _, [], x, h, _, _ => by simp at h
  | e :: a, f :: b, [], _, _, _ => by simp [mono]
  | e :: a, f :: b, x :: xs, h, ha, hb => by
    have h1 := ha e (by simp)
    have h2 := hb f (by simp)
    have et : (e + f).toNat = e.toNat + f.toNat := by omega
    simp only [List.zipWith_cons_cons, mono, et, rpow_add, mono_add a b xs (by simpa using h) (fun z hz => ha z (by simp [hz])) (fun z hz => hb z (by simp [hz]))]
    grind
theorem pval_keys (rows : List Row) (x : List Rat) : rsum ((keysR rows).map fun e => tv (e, csum rows e) x) = pval rows x := by
  refine rows_ind (P := fun rows => rsum ((keysR rows).map fun e => tv (e, csum rows e) x) = pval rows x) rfl (fun s t ih => ?_) rows
  have e1 : pval (s ++ [t]) x = pval s x + tv t x := by simp only [pval, List.map_append, rsum_append, List.map_cons, List.map_nil, rsum]; grind
  rw [e1, ← ih]
  have e2 : ∀ e, tv (e, csum (s ++ [t]) e) x = if t.1 = e then tv (e, csum s e) x + tv t x else tv (e, csum s e) x := fun e => by
    rw [csum_snoc]
    split
    · rename_i h; subst h; simp only [tv]; grind
    · rfl
  simp only [e2]
  rw [keysR_snoc]
  split
  · rename_i h
    exact rsum_at _ t.1 (tv t x) (keysR s) (nodup_keysR s) h
  · rename_i h
    rw [List.map_append, rsum_append, List.map_cons, List.map_nil, if_pos rfl, csum_none h]
    have e3 : ((keysR s).map fun e => if t.1 = e then tv (e, csum s e) x + tv t x else tv (e, csum s e) x) = (keysR s).map fun e => tv (e, csum s e) x := List.map_congr_left fun k hk => if_neg (show ¬ t.1 = k from fun z => h (z ▸ hk))
    rw [e3]
    have e4 : tv (t.1, 0) x = 0 := by simp [tv]
    simp only [rsum, e4]
    grind
theorem pval_gath (rows : List Row) (x : List Rat) : pval (gath rows) x = pval rows x := by
  unfold gath pval
  rw [List.map_map]
  have e1 : ((fun t => tv t x) ∘ fun e => (e, csum rows e)) = fun e => tv (e, csum rows e) x := rfl
  rw [e1, rsum_filter _ _ _ fun e _ he => by
    have h : csum rows e = 0 := by simpa using he
    simp [tv, h]]
  rw [rsum_perm ((srtL_perm (keysR rows)).map _)]
  exact pval_keys rows x
theorem pval_append (p q : List Row) (x : List Rat) : pval (p ++ q) x = pval p x + pval q x := by simp only [pval, List.map_append, rsum_append]
def prodR (f g : List Row) : List Row := f.flatMap fun a => g.map fun b => (List.zipWith (· + ·) a.1 b.1, a.2 * b.2)
theorem pval_prod {n : Nat} {f g : List Row} (hf : ∀ t ∈ f, t.1.length = n ∧ ∀ e ∈ t.1, 0 ≤ e) (hg : ∀ t ∈ g, t.1.length = n ∧ ∀ e ∈ t.1, 0 ≤ e) (x : List Rat) : pval (prodR f g) x = pval f x * pval g x := by
  unfold prodR pval
  rw [List.map_flatMap, rsum_flatMap]
  have e1 : ∀ a ∈ f, rsum ((g.map fun b => (List.zipWith (· + ·) a.1 b.1, a.2 * b.2)).map fun t => tv t x) = rsum (g.map fun t => tv t x) * tv a x := fun a ha => by
    rw [List.map_map]
    have e2 : (g.map ((fun t => tv t x) ∘ fun b => (List.zipWith (· + ·) a.1 b.1, a.2 * b.2))) = g.map fun b => tv a x * tv b x := List.map_congr_left fun b hb => by
      show (a.2 * b.2) * mono (List.zipWith (· + ·) a.1 b.1) x = _
      rw [mono_add a.1 b.1 x ((hf a ha).1.trans (hg b hb).1.symm) (hf a ha).2 (hg b hb).2]
      simp only [tv]; grind
    rw [e2, rsum_map_mul]; exact Rat.mul_comm _ _
  rw [List.map_congr_left e1, rsum_map_mul]
  exact Rat.mul_comm _ _
def negR (f : List Row) : List Row := f.map fun t => (t.1, -t.2)
theorem csum_append (a b : List Row) (e : List Int) : csum (a ++ b) e = csum a e + csum b e := by
  refine rows_ind (P := fun b => csum (a ++ b) e = csum a e + csum b e) (by simp [csum]; grind) (fun s t ih => ?_) b
  rw [← List.append_assoc, csum_snoc, csum_snoc, ih]
  split <;> grind
theorem csum_neg (a : List Row) (e : List Int) : csum (negR a) e = - csum a e := by
  refine rows_ind (P := fun a => csum (negR a) e = - csum a e) (by simp [negR, csum]) (fun s t ih => ?_) a
  have e1 : negR (s ++ [t]) = negR s ++ [(t.1, -t.2)] := by simp [negR]
  rw [e1, csum_snoc, csum_snoc, ih]
  dsimp only
  split <;> grind
theorem gath_neg (f : List Row) : gath (f ++ negR f) = [] := by
  unfold gath
  rw [List.map_eq_nil_iff, List.filter_eq_nil_iff]
  intro e he
  rw [csum_append, csum_neg]
  simp
  grind
structure Pol (n E N B : Nat) (p : List Row) : Prop where
  n1 : 1 ≤ n
  nE : E * n ≤ 24
  n3 : n ≤ 24
  key : ∀ t ∈ p, t.1.length = n ∧ ∀ e ∈ t.1, 0 ≤ e ∧ e ≤ (E : Int)
  len : p.length ≤ 1000
  md : ∀ t ∈ p, Md N B t.2
  N0 : 0 < N
  N1 : N < 2 ^ 100
  B1 : B < 2 ^ 100
structure Ptv (n S T : Nat) (x : List Rat) : Prop where
  len : x.length = n
  md : ∀ q ∈ x, Md S T q
  st : S ≤ T
  t16 : T < 2 ^ 16
  s0 : 0 < S
theorem Pol.rows {n E N B : Nat} {p : List Row} (h : Pol n E N B p) : Rows n N B p := ⟨h.n1, fun t ht => (h.key t ht).1, h.len, h.md, h.N0, Nat.lt_of_lt_of_le h.N1 (Nat.pow_le_pow_right (by omega) (by omega)), Nat.lt_of_lt_of_le h.B1 (Nat.pow_le_pow_right (by omega) (by omega))⟩
theorem p2k {a b S T : Nat} (st : S ≤ T) (t16 : T < 2 ^ 16) (s0 : 0 < S) (ha : a < 2 ^ 100) (hb : b ≤ 24) : a * S ^ b < 2 ^ 2000 ∧ a * T ^ b < 2 ^ 2000 := by
  have h1 : S ^ b ≤ T ^ b := Nat.pow_le_pow_left st _
  have h2 : T ^ b ≤ T ^ 24 := Nat.pow_le_pow_right (by omega) hb
  have h3 : T ^ 24 ≤ (2 ^ 16) ^ 24 := Nat.pow_le_pow_left (by omega) _
  rw [← Nat.pow_mul] at h3
  have h4 : a * T ^ b ≤ 2 ^ 100 * 2 ^ (16 * 24) := Nat.mul_le_mul (by omega) (by omega)
  rw [← Nat.pow_add] at h4
  have h5 : (2 : Nat) ^ (100 + 16 * 24) < 2 ^ 2000 := Nat.pow_lt_pow_right (by omega) (by omega)
  have h6 : a * S ^ b ≤ a * T ^ b := Nat.mul_le_mul_left _ h1
  omega
theorem Md.powm {N B S T j : Nat} {q x : Rat} (h : Md N B q) (hx : Md S T x) : Md (N * S ^ j) (B * T ^ j) (q * x ^ j) := by
  induction j with
  | zero => simpa using h
  | succ j ih =>
    have := ih.mul hx
    rw [Rat.pow_succ, ← Rat.mul_assoc, Nat.pow_succ, Nat.pow_succ, ← Nat.mul_assoc, ← Nat.mul_assoc]
    exact this
theorem Md.pow {x : Rat} {S T : Nat} (hx : Md S T x) (j : Nat) : Md (S ^ j) (T ^ j) (x ^ j) := by
  have := (Md.one (N := 1) (B := 1) (by omega) (by omega)).powm (j := j) hx
  simpa using this
theorem pow_nb {x : Rat} {S T : Nat} (st : S ≤ T) (t16 : T < 2 ^ 16) (s0 : 0 < S) (hx : Md S T x) {j : Nat} (hj : j ≤ 24) : Nb (x ^ j) := by
  have := p2k (a := 1) (b := j) st t16 s0 (by omega) (by omega)
  exact (hx.pow j).nb (by simpa using this.1) (by simpa using this.2)
theorem rng_int {k : Int} (h0 : 0 ≤ k) (h8 : k ≤ 24) : rgOk k = true := tst_of (by omega)
def vecD (p : List Rat) : D := .tup (p.map fr)
theorem pures_fr (l : List Rat) : D.pures (l.map fr) = true := by rw [D.pures_all]; simp [pure_fr]
theorem fzs_fr (l : List Rat) : D.fzs (l.map fr) = l.map fr := by
  rw [D.fzs_map, List.map_map]; exact List.map_congr_left fun t _ => fz_fr t
theorem pure_vec (p : List Rat) : (vecD p).pure = true := by simpa [vecD, D.pure] using pures_fr p
theorem term0 (t : Row) : dIx (termD t) (.int 0) = some (keyD t.1) := dIx_tup0
theorem term1 (t : Row) : dIx (termD t) (.int 1) = some (fr t.2) := dIx_tup1
theorem zip_kx (k : List Int) (x : List Rat) : List.zipWith (fun a b => D.tup [a, b]) (k.map .int) (x.map fr) = (List.zip k x).map fun p => D.tup [.int p.1, fr p.2] := by
  rw [List.zipWith_map, List.zip, List.map_zipWith]
theorem mono_fold : ∀ (e : List Int) (x : List Rat) (s : Rat), (List.zip e x).foldl (fun s p => s * p.2 ^ p.1.toNat) s = s * mono e x
  | [], x, s => by simp [mono]
  | _ :: _, [], s => by simp [mono]
  | e :: es, x :: xs, s => by
    rw [List.zip_cons_cons, List.foldl_cons, mono_fold es xs]; simp only [mono]; grind
theorem range_zip (f : Rat → Int → Rat → Rat) : ∀ (e : List Int) (x : List Rat) (s : Rat), e.length = x.length → (List.range x.length).foldl (fun s i => f s (e.getD i 0) (x.getD i 0)) s = (List.zip e x).foldl (fun s p => f s p.1 p.2) s
  | [], [], s, _ => rfl
  | [], _ :: _, s, h => by simp at h
  | _ :: _, [], s, h => by simp at h
  | e :: es, x :: xs, s, h => by
    rw [List.zip_cons_cons, List.foldl_cons, ← range_zip f es xs _ (by simpa using h), List.length_cons, List.range_succ_eq_map, List.foldl_cons, List.foldl_map]
    rfl
theorem tv_md {t : Row} {x : List Rat} {m : Nat} (st : S ≤ T) (s0 : 0 < S) (hm : m ≤ 24) (h : Md (N * S ^ m) (B * T ^ m) (tv t x)) : Md (N * S ^ 24) (B * T ^ 24) (tv t x) := by
  have h1 := h.scale (m := S ^ (24 - m)) (Nat.pow_pos (by omega))
  rw [Nat.mul_assoc, ← Nat.pow_add, show m + (24 - m) = 24 by omega] at h1
  refine h1.mono ?_
  rw [Nat.mul_assoc]
  refine Nat.mul_le_mul_left _ ?_
  have h2 : T ^ m * S ^ (24 - m) ≤ T ^ m * T ^ (24 - m) := Nat.mul_le_mul_left _ (Nat.pow_le_pow_left st _)
  rwa [← Nat.pow_add, show m + (24 - m) = 24 by omega] at h2
theorem mono_md (st : S ≤ T) (s0 : 0 < S) : ∀ (e : List Int) (x : List Rat), (∀ i ∈ e, 0 ≤ i ∧ i ≤ (E : Int)) → (∀ q ∈ x, Md S T q) → ∃ m, m ≤ E * e.length ∧ Md (S ^ m) (T ^ m) (mono e x)
  | [], x, _, _ => ⟨0, by simp, by simpa [mono] using Md.one (N := 1) (B := 1) (by omega) (by omega)⟩
  | _ :: _, [], _, _ => ⟨0, by simp, by simpa [mono] using Md.one (N := 1) (B := 1) (by omega) (by omega)⟩
  | e :: es, x :: xs, he, hx => by
    obtain ⟨m, hm, h⟩ := mono_md st s0 es xs (fun i hi => he i (by simp [hi])) fun q hq => hx q (by simp [hq])
    have h1 := ((hx x (by simp)).pow e.toNat).mul h
    rw [← Nat.pow_add, ← Nat.pow_add] at h1
    have h2 := he e (by simp)
    refine ⟨e.toNat + m, ?_, h1⟩
    simp only [List.length_cons, Nat.mul_add, Nat.mul_one]
    omega
theorem tv_md24 {t : Row} {x : List Rat} (hl : t.1.length = n) (hn : E * n ≤ 24) (hk : ∀ e ∈ t.1, 0 ≤ e ∧ e ≤ (E : Int)) (hq : Md N B t.2) (hx : Ptv n S T x) : Md (N * S ^ 24) (B * T ^ 24) (tv t x) := by
  obtain ⟨m, hm, h⟩ := mono_md hx.st hx.s0 t.1 x hk hx.md
  rw [hl] at hm
  exact tv_md hx.st hx.s0 (by omega) (hq.mul h)
theorem pval_md {p : List Row} {x : List Rat} (hp : Pol n E N B p) (hx : Ptv n S T x) : Md (N * S ^ 24) (1000 * (B * T ^ 24)) (pval p x) := by
  have N6 : 0 < N * S ^ 24 := Nat.mul_pos hp.N0 (Nat.pow_pos hx.s0)
  have key : ∀ l : List Row, (∀ t ∈ l, t ∈ p) → Md (N * S ^ 24) (l.length * (B * T ^ 24)) (rsum (l.map fun t => tv t x)) := fun l => by
    induction l with
    | nil => intro _; exact Md.zero N6
    | cons t l ih =>
      intro h
      have h1 := ih fun u hu => h u (by simp [hu])
      have ht := h t (by simp)
      have h2 := (tv_md24 (hp.key t ht).1 hp.nE (hp.key t ht).2 (hp.md t ht) hx).add h1
      simp only [List.map_cons, rsum, List.length_cons]
      rw [Nat.add_mul, Nat.one_mul, Nat.add_comm]
      exact h2
  exact (key p fun _ h => h).mono (Nat.mul_le_mul_right _ hp.len)
theorem sum_nb {k : Nat} {s : Rat} (st : S ≤ T) (t16 : T < 2 ^ 16) (s0 : 0 < S) (hN : N < 2 ^ 100) (hB : B < 2 ^ 100) (hk : k ≤ 1000) (h : Md (N * S ^ 24) (k * (B * T ^ 24)) s) : Nb s := by
  have z1 := (p2k (a := N) (b := 24) st t16 s0 hN (by omega)).1
  have h3 : T ^ 24 ≤ (2 ^ 16) ^ 24 := Nat.pow_le_pow_left (by omega) _
  rw [← Nat.pow_mul] at h3
  have h1 : k * (B * T ^ 24) ≤ 1024 * (2 ^ 100 * 2 ^ (16 * 24)) := Nat.mul_le_mul (by omega) (Nat.mul_le_mul (by omega) h3)
  have h2 : (1024 : Nat) * (2 ^ 100 * 2 ^ (16 * 24)) = 2 ^ 494 := by
    rw [show (1024 : Nat) = 2 ^ 10 by decide, ← Nat.pow_add, ← Nat.pow_add]
  have h4 : (2 : Nat) ^ 494 < 2 ^ 2000 := Nat.pow_lt_pow_right (by omega) (by omega)
  exact h.nb z1 (by omega)
theorem gath_pol {rows : List Row} {L : Nat} (n1 : 1 ≤ n) (nE : E * n ≤ 24) (n3 : n ≤ 24) (hk : ∀ t ∈ rows, t.1.length = n ∧ ∀ e ∈ t.1, 0 ≤ e ∧ e ≤ (E : Int)) (hm : ∀ t ∈ rows, Md N B t.2) (hl : rows.length ≤ L) (hL : L ≤ 1000) (N0 : 0 < N) (N1 : N < 2 ^ 100) (B1 : L * B < 2 ^ 100) : Pol n E N (L * B) (gath rows) := by
  refine ⟨n1, nE, n3, fun t ht => ?_, ?_, fun t ht => ?_, N0, N1, B1⟩
  · obtain ⟨e, he, rfl⟩ := List.mem_map.mp ht
    obtain ⟨u, hu, hue⟩ := (mem_keysR rows e).mp (srtL_mem.mp (List.mem_filter.mp he).1)
    subst hue
    exact hk u hu
  · unfold gath
    rw [List.length_map]
    refine Nat.le_trans (List.length_filter_le _ _) ?_
    have := (srtL_perm (keysR rows)).length_eq
    have := len_keysR rows
    omega
  · obtain ⟨e, he, rfl⟩ := List.mem_map.mp ht
    exact (csum_md N0 hm e).mono (Nat.mul_le_mul_right _ hl)
theorem gath_len (rows : List Row) : (gath rows).length ≤ rows.length := by
  unfold gath
  rw [List.length_map]
  refine Nat.le_trans (List.length_filter_le _ _) ?_
  have := (srtL_perm (keysR rows)).length_eq
  have := len_keysR rows
  omega
theorem zip_kk (a b : List Int) : List.zipWith (fun a b => D.tup [a, b]) (a.map .int) (b.map .int) = (List.zip a b).map fun p => D.tup [.int p.1, .int p.2] := by
  rw [List.zipWith_map, List.zip, List.map_zipWith]
theorem t2_eq (a b : D) : dTup [a, b] = some (.tup [a, b]) := dTup_le (by show 2 ≤ 16777216; omega)
theorem Md.nb1 {q : Rat} (h : Md N B q) (hN : N < 2 ^ 100) (hB : B < 2 ^ 100) : Nb q := h.nb (Nat.lt_of_lt_of_le hN (Nat.pow_le_pow_right (by omega) (by omega))) (Nat.lt_of_lt_of_le hB (Nat.pow_le_pow_right (by omega) (by omega)))
theorem len_prodR (f g : List Row) : (prodR f g).length = f.length * g.length := by
  induction f with
  | nil => simp [prodR]
  | cons a f ih =>
    have e : prodR (a :: f) g = (g.map fun b => (List.zipWith (· + ·) a.1 b.1, a.2 * b.2)) ++ prodR f g := by simp [prodR]
    rw [e, List.length_append, ih, List.length_map, List.length_cons, Nat.add_mul, Nat.one_mul, Nat.add_comm]
theorem prod_rows {f g : List Row} (hf : Pol n E N B f) (hg : Pol n F M C g) (h8 : ∀ a ∈ f, ∀ b ∈ g, ∀ e ∈ List.zipWith (· + ·) a.1 b.1, 0 ≤ e ∧ e ≤ 24) (hl : f.length * g.length ≤ 1000) (NM : N * M < 2 ^ 100) (BC : B * C < 2 ^ 100) :
    Rows n (N * M) (B * C) (prodR f g) ∧ (∀ t ∈ prodR f g, t.1.length = n ∧ ∀ e ∈ t.1, 0 ≤ e ∧ e ≤ 24) ∧ (∀ t ∈ prodR f g, Md (N * M) (B * C) t.2) ∧ (prodR f g).length = f.length * g.length := by
  have mem : ∀ t ∈ prodR f g, ∃ a ∈ f, ∃ b ∈ g, t = (List.zipWith (· + ·) a.1 b.1, a.2 * b.2) := fun t ht => by
    obtain ⟨a, ha, ht⟩ := List.mem_flatMap.mp ht
    obtain ⟨b, hb, rfl⟩ := List.mem_map.mp ht
    exact ⟨a, ha, b, hb, rfl⟩
  have hlen := len_prodR f g
  have hkey : ∀ t ∈ prodR f g, t.1.length = n := fun t ht => by
    obtain ⟨a, ha, b, hb, rfl⟩ := mem t ht
    simp [(hf.key a ha).1, (hg.key b hb).1]
  have hmd : ∀ t ∈ prodR f g, Md (N * M) (B * C) t.2 := fun t ht => by
    obtain ⟨a, ha, b, hb, rfl⟩ := mem t ht
    exact (hf.md a ha).mul (hg.md b hb)
  refine ⟨⟨hf.n1, hkey, by rw [hlen]; exact hl, hmd, Nat.mul_pos hf.N0 hg.N0, Nat.lt_of_lt_of_le NM (Nat.pow_le_pow_right (by omega) (by omega)), Nat.lt_of_lt_of_le BC (Nat.pow_le_pow_right (by omega) (by omega))⟩, fun t ht => ⟨hkey t ht, ?_⟩, hmd, hlen⟩
  obtain ⟨a, ha, b, hb, rfl⟩ := mem t ht
  exact h8 a ha b hb
theorem map_prodR (f g : List Row) : (prodR f g).map termD = f.flatMap fun a => g.map fun b => termD (List.zipWith (· + ·) a.1 b.1, a.2 * b.2) := by
  unfold prodR
  rw [List.map_flatMap]
  simp only [List.map_map]
  rfl
theorem add_range (a b : List Int) (h : a.length = b.length) : (List.range a.length).map (fun i => a.getD i 0 + b.getD i 0) = List.zipWith (· + ·) a b := by
  refine List.ext_getElem (by simp [h]) fun i h1 h2 => ?_
  simp at h1
  simp [List.getD_eq_getElem?_getD, List.getElem?_eq_getElem h1, List.getElem?_eq_getElem (show i < b.length by omega)]
theorem ix_key {k : List Int} {i : Nat} (h : i < k.length) : dIx (keyD k) (.int (i : Int)) = some (.int (k.getD i 0)) := by
  unfold keyD
  rw [dIx_tupN, List.getElem?_map, List.getD_eq_getElem?_getD, List.getElem?_eq_getElem h]; rfl
end
end G46

set_option Elab.async false
set_option linter.all false
set_option maxRecDepth 100000
set_option maxHeartbeats 1000000
namespace G46
open PySem L2 Pz
noncomputable section
/-! the program's power_of, term_value -/
variable {n E F N B M C S T : Nat}
theorem power_of_eq {x : Rat} {k : Int} (st : S ≤ T) (t16 : T < 2 ^ 16) (s0 : 0 < S) (hx : Md S T x) (h0 : 0 ≤ k) (h8 : k ≤ 24) : val F_power_of [fr x, .int k] = some (fr (x ^ k.toNat)) := by
  obtain ⟨e, h1, j, o, hj, rfl⟩ := flF_rel (FT := put 3) (FB := L_power_of_1) (fun i : Nat => D.int (i : Int))
    (fun ys e => ∃ (j : Nat) (o : Option D), j + ys.length = k.toNat ∧ e = [some (fr x), some (.int k), some (fr (x ^ j)), o]) (List.range k.toNat) [some (fr x), some (.int k), some (fr 1), none] ⟨0, none, by simp, by simp⟩
    fun y zs e ⟨j, o, hj, he⟩ => by
      subst he
      simp only [List.length_cons] at hj
      have tm := times_eq (pow_nb st t16 s0 hx (j := j) (by omega)) (by simpa using pow_nb st t16 s0 hx (j := 1) (by omega) : Nb x)
      refine ⟨_, ?_, j + 1, some (.int y), by omega, rfl⟩
      simp only [L_power_of_1, val_fnF, zsF_eq, fzAt, D.fz, wpE, mgE, List.contains_cons, List.contains_nil, Nat.reduceBEq, Bool.or_false, Bool.or_true, Bool.false_or, Bool.true_or, seqF_eq, andThen_nx, andThen_bk, andThen_ct, andThen_rt, retV_rt, retV_nx, nxF, bkF, ctF, rtF, rnF, rmF, stF, exF, put, parF, agF, ifS, forF_eq, flF_nil, flF_cons, flK_nx, flK_ct, flK_bk, flK_rt, tbF, ttF, andF, orF, notF, andV, orV, ifF, chF, b1, b2, bN, clF_val, aNil, aCons, nmF, ownF, cF, fzF, itF, inF, itOf, rng1, rng2, yesF, dTru, dNot, I.isi_non_tuple, I.isi_non_list, I.isi_non_bool, I.isi_non_int, I.isi_non_str, I.isi_bl_tuple, I.isi_bl_list, I.isi_bl_bool, I.isi_bl_int, I.isi_bl_str, I.isi_int_tuple, I.isi_int_list, I.isi_int_bool, I.isi_int_int, I.isi_int_str, I.isi_str_tuple, I.isi_str_list, I.isi_str_bool, I.isi_str_int, I.isi_str_str, I.isi_tup_tuple, I.isi_tup_list, I.isi_tup_bool, I.isi_tup_int, I.isi_tup_str, I.isi_lst_tuple, I.isi_lst_list, I.isi_lst_bool, I.isi_lst_int, I.isi_lst_str, I.isi_scr_tuple, I.isi_scr_list, I.isi_scr_bool, I.isi_scr_int, I.isi_scr_str, dEq_bl, dNe_bl, dIsN_non, dIsN_bl, dIsN_int, dIsN_str, dIsN_tup, dIsN_lst, dAdd_int, dSub_int, dEq_int, dNe_int, dLt_int, dLe_int, dGt_int, dGe_int, dAddI_int, asB_bl, dIx_tup0, dIx_tup1, fLen, fAbs, fInt, fMax2, fMin2, gTupF, gsCons, gsNil, D.pure, D.pures, Bool.not_true, Bool.not_false, Bool.and_true, Bool.true_and, Bool.and_false, Bool.false_and, Option.bind_some, Option.bind_none, Option.map_some, Option.map_none, bind_ite, map_ite, List.map_cons, List.map_nil, List.replicate, List.cons_append, List.nil_append, List.append_nil, List.getElem?_cons_zero, List.getElem?_cons_succ, List.set_cons_zero, List.set_cons_succ, List.length_cons, List.length_nil, Nat.reduceAdd, Nat.reduceLT, Nat.zero_add, Nat.lt_add_one, if_true, if_false, ite_true, ite_false, decide_eq_true_eq, Bool.false_eq_true, reduceCtorEq, reduceIte, Nat.reduceLeDiff, Nat.reduceEqDiff, pure_fr, tm, Rat.pow_succ]
  have hj : j = k.toNat := by simpa using hj
  subst hj
  simp only [F_power_of, val_fnF, zsF_eq, fzAt, D.fz, wpE, mgE, List.contains_cons, List.contains_nil, Nat.reduceBEq, Bool.or_false, Bool.or_true, Bool.false_or, Bool.true_or, seqF_eq, andThen_nx, andThen_bk, andThen_ct, andThen_rt, retV_rt, retV_nx, nxF, bkF, ctF, rtF, rnF, rmF, stF, exF, put, parF, agF, ifS, forF_eq, flF_nil, flF_cons, flK_nx, flK_ct, flK_bk, flK_rt, tbF, ttF, andF, orF, notF, andV, orV, ifF, chF, b1, b2, bN, clF_val, aNil, aCons, nmF, ownF, cF, fzF, itF, inF, itOf, rng1, rng2, yesF, dTru, dNot, I.isi_non_tuple, I.isi_non_list, I.isi_non_bool, I.isi_non_int, I.isi_non_str, I.isi_bl_tuple, I.isi_bl_list, I.isi_bl_bool, I.isi_bl_int, I.isi_bl_str, I.isi_int_tuple, I.isi_int_list, I.isi_int_bool, I.isi_int_int, I.isi_int_str, I.isi_str_tuple, I.isi_str_list, I.isi_str_bool, I.isi_str_int, I.isi_str_str, I.isi_tup_tuple, I.isi_tup_list, I.isi_tup_bool, I.isi_tup_int, I.isi_tup_str, I.isi_lst_tuple, I.isi_lst_list, I.isi_lst_bool, I.isi_lst_int, I.isi_lst_str, I.isi_scr_tuple, I.isi_scr_list, I.isi_scr_bool, I.isi_scr_int, I.isi_scr_str, dEq_bl, dNe_bl, dIsN_non, dIsN_bl, dIsN_int, dIsN_str, dIsN_tup, dIsN_lst, dAdd_int, dSub_int, dEq_int, dNe_int, dLt_int, dLe_int, dGt_int, dGe_int, dAddI_int, asB_bl, dIx_tup0, dIx_tup1, fLen, fAbs, fInt, fMax2, fMin2, gTupF, gsCons, gsNil, D.pure, D.pures, Bool.not_true, Bool.not_false, Bool.and_true, Bool.true_and, Bool.and_false, Bool.false_and, Option.bind_some, Option.bind_none, Option.map_some, Option.map_none, bind_ite, map_ite, List.map_cons, List.map_nil, List.replicate, List.cons_append, List.nil_append, List.append_nil, List.getElem?_cons_zero, List.getElem?_cons_succ, List.set_cons_zero, List.set_cons_succ, List.length_cons, List.length_nil, Nat.reduceAdd, Nat.reduceLT, Nat.zero_add, Nat.lt_add_one, if_true, if_false, ite_true, ite_false, decide_eq_true_eq, Bool.false_eq_true, reduceCtorEq, reduceIte, Nat.reduceLeDiff, Nat.reduceEqDiff, t1_eq, rng_int h0 h8, h1, pure_fr]
theorem term_value_eq {t : Row} {x : List Rat} (hl : t.1.length = n) (hn : E * n ≤ 24) (hn2 : n ≤ 24) (hk : ∀ e ∈ t.1, 0 ≤ e ∧ e ≤ (E : Int)) (hq : Md N B t.2) (hN : N < 2 ^ 100) (hB : B < 2 ^ 100) (hx : Ptv n S T x) :
    val F_term_value [termD t, vecD x] = some (fr (tv t x)) := by
  obtain ⟨e, h1, s, m, o3, o4, rfl, hmd, hm, _, ht⟩ := flF_rel (FT := gTupF (gsCons (put 3) (gsCons (put 4) gsNil))) (FB := L_term_value_1) (fun p : Int × Rat => D.tup [.int p.1, fr p.2])
    (fun ys e => ∃ (s : Rat) (m : Nat) (o3 o4 : Option D), e = [some (termD t), some (vecD x), some (fr s), o3, o4] ∧ Md (N * S ^ m) (B * T ^ m) s ∧ m + E * ys.length ≤ 24 ∧ (∀ p ∈ ys, (0 ≤ p.1 ∧ p.1 ≤ (E : Int)) ∧ Md S T p.2) ∧ ys.foldl (fun s p => s * p.2 ^ p.1.toNat) s = (List.zip t.1 x).foldl (fun s p => s * p.2 ^ p.1.toNat) t.2)
    (List.zip t.1 x) [some (termD t), some (vecD x), some (fr t.2), none, none] ⟨t.2, 0, none, none, rfl, by simpa using hq, by simp [hl, hx.len]; exact hn, fun p hp => ⟨hk _ (List.of_mem_zip hp).1, hx.md _ (List.of_mem_zip hp).2⟩, rfl⟩
    fun p ps e ⟨s, m, o3, o4, he, hs, hl', h, ht⟩ => by
      subst he
      obtain ⟨⟨p0, p8⟩, pm⟩ := h p (by simp)
      simp only [List.length_cons, Nat.mul_add, Nat.mul_one] at hl'
      have pw := power_of_eq hx.st hx.t16 hx.s0 pm p0 (by omega)
      have hs2 := hs.powm (j := p.1.toNat) pm
      rw [Nat.mul_assoc, ← Nat.pow_add, Nat.mul_assoc, ← Nat.pow_add] at hs2
      have z1 := p2k (a := N) (b := m) hx.st hx.t16 hx.s0 hN (by omega)
      have z2 := p2k (a := B) (b := m) hx.st hx.t16 hx.s0 hB (by omega)
      have tm := times_eq (hs.nb z1.1 z2.2) (pow_nb hx.st hx.t16 hx.s0 pm (j := p.1.toNat) (by omega))
      refine ⟨[some (termD t), some (vecD x), some (fr (s * p.2 ^ p.1.toNat)), some (.int p.1), some (fr p.2)], ?_, s * p.2 ^ p.1.toNat, m + p.1.toNat, some (.int p.1), some (fr p.2), rfl, hs2, by omega, fun q hq => h q (by simp [hq]), ht⟩
      simp only [L_term_value_1, val_fnF, zsF_eq, fzAt, D.fz, wpE, mgE, List.contains_cons, List.contains_nil, Nat.reduceBEq, Bool.or_false, Bool.or_true, Bool.false_or, Bool.true_or, seqF_eq, andThen_nx, andThen_bk, andThen_ct, andThen_rt, retV_rt, retV_nx, nxF, bkF, ctF, rtF, rnF, rmF, stF, exF, put, parF, agF, ifS, forF_eq, flF_nil, flF_cons, flK_nx, flK_ct, flK_bk, flK_rt, tbF, ttF, andF, orF, notF, andV, orV, ifF, chF, b1, b2, bN, clF_val, aNil, aCons, nmF, ownF, cF, fzF, itF, inF, itOf, rng1, rng2, yesF, dTru, dNot, I.isi_non_tuple, I.isi_non_list, I.isi_non_bool, I.isi_non_int, I.isi_non_str, I.isi_bl_tuple, I.isi_bl_list, I.isi_bl_bool, I.isi_bl_int, I.isi_bl_str, I.isi_int_tuple, I.isi_int_list, I.isi_int_bool, I.isi_int_int, I.isi_int_str, I.isi_str_tuple, I.isi_str_list, I.isi_str_bool, I.isi_str_int, I.isi_str_str, I.isi_tup_tuple, I.isi_tup_list, I.isi_tup_bool, I.isi_tup_int, I.isi_tup_str, I.isi_lst_tuple, I.isi_lst_list, I.isi_lst_bool, I.isi_lst_int, I.isi_lst_str, I.isi_scr_tuple, I.isi_scr_list, I.isi_scr_bool, I.isi_scr_int, I.isi_scr_str, dEq_bl, dNe_bl, dIsN_non, dIsN_bl, dIsN_int, dIsN_str, dIsN_tup, dIsN_lst, dAdd_int, dSub_int, dEq_int, dNe_int, dLt_int, dLe_int, dGt_int, dGe_int, dAddI_int, asB_bl, dIx_tup0, dIx_tup1, fLen, fAbs, fInt, fMax2, fMin2, gTupF, gsCons, gsNil, D.pure, D.pures, Bool.not_true, Bool.not_false, Bool.and_true, Bool.true_and, Bool.and_false, Bool.false_and, Option.bind_some, Option.bind_none, Option.map_some, Option.map_none, bind_ite, map_ite, List.map_cons, List.map_nil, List.replicate, List.cons_append, List.nil_append, List.append_nil, List.getElem?_cons_zero, List.getElem?_cons_succ, List.set_cons_zero, List.set_cons_succ, List.length_cons, List.length_nil, Nat.reduceAdd, Nat.reduceLT, Nat.zero_add, Nat.lt_add_one, if_true, if_false, ite_true, ite_false, decide_eq_true_eq, Bool.false_eq_true, reduceCtorEq, reduceIte, Nat.reduceLeDiff, Nat.reduceEqDiff, pure_fr, pw, tm]
  have ht : s = tv t x := by unfold tv; rw [← mono_fold]; exact ht
  subst ht
  have pk : (keyD t.1).pure = true := pure_key _
  simp only [F_term_value, val_fnF, zsF_eq, fzAt, D.fz, wpE, mgE, List.contains_cons, List.contains_nil, Nat.reduceBEq, Bool.or_false, Bool.or_true, Bool.false_or, Bool.true_or, seqF_eq, andThen_nx, andThen_bk, andThen_ct, andThen_rt, retV_rt, retV_nx, nxF, bkF, ctF, rtF, rnF, rmF, stF, exF, put, parF, agF, ifS, forF_eq, flF_nil, flF_cons, flK_nx, flK_ct, flK_bk, flK_rt, tbF, ttF, andF, orF, notF, andV, orV, ifF, chF, b1, b2, bN, clF_val, aNil, aCons, nmF, ownF, cF, fzF, itF, inF, itOf, rng1, rng2, yesF, dTru, dNot, I.isi_non_tuple, I.isi_non_list, I.isi_non_bool, I.isi_non_int, I.isi_non_str, I.isi_bl_tuple, I.isi_bl_list, I.isi_bl_bool, I.isi_bl_int, I.isi_bl_str, I.isi_int_tuple, I.isi_int_list, I.isi_int_bool, I.isi_int_int, I.isi_int_str, I.isi_str_tuple, I.isi_str_list, I.isi_str_bool, I.isi_str_int, I.isi_str_str, I.isi_tup_tuple, I.isi_tup_list, I.isi_tup_bool, I.isi_tup_int, I.isi_tup_str, I.isi_lst_tuple, I.isi_lst_list, I.isi_lst_bool, I.isi_lst_int, I.isi_lst_str, I.isi_scr_tuple, I.isi_scr_list, I.isi_scr_bool, I.isi_scr_int, I.isi_scr_str, dEq_bl, dNe_bl, dIsN_non, dIsN_bl, dIsN_int, dIsN_str, dIsN_tup, dIsN_lst, dAdd_int, dSub_int, dEq_int, dNe_int, dLt_int, dLe_int, dGt_int, dGe_int, dAddI_int, asB_bl, dIx_tup0, dIx_tup1, fLen, fAbs, fInt, fMax2, fMin2, gTupF, gsCons, gsNil, D.pure, D.pures, Bool.not_true, Bool.not_false, Bool.and_true, Bool.true_and, Bool.and_false, Bool.false_and, Option.bind_some, Option.bind_none, Option.map_some, Option.map_none, bind_ite, map_ite, List.map_cons, List.map_nil, List.replicate, List.cons_append, List.nil_append, List.append_nil, List.getElem?_cons_zero, List.getElem?_cons_succ, List.set_cons_zero, List.set_cons_succ, List.length_cons, List.length_nil, Nat.reduceAdd, Nat.reduceLT, Nat.zero_add, Nat.lt_add_one, if_true, if_false, ite_true, ite_false, decide_eq_true_eq, Bool.false_eq_true, reduceCtorEq, reduceIte, Nat.reduceLeDiff, Nat.reduceEqDiff, term0, term1, pure_fr, pk, pure_vec]
  simp only [keyD, vecD, fzip, pures_ints, pures_fr, val_fnF, zsF_eq, fzAt, D.fz, wpE, mgE, List.contains_cons, List.contains_nil, Nat.reduceBEq, Bool.or_false, Bool.or_true, Bool.false_or, Bool.true_or, seqF_eq, andThen_nx, andThen_bk, andThen_ct, andThen_rt, retV_rt, retV_nx, nxF, bkF, ctF, rtF, rnF, rmF, stF, exF, put, parF, agF, ifS, forF_eq, flF_nil, flF_cons, flK_nx, flK_ct, flK_bk, flK_rt, tbF, ttF, andF, orF, notF, andV, orV, ifF, chF, b1, b2, bN, clF_val, aNil, aCons, nmF, ownF, cF, fzF, itF, inF, itOf, rng1, rng2, yesF, dTru, dNot, I.isi_non_tuple, I.isi_non_list, I.isi_non_bool, I.isi_non_int, I.isi_non_str, I.isi_bl_tuple, I.isi_bl_list, I.isi_bl_bool, I.isi_bl_int, I.isi_bl_str, I.isi_int_tuple, I.isi_int_list, I.isi_int_bool, I.isi_int_int, I.isi_int_str, I.isi_str_tuple, I.isi_str_list, I.isi_str_bool, I.isi_str_int, I.isi_str_str, I.isi_tup_tuple, I.isi_tup_list, I.isi_tup_bool, I.isi_tup_int, I.isi_tup_str, I.isi_lst_tuple, I.isi_lst_list, I.isi_lst_bool, I.isi_lst_int, I.isi_lst_str, I.isi_scr_tuple, I.isi_scr_list, I.isi_scr_bool, I.isi_scr_int, I.isi_scr_str, dEq_bl, dNe_bl, dIsN_non, dIsN_bl, dIsN_int, dIsN_str, dIsN_tup, dIsN_lst, dAdd_int, dSub_int, dEq_int, dNe_int, dLt_int, dLe_int, dGt_int, dGe_int, dAddI_int, asB_bl, dIx_tup0, dIx_tup1, fLen, fAbs, fInt, fMax2, fMin2, gTupF, gsCons, gsNil, D.pure, D.pures, Bool.not_true, Bool.not_false, Bool.and_true, Bool.true_and, Bool.and_false, Bool.false_and, Option.bind_some, Option.bind_none, Option.map_some, Option.map_none, bind_ite, map_ite, List.map_cons, List.map_nil, List.replicate, List.cons_append, List.nil_append, List.append_nil, List.getElem?_cons_zero, List.getElem?_cons_succ, List.set_cons_zero, List.set_cons_succ, List.length_cons, List.length_nil, Nat.reduceAdd, Nat.reduceLT, Nat.zero_add, Nat.lt_add_one, if_true, if_false, ite_true, ite_false, decide_eq_true_eq, Bool.false_eq_true, reduceCtorEq, reduceIte, Nat.reduceLeDiff, Nat.reduceEqDiff, zip_kx, and_self]
  simp only [keyD, vecD] at h1
  simp only [h1, val_fnF, zsF_eq, fzAt, D.fz, wpE, mgE, List.contains_cons, List.contains_nil, Nat.reduceBEq, Bool.or_false, Bool.or_true, Bool.false_or, Bool.true_or, seqF_eq, andThen_nx, andThen_bk, andThen_ct, andThen_rt, retV_rt, retV_nx, nxF, bkF, ctF, rtF, rnF, rmF, stF, exF, put, parF, agF, ifS, forF_eq, flF_nil, flF_cons, flK_nx, flK_ct, flK_bk, flK_rt, tbF, ttF, andF, orF, notF, andV, orV, ifF, chF, b1, b2, bN, clF_val, aNil, aCons, nmF, ownF, cF, fzF, itF, inF, itOf, rng1, rng2, yesF, dTru, dNot, I.isi_non_tuple, I.isi_non_list, I.isi_non_bool, I.isi_non_int, I.isi_non_str, I.isi_bl_tuple, I.isi_bl_list, I.isi_bl_bool, I.isi_bl_int, I.isi_bl_str, I.isi_int_tuple, I.isi_int_list, I.isi_int_bool, I.isi_int_int, I.isi_int_str, I.isi_str_tuple, I.isi_str_list, I.isi_str_bool, I.isi_str_int, I.isi_str_str, I.isi_tup_tuple, I.isi_tup_list, I.isi_tup_bool, I.isi_tup_int, I.isi_tup_str, I.isi_lst_tuple, I.isi_lst_list, I.isi_lst_bool, I.isi_lst_int, I.isi_lst_str, I.isi_scr_tuple, I.isi_scr_list, I.isi_scr_bool, I.isi_scr_int, I.isi_scr_str, dEq_bl, dNe_bl, dIsN_non, dIsN_bl, dIsN_int, dIsN_str, dIsN_tup, dIsN_lst, dAdd_int, dSub_int, dEq_int, dNe_int, dLt_int, dLe_int, dGt_int, dGe_int, dAddI_int, asB_bl, dIx_tup0, dIx_tup1, fLen, fAbs, fInt, fMax2, fMin2, gTupF, gsCons, gsNil, D.pure, D.pures, Bool.not_true, Bool.not_false, Bool.and_true, Bool.true_and, Bool.and_false, Bool.false_and, Option.bind_some, Option.bind_none, Option.map_some, Option.map_none, bind_ite, map_ite, List.map_cons, List.map_nil, List.replicate, List.cons_append, List.nil_append, List.append_nil, List.getElem?_cons_zero, List.getElem?_cons_succ, List.set_cons_zero, List.set_cons_succ, List.length_cons, List.length_nil, Nat.reduceAdd, Nat.reduceLT, Nat.zero_add, Nat.lt_add_one, if_true, if_false, ite_true, ite_false, decide_eq_true_eq, Bool.false_eq_true, reduceCtorEq, reduceIte, Nat.reduceLeDiff, Nat.reduceEqDiff, pure_fr]
end
end G46

set_option Elab.async false
set_option linter.all false
set_option maxRecDepth 100000
set_option maxHeartbeats 1000000
namespace G46
open PySem L2 Pz
noncomputable section
/-! the law's term -/
variable {n E F N B M C S T : Nat}
theorem lpower_eq {x : Rat} {k : Int} (st : S ≤ T) (t16 : T < 2 ^ 16) (s0 : 0 < S) (hx : Md S T x) (h0 : 0 ≤ k) (h8 : k ≤ 24) : val F__law_to_power [fr x, .int k] = some (fr (x ^ k.toNat)) := by
  obtain ⟨e, h1, j, o, hj, rfl⟩ := flF_rel (FT := put 3) (FB := L__law_to_power_1) (fun i : Nat => D.int (i : Int))
    (fun ys e => ∃ (j : Nat) (o : Option D), j + ys.length = k.toNat ∧ e = [some (fr x), some (.int k), some (fr (x ^ j)), o]) (List.range k.toNat) [some (fr x), some (.int k), some (fr 1), none] ⟨0, none, by simp, by simp⟩
    fun y zs e ⟨j, o, hj, he⟩ => by
      subst he
      simp only [List.length_cons] at hj
      have tm := ltimes_eq (pow_nb st t16 s0 hx (j := j) (by omega)) (by simpa using pow_nb st t16 s0 hx (j := 1) (by omega) : Nb x)
      refine ⟨_, ?_, j + 1, some (.int y), by omega, rfl⟩
      simp only [L__law_to_power_1, val_fnF, zsF_eq, fzAt, D.fz, wpE, mgE, List.contains_cons, List.contains_nil, Nat.reduceBEq, Bool.or_false, Bool.or_true, Bool.false_or, Bool.true_or, seqF_eq, andThen_nx, andThen_bk, andThen_ct, andThen_rt, retV_rt, retV_nx, nxF, bkF, ctF, rtF, rnF, rmF, stF, exF, put, parF, agF, ifS, forF_eq, flF_nil, flF_cons, flK_nx, flK_ct, flK_bk, flK_rt, tbF, ttF, andF, orF, notF, andV, orV, ifF, chF, b1, b2, bN, clF_val, aNil, aCons, nmF, ownF, cF, fzF, itF, inF, itOf, rng1, rng2, yesF, dTru, dNot, I.isi_non_tuple, I.isi_non_list, I.isi_non_bool, I.isi_non_int, I.isi_non_str, I.isi_bl_tuple, I.isi_bl_list, I.isi_bl_bool, I.isi_bl_int, I.isi_bl_str, I.isi_int_tuple, I.isi_int_list, I.isi_int_bool, I.isi_int_int, I.isi_int_str, I.isi_str_tuple, I.isi_str_list, I.isi_str_bool, I.isi_str_int, I.isi_str_str, I.isi_tup_tuple, I.isi_tup_list, I.isi_tup_bool, I.isi_tup_int, I.isi_tup_str, I.isi_lst_tuple, I.isi_lst_list, I.isi_lst_bool, I.isi_lst_int, I.isi_lst_str, I.isi_scr_tuple, I.isi_scr_list, I.isi_scr_bool, I.isi_scr_int, I.isi_scr_str, dEq_bl, dNe_bl, dIsN_non, dIsN_bl, dIsN_int, dIsN_str, dIsN_tup, dIsN_lst, dAdd_int, dSub_int, dEq_int, dNe_int, dLt_int, dLe_int, dGt_int, dGe_int, dAddI_int, asB_bl, dIx_tup0, dIx_tup1, fLen, fAbs, fInt, fMax2, fMin2, gTupF, gsCons, gsNil, D.pure, D.pures, Bool.not_true, Bool.not_false, Bool.and_true, Bool.true_and, Bool.and_false, Bool.false_and, Option.bind_some, Option.bind_none, Option.map_some, Option.map_none, bind_ite, map_ite, List.map_cons, List.map_nil, List.replicate, List.cons_append, List.nil_append, List.append_nil, List.getElem?_cons_zero, List.getElem?_cons_succ, List.set_cons_zero, List.set_cons_succ, List.length_cons, List.length_nil, Nat.reduceAdd, Nat.reduceLT, Nat.zero_add, Nat.lt_add_one, if_true, if_false, ite_true, ite_false, decide_eq_true_eq, Bool.false_eq_true, reduceCtorEq, reduceIte, Nat.reduceLeDiff, Nat.reduceEqDiff, pure_fr, tm, Rat.pow_succ]
  have hj : j = k.toNat := by simpa using hj
  subst hj
  simp only [F__law_to_power, val_fnF, zsF_eq, fzAt, D.fz, wpE, mgE, List.contains_cons, List.contains_nil, Nat.reduceBEq, Bool.or_false, Bool.or_true, Bool.false_or, Bool.true_or, seqF_eq, andThen_nx, andThen_bk, andThen_ct, andThen_rt, retV_rt, retV_nx, nxF, bkF, ctF, rtF, rnF, rmF, stF, exF, put, parF, agF, ifS, forF_eq, flF_nil, flF_cons, flK_nx, flK_ct, flK_bk, flK_rt, tbF, ttF, andF, orF, notF, andV, orV, ifF, chF, b1, b2, bN, clF_val, aNil, aCons, nmF, ownF, cF, fzF, itF, inF, itOf, rng1, rng2, yesF, dTru, dNot, I.isi_non_tuple, I.isi_non_list, I.isi_non_bool, I.isi_non_int, I.isi_non_str, I.isi_bl_tuple, I.isi_bl_list, I.isi_bl_bool, I.isi_bl_int, I.isi_bl_str, I.isi_int_tuple, I.isi_int_list, I.isi_int_bool, I.isi_int_int, I.isi_int_str, I.isi_str_tuple, I.isi_str_list, I.isi_str_bool, I.isi_str_int, I.isi_str_str, I.isi_tup_tuple, I.isi_tup_list, I.isi_tup_bool, I.isi_tup_int, I.isi_tup_str, I.isi_lst_tuple, I.isi_lst_list, I.isi_lst_bool, I.isi_lst_int, I.isi_lst_str, I.isi_scr_tuple, I.isi_scr_list, I.isi_scr_bool, I.isi_scr_int, I.isi_scr_str, dEq_bl, dNe_bl, dIsN_non, dIsN_bl, dIsN_int, dIsN_str, dIsN_tup, dIsN_lst, dAdd_int, dSub_int, dEq_int, dNe_int, dLt_int, dLe_int, dGt_int, dGe_int, dAddI_int, asB_bl, dIx_tup0, dIx_tup1, fLen, fAbs, fInt, fMax2, fMin2, gTupF, gsCons, gsNil, D.pure, D.pures, Bool.not_true, Bool.not_false, Bool.and_true, Bool.true_and, Bool.and_false, Bool.false_and, Option.bind_some, Option.bind_none, Option.map_some, Option.map_none, bind_ite, map_ite, List.map_cons, List.map_nil, List.replicate, List.cons_append, List.nil_append, List.append_nil, List.getElem?_cons_zero, List.getElem?_cons_succ, List.set_cons_zero, List.set_cons_succ, List.length_cons, List.length_nil, Nat.reduceAdd, Nat.reduceLT, Nat.zero_add, Nat.lt_add_one, if_true, if_false, ite_true, ite_false, decide_eq_true_eq, Bool.false_eq_true, reduceCtorEq, reduceIte, Nat.reduceLeDiff, Nat.reduceEqDiff, t1_eq, rng_int h0 h8, h1, pure_fr]
theorem lterm_full {t : Row} {x : List Rat} {P : D} (hl : t.1.length = n) (hn : E * n ≤ 24) (hn2 : n ≤ 24) (hk : ∀ e ∈ t.1, 0 ≤ e ∧ e ≤ (E : Int)) (hq : Md N B t.2) (hN : N < 2 ^ 100) (hB : B < 2 ^ 100) (hx : Ptv n S T x) (hP : ∀ y : Nat, y < n → dIx P (.int (y : Int)) = some (fr (x.getD y 0))) (hL : fLen [P] = some (.int (n : Int))) :
    F__law_term [termD t, P] = some (fr (tv t x), [some (termD t), some P]) := by
  have ez := range_zip (fun s e x => s * x ^ e.toNat) t.1 x t.2 (hl.trans hx.len.symm)
  rw [hx.len, mono_fold] at ez
  obtain ⟨e, h1, s, m, o, rfl, _, _, _, ht⟩ := flF_rel (FT := put 3) (FB := L__law_term_1) (fun i : Nat => D.int (i : Int))
    (fun ys e => ∃ (s : Rat) (m : Nat) (o : Option D), e = [some (termD t), some P, some (fr s), o] ∧ Md (N * S ^ m) (B * T ^ m) s ∧ m + E * ys.length ≤ 24 ∧ (∀ y ∈ ys, y < n) ∧ ys.foldl (fun s i => s * (x.getD i 0) ^ (t.1.getD i 0).toNat) s = tv t x)
    (List.range n) [some (termD t), some P, some (fr t.2), none] ⟨t.2, 0, none, rfl, by simpa using hq, by simp; exact hn, fun y hy => by simpa using hy, ez⟩
    fun y ys e ⟨s, m, o, he, hs, hl', h, ht⟩ => by
      subst he
      have hy := h y (by simp)
      simp only [List.length_cons, Nat.mul_add, Nat.mul_one] at hl'
      have q1 : x[y]? = some (x.getD y 0) := by rw [List.getD_eq_getElem?_getD, List.getElem?_eq_getElem (by rw [hx.len]; exact hy)]; rfl
      have q2 : t.1[y]? = some (t.1.getD y 0) := by rw [List.getD_eq_getElem?_getD, List.getElem?_eq_getElem (by omega)]; rfl
      have d1 := hP y hy
      have d2 : dIx (keyD t.1) (.int (y : Int)) = some (.int (t.1.getD y 0)) := by unfold keyD; rw [dIx_tupN, List.getElem?_map, q2]; rfl
      have pm := hx.md _ (List.mem_of_getElem? q1)
      obtain ⟨p0, p8⟩ := hk _ (List.mem_of_getElem? q2)
      have pw := lpower_eq hx.st hx.t16 hx.s0 pm p0 (by omega)
      have hs2 := hs.powm (j := (t.1.getD y 0).toNat) pm
      rw [Nat.mul_assoc, ← Nat.pow_add, Nat.mul_assoc, ← Nat.pow_add] at hs2
      have z1 := p2k (a := N) (b := m) hx.st hx.t16 hx.s0 hN (by omega)
      have z2 := p2k (a := B) (b := m) hx.st hx.t16 hx.s0 hB (by omega)
      have tm := ltimes_eq (hs.nb z1.1 z2.2) (pow_nb hx.st hx.t16 hx.s0 pm (j := (t.1.getD y 0).toNat) (by omega))
      refine ⟨[some (termD t), some P, some (fr (s * (x.getD y 0) ^ (t.1.getD y 0).toNat)), some (.int y)], ?_, s * (x.getD y 0) ^ (t.1.getD y 0).toNat, m + (t.1.getD y 0).toNat, some (.int y), rfl, hs2, by omega, fun z hz => h z (by simp [hz]), ht⟩
      simp only [L__law_term_1, val_fnF, zsF_eq, fzAt, D.fz, wpE, mgE, List.contains_cons, List.contains_nil, Nat.reduceBEq, Bool.or_false, Bool.or_true, Bool.false_or, Bool.true_or, seqF_eq, andThen_nx, andThen_bk, andThen_ct, andThen_rt, retV_rt, retV_nx, nxF, bkF, ctF, rtF, rnF, rmF, stF, exF, put, parF, agF, ifS, forF_eq, flF_nil, flF_cons, flK_nx, flK_ct, flK_bk, flK_rt, tbF, ttF, andF, orF, notF, andV, orV, ifF, chF, b1, b2, bN, clF_val, aNil, aCons, nmF, ownF, cF, fzF, itF, inF, itOf, rng1, rng2, yesF, dTru, dNot, I.isi_non_tuple, I.isi_non_list, I.isi_non_bool, I.isi_non_int, I.isi_non_str, I.isi_bl_tuple, I.isi_bl_list, I.isi_bl_bool, I.isi_bl_int, I.isi_bl_str, I.isi_int_tuple, I.isi_int_list, I.isi_int_bool, I.isi_int_int, I.isi_int_str, I.isi_str_tuple, I.isi_str_list, I.isi_str_bool, I.isi_str_int, I.isi_str_str, I.isi_tup_tuple, I.isi_tup_list, I.isi_tup_bool, I.isi_tup_int, I.isi_tup_str, I.isi_lst_tuple, I.isi_lst_list, I.isi_lst_bool, I.isi_lst_int, I.isi_lst_str, I.isi_scr_tuple, I.isi_scr_list, I.isi_scr_bool, I.isi_scr_int, I.isi_scr_str, dEq_bl, dNe_bl, dIsN_non, dIsN_bl, dIsN_int, dIsN_str, dIsN_tup, dIsN_lst, dAdd_int, dSub_int, dEq_int, dNe_int, dLt_int, dLe_int, dGt_int, dGe_int, dAddI_int, asB_bl, dIx_tup0, dIx_tup1, fLen, fAbs, fInt, fMax2, fMin2, gTupF, gsCons, gsNil, D.pure, D.pures, Bool.not_true, Bool.not_false, Bool.and_true, Bool.true_and, Bool.and_false, Bool.false_and, Option.bind_some, Option.bind_none, Option.map_some, Option.map_none, bind_ite, map_ite, List.map_cons, List.map_nil, List.replicate, List.cons_append, List.nil_append, List.append_nil, List.getElem?_cons_zero, List.getElem?_cons_succ, List.set_cons_zero, List.set_cons_succ, List.length_cons, List.length_nil, Nat.reduceAdd, Nat.reduceLT, Nat.zero_add, Nat.lt_add_one, if_true, if_false, ite_true, ite_false, decide_eq_true_eq, Bool.false_eq_true, reduceCtorEq, reduceIte, Nat.reduceLeDiff, Nat.reduceEqDiff, pure_fr, term0, d1, d2, pw, tm]
  have ht : s = tv t x := ht
  subst ht
  have pk : (keyD t.1).pure = true := pure_key _
  simp only [fLen] at hL
  simp only [F__law_term, fnF_eq, val_fnF, zsF_eq, fzAt, D.fz, wpE, mgE, List.contains_cons, List.contains_nil, Nat.reduceBEq, Bool.or_false, Bool.or_true, Bool.false_or, Bool.true_or, seqF_eq, andThen_nx, andThen_bk, andThen_ct, andThen_rt, retV_rt, retV_nx, nxF, bkF, ctF, rtF, rnF, rmF, stF, exF, put, parF, agF, ifS, forF_eq, flF_nil, flF_cons, flK_nx, flK_ct, flK_bk, flK_rt, tbF, ttF, andF, orF, notF, andV, orV, ifF, chF, b1, b2, bN, clF_val, aNil, aCons, nmF, ownF, cF, fzF, itF, inF, itOf, rng1, rng2, yesF, dTru, dNot, I.isi_non_tuple, I.isi_non_list, I.isi_non_bool, I.isi_non_int, I.isi_non_str, I.isi_bl_tuple, I.isi_bl_list, I.isi_bl_bool, I.isi_bl_int, I.isi_bl_str, I.isi_int_tuple, I.isi_int_list, I.isi_int_bool, I.isi_int_int, I.isi_int_str, I.isi_str_tuple, I.isi_str_list, I.isi_str_bool, I.isi_str_int, I.isi_str_str, I.isi_tup_tuple, I.isi_tup_list, I.isi_tup_bool, I.isi_tup_int, I.isi_tup_str, I.isi_lst_tuple, I.isi_lst_list, I.isi_lst_bool, I.isi_lst_int, I.isi_lst_str, I.isi_scr_tuple, I.isi_scr_list, I.isi_scr_bool, I.isi_scr_int, I.isi_scr_str, dEq_bl, dNe_bl, dIsN_non, dIsN_bl, dIsN_int, dIsN_str, dIsN_tup, dIsN_lst, dAdd_int, dSub_int, dEq_int, dNe_int, dLt_int, dLe_int, dGt_int, dGe_int, dAddI_int, asB_bl, dIx_tup0, dIx_tup1, fLen, fAbs, fInt, fMax2, fMin2, gTupF, gsCons, gsNil, D.pure, D.pures, Bool.not_true, Bool.not_false, Bool.and_true, Bool.true_and, Bool.and_false, Bool.false_and, Option.bind_some, Option.bind_none, Option.map_some, Option.map_none, bind_ite, map_ite, List.map_cons, List.map_nil, List.replicate, List.cons_append, List.nil_append, List.append_nil, List.getElem?_cons_zero, List.getElem?_cons_succ, List.set_cons_zero, List.set_cons_succ, List.length_cons, List.length_nil, Nat.reduceAdd, Nat.reduceLT, Nat.zero_add, Nat.lt_add_one, if_true, if_false, ite_true, ite_false, decide_eq_true_eq, Bool.false_eq_true, reduceCtorEq, reduceIte, Nat.reduceLeDiff, Nat.reduceEqDiff, term1, pure_fr, hL, rg_of (show n ≤ 1000000 by omega), Int.toNat_natCast, h1, fnO_rt, List.take_succ_cons, List.take_zero]
theorem vec_ix {x : List Rat} {y : Nat} (h : y < x.length) : dIx (vecD x) (.int (y : Int)) = some (fr (x.getD y 0)) := by
  unfold vecD
  rw [dIx_tupN, List.getElem?_map, List.getD_eq_getElem?_getD, List.getElem?_eq_getElem h]; rfl
theorem vec_len {x : List Rat} : fLen [vecD x] = some (.int (x.length : Int)) := by simp only [vecD, fLen, List.length_map]
theorem lst_ix {o : Bool} {x : List Rat} {y : Nat} (h : y < x.length) : dIx (.lst o (x.map fr)) (.int (y : Int)) = some (fr (x.getD y 0)) := by
  rw [dIx_lstN, List.getElem?_map, List.getD_eq_getElem?_getD, List.getElem?_eq_getElem h]; rfl
theorem lst_len {o : Bool} {x : List Rat} : fLen [.lst o (x.map fr)] = some (.int (x.length : Int)) := by simp only [fLen, List.length_map]

end
end G46

set_option Elab.async false
set_option linter.all false
set_option maxRecDepth 100000
set_option maxHeartbeats 1000000
namespace G46
open PySem L2 Pz
noncomputable section
/-! the law's value at a list -/
variable {n E F N B M C S T : Nat}
theorem lvalueL_eq {p : List Row} {x : List Rat} {ob : Bool} (hp : Pol n E N B p) (hx : Ptv n S T x) : F__law_value [polyD p, .lst ob (x.map fr)] = some (fr (pval p x), [some (polyD p), some (.lst ob (x.map fr))]) := by
  have N6 : 0 < N * S ^ 24 := Nat.mul_pos hp.N0 (Nat.pow_pos hx.s0)
  obtain ⟨e, h1, s, k, o, rfl, hs, hk, _, ht⟩ := flF_rel (FT := put 3) (FB := L__law_value_1) termD
    (fun ys e => ∃ (s : Rat) (k : Nat) (o : Option D), e = [some (polyD p), some (.lst ob (x.map fr)), some (fr s), o] ∧ Md (N * S ^ 24) (k * (B * T ^ 24)) s ∧ k + ys.length ≤ 1000 ∧ (∀ t ∈ ys, t ∈ p) ∧ s + rsum (ys.map fun t => tv t x) = pval p x)
    p [some (polyD p), some (.lst ob (x.map fr)), some (fr 0), none] ⟨0, 0, none, rfl, Md.zero N6, by have := hp.len; omega, fun _ h => h, by unfold pval; grind⟩
    fun t ys e ⟨s, k, o, he, hs, hk, hm, ht⟩ => by
      subst he
      simp only [List.length_cons] at hk
      have hy := hm t (by simp)
      have tq := lterm_full (hp.key t hy).1 hp.nE hp.n3 (hp.key t hy).2 (hp.md t hy) hp.N1 hp.B1 hx (P := .lst ob (x.map fr)) (fun y hy => lst_ix (by rw [hx.len]; exact hy)) (by rw [lst_len, hx.len])
      have tm := tv_md24 (hp.key t hy).1 hp.nE (hp.key t hy).2 (hp.md t hy) hx
      have tn : Nb (tv t x) := sum_nb hx.st hx.t16 hx.s0 hp.N1 hp.B1 (k := 1) (by omega) (by simpa using tm)
      have pl := lplus_eq (sum_nb hx.st hx.t16 hx.s0 hp.N1 hp.B1 (by omega) hs) tn
      have hs2 := hs.add tm
      rw [show k * (B * T ^ 24) + B * T ^ 24 = (k + 1) * (B * T ^ 24) by rw [Nat.add_mul, Nat.one_mul]] at hs2
      refine ⟨[some (polyD p), some (.lst ob (x.map fr)), some (fr (s + tv t x)), some (termD t)], ?_, s + tv t x, k + 1, some (termD t), rfl, hs2, by omega, fun u hu => hm u (by simp [hu]), by rw [← ht]; simp only [List.map_cons, rsum]; grind⟩
      simp only [L__law_value_1, val_fnF, zsF_eq, fzAt, D.fz, wpE, mgE, List.contains_cons, List.contains_nil, Nat.reduceBEq, Bool.or_false, Bool.or_true, Bool.false_or, Bool.true_or, seqF_eq, andThen_nx, andThen_bk, andThen_ct, andThen_rt, retV_rt, retV_nx, nxF, bkF, ctF, rtF, rnF, rmF, stF, exF, put, parF, agF, ifS, forF_eq, flF_nil, flF_cons, flK_nx, flK_ct, flK_bk, flK_rt, tbF, ttF, andF, orF, notF, andV, orV, ifF, chF, b1, b2, bN, clF_val, aNil, aCons, nmF, ownF, cF, fzF, itF, inF, itOf, rng1, rng2, yesF, dTru, dNot, I.isi_non_tuple, I.isi_non_list, I.isi_non_bool, I.isi_non_int, I.isi_non_str, I.isi_bl_tuple, I.isi_bl_list, I.isi_bl_bool, I.isi_bl_int, I.isi_bl_str, I.isi_int_tuple, I.isi_int_list, I.isi_int_bool, I.isi_int_int, I.isi_int_str, I.isi_str_tuple, I.isi_str_list, I.isi_str_bool, I.isi_str_int, I.isi_str_str, I.isi_tup_tuple, I.isi_tup_list, I.isi_tup_bool, I.isi_tup_int, I.isi_tup_str, I.isi_lst_tuple, I.isi_lst_list, I.isi_lst_bool, I.isi_lst_int, I.isi_lst_str, I.isi_scr_tuple, I.isi_scr_list, I.isi_scr_bool, I.isi_scr_int, I.isi_scr_str, dEq_bl, dNe_bl, dIsN_non, dIsN_bl, dIsN_int, dIsN_str, dIsN_tup, dIsN_lst, dAdd_int, dSub_int, dEq_int, dNe_int, dLt_int, dLe_int, dGt_int, dGe_int, dAddI_int, asB_bl, dIx_tup0, dIx_tup1, fLen, fAbs, fInt, fMax2, fMin2, gTupF, gsCons, gsNil, D.pure, D.pures, Bool.not_true, Bool.not_false, Bool.and_true, Bool.true_and, Bool.and_false, Bool.false_and, Option.bind_some, Option.bind_none, Option.map_some, Option.map_none, bind_ite, map_ite, List.map_cons, List.map_nil, List.replicate, List.cons_append, List.nil_append, List.append_nil, List.getElem?_cons_zero, List.getElem?_cons_succ, List.set_cons_zero, List.set_cons_succ, List.length_cons, List.length_nil, Nat.reduceAdd, Nat.reduceLT, Nat.zero_add, Nat.lt_add_one, if_true, if_false, ite_true, ite_false, decide_eq_true_eq, Bool.false_eq_true, reduceCtorEq, reduceIte, Nat.reduceLeDiff, Nat.reduceEqDiff, lcallF, aConsL, giveE, pure_fr, pure_term, tq]
      cases ob <;> simp only [val_fnF, zsF_eq, fzAt, D.fz, wpE, mgE, List.contains_cons, List.contains_nil, Nat.reduceBEq, Bool.or_false, Bool.or_true, Bool.false_or, Bool.true_or, seqF_eq, andThen_nx, andThen_bk, andThen_ct, andThen_rt, retV_rt, retV_nx, nxF, bkF, ctF, rtF, rnF, rmF, stF, exF, put, parF, agF, ifS, forF_eq, flF_nil, flF_cons, flK_nx, flK_ct, flK_bk, flK_rt, tbF, ttF, andF, orF, notF, andV, orV, ifF, chF, b1, b2, bN, clF_val, aNil, aCons, nmF, ownF, cF, fzF, itF, inF, itOf, rng1, rng2, yesF, dTru, dNot, I.isi_non_tuple, I.isi_non_list, I.isi_non_bool, I.isi_non_int, I.isi_non_str, I.isi_bl_tuple, I.isi_bl_list, I.isi_bl_bool, I.isi_bl_int, I.isi_bl_str, I.isi_int_tuple, I.isi_int_list, I.isi_int_bool, I.isi_int_int, I.isi_int_str, I.isi_str_tuple, I.isi_str_list, I.isi_str_bool, I.isi_str_int, I.isi_str_str, I.isi_tup_tuple, I.isi_tup_list, I.isi_tup_bool, I.isi_tup_int, I.isi_tup_str, I.isi_lst_tuple, I.isi_lst_list, I.isi_lst_bool, I.isi_lst_int, I.isi_lst_str, I.isi_scr_tuple, I.isi_scr_list, I.isi_scr_bool, I.isi_scr_int, I.isi_scr_str, dEq_bl, dNe_bl, dIsN_non, dIsN_bl, dIsN_int, dIsN_str, dIsN_tup, dIsN_lst, dAdd_int, dSub_int, dEq_int, dNe_int, dLt_int, dLe_int, dGt_int, dGe_int, dAddI_int, asB_bl, dIx_tup0, dIx_tup1, fLen, fAbs, fInt, fMax2, fMin2, gTupF, gsCons, gsNil, D.pure, D.pures, Bool.not_true, Bool.not_false, Bool.and_true, Bool.true_and, Bool.and_false, Bool.false_and, Option.bind_some, Option.bind_none, Option.map_some, Option.map_none, bind_ite, map_ite, List.map_cons, List.map_nil, List.replicate, List.cons_append, List.nil_append, List.append_nil, List.getElem?_cons_zero, List.getElem?_cons_succ, List.set_cons_zero, List.set_cons_succ, List.length_cons, List.length_nil, Nat.reduceAdd, Nat.reduceLT, Nat.zero_add, Nat.lt_add_one, if_true, if_false, ite_true, ite_false, decide_eq_true_eq, Bool.false_eq_true, reduceCtorEq, reduceIte, Nat.reduceLeDiff, Nat.reduceEqDiff, pures_fr, pl]
  have ht : s = pval p x := by rw [← ht]; simp only [List.map_nil, rsum]; grind
  subst ht
  simp only [F__law_value, fnF_eq, val_fnF, zsF_eq, fzAt, D.fz, wpE, mgE, List.contains_cons, List.contains_nil, Nat.reduceBEq, Bool.or_false, Bool.or_true, Bool.false_or, Bool.true_or, seqF_eq, andThen_nx, andThen_bk, andThen_ct, andThen_rt, retV_rt, retV_nx, nxF, bkF, ctF, rtF, rnF, rmF, stF, exF, put, parF, agF, ifS, forF_eq, flF_nil, flF_cons, flK_nx, flK_ct, flK_bk, flK_rt, tbF, ttF, andF, orF, notF, andV, orV, ifF, chF, b1, b2, bN, clF_val, aNil, aCons, nmF, ownF, cF, fzF, itF, inF, itOf, rng1, rng2, yesF, dTru, dNot, I.isi_non_tuple, I.isi_non_list, I.isi_non_bool, I.isi_non_int, I.isi_non_str, I.isi_bl_tuple, I.isi_bl_list, I.isi_bl_bool, I.isi_bl_int, I.isi_bl_str, I.isi_int_tuple, I.isi_int_list, I.isi_int_bool, I.isi_int_int, I.isi_int_str, I.isi_str_tuple, I.isi_str_list, I.isi_str_bool, I.isi_str_int, I.isi_str_str, I.isi_tup_tuple, I.isi_tup_list, I.isi_tup_bool, I.isi_tup_int, I.isi_tup_str, I.isi_lst_tuple, I.isi_lst_list, I.isi_lst_bool, I.isi_lst_int, I.isi_lst_str, I.isi_scr_tuple, I.isi_scr_list, I.isi_scr_bool, I.isi_scr_int, I.isi_scr_str, dEq_bl, dNe_bl, dIsN_non, dIsN_bl, dIsN_int, dIsN_str, dIsN_tup, dIsN_lst, dAdd_int, dSub_int, dEq_int, dNe_int, dLt_int, dLe_int, dGt_int, dGe_int, dAddI_int, asB_bl, dIx_tup0, dIx_tup1, fLen, fAbs, fInt, fMax2, fMin2, gTupF, gsCons, gsNil, D.pure, D.pures, Bool.not_true, Bool.not_false, Bool.and_true, Bool.true_and, Bool.and_false, Bool.false_and, Option.bind_some, Option.bind_none, Option.map_some, Option.map_none, bind_ite, map_ite, List.map_cons, List.map_nil, List.replicate, List.cons_append, List.nil_append, List.append_nil, List.getElem?_cons_zero, List.getElem?_cons_succ, List.set_cons_zero, List.set_cons_succ, List.length_cons, List.length_nil, Nat.reduceAdd, Nat.reduceLT, Nat.zero_add, Nat.lt_add_one, if_true, if_false, ite_true, ite_false, decide_eq_true_eq, Bool.false_eq_true, reduceCtorEq, reduceIte, Nat.reduceLeDiff, Nat.reduceEqDiff, t0_eq, pure_poly]
  simp only [polyD, val_fnF, zsF_eq, fzAt, D.fz, wpE, mgE, List.contains_cons, List.contains_nil, Nat.reduceBEq, Bool.or_false, Bool.or_true, Bool.false_or, Bool.true_or, seqF_eq, andThen_nx, andThen_bk, andThen_ct, andThen_rt, retV_rt, retV_nx, nxF, bkF, ctF, rtF, rnF, rmF, stF, exF, put, parF, agF, ifS, forF_eq, flF_nil, flF_cons, flK_nx, flK_ct, flK_bk, flK_rt, tbF, ttF, andF, orF, notF, andV, orV, ifF, chF, b1, b2, bN, clF_val, aNil, aCons, nmF, ownF, cF, fzF, itF, inF, itOf, rng1, rng2, yesF, dTru, dNot, I.isi_non_tuple, I.isi_non_list, I.isi_non_bool, I.isi_non_int, I.isi_non_str, I.isi_bl_tuple, I.isi_bl_list, I.isi_bl_bool, I.isi_bl_int, I.isi_bl_str, I.isi_int_tuple, I.isi_int_list, I.isi_int_bool, I.isi_int_int, I.isi_int_str, I.isi_str_tuple, I.isi_str_list, I.isi_str_bool, I.isi_str_int, I.isi_str_str, I.isi_tup_tuple, I.isi_tup_list, I.isi_tup_bool, I.isi_tup_int, I.isi_tup_str, I.isi_lst_tuple, I.isi_lst_list, I.isi_lst_bool, I.isi_lst_int, I.isi_lst_str, I.isi_scr_tuple, I.isi_scr_list, I.isi_scr_bool, I.isi_scr_int, I.isi_scr_str, dEq_bl, dNe_bl, dIsN_non, dIsN_bl, dIsN_int, dIsN_str, dIsN_tup, dIsN_lst, dAdd_int, dSub_int, dEq_int, dNe_int, dLt_int, dLe_int, dGt_int, dGe_int, dAddI_int, asB_bl, dIx_tup0, dIx_tup1, fLen, fAbs, fInt, fMax2, fMin2, gTupF, gsCons, gsNil, D.pure, D.pures, Bool.not_true, Bool.not_false, Bool.and_true, Bool.true_and, Bool.and_false, Bool.false_and, Option.bind_some, Option.bind_none, Option.map_some, Option.map_none, bind_ite, map_ite, List.map_cons, List.map_nil, List.replicate, List.cons_append, List.nil_append, List.append_nil, List.getElem?_cons_zero, List.getElem?_cons_succ, List.set_cons_zero, List.set_cons_succ, List.length_cons, List.length_nil, Nat.reduceAdd, Nat.reduceLT, Nat.zero_add, Nat.lt_add_one, if_true, if_false, ite_true, ite_false, decide_eq_true_eq, Bool.false_eq_true, reduceCtorEq, reduceIte, Nat.reduceLeDiff, Nat.reduceEqDiff, fzs_terms]
  simp only [polyD] at h1
  simp only [h1, val_fnF, zsF_eq, fzAt, D.fz, wpE, mgE, List.contains_cons, List.contains_nil, Nat.reduceBEq, Bool.or_false, Bool.or_true, Bool.false_or, Bool.true_or, seqF_eq, andThen_nx, andThen_bk, andThen_ct, andThen_rt, retV_rt, retV_nx, nxF, bkF, ctF, rtF, rnF, rmF, stF, exF, put, parF, agF, ifS, forF_eq, flF_nil, flF_cons, flK_nx, flK_ct, flK_bk, flK_rt, tbF, ttF, andF, orF, notF, andV, orV, ifF, chF, b1, b2, bN, clF_val, aNil, aCons, nmF, ownF, cF, fzF, itF, inF, itOf, rng1, rng2, yesF, dTru, dNot, I.isi_non_tuple, I.isi_non_list, I.isi_non_bool, I.isi_non_int, I.isi_non_str, I.isi_bl_tuple, I.isi_bl_list, I.isi_bl_bool, I.isi_bl_int, I.isi_bl_str, I.isi_int_tuple, I.isi_int_list, I.isi_int_bool, I.isi_int_int, I.isi_int_str, I.isi_str_tuple, I.isi_str_list, I.isi_str_bool, I.isi_str_int, I.isi_str_str, I.isi_tup_tuple, I.isi_tup_list, I.isi_tup_bool, I.isi_tup_int, I.isi_tup_str, I.isi_lst_tuple, I.isi_lst_list, I.isi_lst_bool, I.isi_lst_int, I.isi_lst_str, I.isi_scr_tuple, I.isi_scr_list, I.isi_scr_bool, I.isi_scr_int, I.isi_scr_str, dEq_bl, dNe_bl, dIsN_non, dIsN_bl, dIsN_int, dIsN_str, dIsN_tup, dIsN_lst, dAdd_int, dSub_int, dEq_int, dNe_int, dLt_int, dLe_int, dGt_int, dGe_int, dAddI_int, asB_bl, dIx_tup0, dIx_tup1, fLen, fAbs, fInt, fMax2, fMin2, gTupF, gsCons, gsNil, D.pure, D.pures, Bool.not_true, Bool.not_false, Bool.and_true, Bool.true_and, Bool.and_false, Bool.false_and, Option.bind_some, Option.bind_none, Option.map_some, Option.map_none, bind_ite, map_ite, List.map_cons, List.map_nil, List.replicate, List.cons_append, List.nil_append, List.append_nil, List.getElem?_cons_zero, List.getElem?_cons_succ, List.set_cons_zero, List.set_cons_succ, List.length_cons, List.length_nil, Nat.reduceAdd, Nat.reduceLT, Nat.zero_add, Nat.lt_add_one, if_true, if_false, ite_true, ite_false, decide_eq_true_eq, Bool.false_eq_true, reduceCtorEq, reduceIte, Nat.reduceLeDiff, Nat.reduceEqDiff, pure_fr, fnO_rt, List.take_succ_cons, List.take_zero]

end
end G46

set_option Elab.async false
set_option linter.all false
set_option maxRecDepth 100000
set_option maxHeartbeats 1000000
namespace G46
open PySem L2 Pz
noncomputable section
/-! what the laws make of a script: numbers, small fractions, ordinary polynomials -/
theorem cell_eq (ns : List Int) (k : Nat) : val F__law_cell [.scr ns, .int k] = some (.int (ns.getD k 0)) := by
  simp only [F__law_cell, val_fnF, zsF_eq, fzAt, D.fz, wpE, mgE, List.contains_cons, List.contains_nil, Nat.reduceBEq, Bool.or_false, Bool.or_true, Bool.false_or, Bool.true_or, seqF_eq, andThen_nx, andThen_bk, andThen_ct, andThen_rt, retV_rt, retV_nx, nxF, bkF, ctF, rtF, rnF, rmF, stF, exF, put, parF, agF, ifS, forF_eq, flF_nil, flF_cons, flK_nx, flK_ct, flK_bk, flK_rt, tbF, ttF, andF, orF, notF, andV, orV, ifF, chF, b1, b2, bN, clF_val, aNil, aCons, nmF, ownF, cF, fzF, itF, inF, itOf, rng1, rng2, yesF, dTru, dNot, I.isi_non_tuple, I.isi_non_list, I.isi_non_bool, I.isi_non_int, I.isi_non_str, I.isi_bl_tuple, I.isi_bl_list, I.isi_bl_bool, I.isi_bl_int, I.isi_bl_str, I.isi_int_tuple, I.isi_int_list, I.isi_int_bool, I.isi_int_int, I.isi_int_str, I.isi_str_tuple, I.isi_str_list, I.isi_str_bool, I.isi_str_int, I.isi_str_str, I.isi_tup_tuple, I.isi_tup_list, I.isi_tup_bool, I.isi_tup_int, I.isi_tup_str, I.isi_lst_tuple, I.isi_lst_list, I.isi_lst_bool, I.isi_lst_int, I.isi_lst_str, I.isi_scr_tuple, I.isi_scr_list, I.isi_scr_bool, I.isi_scr_int, I.isi_scr_str, dEq_bl, dNe_bl, dIsN_non, dIsN_bl, dIsN_int, dIsN_str, dIsN_tup, dIsN_lst, dAdd_int, dSub_int, dEq_int, dNe_int, dLt_int, dLe_int, dGt_int, dGe_int, dAddI_int, asB_bl, dIx_tup0, dIx_tup1, fLen, fAbs, fInt, fMax2, fMin2, gTupF, gsCons, gsNil, D.pure, D.pures, Bool.not_true, Bool.not_false, Bool.and_true, Bool.true_and, Bool.and_false, Bool.false_and, Option.bind_some, Option.bind_none, Option.map_some, Option.map_none, bind_ite, map_ite, List.map_cons, List.map_nil, List.replicate, List.cons_append, List.nil_append, List.append_nil, List.getElem?_cons_zero, List.getElem?_cons_succ, List.set_cons_zero, List.set_cons_succ, List.length_cons, List.length_nil, Nat.reduceAdd, Nat.reduceLT, Nat.zero_add, Nat.lt_add_one, if_true, if_false, ite_true, ite_false, decide_eq_true_eq, Bool.false_eq_true, reduceCtorEq, reduceIte, Nat.reduceLeDiff, Nat.reduceEqDiff, dIx_scrN]
  by_cases h : k < ns.length
  · simp [h, val_fnF, zsF_eq, fzAt, D.fz, wpE, mgE, List.contains_cons, List.contains_nil, Nat.reduceBEq, Bool.or_false, Bool.or_true, Bool.false_or, Bool.true_or, seqF_eq, andThen_nx, andThen_bk, andThen_ct, andThen_rt, retV_rt, retV_nx, nxF, bkF, ctF, rtF, rnF, rmF, stF, exF, put, parF, agF, ifS, forF_eq, flF_nil, flF_cons, flK_nx, flK_ct, flK_bk, flK_rt, tbF, ttF, andF, orF, notF, andV, orV, ifF, chF, b1, b2, bN, clF_val, aNil, aCons, nmF, ownF, cF, fzF, itF, inF, itOf, rng1, rng2, yesF, dTru, dNot, I.isi_non_tuple, I.isi_non_list, I.isi_non_bool, I.isi_non_int, I.isi_non_str, I.isi_bl_tuple, I.isi_bl_list, I.isi_bl_bool, I.isi_bl_int, I.isi_bl_str, I.isi_int_tuple, I.isi_int_list, I.isi_int_bool, I.isi_int_int, I.isi_int_str, I.isi_str_tuple, I.isi_str_list, I.isi_str_bool, I.isi_str_int, I.isi_str_str, I.isi_tup_tuple, I.isi_tup_list, I.isi_tup_bool, I.isi_tup_int, I.isi_tup_str, I.isi_lst_tuple, I.isi_lst_list, I.isi_lst_bool, I.isi_lst_int, I.isi_lst_str, I.isi_scr_tuple, I.isi_scr_list, I.isi_scr_bool, I.isi_scr_int, I.isi_scr_str, dEq_bl, dNe_bl, dIsN_non, dIsN_bl, dIsN_int, dIsN_str, dIsN_tup, dIsN_lst, dAdd_int, dSub_int, dEq_int, dNe_int, dLt_int, dLe_int, dGt_int, dGe_int, dAddI_int, asB_bl, dIx_tup0, dIx_tup1, fLen, fAbs, fInt, fMax2, fMin2, gTupF, gsCons, gsNil, D.pure, D.pures, Bool.not_true, Bool.not_false, Bool.and_true, Bool.true_and, Bool.and_false, Bool.false_and, Option.bind_some, Option.bind_none, Option.map_some, Option.map_none, bind_ite, map_ite, List.map_cons, List.map_nil, List.replicate, List.cons_append, List.nil_append, List.append_nil, List.getElem?_cons_zero, List.getElem?_cons_succ, List.set_cons_zero, List.set_cons_succ, List.length_cons, List.length_nil, Nat.reduceAdd, Nat.reduceLT, Nat.zero_add, Nat.lt_add_one, if_true, if_false, ite_true, ite_false, decide_eq_true_eq, Bool.false_eq_true, reduceCtorEq, reduceIte, Nat.reduceLeDiff, Nat.reduceEqDiff]
  · simp [h, val_fnF, zsF_eq, fzAt, D.fz, wpE, mgE, List.contains_cons, List.contains_nil, Nat.reduceBEq, Bool.or_false, Bool.or_true, Bool.false_or, Bool.true_or, seqF_eq, andThen_nx, andThen_bk, andThen_ct, andThen_rt, retV_rt, retV_nx, nxF, bkF, ctF, rtF, rnF, rmF, stF, exF, put, parF, agF, ifS, forF_eq, flF_nil, flF_cons, flK_nx, flK_ct, flK_bk, flK_rt, tbF, ttF, andF, orF, notF, andV, orV, ifF, chF, b1, b2, bN, clF_val, aNil, aCons, nmF, ownF, cF, fzF, itF, inF, itOf, rng1, rng2, yesF, dTru, dNot, I.isi_non_tuple, I.isi_non_list, I.isi_non_bool, I.isi_non_int, I.isi_non_str, I.isi_bl_tuple, I.isi_bl_list, I.isi_bl_bool, I.isi_bl_int, I.isi_bl_str, I.isi_int_tuple, I.isi_int_list, I.isi_int_bool, I.isi_int_int, I.isi_int_str, I.isi_str_tuple, I.isi_str_list, I.isi_str_bool, I.isi_str_int, I.isi_str_str, I.isi_tup_tuple, I.isi_tup_list, I.isi_tup_bool, I.isi_tup_int, I.isi_tup_str, I.isi_lst_tuple, I.isi_lst_list, I.isi_lst_bool, I.isi_lst_int, I.isi_lst_str, I.isi_scr_tuple, I.isi_scr_list, I.isi_scr_bool, I.isi_scr_int, I.isi_scr_str, dEq_bl, dNe_bl, dIsN_non, dIsN_bl, dIsN_int, dIsN_str, dIsN_tup, dIsN_lst, dAdd_int, dSub_int, dEq_int, dNe_int, dLt_int, dLe_int, dGt_int, dGe_int, dAddI_int, asB_bl, dIx_tup0, dIx_tup1, fLen, fAbs, fInt, fMax2, fMin2, gTupF, gsCons, gsNil, D.pure, D.pures, Bool.not_true, Bool.not_false, Bool.and_true, Bool.true_and, Bool.and_false, Bool.false_and, Option.bind_some, Option.bind_none, Option.map_some, Option.map_none, bind_ite, map_ite, List.map_cons, List.map_nil, List.replicate, List.cons_append, List.nil_append, List.append_nil, List.getElem?_cons_zero, List.getElem?_cons_succ, List.set_cons_zero, List.set_cons_succ, List.length_cons, List.length_nil, Nat.reduceAdd, Nat.reduceLT, Nat.zero_add, Nat.lt_add_one, if_true, if_false, ite_true, ite_false, decide_eq_true_eq, Bool.false_eq_true, reduceCtorEq, reduceIte, Nat.reduceLeDiff, Nat.reduceEqDiff]
theorem dv (j : Int) (h : 0 < j) (h2 : j < 100000) : divOk j = true := divOk_of (b := 60) (by omega) (by omega)
structure Num (l : List Int) : Prop where
  len : l.length ≤ 1000
  bd : ∀ z ∈ l, 0 ≤ z ∧ z < 4096
theorem Num.snoc {l : List Int} (h : Num l) {m : Int} (hl : (l.length : Int) < m) (hm : m ≤ 1000) (z : Int) : Num (l ++ [z % 4096]) := ⟨by simp; omega, fun x hx => by
  rcases List.mem_append.mp hx with w | w
  · exact h.bd x w
  · rw [List.mem_singleton.mp w]; exact ⟨Int.emod_nonneg _ (by omega), Int.emod_lt_of_pos _ (by omega)⟩⟩
section
variable {ns : List Int} {first most : Int}
theorem numbers_in {l : List Int} {c : Int} {o4 o6 o7 : Option D} (hl : Num l) (hc : 0 ≤ c) (hm : most ≤ 1000) :
    ∃ l' c' o6', flF (put 6) L__law_numbers_1 ((List.range (60 : Int).toNat).map fun i : Nat => D.int (i : Int)) [some (.scr ns), some (.int first), some (.int most), some (.lst true (l.map .int)), o4, some (.int c), o6, o7] =
      some (.nx, [some (.scr ns), some (.int first), some (.int most), some (.lst true (l'.map .int)), o4, some (.int c'), o6', o7]) ∧ Num l' := by
  obtain ⟨e, h1, l', c', o6', rfl, hl', _⟩ := flF_rel (FT := put 6) (FB := L__law_numbers_1) (fun i : Nat => D.int (i : Int))
    (fun ys e => ∃ (l' : List Int) (c' : Int) (o6' : Option D), e = [some (.scr ns), some (.int first), some (.int most), some (.lst true (l'.map .int)), o4, some (.int c'), o6', o7] ∧ Num l' ∧ 0 ≤ c')
    (List.range (60 : Int).toNat) _ ⟨l, c, o6, rfl, hl, hc⟩
    fun y zs e ⟨l', c', o6', he, hl', hc'⟩ => by
      subst he
      have m1 : dMod (.int c') (.int 4096) = some (.int (c' % 4096)) := dMod_pos (by omega)
      have d1 : dDiv (.int c') (.int 4096) = some (.int (c' / 4096)) := dDiv_pos (by omega) (dv _ (by omega) (by omega))
      by_cases h1 : 0 < c'
      · by_cases h2 : (l'.length : Int) < most
        · refine ⟨_, ?_, l' ++ [c' % 4096], c' / 4096, some (.int y), rfl, hl'.snoc h2 hm c', Int.ediv_nonneg hc' (by omega)⟩
          have lt : lineLt l'.length = true := tst_of (by have := hl'.len; omega)
          simp only [L__law_numbers_1, val_fnF, zsF_eq, fzAt, D.fz, wpE, mgE, List.contains_cons, List.contains_nil, Nat.reduceBEq, Bool.or_false, Bool.or_true, Bool.false_or, Bool.true_or, seqF_eq, andThen_nx, andThen_bk, andThen_ct, andThen_rt, retV_rt, retV_nx, nxF, bkF, ctF, rtF, rnF, rmF, stF, exF, put, parF, agF, ifS, forF_eq, flF_nil, flF_cons, flK_nx, flK_ct, flK_bk, flK_rt, tbF, ttF, andF, orF, notF, andV, orV, ifF, chF, b1, b2, bN, clF_val, aNil, aCons, nmF, ownF, cF, fzF, itF, inF, itOf, rng1, rng2, yesF, dTru, dNot, I.isi_non_tuple, I.isi_non_list, I.isi_non_bool, I.isi_non_int, I.isi_non_str, I.isi_bl_tuple, I.isi_bl_list, I.isi_bl_bool, I.isi_bl_int, I.isi_bl_str, I.isi_int_tuple, I.isi_int_list, I.isi_int_bool, I.isi_int_int, I.isi_int_str, I.isi_str_tuple, I.isi_str_list, I.isi_str_bool, I.isi_str_int, I.isi_str_str, I.isi_tup_tuple, I.isi_tup_list, I.isi_tup_bool, I.isi_tup_int, I.isi_tup_str, I.isi_lst_tuple, I.isi_lst_list, I.isi_lst_bool, I.isi_lst_int, I.isi_lst_str, I.isi_scr_tuple, I.isi_scr_list, I.isi_scr_bool, I.isi_scr_int, I.isi_scr_str, dEq_bl, dNe_bl, dIsN_non, dIsN_bl, dIsN_int, dIsN_str, dIsN_tup, dIsN_lst, dAdd_int, dSub_int, dEq_int, dNe_int, dLt_int, dLe_int, dGt_int, dGe_int, dAddI_int, asB_bl, dIx_tup0, dIx_tup1, fLen, fAbs, fInt, fMax2, fMin2, gTupF, gsCons, gsNil, D.pure, D.pures, Bool.not_true, Bool.not_false, Bool.and_true, Bool.true_and, Bool.and_false, Bool.false_and, Option.bind_some, Option.bind_none, Option.map_some, Option.map_none, bind_ite, map_ite, List.map_cons, List.map_nil, List.replicate, List.cons_append, List.nil_append, List.append_nil, List.getElem?_cons_zero, List.getElem?_cons_succ, List.set_cons_zero, List.set_cons_succ, List.length_cons, List.length_nil, Nat.reduceAdd, Nat.reduceLT, Nat.zero_add, Nat.lt_add_one, if_true, if_false, ite_true, ite_false, decide_eq_true_eq, Bool.false_eq_true, reduceCtorEq, reduceIte, Nat.reduceLeDiff, Nat.reduceEqDiff, h1, h2, decide_true, List.length_map, mtF, isL, m1, d1, mAppend, lt, List.map_append]
        · refine ⟨_, ?_, l', c', some (.int y), rfl, hl', hc'⟩
          simp only [L__law_numbers_1, val_fnF, zsF_eq, fzAt, D.fz, wpE, mgE, List.contains_cons, List.contains_nil, Nat.reduceBEq, Bool.or_false, Bool.or_true, Bool.false_or, Bool.true_or, seqF_eq, andThen_nx, andThen_bk, andThen_ct, andThen_rt, retV_rt, retV_nx, nxF, bkF, ctF, rtF, rnF, rmF, stF, exF, put, parF, agF, ifS, forF_eq, flF_nil, flF_cons, flK_nx, flK_ct, flK_bk, flK_rt, tbF, ttF, andF, orF, notF, andV, orV, ifF, chF, b1, b2, bN, clF_val, aNil, aCons, nmF, ownF, cF, fzF, itF, inF, itOf, rng1, rng2, yesF, dTru, dNot, I.isi_non_tuple, I.isi_non_list, I.isi_non_bool, I.isi_non_int, I.isi_non_str, I.isi_bl_tuple, I.isi_bl_list, I.isi_bl_bool, I.isi_bl_int, I.isi_bl_str, I.isi_int_tuple, I.isi_int_list, I.isi_int_bool, I.isi_int_int, I.isi_int_str, I.isi_str_tuple, I.isi_str_list, I.isi_str_bool, I.isi_str_int, I.isi_str_str, I.isi_tup_tuple, I.isi_tup_list, I.isi_tup_bool, I.isi_tup_int, I.isi_tup_str, I.isi_lst_tuple, I.isi_lst_list, I.isi_lst_bool, I.isi_lst_int, I.isi_lst_str, I.isi_scr_tuple, I.isi_scr_list, I.isi_scr_bool, I.isi_scr_int, I.isi_scr_str, dEq_bl, dNe_bl, dIsN_non, dIsN_bl, dIsN_int, dIsN_str, dIsN_tup, dIsN_lst, dAdd_int, dSub_int, dEq_int, dNe_int, dLt_int, dLe_int, dGt_int, dGe_int, dAddI_int, asB_bl, dIx_tup0, dIx_tup1, fLen, fAbs, fInt, fMax2, fMin2, gTupF, gsCons, gsNil, D.pure, D.pures, Bool.not_true, Bool.not_false, Bool.and_true, Bool.true_and, Bool.and_false, Bool.false_and, Option.bind_some, Option.bind_none, Option.map_some, Option.map_none, bind_ite, map_ite, List.map_cons, List.map_nil, List.replicate, List.cons_append, List.nil_append, List.append_nil, List.getElem?_cons_zero, List.getElem?_cons_succ, List.set_cons_zero, List.set_cons_succ, List.length_cons, List.length_nil, Nat.reduceAdd, Nat.reduceLT, Nat.zero_add, Nat.lt_add_one, if_true, if_false, ite_true, ite_false, decide_eq_true_eq, Bool.false_eq_true, reduceCtorEq, reduceIte, Nat.reduceLeDiff, Nat.reduceEqDiff, h1, h2, decide_true, decide_false, List.length_map]
      · refine ⟨_, ?_, l', c', some (.int y), rfl, hl', hc'⟩
        simp only [L__law_numbers_1, val_fnF, zsF_eq, fzAt, D.fz, wpE, mgE, List.contains_cons, List.contains_nil, Nat.reduceBEq, Bool.or_false, Bool.or_true, Bool.false_or, Bool.true_or, seqF_eq, andThen_nx, andThen_bk, andThen_ct, andThen_rt, retV_rt, retV_nx, nxF, bkF, ctF, rtF, rnF, rmF, stF, exF, put, parF, agF, ifS, forF_eq, flF_nil, flF_cons, flK_nx, flK_ct, flK_bk, flK_rt, tbF, ttF, andF, orF, notF, andV, orV, ifF, chF, b1, b2, bN, clF_val, aNil, aCons, nmF, ownF, cF, fzF, itF, inF, itOf, rng1, rng2, yesF, dTru, dNot, I.isi_non_tuple, I.isi_non_list, I.isi_non_bool, I.isi_non_int, I.isi_non_str, I.isi_bl_tuple, I.isi_bl_list, I.isi_bl_bool, I.isi_bl_int, I.isi_bl_str, I.isi_int_tuple, I.isi_int_list, I.isi_int_bool, I.isi_int_int, I.isi_int_str, I.isi_str_tuple, I.isi_str_list, I.isi_str_bool, I.isi_str_int, I.isi_str_str, I.isi_tup_tuple, I.isi_tup_list, I.isi_tup_bool, I.isi_tup_int, I.isi_tup_str, I.isi_lst_tuple, I.isi_lst_list, I.isi_lst_bool, I.isi_lst_int, I.isi_lst_str, I.isi_scr_tuple, I.isi_scr_list, I.isi_scr_bool, I.isi_scr_int, I.isi_scr_str, dEq_bl, dNe_bl, dIsN_non, dIsN_bl, dIsN_int, dIsN_str, dIsN_tup, dIsN_lst, dAdd_int, dSub_int, dEq_int, dNe_int, dLt_int, dLe_int, dGt_int, dGe_int, dAddI_int, asB_bl, dIx_tup0, dIx_tup1, fLen, fAbs, fInt, fMax2, fMin2, gTupF, gsCons, gsNil, D.pure, D.pures, Bool.not_true, Bool.not_false, Bool.and_true, Bool.true_and, Bool.and_false, Bool.false_and, Option.bind_some, Option.bind_none, Option.map_some, Option.map_none, bind_ite, map_ite, List.map_cons, List.map_nil, List.replicate, List.cons_append, List.nil_append, List.append_nil, List.getElem?_cons_zero, List.getElem?_cons_succ, List.set_cons_zero, List.set_cons_succ, List.length_cons, List.length_nil, Nat.reduceAdd, Nat.reduceLT, Nat.zero_add, Nat.lt_add_one, if_true, if_false, ite_true, ite_false, decide_eq_true_eq, Bool.false_eq_true, reduceCtorEq, reduceIte, Nat.reduceLeDiff, Nat.reduceEqDiff, h1, decide_false]
  exact ⟨l', c', o6', h1, hl'⟩
theorem numbers_ok (hn : ns.length ≤ 63) (h0 : 0 ≤ first) (h1 : first ≤ 1000) (hm : most ≤ 1000) :
    ∃ l, val F__law_numbers [.scr ns, .int first, .int most] = some (.lst true (l.map .int)) ∧ Num l := by
  obtain ⟨e, h1, l', o4, o5, o6, o7, rfl, hl', _⟩ := flF_rel (FT := put 4) (FB := L__law_numbers_2) (fun i : Nat => D.int (first + (i : Int)))
    (fun ys e => ∃ (l' : List Int) (o4 o5 o6 o7 : Option D), e = [some (.scr ns), some (.int first), some (.int most), some (.lst true (l'.map .int)), o4, o5, o6, o7] ∧ Num l' ∧ ∀ y ∈ ys, first + (y : Int) < ns.length)
    (List.range ((ns.length : Int) - first).toNat) [some (.scr ns), some (.int first), some (.int most), some (.lst true []), none, none, none, none] ⟨[], none, none, none, none, rfl, ⟨by simp, by simp⟩, fun y hy => by simp at hy; omega⟩
    fun y zs e ⟨l', o4, o5, o6, o7, he, hl', hy⟩ => by
      subst he
      have hy' := hy y (by simp)
      obtain ⟨k, hk⟩ : ∃ k : Nat, first + (y : Int) = k := ⟨(first + y).toNat, by omega⟩
      have hkl : k < ns.length := by omega
      have q1 : ns[k]? = some ns[k] := by simp [hkl]
      have ab : fAbs [.int ns[k]] = some (.int (ns[k].natAbs : Int)) := by
        have : (if ns[k] < 0 then -ns[k] else ns[k]) = (ns[k].natAbs : Int) := by split <;> omega
        simp only [fAbs, this]
      generalize hc : (ns[k].natAbs : Int) = c at ab
      have c0 : 0 ≤ c := by omega
      by_cases h1 : 1000000000000000000 ≤ c
      · obtain ⟨l2, c2, o6', e2, hl2⟩ := numbers_in (ns := ns) (first := first) (most := most) (l := l') (c := c) (o4 := some (.int k)) (o6 := o6) (o7 := o7) hl' c0 hm
        have r6 : rgOk 60 = true := tst_of (by omega)
        refine ⟨_, ?_, l2, some (.int k), some (.int c2), o6', o7, rfl, hl2, fun z hz => hy z (by simp [hz])⟩
        simp only [fAbs] at ab
        simp only [L__law_numbers_2, val_fnF, zsF_eq, fzAt, D.fz, wpE, mgE, List.contains_cons, List.contains_nil, Nat.reduceBEq, Bool.or_false, Bool.or_true, Bool.false_or, Bool.true_or, seqF_eq, andThen_nx, andThen_bk, andThen_ct, andThen_rt, retV_rt, retV_nx, nxF, bkF, ctF, rtF, rnF, rmF, stF, exF, put, parF, agF, ifS, forF_eq, flF_nil, flF_cons, flK_nx, flK_ct, flK_bk, flK_rt, tbF, ttF, andF, orF, notF, andV, orV, ifF, chF, b1, b2, bN, clF_val, aNil, aCons, nmF, ownF, cF, fzF, itF, inF, itOf, rng1, rng2, yesF, dTru, dNot, I.isi_non_tuple, I.isi_non_list, I.isi_non_bool, I.isi_non_int, I.isi_non_str, I.isi_bl_tuple, I.isi_bl_list, I.isi_bl_bool, I.isi_bl_int, I.isi_bl_str, I.isi_int_tuple, I.isi_int_list, I.isi_int_bool, I.isi_int_int, I.isi_int_str, I.isi_str_tuple, I.isi_str_list, I.isi_str_bool, I.isi_str_int, I.isi_str_str, I.isi_tup_tuple, I.isi_tup_list, I.isi_tup_bool, I.isi_tup_int, I.isi_tup_str, I.isi_lst_tuple, I.isi_lst_list, I.isi_lst_bool, I.isi_lst_int, I.isi_lst_str, I.isi_scr_tuple, I.isi_scr_list, I.isi_scr_bool, I.isi_scr_int, I.isi_scr_str, dEq_bl, dNe_bl, dIsN_non, dIsN_bl, dIsN_int, dIsN_str, dIsN_tup, dIsN_lst, dAdd_int, dSub_int, dEq_int, dNe_int, dLt_int, dLe_int, dGt_int, dGe_int, dAddI_int, asB_bl, dIx_tup0, dIx_tup1, fLen, fAbs, fInt, fMax2, fMin2, gTupF, gsCons, gsNil, D.pure, D.pures, Bool.not_true, Bool.not_false, Bool.and_true, Bool.true_and, Bool.and_false, Bool.false_and, Option.bind_some, Option.bind_none, Option.map_some, Option.map_none, bind_ite, map_ite, List.map_cons, List.map_nil, List.replicate, List.cons_append, List.nil_append, List.append_nil, List.getElem?_cons_zero, List.getElem?_cons_succ, List.set_cons_zero, List.set_cons_succ, List.length_cons, List.length_nil, Nat.reduceAdd, Nat.reduceLT, Nat.zero_add, Nat.lt_add_one, if_true, if_false, ite_true, ite_false, decide_eq_true_eq, Bool.false_eq_true, reduceCtorEq, reduceIte, Nat.reduceLeDiff, Nat.reduceEqDiff, hk, dIx_scrN, q1, Option.map_some, ab, h1, decide_true, r6, e2]
      · by_cases h2 : (l'.length : Int) < most
        · have lt : lineLt l'.length = true := tst_of (by have := hl'.len; omega)
          refine ⟨[some (.scr ns), some (.int first), some (.int most), some (.lst true ((l' ++ [((((c * 48271 + (k : Int) * 69621 + 12345) % 2147483647) * 69621 + ((c * 48271 + (k : Int) * 69621 + 12345) % 2147483647) / 1009) % 1000003) % 4096]).map .int)), some (.int k), some (.int c), o6, some (.int ((((c * 48271 + (k : Int) * 69621 + 12345) % 2147483647) * 69621 + ((c * 48271 + (k : Int) * 69621 + 12345) % 2147483647) / 1009) % 1000003))], ?_, _, some (.int k), some (.int c), o6, _, rfl, hl'.snoc h2 hm _, fun z hz => hy z (by simp [hz])⟩
          simp only [fAbs] at ab
          simp only [L__law_numbers_2, val_fnF, zsF_eq, fzAt, D.fz, wpE, mgE, List.contains_cons, List.contains_nil, Nat.reduceBEq, Bool.or_false, Bool.or_true, Bool.false_or, Bool.true_or, seqF_eq, andThen_nx, andThen_bk, andThen_ct, andThen_rt, retV_rt, retV_nx, nxF, bkF, ctF, rtF, rnF, rmF, stF, exF, put, parF, agF, ifS, forF_eq, flF_nil, flF_cons, flK_nx, flK_ct, flK_bk, flK_rt, tbF, ttF, andF, orF, notF, andV, orV, ifF, chF, b1, b2, bN, clF_val, aNil, aCons, nmF, ownF, cF, fzF, itF, inF, itOf, rng1, rng2, yesF, dTru, dNot, I.isi_non_tuple, I.isi_non_list, I.isi_non_bool, I.isi_non_int, I.isi_non_str, I.isi_bl_tuple, I.isi_bl_list, I.isi_bl_bool, I.isi_bl_int, I.isi_bl_str, I.isi_int_tuple, I.isi_int_list, I.isi_int_bool, I.isi_int_int, I.isi_int_str, I.isi_str_tuple, I.isi_str_list, I.isi_str_bool, I.isi_str_int, I.isi_str_str, I.isi_tup_tuple, I.isi_tup_list, I.isi_tup_bool, I.isi_tup_int, I.isi_tup_str, I.isi_lst_tuple, I.isi_lst_list, I.isi_lst_bool, I.isi_lst_int, I.isi_lst_str, I.isi_scr_tuple, I.isi_scr_list, I.isi_scr_bool, I.isi_scr_int, I.isi_scr_str, dEq_bl, dNe_bl, dIsN_non, dIsN_bl, dIsN_int, dIsN_str, dIsN_tup, dIsN_lst, dAdd_int, dSub_int, dEq_int, dNe_int, dLt_int, dLe_int, dGt_int, dGe_int, dAddI_int, asB_bl, dIx_tup0, dIx_tup1, fLen, fAbs, fInt, fMax2, fMin2, gTupF, gsCons, gsNil, D.pure, D.pures, Bool.not_true, Bool.not_false, Bool.and_true, Bool.true_and, Bool.and_false, Bool.false_and, Option.bind_some, Option.bind_none, Option.map_some, Option.map_none, bind_ite, map_ite, List.map_cons, List.map_nil, List.replicate, List.cons_append, List.nil_append, List.append_nil, List.getElem?_cons_zero, List.getElem?_cons_succ, List.set_cons_zero, List.set_cons_succ, List.length_cons, List.length_nil, Nat.reduceAdd, Nat.reduceLT, Nat.zero_add, Nat.lt_add_one, if_true, if_false, ite_true, ite_false, decide_eq_true_eq, Bool.false_eq_true, reduceCtorEq, reduceIte, Nat.reduceLeDiff, Nat.reduceEqDiff, hk, dIx_scrN, q1, Option.map_some, ab, h1, h2, decide_true, decide_false, List.length_map, dMul, mulOk_r (show (48271 : Int).natAbs < 2 ^ 64 by decide), mulOk_r (show (69621 : Int).natAbs < 2 ^ 64 by decide), dMod_pos (show (0 : Int) < 2147483647 by decide), dMod_pos (show (0 : Int) < 1000003 by decide), dMod_pos (show (0 : Int) < 4096 by decide), dDiv_pos (show (0 : Int) < 1009 by decide) (dv 1009 (by decide) (by decide)), mtF, isL, mAppend, lt, List.map_append]
        · refine ⟨_, ?_, l', some (.int k), some (.int c), o6, o7, rfl, hl', fun z hz => hy z (by simp [hz])⟩
          simp only [fAbs] at ab
          simp only [L__law_numbers_2, val_fnF, zsF_eq, fzAt, D.fz, wpE, mgE, List.contains_cons, List.contains_nil, Nat.reduceBEq, Bool.or_false, Bool.or_true, Bool.false_or, Bool.true_or, seqF_eq, andThen_nx, andThen_bk, andThen_ct, andThen_rt, retV_rt, retV_nx, nxF, bkF, ctF, rtF, rnF, rmF, stF, exF, put, parF, agF, ifS, forF_eq, flF_nil, flF_cons, flK_nx, flK_ct, flK_bk, flK_rt, tbF, ttF, andF, orF, notF, andV, orV, ifF, chF, b1, b2, bN, clF_val, aNil, aCons, nmF, ownF, cF, fzF, itF, inF, itOf, rng1, rng2, yesF, dTru, dNot, I.isi_non_tuple, I.isi_non_list, I.isi_non_bool, I.isi_non_int, I.isi_non_str, I.isi_bl_tuple, I.isi_bl_list, I.isi_bl_bool, I.isi_bl_int, I.isi_bl_str, I.isi_int_tuple, I.isi_int_list, I.isi_int_bool, I.isi_int_int, I.isi_int_str, I.isi_str_tuple, I.isi_str_list, I.isi_str_bool, I.isi_str_int, I.isi_str_str, I.isi_tup_tuple, I.isi_tup_list, I.isi_tup_bool, I.isi_tup_int, I.isi_tup_str, I.isi_lst_tuple, I.isi_lst_list, I.isi_lst_bool, I.isi_lst_int, I.isi_lst_str, I.isi_scr_tuple, I.isi_scr_list, I.isi_scr_bool, I.isi_scr_int, I.isi_scr_str, dEq_bl, dNe_bl, dIsN_non, dIsN_bl, dIsN_int, dIsN_str, dIsN_tup, dIsN_lst, dAdd_int, dSub_int, dEq_int, dNe_int, dLt_int, dLe_int, dGt_int, dGe_int, dAddI_int, asB_bl, dIx_tup0, dIx_tup1, fLen, fAbs, fInt, fMax2, fMin2, gTupF, gsCons, gsNil, D.pure, D.pures, Bool.not_true, Bool.not_false, Bool.and_true, Bool.true_and, Bool.and_false, Bool.false_and, Option.bind_some, Option.bind_none, Option.map_some, Option.map_none, bind_ite, map_ite, List.map_cons, List.map_nil, List.replicate, List.cons_append, List.nil_append, List.append_nil, List.getElem?_cons_zero, List.getElem?_cons_succ, List.set_cons_zero, List.set_cons_succ, List.length_cons, List.length_nil, Nat.reduceAdd, Nat.reduceLT, Nat.zero_add, Nat.lt_add_one, if_true, if_false, ite_true, ite_false, decide_eq_true_eq, Bool.false_eq_true, reduceCtorEq, reduceIte, Nat.reduceLeDiff, Nat.reduceEqDiff, hk, dIx_scrN, q1, Option.map_some, ab, h1, h2, decide_false, List.length_map]
  have z : dLst [] = some (.lst true []) := dLst_le (by simp)
  have r1 : rgOk first = true := tst_of (by omega)
  have r2 : rgOk (ns.length : Int) = true := tst_of (by omega)
  refine ⟨l', ?_, hl'⟩
  simp only [F__law_numbers, val_fnF, zsF_eq, fzAt, D.fz, wpE, mgE, List.contains_cons, List.contains_nil, Nat.reduceBEq, Bool.or_false, Bool.or_true, Bool.false_or, Bool.true_or, seqF_eq, andThen_nx, andThen_bk, andThen_ct, andThen_rt, retV_rt, retV_nx, nxF, bkF, ctF, rtF, rnF, rmF, stF, exF, put, parF, agF, ifS, forF_eq, flF_nil, flF_cons, flK_nx, flK_ct, flK_bk, flK_rt, tbF, ttF, andF, orF, notF, andV, orV, ifF, chF, b1, b2, bN, clF_val, aNil, aCons, nmF, ownF, cF, fzF, itF, inF, itOf, rng1, rng2, yesF, dTru, dNot, I.isi_non_tuple, I.isi_non_list, I.isi_non_bool, I.isi_non_int, I.isi_non_str, I.isi_bl_tuple, I.isi_bl_list, I.isi_bl_bool, I.isi_bl_int, I.isi_bl_str, I.isi_int_tuple, I.isi_int_list, I.isi_int_bool, I.isi_int_int, I.isi_int_str, I.isi_str_tuple, I.isi_str_list, I.isi_str_bool, I.isi_str_int, I.isi_str_str, I.isi_tup_tuple, I.isi_tup_list, I.isi_tup_bool, I.isi_tup_int, I.isi_tup_str, I.isi_lst_tuple, I.isi_lst_list, I.isi_lst_bool, I.isi_lst_int, I.isi_lst_str, I.isi_scr_tuple, I.isi_scr_list, I.isi_scr_bool, I.isi_scr_int, I.isi_scr_str, dEq_bl, dNe_bl, dIsN_non, dIsN_bl, dIsN_int, dIsN_str, dIsN_tup, dIsN_lst, dAdd_int, dSub_int, dEq_int, dNe_int, dLt_int, dLe_int, dGt_int, dGe_int, dAddI_int, asB_bl, dIx_tup0, dIx_tup1, fLen, fAbs, fInt, fMax2, fMin2, gTupF, gsCons, gsNil, D.pure, D.pures, Bool.not_true, Bool.not_false, Bool.and_true, Bool.true_and, Bool.and_false, Bool.false_and, Option.bind_some, Option.bind_none, Option.map_some, Option.map_none, bind_ite, map_ite, List.map_cons, List.map_nil, List.replicate, List.cons_append, List.nil_append, List.append_nil, List.getElem?_cons_zero, List.getElem?_cons_succ, List.set_cons_zero, List.set_cons_succ, List.length_cons, List.length_nil, Nat.reduceAdd, Nat.reduceLT, Nat.zero_add, Nat.lt_add_one, if_true, if_false, ite_true, ite_false, decide_eq_true_eq, Bool.false_eq_true, reduceCtorEq, reduceIte, Nat.reduceLeDiff, Nat.reduceEqDiff, z, r1, r2, and_self, h1, rmF]
end
/-! ordinary polynomials -/
theorem kput_fun {i : Nat} {env : En} {ks : List (List Int)} {F : List Int → D} {e : List Int} {v : D} (he : env[i]? = some (some (.dct true ks (ks.map F)))) (hv : v.pure = true) (hl : ks.length ≤ 100000) :
    kput i (keyD e) v env = some (env.set i (some (.dct true (if e ∈ ks then ks else ks ++ [e]) ((if e ∈ ks then ks else ks ++ [e]).map fun k => if k = e then v else F k)))) := by
  have lt : lineLt ks.length = true := tst_of (by omega)
  simp only [kput, he, hv, lt, and_self, if_true, keyOf_keyD, Option.map_some]
  congr 4
  split
  · exact putDs_map F e v ks
  · rename_i hn
    rw [List.map_append, List.map_singleton, if_pos rfl]
    congr 1
    exact List.map_congr_left fun k hk => (if_neg (show ¬ k = e from fun z => hn (z ▸ hk))).symm
theorem ix_ints {o : Bool} {l : List Int} {m z : Int} (hm : 0 < m) (hl : l.length = m.toNat) : ∃ a, a ∈ l ∧ dIx (.lst o (l.map .int)) (.int (z % m)) = some (.int a) := by
  have h1 := Int.emod_nonneg z (show m ≠ 0 by omega)
  have h2 := Int.emod_lt_of_pos z hm
  obtain ⟨k, hk⟩ : ∃ k : Nat, z % m = k := ⟨(z % m).toNat, by omega⟩
  have hkl : k < l.length := by omega
  refine ⟨l[k], List.getElem_mem hkl, ?_⟩
  rw [hk, dIx_lstN, List.getElem?_map, List.getElem?_eq_getElem hkl]; rfl
def la : List Int := [1, -1, 2, 3, -4, 6, 9, -12, 25, 8]
def lb : List Int := [1, 1, 1, 27, 49]
def lc : List Int := [1, 1, 2, 3, 8]
/-- a coefficient -/
def Cf (q : Rat) : Prop := Md 24 29400 q ∧ q ≠ 0
theorem cf_of {a b c : Int} (ha : a ∈ la) (hb : b ∈ lb) (hc : c ∈ lc) : val F__law_frac [.int (a * b), .int c] = some (fr (Rat.divInt (a * b) c)) ∧ Cf (Rat.divInt (a * b) c) := by
  have h1 : a.natAbs ≤ 25 ∧ a ≠ 0 := by
    simp only [la, List.mem_cons, List.not_mem_nil, or_false] at ha
    rcases ha with h | h | h | h | h | h | h | h | h | h <;> subst h <;> decide
  have h2 : b.natAbs ≤ 49 ∧ b ≠ 0 := by
    simp only [lb, List.mem_cons, List.not_mem_nil, or_false] at hb
    rcases hb with h | h | h | h | h <;> subst h <;> decide
  have h3 : 0 < c ∧ ∃ m : Nat, ((24 : Nat) : Int) = c * m ∧ m ≤ 24 := by
    simp only [lc, List.mem_cons, List.not_mem_nil, or_false] at hc
    rcases hc with h | h | h | h | h <;> subst h
    · exact ⟨by decide, 24, by decide, by decide⟩
    · exact ⟨by decide, 24, by decide, by decide⟩
    · exact ⟨by decide, 12, by decide, by decide⟩
    · exact ⟨by decide, 8, by decide, by decide⟩
    · exact ⟨by decide, 3, by decide, by decide⟩
  obtain ⟨c0, m, hm, m24⟩ := h3
  have c24 : c ≤ 24 := by
    simp only [lc, List.mem_cons, List.not_mem_nil, or_false] at hc
    omega
  have hab : (a * b).natAbs ≤ 1225 := by
    rw [Int.natAbs_mul]
    have := Nat.mul_le_mul h1.1 h2.1
    omega
  refine ⟨lfrac_eq c0 (Nat.lt_of_lt_of_le (show c.natAbs < 2 ^ 60 by omega) (Nat.pow_le_pow_right (by omega) (by omega))), Md.of c0 m hm (by omega) ?_, ?_⟩
  · have := Nat.mul_le_mul hab m24
    omega
  · intro e
    have e2 : Rat.divInt (a * b) c = Rat.divInt 0 1 := by rw [e]; simp
    rw [Rat.divInt_eq_divInt_iff (by omega) (by omega)] at e2
    have e3 : a * b = 0 := by omega
    rcases Int.mul_eq_zero.mp e3 with z | z
    · exact h1.2 z
    · exact h2.2 z
def exps (n : Nat) (z top : Int) : List Int := (List.range n).map fun i : Nat => z / (1 + 5 * (i : Int) * i) % (top + 1)
theorem exps_ok {n : Nat} {z : Int} {top : Nat} : (exps n z top).length = n ∧ ∀ e ∈ exps n z top, 0 ≤ e ∧ e ≤ top := by
  refine ⟨by simp [exps], fun e he => ?_⟩
  obtain ⟨i, _, rfl⟩ := List.mem_map.mp he
  have h1 := Int.emod_nonneg (z / (1 + 5 * (i : Int) * i)) (show (top : Int) + 1 ≠ 0 by omega)
  have h2 := Int.emod_lt_of_pos (z / (1 + 5 * (i : Int) * i)) (show (0 : Int) < (top : Int) + 1 by omega)
  omega
theorem ordinary_ok {nums : List Int} (h0 : 0 < nums.length) {first : Nat} (hf : first ≤ 1000) {n : Nat} (n1 : 1 ≤ n) (hn : n ≤ 3) {most top : Nat} (hm : most ≤ 8) (ht : top ≤ 8) :
    ∃ p : List Row, val F__law_ordinary [.lst false (nums.map .int), .int first, .int n, .int most, .int top] = some (polyD p) ∧ p.length ≤ most ∧ (∀ t ∈ p, (t.1.length = n ∧ ∀ e ∈ t.1, 0 ≤ e ∧ e ≤ (top : Int)) ∧ Cf t.2) ∧
      (p.map (·.1)).Nodup ∧ (p.map (·.1)).Pairwise (fun a b => HT.lexLt b a = false) := by
  have lm : (nums.map D.int).length = nums.length := by simp
  have ixn : ∀ z : Int, ∃ a, dIx (.lst false (nums.map .int)) (.int (z % (nums.length : Int))) = some (.int a) := fun z => by
    obtain ⟨a, _, e⟩ := ix_ints (o := false) (l := nums) (m := (nums.length : Int)) (z := z) (by omega) (by simp)
    exact ⟨a, e⟩
  obtain ⟨c0, hc0⟩ := ixn first
  have hcm := Int.emod_nonneg c0 (show (most : Int) + 1 ≠ 0 by omega)
  have hcl := Int.emod_lt_of_pos c0 (show (0 : Int) < (most : Int) + 1 by omega)
  obtain ⟨cnt, hcnt⟩ : ∃ k : Nat, c0 % ((most : Int) + 1) = k := ⟨(c0 % ((most : Int) + 1)).toNat, by omega⟩
  obtain ⟨e, h1, ks, F, o7, o8, o9, o10, rfl, hkl, hk, hnd⟩ := flF_rel (FT := put 7) (FB := L__law_ordinary_2) (fun i : Nat => D.int (i : Int))
    (fun ys e => ∃ (ks : List (List Int)) (F : List Int → Rat) (o7 o8 : Option Int) (o9 : Option (List Int)) (o10 : Option Int), e = [some (.lst false (nums.map .int)), some (.int first), some (.int n), some (.int most), some (.int top), some (.dct true ks (ks.map fun k => fr (F k))), some (.int cnt), o7.map .int, o8.map .int, o9.map keyD, o10.map .int, none] ∧
      ks.length + ys.length ≤ cnt ∧ (∀ k ∈ ks, (k.length = n ∧ ∀ e ∈ k, 0 ≤ e ∧ e ≤ (top : Int)) ∧ Cf (F k)) ∧ ks.Nodup)
    (List.range cnt) [some (.lst false (nums.map .int)), some (.int first), some (.int n), some (.int most), some (.int top), some (.dct true [] []), some (.int cnt), none, none, none, none, none] ⟨[], fun _ => 0, none, none, none, none, rfl, by simp, by simp, by simp⟩
    fun y zs e ⟨ks, F, o7, o8, o9, o10, he, hkl, hk, hnd⟩ => by
      subst he
      simp only [List.length_cons] at hkl
      obtain ⟨z, hz⟩ := ixn ((first : Int) + 1 + (y : Int))
      have me := dMod_pos (i := (first : Int) + 1 + (y : Int)) (show (0 : Int) < (nums.length : Int) by omega)
      have ee := lcF_map (vs := [11]) (FI := inF rng1 (aCons (nmO 2) aNil)) (FT := put 11) (FE := E__law_ordinary_1) (env := [some (.lst false (nums.map .int)), some (.int first), some (.int n), some (.int most), some (.int top), some (.dct true ks (ks.map fun k => fr (F k))), some (.int cnt), some (.int y), some (.int z), o9.map keyD, o10.map .int, none])
        (env' := [some (.lst false (nums.map .int)), some (.int first), some (.int n), some (.int most), some (.int top), some (.dct true ks (ks.map fun k => fr (F k))), some (.int cnt), some (.int y), some (.int z), o9.map keyD, o10.map .int, none])
        (fun i : Nat => D.int (i : Int)) (fun i => D.int (z / (1 + 5 * (i : Int) * i) % ((top : Int) + 1))) (List.range n) (by simp only [val_fnF, zsF_eq, fzAt, D.fz, wpE, mgE, List.contains_cons, List.contains_nil, Nat.reduceBEq, Bool.or_false, Bool.or_true, Bool.false_or, Bool.true_or, seqF_eq, andThen_nx, andThen_bk, andThen_ct, andThen_rt, retV_rt, retV_nx, nxF, bkF, ctF, rtF, rnF, rmF, stF, exF, put, parF, agF, ifS, forF_eq, flF_nil, flF_cons, flK_nx, flK_ct, flK_bk, flK_rt, tbF, ttF, andF, orF, notF, andV, orV, ifF, chF, b1, b2, bN, clF_val, aNil, aCons, nmF, ownF, cF, fzF, itF, inF, itOf, rng1, rng2, yesF, dTru, dNot, I.isi_non_tuple, I.isi_non_list, I.isi_non_bool, I.isi_non_int, I.isi_non_str, I.isi_bl_tuple, I.isi_bl_list, I.isi_bl_bool, I.isi_bl_int, I.isi_bl_str, I.isi_int_tuple, I.isi_int_list, I.isi_int_bool, I.isi_int_int, I.isi_int_str, I.isi_str_tuple, I.isi_str_list, I.isi_str_bool, I.isi_str_int, I.isi_str_str, I.isi_tup_tuple, I.isi_tup_list, I.isi_tup_bool, I.isi_tup_int, I.isi_tup_str, I.isi_lst_tuple, I.isi_lst_list, I.isi_lst_bool, I.isi_lst_int, I.isi_lst_str, I.isi_scr_tuple, I.isi_scr_list, I.isi_scr_bool, I.isi_scr_int, I.isi_scr_str, dEq_bl, dNe_bl, dIsN_non, dIsN_bl, dIsN_int, dIsN_str, dIsN_tup, dIsN_lst, dAdd_int, dSub_int, dEq_int, dNe_int, dLt_int, dLe_int, dGt_int, dGe_int, dAddI_int, asB_bl, dIx_tup0, dIx_tup1, fLen, fAbs, fInt, fMax2, fMin2, gTupF, gsCons, gsNil, D.pure, D.pures, Bool.not_true, Bool.not_false, Bool.and_true, Bool.true_and, Bool.and_false, Bool.false_and, Option.bind_some, Option.bind_none, Option.map_some, Option.map_none, bind_ite, map_ite, List.map_cons, List.map_nil, List.replicate, List.cons_append, List.nil_append, List.append_nil, List.getElem?_cons_zero, List.getElem?_cons_succ, List.set_cons_zero, List.set_cons_succ, List.length_cons, List.length_nil, Nat.reduceAdd, Nat.reduceLT, Nat.zero_add, Nat.lt_add_one, if_true, if_false, ite_true, ite_false, decide_eq_true_eq, Bool.false_eq_true, reduceCtorEq, reduceIte, Nat.reduceLeDiff, Nat.reduceEqDiff, rg_of (show n ≤ 1000000 by omega), Int.toNat_natCast]) (by simp; omega) (by cases o9 <;> cases o10 <;> simp [okE])
        fun i hi => ⟨[some (.lst false (nums.map .int)), some (.int first), some (.int n), some (.int most), some (.int top), some (.dct true ks (ks.map fun k => fr (F k))), some (.int cnt), some (.int y), some (.int z), o9.map keyD, o10.map .int, some (.int i)], [some (.lst false (nums.map .int)), some (.int first), some (.int n), some (.int most), some (.int top), some (.dct true ks (ks.map fun k => fr (F k))), some (.int cnt), some (.int y), some (.int z), o9.map keyD, o10.map .int, some (.int i)], by simp only [val_fnF, zsF_eq, fzAt, D.fz, wpE, mgE, List.contains_cons, List.contains_nil, Nat.reduceBEq, Bool.or_false, Bool.or_true, Bool.false_or, Bool.true_or, seqF_eq, andThen_nx, andThen_bk, andThen_ct, andThen_rt, retV_rt, retV_nx, nxF, bkF, ctF, rtF, rnF, rmF, stF, exF, put, parF, agF, ifS, forF_eq, flF_nil, flF_cons, flK_nx, flK_ct, flK_bk, flK_rt, tbF, ttF, andF, orF, notF, andV, orV, ifF, chF, b1, b2, bN, clF_val, aNil, aCons, nmF, ownF, cF, fzF, itF, inF, itOf, rng1, rng2, yesF, dTru, dNot, I.isi_non_tuple, I.isi_non_list, I.isi_non_bool, I.isi_non_int, I.isi_non_str, I.isi_bl_tuple, I.isi_bl_list, I.isi_bl_bool, I.isi_bl_int, I.isi_bl_str, I.isi_int_tuple, I.isi_int_list, I.isi_int_bool, I.isi_int_int, I.isi_int_str, I.isi_str_tuple, I.isi_str_list, I.isi_str_bool, I.isi_str_int, I.isi_str_str, I.isi_tup_tuple, I.isi_tup_list, I.isi_tup_bool, I.isi_tup_int, I.isi_tup_str, I.isi_lst_tuple, I.isi_lst_list, I.isi_lst_bool, I.isi_lst_int, I.isi_lst_str, I.isi_scr_tuple, I.isi_scr_list, I.isi_scr_bool, I.isi_scr_int, I.isi_scr_str, dEq_bl, dNe_bl, dIsN_non, dIsN_bl, dIsN_int, dIsN_str, dIsN_tup, dIsN_lst, dAdd_int, dSub_int, dEq_int, dNe_int, dLt_int, dLe_int, dGt_int, dGe_int, dAddI_int, asB_bl, dIx_tup0, dIx_tup1, fLen, fAbs, fInt, fMax2, fMin2, gTupF, gsCons, gsNil, D.pure, D.pures, Bool.not_true, Bool.not_false, Bool.and_true, Bool.true_and, Bool.and_false, Bool.false_and, Option.bind_some, Option.bind_none, Option.map_some, Option.map_none, bind_ite, map_ite, List.map_cons, List.map_nil, List.replicate, List.cons_append, List.nil_append, List.append_nil, List.getElem?_cons_zero, List.getElem?_cons_succ, List.set_cons_zero, List.set_cons_succ, List.length_cons, List.length_nil, Nat.reduceAdd, Nat.reduceLT, Nat.zero_add, Nat.lt_add_one, if_true, if_false, ite_true, ite_false, decide_eq_true_eq, Bool.false_eq_true, reduceCtorEq, reduceIte, Nat.reduceLeDiff, Nat.reduceEqDiff], by
          have hi : i < n := by simpa using hi
          have pi : (0 : Int) < 1 + 5 * (i : Int) * i ∧ 1 + 5 * (i : Int) * i < 100000 := by
            have : i = 0 ∨ i = 1 ∨ i = 2 := by omega
            rcases this with rfl | rfl | rfl <;> decide
          simp only [E__law_ordinary_1, val_fnF, zsF_eq, fzAt, D.fz, wpE, mgE, List.contains_cons, List.contains_nil, Nat.reduceBEq, Bool.or_false, Bool.or_true, Bool.false_or, Bool.true_or, seqF_eq, andThen_nx, andThen_bk, andThen_ct, andThen_rt, retV_rt, retV_nx, nxF, bkF, ctF, rtF, rnF, rmF, stF, exF, put, parF, agF, ifS, forF_eq, flF_nil, flF_cons, flK_nx, flK_ct, flK_bk, flK_rt, tbF, ttF, andF, orF, notF, andV, orV, ifF, chF, b1, b2, bN, clF_val, aNil, aCons, nmF, ownF, cF, fzF, itF, inF, itOf, rng1, rng2, yesF, dTru, dNot, I.isi_non_tuple, I.isi_non_list, I.isi_non_bool, I.isi_non_int, I.isi_non_str, I.isi_bl_tuple, I.isi_bl_list, I.isi_bl_bool, I.isi_bl_int, I.isi_bl_str, I.isi_int_tuple, I.isi_int_list, I.isi_int_bool, I.isi_int_int, I.isi_int_str, I.isi_str_tuple, I.isi_str_list, I.isi_str_bool, I.isi_str_int, I.isi_str_str, I.isi_tup_tuple, I.isi_tup_list, I.isi_tup_bool, I.isi_tup_int, I.isi_tup_str, I.isi_lst_tuple, I.isi_lst_list, I.isi_lst_bool, I.isi_lst_int, I.isi_lst_str, I.isi_scr_tuple, I.isi_scr_list, I.isi_scr_bool, I.isi_scr_int, I.isi_scr_str, dEq_bl, dNe_bl, dIsN_non, dIsN_bl, dIsN_int, dIsN_str, dIsN_tup, dIsN_lst, dAdd_int, dSub_int, dEq_int, dNe_int, dLt_int, dLe_int, dGt_int, dGe_int, dAddI_int, asB_bl, dIx_tup0, dIx_tup1, fLen, fAbs, fInt, fMax2, fMin2, gTupF, gsCons, gsNil, D.pure, D.pures, Bool.not_true, Bool.not_false, Bool.and_true, Bool.true_and, Bool.and_false, Bool.false_and, Option.bind_some, Option.bind_none, Option.map_some, Option.map_none, bind_ite, map_ite, List.map_cons, List.map_nil, List.replicate, List.cons_append, List.nil_append, List.append_nil, List.getElem?_cons_zero, List.getElem?_cons_succ, List.set_cons_zero, List.set_cons_succ, List.length_cons, List.length_nil, Nat.reduceAdd, Nat.reduceLT, Nat.zero_add, Nat.lt_add_one, if_true, if_false, ite_true, ite_false, decide_eq_true_eq, Bool.false_eq_true, reduceCtorEq, reduceIte, Nat.reduceLeDiff, Nat.reduceEqDiff, dMul, mulOk_r (show (i : Int).natAbs < 2 ^ 64 by simp; omega), dDiv_pos pi.1 (dv _ pi.1 pi.2), dMod_pos (show (0 : Int) < (top : Int) + 1 by omega)], by simp only [val_fnF, zsF_eq, fzAt, D.fz, wpE, mgE, List.contains_cons, List.contains_nil, Nat.reduceBEq, Bool.or_false, Bool.or_true, Bool.false_or, Bool.true_or, seqF_eq, andThen_nx, andThen_bk, andThen_ct, andThen_rt, retV_rt, retV_nx, nxF, bkF, ctF, rtF, rnF, rmF, stF, exF, put, parF, agF, ifS, forF_eq, flF_nil, flF_cons, flK_nx, flK_ct, flK_bk, flK_rt, tbF, ttF, andF, orF, notF, andV, orV, ifF, chF, b1, b2, bN, clF_val, aNil, aCons, nmF, ownF, cF, fzF, itF, inF, itOf, rng1, rng2, yesF, dTru, dNot, I.isi_non_tuple, I.isi_non_list, I.isi_non_bool, I.isi_non_int, I.isi_non_str, I.isi_bl_tuple, I.isi_bl_list, I.isi_bl_bool, I.isi_bl_int, I.isi_bl_str, I.isi_int_tuple, I.isi_int_list, I.isi_int_bool, I.isi_int_int, I.isi_int_str, I.isi_str_tuple, I.isi_str_list, I.isi_str_bool, I.isi_str_int, I.isi_str_str, I.isi_tup_tuple, I.isi_tup_list, I.isi_tup_bool, I.isi_tup_int, I.isi_tup_str, I.isi_lst_tuple, I.isi_lst_list, I.isi_lst_bool, I.isi_lst_int, I.isi_lst_str, I.isi_scr_tuple, I.isi_scr_list, I.isi_scr_bool, I.isi_scr_int, I.isi_scr_str, dEq_bl, dNe_bl, dIsN_non, dIsN_bl, dIsN_int, dIsN_str, dIsN_tup, dIsN_lst, dAdd_int, dSub_int, dEq_int, dNe_int, dLt_int, dLe_int, dGt_int, dGe_int, dAddI_int, asB_bl, dIx_tup0, dIx_tup1, fLen, fAbs, fInt, fMax2, fMin2, gTupF, gsCons, gsNil, D.pure, D.pures, Bool.not_true, Bool.not_false, Bool.and_true, Bool.true_and, Bool.and_false, Bool.false_and, Option.bind_some, Option.bind_none, Option.map_some, Option.map_none, bind_ite, map_ite, List.map_cons, List.map_nil, List.replicate, List.cons_append, List.nil_append, List.append_nil, List.getElem?_cons_zero, List.getElem?_cons_succ, List.set_cons_zero, List.set_cons_succ, List.length_cons, List.length_nil, Nat.reduceAdd, Nat.reduceLT, Nat.zero_add, Nat.lt_add_one, if_true, if_false, ite_true, ite_false, decide_eq_true_eq, Bool.false_eq_true, reduceCtorEq, reduceIte, Nat.reduceLeDiff, Nat.reduceEqDiff]⟩
      have ey : (List.range n).map (fun i : Nat => D.int (z / (1 + 5 * (i : Int) * i) % ((top : Int) + 1))) = (exps n z top).map .int := by simp [exps]
      rw [ey] at ee
      simp only [mgE, wpE, val_fnF, zsF_eq, fzAt, D.fz, wpE, mgE, List.contains_cons, List.contains_nil, Nat.reduceBEq, Bool.or_false, Bool.or_true, Bool.false_or, Bool.true_or, seqF_eq, andThen_nx, andThen_bk, andThen_ct, andThen_rt, retV_rt, retV_nx, nxF, bkF, ctF, rtF, rnF, rmF, stF, exF, put, parF, agF, ifS, forF_eq, flF_nil, flF_cons, flK_nx, flK_ct, flK_bk, flK_rt, tbF, ttF, andF, orF, notF, andV, orV, ifF, chF, b1, b2, bN, clF_val, aNil, aCons, nmF, ownF, cF, fzF, itF, inF, itOf, rng1, rng2, yesF, dTru, dNot, I.isi_non_tuple, I.isi_non_list, I.isi_non_bool, I.isi_non_int, I.isi_non_str, I.isi_bl_tuple, I.isi_bl_list, I.isi_bl_bool, I.isi_bl_int, I.isi_bl_str, I.isi_int_tuple, I.isi_int_list, I.isi_int_bool, I.isi_int_int, I.isi_int_str, I.isi_str_tuple, I.isi_str_list, I.isi_str_bool, I.isi_str_int, I.isi_str_str, I.isi_tup_tuple, I.isi_tup_list, I.isi_tup_bool, I.isi_tup_int, I.isi_tup_str, I.isi_lst_tuple, I.isi_lst_list, I.isi_lst_bool, I.isi_lst_int, I.isi_lst_str, I.isi_scr_tuple, I.isi_scr_list, I.isi_scr_bool, I.isi_scr_int, I.isi_scr_str, dEq_bl, dNe_bl, dIsN_non, dIsN_bl, dIsN_int, dIsN_str, dIsN_tup, dIsN_lst, dAdd_int, dSub_int, dEq_int, dNe_int, dLt_int, dLe_int, dGt_int, dGe_int, dAddI_int, asB_bl, dIx_tup0, dIx_tup1, fLen, fAbs, fInt, fMax2, fMin2, gTupF, gsCons, gsNil, D.pure, D.pures, Bool.not_true, Bool.not_false, Bool.and_true, Bool.true_and, Bool.and_false, Bool.false_and, Option.bind_some, Option.bind_none, Option.map_some, Option.map_none, bind_ite, map_ite, List.map_cons, List.map_nil, List.replicate, List.cons_append, List.nil_append, List.append_nil, List.getElem?_cons_zero, List.getElem?_cons_succ, List.set_cons_zero, List.set_cons_succ, List.length_cons, List.length_nil, Nat.reduceAdd, Nat.reduceLT, Nat.zero_add, Nat.lt_add_one, if_true, if_false, ite_true, ite_false, decide_eq_true_eq, Bool.false_eq_true, reduceCtorEq, reduceIte, Nat.reduceLeDiff, Nat.reduceEqDiff] at ee
      have ft : fTuple [.lst true ((exps n z top).map .int)] = some (keyD (exps n z top)) := by
        simp only [fTuple, keyD]; rw [if_pos (pures_ints _)]
      obtain ⟨a, ha, ea⟩ := ix_ints (o := true) (l := la) (m := 10) (z := z / 7) (by omega) rfl
      obtain ⟨b, hb, eb⟩ := ix_ints (o := true) (l := lb) (m := 5) (z := z / 70) (by omega) rfl
      obtain ⟨c, hc, ec⟩ := ix_ints (o := true) (l := lc) (m := 5) (z := z / 350) (by omega) rfl
      obtain ⟨cf, cc⟩ := cf_of ha hb hc
      have b64 : b.natAbs < 2 ^ 64 := by
        simp only [lb, List.mem_cons, List.not_mem_nil, or_false] at hb
        rcases hb with h | h | h | h | h <;> subst h <;> decide
      have ab : dMul (.int a) (.int b) = some (.int (a * b)) := dMul_int (mulOk_r b64)
      have dla : dLst [.int 1, .int (-1), .int 2, .int 3, .int (-4), .int 6, .int 9, .int (-12), .int 25, .int 8] = some (.lst true (la.map .int)) := dLst_le (by simp)
      have dlb : dLst [.int 1, .int 1, .int 1, .int 27, .int 49] = some (.lst true (lb.map .int)) := dLst_le (by simp)
      have dlc : dLst [.int 1, .int 1, .int 2, .int 3, .int 8] = some (.lst true (lc.map .int)) := dLst_le (by simp)
      have kp := kput_fun (i := 5) (env := [some (.lst false (nums.map .int)), some (.int first), some (.int n), some (.int most), some (.int top), some (.dct true ks (ks.map fun k => fr (F k))), some (.int cnt), some (.int y), some (.int z), some (keyD (exps n z top)), some (.int (a * b)), none]) (F := fun k => fr (F k)) (e := exps n z top) (v := fr (Rat.divInt (a * b) c)) rfl (pure_fr _) (by omega)
      have ef : ((if exps n z top ∈ ks then ks else ks ++ [exps n z top]).map fun k => if k = exps n z top then fr (Rat.divInt (a * b) c) else fr (F k)) = (if exps n z top ∈ ks then ks else ks ++ [exps n z top]).map fun k => fr (if k = exps n z top then Rat.divInt (a * b) c else F k) := List.map_congr_left fun k _ => by split <;> rfl
      rw [ef] at kp
      simp only [List.set_cons_succ, List.set_cons_zero] at kp
      refine ⟨_, ?_, if exps n z top ∈ ks then ks else ks ++ [exps n z top], fun k => if k = exps n z top then Rat.divInt (a * b) c else F k, some y, some z, some (exps n z top), some (a * b), rfl, ?_, fun k hk2 => ?_, ?_⟩
      · simp only [L__law_ordinary_2, val_fnF, zsF_eq, fzAt, D.fz, wpE, mgE, List.contains_cons, List.contains_nil, Nat.reduceBEq, Bool.or_false, Bool.or_true, Bool.false_or, Bool.true_or, seqF_eq, andThen_nx, andThen_bk, andThen_ct, andThen_rt, retV_rt, retV_nx, nxF, bkF, ctF, rtF, rnF, rmF, stF, exF, put, parF, agF, ifS, forF_eq, flF_nil, flF_cons, flK_nx, flK_ct, flK_bk, flK_rt, tbF, ttF, andF, orF, notF, andV, orV, ifF, chF, b1, b2, bN, clF_val, aNil, aCons, nmF, ownF, cF, fzF, itF, inF, itOf, rng1, rng2, yesF, dTru, dNot, I.isi_non_tuple, I.isi_non_list, I.isi_non_bool, I.isi_non_int, I.isi_non_str, I.isi_bl_tuple, I.isi_bl_list, I.isi_bl_bool, I.isi_bl_int, I.isi_bl_str, I.isi_int_tuple, I.isi_int_list, I.isi_int_bool, I.isi_int_int, I.isi_int_str, I.isi_str_tuple, I.isi_str_list, I.isi_str_bool, I.isi_str_int, I.isi_str_str, I.isi_tup_tuple, I.isi_tup_list, I.isi_tup_bool, I.isi_tup_int, I.isi_tup_str, I.isi_lst_tuple, I.isi_lst_list, I.isi_lst_bool, I.isi_lst_int, I.isi_lst_str, I.isi_scr_tuple, I.isi_scr_list, I.isi_scr_bool, I.isi_scr_int, I.isi_scr_str, dEq_bl, dNe_bl, dIsN_non, dIsN_bl, dIsN_int, dIsN_str, dIsN_tup, dIsN_lst, dAdd_int, dSub_int, dEq_int, dNe_int, dLt_int, dLe_int, dGt_int, dGe_int, dAddI_int, asB_bl, dIx_tup0, dIx_tup1, fLen, fAbs, fInt, fMax2, fMin2, gTupF, gsCons, gsNil, D.pure, D.pures, Bool.not_true, Bool.not_false, Bool.and_true, Bool.true_and, Bool.and_false, Bool.false_and, Option.bind_some, Option.bind_none, Option.map_some, Option.map_none, bind_ite, map_ite, List.map_cons, List.map_nil, List.replicate, List.cons_append, List.nil_append, List.append_nil, List.getElem?_cons_zero, List.getElem?_cons_succ, List.set_cons_zero, List.set_cons_succ, List.length_cons, List.length_nil, Nat.reduceAdd, Nat.reduceLT, Nat.zero_add, Nat.lt_add_one, if_true, if_false, ite_true, ite_false, decide_eq_true_eq, Bool.false_eq_true, reduceCtorEq, reduceIte, Nat.reduceLeDiff, Nat.reduceEqDiff, lm, me, hz, ee, ft, dNeg, dla, dlb, dlc, dDiv_pos (show (0 : Int) < 7 by decide) (dv 7 (by decide) (by decide)), dDiv_pos (show (0 : Int) < 70 by decide) (dv 70 (by decide) (by decide)), dDiv_pos (show (0 : Int) < 350 by decide) (dv 350 (by decide) (by decide)), dMod_pos (show (0 : Int) < 10 by decide), dMod_pos (show (0 : Int) < 5 by decide), ea, eb, ec, ab, kpF, isK, cf, pure_key, kp]
      · split
        · omega
        · simp; omega
      · by_cases h : k = exps n z top
        · subst h; simp only [if_true]; exact ⟨exps_ok, cc⟩
        · have : k ∈ ks := by
            split at hk2
            · exact hk2
            · rcases List.mem_append.mp hk2 with w | w
              · exact w
              · exact absurd (List.mem_singleton.mp w) h
          simp only [h, if_false]; exact hk k this
      · split
        · exact hnd
        · rename_i hh
          rw [List.nodup_append]
          refine ⟨hnd, by simp, fun a ha b hb e => ?_⟩
          rw [List.mem_singleton.mp hb] at e
          subst e; exact hh ha
  have hkl : ks.length ≤ cnt := by simpa using hkl
  have so : fSorted [.dct true ks (ks.map fun k => fr (F k))] = some (.lst true ((srtL ks).map keyD)) := by
    simp only [fSorted, evenK_of n1 fun k hk' => (hk k hk').1.1, if_true]
  have sl := (srtL_perm ks).length_eq
  have e2 := lcF_map (vs := [9]) (FI := itF (bN fSorted (aCons (nmF 5) aNil))) (FT := put 9) (FE := E__law_ordinary_3) (env := [some (.lst false (nums.map .int)), some (.int first), some (.int n), some (.int most), some (.int top), some (.dct true ks (ks.map fun k => fr (F k))), some (.int cnt), o7.map .int, o8.map .int, o9.map keyD, o10.map .int, none])
    (env' := [some (.lst false (nums.map .int)), some (.int first), some (.int n), some (.int most), some (.int top), some (.dct true ks (ks.map fun k => fr (F k))), some (.int cnt), o7.map .int, o8.map .int, o9.map keyD, o10.map .int, none])
    keyD (fun k => termD (k, F k)) (srtL ks) (by simp only [val_fnF, zsF_eq, fzAt, D.fz, wpE, mgE, List.contains_cons, List.contains_nil, Nat.reduceBEq, Bool.or_false, Bool.or_true, Bool.false_or, Bool.true_or, seqF_eq, andThen_nx, andThen_bk, andThen_ct, andThen_rt, retV_rt, retV_nx, nxF, bkF, ctF, rtF, rnF, rmF, stF, exF, put, parF, agF, ifS, forF_eq, flF_nil, flF_cons, flK_nx, flK_ct, flK_bk, flK_rt, tbF, ttF, andF, orF, notF, andV, orV, ifF, chF, b1, b2, bN, clF_val, aNil, aCons, nmF, ownF, cF, fzF, itF, inF, itOf, rng1, rng2, yesF, dTru, dNot, I.isi_non_tuple, I.isi_non_list, I.isi_non_bool, I.isi_non_int, I.isi_non_str, I.isi_bl_tuple, I.isi_bl_list, I.isi_bl_bool, I.isi_bl_int, I.isi_bl_str, I.isi_int_tuple, I.isi_int_list, I.isi_int_bool, I.isi_int_int, I.isi_int_str, I.isi_str_tuple, I.isi_str_list, I.isi_str_bool, I.isi_str_int, I.isi_str_str, I.isi_tup_tuple, I.isi_tup_list, I.isi_tup_bool, I.isi_tup_int, I.isi_tup_str, I.isi_lst_tuple, I.isi_lst_list, I.isi_lst_bool, I.isi_lst_int, I.isi_lst_str, I.isi_scr_tuple, I.isi_scr_list, I.isi_scr_bool, I.isi_scr_int, I.isi_scr_str, dEq_bl, dNe_bl, dIsN_non, dIsN_bl, dIsN_int, dIsN_str, dIsN_tup, dIsN_lst, dAdd_int, dSub_int, dEq_int, dNe_int, dLt_int, dLe_int, dGt_int, dGe_int, dAddI_int, asB_bl, dIx_tup0, dIx_tup1, fLen, fAbs, fInt, fMax2, fMin2, gTupF, gsCons, gsNil, D.pure, D.pures, Bool.not_true, Bool.not_false, Bool.and_true, Bool.true_and, Bool.and_false, Bool.false_and, Option.bind_some, Option.bind_none, Option.map_some, Option.map_none, bind_ite, map_ite, List.map_cons, List.map_nil, List.replicate, List.cons_append, List.nil_append, List.append_nil, List.getElem?_cons_zero, List.getElem?_cons_succ, List.set_cons_zero, List.set_cons_succ, List.length_cons, List.length_nil, Nat.reduceAdd, Nat.reduceLT, Nat.zero_add, Nat.lt_add_one, if_true, if_false, ite_true, ite_false, decide_eq_true_eq, Bool.false_eq_true, reduceCtorEq, reduceIte, Nat.reduceLeDiff, Nat.reduceEqDiff, so, fzs_keys]) (by omega) (by cases o7 <;> cases o8 <;> cases o9 <;> cases o10 <;> simp [okE, pure_key])
    fun k hk' => ⟨[some (.lst false (nums.map .int)), some (.int first), some (.int n), some (.int most), some (.int top), some (.dct true ks (ks.map fun k => fr (F k))), some (.int cnt), o7.map .int, o8.map .int, some (keyD k), o10.map .int, none], [some (.lst false (nums.map .int)), some (.int first), some (.int n), some (.int most), some (.int top), some (.dct true ks (ks.map fun k => fr (F k))), some (.int cnt), o7.map .int, o8.map .int, some (keyD k), o10.map .int, none], by simp only [val_fnF, zsF_eq, fzAt, D.fz, wpE, mgE, List.contains_cons, List.contains_nil, Nat.reduceBEq, Bool.or_false, Bool.or_true, Bool.false_or, Bool.true_or, seqF_eq, andThen_nx, andThen_bk, andThen_ct, andThen_rt, retV_rt, retV_nx, nxF, bkF, ctF, rtF, rnF, rmF, stF, exF, put, parF, agF, ifS, forF_eq, flF_nil, flF_cons, flK_nx, flK_ct, flK_bk, flK_rt, tbF, ttF, andF, orF, notF, andV, orV, ifF, chF, b1, b2, bN, clF_val, aNil, aCons, nmF, ownF, cF, fzF, itF, inF, itOf, rng1, rng2, yesF, dTru, dNot, I.isi_non_tuple, I.isi_non_list, I.isi_non_bool, I.isi_non_int, I.isi_non_str, I.isi_bl_tuple, I.isi_bl_list, I.isi_bl_bool, I.isi_bl_int, I.isi_bl_str, I.isi_int_tuple, I.isi_int_list, I.isi_int_bool, I.isi_int_int, I.isi_int_str, I.isi_str_tuple, I.isi_str_list, I.isi_str_bool, I.isi_str_int, I.isi_str_str, I.isi_tup_tuple, I.isi_tup_list, I.isi_tup_bool, I.isi_tup_int, I.isi_tup_str, I.isi_lst_tuple, I.isi_lst_list, I.isi_lst_bool, I.isi_lst_int, I.isi_lst_str, I.isi_scr_tuple, I.isi_scr_list, I.isi_scr_bool, I.isi_scr_int, I.isi_scr_str, dEq_bl, dNe_bl, dIsN_non, dIsN_bl, dIsN_int, dIsN_str, dIsN_tup, dIsN_lst, dAdd_int, dSub_int, dEq_int, dNe_int, dLt_int, dLe_int, dGt_int, dGe_int, dAddI_int, asB_bl, dIx_tup0, dIx_tup1, fLen, fAbs, fInt, fMax2, fMin2, gTupF, gsCons, gsNil, D.pure, D.pures, Bool.not_true, Bool.not_false, Bool.and_true, Bool.true_and, Bool.and_false, Bool.false_and, Option.bind_some, Option.bind_none, Option.map_some, Option.map_none, bind_ite, map_ite, List.map_cons, List.map_nil, List.replicate, List.cons_append, List.nil_append, List.append_nil, List.getElem?_cons_zero, List.getElem?_cons_succ, List.set_cons_zero, List.set_cons_succ, List.length_cons, List.length_nil, Nat.reduceAdd, Nat.reduceLT, Nat.zero_add, Nat.lt_add_one, if_true, if_false, ite_true, ite_false, decide_eq_true_eq, Bool.false_eq_true, reduceCtorEq, reduceIte, Nat.reduceLeDiff, Nat.reduceEqDiff], by
      have lk : dKx (.dct true ks (ks.map fun k => fr (F k))) (keyD k) = some (fr (F k)) := by
        simp only [dKx, keyOf_keyD, Option.bind_some, lookD_map, if_pos (srtL_mem.mp hk')]
      have t2 : ∀ a b : D, dTup [a, b] = some (.tup [a, b]) := fun _ _ => dTup_le (by show 2 ≤ 16777216; omega)
      simp only [E__law_ordinary_3, val_fnF, zsF_eq, fzAt, D.fz, wpE, mgE, List.contains_cons, List.contains_nil, Nat.reduceBEq, Bool.or_false, Bool.or_true, Bool.false_or, Bool.true_or, seqF_eq, andThen_nx, andThen_bk, andThen_ct, andThen_rt, retV_rt, retV_nx, nxF, bkF, ctF, rtF, rnF, rmF, stF, exF, put, parF, agF, ifS, forF_eq, flF_nil, flF_cons, flK_nx, flK_ct, flK_bk, flK_rt, tbF, ttF, andF, orF, notF, andV, orV, ifF, chF, b1, b2, bN, clF_val, aNil, aCons, nmF, ownF, cF, fzF, itF, inF, itOf, rng1, rng2, yesF, dTru, dNot, I.isi_non_tuple, I.isi_non_list, I.isi_non_bool, I.isi_non_int, I.isi_non_str, I.isi_bl_tuple, I.isi_bl_list, I.isi_bl_bool, I.isi_bl_int, I.isi_bl_str, I.isi_int_tuple, I.isi_int_list, I.isi_int_bool, I.isi_int_int, I.isi_int_str, I.isi_str_tuple, I.isi_str_list, I.isi_str_bool, I.isi_str_int, I.isi_str_str, I.isi_tup_tuple, I.isi_tup_list, I.isi_tup_bool, I.isi_tup_int, I.isi_tup_str, I.isi_lst_tuple, I.isi_lst_list, I.isi_lst_bool, I.isi_lst_int, I.isi_lst_str, I.isi_scr_tuple, I.isi_scr_list, I.isi_scr_bool, I.isi_scr_int, I.isi_scr_str, dEq_bl, dNe_bl, dIsN_non, dIsN_bl, dIsN_int, dIsN_str, dIsN_tup, dIsN_lst, dAdd_int, dSub_int, dEq_int, dNe_int, dLt_int, dLe_int, dGt_int, dGe_int, dAddI_int, asB_bl, dIx_tup0, dIx_tup1, fLen, fAbs, fInt, fMax2, fMin2, gTupF, gsCons, gsNil, D.pure, D.pures, Bool.not_true, Bool.not_false, Bool.and_true, Bool.true_and, Bool.and_false, Bool.false_and, Option.bind_some, Option.bind_none, Option.map_some, Option.map_none, bind_ite, map_ite, List.map_cons, List.map_nil, List.replicate, List.cons_append, List.nil_append, List.append_nil, List.getElem?_cons_zero, List.getElem?_cons_succ, List.set_cons_zero, List.set_cons_succ, List.length_cons, List.length_nil, Nat.reduceAdd, Nat.reduceLT, Nat.zero_add, Nat.lt_add_one, if_true, if_false, ite_true, ite_false, decide_eq_true_eq, Bool.false_eq_true, reduceCtorEq, reduceIte, Nat.reduceLeDiff, Nat.reduceEqDiff, lk, pure_key, t2, termD], by simp only [val_fnF, zsF_eq, fzAt, D.fz, wpE, mgE, List.contains_cons, List.contains_nil, Nat.reduceBEq, Bool.or_false, Bool.or_true, Bool.false_or, Bool.true_or, seqF_eq, andThen_nx, andThen_bk, andThen_ct, andThen_rt, retV_rt, retV_nx, nxF, bkF, ctF, rtF, rnF, rmF, stF, exF, put, parF, agF, ifS, forF_eq, flF_nil, flF_cons, flK_nx, flK_ct, flK_bk, flK_rt, tbF, ttF, andF, orF, notF, andV, orV, ifF, chF, b1, b2, bN, clF_val, aNil, aCons, nmF, ownF, cF, fzF, itF, inF, itOf, rng1, rng2, yesF, dTru, dNot, I.isi_non_tuple, I.isi_non_list, I.isi_non_bool, I.isi_non_int, I.isi_non_str, I.isi_bl_tuple, I.isi_bl_list, I.isi_bl_bool, I.isi_bl_int, I.isi_bl_str, I.isi_int_tuple, I.isi_int_list, I.isi_int_bool, I.isi_int_int, I.isi_int_str, I.isi_str_tuple, I.isi_str_list, I.isi_str_bool, I.isi_str_int, I.isi_str_str, I.isi_tup_tuple, I.isi_tup_list, I.isi_tup_bool, I.isi_tup_int, I.isi_tup_str, I.isi_lst_tuple, I.isi_lst_list, I.isi_lst_bool, I.isi_lst_int, I.isi_lst_str, I.isi_scr_tuple, I.isi_scr_list, I.isi_scr_bool, I.isi_scr_int, I.isi_scr_str, dEq_bl, dNe_bl, dIsN_non, dIsN_bl, dIsN_int, dIsN_str, dIsN_tup, dIsN_lst, dAdd_int, dSub_int, dEq_int, dNe_int, dLt_int, dLe_int, dGt_int, dGe_int, dAddI_int, asB_bl, dIx_tup0, dIx_tup1, fLen, fAbs, fInt, fMax2, fMin2, gTupF, gsCons, gsNil, D.pure, D.pures, Bool.not_true, Bool.not_false, Bool.and_true, Bool.true_and, Bool.and_false, Bool.false_and, Option.bind_some, Option.bind_none, Option.map_some, Option.map_none, bind_ite, map_ite, List.map_cons, List.map_nil, List.replicate, List.cons_append, List.nil_append, List.append_nil, List.getElem?_cons_zero, List.getElem?_cons_succ, List.set_cons_zero, List.set_cons_succ, List.length_cons, List.length_nil, Nat.reduceAdd, Nat.reduceLT, Nat.zero_add, Nat.lt_add_one, if_true, if_false, ite_true, ite_false, decide_eq_true_eq, Bool.false_eq_true, reduceCtorEq, reduceIte, Nat.reduceLeDiff, Nat.reduceEqDiff]⟩
  have em : (srtL ks).map (fun k => termD (k, F k)) = ((srtL ks).map fun k => ((k, F k) : Row)).map termD := by simp
  rw [em] at e2
  have ft : fTuple [.lst true (((srtL ks).map fun k => ((k, F k) : Row)).map termD)] = some (polyD ((srtL ks).map fun k => (k, F k))) := by
    simp only [fTuple, polyD]; rw [if_pos (pures_terms _)]
  refine ⟨(srtL ks).map fun k => (k, F k), ?_, by simp; omega, fun t ht' => ?_, ?_, ?_⟩
  · have me := dMod_pos (i := (first : Int)) (show (0 : Int) < (nums.length : Int) by omega)
    have mc := dMod_pos (i := c0) (show (0 : Int) < (most : Int) + 1 by omega)
    simp only [F__law_ordinary, val_fnF, zsF_eq, fzAt, D.fz, wpE, mgE, List.contains_cons, List.contains_nil, Nat.reduceBEq, Bool.or_false, Bool.or_true, Bool.false_or, Bool.true_or, seqF_eq, andThen_nx, andThen_bk, andThen_ct, andThen_rt, retV_rt, retV_nx, nxF, bkF, ctF, rtF, rnF, rmF, stF, exF, put, parF, agF, ifS, forF_eq, flF_nil, flF_cons, flK_nx, flK_ct, flK_bk, flK_rt, tbF, ttF, andF, orF, notF, andV, orV, ifF, chF, b1, b2, bN, clF_val, aNil, aCons, nmF, ownF, cF, fzF, itF, inF, itOf, rng1, rng2, yesF, dTru, dNot, I.isi_non_tuple, I.isi_non_list, I.isi_non_bool, I.isi_non_int, I.isi_non_str, I.isi_bl_tuple, I.isi_bl_list, I.isi_bl_bool, I.isi_bl_int, I.isi_bl_str, I.isi_int_tuple, I.isi_int_list, I.isi_int_bool, I.isi_int_int, I.isi_int_str, I.isi_str_tuple, I.isi_str_list, I.isi_str_bool, I.isi_str_int, I.isi_str_str, I.isi_tup_tuple, I.isi_tup_list, I.isi_tup_bool, I.isi_tup_int, I.isi_tup_str, I.isi_lst_tuple, I.isi_lst_list, I.isi_lst_bool, I.isi_lst_int, I.isi_lst_str, I.isi_scr_tuple, I.isi_scr_list, I.isi_scr_bool, I.isi_scr_int, I.isi_scr_str, dEq_bl, dNe_bl, dIsN_non, dIsN_bl, dIsN_int, dIsN_str, dIsN_tup, dIsN_lst, dAdd_int, dSub_int, dEq_int, dNe_int, dLt_int, dLe_int, dGt_int, dGe_int, dAddI_int, asB_bl, dIx_tup0, dIx_tup1, fLen, fAbs, fInt, fMax2, fMin2, gTupF, gsCons, gsNil, D.pure, D.pures, Bool.not_true, Bool.not_false, Bool.and_true, Bool.true_and, Bool.and_false, Bool.false_and, Option.bind_some, Option.bind_none, Option.map_some, Option.map_none, bind_ite, map_ite, List.map_cons, List.map_nil, List.replicate, List.cons_append, List.nil_append, List.append_nil, List.getElem?_cons_zero, List.getElem?_cons_succ, List.set_cons_zero, List.set_cons_succ, List.length_cons, List.length_nil, Nat.reduceAdd, Nat.reduceLT, Nat.zero_add, Nat.lt_add_one, if_true, if_false, ite_true, ite_false, decide_eq_true_eq, Bool.false_eq_true, reduceCtorEq, reduceIte, Nat.reduceLeDiff, Nat.reduceEqDiff, lm, me, hc0, mc, hcnt, rg_of (show cnt ≤ 1000000 by omega), Int.toNat_natCast, h1, e2, ft]
  · obtain ⟨k, hk', rfl⟩ := List.mem_map.mp ht'
    exact hk k (srtL_mem.mp hk')
  · rw [List.map_map]
    show ((srtL ks).map id).Nodup
    rw [List.map_id]
    exact (srtL_perm ks).nodup_iff.mpr hnd
  · rw [List.map_map]
    show ((srtL ks).map id).Pairwise _
    rw [List.map_id]
    exact srtL_sorted ks
end
end G46

set_option Elab.async false
set_option linter.all false
set_option maxRecDepth 100000
set_option maxHeartbeats 1000000
namespace G46
open PySem L2 Pz
noncomputable section
/-! absolute values; great terms -/
def rab (q : Rat) : Rat := if q < 0 then -q else q
theorem num_lt0 (q : Rat) : q < 0 ↔ q.num < 0 := by rw [← Rat.not_le, ← Rat.num_nonneg]; omega
theorem rab_num (q : Rat) : (rab q).num = (if q.num < 0 then -q.num else q.num) ∧ (rab q).den = q.den := by
  unfold rab
  by_cases h : q < 0
  · rw [if_pos h, if_pos ((num_lt0 q).mp h)]; exact ⟨Rat.neg_num .., Rat.neg_den ..⟩
  · rw [if_neg h, if_neg fun z => h ((num_lt0 q).mpr z)]; exact ⟨rfl, rfl⟩
theorem rab_fr (q : Rat) : D.tup [.int (if q.num < 0 then -q.num else q.num), .int q.den] = fr (rab q) := by
  rw [fr_def, (rab_num q).1, (rab_num q).2]
theorem rab_nn (q : Rat) : 0 ≤ rab q := by unfold rab; split <;> grind
theorem rab_neg (q : Rat) : rab (-q) = rab q := by unfold rab; split <;> split <;> grind
theorem rab_or (q : Rat) : (rab q = q ∧ 0 ≤ q) ∨ (rab q = -q ∧ q ≤ 0) := by unfold rab; split <;> grind
theorem rab_add (a b : Rat) : rab (a + b) ≤ rab a + rab b := by
  have h1 := rab_or a; have h2 := rab_or b; have h3 := rab_or (a + b); grind
theorem rab_of_nn {q : Rat} (h : 0 ≤ q) : rab q = q := by have := rab_or q; grind
theorem rab_of_np {q : Rat} (h : q ≤ 0) : rab q = -q := by have := rab_or q; grind
theorem rab_mul (a b : Rat) : rab (a * b) = rab a * rab b := by
  rcases rab_or a with ⟨ea, ha⟩ | ⟨ea, ha⟩ <;> rcases rab_or b with ⟨eb, hb⟩ | ⟨eb, hb⟩
  · rw [ea, eb]; exact rab_of_nn (Rat.mul_nonneg ha hb)
  · have h := Rat.mul_nonneg ha (show 0 ≤ -b by grind)
    have e : a * -b = -(a * b) := by grind
    rw [ea, eb, e]; exact rab_of_np (by grind)
  · have h := Rat.mul_nonneg (show 0 ≤ -a by grind) hb
    have e : -a * b = -(a * b) := by grind
    rw [ea, eb, e]; exact rab_of_np (by grind)
  · have h := Rat.mul_nonneg (show 0 ≤ -a by grind) (show 0 ≤ -b by grind)
    have e : -a * -b = a * b := by grind
    rw [ea, eb, e]; exact rab_of_nn (by grind)
theorem rab_pow (a : Rat) (n : Nat) : rab (a ^ n) = rab a ^ n := by
  induction n with
  | zero => simp only [Rat.pow_zero]; decide
  | succ n ih => rw [Rat.pow_succ, Rat.pow_succ, rab_mul, ih]
theorem rab_mono : ∀ (e : List Int) (x : List Rat), rab (mono e x) = mono e (x.map rab)
  | [], x => by simp only [mono]; decide
  | _ :: _, [] => by simp only [mono, List.map_nil]; decide
  | e :: es, x :: xs => by simp only [mono, List.map_cons]; rw [rab_mul, rab_pow, rab_mono es xs]
/-- the size of a term -/
def szT (x : List Rat) (t : Row) : Rat := rab (tv t x)
theorem szT_abs {x y : List Rat} (h : y.map rab = x.map rab) (t : Row) : szT y t = szT x t := by
  unfold szT tv; rw [rab_mul, rab_mul, rab_mono, rab_mono, h]
theorem szT_nn (x : List Rat) (t : Row) : 0 ≤ szT x t := rab_nn _
theorem rsum_sz_nn (x : List Rat) : ∀ l : List Row, 0 ≤ rsum (l.map (szT x))
  | [] => by simp only [List.map_nil, rsum]; grind
  | t :: l => by simp only [List.map_cons, rsum]; have := szT_nn x t; have := rsum_sz_nn x l; grind
theorem rab_pval (x : List Rat) : ∀ l : List Row, rab (pval l x) ≤ rsum (l.map (szT x))
  | [] => by show rab 0 ≤ 0; decide
  | t :: l => by
    have h := rab_pval x l
    have := rab_add (tv t x) (pval l x)
    simp only [List.map_cons, rsum]
    show rab (tv t x + pval l x) ≤ szT x t + _
    unfold szT at *
    grind
/-- a term is great among terms whose sizes sum to W -/
def great (W : Rat) (x : List Rat) (t : Row) : Bool := decide (W - szT x t < szT x t)
theorem pval_ne {x y : List Rat} {f : List Row} (h : y.map rab = x.map rab) {t : Row} (ht : t ∈ f) (g : great (rsum (f.map (szT x))) x t = true) : pval f y ≠ 0 := by
  obtain ⟨l1, l2, rfl⟩ := List.append_of_mem ht
  have g := of_decide_eq_true g
  simp only [List.map_append, List.map_cons, rsum_append, rsum] at g
  have e : pval (l1 ++ t :: l2) y = pval l1 y + (tv t y + pval l2 y) := by
    rw [pval_append]; rfl
  rw [e]
  have h1 := rab_pval y l1
  have h2 := rab_pval y l2
  have e1 : l1.map (szT y) = l1.map (szT x) := List.map_congr_left fun u _ => szT_abs h u
  have e2 : l2.map (szT y) = l2.map (szT x) := List.map_congr_left fun u _ => szT_abs h u
  rw [e1] at h1
  rw [e2] at h2
  intro z
  have z2 : tv t y = -(pval l1 y + pval l2 y) := by grind
  have z3 : szT x t ≤ rab (pval l1 y) + rab (pval l2 y) := by
    rw [← szT_abs h t]; unfold szT
    rw [z2, rab_neg]; exact rab_add _ _
  grind
theorem great_uniq {W : Rat} {x : List Rat} (d : Row → D) : ∀ (f : List Row), rsum (f.map (szT x)) ≤ W → ∀ o : D, f.foldl (fun o t => if great W x t = true then d t else o) o = match f.find? (great W x) with | some t => d t | none => o
  | [], _, o => rfl
  | t :: f, h, o => by
    simp only [List.map_cons, rsum] at h
    rw [List.foldl_cons, great_uniq d f (by have := szT_nn x t; grind)]
    by_cases g : great W x t = true
    · rw [if_pos g, List.find?_cons_of_pos (h := g)]
      have nf : f.find? (great W x) = none := by
        rw [List.find?_eq_none]
        intro u hu gu
        obtain ⟨l1, l2, rfl⟩ := List.append_of_mem hu
        have g := of_decide_eq_true g
        have gu := of_decide_eq_true gu
        simp only [List.map_append, List.map_cons, rsum_append, rsum] at h
        have := rsum_sz_nn x l1; have := rsum_sz_nn x l2
        grind
      rw [nf]
    · rw [if_neg g, List.find?_cons_of_neg (h := g)]
theorem fold_range {β : Type} (F : β → Row → β) (f : List Row) (z : Row) (o : β) : (List.range f.length).foldl (fun o k => F o (f.getD k z)) o = f.foldl F o := by
  have e : (List.range f.length).map (fun k => f.getD k z) = f := by
    refine List.ext_getElem (by simp) fun i h1 h2 => ?_
    simp [h2]
  conv => rhs; rw [← e]
  rw [List.foldl_map]
/-- the sum of all but one -/
theorem rsum_but (g : Row → Rat) (f : List Row) (z : Row) {k : Nat} (hk : k < f.length) : rsum ((List.range f.length).map fun j => if j = k then 0 else g (f.getD j z)) = rsum (f.map g) - g (f.getD k z) := by
  have h := rsum_at (fun j => if j = k then (0 : Rat) else g (f.getD j z)) k (g (f.getD k z)) (List.range f.length) List.nodup_range (List.mem_range.mpr hk)
  have e : (List.range f.length).map (fun j => if k = j then (if j = k then (0 : Rat) else g (f.getD j z)) + g (f.getD k z) else (if j = k then 0 else g (f.getD j z))) = f.map g := by
    refine List.ext_getElem (by simp) fun i h1 h2 => ?_
    have h2' : i < f.length := by simpa using h2
    simp only [List.getElem_map, List.getElem_range]
    by_cases e : k = i
    · subst e; simp [h2']; grind
    · simp [e, Ne.symm e, h2']
  rw [e] at h
  grind
theorem Md.rab {N B : Nat} {q : Rat} (h : Md N B q) : Md N B (rab q) := by
  rcases rab_or q with ⟨e, _⟩ | ⟨e, _⟩ <;> rw [e]
  · exact h
  · exact h.neg
end
end G46

set_option Elab.async false
set_option linter.all false
set_option maxRecDepth 100000
set_option maxHeartbeats 1000000
namespace G46
open PySem L2 Pz
noncomputable section
/-! minus, sign, compare over fractions -/
theorem minus_eq {x y : Rat} (hx : Nb x) (hy : Nb y) : val F_minus [fr x, fr y] = some (fr (x - y)) := by
  have m1 : mulOk x.num (y.den : Int) = true := mulOk_of hx.a hy.d
  have m2 : mulOk y.num (x.den : Int) = true := mulOk_of hy.a hx.d
  have m3 : mulOk (x.den : Int) (y.den : Int) = true := mulOk_of hx.d hy.d
  obtain ⟨h1, h2, _⟩ := den2 hx hy
  simp only [F_minus, fr_def, val_fnF, zsF_eq, fzAt, D.fz, wpE, mgE, List.contains_cons, List.contains_nil, Nat.reduceBEq, Bool.or_false, Bool.or_true, Bool.false_or, Bool.true_or, seqF_eq, andThen_nx, andThen_bk, andThen_ct, andThen_rt, retV_rt, retV_nx, nxF, bkF, ctF, rtF, rnF, rmF, stF, exF, put, parF, agF, ifS, forF_eq, flF_nil, flF_cons, flK_nx, flK_ct, flK_bk, flK_rt, tbF, ttF, andF, orF, notF, andV, orV, ifF, chF, b1, b2, bN, clF_val, aNil, aCons, nmF, ownF, cF, fzF, itF, inF, itOf, rng1, rng2, yesF, dTru, dNot, I.isi_non_tuple, I.isi_non_list, I.isi_non_bool, I.isi_non_int, I.isi_non_str, I.isi_bl_tuple, I.isi_bl_list, I.isi_bl_bool, I.isi_bl_int, I.isi_bl_str, I.isi_int_tuple, I.isi_int_list, I.isi_int_bool, I.isi_int_int, I.isi_int_str, I.isi_str_tuple, I.isi_str_list, I.isi_str_bool, I.isi_str_int, I.isi_str_str, I.isi_tup_tuple, I.isi_tup_list, I.isi_tup_bool, I.isi_tup_int, I.isi_tup_str, I.isi_lst_tuple, I.isi_lst_list, I.isi_lst_bool, I.isi_lst_int, I.isi_lst_str, I.isi_scr_tuple, I.isi_scr_list, I.isi_scr_bool, I.isi_scr_int, I.isi_scr_str, dEq_bl, dNe_bl, dIsN_non, dIsN_bl, dIsN_int, dIsN_str, dIsN_tup, dIsN_lst, dAdd_int, dSub_int, dEq_int, dNe_int, dLt_int, dLe_int, dGt_int, dGe_int, dAddI_int, asB_bl, dIx_tup0, dIx_tup1, fLen, fAbs, fInt, fMax2, fMin2, gTupF, gsCons, gsNil, D.pure, D.pures, Bool.not_true, Bool.not_false, Bool.and_true, Bool.true_and, Bool.and_false, Bool.false_and, Option.bind_some, Option.bind_none, Option.map_some, Option.map_none, bind_ite, map_ite, List.map_cons, List.map_nil, List.replicate, List.cons_append, List.nil_append, List.append_nil, List.getElem?_cons_zero, List.getElem?_cons_succ, List.set_cons_zero, List.set_cons_succ, List.length_cons, List.length_nil, Nat.reduceAdd, Nat.reduceLT, Nat.zero_add, Nat.lt_add_one, if_true, if_false, ite_true, ite_false, decide_eq_true_eq, Bool.false_eq_true, reduceCtorEq, reduceIte, Nat.reduceLeDiff, Nat.reduceEqDiff, dMul, m1, m2, m3, fraction_eq h2 h1, sub_divInt]
def sgn (q : Rat) : Int := (if 0 < q.num then 1 else 0) - (if q.num < 0 then 1 else 0)
theorem sign_eq (q : Rat) : val F_sign [fr q] = some (.int (sgn q)) := by
  simp only [F_sign, fr_def, val_fnF, zsF_eq, fzAt, D.fz, wpE, mgE, List.contains_cons, List.contains_nil, Nat.reduceBEq, Bool.or_false, Bool.or_true, Bool.false_or, Bool.true_or, seqF_eq, andThen_nx, andThen_bk, andThen_ct, andThen_rt, retV_rt, retV_nx, nxF, bkF, ctF, rtF, rnF, rmF, stF, exF, put, parF, agF, ifS, forF_eq, flF_nil, flF_cons, flK_nx, flK_ct, flK_bk, flK_rt, tbF, ttF, andF, orF, notF, andV, orV, ifF, chF, b1, b2, bN, clF_val, aNil, aCons, nmF, ownF, cF, fzF, itF, inF, itOf, rng1, rng2, yesF, dTru, dNot, I.isi_non_tuple, I.isi_non_list, I.isi_non_bool, I.isi_non_int, I.isi_non_str, I.isi_bl_tuple, I.isi_bl_list, I.isi_bl_bool, I.isi_bl_int, I.isi_bl_str, I.isi_int_tuple, I.isi_int_list, I.isi_int_bool, I.isi_int_int, I.isi_int_str, I.isi_str_tuple, I.isi_str_list, I.isi_str_bool, I.isi_str_int, I.isi_str_str, I.isi_tup_tuple, I.isi_tup_list, I.isi_tup_bool, I.isi_tup_int, I.isi_tup_str, I.isi_lst_tuple, I.isi_lst_list, I.isi_lst_bool, I.isi_lst_int, I.isi_lst_str, I.isi_scr_tuple, I.isi_scr_list, I.isi_scr_bool, I.isi_scr_int, I.isi_scr_str, dEq_bl, dNe_bl, dIsN_non, dIsN_bl, dIsN_int, dIsN_str, dIsN_tup, dIsN_lst, dAdd_int, dSub_int, dEq_int, dNe_int, dLt_int, dLe_int, dGt_int, dGe_int, dAddI_int, asB_bl, dIx_tup0, dIx_tup1, fLen, fAbs, fInt, fMax2, fMin2, gTupF, gsCons, gsNil, D.pure, D.pures, Bool.not_true, Bool.not_false, Bool.and_true, Bool.true_and, Bool.and_false, Bool.false_and, Option.bind_some, Option.bind_none, Option.map_some, Option.map_none, bind_ite, map_ite, List.map_cons, List.map_nil, List.replicate, List.cons_append, List.nil_append, List.append_nil, List.getElem?_cons_zero, List.getElem?_cons_succ, List.set_cons_zero, List.set_cons_succ, List.length_cons, List.length_nil, Nat.reduceAdd, Nat.reduceLT, Nat.zero_add, Nat.lt_add_one, if_true, if_false, ite_true, ite_false, decide_eq_true_eq, Bool.false_eq_true, reduceCtorEq, reduceIte, Nat.reduceLeDiff, Nat.reduceEqDiff]
  unfold sgn
  by_cases h1 : 0 < q.num <;> by_cases h2 : q.num < 0 <;> simp only [h1, h2, decide_true, decide_false, val_fnF, zsF_eq, fzAt, D.fz, wpE, mgE, List.contains_cons, List.contains_nil, Nat.reduceBEq, Bool.or_false, Bool.or_true, Bool.false_or, Bool.true_or, seqF_eq, andThen_nx, andThen_bk, andThen_ct, andThen_rt, retV_rt, retV_nx, nxF, bkF, ctF, rtF, rnF, rmF, stF, exF, put, parF, agF, ifS, forF_eq, flF_nil, flF_cons, flK_nx, flK_ct, flK_bk, flK_rt, tbF, ttF, andF, orF, notF, andV, orV, ifF, chF, b1, b2, bN, clF_val, aNil, aCons, nmF, ownF, cF, fzF, itF, inF, itOf, rng1, rng2, yesF, dTru, dNot, I.isi_non_tuple, I.isi_non_list, I.isi_non_bool, I.isi_non_int, I.isi_non_str, I.isi_bl_tuple, I.isi_bl_list, I.isi_bl_bool, I.isi_bl_int, I.isi_bl_str, I.isi_int_tuple, I.isi_int_list, I.isi_int_bool, I.isi_int_int, I.isi_int_str, I.isi_str_tuple, I.isi_str_list, I.isi_str_bool, I.isi_str_int, I.isi_str_str, I.isi_tup_tuple, I.isi_tup_list, I.isi_tup_bool, I.isi_tup_int, I.isi_tup_str, I.isi_lst_tuple, I.isi_lst_list, I.isi_lst_bool, I.isi_lst_int, I.isi_lst_str, I.isi_scr_tuple, I.isi_scr_list, I.isi_scr_bool, I.isi_scr_int, I.isi_scr_str, dEq_bl, dNe_bl, dIsN_non, dIsN_bl, dIsN_int, dIsN_str, dIsN_tup, dIsN_lst, dAdd_int, dSub_int, dEq_int, dNe_int, dLt_int, dLe_int, dGt_int, dGe_int, dAddI_int, asB_bl, dIx_tup0, dIx_tup1, fLen, fAbs, fInt, fMax2, fMin2, gTupF, gsCons, gsNil, D.pure, D.pures, Bool.not_true, Bool.not_false, Bool.and_true, Bool.true_and, Bool.and_false, Bool.false_and, Option.bind_some, Option.bind_none, Option.map_some, Option.map_none, bind_ite, map_ite, List.map_cons, List.map_nil, List.replicate, List.cons_append, List.nil_append, List.append_nil, List.getElem?_cons_zero, List.getElem?_cons_succ, List.set_cons_zero, List.set_cons_succ, List.length_cons, List.length_nil, Nat.reduceAdd, Nat.reduceLT, Nat.zero_add, Nat.lt_add_one, if_true, if_false, ite_true, ite_false, decide_eq_true_eq, Bool.false_eq_true, reduceCtorEq, reduceIte, Nat.reduceLeDiff, Nat.reduceEqDiff, Bool.toInt, if_true, if_false] <;> rfl
theorem sgn_lt (x y : Rat) : sgn (x - y) < 0 ↔ x < y := by
  have e : x < y ↔ (x - y).num < 0 := by
    have n : (x - y).num < 0 ↔ x - y < 0 := by
      rw [← Rat.not_le, ← Rat.num_nonneg]; omega
    rw [n]
    constructor <;> intro h <;> grind
  rw [e]
  unfold sgn
  split <;> split <;> omega
theorem sgn_neg (q : Rat) : sgn (-q) = - sgn q := by
  unfold sgn
  rw [Rat.neg_num]
  repeat' split
  all_goals omega
theorem sgn_gt (x y : Rat) : 0 < sgn (x - y) ↔ y < x := by
  have e : y - x = -(x - y) := by grind
  have h := sgn_lt y x
  rw [e, sgn_neg] at h
  rw [← h]
  omega
theorem dEq_frn (q : Rat) : dEq (fr q) (.tup []) = some (.bl false) := dEq_fv0 (some q)
theorem compare_eq {x y : Rat} (hx : Nb x) (hy : Nb y) : val F_compare [fr x, fr y] = some (.int (sgn (x - y))) := by
  simp only [F_compare, g_INFINITE, val_fnF, zsF_eq, fzAt, D.fz, wpE, mgE, List.contains_cons, List.contains_nil, Nat.reduceBEq, Bool.or_false, Bool.or_true, Bool.false_or, Bool.true_or, seqF_eq, andThen_nx, andThen_bk, andThen_ct, andThen_rt, retV_rt, retV_nx, nxF, bkF, ctF, rtF, rnF, rmF, stF, exF, put, parF, agF, ifS, forF_eq, flF_nil, flF_cons, flK_nx, flK_ct, flK_bk, flK_rt, tbF, ttF, andF, orF, notF, andV, orV, ifF, chF, b1, b2, bN, clF_val, aNil, aCons, nmF, ownF, cF, fzF, itF, inF, itOf, rng1, rng2, yesF, dTru, dNot, I.isi_non_tuple, I.isi_non_list, I.isi_non_bool, I.isi_non_int, I.isi_non_str, I.isi_bl_tuple, I.isi_bl_list, I.isi_bl_bool, I.isi_bl_int, I.isi_bl_str, I.isi_int_tuple, I.isi_int_list, I.isi_int_bool, I.isi_int_int, I.isi_int_str, I.isi_str_tuple, I.isi_str_list, I.isi_str_bool, I.isi_str_int, I.isi_str_str, I.isi_tup_tuple, I.isi_tup_list, I.isi_tup_bool, I.isi_tup_int, I.isi_tup_str, I.isi_lst_tuple, I.isi_lst_list, I.isi_lst_bool, I.isi_lst_int, I.isi_lst_str, I.isi_scr_tuple, I.isi_scr_list, I.isi_scr_bool, I.isi_scr_int, I.isi_scr_str, dEq_bl, dNe_bl, dIsN_non, dIsN_bl, dIsN_int, dIsN_str, dIsN_tup, dIsN_lst, dAdd_int, dSub_int, dEq_int, dNe_int, dLt_int, dLe_int, dGt_int, dGe_int, dAddI_int, asB_bl, dIx_tup0, dIx_tup1, fLen, fAbs, fInt, fMax2, fMin2, gTupF, gsCons, gsNil, D.pure, D.pures, Bool.not_true, Bool.not_false, Bool.and_true, Bool.true_and, Bool.and_false, Bool.false_and, Option.bind_some, Option.bind_none, Option.map_some, Option.map_none, bind_ite, map_ite, List.map_cons, List.map_nil, List.replicate, List.cons_append, List.nil_append, List.append_nil, List.getElem?_cons_zero, List.getElem?_cons_succ, List.set_cons_zero, List.set_cons_succ, List.length_cons, List.length_nil, Nat.reduceAdd, Nat.reduceLT, Nat.zero_add, Nat.lt_add_one, if_true, if_false, ite_true, ite_false, decide_eq_true_eq, Bool.false_eq_true, reduceCtorEq, reduceIte, Nat.reduceLeDiff, Nat.reduceEqDiff, dEq_frn, pure_fr, minus_eq hx hy, sign_eq]
end
end G46

set_option Elab.async false
set_option linter.all false
set_option maxRecDepth 100000
set_option maxHeartbeats 1000000
namespace G46
open PySem L2 Pz
noncomputable section
theorem flF_find {α J : Type} {FT : D → En → Option En} {FB : En → Option (Fl × En)} (f : α → D) (c : α → Bool) (d : α → D) (st : J → En) :
    ∀ (ys : List α) (j : J), (∀ j y, y ∈ ys → ∃ j', (FT (f y) (st j)).bind FB = some (if c y = true then (.rt (d y), st j') else (.nx, st j'))) →
      ∃ j', flF FT FB (ys.map f) (st j) = some (match ys.find? c with | some y => (.rt (d y), st j') | none => (.nx, st j'))
  | [], j, _ => ⟨j, rfl⟩
  | y :: ys, j, h => by
    obtain ⟨j1, e1⟩ := h j y (List.mem_cons_self ..)
    cases hc : c y with
    | true =>
      rw [hc, if_pos rfl] at e1
      refine ⟨j1, ?_⟩
      rw [List.map_cons, flF_cons]
      cases q : FT (f y) (st j) with
      | none => rw [q] at e1; simp at e1
      | some e =>
        rw [q] at e1
        simp only [Option.bind_some] at e1
        simp only [Option.bind_some, e1, flK_rt, List.find?_cons, hc]
    | false =>
      rw [hc] at e1
      simp only [Bool.false_eq_true, if_false] at e1
      obtain ⟨j2, e2⟩ := flF_find f c d st ys j1 fun j z hz => h j z (List.mem_cons_of_mem _ hz)
      refine ⟨j2, ?_⟩
      rw [List.map_cons, flF_cons]
      cases q : FT (f y) (st j) with
      | none => rw [q] at e1; simp at e1
      | some e =>
        rw [q] at e1
        simp only [Option.bind_some] at e1
        simp only [Option.bind_some, e1, flK_nx, e2, List.find?_cons, hc]
variable {n E N B S T : Nat}
theorem szT_md {f : List Row} {x : List Rat} (hp : Pol n E N B f) (hx : Ptv n S T x) {t : Row} (ht : t ∈ f) : Md (N * S ^ 24) (B * T ^ 24) (szT x t) :=
  (tv_md24 (hp.key t ht).1 hp.nE (hp.key t ht).2 (hp.md t ht) hx).rab
theorem wsum_md {f : List Row} {x : List Rat} (hp : Pol n E N B f) (hx : Ptv n S T x) : ∀ l : List Row, (∀ t ∈ l, t ∈ f) → Md (N * S ^ 24) (l.length * (B * T ^ 24)) (rsum (l.map (szT x)))
  | [], _ => Md.zero (Nat.mul_pos hp.N0 (Nat.pow_pos hx.s0))
  | t :: l, h => by
    have h2 := (szT_md hp hx (h t (by simp))).add (wsum_md hp hx l fun u hu => h u (by simp [hu]))
    simp only [List.map_cons, rsum, List.length_cons]
    rw [Nat.add_mul, Nat.one_mul, Nat.add_comm]
    exact h2
theorem abs_i (i : Int) : fAbs [.int i] = some (.int (if i < 0 then -i else i)) := rfl
theorem size_of_eq {f : List Row} {x : List Rat} (hp : Pol n E N B f) (hx : Ptv n S T x) {t : Row} (ht : t ∈ f) : val F_size_of [termD t, vecD x] = some (fr (szT x t)) := by
  have e := term_value_eq (hp.key t ht).1 hp.nE hp.n3 (hp.key t ht).2 (hp.md t ht) hp.N1 hp.B1 hx
  have d0 : dIx (fr (tv t x)) (.int 0) = some (.int (tv t x).num) := dIx_tup0
  have d1 : dIx (fr (tv t x)) (.int 1) = some (.int (tv t x).den) := dIx_tup1
  simp only [F_size_of, val_fnF, zsF_eq, fzAt, D.fz, wpE, mgE, List.contains_cons, List.contains_nil, Nat.reduceBEq, Bool.or_false, Bool.or_true, Bool.false_or, Bool.true_or, seqF_eq, andThen_nx, andThen_bk, andThen_ct, andThen_rt, retV_rt, retV_nx, nxF, bkF, ctF, rtF, rnF, rmF, stF, exF, put, parF, agF, ifS, forF_eq, flF_nil, flF_cons, flK_nx, flK_ct, flK_bk, flK_rt, tbF, ttF, andF, orF, notF, andV, orV, ifF, chF, b1, b2, bN, clF_val, aNil, aCons, nmF, ownF, cF, fzF, itF, inF, itOf, rng1, rng2, yesF, dTru, dNot, I.isi_non_tuple, I.isi_non_list, I.isi_non_bool, I.isi_non_int, I.isi_non_str, I.isi_bl_tuple, I.isi_bl_list, I.isi_bl_bool, I.isi_bl_int, I.isi_bl_str, I.isi_int_tuple, I.isi_int_list, I.isi_int_bool, I.isi_int_int, I.isi_int_str, I.isi_str_tuple, I.isi_str_list, I.isi_str_bool, I.isi_str_int, I.isi_str_str, I.isi_tup_tuple, I.isi_tup_list, I.isi_tup_bool, I.isi_tup_int, I.isi_tup_str, I.isi_lst_tuple, I.isi_lst_list, I.isi_lst_bool, I.isi_lst_int, I.isi_lst_str, I.isi_scr_tuple, I.isi_scr_list, I.isi_scr_bool, I.isi_scr_int, I.isi_scr_str, dEq_bl, dNe_bl, dIsN_non, dIsN_bl, dIsN_int, dIsN_str, dIsN_tup, dIsN_lst, dAdd_int, dSub_int, dEq_int, dNe_int, dLt_int, dLe_int, dGt_int, dGe_int, dAddI_int, asB_bl, dIx_tup0, dIx_tup1, fLen, fAbs, fInt, fMax2, fMin2, gTupF, gsCons, gsNil, D.pure, D.pures, Bool.not_true, Bool.not_false, Bool.and_true, Bool.true_and, Bool.and_false, Bool.false_and, Option.bind_some, Option.bind_none, Option.map_some, Option.map_none, bind_ite, map_ite, List.map_cons, List.map_nil, List.replicate, List.cons_append, List.nil_append, List.append_nil, List.getElem?_cons_zero, List.getElem?_cons_succ, List.set_cons_zero, List.set_cons_succ, List.length_cons, List.length_nil, Nat.reduceAdd, Nat.reduceLT, Nat.zero_add, Nat.lt_add_one, if_true, if_false, ite_true, ite_false, decide_eq_true_eq, Bool.false_eq_true, reduceCtorEq, reduceIte, Nat.reduceLeDiff, Nat.reduceEqDiff, pure_term, pure_vec, e, d0, d1, t2_eq, rab_fr]
  rfl
theorem W_nb {f : List Row} {x : List Rat} (hp : Pol n E N B f) (hx : Ptv n S T x) (hl : f.length ≤ 500) {t : Row} (ht : t ∈ f) : Nb (szT x t) ∧ Nb (rsum (f.map (szT x)) - szT x t) := by
  have hm := szT_md hp hx ht
  have hw := wsum_md hp hx f fun _ h => h
  refine ⟨sum_nb hx.st hx.t16 hx.s0 hp.N1 hp.B1 (k := 1) (by omega) (by simpa using hm), ?_⟩
  have h2 := hw.add hm.neg
  rw [← Nat.succ_mul] at h2
  have e : rsum (f.map (szT x)) - szT x t = rsum (f.map (szT x)) + -szT x t := by grind
  rw [e]
  exact sum_nb hx.st hx.t16 hx.s0 hp.N1 hp.B1 (by omega) h2
theorem great_term_eq {f : List Row} {x : List Rat} (hp : Pol n E N B f) (hx : Ptv n S T x) (hl : f.length ≤ 500) :
    val F_great_term [polyD f, vecD x] = some (match f.find? (great (rsum (f.map (szT x))) x) with | some t => keyD t.1 | none => .non) := by
  have pv : (vecD x).pure = true := pure_vec x
  have e1 := lcF_map (vs := [5]) (FI := itF (nmO 0)) (FT := put 5) (FE := E_great_term_1) (env := [some (polyD f), some (vecD x), none, none, none, none]) (env' := [some (polyD f), some (vecD x), none, none, none, none])
    termD (fun t => fr (szT x t)) f (by simp only [val_fnF, zsF_eq, fzAt, D.fz, wpE, mgE, List.contains_cons, List.contains_nil, Nat.reduceBEq, Bool.or_false, Bool.or_true, Bool.false_or, Bool.true_or, seqF_eq, andThen_nx, andThen_bk, andThen_ct, andThen_rt, retV_rt, retV_nx, nxF, bkF, ctF, rtF, rnF, rmF, stF, exF, put, parF, agF, ifS, forF_eq, flF_nil, flF_cons, flK_nx, flK_ct, flK_bk, flK_rt, tbF, ttF, andF, orF, notF, andV, orV, ifF, chF, b1, b2, bN, clF_val, aNil, aCons, nmF, ownF, cF, fzF, itF, inF, itOf, rng1, rng2, yesF, dTru, dNot, I.isi_non_tuple, I.isi_non_list, I.isi_non_bool, I.isi_non_int, I.isi_non_str, I.isi_bl_tuple, I.isi_bl_list, I.isi_bl_bool, I.isi_bl_int, I.isi_bl_str, I.isi_int_tuple, I.isi_int_list, I.isi_int_bool, I.isi_int_int, I.isi_int_str, I.isi_str_tuple, I.isi_str_list, I.isi_str_bool, I.isi_str_int, I.isi_str_str, I.isi_tup_tuple, I.isi_tup_list, I.isi_tup_bool, I.isi_tup_int, I.isi_tup_str, I.isi_lst_tuple, I.isi_lst_list, I.isi_lst_bool, I.isi_lst_int, I.isi_lst_str, I.isi_scr_tuple, I.isi_scr_list, I.isi_scr_bool, I.isi_scr_int, I.isi_scr_str, dEq_bl, dNe_bl, dIsN_non, dIsN_bl, dIsN_int, dIsN_str, dIsN_tup, dIsN_lst, dAdd_int, dSub_int, dEq_int, dNe_int, dLt_int, dLe_int, dGt_int, dGe_int, dAddI_int, asB_bl, dIx_tup0, dIx_tup1, fLen, fAbs, fInt, fMax2, fMin2, gTupF, gsCons, gsNil, D.pure, D.pures, Bool.not_true, Bool.not_false, Bool.and_true, Bool.true_and, Bool.and_false, Bool.false_and, Option.bind_some, Option.bind_none, Option.map_some, Option.map_none, bind_ite, map_ite, List.map_cons, List.map_nil, List.replicate, List.cons_append, List.nil_append, List.append_nil, List.getElem?_cons_zero, List.getElem?_cons_succ, List.set_cons_zero, List.set_cons_succ, List.length_cons, List.length_nil, Nat.reduceAdd, Nat.reduceLT, Nat.zero_add, Nat.lt_add_one, if_true, if_false, ite_true, ite_false, decide_eq_true_eq, Bool.false_eq_true, reduceCtorEq, reduceIte, Nat.reduceLeDiff, Nat.reduceEqDiff, pure_poly]; simp only [polyD, val_fnF, zsF_eq, fzAt, D.fz, wpE, mgE, List.contains_cons, List.contains_nil, Nat.reduceBEq, Bool.or_false, Bool.or_true, Bool.false_or, Bool.true_or, seqF_eq, andThen_nx, andThen_bk, andThen_ct, andThen_rt, retV_rt, retV_nx, nxF, bkF, ctF, rtF, rnF, rmF, stF, exF, put, parF, agF, ifS, forF_eq, flF_nil, flF_cons, flK_nx, flK_ct, flK_bk, flK_rt, tbF, ttF, andF, orF, notF, andV, orV, ifF, chF, b1, b2, bN, clF_val, aNil, aCons, nmF, ownF, cF, fzF, itF, inF, itOf, rng1, rng2, yesF, dTru, dNot, I.isi_non_tuple, I.isi_non_list, I.isi_non_bool, I.isi_non_int, I.isi_non_str, I.isi_bl_tuple, I.isi_bl_list, I.isi_bl_bool, I.isi_bl_int, I.isi_bl_str, I.isi_int_tuple, I.isi_int_list, I.isi_int_bool, I.isi_int_int, I.isi_int_str, I.isi_str_tuple, I.isi_str_list, I.isi_str_bool, I.isi_str_int, I.isi_str_str, I.isi_tup_tuple, I.isi_tup_list, I.isi_tup_bool, I.isi_tup_int, I.isi_tup_str, I.isi_lst_tuple, I.isi_lst_list, I.isi_lst_bool, I.isi_lst_int, I.isi_lst_str, I.isi_scr_tuple, I.isi_scr_list, I.isi_scr_bool, I.isi_scr_int, I.isi_scr_str, dEq_bl, dNe_bl, dIsN_non, dIsN_bl, dIsN_int, dIsN_str, dIsN_tup, dIsN_lst, dAdd_int, dSub_int, dEq_int, dNe_int, dLt_int, dLe_int, dGt_int, dGe_int, dAddI_int, asB_bl, dIx_tup0, dIx_tup1, fLen, fAbs, fInt, fMax2, fMin2, gTupF, gsCons, gsNil, D.pure, D.pures, Bool.not_true, Bool.not_false, Bool.and_true, Bool.true_and, Bool.and_false, Bool.false_and, Option.bind_some, Option.bind_none, Option.map_some, Option.map_none, bind_ite, map_ite, List.map_cons, List.map_nil, List.replicate, List.cons_append, List.nil_append, List.append_nil, List.getElem?_cons_zero, List.getElem?_cons_succ, List.set_cons_zero, List.set_cons_succ, List.length_cons, List.length_nil, Nat.reduceAdd, Nat.reduceLT, Nat.zero_add, Nat.lt_add_one, if_true, if_false, ite_true, ite_false, decide_eq_true_eq, Bool.false_eq_true, reduceCtorEq, reduceIte, Nat.reduceLeDiff, Nat.reduceEqDiff, fzs_terms]) (by omega) (by simp [okE])
    fun t ht => ⟨[some (polyD f), some (vecD x), none, none, none, some (termD t)], [some (polyD f), some (vecD x), none, none, none, some (termD t)], by simp only [val_fnF, zsF_eq, fzAt, D.fz, wpE, mgE, List.contains_cons, List.contains_nil, Nat.reduceBEq, Bool.or_false, Bool.or_true, Bool.false_or, Bool.true_or, seqF_eq, andThen_nx, andThen_bk, andThen_ct, andThen_rt, retV_rt, retV_nx, nxF, bkF, ctF, rtF, rnF, rmF, stF, exF, put, parF, agF, ifS, forF_eq, flF_nil, flF_cons, flK_nx, flK_ct, flK_bk, flK_rt, tbF, ttF, andF, orF, notF, andV, orV, ifF, chF, b1, b2, bN, clF_val, aNil, aCons, nmF, ownF, cF, fzF, itF, inF, itOf, rng1, rng2, yesF, dTru, dNot, I.isi_non_tuple, I.isi_non_list, I.isi_non_bool, I.isi_non_int, I.isi_non_str, I.isi_bl_tuple, I.isi_bl_list, I.isi_bl_bool, I.isi_bl_int, I.isi_bl_str, I.isi_int_tuple, I.isi_int_list, I.isi_int_bool, I.isi_int_int, I.isi_int_str, I.isi_str_tuple, I.isi_str_list, I.isi_str_bool, I.isi_str_int, I.isi_str_str, I.isi_tup_tuple, I.isi_tup_list, I.isi_tup_bool, I.isi_tup_int, I.isi_tup_str, I.isi_lst_tuple, I.isi_lst_list, I.isi_lst_bool, I.isi_lst_int, I.isi_lst_str, I.isi_scr_tuple, I.isi_scr_list, I.isi_scr_bool, I.isi_scr_int, I.isi_scr_str, dEq_bl, dNe_bl, dIsN_non, dIsN_bl, dIsN_int, dIsN_str, dIsN_tup, dIsN_lst, dAdd_int, dSub_int, dEq_int, dNe_int, dLt_int, dLe_int, dGt_int, dGe_int, dAddI_int, asB_bl, dIx_tup0, dIx_tup1, fLen, fAbs, fInt, fMax2, fMin2, gTupF, gsCons, gsNil, D.pure, D.pures, Bool.not_true, Bool.not_false, Bool.and_true, Bool.true_and, Bool.and_false, Bool.false_and, Option.bind_some, Option.bind_none, Option.map_some, Option.map_none, bind_ite, map_ite, List.map_cons, List.map_nil, List.replicate, List.cons_append, List.nil_append, List.append_nil, List.getElem?_cons_zero, List.getElem?_cons_succ, List.set_cons_zero, List.set_cons_succ, List.length_cons, List.length_nil, Nat.reduceAdd, Nat.reduceLT, Nat.zero_add, Nat.lt_add_one, if_true, if_false, ite_true, ite_false, decide_eq_true_eq, Bool.false_eq_true, reduceCtorEq, reduceIte, Nat.reduceLeDiff, Nat.reduceEqDiff], by
      simp only [E_great_term_1, val_fnF, zsF_eq, fzAt, D.fz, wpE, mgE, List.contains_cons, List.contains_nil, Nat.reduceBEq, Bool.or_false, Bool.or_true, Bool.false_or, Bool.true_or, seqF_eq, andThen_nx, andThen_bk, andThen_ct, andThen_rt, retV_rt, retV_nx, nxF, bkF, ctF, rtF, rnF, rmF, stF, exF, put, parF, agF, ifS, forF_eq, flF_nil, flF_cons, flK_nx, flK_ct, flK_bk, flK_rt, tbF, ttF, andF, orF, notF, andV, orV, ifF, chF, b1, b2, bN, clF_val, aNil, aCons, nmF, ownF, cF, fzF, itF, inF, itOf, rng1, rng2, yesF, dTru, dNot, I.isi_non_tuple, I.isi_non_list, I.isi_non_bool, I.isi_non_int, I.isi_non_str, I.isi_bl_tuple, I.isi_bl_list, I.isi_bl_bool, I.isi_bl_int, I.isi_bl_str, I.isi_int_tuple, I.isi_int_list, I.isi_int_bool, I.isi_int_int, I.isi_int_str, I.isi_str_tuple, I.isi_str_list, I.isi_str_bool, I.isi_str_int, I.isi_str_str, I.isi_tup_tuple, I.isi_tup_list, I.isi_tup_bool, I.isi_tup_int, I.isi_tup_str, I.isi_lst_tuple, I.isi_lst_list, I.isi_lst_bool, I.isi_lst_int, I.isi_lst_str, I.isi_scr_tuple, I.isi_scr_list, I.isi_scr_bool, I.isi_scr_int, I.isi_scr_str, dEq_bl, dNe_bl, dIsN_non, dIsN_bl, dIsN_int, dIsN_str, dIsN_tup, dIsN_lst, dAdd_int, dSub_int, dEq_int, dNe_int, dLt_int, dLe_int, dGt_int, dGe_int, dAddI_int, asB_bl, dIx_tup0, dIx_tup1, fLen, fAbs, fInt, fMax2, fMin2, gTupF, gsCons, gsNil, D.pure, D.pures, Bool.not_true, Bool.not_false, Bool.and_true, Bool.true_and, Bool.and_false, Bool.false_and, Option.bind_some, Option.bind_none, Option.map_some, Option.map_none, bind_ite, map_ite, List.map_cons, List.map_nil, List.replicate, List.cons_append, List.nil_append, List.append_nil, List.getElem?_cons_zero, List.getElem?_cons_succ, List.set_cons_zero, List.set_cons_succ, List.length_cons, List.length_nil, Nat.reduceAdd, Nat.reduceLT, Nat.zero_add, Nat.lt_add_one, if_true, if_false, ite_true, ite_false, decide_eq_true_eq, Bool.false_eq_true, reduceCtorEq, reduceIte, Nat.reduceLeDiff, Nat.reduceEqDiff, pure_term, pv, size_of_eq hp hx ht], by simp only [val_fnF, zsF_eq, fzAt, D.fz, wpE, mgE, List.contains_cons, List.contains_nil, Nat.reduceBEq, Bool.or_false, Bool.or_true, Bool.false_or, Bool.true_or, seqF_eq, andThen_nx, andThen_bk, andThen_ct, andThen_rt, retV_rt, retV_nx, nxF, bkF, ctF, rtF, rnF, rmF, stF, exF, put, parF, agF, ifS, forF_eq, flF_nil, flF_cons, flK_nx, flK_ct, flK_bk, flK_rt, tbF, ttF, andF, orF, notF, andV, orV, ifF, chF, b1, b2, bN, clF_val, aNil, aCons, nmF, ownF, cF, fzF, itF, inF, itOf, rng1, rng2, yesF, dTru, dNot, I.isi_non_tuple, I.isi_non_list, I.isi_non_bool, I.isi_non_int, I.isi_non_str, I.isi_bl_tuple, I.isi_bl_list, I.isi_bl_bool, I.isi_bl_int, I.isi_bl_str, I.isi_int_tuple, I.isi_int_list, I.isi_int_bool, I.isi_int_int, I.isi_int_str, I.isi_str_tuple, I.isi_str_list, I.isi_str_bool, I.isi_str_int, I.isi_str_str, I.isi_tup_tuple, I.isi_tup_list, I.isi_tup_bool, I.isi_tup_int, I.isi_tup_str, I.isi_lst_tuple, I.isi_lst_list, I.isi_lst_bool, I.isi_lst_int, I.isi_lst_str, I.isi_scr_tuple, I.isi_scr_list, I.isi_scr_bool, I.isi_scr_int, I.isi_scr_str, dEq_bl, dNe_bl, dIsN_non, dIsN_bl, dIsN_int, dIsN_str, dIsN_tup, dIsN_lst, dAdd_int, dSub_int, dEq_int, dNe_int, dLt_int, dLe_int, dGt_int, dGe_int, dAddI_int, asB_bl, dIx_tup0, dIx_tup1, fLen, fAbs, fInt, fMax2, fMin2, gTupF, gsCons, gsNil, D.pure, D.pures, Bool.not_true, Bool.not_false, Bool.and_true, Bool.true_and, Bool.and_false, Bool.false_and, Option.bind_some, Option.bind_none, Option.map_some, Option.map_none, bind_ite, map_ite, List.map_cons, List.map_nil, List.replicate, List.cons_append, List.nil_append, List.append_nil, List.getElem?_cons_zero, List.getElem?_cons_succ, List.set_cons_zero, List.set_cons_succ, List.length_cons, List.length_nil, Nat.reduceAdd, Nat.reduceLT, Nat.zero_add, Nat.lt_add_one, if_true, if_false, ite_true, ite_false, decide_eq_true_eq, Bool.false_eq_true, reduceCtorEq, reduceIte, Nat.reduceLeDiff, Nat.reduceEqDiff]⟩
  have em : f.map (fun t => fr (szT x t)) = (f.map (szT x)).map fr := by simp
  rw [em] at e1
  simp only [mgE, wpE, val_fnF, zsF_eq, fzAt, D.fz, wpE, mgE, List.contains_cons, List.contains_nil, Nat.reduceBEq, Bool.or_false, Bool.or_true, Bool.false_or, Bool.true_or, seqF_eq, andThen_nx, andThen_bk, andThen_ct, andThen_rt, retV_rt, retV_nx, nxF, bkF, ctF, rtF, rnF, rmF, stF, exF, put, parF, agF, ifS, forF_eq, flF_nil, flF_cons, flK_nx, flK_ct, flK_bk, flK_rt, tbF, ttF, andF, orF, notF, andV, orV, ifF, chF, b1, b2, bN, clF_val, aNil, aCons, nmF, ownF, cF, fzF, itF, inF, itOf, rng1, rng2, yesF, dTru, dNot, I.isi_non_tuple, I.isi_non_list, I.isi_non_bool, I.isi_non_int, I.isi_non_str, I.isi_bl_tuple, I.isi_bl_list, I.isi_bl_bool, I.isi_bl_int, I.isi_bl_str, I.isi_int_tuple, I.isi_int_list, I.isi_int_bool, I.isi_int_int, I.isi_int_str, I.isi_str_tuple, I.isi_str_list, I.isi_str_bool, I.isi_str_int, I.isi_str_str, I.isi_tup_tuple, I.isi_tup_list, I.isi_tup_bool, I.isi_tup_int, I.isi_tup_str, I.isi_lst_tuple, I.isi_lst_list, I.isi_lst_bool, I.isi_lst_int, I.isi_lst_str, I.isi_scr_tuple, I.isi_scr_list, I.isi_scr_bool, I.isi_scr_int, I.isi_scr_str, dEq_bl, dNe_bl, dIsN_non, dIsN_bl, dIsN_int, dIsN_str, dIsN_tup, dIsN_lst, dAdd_int, dSub_int, dEq_int, dNe_int, dLt_int, dLe_int, dGt_int, dGe_int, dAddI_int, asB_bl, dIx_tup0, dIx_tup1, fLen, fAbs, fInt, fMax2, fMin2, gTupF, gsCons, gsNil, D.pure, D.pures, Bool.not_true, Bool.not_false, Bool.and_true, Bool.true_and, Bool.and_false, Bool.false_and, Option.bind_some, Option.bind_none, Option.map_some, Option.map_none, bind_ite, map_ite, List.map_cons, List.map_nil, List.replicate, List.cons_append, List.nil_append, List.append_nil, List.getElem?_cons_zero, List.getElem?_cons_succ, List.set_cons_zero, List.set_cons_succ, List.length_cons, List.length_nil, Nat.reduceAdd, Nat.reduceLT, Nat.zero_add, Nat.lt_add_one, if_true, if_false, ite_true, ite_false, decide_eq_true_eq, Bool.false_eq_true, reduceCtorEq, reduceIte, Nat.reduceLeDiff, Nat.reduceEqDiff] at e1
  have fz : D.fzs ((f.map (szT x)).map fr) = (f.map (szT x)).map fr := fzs_fr _
  obtain ⟨e, h1, s, k, o, rfl, hs, hk, _, ht⟩ := flF_rel (FT := put 4) (FB := L_great_term_2) fr
    (fun ys e => ∃ (s : Rat) (k : Nat) (o : Option Rat), e = [some (polyD f), some (vecD x), some (.lst false ((f.map (szT x)).map fr)), some (fr s), o.map fr, none] ∧ Md (N * S ^ 24) (k * (B * T ^ 24)) s ∧ k + ys.length ≤ 500 ∧ (∀ q ∈ ys, Md (N * S ^ 24) (B * T ^ 24) q) ∧ s + rsum ys = rsum (f.map (szT x)))
    (f.map (szT x)) [some (polyD f), some (vecD x), some (.lst false ((f.map (szT x)).map fr)), some (fr 0), none, none] ⟨0, 0, none, rfl, Md.zero (Nat.mul_pos hp.N0 (Nat.pow_pos hx.s0)), by simpa using hl, fun q hq => by
      obtain ⟨t, ht, rfl⟩ := List.mem_map.mp hq
      exact szT_md hp hx ht, by grind⟩
    fun q qs e ⟨s, k, o, he, hs, hk, hm, ht⟩ => by
      subst he
      simp only [List.length_cons] at hk
      have qm := hm q (by simp)
      have pl := plus_eq (sum_nb hx.st hx.t16 hx.s0 hp.N1 hp.B1 (by omega) hs) (sum_nb hx.st hx.t16 hx.s0 hp.N1 hp.B1 (k := 1) (by omega) (by simpa using qm))
      have hs2 := hs.add qm
      rw [← Nat.succ_mul] at hs2
      refine ⟨[some (polyD f), some (vecD x), some (.lst false ((f.map (szT x)).map fr)), some (fr (s + q)), some (fr q), none], ?_, s + q, k + 1, some q, rfl, hs2, by omega, fun r hr => hm r (by simp [hr]), by rw [← ht]; simp only [rsum]; grind⟩
      simp only [L_great_term_2, val_fnF, zsF_eq, fzAt, D.fz, wpE, mgE, List.contains_cons, List.contains_nil, Nat.reduceBEq, Bool.or_false, Bool.or_true, Bool.false_or, Bool.true_or, seqF_eq, andThen_nx, andThen_bk, andThen_ct, andThen_rt, retV_rt, retV_nx, nxF, bkF, ctF, rtF, rnF, rmF, stF, exF, put, parF, agF, ifS, forF_eq, flF_nil, flF_cons, flK_nx, flK_ct, flK_bk, flK_rt, tbF, ttF, andF, orF, notF, andV, orV, ifF, chF, b1, b2, bN, clF_val, aNil, aCons, nmF, ownF, cF, fzF, itF, inF, itOf, rng1, rng2, yesF, dTru, dNot, I.isi_non_tuple, I.isi_non_list, I.isi_non_bool, I.isi_non_int, I.isi_non_str, I.isi_bl_tuple, I.isi_bl_list, I.isi_bl_bool, I.isi_bl_int, I.isi_bl_str, I.isi_int_tuple, I.isi_int_list, I.isi_int_bool, I.isi_int_int, I.isi_int_str, I.isi_str_tuple, I.isi_str_list, I.isi_str_bool, I.isi_str_int, I.isi_str_str, I.isi_tup_tuple, I.isi_tup_list, I.isi_tup_bool, I.isi_tup_int, I.isi_tup_str, I.isi_lst_tuple, I.isi_lst_list, I.isi_lst_bool, I.isi_lst_int, I.isi_lst_str, I.isi_scr_tuple, I.isi_scr_list, I.isi_scr_bool, I.isi_scr_int, I.isi_scr_str, dEq_bl, dNe_bl, dIsN_non, dIsN_bl, dIsN_int, dIsN_str, dIsN_tup, dIsN_lst, dAdd_int, dSub_int, dEq_int, dNe_int, dLt_int, dLe_int, dGt_int, dGe_int, dAddI_int, asB_bl, dIx_tup0, dIx_tup1, fLen, fAbs, fInt, fMax2, fMin2, gTupF, gsCons, gsNil, D.pure, D.pures, Bool.not_true, Bool.not_false, Bool.and_true, Bool.true_and, Bool.and_false, Bool.false_and, Option.bind_some, Option.bind_none, Option.map_some, Option.map_none, bind_ite, map_ite, List.map_cons, List.map_nil, List.replicate, List.cons_append, List.nil_append, List.append_nil, List.getElem?_cons_zero, List.getElem?_cons_succ, List.set_cons_zero, List.set_cons_succ, List.length_cons, List.length_nil, Nat.reduceAdd, Nat.reduceLT, Nat.zero_add, Nat.lt_add_one, if_true, if_false, ite_true, ite_false, decide_eq_true_eq, Bool.false_eq_true, reduceCtorEq, reduceIte, Nat.reduceLeDiff, Nat.reduceEqDiff, pure_fr, pl]
  have ht : s = rsum (f.map (szT x)) := by rw [← ht]; simp only [rsum]; grind
  subst ht
  obtain ⟨j, h2⟩ := flF_find (FT := gTupF (gsCons (put 5) (gsCons (put 4) gsNil))) (FB := L_great_term_3) (fun t : Row => D.tup [termD t, fr (szT x t)]) (great (rsum (f.map (szT x))) x) (fun t => keyD t.1)
    (fun j : Option Rat × Option Row => [some (polyD f), some (vecD x), some (.lst false ((f.map (szT x)).map fr)), some (fr (rsum (f.map (szT x)))), j.1.map fr, j.2.map termD]) f (o, none)
    fun j t ht => ⟨(some (szT x t), some t), by
      obtain ⟨n1, n2⟩ := W_nb hp hx hl ht
      have hw := wsum_md hp hx f fun _ h => h
      have nw : Nb (rsum (f.map (szT x))) := sum_nb hx.st hx.t16 hx.s0 hp.N1 hp.B1 (by omega) hw
      have mi := minus_eq nw n1
      have cm := compare_eq n1 n2
      simp only [L_great_term_3, val_fnF, zsF_eq, fzAt, D.fz, wpE, mgE, List.contains_cons, List.contains_nil, Nat.reduceBEq, Bool.or_false, Bool.or_true, Bool.false_or, Bool.true_or, seqF_eq, andThen_nx, andThen_bk, andThen_ct, andThen_rt, retV_rt, retV_nx, nxF, bkF, ctF, rtF, rnF, rmF, stF, exF, put, parF, agF, ifS, forF_eq, flF_nil, flF_cons, flK_nx, flK_ct, flK_bk, flK_rt, tbF, ttF, andF, orF, notF, andV, orV, ifF, chF, b1, b2, bN, clF_val, aNil, aCons, nmF, ownF, cF, fzF, itF, inF, itOf, rng1, rng2, yesF, dTru, dNot, I.isi_non_tuple, I.isi_non_list, I.isi_non_bool, I.isi_non_int, I.isi_non_str, I.isi_bl_tuple, I.isi_bl_list, I.isi_bl_bool, I.isi_bl_int, I.isi_bl_str, I.isi_int_tuple, I.isi_int_list, I.isi_int_bool, I.isi_int_int, I.isi_int_str, I.isi_str_tuple, I.isi_str_list, I.isi_str_bool, I.isi_str_int, I.isi_str_str, I.isi_tup_tuple, I.isi_tup_list, I.isi_tup_bool, I.isi_tup_int, I.isi_tup_str, I.isi_lst_tuple, I.isi_lst_list, I.isi_lst_bool, I.isi_lst_int, I.isi_lst_str, I.isi_scr_tuple, I.isi_scr_list, I.isi_scr_bool, I.isi_scr_int, I.isi_scr_str, dEq_bl, dNe_bl, dIsN_non, dIsN_bl, dIsN_int, dIsN_str, dIsN_tup, dIsN_lst, dAdd_int, dSub_int, dEq_int, dNe_int, dLt_int, dLe_int, dGt_int, dGe_int, dAddI_int, asB_bl, dIx_tup0, dIx_tup1, fLen, fAbs, fInt, fMax2, fMin2, gTupF, gsCons, gsNil, D.pure, D.pures, Bool.not_true, Bool.not_false, Bool.and_true, Bool.true_and, Bool.and_false, Bool.false_and, Option.bind_some, Option.bind_none, Option.map_some, Option.map_none, bind_ite, map_ite, List.map_cons, List.map_nil, List.replicate, List.cons_append, List.nil_append, List.append_nil, List.getElem?_cons_zero, List.getElem?_cons_succ, List.set_cons_zero, List.set_cons_succ, List.length_cons, List.length_nil, Nat.reduceAdd, Nat.reduceLT, Nat.zero_add, Nat.lt_add_one, if_true, if_false, ite_true, ite_false, decide_eq_true_eq, Bool.false_eq_true, reduceCtorEq, reduceIte, Nat.reduceLeDiff, Nat.reduceEqDiff, pure_fr, pure_term, mi, cm, term0, pure_key]
      have g : great (rsum (f.map (szT x))) x t = decide (0 < sgn (szT x t - (rsum (f.map (szT x)) - szT x t))) := by
        unfold great; exact decide_eq_decide.mpr (sgn_gt _ _).symm
      by_cases hg : 0 < sgn (szT x t - (rsum (f.map (szT x)) - szT x t))
      · rw [if_pos hg, if_pos (by rw [g]; exact decide_eq_true hg)]
      · rw [if_neg hg, if_neg (by rw [g]; simpa using hg)]⟩
  have ez : fzipM [polyD f, .lst false ((f.map (szT x)).map fr)] = some (f.map fun t => D.tup [termD t, fr (szT x t)]) := by
    have lz : List.zipWith (fun a b => D.tup [a, b]) (f.map termD) ((f.map (szT x)).map fr) = f.map fun t => D.tup [termD t, fr (szT x t)] := by
      rw [List.map_map, List.zipWith_map, List.zipWith_self]; rfl
    simp only [polyD, fzipM, fzs_terms, fzs_fr, lz]
  simp only [F_great_term, val_fnF, zsF_eq, fzAt, D.fz, wpE, mgE, List.contains_cons, List.contains_nil, Nat.reduceBEq, Bool.or_false, Bool.or_true, Bool.false_or, Bool.true_or, seqF_eq, andThen_nx, andThen_bk, andThen_ct, andThen_rt, retV_rt, retV_nx, nxF, bkF, ctF, rtF, rnF, rmF, stF, exF, put, parF, agF, ifS, forF_eq, flF_nil, flF_cons, flK_nx, flK_ct, flK_bk, flK_rt, tbF, ttF, andF, orF, notF, andV, orV, ifF, chF, b1, b2, bN, clF_val, aNil, aCons, nmF, ownF, cF, fzF, itF, inF, itOf, rng1, rng2, yesF, dTru, dNot, I.isi_non_tuple, I.isi_non_list, I.isi_non_bool, I.isi_non_int, I.isi_non_str, I.isi_bl_tuple, I.isi_bl_list, I.isi_bl_bool, I.isi_bl_int, I.isi_bl_str, I.isi_int_tuple, I.isi_int_list, I.isi_int_bool, I.isi_int_int, I.isi_int_str, I.isi_str_tuple, I.isi_str_list, I.isi_str_bool, I.isi_str_int, I.isi_str_str, I.isi_tup_tuple, I.isi_tup_list, I.isi_tup_bool, I.isi_tup_int, I.isi_tup_str, I.isi_lst_tuple, I.isi_lst_list, I.isi_lst_bool, I.isi_lst_int, I.isi_lst_str, I.isi_scr_tuple, I.isi_scr_list, I.isi_scr_bool, I.isi_scr_int, I.isi_scr_str, dEq_bl, dNe_bl, dIsN_non, dIsN_bl, dIsN_int, dIsN_str, dIsN_tup, dIsN_lst, dAdd_int, dSub_int, dEq_int, dNe_int, dLt_int, dLe_int, dGt_int, dGe_int, dAddI_int, asB_bl, dIx_tup0, dIx_tup1, fLen, fAbs, fInt, fMax2, fMin2, gTupF, gsCons, gsNil, D.pure, D.pures, Bool.not_true, Bool.not_false, Bool.and_true, Bool.true_and, Bool.and_false, Bool.false_and, Option.bind_some, Option.bind_none, Option.map_some, Option.map_none, bind_ite, map_ite, List.map_cons, List.map_nil, List.replicate, List.cons_append, List.nil_append, List.append_nil, List.getElem?_cons_zero, List.getElem?_cons_succ, List.set_cons_zero, List.set_cons_succ, List.length_cons, List.length_nil, Nat.reduceAdd, Nat.reduceLT, Nat.zero_add, Nat.lt_add_one, if_true, if_false, ite_true, ite_false, decide_eq_true_eq, Bool.false_eq_true, reduceCtorEq, reduceIte, Nat.reduceLeDiff, Nat.reduceEqDiff, e1, fz, g0_eq, h1, pure_poly, ez, Option.map_none] at h2 ⊢
  rw [h2]
  have pu : D.pures ((f.map (szT x)).map fr) = true := pures_fr _
  cases f.find? (great (rsum (f.map (szT x))) x) <;> simp only [val_fnF, zsF_eq, fzAt, D.fz, wpE, mgE, List.contains_cons, List.contains_nil, Nat.reduceBEq, Bool.or_false, Bool.or_true, Bool.false_or, Bool.true_or, seqF_eq, andThen_nx, andThen_bk, andThen_ct, andThen_rt, retV_rt, retV_nx, nxF, bkF, ctF, rtF, rnF, rmF, stF, exF, put, parF, agF, ifS, forF_eq, flF_nil, flF_cons, flK_nx, flK_ct, flK_bk, flK_rt, tbF, ttF, andF, orF, notF, andV, orV, ifF, chF, b1, b2, bN, clF_val, aNil, aCons, nmF, ownF, cF, fzF, itF, inF, itOf, rng1, rng2, yesF, dTru, dNot, I.isi_non_tuple, I.isi_non_list, I.isi_non_bool, I.isi_non_int, I.isi_non_str, I.isi_bl_tuple, I.isi_bl_list, I.isi_bl_bool, I.isi_bl_int, I.isi_bl_str, I.isi_int_tuple, I.isi_int_list, I.isi_int_bool, I.isi_int_int, I.isi_int_str, I.isi_str_tuple, I.isi_str_list, I.isi_str_bool, I.isi_str_int, I.isi_str_str, I.isi_tup_tuple, I.isi_tup_list, I.isi_tup_bool, I.isi_tup_int, I.isi_tup_str, I.isi_lst_tuple, I.isi_lst_list, I.isi_lst_bool, I.isi_lst_int, I.isi_lst_str, I.isi_scr_tuple, I.isi_scr_list, I.isi_scr_bool, I.isi_scr_int, I.isi_scr_str, dEq_bl, dNe_bl, dIsN_non, dIsN_bl, dIsN_int, dIsN_str, dIsN_tup, dIsN_lst, dAdd_int, dSub_int, dEq_int, dNe_int, dLt_int, dLe_int, dGt_int, dGe_int, dAddI_int, asB_bl, dIx_tup0, dIx_tup1, fLen, fAbs, fInt, fMax2, fMin2, gTupF, gsCons, gsNil, D.pure, D.pures, Bool.not_true, Bool.not_false, Bool.and_true, Bool.true_and, Bool.and_false, Bool.false_and, Option.bind_some, Option.bind_none, Option.map_some, Option.map_none, bind_ite, map_ite, List.map_cons, List.map_nil, List.replicate, List.cons_append, List.nil_append, List.append_nil, List.getElem?_cons_zero, List.getElem?_cons_succ, List.set_cons_zero, List.set_cons_succ, List.length_cons, List.length_nil, Nat.reduceAdd, Nat.reduceLT, Nat.zero_add, Nat.lt_add_one, if_true, if_false, ite_true, ite_false, decide_eq_true_eq, Bool.false_eq_true, reduceCtorEq, reduceIte, Nat.reduceLeDiff, Nat.reduceEqDiff, pu, pure_key]
end
end G46

set_option Elab.async false
set_option linter.all false
set_option maxRecDepth 100000
set_option maxHeartbeats 1000000
namespace G46
open PySem L2 Pz
noncomputable section
/-! values within each other; what equals itself -/
theorem wl_key {k : List Int} (h : k.length ≤ 1000) : Wl 1000 1 (keyD k) := Wl.tup (h := 0) (fun x hx => by
  obtain ⟨i, _, rfl⟩ := List.mem_map.mp hx
  exact Wl.int i) (by simpa using h) (by omega)
theorem wl_fr (q : Rat) : Wl 1000 1 (fr q) := by
  rw [fr_def]
  exact Wl.tup (h := 0) (fun x hx => by
    simp only [List.mem_cons, List.not_mem_nil, or_false] at hx
    rcases hx with rfl | rfl <;> exact Wl.int _) (by simp) (by omega)
theorem wl_term {t : Row} (h : t.1.length ≤ 1000) : Wl 1000 2 (termD t) := Wl.tup (h := 1) (fun x hx => by
  simp only [List.mem_cons, List.not_mem_nil, or_false] at hx
  rcases hx with rfl | rfl
  · exact wl_key h
  · exact wl_fr _) (by simp) (by omega)
theorem wl_poly {p : List Row} (h : ∀ t ∈ p, t.1.length ≤ 1000) (hl : p.length ≤ 1000) : Wl 1000 3 (polyD p) := Wl.tup (h := 2) (fun x hx => by
  obtain ⟨t, ht, rfl⟩ := List.mem_map.mp hx
  exact wl_term (h t ht)) (by simpa using hl) (by omega)
theorem dNe_self {d : D} {w h : Nat} (k : Wl w h d) (hh : h ≤ 30) : dNe d d = some (.bl false) := by
  have s := D.nice_shp k.nice (by have := k.dep; omega)
  unfold dNe
  rw [if_pos ⟨s, s⟩, SeqAt.eqv_refl _ (SeqAt.canLay_of_shaped s)]
  rfl
theorem dEq_nil {p : List Row} (h : ∀ t ∈ p, t.1.length ≤ 1000) (hl : p.length ≤ 1000) : dEq (polyD p) (.tup []) = some (.bl (decide (p = []))) := by
  have k := wl_poly h hl
  have s := D.nice_shp k.nice (by have := k.dep; omega)
  have k0 := wl_poly (p := []) (by simp) (by simp)
  have s0 := D.nice_shp k0.nice (by have := k0.dep; omega)
  unfold dEq
  rw [if_pos ⟨s, s0⟩]
  cases p with
  | nil => rfl
  | cons t p => simp [polyD, D.py, D.pys, PyData.eqv, PyData.eqvAll]
end
end G46

set_option Elab.async false
set_option linter.all false
set_option maxRecDepth 100000
set_option maxHeartbeats 2000000
namespace G46
open PySem L2 Pz
noncomputable section
abbrev EV (a0 a1 a2 a3 a4 a5 a6 a7 a8 a9 a10 a11 a12 a13 a14 a15 a16 a17 a18 : Option D) : En := [a0, a1, a2, a3, a4, a5, a6, a7, a8, a9, a10, a11, a12, a13, a14, a15, a16, a17, a18]
structure Ff (n B : Nat) (f : List Row) : Prop where
  key : ∀ t ∈ f, t.1.length = n ∧ ∀ e ∈ t.1, 0 ≤ e ∧ e ≤ ((3 : Nat) : Int)
  md : ∀ t ∈ f, Md 24 B t.2
  len : f.length ≤ 5
theorem Ff.pol {n B : Nat} {f : List Row} (h : Ff n B f) (n1 : 1 ≤ n) (n3 : n ≤ 3) (hB : B < 2 ^ 100) : Pol n 3 24 B f := ⟨n1, by omega, by omega, h.key, by have := h.len; omega, h.md, by omega, by decide, hB⟩
theorem Ff.mono {n B C : Nat} {f : List Row} (h : Ff n B f) (hB : B ≤ C) : Ff n C f := ⟨h.key, fun t ht => (h.md t ht).mono hB, h.len⟩
theorem t1e (a : D) : dTup [a] = some (.tup [a]) := dTup_le (by simp)
theorem band1 {e : Int} (h : 0 ≤ e) : Builtin.bitAnd e 1 = e % 2 := by have := PySem.W.kbt_mask e 1; simpa using this
theorem tup_poly (p : List Row) : fTuple [.lst true (p.map termD)] = some (polyD p) := by
  simp only [fTuple, polyD]; rw [if_pos (pures_terms _)]
theorem tup_vec (x : List Rat) : fTuple [.lst true (x.map fr)] = some (vecD x) := by
  simp only [fTuple, vecD]; rw [if_pos (pures_fr _)]
theorem sl_poly (t : Row) (f : List Row) : dSl (polyD (t :: f)) (some 1) none = some (polyD f) := by
  have e : cutD ((t :: f).map termD) (some 1) none = f.map termD := by
    unfold cutD
    rw [show HT.sIx ((t :: f).map termD).length 0 (some 1) = 1 from by rw [show (1 : Int) = ((1 : Nat) : Int) from rfl, HT.sIx_nat]; simp]
    show List.take (((t :: f).map termD).length - 1) (f.map termD) = _
    exact List.take_of_length_le (by simp)
  simp only [dSl, polyD, pures_terms, if_true, e]
theorem ix_poly {f : List Row} {k : Nat} (h : k < f.length) : dIx (polyD f) (.int (k : Int)) = some (termD (f.getD k ([], 0))) := by
  simp [polyD, dIx_tupN, h]
theorem rad_ok (z : Int) : ∃ q c, dIx (.lst true [.int 1, .int 1, .int 3, .int 10]) (.int (z / 9 % 4)) = some (.int c) ∧ val F__law_frac [.int (1 + z % 9), .int c] = some (fr q) ∧ Md 30 270 q := by
  have h1 := Int.emod_nonneg z (show (9 : Int) ≠ 0 by omega)
  have h2 := Int.emod_lt_of_pos z (show (0 : Int) < 9 by omega)
  have : z / 9 % 4 = 0 ∨ z / 9 % 4 = 1 ∨ z / 9 % 4 = 2 ∨ z / 9 % 4 = 3 := by omega
  have two : ∀ c : Int, c.natAbs < 2 ^ 60 → c.natAbs < 2 ^ 4000 := fun c h => Nat.lt_of_lt_of_le h (Nat.pow_le_pow_right (by omega) (by omega))
  rcases this with e | e | e | e <;> rw [e]
  · exact ⟨Rat.divInt (1 + z % 9) 1, 1, by rw [show (0 : Int) = ((0 : Nat) : Int) from rfl, dIx_lstN]; rfl, lfrac_eq (by decide) (two _ (by decide)), Md.of (by decide) 30 (by decide) (by decide) (by omega)⟩
  · exact ⟨Rat.divInt (1 + z % 9) 1, 1, by rw [show (1 : Int) = ((1 : Nat) : Int) from rfl, dIx_lstN]; rfl, lfrac_eq (by decide) (two _ (by decide)), Md.of (by decide) 30 (by decide) (by decide) (by omega)⟩
  · exact ⟨Rat.divInt (1 + z % 9) 3, 3, by rw [show (2 : Int) = ((2 : Nat) : Int) from rfl, dIx_lstN]; rfl, lfrac_eq (by decide) (two _ (by decide)), Md.of (by decide) 10 (by decide) (by decide) (by omega)⟩
  · exact ⟨Rat.divInt (1 + z % 9) 10, 10, by rw [show (3 : Int) = ((3 : Nat) : Int) from rfl, dIx_lstN]; rfl, lfrac_eq (by decide) (two _ (by decide)), Md.of (by decide) 3 (by decide) (by decide) (by omega)⟩
theorem Nb.n {q : Rat} (h : Nb q) : q.num.natAbs < 2 ^ 2000 := h.a
theorem lbelow_eq {x y : Rat} (hx : Nb x) (hy : Nb y) : val F__law_below [fr x, fr y] = some (.bl (decide (x < y))) := by
  have z0 : dTup [] = some (.tup []) := dTup_le (by simp)
  have m1 : mulOk x.num (y.den : Int) = true := mulOk_of hx.a hy.d
  have m2 : mulOk y.num (x.den : Int) = true := mulOk_of hy.a hx.d
  have d1 : dIx (fr x) (.int 0) = some (.int x.num) := dIx_tup0
  have d2 : dIx (fr x) (.int 1) = some (.int x.den) := dIx_tup1
  have d3 : dIx (fr y) (.int 0) = some (.int y.num) := dIx_tup0
  have d4 : dIx (fr y) (.int 1) = some (.int y.den) := dIx_tup1
  simp only [F__law_below, val_fnF, zsF_eq, fzAt, D.fz, wpE, mgE, List.contains_cons, List.contains_nil, Nat.reduceBEq, Bool.or_false, Bool.or_true, Bool.false_or, Bool.true_or, seqF_eq, andThen_nx, andThen_bk, andThen_ct, andThen_rt, retV_rt, retV_nx, nxF, bkF, ctF, rtF, rnF, rmF, stF, exF, put, parF, agF, ifS, forF_eq, flF_nil, flF_cons, flK_nx, flK_ct, flK_bk, flK_rt, tbF, ttF, andF, orF, notF, andV, orV, ifF, chF, b1, b2, bN, clF_val, aNil, aCons, nmF, ownF, cF, fzF, itF, inF, itOf, rng1, rng2, yesF, dTru, dNot, I.isi_non_tuple, I.isi_non_list, I.isi_non_bool, I.isi_non_int, I.isi_non_str, I.isi_bl_tuple, I.isi_bl_list, I.isi_bl_bool, I.isi_bl_int, I.isi_bl_str, I.isi_int_tuple, I.isi_int_list, I.isi_int_bool, I.isi_int_int, I.isi_int_str, I.isi_str_tuple, I.isi_str_list, I.isi_str_bool, I.isi_str_int, I.isi_str_str, I.isi_tup_tuple, I.isi_tup_list, I.isi_tup_bool, I.isi_tup_int, I.isi_tup_str, I.isi_lst_tuple, I.isi_lst_list, I.isi_lst_bool, I.isi_lst_int, I.isi_lst_str, I.isi_scr_tuple, I.isi_scr_list, I.isi_scr_bool, I.isi_scr_int, I.isi_scr_str, dEq_bl, dNe_bl, dIsN_non, dIsN_bl, dIsN_int, dIsN_str, dIsN_tup, dIsN_lst, dAdd_int, dSub_int, dEq_int, dNe_int, dLt_int, dLe_int, dGt_int, dGe_int, dAddI_int, asB_bl, dIx_tup0, dIx_tup1, fLen, fAbs, fInt, fMax2, fMin2, gTupF, gsCons, gsNil, D.pure, D.pures, Bool.not_true, Bool.not_false, Bool.and_true, Bool.true_and, Bool.and_false, Bool.false_and, Option.bind_some, Option.bind_none, Option.map_some, Option.map_none, bind_ite, map_ite, List.map_cons, List.map_nil, List.replicate, List.cons_append, List.nil_append, List.append_nil, List.getElem?_cons_zero, List.getElem?_cons_succ, List.set_cons_zero, List.set_cons_succ, List.length_cons, List.length_nil, Nat.reduceAdd, Nat.reduceLT, Nat.zero_add, Nat.lt_add_one, if_true, if_false, ite_true, ite_false, decide_eq_true_eq, Bool.false_eq_true, reduceCtorEq, reduceIte, Nat.reduceLeDiff, Nat.reduceEqDiff, z0, dEq_frn, d1, d2, d3, d4, dMul, m1, m2]
  congr 3
  exact propext (Rat.lt_iff _ _).symm
abbrev E0 (s : D) (dg : Int) (nums : List Int) (n : Nat) (f : List Row) (a5 a6 a7 a8 a9 a10 a11 a12 a13 a14 a15 a16 a17 a18 : Option D) : En := EV (some s) (some (.int dg)) (some (.lst false (nums.map .int))) (some (.int n)) (some (polyD f)) a5 a6 a7 a8 a9 a10 a11 a12 a13 a14 a15 a16 a17 a18
section
variable {s : D} {dg : Int} {nums : List Int} {n : Nat} {f : List Row} {x : List Rat}
theorem step5 (n1 : 1 ≤ n) (n3 : n ≤ 3) (hf : Ff n 29400 f) : ∃ g, Ff n 29400 g ∧ g ≠ [] ∧
    S_law_5 (E0 s dg nums n f none none none none none none none none none none none none none none) = S_law_6 (E0 s dg nums n g none none none none none none none none none none none none none none) := by
  have z0 : dTup [] = some (.tup []) := dTup_le (by simp)
  have hl := hf.len
  have en := dEq_nil (p := f) (fun t ht => by have := (hf.key t ht).1; omega) (by omega)
  by_cases h : f = []
  · have tm := dTmu_eq (a := [.int 1]) (k := n) rfl (by simp) n1 (by omega) (by simp)
    have kr : D.tup (List.replicate n [D.int 1]).flatten = keyD (List.replicate n 1) := by simp [keyD]
    rw [kr] at tm
    have f32 : D.tup [.int 3, .int 2] = fr (Rat.divInt 3 2) := by rw [fr_divInt (by omega)]; rfl
    have kt : D.tup [keyD (List.replicate n 1), fr (Rat.divInt 3 2)] = termD (List.replicate n 1, Rat.divInt 3 2) := rfl
    have kp : D.tup [termD (List.replicate n 1, Rat.divInt 3 2)] = polyD [(List.replicate n 1, Rat.divInt 3 2)] := rfl
    refine ⟨[(List.replicate n 1, Rat.divInt 3 2)], ⟨fun t ht => ?_, fun t ht => ?_, by simp⟩, by simp, ?_⟩
    · rw [List.mem_singleton.mp ht]
      refine ⟨by simp, fun e he => ?_⟩
      rw [List.eq_of_mem_replicate he]; omega
    · rw [List.mem_singleton.mp ht]
      exact (Md.of (a := 3) (b := 2) (N := 24) (B := 36) (by decide) 12 (by decide) (by decide) (by decide)).mono (by omega)
    · subst h
      have en : dEq (polyD []) (.tup []) = some (.bl true) := by simpa using en
      simp only [S_law_5, E0, EV, val_fnF, zsF_eq, fzAt, D.fz, wpE, mgE, List.contains_cons, List.contains_nil, Nat.reduceBEq, Bool.or_false, Bool.or_true, Bool.false_or, Bool.true_or, seqF_eq, andThen_nx, andThen_bk, andThen_ct, andThen_rt, retV_rt, retV_nx, nxF, bkF, ctF, rtF, rnF, rmF, stF, exF, put, parF, agF, ifS, forF_eq, flF_nil, flF_cons, flK_nx, flK_ct, flK_bk, flK_rt, tbF, ttF, andF, orF, notF, andV, orV, ifF, chF, b1, b2, bN, clF_val, aNil, aCons, nmF, ownF, cF, fzF, itF, inF, itOf, rng1, rng2, yesF, dTru, dNot, I.isi_non_tuple, I.isi_non_list, I.isi_non_bool, I.isi_non_int, I.isi_non_str, I.isi_bl_tuple, I.isi_bl_list, I.isi_bl_bool, I.isi_bl_int, I.isi_bl_str, I.isi_int_tuple, I.isi_int_list, I.isi_int_bool, I.isi_int_int, I.isi_int_str, I.isi_str_tuple, I.isi_str_list, I.isi_str_bool, I.isi_str_int, I.isi_str_str, I.isi_tup_tuple, I.isi_tup_list, I.isi_tup_bool, I.isi_tup_int, I.isi_tup_str, I.isi_lst_tuple, I.isi_lst_list, I.isi_lst_bool, I.isi_lst_int, I.isi_lst_str, I.isi_scr_tuple, I.isi_scr_list, I.isi_scr_bool, I.isi_scr_int, I.isi_scr_str, dEq_bl, dNe_bl, dIsN_non, dIsN_bl, dIsN_int, dIsN_str, dIsN_tup, dIsN_lst, dAdd_int, dSub_int, dEq_int, dNe_int, dLt_int, dLe_int, dGt_int, dGe_int, dAddI_int, asB_bl, dIx_tup0, dIx_tup1, fLen, fAbs, fInt, fMax2, fMin2, gTupF, gsCons, gsNil, D.pure, D.pures, Bool.not_true, Bool.not_false, Bool.and_true, Bool.true_and, Bool.and_false, Bool.false_and, Option.bind_some, Option.bind_none, Option.map_some, Option.map_none, bind_ite, map_ite, List.map_cons, List.map_nil, List.replicate, List.cons_append, List.nil_append, List.append_nil, List.getElem?_cons_zero, List.getElem?_cons_succ, List.set_cons_zero, List.set_cons_succ, List.length_cons, List.length_nil, Nat.reduceAdd, Nat.reduceLT, Nat.zero_add, Nat.lt_add_one, if_true, if_false, ite_true, ite_false, decide_eq_true_eq, Bool.false_eq_true, reduceCtorEq, reduceIte, Nat.reduceLeDiff, Nat.reduceEqDiff, z0, en, decide_true, t1e, tm, t2_eq, f32, kt, kp, pure_key, pure_fr]
  · refine ⟨f, hf, h, ?_⟩
    simp only [S_law_5, E0, EV, val_fnF, zsF_eq, fzAt, D.fz, wpE, mgE, List.contains_cons, List.contains_nil, Nat.reduceBEq, Bool.or_false, Bool.or_true, Bool.false_or, Bool.true_or, seqF_eq, andThen_nx, andThen_bk, andThen_ct, andThen_rt, retV_rt, retV_nx, nxF, bkF, ctF, rtF, rnF, rmF, stF, exF, put, parF, agF, ifS, forF_eq, flF_nil, flF_cons, flK_nx, flK_ct, flK_bk, flK_rt, tbF, ttF, andF, orF, notF, andV, orV, ifF, chF, b1, b2, bN, clF_val, aNil, aCons, nmF, ownF, cF, fzF, itF, inF, itOf, rng1, rng2, yesF, dTru, dNot, I.isi_non_tuple, I.isi_non_list, I.isi_non_bool, I.isi_non_int, I.isi_non_str, I.isi_bl_tuple, I.isi_bl_list, I.isi_bl_bool, I.isi_bl_int, I.isi_bl_str, I.isi_int_tuple, I.isi_int_list, I.isi_int_bool, I.isi_int_int, I.isi_int_str, I.isi_str_tuple, I.isi_str_list, I.isi_str_bool, I.isi_str_int, I.isi_str_str, I.isi_tup_tuple, I.isi_tup_list, I.isi_tup_bool, I.isi_tup_int, I.isi_tup_str, I.isi_lst_tuple, I.isi_lst_list, I.isi_lst_bool, I.isi_lst_int, I.isi_lst_str, I.isi_scr_tuple, I.isi_scr_list, I.isi_scr_bool, I.isi_scr_int, I.isi_scr_str, dEq_bl, dNe_bl, dIsN_non, dIsN_bl, dIsN_int, dIsN_str, dIsN_tup, dIsN_lst, dAdd_int, dSub_int, dEq_int, dNe_int, dLt_int, dLe_int, dGt_int, dGe_int, dAddI_int, asB_bl, dIx_tup0, dIx_tup1, fLen, fAbs, fInt, fMax2, fMin2, gTupF, gsCons, gsNil, D.pure, D.pures, Bool.not_true, Bool.not_false, Bool.and_true, Bool.true_and, Bool.and_false, Bool.false_and, Option.bind_some, Option.bind_none, Option.map_some, Option.map_none, bind_ite, map_ite, List.map_cons, List.map_nil, List.replicate, List.cons_append, List.nil_append, List.append_nil, List.getElem?_cons_zero, List.getElem?_cons_succ, List.set_cons_zero, List.set_cons_succ, List.length_cons, List.length_nil, Nat.reduceAdd, Nat.reduceLT, Nat.zero_add, Nat.lt_add_one, if_true, if_false, ite_true, ite_false, decide_eq_true_eq, Bool.false_eq_true, reduceCtorEq, reduceIte, Nat.reduceLeDiff, Nat.reduceEqDiff, z0, en, h, decide_false]
theorem step6 (n1 : 1 ≤ n) (n3 : n ≤ 3) (hn : 9 ≤ nums.length) : ∃ x, Ptv n 30 270 x ∧
    S_law_6 (E0 s dg nums n f none none none none none none none none none none none none none none) = S_law_7 (E0 s dg nums n f (some (vecD x)) none none none none none none none none none none none none none) := by
  obtain ⟨acc, e, h1, ⟨x, rfl, hx, rfl⟩, hlen⟩ := lcF_rel (vs := [17]) (FI := inF rng1 (aCons (nmO 3) aNil)) (FT := put 17) (FE := E_law_1)
    (env := E0 s dg nums n f none none none none none none none none none none none none none none)
    (env' := E0 s dg nums n f none none none none none none none none none none none none none none)
    (fun i : Nat => D.int (i : Int)) (fun acc e => ∃ l : List Rat, acc = l.map fr ∧ (∀ q ∈ l, Md 30 270 q) ∧ e = E0 s dg nums n f none none none none none none none none none none none none none none) (List.range n)
    (by simp only [E0, EV, val_fnF, zsF_eq, fzAt, D.fz, wpE, mgE, List.contains_cons, List.contains_nil, Nat.reduceBEq, Bool.or_false, Bool.or_true, Bool.false_or, Bool.true_or, seqF_eq, andThen_nx, andThen_bk, andThen_ct, andThen_rt, retV_rt, retV_nx, nxF, bkF, ctF, rtF, rnF, rmF, stF, exF, put, parF, agF, ifS, forF_eq, flF_nil, flF_cons, flK_nx, flK_ct, flK_bk, flK_rt, tbF, ttF, andF, orF, notF, andV, orV, ifF, chF, b1, b2, bN, clF_val, aNil, aCons, nmF, ownF, cF, fzF, itF, inF, itOf, rng1, rng2, yesF, dTru, dNot, I.isi_non_tuple, I.isi_non_list, I.isi_non_bool, I.isi_non_int, I.isi_non_str, I.isi_bl_tuple, I.isi_bl_list, I.isi_bl_bool, I.isi_bl_int, I.isi_bl_str, I.isi_int_tuple, I.isi_int_list, I.isi_int_bool, I.isi_int_int, I.isi_int_str, I.isi_str_tuple, I.isi_str_list, I.isi_str_bool, I.isi_str_int, I.isi_str_str, I.isi_tup_tuple, I.isi_tup_list, I.isi_tup_bool, I.isi_tup_int, I.isi_tup_str, I.isi_lst_tuple, I.isi_lst_list, I.isi_lst_bool, I.isi_lst_int, I.isi_lst_str, I.isi_scr_tuple, I.isi_scr_list, I.isi_scr_bool, I.isi_scr_int, I.isi_scr_str, dEq_bl, dNe_bl, dIsN_non, dIsN_bl, dIsN_int, dIsN_str, dIsN_tup, dIsN_lst, dAdd_int, dSub_int, dEq_int, dNe_int, dLt_int, dLe_int, dGt_int, dGe_int, dAddI_int, asB_bl, dIx_tup0, dIx_tup1, fLen, fAbs, fInt, fMax2, fMin2, gTupF, gsCons, gsNil, D.pure, D.pures, Bool.not_true, Bool.not_false, Bool.and_true, Bool.true_and, Bool.and_false, Bool.false_and, Option.bind_some, Option.bind_none, Option.map_some, Option.map_none, bind_ite, map_ite, List.map_cons, List.map_nil, List.replicate, List.cons_append, List.nil_append, List.append_nil, List.getElem?_cons_zero, List.getElem?_cons_succ, List.set_cons_zero, List.set_cons_succ, List.length_cons, List.length_nil, Nat.reduceAdd, Nat.reduceLT, Nat.zero_add, Nat.lt_add_one, if_true, if_false, ite_true, ite_false, decide_eq_true_eq, Bool.false_eq_true, reduceCtorEq, reduceIte, Nat.reduceLeDiff, Nat.reduceEqDiff, rg_of (show n ≤ 1000000 by omega), Int.toNat_natCast]) (by simp; omega) (by simp [okE]) ⟨[], rfl, by simp, by simp only [E0, EV, val_fnF, zsF_eq, fzAt, D.fz, wpE, mgE, List.contains_cons, List.contains_nil, Nat.reduceBEq, Bool.or_false, Bool.or_true, Bool.false_or, Bool.true_or, seqF_eq, andThen_nx, andThen_bk, andThen_ct, andThen_rt, retV_rt, retV_nx, nxF, bkF, ctF, rtF, rnF, rmF, stF, exF, put, parF, agF, ifS, forF_eq, flF_nil, flF_cons, flK_nx, flK_ct, flK_bk, flK_rt, tbF, ttF, andF, orF, notF, andV, orV, ifF, chF, b1, b2, bN, clF_val, aNil, aCons, nmF, ownF, cF, fzF, itF, inF, itOf, rng1, rng2, yesF, dTru, dNot, I.isi_non_tuple, I.isi_non_list, I.isi_non_bool, I.isi_non_int, I.isi_non_str, I.isi_bl_tuple, I.isi_bl_list, I.isi_bl_bool, I.isi_bl_int, I.isi_bl_str, I.isi_int_tuple, I.isi_int_list, I.isi_int_bool, I.isi_int_int, I.isi_int_str, I.isi_str_tuple, I.isi_str_list, I.isi_str_bool, I.isi_str_int, I.isi_str_str, I.isi_tup_tuple, I.isi_tup_list, I.isi_tup_bool, I.isi_tup_int, I.isi_tup_str, I.isi_lst_tuple, I.isi_lst_list, I.isi_lst_bool, I.isi_lst_int, I.isi_lst_str, I.isi_scr_tuple, I.isi_scr_list, I.isi_scr_bool, I.isi_scr_int, I.isi_scr_str, dEq_bl, dNe_bl, dIsN_non, dIsN_bl, dIsN_int, dIsN_str, dIsN_tup, dIsN_lst, dAdd_int, dSub_int, dEq_int, dNe_int, dLt_int, dLe_int, dGt_int, dGe_int, dAddI_int, asB_bl, dIx_tup0, dIx_tup1, fLen, fAbs, fInt, fMax2, fMin2, gTupF, gsCons, gsNil, D.pure, D.pures, Bool.not_true, Bool.not_false, Bool.and_true, Bool.true_and, Bool.and_false, Bool.false_and, Option.bind_some, Option.bind_none, Option.map_some, Option.map_none, bind_ite, map_ite, List.map_cons, List.map_nil, List.replicate, List.cons_append, List.nil_append, List.append_nil, List.getElem?_cons_zero, List.getElem?_cons_succ, List.set_cons_zero, List.set_cons_succ, List.length_cons, List.length_nil, Nat.reduceAdd, Nat.reduceLT, Nat.zero_add, Nat.lt_add_one, if_true, if_false, ite_true, ite_false, decide_eq_true_eq, Bool.false_eq_true, reduceCtorEq, reduceIte, Nat.reduceLeDiff, Nat.reduceEqDiff]⟩
    fun y hy acc e ⟨l, ha, hl, he⟩ => by
      subst ha he
      have hy' : y < n := List.mem_range.mp hy
      have hz : y + 6 < nums.length := by omega
      have ez : dIx (.lst false (nums.map .int)) (.int ((y : Int) + 6)) = some (.int nums[y + 6]) := by
        rw [show (y : Int) + 6 = ((y + 6 : Nat) : Int) by omega, dIx_lstN, List.getElem?_map, List.getElem?_eq_getElem hz]; rfl
      generalize nums[y + 6] = z at ez
      have ll : dLst [.int 1, .int 1, .int 3, .int 10] = some (.lst true [.int 1, .int 1, .int 3, .int 10]) := dLst_le (by simp)
      obtain ⟨q, c, ec, eq, hq⟩ := rad_ok z
      refine ⟨E0 s dg nums n f none none none none none none none none none none none none (some (.int y)) none, fr q, E0 s dg nums n f none none none none none none none none none none none none (some (.int y)) none, by simp only [E0, EV, val_fnF, zsF_eq, fzAt, D.fz, wpE, mgE, List.contains_cons, List.contains_nil, Nat.reduceBEq, Bool.or_false, Bool.or_true, Bool.false_or, Bool.true_or, seqF_eq, andThen_nx, andThen_bk, andThen_ct, andThen_rt, retV_rt, retV_nx, nxF, bkF, ctF, rtF, rnF, rmF, stF, exF, put, parF, agF, ifS, forF_eq, flF_nil, flF_cons, flK_nx, flK_ct, flK_bk, flK_rt, tbF, ttF, andF, orF, notF, andV, orV, ifF, chF, b1, b2, bN, clF_val, aNil, aCons, nmF, ownF, cF, fzF, itF, inF, itOf, rng1, rng2, yesF, dTru, dNot, I.isi_non_tuple, I.isi_non_list, I.isi_non_bool, I.isi_non_int, I.isi_non_str, I.isi_bl_tuple, I.isi_bl_list, I.isi_bl_bool, I.isi_bl_int, I.isi_bl_str, I.isi_int_tuple, I.isi_int_list, I.isi_int_bool, I.isi_int_int, I.isi_int_str, I.isi_str_tuple, I.isi_str_list, I.isi_str_bool, I.isi_str_int, I.isi_str_str, I.isi_tup_tuple, I.isi_tup_list, I.isi_tup_bool, I.isi_tup_int, I.isi_tup_str, I.isi_lst_tuple, I.isi_lst_list, I.isi_lst_bool, I.isi_lst_int, I.isi_lst_str, I.isi_scr_tuple, I.isi_scr_list, I.isi_scr_bool, I.isi_scr_int, I.isi_scr_str, dEq_bl, dNe_bl, dIsN_non, dIsN_bl, dIsN_int, dIsN_str, dIsN_tup, dIsN_lst, dAdd_int, dSub_int, dEq_int, dNe_int, dLt_int, dLe_int, dGt_int, dGe_int, dAddI_int, asB_bl, dIx_tup0, dIx_tup1, fLen, fAbs, fInt, fMax2, fMin2, gTupF, gsCons, gsNil, D.pure, D.pures, Bool.not_true, Bool.not_false, Bool.and_true, Bool.true_and, Bool.and_false, Bool.false_and, Option.bind_some, Option.bind_none, Option.map_some, Option.map_none, bind_ite, map_ite, List.map_cons, List.map_nil, List.replicate, List.cons_append, List.nil_append, List.append_nil, List.getElem?_cons_zero, List.getElem?_cons_succ, List.set_cons_zero, List.set_cons_succ, List.length_cons, List.length_nil, Nat.reduceAdd, Nat.reduceLT, Nat.zero_add, Nat.lt_add_one, if_true, if_false, ite_true, ite_false, decide_eq_true_eq, Bool.false_eq_true, reduceCtorEq, reduceIte, Nat.reduceLeDiff, Nat.reduceEqDiff], ?_, l ++ [q], by simp, fun r hr => ?_, by simp only [E0, EV, val_fnF, zsF_eq, fzAt, D.fz, wpE, mgE, List.contains_cons, List.contains_nil, Nat.reduceBEq, Bool.or_false, Bool.or_true, Bool.false_or, Bool.true_or, seqF_eq, andThen_nx, andThen_bk, andThen_ct, andThen_rt, retV_rt, retV_nx, nxF, bkF, ctF, rtF, rnF, rmF, stF, exF, put, parF, agF, ifS, forF_eq, flF_nil, flF_cons, flK_nx, flK_ct, flK_bk, flK_rt, tbF, ttF, andF, orF, notF, andV, orV, ifF, chF, b1, b2, bN, clF_val, aNil, aCons, nmF, ownF, cF, fzF, itF, inF, itOf, rng1, rng2, yesF, dTru, dNot, I.isi_non_tuple, I.isi_non_list, I.isi_non_bool, I.isi_non_int, I.isi_non_str, I.isi_bl_tuple, I.isi_bl_list, I.isi_bl_bool, I.isi_bl_int, I.isi_bl_str, I.isi_int_tuple, I.isi_int_list, I.isi_int_bool, I.isi_int_int, I.isi_int_str, I.isi_str_tuple, I.isi_str_list, I.isi_str_bool, I.isi_str_int, I.isi_str_str, I.isi_tup_tuple, I.isi_tup_list, I.isi_tup_bool, I.isi_tup_int, I.isi_tup_str, I.isi_lst_tuple, I.isi_lst_list, I.isi_lst_bool, I.isi_lst_int, I.isi_lst_str, I.isi_scr_tuple, I.isi_scr_list, I.isi_scr_bool, I.isi_scr_int, I.isi_scr_str, dEq_bl, dNe_bl, dIsN_non, dIsN_bl, dIsN_int, dIsN_str, dIsN_tup, dIsN_lst, dAdd_int, dSub_int, dEq_int, dNe_int, dLt_int, dLe_int, dGt_int, dGe_int, dAddI_int, asB_bl, dIx_tup0, dIx_tup1, fLen, fAbs, fInt, fMax2, fMin2, gTupF, gsCons, gsNil, D.pure, D.pures, Bool.not_true, Bool.not_false, Bool.and_true, Bool.true_and, Bool.and_false, Bool.false_and, Option.bind_some, Option.bind_none, Option.map_some, Option.map_none, bind_ite, map_ite, List.map_cons, List.map_nil, List.replicate, List.cons_append, List.nil_append, List.append_nil, List.getElem?_cons_zero, List.getElem?_cons_succ, List.set_cons_zero, List.set_cons_succ, List.length_cons, List.length_nil, Nat.reduceAdd, Nat.reduceLT, Nat.zero_add, Nat.lt_add_one, if_true, if_false, ite_true, ite_false, decide_eq_true_eq, Bool.false_eq_true, reduceCtorEq, reduceIte, Nat.reduceLeDiff, Nat.reduceEqDiff]⟩
      · simp only [E_law_1, E0, EV, val_fnF, zsF_eq, fzAt, D.fz, wpE, mgE, List.contains_cons, List.contains_nil, Nat.reduceBEq, Bool.or_false, Bool.or_true, Bool.false_or, Bool.true_or, seqF_eq, andThen_nx, andThen_bk, andThen_ct, andThen_rt, retV_rt, retV_nx, nxF, bkF, ctF, rtF, rnF, rmF, stF, exF, put, parF, agF, ifS, forF_eq, flF_nil, flF_cons, flK_nx, flK_ct, flK_bk, flK_rt, tbF, ttF, andF, orF, notF, andV, orV, ifF, chF, b1, b2, bN, clF_val, aNil, aCons, nmF, ownF, cF, fzF, itF, inF, itOf, rng1, rng2, yesF, dTru, dNot, I.isi_non_tuple, I.isi_non_list, I.isi_non_bool, I.isi_non_int, I.isi_non_str, I.isi_bl_tuple, I.isi_bl_list, I.isi_bl_bool, I.isi_bl_int, I.isi_bl_str, I.isi_int_tuple, I.isi_int_list, I.isi_int_bool, I.isi_int_int, I.isi_int_str, I.isi_str_tuple, I.isi_str_list, I.isi_str_bool, I.isi_str_int, I.isi_str_str, I.isi_tup_tuple, I.isi_tup_list, I.isi_tup_bool, I.isi_tup_int, I.isi_tup_str, I.isi_lst_tuple, I.isi_lst_list, I.isi_lst_bool, I.isi_lst_int, I.isi_lst_str, I.isi_scr_tuple, I.isi_scr_list, I.isi_scr_bool, I.isi_scr_int, I.isi_scr_str, dEq_bl, dNe_bl, dIsN_non, dIsN_bl, dIsN_int, dIsN_str, dIsN_tup, dIsN_lst, dAdd_int, dSub_int, dEq_int, dNe_int, dLt_int, dLe_int, dGt_int, dGe_int, dAddI_int, asB_bl, dIx_tup0, dIx_tup1, fLen, fAbs, fInt, fMax2, fMin2, gTupF, gsCons, gsNil, D.pure, D.pures, Bool.not_true, Bool.not_false, Bool.and_true, Bool.true_and, Bool.and_false, Bool.false_and, Option.bind_some, Option.bind_none, Option.map_some, Option.map_none, bind_ite, map_ite, List.map_cons, List.map_nil, List.replicate, List.cons_append, List.nil_append, List.append_nil, List.getElem?_cons_zero, List.getElem?_cons_succ, List.set_cons_zero, List.set_cons_succ, List.length_cons, List.length_nil, Nat.reduceAdd, Nat.reduceLT, Nat.zero_add, Nat.lt_add_one, if_true, if_false, ite_true, ite_false, decide_eq_true_eq, Bool.false_eq_true, reduceCtorEq, reduceIte, Nat.reduceLeDiff, Nat.reduceEqDiff, ez, dMod_pos (show (0 : Int) < 9 by decide), dDiv_pos (show (0 : Int) < 9 by decide) (dv 9 (by decide) (by decide)), dMod_pos (show (0 : Int) < 4 by decide), ll, ec, eq]
      · rcases List.mem_append.mp hr with w | w
        · exact hl r w
        · rw [List.mem_singleton.mp w]; exact hq
  refine ⟨x, ⟨by simpa using hlen, hx, by omega, by omega, by omega⟩, ?_⟩
  simp only [E0, EV, mgE, wpE, val_fnF, zsF_eq, fzAt, D.fz, wpE, mgE, List.contains_cons, List.contains_nil, Nat.reduceBEq, Bool.or_false, Bool.or_true, Bool.false_or, Bool.true_or, seqF_eq, andThen_nx, andThen_bk, andThen_ct, andThen_rt, retV_rt, retV_nx, nxF, bkF, ctF, rtF, rnF, rmF, stF, exF, put, parF, agF, ifS, forF_eq, flF_nil, flF_cons, flK_nx, flK_ct, flK_bk, flK_rt, tbF, ttF, andF, orF, notF, andV, orV, ifF, chF, b1, b2, bN, clF_val, aNil, aCons, nmF, ownF, cF, fzF, itF, inF, itOf, rng1, rng2, yesF, dTru, dNot, I.isi_non_tuple, I.isi_non_list, I.isi_non_bool, I.isi_non_int, I.isi_non_str, I.isi_bl_tuple, I.isi_bl_list, I.isi_bl_bool, I.isi_bl_int, I.isi_bl_str, I.isi_int_tuple, I.isi_int_list, I.isi_int_bool, I.isi_int_int, I.isi_int_str, I.isi_str_tuple, I.isi_str_list, I.isi_str_bool, I.isi_str_int, I.isi_str_str, I.isi_tup_tuple, I.isi_tup_list, I.isi_tup_bool, I.isi_tup_int, I.isi_tup_str, I.isi_lst_tuple, I.isi_lst_list, I.isi_lst_bool, I.isi_lst_int, I.isi_lst_str, I.isi_scr_tuple, I.isi_scr_list, I.isi_scr_bool, I.isi_scr_int, I.isi_scr_str, dEq_bl, dNe_bl, dIsN_non, dIsN_bl, dIsN_int, dIsN_str, dIsN_tup, dIsN_lst, dAdd_int, dSub_int, dEq_int, dNe_int, dLt_int, dLe_int, dGt_int, dGe_int, dAddI_int, asB_bl, dIx_tup0, dIx_tup1, fLen, fAbs, fInt, fMax2, fMin2, gTupF, gsCons, gsNil, D.pure, D.pures, Bool.not_true, Bool.not_false, Bool.and_true, Bool.true_and, Bool.and_false, Bool.false_and, Option.bind_some, Option.bind_none, Option.map_some, Option.map_none, bind_ite, map_ite, List.map_cons, List.map_nil, List.replicate, List.cons_append, List.nil_append, List.append_nil, List.getElem?_cons_zero, List.getElem?_cons_succ, List.set_cons_zero, List.set_cons_succ, List.length_cons, List.length_nil, Nat.reduceAdd, Nat.reduceLT, Nat.zero_add, Nat.lt_add_one, if_true, if_false, ite_true, ite_false, decide_eq_true_eq, Bool.false_eq_true, reduceCtorEq, reduceIte, Nat.reduceLeDiff, Nat.reduceEqDiff] at h1
  simp only [S_law_6, E0, EV, val_fnF, zsF_eq, fzAt, D.fz, wpE, mgE, List.contains_cons, List.contains_nil, Nat.reduceBEq, Bool.or_false, Bool.or_true, Bool.false_or, Bool.true_or, seqF_eq, andThen_nx, andThen_bk, andThen_ct, andThen_rt, retV_rt, retV_nx, nxF, bkF, ctF, rtF, rnF, rmF, stF, exF, put, parF, agF, ifS, forF_eq, flF_nil, flF_cons, flK_nx, flK_ct, flK_bk, flK_rt, tbF, ttF, andF, orF, notF, andV, orV, ifF, chF, b1, b2, bN, clF_val, aNil, aCons, nmF, ownF, cF, fzF, itF, inF, itOf, rng1, rng2, yesF, dTru, dNot, I.isi_non_tuple, I.isi_non_list, I.isi_non_bool, I.isi_non_int, I.isi_non_str, I.isi_bl_tuple, I.isi_bl_list, I.isi_bl_bool, I.isi_bl_int, I.isi_bl_str, I.isi_int_tuple, I.isi_int_list, I.isi_int_bool, I.isi_int_int, I.isi_int_str, I.isi_str_tuple, I.isi_str_list, I.isi_str_bool, I.isi_str_int, I.isi_str_str, I.isi_tup_tuple, I.isi_tup_list, I.isi_tup_bool, I.isi_tup_int, I.isi_tup_str, I.isi_lst_tuple, I.isi_lst_list, I.isi_lst_bool, I.isi_lst_int, I.isi_lst_str, I.isi_scr_tuple, I.isi_scr_list, I.isi_scr_bool, I.isi_scr_int, I.isi_scr_str, dEq_bl, dNe_bl, dIsN_non, dIsN_bl, dIsN_int, dIsN_str, dIsN_tup, dIsN_lst, dAdd_int, dSub_int, dEq_int, dNe_int, dLt_int, dLe_int, dGt_int, dGe_int, dAddI_int, asB_bl, dIx_tup0, dIx_tup1, fLen, fAbs, fInt, fMax2, fMin2, gTupF, gsCons, gsNil, D.pure, D.pures, Bool.not_true, Bool.not_false, Bool.and_true, Bool.true_and, Bool.and_false, Bool.false_and, Option.bind_some, Option.bind_none, Option.map_some, Option.map_none, bind_ite, map_ite, List.map_cons, List.map_nil, List.replicate, List.cons_append, List.nil_append, List.append_nil, List.getElem?_cons_zero, List.getElem?_cons_succ, List.set_cons_zero, List.set_cons_succ, List.length_cons, List.length_nil, Nat.reduceAdd, Nat.reduceLT, Nat.zero_add, Nat.lt_add_one, if_true, if_false, ite_true, ite_false, decide_eq_true_eq, Bool.false_eq_true, reduceCtorEq, reduceIte, Nat.reduceLeDiff, Nat.reduceEqDiff, h1, tup_vec]
theorem step7 (hdg : 0 ≤ dg) (n1 : 1 ≤ n) (n3 : n ≤ 3) (hf : Ff n 29400 f) (h0 : f ≠ []) (hx : Ptv n 30 270 x) : ∃ g y o6 o7, Ff n 200000 g ∧ Ptv n 30 270 y ∧
    S_law_7 (E0 s dg nums n f (some (vecD x)) none none none none none none none none none none none none none) = S_law_8 (E0 s dg nums n g (some (vecD y)) (Option.map fr o6) (Option.map termD o7) none none none none none none none none none none none) := by
  have d3 := dDiv_pos (i := dg) (show (0 : Int) < 3 by decide) (dv 3 (by decide) (by decide))
  have m4 := dMod_pos (i := dg / 3) (show (0 : Int) < 4 by decide)
  by_cases h : dg / 3 % 4 = 0
  · obtain ⟨t0, r, rfl⟩ := List.exists_cons_of_ne_nil h0
    have tm := dTmu_eq (a := [fr 1]) (k := n) rfl (by simp) n1 (by omega) (by simp)
    have kr : D.tup (List.replicate n [fr 1]).flatten = vecD (List.replicate n 1) := by simp [vecD]
    rw [kr] at tm
    have rl := hf.len
    simp only [List.length_cons] at rl
    obtain ⟨e, h1, tot, k, o7, rfl, ht, hk, _⟩ := flF_rel (FT := put 7) (FB := L_law_2) termD
      (fun ys e => ∃ (tot : Rat) (k : Nat) (o7 : Option Row), e = E0 s dg nums n (t0 :: r) (some (vecD (List.replicate n 1))) (some (fr tot)) (o7.map termD) none none none none none none none none none none none ∧ Md 24 (k * 29400) tot ∧ k + ys.length ≤ 4 ∧ ∀ t ∈ ys, t ∈ r)
      r (E0 s dg nums n (t0 :: r) (some (vecD (List.replicate n 1))) (some (fr 0)) none none none none none none none none none none none none) ⟨0, 0, none, rfl, Md.zero (by omega), by omega, fun _ h => h⟩
      fun t ys e ⟨tot, k, o7, he, ht, hk, hm⟩ => by
        subst he
        simp only [List.length_cons] at hk
        have tm := hf.md t (List.mem_cons_of_mem _ (hm t (by simp)))
        have e1 : dIx (fr t.2) (.int 0) = some (.int t.2.num) := dIx_tup0
        have e2 : dIx (fr t.2) (.int 1) = some (.int t.2.den) := dIx_tup1
        have pl := lplus_eq (ht.nb1 (by omega) (by omega)) (tm.rab.nb1 (by omega) (by omega))
        have ht2 := ht.add tm.rab
        rw [← Nat.succ_mul] at ht2
        refine ⟨E0 s dg nums n (t0 :: r) (some (vecD (List.replicate n 1))) (some (fr (tot + rab t.2))) (some (termD t)) none none none none none none none none none none none, ?_, tot + rab t.2, k + 1, some t, rfl, ht2, by omega, fun u hu => hm u (by simp [hu])⟩
        simp only [L_law_2, E0, EV, val_fnF, zsF_eq, fzAt, D.fz, wpE, mgE, List.contains_cons, List.contains_nil, Nat.reduceBEq, Bool.or_false, Bool.or_true, Bool.false_or, Bool.true_or, seqF_eq, andThen_nx, andThen_bk, andThen_ct, andThen_rt, retV_rt, retV_nx, nxF, bkF, ctF, rtF, rnF, rmF, stF, exF, put, parF, agF, ifS, forF_eq, flF_nil, flF_cons, flK_nx, flK_ct, flK_bk, flK_rt, tbF, ttF, andF, orF, notF, andV, orV, ifF, chF, b1, b2, bN, clF_val, aNil, aCons, nmF, ownF, cF, fzF, itF, inF, itOf, rng1, rng2, yesF, dTru, dNot, I.isi_non_tuple, I.isi_non_list, I.isi_non_bool, I.isi_non_int, I.isi_non_str, I.isi_bl_tuple, I.isi_bl_list, I.isi_bl_bool, I.isi_bl_int, I.isi_bl_str, I.isi_int_tuple, I.isi_int_list, I.isi_int_bool, I.isi_int_int, I.isi_int_str, I.isi_str_tuple, I.isi_str_list, I.isi_str_bool, I.isi_str_int, I.isi_str_str, I.isi_tup_tuple, I.isi_tup_list, I.isi_tup_bool, I.isi_tup_int, I.isi_tup_str, I.isi_lst_tuple, I.isi_lst_list, I.isi_lst_bool, I.isi_lst_int, I.isi_lst_str, I.isi_scr_tuple, I.isi_scr_list, I.isi_scr_bool, I.isi_scr_int, I.isi_scr_str, dEq_bl, dNe_bl, dIsN_non, dIsN_bl, dIsN_int, dIsN_str, dIsN_tup, dIsN_lst, dAdd_int, dSub_int, dEq_int, dNe_int, dLt_int, dLe_int, dGt_int, dGe_int, dAddI_int, asB_bl, dIx_tup0, dIx_tup1, fLen, fAbs, fInt, fMax2, fMin2, gTupF, gsCons, gsNil, D.pure, D.pures, Bool.not_true, Bool.not_false, Bool.and_true, Bool.true_and, Bool.and_false, Bool.false_and, Option.bind_some, Option.bind_none, Option.map_some, Option.map_none, bind_ite, map_ite, List.map_cons, List.map_nil, List.replicate, List.cons_append, List.nil_append, List.append_nil, List.getElem?_cons_zero, List.getElem?_cons_succ, List.set_cons_zero, List.set_cons_succ, List.length_cons, List.length_nil, Nat.reduceAdd, Nat.reduceLT, Nat.zero_add, Nat.lt_add_one, if_true, if_false, ite_true, ite_false, decide_eq_true_eq, Bool.false_eq_true, reduceCtorEq, reduceIte, Nat.reduceLeDiff, Nat.reduceEqDiff, term1, e1, e2, t2_eq, rab_fr, pl, pure_fr]
    have hk : k ≤ 4 := by simpa using hk
    have mt := ht.mono (C := 117600) (by omega)
    have m12 := dDiv_pos (i := dg) (show (0 : Int) < 12 by decide) (dv 12 (by decide) (by decide))
    have m3 := dMod_pos (i := dg / 12) (show (0 : Int) < 3 by decide)
    have b1' := Int.emod_nonneg (dg / 12) (show (3 : Int) ≠ 0 by omega)
    have b2' := Int.emod_lt_of_pos (dg / 12) (show (0 : Int) < 3 by omega)
    generalize dg / 12 % 3 = c at m3 b1' b2'
    have lf := lfrac_eq (a := c - 1) (b := 3) (by decide) (Nat.lt_of_lt_of_le (show (3 : Int).natAbs < 2 ^ 60 by decide) (Nat.pow_le_pow_right (by omega) (by omega)))
    have mc : Md 24 8 (Rat.divInt (c - 1) 3) := Md.of (by decide) 8 (by decide) (by decide) (by omega)
    have pl := lplus_eq (mt.nb1 (by omega) (by omega)) (mc.nb1 (by omega) (by omega))
    have k0 : dIx (polyD (t0 :: r)) (.int 0) = some (termD t0) := dIx_tup0
    have hx1 : Ptv n 30 270 (List.replicate n 1) := ⟨by simp, fun q hq => by rw [List.eq_of_mem_replicate hq]; exact Md.one (by omega) (by omega), by omega, by omega, by omega⟩
    simp only [E0, EV] at h1
    have itr : itOf (polyD r) = some (r.map termD) := by simp only [polyD, val_fnF, zsF_eq, fzAt, D.fz, wpE, mgE, List.contains_cons, List.contains_nil, Nat.reduceBEq, Bool.or_false, Bool.or_true, Bool.false_or, Bool.true_or, seqF_eq, andThen_nx, andThen_bk, andThen_ct, andThen_rt, retV_rt, retV_nx, nxF, bkF, ctF, rtF, rnF, rmF, stF, exF, put, parF, agF, ifS, forF_eq, flF_nil, flF_cons, flK_nx, flK_ct, flK_bk, flK_rt, tbF, ttF, andF, orF, notF, andV, orV, ifF, chF, b1, b2, bN, clF_val, aNil, aCons, nmF, ownF, cF, fzF, itF, inF, itOf, rng1, rng2, yesF, dTru, dNot, I.isi_non_tuple, I.isi_non_list, I.isi_non_bool, I.isi_non_int, I.isi_non_str, I.isi_bl_tuple, I.isi_bl_list, I.isi_bl_bool, I.isi_bl_int, I.isi_bl_str, I.isi_int_tuple, I.isi_int_list, I.isi_int_bool, I.isi_int_int, I.isi_int_str, I.isi_str_tuple, I.isi_str_list, I.isi_str_bool, I.isi_str_int, I.isi_str_str, I.isi_tup_tuple, I.isi_tup_list, I.isi_tup_bool, I.isi_tup_int, I.isi_tup_str, I.isi_lst_tuple, I.isi_lst_list, I.isi_lst_bool, I.isi_lst_int, I.isi_lst_str, I.isi_scr_tuple, I.isi_scr_list, I.isi_scr_bool, I.isi_scr_int, I.isi_scr_str, dEq_bl, dNe_bl, dIsN_non, dIsN_bl, dIsN_int, dIsN_str, dIsN_tup, dIsN_lst, dAdd_int, dSub_int, dEq_int, dNe_int, dLt_int, dLe_int, dGt_int, dGe_int, dAddI_int, asB_bl, dIx_tup0, dIx_tup1, fLen, fAbs, fInt, fMax2, fMin2, gTupF, gsCons, gsNil, D.pure, D.pures, Bool.not_true, Bool.not_false, Bool.and_true, Bool.true_and, Bool.and_false, Bool.false_and, Option.bind_some, Option.bind_none, Option.map_some, Option.map_none, bind_ite, map_ite, List.map_cons, List.map_nil, List.replicate, List.cons_append, List.nil_append, List.append_nil, List.getElem?_cons_zero, List.getElem?_cons_succ, List.set_cons_zero, List.set_cons_succ, List.length_cons, List.length_nil, Nat.reduceAdd, Nat.reduceLT, Nat.zero_add, Nat.lt_add_one, if_true, if_false, ite_true, ite_false, decide_eq_true_eq, Bool.false_eq_true, reduceCtorEq, reduceIte, Nat.reduceLeDiff, Nat.reduceEqDiff, fzs_terms]
    simp only [itOf] at itr
    by_cases hz : tot = 0
    · subst hz
      refine ⟨t0 :: r, List.replicate n 1, some 0, o7, hf.mono (by omega), hx1, ?_⟩
      simp only [S_law_7, E0, EV, val_fnF, zsF_eq, fzAt, D.fz, wpE, mgE, List.contains_cons, List.contains_nil, Nat.reduceBEq, Bool.or_false, Bool.or_true, Bool.false_or, Bool.true_or, seqF_eq, andThen_nx, andThen_bk, andThen_ct, andThen_rt, retV_rt, retV_nx, nxF, bkF, ctF, rtF, rnF, rmF, stF, exF, put, parF, agF, ifS, forF_eq, flF_nil, flF_cons, flK_nx, flK_ct, flK_bk, flK_rt, tbF, ttF, andF, orF, notF, andV, orV, ifF, chF, b1, b2, bN, clF_val, aNil, aCons, nmF, ownF, cF, fzF, itF, inF, itOf, rng1, rng2, yesF, dTru, dNot, I.isi_non_tuple, I.isi_non_list, I.isi_non_bool, I.isi_non_int, I.isi_non_str, I.isi_bl_tuple, I.isi_bl_list, I.isi_bl_bool, I.isi_bl_int, I.isi_bl_str, I.isi_int_tuple, I.isi_int_list, I.isi_int_bool, I.isi_int_int, I.isi_int_str, I.isi_str_tuple, I.isi_str_list, I.isi_str_bool, I.isi_str_int, I.isi_str_str, I.isi_tup_tuple, I.isi_tup_list, I.isi_tup_bool, I.isi_tup_int, I.isi_tup_str, I.isi_lst_tuple, I.isi_lst_list, I.isi_lst_bool, I.isi_lst_int, I.isi_lst_str, I.isi_scr_tuple, I.isi_scr_list, I.isi_scr_bool, I.isi_scr_int, I.isi_scr_str, dEq_bl, dNe_bl, dIsN_non, dIsN_bl, dIsN_int, dIsN_str, dIsN_tup, dIsN_lst, dAdd_int, dSub_int, dEq_int, dNe_int, dLt_int, dLe_int, dGt_int, dGe_int, dAddI_int, asB_bl, dIx_tup0, dIx_tup1, fLen, fAbs, fInt, fMax2, fMin2, gTupF, gsCons, gsNil, D.pure, D.pures, Bool.not_true, Bool.not_false, Bool.and_true, Bool.true_and, Bool.and_false, Bool.false_and, Option.bind_some, Option.bind_none, Option.map_some, Option.map_none, bind_ite, map_ite, List.map_cons, List.map_nil, List.replicate, List.cons_append, List.nil_append, List.append_nil, List.getElem?_cons_zero, List.getElem?_cons_succ, List.set_cons_zero, List.set_cons_succ, List.length_cons, List.length_nil, Nat.reduceAdd, Nat.reduceLT, Nat.zero_add, Nat.lt_add_one, if_true, if_false, ite_true, ite_false, decide_eq_true_eq, Bool.false_eq_true, reduceCtorEq, reduceIte, Nat.reduceLeDiff, Nat.reduceEqDiff, d3, m4, h, decide_true, t1_eq, t1e, tm, t0_eq, bSl, ptF, ptI, noPt, sl_poly, itr, h1, dNe_fr]
    · have ad : dAdd (.tup [termD (t0.1, tot + Rat.divInt (c - 1) 3)]) (polyD r) = some (polyD ((t0.1, tot + Rat.divInt (c - 1) 3) :: r)) := by
        have lo : lineOk ([termD (t0.1, tot + Rat.divInt (c - 1) 3)].length + (r.map termD).length) = true := tst_of (by simp; omega)
        have p1 : D.pures [termD (t0.1, tot + Rat.divInt (c - 1) 3)] = true := pures_terms [_]
        simp only [polyD, dAdd, p1, pures_terms, lo, and_self, if_true, List.map_cons, List.cons_append, List.nil_append]
      have tk : dTup [keyD t0.1, fr (tot + Rat.divInt (c - 1) 3)] = some (.tup [keyD t0.1, fr (tot + Rat.divInt (c - 1) 3)]) := t2_eq _ _
      have kt : D.tup [keyD t0.1, fr (tot + Rat.divInt (c - 1) 3)] = termD (t0.1, tot + Rat.divInt (c - 1) 3) := rfl
      refine ⟨(t0.1, tot + Rat.divInt (c - 1) 3) :: r, List.replicate n 1, some tot, o7, ⟨fun t ht => ?_, fun t ht => ?_, by simp; omega⟩, hx1, ?_⟩
      · rcases List.mem_cons.mp ht with rfl | w
        · exact hf.key t0 (by simp)
        · exact hf.key t (by simp [w])
      · rcases List.mem_cons.mp ht with rfl | w
        · exact (mt.add mc).mono (by omega)
        · exact (hf.md t (by simp [w])).mono (by omega)
      · simp only [S_law_7, E0, EV, val_fnF, zsF_eq, fzAt, D.fz, wpE, mgE, List.contains_cons, List.contains_nil, Nat.reduceBEq, Bool.or_false, Bool.or_true, Bool.false_or, Bool.true_or, seqF_eq, andThen_nx, andThen_bk, andThen_ct, andThen_rt, retV_rt, retV_nx, nxF, bkF, ctF, rtF, rnF, rmF, stF, exF, put, parF, agF, ifS, forF_eq, flF_nil, flF_cons, flK_nx, flK_ct, flK_bk, flK_rt, tbF, ttF, andF, orF, notF, andV, orV, ifF, chF, b1, b2, bN, clF_val, aNil, aCons, nmF, ownF, cF, fzF, itF, inF, itOf, rng1, rng2, yesF, dTru, dNot, I.isi_non_tuple, I.isi_non_list, I.isi_non_bool, I.isi_non_int, I.isi_non_str, I.isi_bl_tuple, I.isi_bl_list, I.isi_bl_bool, I.isi_bl_int, I.isi_bl_str, I.isi_int_tuple, I.isi_int_list, I.isi_int_bool, I.isi_int_int, I.isi_int_str, I.isi_str_tuple, I.isi_str_list, I.isi_str_bool, I.isi_str_int, I.isi_str_str, I.isi_tup_tuple, I.isi_tup_list, I.isi_tup_bool, I.isi_tup_int, I.isi_tup_str, I.isi_lst_tuple, I.isi_lst_list, I.isi_lst_bool, I.isi_lst_int, I.isi_lst_str, I.isi_scr_tuple, I.isi_scr_list, I.isi_scr_bool, I.isi_scr_int, I.isi_scr_str, dEq_bl, dNe_bl, dIsN_non, dIsN_bl, dIsN_int, dIsN_str, dIsN_tup, dIsN_lst, dAdd_int, dSub_int, dEq_int, dNe_int, dLt_int, dLe_int, dGt_int, dGe_int, dAddI_int, asB_bl, dIx_tup0, dIx_tup1, fLen, fAbs, fInt, fMax2, fMin2, gTupF, gsCons, gsNil, D.pure, D.pures, Bool.not_true, Bool.not_false, Bool.and_true, Bool.true_and, Bool.and_false, Bool.false_and, Option.bind_some, Option.bind_none, Option.map_some, Option.map_none, bind_ite, map_ite, List.map_cons, List.map_nil, List.replicate, List.cons_append, List.nil_append, List.append_nil, List.getElem?_cons_zero, List.getElem?_cons_succ, List.set_cons_zero, List.set_cons_succ, List.length_cons, List.length_nil, Nat.reduceAdd, Nat.reduceLT, Nat.zero_add, Nat.lt_add_one, if_true, if_false, ite_true, ite_false, decide_eq_true_eq, Bool.false_eq_true, reduceCtorEq, reduceIte, Nat.reduceLeDiff, Nat.reduceEqDiff, d3, m4, h, decide_true, t1_eq, t1e, tm, t0_eq, bSl, ptF, ptI, noPt, sl_poly, itr, h1, dNe_fr, hz, decide_false, k0, term0, pure_key, m12, m3, lf, pl, pure_fr, tk, kt, ad]
  · refine ⟨f, x, none, none, hf.mono (by omega), hx, ?_⟩
    simp only [S_law_7, E0, EV, val_fnF, zsF_eq, fzAt, D.fz, wpE, mgE, List.contains_cons, List.contains_nil, Nat.reduceBEq, Bool.or_false, Bool.or_true, Bool.false_or, Bool.true_or, seqF_eq, andThen_nx, andThen_bk, andThen_ct, andThen_rt, retV_rt, retV_nx, nxF, bkF, ctF, rtF, rnF, rmF, stF, exF, put, parF, agF, ifS, forF_eq, flF_nil, flF_cons, flK_nx, flK_ct, flK_bk, flK_rt, tbF, ttF, andF, orF, notF, andV, orV, ifF, chF, b1, b2, bN, clF_val, aNil, aCons, nmF, ownF, cF, fzF, itF, inF, itOf, rng1, rng2, yesF, dTru, dNot, I.isi_non_tuple, I.isi_non_list, I.isi_non_bool, I.isi_non_int, I.isi_non_str, I.isi_bl_tuple, I.isi_bl_list, I.isi_bl_bool, I.isi_bl_int, I.isi_bl_str, I.isi_int_tuple, I.isi_int_list, I.isi_int_bool, I.isi_int_int, I.isi_int_str, I.isi_str_tuple, I.isi_str_list, I.isi_str_bool, I.isi_str_int, I.isi_str_str, I.isi_tup_tuple, I.isi_tup_list, I.isi_tup_bool, I.isi_tup_int, I.isi_tup_str, I.isi_lst_tuple, I.isi_lst_list, I.isi_lst_bool, I.isi_lst_int, I.isi_lst_str, I.isi_scr_tuple, I.isi_scr_list, I.isi_scr_bool, I.isi_scr_int, I.isi_scr_str, dEq_bl, dNe_bl, dIsN_non, dIsN_bl, dIsN_int, dIsN_str, dIsN_tup, dIsN_lst, dAdd_int, dSub_int, dEq_int, dNe_int, dLt_int, dLe_int, dGt_int, dGe_int, dAddI_int, asB_bl, dIx_tup0, dIx_tup1, fLen, fAbs, fInt, fMax2, fMin2, gTupF, gsCons, gsNil, D.pure, D.pures, Bool.not_true, Bool.not_false, Bool.and_true, Bool.true_and, Bool.and_false, Bool.false_and, Option.bind_some, Option.bind_none, Option.map_some, Option.map_none, bind_ite, map_ite, List.map_cons, List.map_nil, List.replicate, List.cons_append, List.nil_append, List.append_nil, List.getElem?_cons_zero, List.getElem?_cons_succ, List.set_cons_zero, List.set_cons_succ, List.length_cons, List.length_nil, Nat.reduceAdd, Nat.reduceLT, Nat.zero_add, Nat.lt_add_one, if_true, if_false, ite_true, ite_false, decide_eq_true_eq, Bool.false_eq_true, reduceCtorEq, reduceIte, Nat.reduceLeDiff, Nat.reduceEqDiff, d3, m4, h, decide_false, Option.map_none]
theorem step8 {o6 : Option Rat} {o7 : Option Row} (hf : Ff n 200000 f) : Ff n 200000 (f.filter fun t => !decide (t.2 = 0)) ∧
    S_law_8 (E0 s dg nums n f (some (vecD x)) (Option.map fr o6) (o7.map termD) none none none none none none none none none none none) = S_law_9 (E0 s dg nums n (f.filter fun t => !decide (t.2 = 0)) (some (vecD x)) (Option.map fr o6) (o7.map termD) none none none none none none none none none none none) := by
  have fl := hf.len
  refine ⟨⟨fun t ht => hf.key t (List.mem_filter.mp ht).1, fun t ht => hf.md t (List.mem_filter.mp ht).1, Nat.le_trans (List.length_filter_le ..) fl⟩, ?_⟩
  have e1 := lcF_filter (vs := [7]) (FI := itF (nmO 4)) (FT := put 7) (FC := I_law_3) (FE := E_law_3) (env := E0 s dg nums n f (some (vecD x)) (Option.map fr o6) (o7.map termD) none none none none none none none none none none none) (env' := E0 s dg nums n f (some (vecD x)) (Option.map fr o6) (o7.map termD) none none none none none none none none none none none)
    termD (fun t => !decide (t.2 = 0)) termD f (by simp only [E0, EV, val_fnF, zsF_eq, fzAt, D.fz, wpE, mgE, List.contains_cons, List.contains_nil, Nat.reduceBEq, Bool.or_false, Bool.or_true, Bool.false_or, Bool.true_or, seqF_eq, andThen_nx, andThen_bk, andThen_ct, andThen_rt, retV_rt, retV_nx, nxF, bkF, ctF, rtF, rnF, rmF, stF, exF, put, parF, agF, ifS, forF_eq, flF_nil, flF_cons, flK_nx, flK_ct, flK_bk, flK_rt, tbF, ttF, andF, orF, notF, andV, orV, ifF, chF, b1, b2, bN, clF_val, aNil, aCons, nmF, ownF, cF, fzF, itF, inF, itOf, rng1, rng2, yesF, dTru, dNot, I.isi_non_tuple, I.isi_non_list, I.isi_non_bool, I.isi_non_int, I.isi_non_str, I.isi_bl_tuple, I.isi_bl_list, I.isi_bl_bool, I.isi_bl_int, I.isi_bl_str, I.isi_int_tuple, I.isi_int_list, I.isi_int_bool, I.isi_int_int, I.isi_int_str, I.isi_str_tuple, I.isi_str_list, I.isi_str_bool, I.isi_str_int, I.isi_str_str, I.isi_tup_tuple, I.isi_tup_list, I.isi_tup_bool, I.isi_tup_int, I.isi_tup_str, I.isi_lst_tuple, I.isi_lst_list, I.isi_lst_bool, I.isi_lst_int, I.isi_lst_str, I.isi_scr_tuple, I.isi_scr_list, I.isi_scr_bool, I.isi_scr_int, I.isi_scr_str, dEq_bl, dNe_bl, dIsN_non, dIsN_bl, dIsN_int, dIsN_str, dIsN_tup, dIsN_lst, dAdd_int, dSub_int, dEq_int, dNe_int, dLt_int, dLe_int, dGt_int, dGe_int, dAddI_int, asB_bl, dIx_tup0, dIx_tup1, fLen, fAbs, fInt, fMax2, fMin2, gTupF, gsCons, gsNil, D.pure, D.pures, Bool.not_true, Bool.not_false, Bool.and_true, Bool.true_and, Bool.and_false, Bool.false_and, Option.bind_some, Option.bind_none, Option.map_some, Option.map_none, bind_ite, map_ite, List.map_cons, List.map_nil, List.replicate, List.cons_append, List.nil_append, List.append_nil, List.getElem?_cons_zero, List.getElem?_cons_succ, List.set_cons_zero, List.set_cons_succ, List.length_cons, List.length_nil, Nat.reduceAdd, Nat.reduceLT, Nat.zero_add, Nat.lt_add_one, if_true, if_false, ite_true, ite_false, decide_eq_true_eq, Bool.false_eq_true, reduceCtorEq, reduceIte, Nat.reduceLeDiff, Nat.reduceEqDiff, pure_poly]; simp only [polyD, val_fnF, zsF_eq, fzAt, D.fz, wpE, mgE, List.contains_cons, List.contains_nil, Nat.reduceBEq, Bool.or_false, Bool.or_true, Bool.false_or, Bool.true_or, seqF_eq, andThen_nx, andThen_bk, andThen_ct, andThen_rt, retV_rt, retV_nx, nxF, bkF, ctF, rtF, rnF, rmF, stF, exF, put, parF, agF, ifS, forF_eq, flF_nil, flF_cons, flK_nx, flK_ct, flK_bk, flK_rt, tbF, ttF, andF, orF, notF, andV, orV, ifF, chF, b1, b2, bN, clF_val, aNil, aCons, nmF, ownF, cF, fzF, itF, inF, itOf, rng1, rng2, yesF, dTru, dNot, I.isi_non_tuple, I.isi_non_list, I.isi_non_bool, I.isi_non_int, I.isi_non_str, I.isi_bl_tuple, I.isi_bl_list, I.isi_bl_bool, I.isi_bl_int, I.isi_bl_str, I.isi_int_tuple, I.isi_int_list, I.isi_int_bool, I.isi_int_int, I.isi_int_str, I.isi_str_tuple, I.isi_str_list, I.isi_str_bool, I.isi_str_int, I.isi_str_str, I.isi_tup_tuple, I.isi_tup_list, I.isi_tup_bool, I.isi_tup_int, I.isi_tup_str, I.isi_lst_tuple, I.isi_lst_list, I.isi_lst_bool, I.isi_lst_int, I.isi_lst_str, I.isi_scr_tuple, I.isi_scr_list, I.isi_scr_bool, I.isi_scr_int, I.isi_scr_str, dEq_bl, dNe_bl, dIsN_non, dIsN_bl, dIsN_int, dIsN_str, dIsN_tup, dIsN_lst, dAdd_int, dSub_int, dEq_int, dNe_int, dLt_int, dLe_int, dGt_int, dGe_int, dAddI_int, asB_bl, dIx_tup0, dIx_tup1, fLen, fAbs, fInt, fMax2, fMin2, gTupF, gsCons, gsNil, D.pure, D.pures, Bool.not_true, Bool.not_false, Bool.and_true, Bool.true_and, Bool.and_false, Bool.false_and, Option.bind_some, Option.bind_none, Option.map_some, Option.map_none, bind_ite, map_ite, List.map_cons, List.map_nil, List.replicate, List.cons_append, List.nil_append, List.append_nil, List.getElem?_cons_zero, List.getElem?_cons_succ, List.set_cons_zero, List.set_cons_succ, List.length_cons, List.length_nil, Nat.reduceAdd, Nat.reduceLT, Nat.zero_add, Nat.lt_add_one, if_true, if_false, ite_true, ite_false, decide_eq_true_eq, Bool.false_eq_true, reduceCtorEq, reduceIte, Nat.reduceLeDiff, Nat.reduceEqDiff, fzs_terms]) (by omega) (by cases o6 <;> cases o7 <;> simp [okE, pure_term, pure_vec, pure_fr])
    fun t ht => ⟨E0 s dg nums n f (some (vecD x)) (Option.map fr o6) (some (termD t)) none none none none none none none none none none none, E0 s dg nums n f (some (vecD x)) (Option.map fr o6) (some (termD t)) none none none none none none none none none none none, by simp only [E0, EV, val_fnF, zsF_eq, fzAt, D.fz, wpE, mgE, List.contains_cons, List.contains_nil, Nat.reduceBEq, Bool.or_false, Bool.or_true, Bool.false_or, Bool.true_or, seqF_eq, andThen_nx, andThen_bk, andThen_ct, andThen_rt, retV_rt, retV_nx, nxF, bkF, ctF, rtF, rnF, rmF, stF, exF, put, parF, agF, ifS, forF_eq, flF_nil, flF_cons, flK_nx, flK_ct, flK_bk, flK_rt, tbF, ttF, andF, orF, notF, andV, orV, ifF, chF, b1, b2, bN, clF_val, aNil, aCons, nmF, ownF, cF, fzF, itF, inF, itOf, rng1, rng2, yesF, dTru, dNot, I.isi_non_tuple, I.isi_non_list, I.isi_non_bool, I.isi_non_int, I.isi_non_str, I.isi_bl_tuple, I.isi_bl_list, I.isi_bl_bool, I.isi_bl_int, I.isi_bl_str, I.isi_int_tuple, I.isi_int_list, I.isi_int_bool, I.isi_int_int, I.isi_int_str, I.isi_str_tuple, I.isi_str_list, I.isi_str_bool, I.isi_str_int, I.isi_str_str, I.isi_tup_tuple, I.isi_tup_list, I.isi_tup_bool, I.isi_tup_int, I.isi_tup_str, I.isi_lst_tuple, I.isi_lst_list, I.isi_lst_bool, I.isi_lst_int, I.isi_lst_str, I.isi_scr_tuple, I.isi_scr_list, I.isi_scr_bool, I.isi_scr_int, I.isi_scr_str, dEq_bl, dNe_bl, dIsN_non, dIsN_bl, dIsN_int, dIsN_str, dIsN_tup, dIsN_lst, dAdd_int, dSub_int, dEq_int, dNe_int, dLt_int, dLe_int, dGt_int, dGe_int, dAddI_int, asB_bl, dIx_tup0, dIx_tup1, fLen, fAbs, fInt, fMax2, fMin2, gTupF, gsCons, gsNil, D.pure, D.pures, Bool.not_true, Bool.not_false, Bool.and_true, Bool.true_and, Bool.and_false, Bool.false_and, Option.bind_some, Option.bind_none, Option.map_some, Option.map_none, bind_ite, map_ite, List.map_cons, List.map_nil, List.replicate, List.cons_append, List.nil_append, List.append_nil, List.getElem?_cons_zero, List.getElem?_cons_succ, List.set_cons_zero, List.set_cons_succ, List.length_cons, List.length_nil, Nat.reduceAdd, Nat.reduceLT, Nat.zero_add, Nat.lt_add_one, if_true, if_false, ite_true, ite_false, decide_eq_true_eq, Bool.false_eq_true, reduceCtorEq, reduceIte, Nat.reduceLeDiff, Nat.reduceEqDiff], by simp only [I_law_3, E0, EV, val_fnF, zsF_eq, fzAt, D.fz, wpE, mgE, List.contains_cons, List.contains_nil, Nat.reduceBEq, Bool.or_false, Bool.or_true, Bool.false_or, Bool.true_or, seqF_eq, andThen_nx, andThen_bk, andThen_ct, andThen_rt, retV_rt, retV_nx, nxF, bkF, ctF, rtF, rnF, rmF, stF, exF, put, parF, agF, ifS, forF_eq, flF_nil, flF_cons, flK_nx, flK_ct, flK_bk, flK_rt, tbF, ttF, andF, orF, notF, andV, orV, ifF, chF, b1, b2, bN, clF_val, aNil, aCons, nmF, ownF, cF, fzF, itF, inF, itOf, rng1, rng2, yesF, dTru, dNot, I.isi_non_tuple, I.isi_non_list, I.isi_non_bool, I.isi_non_int, I.isi_non_str, I.isi_bl_tuple, I.isi_bl_list, I.isi_bl_bool, I.isi_bl_int, I.isi_bl_str, I.isi_int_tuple, I.isi_int_list, I.isi_int_bool, I.isi_int_int, I.isi_int_str, I.isi_str_tuple, I.isi_str_list, I.isi_str_bool, I.isi_str_int, I.isi_str_str, I.isi_tup_tuple, I.isi_tup_list, I.isi_tup_bool, I.isi_tup_int, I.isi_tup_str, I.isi_lst_tuple, I.isi_lst_list, I.isi_lst_bool, I.isi_lst_int, I.isi_lst_str, I.isi_scr_tuple, I.isi_scr_list, I.isi_scr_bool, I.isi_scr_int, I.isi_scr_str, dEq_bl, dNe_bl, dIsN_non, dIsN_bl, dIsN_int, dIsN_str, dIsN_tup, dIsN_lst, dAdd_int, dSub_int, dEq_int, dNe_int, dLt_int, dLe_int, dGt_int, dGe_int, dAddI_int, asB_bl, dIx_tup0, dIx_tup1, fLen, fAbs, fInt, fMax2, fMin2, gTupF, gsCons, gsNil, D.pure, D.pures, Bool.not_true, Bool.not_false, Bool.and_true, Bool.true_and, Bool.and_false, Bool.false_and, Option.bind_some, Option.bind_none, Option.map_some, Option.map_none, bind_ite, map_ite, List.map_cons, List.map_nil, List.replicate, List.cons_append, List.nil_append, List.append_nil, List.getElem?_cons_zero, List.getElem?_cons_succ, List.set_cons_zero, List.set_cons_succ, List.length_cons, List.length_nil, Nat.reduceAdd, Nat.reduceLT, Nat.zero_add, Nat.lt_add_one, if_true, if_false, ite_true, ite_false, decide_eq_true_eq, Bool.false_eq_true, reduceCtorEq, reduceIte, Nat.reduceLeDiff, Nat.reduceEqDiff, term1, t0_eq, dNe_fr], fun _ => ⟨E0 s dg nums n f (some (vecD x)) (Option.map fr o6) (some (termD t)) none none none none none none none none none none none, by simp only [E_law_3, E0, EV, val_fnF, zsF_eq, fzAt, D.fz, wpE, mgE, List.contains_cons, List.contains_nil, Nat.reduceBEq, Bool.or_false, Bool.or_true, Bool.false_or, Bool.true_or, seqF_eq, andThen_nx, andThen_bk, andThen_ct, andThen_rt, retV_rt, retV_nx, nxF, bkF, ctF, rtF, rnF, rmF, stF, exF, put, parF, agF, ifS, forF_eq, flF_nil, flF_cons, flK_nx, flK_ct, flK_bk, flK_rt, tbF, ttF, andF, orF, notF, andV, orV, ifF, chF, b1, b2, bN, clF_val, aNil, aCons, nmF, ownF, cF, fzF, itF, inF, itOf, rng1, rng2, yesF, dTru, dNot, I.isi_non_tuple, I.isi_non_list, I.isi_non_bool, I.isi_non_int, I.isi_non_str, I.isi_bl_tuple, I.isi_bl_list, I.isi_bl_bool, I.isi_bl_int, I.isi_bl_str, I.isi_int_tuple, I.isi_int_list, I.isi_int_bool, I.isi_int_int, I.isi_int_str, I.isi_str_tuple, I.isi_str_list, I.isi_str_bool, I.isi_str_int, I.isi_str_str, I.isi_tup_tuple, I.isi_tup_list, I.isi_tup_bool, I.isi_tup_int, I.isi_tup_str, I.isi_lst_tuple, I.isi_lst_list, I.isi_lst_bool, I.isi_lst_int, I.isi_lst_str, I.isi_scr_tuple, I.isi_scr_list, I.isi_scr_bool, I.isi_scr_int, I.isi_scr_str, dEq_bl, dNe_bl, dIsN_non, dIsN_bl, dIsN_int, dIsN_str, dIsN_tup, dIsN_lst, dAdd_int, dSub_int, dEq_int, dNe_int, dLt_int, dLe_int, dGt_int, dGe_int, dAddI_int, asB_bl, dIx_tup0, dIx_tup1, fLen, fAbs, fInt, fMax2, fMin2, gTupF, gsCons, gsNil, D.pure, D.pures, Bool.not_true, Bool.not_false, Bool.and_true, Bool.true_and, Bool.and_false, Bool.false_and, Option.bind_some, Option.bind_none, Option.map_some, Option.map_none, bind_ite, map_ite, List.map_cons, List.map_nil, List.replicate, List.cons_append, List.nil_append, List.append_nil, List.getElem?_cons_zero, List.getElem?_cons_succ, List.set_cons_zero, List.set_cons_succ, List.length_cons, List.length_nil, Nat.reduceAdd, Nat.reduceLT, Nat.zero_add, Nat.lt_add_one, if_true, if_false, ite_true, ite_false, decide_eq_true_eq, Bool.false_eq_true, reduceCtorEq, reduceIte, Nat.reduceLeDiff, Nat.reduceEqDiff, pure_term], by simp only [E0, EV, val_fnF, zsF_eq, fzAt, D.fz, wpE, mgE, List.contains_cons, List.contains_nil, Nat.reduceBEq, Bool.or_false, Bool.or_true, Bool.false_or, Bool.true_or, seqF_eq, andThen_nx, andThen_bk, andThen_ct, andThen_rt, retV_rt, retV_nx, nxF, bkF, ctF, rtF, rnF, rmF, stF, exF, put, parF, agF, ifS, forF_eq, flF_nil, flF_cons, flK_nx, flK_ct, flK_bk, flK_rt, tbF, ttF, andF, orF, notF, andV, orV, ifF, chF, b1, b2, bN, clF_val, aNil, aCons, nmF, ownF, cF, fzF, itF, inF, itOf, rng1, rng2, yesF, dTru, dNot, I.isi_non_tuple, I.isi_non_list, I.isi_non_bool, I.isi_non_int, I.isi_non_str, I.isi_bl_tuple, I.isi_bl_list, I.isi_bl_bool, I.isi_bl_int, I.isi_bl_str, I.isi_int_tuple, I.isi_int_list, I.isi_int_bool, I.isi_int_int, I.isi_int_str, I.isi_str_tuple, I.isi_str_list, I.isi_str_bool, I.isi_str_int, I.isi_str_str, I.isi_tup_tuple, I.isi_tup_list, I.isi_tup_bool, I.isi_tup_int, I.isi_tup_str, I.isi_lst_tuple, I.isi_lst_list, I.isi_lst_bool, I.isi_lst_int, I.isi_lst_str, I.isi_scr_tuple, I.isi_scr_list, I.isi_scr_bool, I.isi_scr_int, I.isi_scr_str, dEq_bl, dNe_bl, dIsN_non, dIsN_bl, dIsN_int, dIsN_str, dIsN_tup, dIsN_lst, dAdd_int, dSub_int, dEq_int, dNe_int, dLt_int, dLe_int, dGt_int, dGe_int, dAddI_int, asB_bl, dIx_tup0, dIx_tup1, fLen, fAbs, fInt, fMax2, fMin2, gTupF, gsCons, gsNil, D.pure, D.pures, Bool.not_true, Bool.not_false, Bool.and_true, Bool.true_and, Bool.and_false, Bool.false_and, Option.bind_some, Option.bind_none, Option.map_some, Option.map_none, bind_ite, map_ite, List.map_cons, List.map_nil, List.replicate, List.cons_append, List.nil_append, List.append_nil, List.getElem?_cons_zero, List.getElem?_cons_succ, List.set_cons_zero, List.set_cons_succ, List.length_cons, List.length_nil, Nat.reduceAdd, Nat.reduceLT, Nat.zero_add, Nat.lt_add_one, if_true, if_false, ite_true, ite_false, decide_eq_true_eq, Bool.false_eq_true, reduceCtorEq, reduceIte, Nat.reduceLeDiff, Nat.reduceEqDiff]⟩, fun _ => by simp only [E0, EV, val_fnF, zsF_eq, fzAt, D.fz, wpE, mgE, List.contains_cons, List.contains_nil, Nat.reduceBEq, Bool.or_false, Bool.or_true, Bool.false_or, Bool.true_or, seqF_eq, andThen_nx, andThen_bk, andThen_ct, andThen_rt, retV_rt, retV_nx, nxF, bkF, ctF, rtF, rnF, rmF, stF, exF, put, parF, agF, ifS, forF_eq, flF_nil, flF_cons, flK_nx, flK_ct, flK_bk, flK_rt, tbF, ttF, andF, orF, notF, andV, orV, ifF, chF, b1, b2, bN, clF_val, aNil, aCons, nmF, ownF, cF, fzF, itF, inF, itOf, rng1, rng2, yesF, dTru, dNot, I.isi_non_tuple, I.isi_non_list, I.isi_non_bool, I.isi_non_int, I.isi_non_str, I.isi_bl_tuple, I.isi_bl_list, I.isi_bl_bool, I.isi_bl_int, I.isi_bl_str, I.isi_int_tuple, I.isi_int_list, I.isi_int_bool, I.isi_int_int, I.isi_int_str, I.isi_str_tuple, I.isi_str_list, I.isi_str_bool, I.isi_str_int, I.isi_str_str, I.isi_tup_tuple, I.isi_tup_list, I.isi_tup_bool, I.isi_tup_int, I.isi_tup_str, I.isi_lst_tuple, I.isi_lst_list, I.isi_lst_bool, I.isi_lst_int, I.isi_lst_str, I.isi_scr_tuple, I.isi_scr_list, I.isi_scr_bool, I.isi_scr_int, I.isi_scr_str, dEq_bl, dNe_bl, dIsN_non, dIsN_bl, dIsN_int, dIsN_str, dIsN_tup, dIsN_lst, dAdd_int, dSub_int, dEq_int, dNe_int, dLt_int, dLe_int, dGt_int, dGe_int, dAddI_int, asB_bl, dIx_tup0, dIx_tup1, fLen, fAbs, fInt, fMax2, fMin2, gTupF, gsCons, gsNil, D.pure, D.pures, Bool.not_true, Bool.not_false, Bool.and_true, Bool.true_and, Bool.and_false, Bool.false_and, Option.bind_some, Option.bind_none, Option.map_some, Option.map_none, bind_ite, map_ite, List.map_cons, List.map_nil, List.replicate, List.cons_append, List.nil_append, List.append_nil, List.getElem?_cons_zero, List.getElem?_cons_succ, List.set_cons_zero, List.set_cons_succ, List.length_cons, List.length_nil, Nat.reduceAdd, Nat.reduceLT, Nat.zero_add, Nat.lt_add_one, if_true, if_false, ite_true, ite_false, decide_eq_true_eq, Bool.false_eq_true, reduceCtorEq, reduceIte, Nat.reduceLeDiff, Nat.reduceEqDiff]⟩
  simp only [E0, EV, mgE, wpE, val_fnF, zsF_eq, fzAt, D.fz, wpE, mgE, List.contains_cons, List.contains_nil, Nat.reduceBEq, Bool.or_false, Bool.or_true, Bool.false_or, Bool.true_or, seqF_eq, andThen_nx, andThen_bk, andThen_ct, andThen_rt, retV_rt, retV_nx, nxF, bkF, ctF, rtF, rnF, rmF, stF, exF, put, parF, agF, ifS, forF_eq, flF_nil, flF_cons, flK_nx, flK_ct, flK_bk, flK_rt, tbF, ttF, andF, orF, notF, andV, orV, ifF, chF, b1, b2, bN, clF_val, aNil, aCons, nmF, ownF, cF, fzF, itF, inF, itOf, rng1, rng2, yesF, dTru, dNot, I.isi_non_tuple, I.isi_non_list, I.isi_non_bool, I.isi_non_int, I.isi_non_str, I.isi_bl_tuple, I.isi_bl_list, I.isi_bl_bool, I.isi_bl_int, I.isi_bl_str, I.isi_int_tuple, I.isi_int_list, I.isi_int_bool, I.isi_int_int, I.isi_int_str, I.isi_str_tuple, I.isi_str_list, I.isi_str_bool, I.isi_str_int, I.isi_str_str, I.isi_tup_tuple, I.isi_tup_list, I.isi_tup_bool, I.isi_tup_int, I.isi_tup_str, I.isi_lst_tuple, I.isi_lst_list, I.isi_lst_bool, I.isi_lst_int, I.isi_lst_str, I.isi_scr_tuple, I.isi_scr_list, I.isi_scr_bool, I.isi_scr_int, I.isi_scr_str, dEq_bl, dNe_bl, dIsN_non, dIsN_bl, dIsN_int, dIsN_str, dIsN_tup, dIsN_lst, dAdd_int, dSub_int, dEq_int, dNe_int, dLt_int, dLe_int, dGt_int, dGe_int, dAddI_int, asB_bl, dIx_tup0, dIx_tup1, fLen, fAbs, fInt, fMax2, fMin2, gTupF, gsCons, gsNil, D.pure, D.pures, Bool.not_true, Bool.not_false, Bool.and_true, Bool.true_and, Bool.and_false, Bool.false_and, Option.bind_some, Option.bind_none, Option.map_some, Option.map_none, bind_ite, map_ite, List.map_cons, List.map_nil, List.replicate, List.cons_append, List.nil_append, List.append_nil, List.getElem?_cons_zero, List.getElem?_cons_succ, List.set_cons_zero, List.set_cons_succ, List.length_cons, List.length_nil, Nat.reduceAdd, Nat.reduceLT, Nat.zero_add, Nat.lt_add_one, if_true, if_false, ite_true, ite_false, decide_eq_true_eq, Bool.false_eq_true, reduceCtorEq, reduceIte, Nat.reduceLeDiff, Nat.reduceEqDiff] at e1
  simp only [S_law_8, E0, EV, val_fnF, zsF_eq, fzAt, D.fz, wpE, mgE, List.contains_cons, List.contains_nil, Nat.reduceBEq, Bool.or_false, Bool.or_true, Bool.false_or, Bool.true_or, seqF_eq, andThen_nx, andThen_bk, andThen_ct, andThen_rt, retV_rt, retV_nx, nxF, bkF, ctF, rtF, rnF, rmF, stF, exF, put, parF, agF, ifS, forF_eq, flF_nil, flF_cons, flK_nx, flK_ct, flK_bk, flK_rt, tbF, ttF, andF, orF, notF, andV, orV, ifF, chF, b1, b2, bN, clF_val, aNil, aCons, nmF, ownF, cF, fzF, itF, inF, itOf, rng1, rng2, yesF, dTru, dNot, I.isi_non_tuple, I.isi_non_list, I.isi_non_bool, I.isi_non_int, I.isi_non_str, I.isi_bl_tuple, I.isi_bl_list, I.isi_bl_bool, I.isi_bl_int, I.isi_bl_str, I.isi_int_tuple, I.isi_int_list, I.isi_int_bool, I.isi_int_int, I.isi_int_str, I.isi_str_tuple, I.isi_str_list, I.isi_str_bool, I.isi_str_int, I.isi_str_str, I.isi_tup_tuple, I.isi_tup_list, I.isi_tup_bool, I.isi_tup_int, I.isi_tup_str, I.isi_lst_tuple, I.isi_lst_list, I.isi_lst_bool, I.isi_lst_int, I.isi_lst_str, I.isi_scr_tuple, I.isi_scr_list, I.isi_scr_bool, I.isi_scr_int, I.isi_scr_str, dEq_bl, dNe_bl, dIsN_non, dIsN_bl, dIsN_int, dIsN_str, dIsN_tup, dIsN_lst, dAdd_int, dSub_int, dEq_int, dNe_int, dLt_int, dLe_int, dGt_int, dGe_int, dAddI_int, asB_bl, dIx_tup0, dIx_tup1, fLen, fAbs, fInt, fMax2, fMin2, gTupF, gsCons, gsNil, D.pure, D.pures, Bool.not_true, Bool.not_false, Bool.and_true, Bool.true_and, Bool.and_false, Bool.false_and, Option.bind_some, Option.bind_none, Option.map_some, Option.map_none, bind_ite, map_ite, List.map_cons, List.map_nil, List.replicate, List.cons_append, List.nil_append, List.append_nil, List.getElem?_cons_zero, List.getElem?_cons_succ, List.set_cons_zero, List.set_cons_succ, List.length_cons, List.length_nil, Nat.reduceAdd, Nat.reduceLT, Nat.zero_add, Nat.lt_add_one, if_true, if_false, ite_true, ite_false, decide_eq_true_eq, Bool.false_eq_true, reduceCtorEq, reduceIte, Nat.reduceLeDiff, Nat.reduceEqDiff, e1, tup_poly]
end
end
end G46

set_option Elab.async false
set_option linter.all false
set_option maxRecDepth 100000
set_option maxHeartbeats 2000000
namespace G46
open PySem L2 Pz
noncomputable section
section
variable {s : D} {dg : Int} {nums : List Int} {n : Nat} {f : List Row} {x : List Rat} {o6 : Option D}
theorem szlst (f : List Row) (x : List Rat) {k : Nat} (h : k < f.length) : dIx (.lst true ((f.map (szT x)).map fr)) (.int (k : Int)) = some (fr (szT x (f.getD k ([], 0)))) := by
  rw [dIx_lstN]; simp [h]
theorem step9 {o7 : Option D} (hp : Pol n 3 24 200000 f) (hx : Ptv n 30 270 x) : ∃ o7' o9,
    S_law_9 (E0 s dg nums n f (some (vecD x)) o6 o7 none none none none none none none none none none none) = S_law_11 (E0 s dg nums n f (some (vecD x)) o6 o7' (some (.lst true ((f.map (szT x)).map fr))) o9 none none none none none none none none none) := by
  have z0 : dLst [] = some (.lst true []) := dLst_le (by simp)
  obtain ⟨j, e⟩ := flF_append (FT := put 7) (FB := L_law_5) termD (fun t => fr (szT x t)) (fun (acc : List D) (j : Option D × Option D) => E0 s dg nums n f (some (vecD x)) o6 j.1 (some (.lst true acc)) j.2 none none none none none none none none none)
    f [] (o7, none) (by have := hp.len; simp; omega) fun acc j t ht lt => ⟨(some (termD t), some (fr (tv t x))), by
      have lt' := lterm_full (hp.key t ht).1 hp.nE hp.n3 (hp.key t ht).2 (hp.md t ht) hp.N1 hp.B1 hx (P := vecD x) (fun y hy => vec_ix (by rw [hx.len]; exact hy)) (by rw [vec_len, hx.len])
      have lt2 : val F__law_term [termD t, vecD x] = some (fr (tv t x)) := by simp only [val, lt', Option.map_some]
      have d0 : dIx (fr (tv t x)) (.int 0) = some (.int (tv t x).num) := dIx_tup0
      have d1 : dIx (fr (tv t x)) (.int 1) = some (.int (tv t x).den) := dIx_tup1
      simp only [L_law_5, E0, EV, val_fnF, zsF_eq, fzAt, D.fz, wpE, mgE, List.contains_cons, List.contains_nil, Nat.reduceBEq, Bool.or_false, Bool.or_true, Bool.false_or, Bool.true_or, seqF_eq, andThen_nx, andThen_bk, andThen_ct, andThen_rt, retV_rt, retV_nx, nxF, bkF, ctF, rtF, rnF, rmF, stF, exF, put, parF, agF, ifS, forF_eq, flF_nil, flF_cons, flK_nx, flK_ct, flK_bk, flK_rt, tbF, ttF, andF, orF, notF, andV, orV, ifF, chF, b1, b2, bN, clF_val, aNil, aCons, nmF, ownF, cF, fzF, itF, inF, itOf, rng1, rng2, yesF, dTru, dNot, I.isi_non_tuple, I.isi_non_list, I.isi_non_bool, I.isi_non_int, I.isi_non_str, I.isi_bl_tuple, I.isi_bl_list, I.isi_bl_bool, I.isi_bl_int, I.isi_bl_str, I.isi_int_tuple, I.isi_int_list, I.isi_int_bool, I.isi_int_int, I.isi_int_str, I.isi_str_tuple, I.isi_str_list, I.isi_str_bool, I.isi_str_int, I.isi_str_str, I.isi_tup_tuple, I.isi_tup_list, I.isi_tup_bool, I.isi_tup_int, I.isi_tup_str, I.isi_lst_tuple, I.isi_lst_list, I.isi_lst_bool, I.isi_lst_int, I.isi_lst_str, I.isi_scr_tuple, I.isi_scr_list, I.isi_scr_bool, I.isi_scr_int, I.isi_scr_str, dEq_bl, dNe_bl, dIsN_non, dIsN_bl, dIsN_int, dIsN_str, dIsN_tup, dIsN_lst, dAdd_int, dSub_int, dEq_int, dNe_int, dLt_int, dLe_int, dGt_int, dGe_int, dAddI_int, asB_bl, dIx_tup0, dIx_tup1, fLen, fAbs, fInt, fMax2, fMin2, gTupF, gsCons, gsNil, D.pure, D.pures, Bool.not_true, Bool.not_false, Bool.and_true, Bool.true_and, Bool.and_false, Bool.false_and, Option.bind_some, Option.bind_none, Option.map_some, Option.map_none, bind_ite, map_ite, List.map_cons, List.map_nil, List.replicate, List.cons_append, List.nil_append, List.append_nil, List.getElem?_cons_zero, List.getElem?_cons_succ, List.set_cons_zero, List.set_cons_succ, List.length_cons, List.length_nil, Nat.reduceAdd, Nat.reduceLT, Nat.zero_add, Nat.lt_add_one, if_true, if_false, ite_true, ite_false, decide_eq_true_eq, Bool.false_eq_true, reduceCtorEq, reduceIte, Nat.reduceLeDiff, Nat.reduceEqDiff, pure_term, pure_vec, lt2, d0, d1, t2_eq, rab_fr, mtF, isL, mAppend, lt, pure_fr]
      rfl⟩
  have em : f.map (fun t => fr (szT x t)) = (f.map (szT x)).map fr := by simp
  rw [em] at e
  refine ⟨j.1, j.2, ?_⟩
  have itr : itOf (polyD f) = some (f.map termD) := by simp only [polyD, val_fnF, zsF_eq, fzAt, D.fz, wpE, mgE, List.contains_cons, List.contains_nil, Nat.reduceBEq, Bool.or_false, Bool.or_true, Bool.false_or, Bool.true_or, seqF_eq, andThen_nx, andThen_bk, andThen_ct, andThen_rt, retV_rt, retV_nx, nxF, bkF, ctF, rtF, rnF, rmF, stF, exF, put, parF, agF, ifS, forF_eq, flF_nil, flF_cons, flK_nx, flK_ct, flK_bk, flK_rt, tbF, ttF, andF, orF, notF, andV, orV, ifF, chF, b1, b2, bN, clF_val, aNil, aCons, nmF, ownF, cF, fzF, itF, inF, itOf, rng1, rng2, yesF, dTru, dNot, I.isi_non_tuple, I.isi_non_list, I.isi_non_bool, I.isi_non_int, I.isi_non_str, I.isi_bl_tuple, I.isi_bl_list, I.isi_bl_bool, I.isi_bl_int, I.isi_bl_str, I.isi_int_tuple, I.isi_int_list, I.isi_int_bool, I.isi_int_int, I.isi_int_str, I.isi_str_tuple, I.isi_str_list, I.isi_str_bool, I.isi_str_int, I.isi_str_str, I.isi_tup_tuple, I.isi_tup_list, I.isi_tup_bool, I.isi_tup_int, I.isi_tup_str, I.isi_lst_tuple, I.isi_lst_list, I.isi_lst_bool, I.isi_lst_int, I.isi_lst_str, I.isi_scr_tuple, I.isi_scr_list, I.isi_scr_bool, I.isi_scr_int, I.isi_scr_str, dEq_bl, dNe_bl, dIsN_non, dIsN_bl, dIsN_int, dIsN_str, dIsN_tup, dIsN_lst, dAdd_int, dSub_int, dEq_int, dNe_int, dLt_int, dLe_int, dGt_int, dGe_int, dAddI_int, asB_bl, dIx_tup0, dIx_tup1, fLen, fAbs, fInt, fMax2, fMin2, gTupF, gsCons, gsNil, D.pure, D.pures, Bool.not_true, Bool.not_false, Bool.and_true, Bool.true_and, Bool.and_false, Bool.false_and, Option.bind_some, Option.bind_none, Option.map_some, Option.map_none, bind_ite, map_ite, List.map_cons, List.map_nil, List.replicate, List.cons_append, List.nil_append, List.append_nil, List.getElem?_cons_zero, List.getElem?_cons_succ, List.set_cons_zero, List.set_cons_succ, List.length_cons, List.length_nil, Nat.reduceAdd, Nat.reduceLT, Nat.zero_add, Nat.lt_add_one, if_true, if_false, ite_true, ite_false, decide_eq_true_eq, Bool.false_eq_true, reduceCtorEq, reduceIte, Nat.reduceLeDiff, Nat.reduceEqDiff, fzs_terms]
  simp only [itOf] at itr
  simp only [E0, EV, List.nil_append] at e
  simp only [S_law_9, S_law_10, E0, EV, val_fnF, zsF_eq, fzAt, D.fz, wpE, mgE, List.contains_cons, List.contains_nil, Nat.reduceBEq, Bool.or_false, Bool.or_true, Bool.false_or, Bool.true_or, seqF_eq, andThen_nx, andThen_bk, andThen_ct, andThen_rt, retV_rt, retV_nx, nxF, bkF, ctF, rtF, rnF, rmF, stF, exF, put, parF, agF, ifS, forF_eq, flF_nil, flF_cons, flK_nx, flK_ct, flK_bk, flK_rt, tbF, ttF, andF, orF, notF, andV, orV, ifF, chF, b1, b2, bN, clF_val, aNil, aCons, nmF, ownF, cF, fzF, itF, inF, itOf, rng1, rng2, yesF, dTru, dNot, I.isi_non_tuple, I.isi_non_list, I.isi_non_bool, I.isi_non_int, I.isi_non_str, I.isi_bl_tuple, I.isi_bl_list, I.isi_bl_bool, I.isi_bl_int, I.isi_bl_str, I.isi_int_tuple, I.isi_int_list, I.isi_int_bool, I.isi_int_int, I.isi_int_str, I.isi_str_tuple, I.isi_str_list, I.isi_str_bool, I.isi_str_int, I.isi_str_str, I.isi_tup_tuple, I.isi_tup_list, I.isi_tup_bool, I.isi_tup_int, I.isi_tup_str, I.isi_lst_tuple, I.isi_lst_list, I.isi_lst_bool, I.isi_lst_int, I.isi_lst_str, I.isi_scr_tuple, I.isi_scr_list, I.isi_scr_bool, I.isi_scr_int, I.isi_scr_str, dEq_bl, dNe_bl, dIsN_non, dIsN_bl, dIsN_int, dIsN_str, dIsN_tup, dIsN_lst, dAdd_int, dSub_int, dEq_int, dNe_int, dLt_int, dLe_int, dGt_int, dGe_int, dAddI_int, asB_bl, dIx_tup0, dIx_tup1, fLen, fAbs, fInt, fMax2, fMin2, gTupF, gsCons, gsNil, D.pure, D.pures, Bool.not_true, Bool.not_false, Bool.and_true, Bool.true_and, Bool.and_false, Bool.false_and, Option.bind_some, Option.bind_none, Option.map_some, Option.map_none, bind_ite, map_ite, List.map_cons, List.map_nil, List.replicate, List.cons_append, List.nil_append, List.append_nil, List.getElem?_cons_zero, List.getElem?_cons_succ, List.set_cons_zero, List.set_cons_succ, List.length_cons, List.length_nil, Nat.reduceAdd, Nat.reduceLT, Nat.zero_add, Nat.lt_add_one, if_true, if_false, ite_true, ite_false, decide_eq_true_eq, Bool.false_eq_true, reduceCtorEq, reduceIte, Nat.reduceLeDiff, Nat.reduceEqDiff, z0, pure_poly, itr, e]
theorem body6 {o7 o8 o9 : Option D} (hp : Pol n 3 24 200000 f) (hx : Ptv n 30 270 x) (hl : f.length ≤ 5) {k : Nat} (hk : k < f.length) {o10 o13 : Option D} : ∃ o13',
    flF (put 13) L_law_6 ((List.range f.length).map fun i : Nat => D.int (i : Int)) (E0 s dg nums n f (some (vecD x)) o6 o7 (some (.lst true ((f.map (szT x)).map fr))) o9 o10 (some (.int k)) (some (fr 0)) o13 none none none none none) =
      some (.nx, E0 s dg nums n f (some (vecD x)) o6 o7 (some (.lst true ((f.map (szT x)).map fr))) o9 o10 (some (.int k)) (some (fr (rsum (f.map (szT x)) - szT x (f.getD k ([], 0))))) o13' none none none none none) := by
  obtain ⟨e, h1, q, c, o13', rfl, hq, hc, _, ht⟩ := flF_rel (FT := put 13) (FB := L_law_6) (fun i : Nat => D.int (i : Int))
    (fun ys e => ∃ (q : Rat) (c : Nat) (o13' : Option D), e = E0 s dg nums n f (some (vecD x)) o6 o7 (some (.lst true ((f.map (szT x)).map fr))) o9 o10 (some (.int k)) (some (fr q)) o13' none none none none none ∧ Md (24 * 30 ^ 24) (c * (200000 * 270 ^ 24)) q ∧ c + ys.length ≤ 5 ∧ (∀ y ∈ ys, y < f.length) ∧
      q + rsum (ys.map fun j => if j = k then 0 else szT x (f.getD j ([], 0))) = rsum (f.map (szT x)) - szT x (f.getD k ([], 0)))
    (List.range f.length) _ ⟨0, 0, o13, rfl, Md.zero (by have := hp.N0; exact Nat.mul_pos (by omega) (Nat.pow_pos (by omega))), by simpa using hl, fun y hy => List.mem_range.mp hy, by rw [rsum_but (szT x) f _ hk]; grind⟩
    fun y ys e ⟨q, c, o13', he, hq, hc, hy, ht⟩ => by
      subst he
      simp only [List.length_cons] at hc
      have hyl := hy y (by simp)
      by_cases h : y = k
      · subst h
        refine ⟨E0 s dg nums n f (some (vecD x)) o6 o7 (some (.lst true ((f.map (szT x)).map fr))) o9 o10 (some (.int y)) (some (fr q)) (some (.int y)) none none none none none, ?_, q, c, _, rfl, hq, by omega, fun z hz => hy z (by simp [hz]), by rw [← ht]; simp only [List.map_cons, rsum, if_true]; grind⟩
        simp only [L_law_6, E0, EV, val_fnF, zsF_eq, fzAt, D.fz, wpE, mgE, List.contains_cons, List.contains_nil, Nat.reduceBEq, Bool.or_false, Bool.or_true, Bool.false_or, Bool.true_or, seqF_eq, andThen_nx, andThen_bk, andThen_ct, andThen_rt, retV_rt, retV_nx, nxF, bkF, ctF, rtF, rnF, rmF, stF, exF, put, parF, agF, ifS, forF_eq, flF_nil, flF_cons, flK_nx, flK_ct, flK_bk, flK_rt, tbF, ttF, andF, orF, notF, andV, orV, ifF, chF, b1, b2, bN, clF_val, aNil, aCons, nmF, ownF, cF, fzF, itF, inF, itOf, rng1, rng2, yesF, dTru, dNot, I.isi_non_tuple, I.isi_non_list, I.isi_non_bool, I.isi_non_int, I.isi_non_str, I.isi_bl_tuple, I.isi_bl_list, I.isi_bl_bool, I.isi_bl_int, I.isi_bl_str, I.isi_int_tuple, I.isi_int_list, I.isi_int_bool, I.isi_int_int, I.isi_int_str, I.isi_str_tuple, I.isi_str_list, I.isi_str_bool, I.isi_str_int, I.isi_str_str, I.isi_tup_tuple, I.isi_tup_list, I.isi_tup_bool, I.isi_tup_int, I.isi_tup_str, I.isi_lst_tuple, I.isi_lst_list, I.isi_lst_bool, I.isi_lst_int, I.isi_lst_str, I.isi_scr_tuple, I.isi_scr_list, I.isi_scr_bool, I.isi_scr_int, I.isi_scr_str, dEq_bl, dNe_bl, dIsN_non, dIsN_bl, dIsN_int, dIsN_str, dIsN_tup, dIsN_lst, dAdd_int, dSub_int, dEq_int, dNe_int, dLt_int, dLe_int, dGt_int, dGe_int, dAddI_int, asB_bl, dIx_tup0, dIx_tup1, fLen, fAbs, fInt, fMax2, fMin2, gTupF, gsCons, gsNil, D.pure, D.pures, Bool.not_true, Bool.not_false, Bool.and_true, Bool.true_and, Bool.and_false, Bool.false_and, Option.bind_some, Option.bind_none, Option.map_some, Option.map_none, bind_ite, map_ite, List.map_cons, List.map_nil, List.replicate, List.cons_append, List.nil_append, List.append_nil, List.getElem?_cons_zero, List.getElem?_cons_succ, List.set_cons_zero, List.set_cons_succ, List.length_cons, List.length_nil, Nat.reduceAdd, Nat.reduceLT, Nat.zero_add, Nat.lt_add_one, if_true, if_false, ite_true, ite_false, decide_eq_true_eq, Bool.false_eq_true, reduceCtorEq, reduceIte, Nat.reduceLeDiff, Nat.reduceEqDiff, ne_eq, not_true, decide_false, bne_self_eq_false, decide_true]
      · have hm : f.getD y ([], 0) ∈ f := by
          rw [List.getD_eq_getElem?_getD, List.getElem?_eq_getElem hyl]; exact List.getElem_mem hyl
        have sm := szT_md hp hx hm
        have pl := lplus_eq (sum_nb hx.st hx.t16 hx.s0 hp.N1 hp.B1 (by omega) hq) (W_nb hp hx (by omega) hm).1
        have hq2 := hq.add sm
        rw [← Nat.succ_mul] at hq2
        have hi : ¬ (y : Int) = (k : Int) := by omega
        refine ⟨E0 s dg nums n f (some (vecD x)) o6 o7 (some (.lst true ((f.map (szT x)).map fr))) o9 o10 (some (.int k)) (some (fr (q + szT x (f.getD y ([], 0))))) (some (.int y)) none none none none none, ?_, _, c + 1, _, rfl, hq2, by omega, fun z hz => hy z (by simp [hz]), by rw [← ht]; simp only [List.map_cons, rsum, if_neg h]; grind⟩
        simp only [L_law_6, E0, EV, val_fnF, zsF_eq, fzAt, D.fz, wpE, mgE, List.contains_cons, List.contains_nil, Nat.reduceBEq, Bool.or_false, Bool.or_true, Bool.false_or, Bool.true_or, seqF_eq, andThen_nx, andThen_bk, andThen_ct, andThen_rt, retV_rt, retV_nx, nxF, bkF, ctF, rtF, rnF, rmF, stF, exF, put, parF, agF, ifS, forF_eq, flF_nil, flF_cons, flK_nx, flK_ct, flK_bk, flK_rt, tbF, ttF, andF, orF, notF, andV, orV, ifF, chF, b1, b2, bN, clF_val, aNil, aCons, nmF, ownF, cF, fzF, itF, inF, itOf, rng1, rng2, yesF, dTru, dNot, I.isi_non_tuple, I.isi_non_list, I.isi_non_bool, I.isi_non_int, I.isi_non_str, I.isi_bl_tuple, I.isi_bl_list, I.isi_bl_bool, I.isi_bl_int, I.isi_bl_str, I.isi_int_tuple, I.isi_int_list, I.isi_int_bool, I.isi_int_int, I.isi_int_str, I.isi_str_tuple, I.isi_str_list, I.isi_str_bool, I.isi_str_int, I.isi_str_str, I.isi_tup_tuple, I.isi_tup_list, I.isi_tup_bool, I.isi_tup_int, I.isi_tup_str, I.isi_lst_tuple, I.isi_lst_list, I.isi_lst_bool, I.isi_lst_int, I.isi_lst_str, I.isi_scr_tuple, I.isi_scr_list, I.isi_scr_bool, I.isi_scr_int, I.isi_scr_str, dEq_bl, dNe_bl, dIsN_non, dIsN_bl, dIsN_int, dIsN_str, dIsN_tup, dIsN_lst, dAdd_int, dSub_int, dEq_int, dNe_int, dLt_int, dLe_int, dGt_int, dGe_int, dAddI_int, asB_bl, dIx_tup0, dIx_tup1, fLen, fAbs, fInt, fMax2, fMin2, gTupF, gsCons, gsNil, D.pure, D.pures, Bool.not_true, Bool.not_false, Bool.and_true, Bool.true_and, Bool.and_false, Bool.false_and, Option.bind_some, Option.bind_none, Option.map_some, Option.map_none, bind_ite, map_ite, List.map_cons, List.map_nil, List.replicate, List.cons_append, List.nil_append, List.append_nil, List.getElem?_cons_zero, List.getElem?_cons_succ, List.set_cons_zero, List.set_cons_succ, List.length_cons, List.length_nil, Nat.reduceAdd, Nat.reduceLT, Nat.zero_add, Nat.lt_add_one, if_true, if_false, ite_true, ite_false, decide_eq_true_eq, Bool.false_eq_true, reduceCtorEq, reduceIte, Nat.reduceLeDiff, Nat.reduceEqDiff, hi, decide_false, decide_true, szlst f x hyl, pure_fr, pl]
  have ht : q = rsum (f.map (szT x)) - szT x (f.getD k ([], 0)) := by rw [← ht]; simp only [List.map_nil, rsum]; grind
  subst ht
  exact ⟨o13', h1⟩
theorem body7 {o7 o9 : Option D} (hp : Pol n 3 24 200000 f) (hx : Ptv n 30 270 x) (hl : f.length ≤ 5) {k : Nat} (hk : k < f.length) {d : D} {o12 o13 : Option D} : ∃ o12' o13',
    L_law_7 (E0 s dg nums n f (some (vecD x)) o6 o7 (some (.lst true ((f.map (szT x)).map fr))) o9 (some d) (some (.int k)) o12 o13 none none none none none) =
      some (.nx, E0 s dg nums n f (some (vecD x)) o6 o7 (some (.lst true ((f.map (szT x)).map fr))) o9 (some (if great (rsum (f.map (szT x))) x (f.getD k ([], 0)) = true then keyD (f.getD k ([], 0)).1 else d)) (some (.int k)) o12' o13' none none none none none) := by
  obtain ⟨o13', e6⟩ := body6 (s := s) (dg := dg) (nums := nums) (o6 := o6) (o7 := o7) (o8 := none) (o9 := o9) hp hx hl hk (o10 := some d) (o13 := o13)
  have hm : f.getD k ([], 0) ∈ f := by
    rw [List.getD_eq_getElem?_getD, List.getElem?_eq_getElem hk]; exact List.getElem_mem hk
  have nb := W_nb hp hx (by omega) hm
  have lb := lbelow_eq nb.2 nb.1
  have fl : fLen [polyD f] = some (.int (f.length : Int)) := by simp only [polyD, fLen, List.length_map]
  have rg := rg_of (show f.length ≤ 1000000 by omega)
  refine ⟨some (fr (rsum (f.map (szT x)) - szT x (f.getD k ([], 0)))), o13', ?_⟩
  simp only [E0, EV] at e6
  simp only [fLen] at fl
  simp only [L_law_7, E0, EV, val_fnF, zsF_eq, fzAt, D.fz, wpE, mgE, List.contains_cons, List.contains_nil, Nat.reduceBEq, Bool.or_false, Bool.or_true, Bool.false_or, Bool.true_or, seqF_eq, andThen_nx, andThen_bk, andThen_ct, andThen_rt, retV_rt, retV_nx, nxF, bkF, ctF, rtF, rnF, rmF, stF, exF, put, parF, agF, ifS, forF_eq, flF_nil, flF_cons, flK_nx, flK_ct, flK_bk, flK_rt, tbF, ttF, andF, orF, notF, andV, orV, ifF, chF, b1, b2, bN, clF_val, aNil, aCons, nmF, ownF, cF, fzF, itF, inF, itOf, rng1, rng2, yesF, dTru, dNot, I.isi_non_tuple, I.isi_non_list, I.isi_non_bool, I.isi_non_int, I.isi_non_str, I.isi_bl_tuple, I.isi_bl_list, I.isi_bl_bool, I.isi_bl_int, I.isi_bl_str, I.isi_int_tuple, I.isi_int_list, I.isi_int_bool, I.isi_int_int, I.isi_int_str, I.isi_str_tuple, I.isi_str_list, I.isi_str_bool, I.isi_str_int, I.isi_str_str, I.isi_tup_tuple, I.isi_tup_list, I.isi_tup_bool, I.isi_tup_int, I.isi_tup_str, I.isi_lst_tuple, I.isi_lst_list, I.isi_lst_bool, I.isi_lst_int, I.isi_lst_str, I.isi_scr_tuple, I.isi_scr_list, I.isi_scr_bool, I.isi_scr_int, I.isi_scr_str, dEq_bl, dNe_bl, dIsN_non, dIsN_bl, dIsN_int, dIsN_str, dIsN_tup, dIsN_lst, dAdd_int, dSub_int, dEq_int, dNe_int, dLt_int, dLe_int, dGt_int, dGe_int, dAddI_int, asB_bl, dIx_tup0, dIx_tup1, fLen, fAbs, fInt, fMax2, fMin2, gTupF, gsCons, gsNil, D.pure, D.pures, Bool.not_true, Bool.not_false, Bool.and_true, Bool.true_and, Bool.and_false, Bool.false_and, Option.bind_some, Option.bind_none, Option.map_some, Option.map_none, bind_ite, map_ite, List.map_cons, List.map_nil, List.replicate, List.cons_append, List.nil_append, List.append_nil, List.getElem?_cons_zero, List.getElem?_cons_succ, List.set_cons_zero, List.set_cons_succ, List.length_cons, List.length_nil, Nat.reduceAdd, Nat.reduceLT, Nat.zero_add, Nat.lt_add_one, if_true, if_false, ite_true, ite_false, decide_eq_true_eq, Bool.false_eq_true, reduceCtorEq, reduceIte, Nat.reduceLeDiff, Nat.reduceEqDiff, t0_eq, pure_poly, fl, rg, Int.toNat_natCast, e6, szlst f x hk, pure_fr, lb, ix_poly hk, term0, pure_key]
  unfold great
  by_cases h : rsum (f.map (szT x)) - szT x (f.getD k ([], 0)) < szT x (f.getD k ([], 0))
  · simp only [h, decide_true, val_fnF, zsF_eq, fzAt, D.fz, wpE, mgE, List.contains_cons, List.contains_nil, Nat.reduceBEq, Bool.or_false, Bool.or_true, Bool.false_or, Bool.true_or, seqF_eq, andThen_nx, andThen_bk, andThen_ct, andThen_rt, retV_rt, retV_nx, nxF, bkF, ctF, rtF, rnF, rmF, stF, exF, put, parF, agF, ifS, forF_eq, flF_nil, flF_cons, flK_nx, flK_ct, flK_bk, flK_rt, tbF, ttF, andF, orF, notF, andV, orV, ifF, chF, b1, b2, bN, clF_val, aNil, aCons, nmF, ownF, cF, fzF, itF, inF, itOf, rng1, rng2, yesF, dTru, dNot, I.isi_non_tuple, I.isi_non_list, I.isi_non_bool, I.isi_non_int, I.isi_non_str, I.isi_bl_tuple, I.isi_bl_list, I.isi_bl_bool, I.isi_bl_int, I.isi_bl_str, I.isi_int_tuple, I.isi_int_list, I.isi_int_bool, I.isi_int_int, I.isi_int_str, I.isi_str_tuple, I.isi_str_list, I.isi_str_bool, I.isi_str_int, I.isi_str_str, I.isi_tup_tuple, I.isi_tup_list, I.isi_tup_bool, I.isi_tup_int, I.isi_tup_str, I.isi_lst_tuple, I.isi_lst_list, I.isi_lst_bool, I.isi_lst_int, I.isi_lst_str, I.isi_scr_tuple, I.isi_scr_list, I.isi_scr_bool, I.isi_scr_int, I.isi_scr_str, dEq_bl, dNe_bl, dIsN_non, dIsN_bl, dIsN_int, dIsN_str, dIsN_tup, dIsN_lst, dAdd_int, dSub_int, dEq_int, dNe_int, dLt_int, dLe_int, dGt_int, dGe_int, dAddI_int, asB_bl, dIx_tup0, dIx_tup1, fLen, fAbs, fInt, fMax2, fMin2, gTupF, gsCons, gsNil, D.pure, D.pures, Bool.not_true, Bool.not_false, Bool.and_true, Bool.true_and, Bool.and_false, Bool.false_and, Option.bind_some, Option.bind_none, Option.map_some, Option.map_none, bind_ite, map_ite, List.map_cons, List.map_nil, List.replicate, List.cons_append, List.nil_append, List.append_nil, List.getElem?_cons_zero, List.getElem?_cons_succ, List.set_cons_zero, List.set_cons_succ, List.length_cons, List.length_nil, Nat.reduceAdd, Nat.reduceLT, Nat.zero_add, Nat.lt_add_one, if_true, if_false, ite_true, ite_false, decide_eq_true_eq, Bool.false_eq_true, reduceCtorEq, reduceIte, Nat.reduceLeDiff, Nat.reduceEqDiff]
  · simp only [h, decide_false, val_fnF, zsF_eq, fzAt, D.fz, wpE, mgE, List.contains_cons, List.contains_nil, Nat.reduceBEq, Bool.or_false, Bool.or_true, Bool.false_or, Bool.true_or, seqF_eq, andThen_nx, andThen_bk, andThen_ct, andThen_rt, retV_rt, retV_nx, nxF, bkF, ctF, rtF, rnF, rmF, stF, exF, put, parF, agF, ifS, forF_eq, flF_nil, flF_cons, flK_nx, flK_ct, flK_bk, flK_rt, tbF, ttF, andF, orF, notF, andV, orV, ifF, chF, b1, b2, bN, clF_val, aNil, aCons, nmF, ownF, cF, fzF, itF, inF, itOf, rng1, rng2, yesF, dTru, dNot, I.isi_non_tuple, I.isi_non_list, I.isi_non_bool, I.isi_non_int, I.isi_non_str, I.isi_bl_tuple, I.isi_bl_list, I.isi_bl_bool, I.isi_bl_int, I.isi_bl_str, I.isi_int_tuple, I.isi_int_list, I.isi_int_bool, I.isi_int_int, I.isi_int_str, I.isi_str_tuple, I.isi_str_list, I.isi_str_bool, I.isi_str_int, I.isi_str_str, I.isi_tup_tuple, I.isi_tup_list, I.isi_tup_bool, I.isi_tup_int, I.isi_tup_str, I.isi_lst_tuple, I.isi_lst_list, I.isi_lst_bool, I.isi_lst_int, I.isi_lst_str, I.isi_scr_tuple, I.isi_scr_list, I.isi_scr_bool, I.isi_scr_int, I.isi_scr_str, dEq_bl, dNe_bl, dIsN_non, dIsN_bl, dIsN_int, dIsN_str, dIsN_tup, dIsN_lst, dAdd_int, dSub_int, dEq_int, dNe_int, dLt_int, dLe_int, dGt_int, dGe_int, dAddI_int, asB_bl, dIx_tup0, dIx_tup1, fLen, fAbs, fInt, fMax2, fMin2, gTupF, gsCons, gsNil, D.pure, D.pures, Bool.not_true, Bool.not_false, Bool.and_true, Bool.true_and, Bool.and_false, Bool.false_and, Option.bind_some, Option.bind_none, Option.map_some, Option.map_none, bind_ite, map_ite, List.map_cons, List.map_nil, List.replicate, List.cons_append, List.nil_append, List.append_nil, List.getElem?_cons_zero, List.getElem?_cons_succ, List.set_cons_zero, List.set_cons_succ, List.length_cons, List.length_nil, Nat.reduceAdd, Nat.reduceLT, Nat.zero_add, Nat.lt_add_one, if_true, if_false, ite_true, ite_false, decide_eq_true_eq, Bool.false_eq_true, reduceCtorEq, reduceIte, Nat.reduceLeDiff, Nat.reduceEqDiff]
def resD (f : List Row) (x : List Rat) : D := match f.find? (great (rsum (f.map (szT x))) x) with | some t => keyD t.1 | none => .non
theorem step11 {o7 o9 : Option D} (hp : Pol n 3 24 200000 f) (hx : Ptv n 30 270 x) (hl : f.length ≤ 5) : ∃ o11 o12 o13,
    S_law_11 (E0 s dg nums n f (some (vecD x)) o6 o7 (some (.lst true ((f.map (szT x)).map fr))) o9 none none none none none none none none none) =
      S_law_13 (E0 s dg nums n f (some (vecD x)) o6 o7 (some (.lst true ((f.map (szT x)).map fr))) o9 (some (resD f x)) o11 o12 o13 none none none none none) := by
  obtain ⟨e, h1, d, o11, o12, o13, rfl, hd, _⟩ := flF_rel (FT := put 11) (FB := L_law_7) (fun i : Nat => D.int (i : Int))
    (fun ys e => ∃ (d : D) (o11 o12 o13 : Option D), e = E0 s dg nums n f (some (vecD x)) o6 o7 (some (.lst true ((f.map (szT x)).map fr))) o9 (some d) o11 o12 o13 none none none none none ∧
      ys.foldl (fun o k => if great (rsum (f.map (szT x))) x (f.getD k ([], 0)) = true then keyD (f.getD k ([], 0)).1 else o) d = resD f x ∧ ∀ y ∈ ys, y < f.length)
    (List.range f.length) (E0 s dg nums n f (some (vecD x)) o6 o7 (some (.lst true ((f.map (szT x)).map fr))) o9 (some .non) none none none none none none none none)
    ⟨.non, none, none, none, rfl, by
      rw [fold_range (fun o t => if great (rsum (f.map (szT x))) x t = true then keyD t.1 else o) f ([], 0) D.non]
      exact great_uniq (fun t => keyD t.1) f (by grind) D.non, fun y hy => List.mem_range.mp hy⟩
    fun y ys e ⟨d, o11, o12, o13, he, hd, hy⟩ => by
      subst he
      obtain ⟨o12', o13', q⟩ := body7 (s := s) (dg := dg) (nums := nums) (o6 := o6) (o7 := o7) (o9 := o9) hp hx hl (hy y (by simp)) (d := d) (o12 := o12) (o13 := o13)
      refine ⟨_, ?_, _, some (.int y), o12', o13', rfl, by rw [← hd]; rfl, fun z hz => hy z (by simp [hz])⟩
      simp only [E0, EV] at q
      simp only [E0, EV, val_fnF, zsF_eq, fzAt, D.fz, wpE, mgE, List.contains_cons, List.contains_nil, Nat.reduceBEq, Bool.or_false, Bool.or_true, Bool.false_or, Bool.true_or, seqF_eq, andThen_nx, andThen_bk, andThen_ct, andThen_rt, retV_rt, retV_nx, nxF, bkF, ctF, rtF, rnF, rmF, stF, exF, put, parF, agF, ifS, forF_eq, flF_nil, flF_cons, flK_nx, flK_ct, flK_bk, flK_rt, tbF, ttF, andF, orF, notF, andV, orV, ifF, chF, b1, b2, bN, clF_val, aNil, aCons, nmF, ownF, cF, fzF, itF, inF, itOf, rng1, rng2, yesF, dTru, dNot, I.isi_non_tuple, I.isi_non_list, I.isi_non_bool, I.isi_non_int, I.isi_non_str, I.isi_bl_tuple, I.isi_bl_list, I.isi_bl_bool, I.isi_bl_int, I.isi_bl_str, I.isi_int_tuple, I.isi_int_list, I.isi_int_bool, I.isi_int_int, I.isi_int_str, I.isi_str_tuple, I.isi_str_list, I.isi_str_bool, I.isi_str_int, I.isi_str_str, I.isi_tup_tuple, I.isi_tup_list, I.isi_tup_bool, I.isi_tup_int, I.isi_tup_str, I.isi_lst_tuple, I.isi_lst_list, I.isi_lst_bool, I.isi_lst_int, I.isi_lst_str, I.isi_scr_tuple, I.isi_scr_list, I.isi_scr_bool, I.isi_scr_int, I.isi_scr_str, dEq_bl, dNe_bl, dIsN_non, dIsN_bl, dIsN_int, dIsN_str, dIsN_tup, dIsN_lst, dAdd_int, dSub_int, dEq_int, dNe_int, dLt_int, dLe_int, dGt_int, dGe_int, dAddI_int, asB_bl, dIx_tup0, dIx_tup1, fLen, fAbs, fInt, fMax2, fMin2, gTupF, gsCons, gsNil, D.pure, D.pures, Bool.not_true, Bool.not_false, Bool.and_true, Bool.true_and, Bool.and_false, Bool.false_and, Option.bind_some, Option.bind_none, Option.map_some, Option.map_none, bind_ite, map_ite, List.map_cons, List.map_nil, List.replicate, List.cons_append, List.nil_append, List.append_nil, List.getElem?_cons_zero, List.getElem?_cons_succ, List.set_cons_zero, List.set_cons_succ, List.length_cons, List.length_nil, Nat.reduceAdd, Nat.reduceLT, Nat.zero_add, Nat.lt_add_one, if_true, if_false, ite_true, ite_false, decide_eq_true_eq, Bool.false_eq_true, reduceCtorEq, reduceIte, Nat.reduceLeDiff, Nat.reduceEqDiff, q]
  have hd : d = resD f x := hd
  subst hd
  have fl : fLen [polyD f] = some (.int (f.length : Int)) := by simp only [polyD, fLen, List.length_map]
  have rg := rg_of (show f.length ≤ 1000000 by omega)
  refine ⟨o11, o12, o13, ?_⟩
  simp only [E0, EV] at h1
  simp only [fLen] at fl
  simp only [S_law_11, S_law_12, E0, EV, val_fnF, zsF_eq, fzAt, D.fz, wpE, mgE, List.contains_cons, List.contains_nil, Nat.reduceBEq, Bool.or_false, Bool.or_true, Bool.false_or, Bool.true_or, seqF_eq, andThen_nx, andThen_bk, andThen_ct, andThen_rt, retV_rt, retV_nx, nxF, bkF, ctF, rtF, rnF, rmF, stF, exF, put, parF, agF, ifS, forF_eq, flF_nil, flF_cons, flK_nx, flK_ct, flK_bk, flK_rt, tbF, ttF, andF, orF, notF, andV, orV, ifF, chF, b1, b2, bN, clF_val, aNil, aCons, nmF, ownF, cF, fzF, itF, inF, itOf, rng1, rng2, yesF, dTru, dNot, I.isi_non_tuple, I.isi_non_list, I.isi_non_bool, I.isi_non_int, I.isi_non_str, I.isi_bl_tuple, I.isi_bl_list, I.isi_bl_bool, I.isi_bl_int, I.isi_bl_str, I.isi_int_tuple, I.isi_int_list, I.isi_int_bool, I.isi_int_int, I.isi_int_str, I.isi_str_tuple, I.isi_str_list, I.isi_str_bool, I.isi_str_int, I.isi_str_str, I.isi_tup_tuple, I.isi_tup_list, I.isi_tup_bool, I.isi_tup_int, I.isi_tup_str, I.isi_lst_tuple, I.isi_lst_list, I.isi_lst_bool, I.isi_lst_int, I.isi_lst_str, I.isi_scr_tuple, I.isi_scr_list, I.isi_scr_bool, I.isi_scr_int, I.isi_scr_str, dEq_bl, dNe_bl, dIsN_non, dIsN_bl, dIsN_int, dIsN_str, dIsN_tup, dIsN_lst, dAdd_int, dSub_int, dEq_int, dNe_int, dLt_int, dLe_int, dGt_int, dGe_int, dAddI_int, asB_bl, dIx_tup0, dIx_tup1, fLen, fAbs, fInt, fMax2, fMin2, gTupF, gsCons, gsNil, D.pure, D.pures, Bool.not_true, Bool.not_false, Bool.and_true, Bool.true_and, Bool.and_false, Bool.false_and, Option.bind_some, Option.bind_none, Option.map_some, Option.map_none, bind_ite, map_ite, List.map_cons, List.map_nil, List.replicate, List.cons_append, List.nil_append, List.append_nil, List.getElem?_cons_zero, List.getElem?_cons_succ, List.set_cons_zero, List.set_cons_succ, List.length_cons, List.length_nil, Nat.reduceAdd, Nat.reduceLT, Nat.zero_add, Nat.lt_add_one, if_true, if_false, ite_true, ite_false, decide_eq_true_eq, Bool.false_eq_true, reduceCtorEq, reduceIte, Nat.reduceLeDiff, Nat.reduceEqDiff, pure_poly, fl, rg, Int.toNat_natCast, h1]
theorem resD_or (f : List Row) (x : List Rat) : (resD f x = .non ∧ f.find? (great (rsum (f.map (szT x))) x) = none) ∨ ∃ t, t ∈ f ∧ great (rsum (f.map (szT x))) x t = true ∧ resD f x = keyD t.1 := by
  unfold resD
  cases h : f.find? (great (rsum (f.map (szT x))) x) with
  | none => exact .inl ⟨rfl, rfl⟩
  | some t => exact .inr ⟨t, List.mem_of_find?_eq_some h, List.find?_some h, rfl⟩
/-- with signs -/
def sgx (y : Nat) (i : Nat) (q : Rat) : Rat := if y / 2 ^ i % 2 = 0 then q else -q
theorem rab_sgx (y i : Nat) (q : Rat) : rab (sgx y i q) = rab q := by unfold sgx; split; rfl; exact rab_neg q
theorem sgx_fr (y i : Nat) (q : Rat) : D.tup [.int ((1 - 2 * (((y : Int) / 2 ^ i) % 2)) * q.num), .int q.den] = fr (sgx y i q) := by
  have e : ((y : Int) / 2 ^ i) % 2 = ((y / 2 ^ i % 2 : Nat) : Int) := by
    rw [Int.natCast_emod, Int.natCast_ediv, Int.natCast_pow]; rfl
  rw [e]
  unfold sgx
  have h2 : y / 2 ^ i % 2 = 0 ∨ y / 2 ^ i % 2 = 1 := by omega
  rcases h2 with h | h
  · rw [h, if_pos rfl]; simp [fr]
  · rw [h, if_neg (by omega)]
    simp only [fr_def, Rat.neg_num, Rat.neg_den]
    congr 3
    simp
theorem body9 {o7 o8 o9 o11 o12 o13 o14 : Option D} (hp : Pol n 3 24 200000 f) (hx : Ptv n 30 270 x) {t : Row} (ht : t ∈ f) (g : great (rsum (f.map (szT x))) x t = true) {d : D} {y : Nat} {o16 o17 o18 : Option D} : ∃ o16' o17' o18',
    L_law_9 (E0 s dg nums n f (some (vecD x)) o6 o7 o8 o9 (some d) o11 o12 o13 o14 (some (.int y)) o16 o17 o18) = some (.nx, E0 s dg nums n f (some (vecD x)) o6 o7 o8 o9 (some d) o11 o12 o13 o14 (some (.int y)) o16' o17' o18') := by
  have z0 : dLst [] = some (.lst true []) := dLst_le (by simp)
  have n3 := hp.n3
  obtain ⟨j, e⟩ := flF_append (FT := put 17) (FB := L_law_8) (fun i : Nat => D.int (i : Int)) (fun i => fr (sgx y i (x.getD i 0))) (fun (acc : List D) (j : Option D × Option D) => E0 s dg nums n f (some (vecD x)) o6 o7 o8 o9 (some d) o11 o12 o13 o14 (some (.int y)) (some (.lst true acc)) j.1 j.2)
    (List.range n) [] (o17, o18) (by simp; omega) fun acc j i hi lt => ⟨(some (.int i), some (.int (1 - 2 * (((y : Int) / 2 ^ i) % 2)))), by
      have hi' : i < n := List.mem_range.mp hi
      have ix : dIx (vecD x) (.int (i : Int)) = some (fr (x.getD i 0)) := vec_ix (by rw [hx.len]; exact hi')
      have d0 : dIx (fr (x.getD i 0)) (.int 0) = some (.int (x.getD i 0).num) := dIx_tup0
      have d1 : dIx (fr (x.getD i 0)) (.int 1) = some (.int (x.getD i 0).den) := dIx_tup1
      have sh : dShr (.int (y : Int)) (.int (i : Int)) = some (.int ((y : Int) / 2 ^ i)) := by
        simp only [dShr]; rw [if_pos (by omega)]; simp
      have nn : (0 : Int) ≤ (y : Int) / 2 ^ i := Int.ediv_nonneg (by omega) (by have := Int.pow_pos (n := 2) (m := i) (by omega); omega)
      have sz1 : (((y : Int) / 2 ^ i) % 2).natAbs < 2 ^ 64 := by omega
      have sz2 : (1 - 2 * (((y : Int) / 2 ^ i) % 2)).natAbs < 2 ^ 64 := by omega
      simp only [L_law_8, E0, EV, val_fnF, zsF_eq, fzAt, D.fz, wpE, mgE, List.contains_cons, List.contains_nil, Nat.reduceBEq, Bool.or_false, Bool.or_true, Bool.false_or, Bool.true_or, seqF_eq, andThen_nx, andThen_bk, andThen_ct, andThen_rt, retV_rt, retV_nx, nxF, bkF, ctF, rtF, rnF, rmF, stF, exF, put, parF, agF, ifS, forF_eq, flF_nil, flF_cons, flK_nx, flK_ct, flK_bk, flK_rt, tbF, ttF, andF, orF, notF, andV, orV, ifF, chF, b1, b2, bN, clF_val, aNil, aCons, nmF, ownF, cF, fzF, itF, inF, itOf, rng1, rng2, yesF, dTru, dNot, I.isi_non_tuple, I.isi_non_list, I.isi_non_bool, I.isi_non_int, I.isi_non_str, I.isi_bl_tuple, I.isi_bl_list, I.isi_bl_bool, I.isi_bl_int, I.isi_bl_str, I.isi_int_tuple, I.isi_int_list, I.isi_int_bool, I.isi_int_int, I.isi_int_str, I.isi_str_tuple, I.isi_str_list, I.isi_str_bool, I.isi_str_int, I.isi_str_str, I.isi_tup_tuple, I.isi_tup_list, I.isi_tup_bool, I.isi_tup_int, I.isi_tup_str, I.isi_lst_tuple, I.isi_lst_list, I.isi_lst_bool, I.isi_lst_int, I.isi_lst_str, I.isi_scr_tuple, I.isi_scr_list, I.isi_scr_bool, I.isi_scr_int, I.isi_scr_str, dEq_bl, dNe_bl, dIsN_non, dIsN_bl, dIsN_int, dIsN_str, dIsN_tup, dIsN_lst, dAdd_int, dSub_int, dEq_int, dNe_int, dLt_int, dLe_int, dGt_int, dGe_int, dAddI_int, asB_bl, dIx_tup0, dIx_tup1, fLen, fAbs, fInt, fMax2, fMin2, gTupF, gsCons, gsNil, D.pure, D.pures, Bool.not_true, Bool.not_false, Bool.and_true, Bool.true_and, Bool.and_false, Bool.false_and, Option.bind_some, Option.bind_none, Option.map_some, Option.map_none, bind_ite, map_ite, List.map_cons, List.map_nil, List.replicate, List.cons_append, List.nil_append, List.append_nil, List.getElem?_cons_zero, List.getElem?_cons_succ, List.set_cons_zero, List.set_cons_succ, List.length_cons, List.length_nil, Nat.reduceAdd, Nat.reduceLT, Nat.zero_add, Nat.lt_add_one, if_true, if_false, ite_true, ite_false, decide_eq_true_eq, Bool.false_eq_true, reduceCtorEq, reduceIte, Nat.reduceLeDiff, Nat.reduceEqDiff, sh, dAnd, band1 nn, dMul, mulOk_r sz1, mulOk_l sz2, ix, d0, d1, t2_eq, sgx_fr, mtF, isL, mAppend, lt, pure_fr]⟩
  have em : (List.range n).map (fun i => fr (sgx y i (x.getD i 0))) = ((List.range n).map fun i => sgx y i (x.getD i 0)).map fr := by simp
  rw [em] at e
  have hz : Ptv n 30 270 ((List.range n).map fun i => sgx y i (x.getD i 0)) := ⟨by simp, fun q hq => by
    obtain ⟨i, hi, rfl⟩ := List.mem_map.mp hq
    have hi' : i < x.length := by rw [hx.len]; exact List.mem_range.mp hi
    have hm : x.getD i 0 ∈ x := by rw [List.getD_eq_getElem?_getD, List.getElem?_eq_getElem hi']; exact List.getElem_mem hi'
    unfold sgx
    split
    · exact hx.md _ hm
    · exact (hx.md _ hm).neg, hx.st, hx.t16, hx.s0⟩
  have er : ((List.range n).map fun i => sgx y i (x.getD i 0)).map rab = x.map rab := by
    refine List.ext_getElem (by simp [hx.len]) fun i h1 h2 => ?_
    have h2' : i < x.length := by simpa using h2
    simp [rab_sgx, h2']
  have ne := pval_ne er ht g
  have lv := lvalueL_eq (ob := true) hp hz
  have rg := rg_of (show n ≤ 1000000 by omega)
  generalize hpt : (List.range n).map (fun i => sgx y i (x.getD i 0)) = z at *
  refine ⟨some (.lst true (z.map fr)), j.1, j.2, ?_⟩
  simp only [E0, EV, List.nil_append] at e
  simp only [L_law_9, E0, EV, val_fnF, zsF_eq, fzAt, D.fz, wpE, mgE, List.contains_cons, List.contains_nil, Nat.reduceBEq, Bool.or_false, Bool.or_true, Bool.false_or, Bool.true_or, seqF_eq, andThen_nx, andThen_bk, andThen_ct, andThen_rt, retV_rt, retV_nx, nxF, bkF, ctF, rtF, rnF, rmF, stF, exF, put, parF, agF, ifS, forF_eq, flF_nil, flF_cons, flK_nx, flK_ct, flK_bk, flK_rt, tbF, ttF, andF, orF, notF, andV, orV, ifF, chF, b1, b2, bN, clF_val, aNil, aCons, nmF, ownF, cF, fzF, itF, inF, itOf, rng1, rng2, yesF, dTru, dNot, I.isi_non_tuple, I.isi_non_list, I.isi_non_bool, I.isi_non_int, I.isi_non_str, I.isi_bl_tuple, I.isi_bl_list, I.isi_bl_bool, I.isi_bl_int, I.isi_bl_str, I.isi_int_tuple, I.isi_int_list, I.isi_int_bool, I.isi_int_int, I.isi_int_str, I.isi_str_tuple, I.isi_str_list, I.isi_str_bool, I.isi_str_int, I.isi_str_str, I.isi_tup_tuple, I.isi_tup_list, I.isi_tup_bool, I.isi_tup_int, I.isi_tup_str, I.isi_lst_tuple, I.isi_lst_list, I.isi_lst_bool, I.isi_lst_int, I.isi_lst_str, I.isi_scr_tuple, I.isi_scr_list, I.isi_scr_bool, I.isi_scr_int, I.isi_scr_str, dEq_bl, dNe_bl, dIsN_non, dIsN_bl, dIsN_int, dIsN_str, dIsN_tup, dIsN_lst, dAdd_int, dSub_int, dEq_int, dNe_int, dLt_int, dLe_int, dGt_int, dGe_int, dAddI_int, asB_bl, dIx_tup0, dIx_tup1, fLen, fAbs, fInt, fMax2, fMin2, gTupF, gsCons, gsNil, D.pure, D.pures, Bool.not_true, Bool.not_false, Bool.and_true, Bool.true_and, Bool.and_false, Bool.false_and, Option.bind_some, Option.bind_none, Option.map_some, Option.map_none, bind_ite, map_ite, List.map_cons, List.map_nil, List.replicate, List.cons_append, List.nil_append, List.append_nil, List.getElem?_cons_zero, List.getElem?_cons_succ, List.set_cons_zero, List.set_cons_succ, List.length_cons, List.length_nil, Nat.reduceAdd, Nat.reduceLT, Nat.zero_add, Nat.lt_add_one, if_true, if_false, ite_true, ite_false, decide_eq_true_eq, Bool.false_eq_true, reduceCtorEq, reduceIte, Nat.reduceLeDiff, Nat.reduceEqDiff, z0, rg, Int.toNat_natCast, e, lcallF, aConsL, giveE, pure_poly, lv, t0_eq, dEq_fr, ne, decide_false]
theorem step13 {o7 o8 o9 o11 o12 o13 : Option D} (hp : Pol n 3 24 200000 f) (hx : Ptv n 30 270 x) (hl : f.length ≤ 5) : ∃ env,
    S_law_13 (E0 s dg nums n f (some (vecD x)) o6 o7 o8 o9 (some (resD f x)) o11 o12 o13 none none none none none) = some (.rt (.bl true), env) := by
  have gt := great_term_eq hp hx (by omega)
  have gt : val F_great_term [polyD f, vecD x] = some (resD f x) := gt
  rcases resD_or f x with ⟨hr, _⟩ | ⟨t, ht, g, hr⟩
  · rw [hr] at gt ⊢
    have nn : dNe .non .non = some (.bl false) := by unfold dNe; rw [if_pos ⟨rfl, rfl⟩]; rfl
    have nb : dNotN .non .non = some (.bl false) := rfl
    simp only [S_law_13, S_law_14, S_law_15, S_law_16, E0, EV, val_fnF, zsF_eq, fzAt, D.fz, wpE, mgE, List.contains_cons, List.contains_nil, Nat.reduceBEq, Bool.or_false, Bool.or_true, Bool.false_or, Bool.true_or, seqF_eq, andThen_nx, andThen_bk, andThen_ct, andThen_rt, retV_rt, retV_nx, nxF, bkF, ctF, rtF, rnF, rmF, stF, exF, put, parF, agF, ifS, forF_eq, flF_nil, flF_cons, flK_nx, flK_ct, flK_bk, flK_rt, tbF, ttF, andF, orF, notF, andV, orV, ifF, chF, b1, b2, bN, clF_val, aNil, aCons, nmF, ownF, cF, fzF, itF, inF, itOf, rng1, rng2, yesF, dTru, dNot, I.isi_non_tuple, I.isi_non_list, I.isi_non_bool, I.isi_non_int, I.isi_non_str, I.isi_bl_tuple, I.isi_bl_list, I.isi_bl_bool, I.isi_bl_int, I.isi_bl_str, I.isi_int_tuple, I.isi_int_list, I.isi_int_bool, I.isi_int_int, I.isi_int_str, I.isi_str_tuple, I.isi_str_list, I.isi_str_bool, I.isi_str_int, I.isi_str_str, I.isi_tup_tuple, I.isi_tup_list, I.isi_tup_bool, I.isi_tup_int, I.isi_tup_str, I.isi_lst_tuple, I.isi_lst_list, I.isi_lst_bool, I.isi_lst_int, I.isi_lst_str, I.isi_scr_tuple, I.isi_scr_list, I.isi_scr_bool, I.isi_scr_int, I.isi_scr_str, dEq_bl, dNe_bl, dIsN_non, dIsN_bl, dIsN_int, dIsN_str, dIsN_tup, dIsN_lst, dAdd_int, dSub_int, dEq_int, dNe_int, dLt_int, dLe_int, dGt_int, dGe_int, dAddI_int, asB_bl, dIx_tup0, dIx_tup1, fLen, fAbs, fInt, fMax2, fMin2, gTupF, gsCons, gsNil, D.pure, D.pures, Bool.not_true, Bool.not_false, Bool.and_true, Bool.true_and, Bool.and_false, Bool.false_and, Option.bind_some, Option.bind_none, Option.map_some, Option.map_none, bind_ite, map_ite, List.map_cons, List.map_nil, List.replicate, List.cons_append, List.nil_append, List.append_nil, List.getElem?_cons_zero, List.getElem?_cons_succ, List.set_cons_zero, List.set_cons_succ, List.length_cons, List.length_nil, Nat.reduceAdd, Nat.reduceLT, Nat.zero_add, Nat.lt_add_one, if_true, if_false, ite_true, ite_false, decide_eq_true_eq, Bool.false_eq_true, reduceCtorEq, reduceIte, Nat.reduceLeDiff, Nat.reduceEqDiff, pure_poly, pure_vec, gt, nn, nb, decide_true]
    exact ⟨_, rfl⟩
  · rw [hr] at gt ⊢
    have kl := (hp.key t ht).1
    have n3 := hp.n3
    have nE := hp.nE
    have n1 := hp.n1
    have nn : dNe (keyD t.1) (keyD t.1) = some (.bl false) := dNe_self (wl_key (by omega)) (by omega)
    have ib : dIsN (keyD t.1) .non = some (.bl false) := rfl
    have nb : dNotN (keyD t.1) .non = some (.bl true) := rfl
    have sl : dShl (.int 1) (.int (n : Int)) = some (.int ((2 ^ n : Nat) : Int)) := by
      have : shOk 1 (n : Int) = true := tst_of ⟨by omega, by omega, by decide⟩
      simp only [dShl, this, if_true]
      simp
    have p8 : 2 ^ n ≤ 2 ^ 8 := Nat.pow_le_pow_right (by omega) (by omega)
    have rg := rg_of (show 2 ^ n ≤ 1000000 by omega)
    generalize 2 ^ n = m at *
    obtain ⟨e, h1, o15, o16, o17, o18, rfl⟩ := flF_rel (FT := put 15) (FB := L_law_9) (fun i : Nat => D.int (i : Int))
      (fun ys e => ∃ (o15 o16 o17 o18 : Option D), e = E0 s dg nums n f (some (vecD x)) o6 o7 o8 o9 (some (keyD t.1)) o11 o12 o13 (some (keyD t.1)) o15 o16 o17 o18) (List.range m)
      (E0 s dg nums n f (some (vecD x)) o6 o7 o8 o9 (some (keyD t.1)) o11 o12 o13 (some (keyD t.1)) none none none none) ⟨none, none, none, none, rfl⟩
      fun y ys e ⟨o15, o16, o17, o18, he⟩ => by
        subst he
        obtain ⟨p16, p17, p18, q⟩ := body9 (s := s) (dg := dg) (nums := nums) (o6 := o6) (o7 := o7) (o8 := o8) (o9 := o9) (o11 := o11) (o12 := o12) (o13 := o13) (o14 := some (keyD t.1)) hp hx ht g (d := keyD t.1) (y := y) (o16 := o16) (o17 := o17) (o18 := o18)
        refine ⟨_, ?_, some (.int y), p16, p17, p18, rfl⟩
        simp only [E0, EV] at q
        simp only [E0, EV, val_fnF, zsF_eq, fzAt, D.fz, wpE, mgE, List.contains_cons, List.contains_nil, Nat.reduceBEq, Bool.or_false, Bool.or_true, Bool.false_or, Bool.true_or, seqF_eq, andThen_nx, andThen_bk, andThen_ct, andThen_rt, retV_rt, retV_nx, nxF, bkF, ctF, rtF, rnF, rmF, stF, exF, put, parF, agF, ifS, forF_eq, flF_nil, flF_cons, flK_nx, flK_ct, flK_bk, flK_rt, tbF, ttF, andF, orF, notF, andV, orV, ifF, chF, b1, b2, bN, clF_val, aNil, aCons, nmF, ownF, cF, fzF, itF, inF, itOf, rng1, rng2, yesF, dTru, dNot, I.isi_non_tuple, I.isi_non_list, I.isi_non_bool, I.isi_non_int, I.isi_non_str, I.isi_bl_tuple, I.isi_bl_list, I.isi_bl_bool, I.isi_bl_int, I.isi_bl_str, I.isi_int_tuple, I.isi_int_list, I.isi_int_bool, I.isi_int_int, I.isi_int_str, I.isi_str_tuple, I.isi_str_list, I.isi_str_bool, I.isi_str_int, I.isi_str_str, I.isi_tup_tuple, I.isi_tup_list, I.isi_tup_bool, I.isi_tup_int, I.isi_tup_str, I.isi_lst_tuple, I.isi_lst_list, I.isi_lst_bool, I.isi_lst_int, I.isi_lst_str, I.isi_scr_tuple, I.isi_scr_list, I.isi_scr_bool, I.isi_scr_int, I.isi_scr_str, dEq_bl, dNe_bl, dIsN_non, dIsN_bl, dIsN_int, dIsN_str, dIsN_tup, dIsN_lst, dAdd_int, dSub_int, dEq_int, dNe_int, dLt_int, dLe_int, dGt_int, dGe_int, dAddI_int, asB_bl, dIx_tup0, dIx_tup1, fLen, fAbs, fInt, fMax2, fMin2, gTupF, gsCons, gsNil, D.pure, D.pures, Bool.not_true, Bool.not_false, Bool.and_true, Bool.true_and, Bool.and_false, Bool.false_and, Option.bind_some, Option.bind_none, Option.map_some, Option.map_none, bind_ite, map_ite, List.map_cons, List.map_nil, List.replicate, List.cons_append, List.nil_append, List.append_nil, List.getElem?_cons_zero, List.getElem?_cons_succ, List.set_cons_zero, List.set_cons_succ, List.length_cons, List.length_nil, Nat.reduceAdd, Nat.reduceLT, Nat.zero_add, Nat.lt_add_one, if_true, if_false, ite_true, ite_false, decide_eq_true_eq, Bool.false_eq_true, reduceCtorEq, reduceIte, Nat.reduceLeDiff, Nat.reduceEqDiff, q]
    simp only [E0, EV] at h1
    simp only [S_law_13, S_law_14, S_law_15, S_law_16, E0, EV, val_fnF, zsF_eq, fzAt, D.fz, wpE, mgE, List.contains_cons, List.contains_nil, Nat.reduceBEq, Bool.or_false, Bool.or_true, Bool.false_or, Bool.true_or, seqF_eq, andThen_nx, andThen_bk, andThen_ct, andThen_rt, retV_rt, retV_nx, nxF, bkF, ctF, rtF, rnF, rmF, stF, exF, put, parF, agF, ifS, forF_eq, flF_nil, flF_cons, flK_nx, flK_ct, flK_bk, flK_rt, tbF, ttF, andF, orF, notF, andV, orV, ifF, chF, b1, b2, bN, clF_val, aNil, aCons, nmF, ownF, cF, fzF, itF, inF, itOf, rng1, rng2, yesF, dTru, dNot, I.isi_non_tuple, I.isi_non_list, I.isi_non_bool, I.isi_non_int, I.isi_non_str, I.isi_bl_tuple, I.isi_bl_list, I.isi_bl_bool, I.isi_bl_int, I.isi_bl_str, I.isi_int_tuple, I.isi_int_list, I.isi_int_bool, I.isi_int_int, I.isi_int_str, I.isi_str_tuple, I.isi_str_list, I.isi_str_bool, I.isi_str_int, I.isi_str_str, I.isi_tup_tuple, I.isi_tup_list, I.isi_tup_bool, I.isi_tup_int, I.isi_tup_str, I.isi_lst_tuple, I.isi_lst_list, I.isi_lst_bool, I.isi_lst_int, I.isi_lst_str, I.isi_scr_tuple, I.isi_scr_list, I.isi_scr_bool, I.isi_scr_int, I.isi_scr_str, dEq_bl, dNe_bl, dIsN_non, dIsN_bl, dIsN_int, dIsN_str, dIsN_tup, dIsN_lst, dAdd_int, dSub_int, dEq_int, dNe_int, dLt_int, dLe_int, dGt_int, dGe_int, dAddI_int, asB_bl, dIx_tup0, dIx_tup1, fLen, fAbs, fInt, fMax2, fMin2, gTupF, gsCons, gsNil, D.pure, D.pures, Bool.not_true, Bool.not_false, Bool.and_true, Bool.true_and, Bool.and_false, Bool.false_and, Option.bind_some, Option.bind_none, Option.map_some, Option.map_none, bind_ite, map_ite, List.map_cons, List.map_nil, List.replicate, List.cons_append, List.nil_append, List.append_nil, List.getElem?_cons_zero, List.getElem?_cons_succ, List.set_cons_zero, List.set_cons_succ, List.length_cons, List.length_nil, Nat.reduceAdd, Nat.reduceLT, Nat.zero_add, Nat.lt_add_one, if_true, if_false, ite_true, ite_false, decide_eq_true_eq, Bool.false_eq_true, reduceCtorEq, reduceIte, Nat.reduceLeDiff, Nat.reduceEqDiff, pure_poly, pure_vec, gt, nn, nb, ib, decide_true, sl, rg, Int.toNat_natCast, h1]
    exact ⟨_, rfl⟩
end
theorem law_ok (ns : List Int) (hn : ns.length ≤ 63) : ∃ env, F_law [.scr ns] = some (.bl true, env) := by
  obtain ⟨l, el, hl⟩ := numbers_ok (ns := ns) (first := 1) (most := 14) hn (by omega) (by omega) (by omega)
  have c0 := cell_eq ns 0
  generalize ns.getD 0 0 = c at c0
  have ab : fAbs [.int c] = some (.int (c.natAbs : Int)) := by
    have : (if c < 0 then -c else c) = (c.natAbs : Int) := by split <;> omega
    simp only [fAbs, this]
  have dg0 : (0 : Int) ≤ (c.natAbs : Int) := by omega
  generalize hdg : (c.natAbs : Int) = dg at ab dg0
  have ll : dLst [.int 5, .int 11, .int 17, .int 2, .int 14, .int 23, .int 40, .int 8, .int 31] = some (.lst true [.int 5, .int 11, .int 17, .int 2, .int 14, .int 23, .int 40, .int 8, .int 31]) := dLst_le (by simp)
  have ad : dAdd (.lst true (l.map .int)) (.lst true [.int 5, .int 11, .int 17, .int 2, .int 14, .int 23, .int 40, .int 8, .int 31]) = some (.lst true ((l ++ [5, 11, 17, 2, 14, 23, 40, 8, 31]).map .int)) := by
    have lo : lineOk ((l.map D.int).length + [D.int 5, .int 11, .int 17, .int 2, .int 14, .int 23, .int 40, .int 8, .int 31].length) = true := tst_of (by have := hl.len; simp; omega)
    have pu : D.pures [D.int 5, .int 11, .int 17, .int 2, .int 14, .int 23, .int 40, .int 8, .int 31] = true := rfl
    simp only [dAdd, pures_ints, pu, lo, and_self, if_true, List.map_append, List.map_cons, List.map_nil]
  obtain ⟨nums, hnums⟩ : ∃ nums, nums = l ++ [5, 11, 17, 2, 14, 23, 40, 8, 31] := ⟨_, rfl⟩
  rw [← hnums] at ad
  have h0 : 9 ≤ nums.length := by rw [hnums]; simp
  have m3 := dMod_pos (i := dg) (show (0 : Int) < 3 by decide)
  have a1 := Int.emod_nonneg dg (show (3 : Int) ≠ 0 by omega)
  have a2 := Int.emod_lt_of_pos dg (show (0 : Int) < 3 by omega)
  obtain ⟨n, hnn⟩ : ∃ n : Nat, 1 + dg % 3 = n := ⟨(1 + dg % 3).toNat, by omega⟩
  have n1 : 1 ≤ n := by omega
  have n3 : n ≤ 3 := by omega
  obtain ⟨f, ef, fl, fk, _⟩ := ordinary_ok (nums := nums) (by omega) (first := 0) (by omega) n1 n3 (most := 5) (top := 3) (by omega) (by omega)
  have hf : Ff n 29400 f := ⟨fun t ht => (fk t ht).1, fun t ht => (fk t ht).2.1, fl⟩
  have ef' : val F__law_ordinary [.lst false (nums.map .int), .int 0, .int n, .int 5, .int 3] = some (polyD f) := ef
  have c0' : val F__law_cell [.scr ns, .int 0] = some (.int c) := c0
  obtain ⟨f5, hf5, f5n, e5⟩ := step5 (s := .scr ns) (dg := dg) (nums := nums) n1 n3 hf
  obtain ⟨x6, hx6, e6⟩ := step6 (s := .scr ns) (dg := dg) (nums := nums) (f := f5) n1 n3 h0
  obtain ⟨f7, x, o6, o7, hf7, hx, e7⟩ := step7 (s := .scr ns) (nums := nums) dg0 n1 n3 hf5 f5n hx6
  obtain ⟨hf8, e8⟩ := step8 (s := .scr ns) (dg := dg) (nums := nums) (x := x) (o6 := o6) (o7 := o7) hf7
  generalize f7.filter (fun t => !decide (t.2 = 0)) = f8 at *
  have hp := hf8.pol n1 n3 (by decide)
  obtain ⟨o7', o9, e9⟩ := step9 (s := .scr ns) (dg := dg) (nums := nums) (o6 := o6.map fr) (o7 := o7.map termD) hp hx
  obtain ⟨o11, o12, o13, e11⟩ := step11 (s := .scr ns) (dg := dg) (nums := nums) (o6 := o6.map fr) (o7 := o7') (o9 := o9) hp hx hf8.len
  obtain ⟨env, e13⟩ := step13 (s := .scr ns) (dg := dg) (nums := nums) (o6 := o6.map fr) (o7 := o7') (o8 := some (.lst true ((f8.map (szT x)).map fr))) (o9 := o9) (o11 := o11) (o12 := o12) (o13 := o13) hp hx hf8.len
  have pn : D.pures (nums.map .int) = true := pures_ints nums
  have fzn : D.fzs (nums.map .int) = nums.map .int := fzs_ints nums
  have e2 : S_law_2 (EV (some (.scr ns)) (some (.int dg)) none none none none none none none none none none none none none none none none none) = S_law_5 (E0 (.scr ns) dg nums n f none none none none none none none none none none none none none none) := by
    simp only [S_law_2, S_law_3, S_law_4, E0, EV, val_fnF, zsF_eq, fzAt, D.fz, wpE, mgE, List.contains_cons, List.contains_nil, Nat.reduceBEq, Bool.or_false, Bool.or_true, Bool.false_or, Bool.true_or, seqF_eq, andThen_nx, andThen_bk, andThen_ct, andThen_rt, retV_rt, retV_nx, nxF, bkF, ctF, rtF, rnF, rmF, stF, exF, put, parF, agF, ifS, forF_eq, flF_nil, flF_cons, flK_nx, flK_ct, flK_bk, flK_rt, tbF, ttF, andF, orF, notF, andV, orV, ifF, chF, b1, b2, bN, clF_val, aNil, aCons, nmF, ownF, cF, fzF, itF, inF, itOf, rng1, rng2, yesF, dTru, dNot, I.isi_non_tuple, I.isi_non_list, I.isi_non_bool, I.isi_non_int, I.isi_non_str, I.isi_bl_tuple, I.isi_bl_list, I.isi_bl_bool, I.isi_bl_int, I.isi_bl_str, I.isi_int_tuple, I.isi_int_list, I.isi_int_bool, I.isi_int_int, I.isi_int_str, I.isi_str_tuple, I.isi_str_list, I.isi_str_bool, I.isi_str_int, I.isi_str_str, I.isi_tup_tuple, I.isi_tup_list, I.isi_tup_bool, I.isi_tup_int, I.isi_tup_str, I.isi_lst_tuple, I.isi_lst_list, I.isi_lst_bool, I.isi_lst_int, I.isi_lst_str, I.isi_scr_tuple, I.isi_scr_list, I.isi_scr_bool, I.isi_scr_int, I.isi_scr_str, dEq_bl, dNe_bl, dIsN_non, dIsN_bl, dIsN_int, dIsN_str, dIsN_tup, dIsN_lst, dAdd_int, dSub_int, dEq_int, dNe_int, dLt_int, dLe_int, dGt_int, dGe_int, dAddI_int, asB_bl, dIx_tup0, dIx_tup1, fLen, fAbs, fInt, fMax2, fMin2, gTupF, gsCons, gsNil, D.pure, D.pures, Bool.not_true, Bool.not_false, Bool.and_true, Bool.true_and, Bool.and_false, Bool.false_and, Option.bind_some, Option.bind_none, Option.map_some, Option.map_none, bind_ite, map_ite, List.map_cons, List.map_nil, List.replicate, List.cons_append, List.nil_append, List.append_nil, List.getElem?_cons_zero, List.getElem?_cons_succ, List.set_cons_zero, List.set_cons_succ, List.length_cons, List.length_nil, Nat.reduceAdd, Nat.reduceLT, Nat.zero_add, Nat.lt_add_one, if_true, if_false, ite_true, ite_false, decide_eq_true_eq, Bool.false_eq_true, reduceCtorEq, reduceIte, Nat.reduceLeDiff, Nat.reduceEqDiff, el, ll, ad, fzn, pn, m3, hnn, ef']
  rw [e5, e6, e7, e8, e9, e11, e13] at e2
  simp only [EV] at e2
  simp only [fAbs] at ab
  simp only [F_law, fnF_eq, val_fnF, zsF_eq, fzAt, D.fz, wpE, mgE, List.contains_cons, List.contains_nil, Nat.reduceBEq, Bool.or_false, Bool.or_true, Bool.false_or, Bool.true_or, seqF_eq, andThen_nx, andThen_bk, andThen_ct, andThen_rt, retV_rt, retV_nx, nxF, bkF, ctF, rtF, rnF, rmF, stF, exF, put, parF, agF, ifS, forF_eq, flF_nil, flF_cons, flK_nx, flK_ct, flK_bk, flK_rt, tbF, ttF, andF, orF, notF, andV, orV, ifF, chF, b1, b2, bN, clF_val, aNil, aCons, nmF, ownF, cF, fzF, itF, inF, itOf, rng1, rng2, yesF, dTru, dNot, I.isi_non_tuple, I.isi_non_list, I.isi_non_bool, I.isi_non_int, I.isi_non_str, I.isi_bl_tuple, I.isi_bl_list, I.isi_bl_bool, I.isi_bl_int, I.isi_bl_str, I.isi_int_tuple, I.isi_int_list, I.isi_int_bool, I.isi_int_int, I.isi_int_str, I.isi_str_tuple, I.isi_str_list, I.isi_str_bool, I.isi_str_int, I.isi_str_str, I.isi_tup_tuple, I.isi_tup_list, I.isi_tup_bool, I.isi_tup_int, I.isi_tup_str, I.isi_lst_tuple, I.isi_lst_list, I.isi_lst_bool, I.isi_lst_int, I.isi_lst_str, I.isi_scr_tuple, I.isi_scr_list, I.isi_scr_bool, I.isi_scr_int, I.isi_scr_str, dEq_bl, dNe_bl, dIsN_non, dIsN_bl, dIsN_int, dIsN_str, dIsN_tup, dIsN_lst, dAdd_int, dSub_int, dEq_int, dNe_int, dLt_int, dLe_int, dGt_int, dGe_int, dAddI_int, asB_bl, dIx_tup0, dIx_tup1, fLen, fAbs, fInt, fMax2, fMin2, gTupF, gsCons, gsNil, D.pure, D.pures, Bool.not_true, Bool.not_false, Bool.and_true, Bool.true_and, Bool.and_false, Bool.false_and, Option.bind_some, Option.bind_none, Option.map_some, Option.map_none, bind_ite, map_ite, List.map_cons, List.map_nil, List.replicate, List.cons_append, List.nil_append, List.append_nil, List.getElem?_cons_zero, List.getElem?_cons_succ, List.set_cons_zero, List.set_cons_succ, List.length_cons, List.length_nil, Nat.reduceAdd, Nat.reduceLT, Nat.zero_add, Nat.lt_add_one, if_true, if_false, ite_true, ite_false, decide_eq_true_eq, Bool.false_eq_true, reduceCtorEq, reduceIte, Nat.reduceLeDiff, Nat.reduceEqDiff, c0', ab, e2, fnO_rt]
  exact ⟨_, rfl⟩
end
end G46

set_option Elab.async false
set_option linter.all false
set_option maxRecDepth 100000
set_option maxHeartbeats 4000000
namespace G46
open PySem L2 Pz
noncomputable section
abbrev tp (i : Nat) : Stmt := PySem.Challenge.pw_leastplus_k46_great_terms.main.body.getD i (.Pass ⟨0, 0, 0, 0⟩)
structure Txt (K : PySem.W.Frag) (mg : Str → Option Value) : Prop where
  b_abs : mg "abs" = none
  b_int : mg "int" = none
  b_len : mg "len" = none
  b_range : mg "range" = none
  b_sorted : mg "sorted" = none
  b_tuple : mg "tuple" = none
  b_zip : mg "zip" = none
  e_INFINITE : ∃ v u, mg "INFINITE" = some u ∧ RelV v u ∧ ∀ G H, Rp K G H g_INFINITE v []
  e_ZERO : ∃ v u, mg "ZERO" = some u ∧ RelV v u ∧ ∀ G H, Rp K G H g_ZERO v []
end
end G46
namespace G46
open PySem L2 Pz
noncomputable section
section
variable {P : Program} {w : World} {K : PySem.W.Frag} {mg : Str → Option Value} {base : Heap}
theorem sc_common_divisor : FnScope ["a", "b"] ["a", "b"] (defScope (tp 6)) := ⟨rfl, rfl, rfl, by decide +kernel, rfl, by decide +kernel, by decide +kernel⟩
theorem cal_common_divisor {f : Addr} {fd : FuncData} (T : Txt K mg) (F : Fun K "common_divisor" "common_divisor" (tp 6) f fd) (hm : mg "common_divisor" = some (.ref f)) (hb : Binds K fd ["a", "b"] []) : Cal P w K mg base "common_divisor" 1 ["a", "b"] F_common_divisor := by
  refine cal_mk arity_fnF (fnV F sc_common_divisor 0 rfl (W := [0, 1]) fun cdv A outer s H E hr => ?_) hm F.kp hb
  exact bv_W (bv_cons (sv_par (i := 0) (j := 1) rfl sc_common_divisor.nd rfl rfl (by decide) rfl rfl (av_cons (ev_callB call_abs on_abs (by rfl) T.b_abs (by decide +kernel) (av_cons (ev_look (pv 0)) av_nil)) (av_cons (ev_callB call_abs on_abs (by rfl) T.b_abs (by decide +kernel) (av_cons (ev_look (pv 1)) av_nil)) av_nil)) (by rfl)) (bv_cons (sv_while (FT := C_common_divisor_1) (F := L_common_divisor_1) PySem.PassesOwn.never (tv_cmp op_gt o2_gt (ev_look (pv 1)) ev_int (nomark _)) (bv_one (sv_par (i := 0) (j := 1) rfl sc_common_divisor.nd rfl rfl (by decide) rfl rfl (av_cons (ev_name (pv 1)) (av_cons (ev_bin op_modN o2_mod (ev_look (pv 0)) (ev_look (pv 1))) av_nil)) (by rfl)))) (bv_one (sv_ret (ev_name (pv 0)))))) (by decide)
theorem sc_sign : FnScope ["x"] ["x"] (defScope (tp 11)) := ⟨rfl, rfl, rfl, by decide +kernel, rfl, by decide +kernel, by decide +kernel⟩
theorem cal_sign {f : Addr} {fd : FuncData} (T : Txt K mg) (F : Fun K "sign" "sign" (tp 11) f fd) (hm : mg "sign" = some (.ref f)) (hb : Binds K fd ["x"] []) : Cal P w K mg base "sign" 1 ["x"] F_sign := by
  refine cal_mk arity_fnF (fnV F sc_sign 0 rfl (W := []) fun cdv A outer s H E hr => ?_) hm F.kp hb
  exact bv_W (bv_one (sv_ret (ev_bin op_sub o2_sub (ev_callTy call_int1 on_int (by rfl) T.b_int (by decide +kernel) (av_cons (ev_cmp op_gt o2_gt (ev_sub (ev_look (pv 0)) ev_int (fun _ _ => rfl)) ev_int (nomark _)) av_nil)) (ev_callTy call_int1 on_int (by rfl) T.b_int (by decide +kernel) (av_cons (ev_cmp (opr_lt hr.units0) o2_lt (ev_sub (ev_look (pv 0)) ev_int (fun _ _ => rfl)) ev_int (nomark _)) av_nil))))) (by decide)
theorem sc__law_cell : FnScope ["script", "k"] ["script", "k"] (defScope (tp 20)) := ⟨rfl, rfl, rfl, by decide +kernel, rfl, by decide +kernel, by decide +kernel⟩
theorem cal__law_cell {f : Addr} {fd : FuncData} (T : Txt K mg) (F : Fun K "_law_cell" "_law_cell" (tp 20) f fd) (hm : mg "_law_cell" = some (.ref f)) (hb : Binds K fd ["script", "k"] []) : Cal P w K mg base "_law_cell" 1 ["script", "k"] F__law_cell := by
  refine cal_mk arity_fnF (fnV F sc__law_cell 0 rfl (W := []) fun cdv A outer s H E hr => ?_) hm F.kp hb
  exact bv_W (bv_cons (sv_if (tv_cmp (opr_lt hr.units0) o2_lt (ev_look (pv 1)) (ev_callB call_len on_len (by rfl) T.b_len PySem.boot_len (av_cons (ev_look (pv 0)) av_nil)) (nomark _)) (bv_one (sv_ret (ev_own (ev_sub (ev_look (pv 0)) (ev_look (pv 1)) (fun _ _ => rfl))))) bv_nil) (bv_one (sv_ret ev_int))) (by decide)
theorem sc__law_numbers : FnScope ["script", "first", "most", "found", "at", "cell", "k", "mixed"] ["script", "first", "most"] (defScope (tp 21)) := ⟨rfl, rfl, rfl, by decide +kernel, rfl, by decide +kernel, by decide +kernel⟩
theorem cal__law_numbers {f : Addr} {fd : FuncData} (T : Txt K mg) (F : Fun K "_law_numbers" "_law_numbers" (tp 21) f fd) (hm : mg "_law_numbers" = some (.ref f)) (hb : Binds K fd ["script", "first", "most"] []) : Cal P w K mg base "_law_numbers" 1 ["script", "first", "most"] F__law_numbers := by
  refine cal_mk arity_fnF (fnV F sc__law_numbers 5 rfl (W := [3, 4, 5, 6, 7]) fun cdv A outer s H E hr => ?_) hm F.kp hb
  exact bv_W (bv_cons (sv_set (i := 3) sc__law_numbers.nd rfl (by first | exact .inl rfl | exact .inr rfl) (ev_lst av_nil)) (bv_cons (sv_for (FB := L__law_numbers_2) PySem.PassesOwn.never rfl (iv_range2 (by rfl) T.b_range (av_cons (ev_name (pv 1)) (av_cons (ev_callB call_len on_len (by rfl) T.b_len PySem.boot_len (av_cons (ev_look (pv 0)) av_nil)) av_nil))) (gv_name sc__law_numbers.nd rfl (by first | exact .inl rfl | exact .inr rfl)) (bv_cons (sv_set (i := 5) sc__law_numbers.nd rfl (by first | exact .inl rfl | exact .inr rfl) (ev_callB call_abs on_abs (by rfl) T.b_abs (by decide +kernel) (av_cons (ev_sub (ev_look (pv 0)) (ev_look (pv 4)) (fun _ _ => rfl)) av_nil))) (bv_one (sv_if (tv_cmp op_ge o2_ge (ev_look (pv 5)) ev_int (nomark _)) (bv_one (sv_for (FB := L__law_numbers_1) PySem.PassesOwn.never rfl (iv_range1 (by rfl) T.b_range (av_cons ev_int av_nil)) (gv_name sc__law_numbers.nd rfl (by first | exact .inl rfl | exact .inr rfl)) (bv_one (sv_if (tv_w (wv_and (tv_cmp op_gt o2_gt (ev_look (pv 5)) ev_int (nomark _)) (wv_and1 (tv_cmp (opr_lt hr.units0) o2_lt (ev_callB call_len on_len (by rfl) T.b_len PySem.boot_len (av_cons (ev_look (pv 3)) av_nil)) (ev_look (pv 2)) (nomark _))))) (bv_cons (sv_expr (ev_mt PySem.F.slot_list_append PySem.F.type_list_append mt_append mut_append (pv 3) (av_cons (ev_bin op_modN o2_mod (ev_callTy call_int1 on_int (by rfl) T.b_int (by decide +kernel) (av_cons (ev_look (pv 5)) av_nil)) ev_int) av_nil))) (bv_one (sv_set (i := 5) sc__law_numbers.nd rfl (by first | exact .inl rfl | exact .inr rfl) (ev_bin op_fdivX o2_div (ev_look (pv 5)) ev_int)))) bv_nil)))) (bv_one (sv_if (tv_cmp (opr_lt hr.units0) o2_lt (ev_callB call_len on_len (by rfl) T.b_len PySem.boot_len (av_cons (ev_look (pv 3)) av_nil)) (ev_look (pv 2)) (nomark _)) (bv_cons (sv_set (i := 7) sc__law_numbers.nd rfl (by first | exact .inl rfl | exact .inr rfl) (ev_bin op_modN o2_mod (ev_callTy call_int1 on_int (by rfl) T.b_int (by decide +kernel) (av_cons (ev_bin opr_add o2_add (ev_bin opr_add o2_add (ev_bin op_mulZ o2_mul (ev_look (pv 5)) ev_int) (ev_bin op_mulZ o2_mul (ev_look (pv 4)) ev_int)) ev_int) av_nil)) ev_int)) (bv_cons (sv_set (i := 7) sc__law_numbers.nd rfl (by first | exact .inl rfl | exact .inr rfl) (ev_bin op_modN o2_mod (ev_callTy call_int1 on_int (by rfl) T.b_int (by decide +kernel) (av_cons (ev_bin opr_add o2_add (ev_bin op_mulZ o2_mul (ev_look (pv 7)) ev_int) (ev_bin op_fdivX o2_div (ev_look (pv 7)) ev_int)) av_nil)) ev_int)) (bv_one (sv_expr (ev_mt PySem.F.slot_list_append PySem.F.type_list_append mt_append mut_append (pv 3) (av_cons (ev_bin op_modN o2_mod (ev_callTy call_int1 on_int (by rfl) T.b_int (by decide +kernel) (av_cons (ev_look (pv 7)) av_nil)) ev_int) av_nil)))))) bv_nil)))))) (bv_one (sv_retMove (pv 3))))) (by decide)
theorem sc__law_frac : FnScope ["a", "b", "x", "y", "k", "rest"] ["a", "b"] (defScope (tp 22)) := ⟨rfl, rfl, rfl, by decide +kernel, rfl, by decide +kernel, by decide +kernel⟩
theorem cal__law_frac {f : Addr} {fd : FuncData} (T : Txt K mg) (F : Fun K "_law_frac" "_law_frac" (tp 22) f fd) (hm : mg "_law_frac" = some (.ref f)) (hb : Binds K fd ["a", "b"] []) : Cal P w K mg base "_law_frac" 1 ["a", "b"] F__law_frac := by
  refine cal_mk arity_fnF (fnV F sc__law_frac 4 rfl (W := [2, 3, 4, 5]) fun cdv A outer s H E hr => ?_) hm F.kp hb
  exact bv_W (bv_cons (sv_set (i := 2) sc__law_frac.nd rfl (by first | exact .inl rfl | exact .inr rfl) (ev_callB call_abs on_abs (by rfl) T.b_abs (by decide +kernel) (av_cons (ev_look (pv 0)) av_nil))) (bv_cons (sv_set (i := 3) sc__law_frac.nd rfl (by first | exact .inl rfl | exact .inr rfl) (ev_callB call_abs on_abs (by rfl) T.b_abs (by decide +kernel) (av_cons (ev_look (pv 1)) av_nil))) (bv_cons (sv_for (FB := L__law_frac_1) PySem.PassesOwn.never rfl (iv_range1 (by rfl) T.b_range (av_cons (ev_bin opr_add o2_add (ev_bin op_mulZ o2_mul ev_int (ev_bits (ev_callB call_abs on_abs (by rfl) T.b_abs (by decide +kernel) (av_cons (ev_look (pv 1)) av_nil)))) ev_int) av_nil)) (gv_name sc__law_frac.nd rfl (by first | exact .inl rfl | exact .inr rfl)) (bv_cons (sv_if (tv_cmp (op_eqD hr.units) o2_eq (ev_look (pv 3)) ev_int (nomark _)) (bv_one sv_break) bv_nil) (bv_cons (sv_set (i := 5) sc__law_frac.nd rfl (by first | exact .inl rfl | exact .inr rfl) (ev_bin op_modN o2_mod (ev_callTy call_int1 on_int (by rfl) T.b_int (by decide +kernel) (av_cons (ev_look (pv 2)) av_nil)) (ev_look (pv 3)))) (bv_cons (sv_set (i := 2) sc__law_frac.nd rfl (by first | exact .inl rfl | exact .inr rfl) (ev_name (pv 3))) (bv_one (sv_set (i := 3) sc__law_frac.nd rfl (by first | exact .inl rfl | exact .inr rfl) (ev_name (pv 5)))))))) (bv_cons (sv_if (tv_cmp (opr_lt hr.units0) o2_lt (ev_look (pv 1)) ev_int (nomark _)) (bv_one (sv_set (i := 2) sc__law_frac.nd rfl (by first | exact .inl rfl | exact .inr rfl) (ev_bin op_sub o2_sub ev_int (ev_look (pv 2))))) bv_nil) (bv_one (sv_ret (ev_tup (av_cons (ev_bin op_fdivX o2_div (ev_look (pv 0)) (ev_look (pv 2))) (av_cons (ev_bin op_fdivX o2_div (ev_look (pv 1)) (ev_look (pv 2))) av_nil))))))))) (by decide)
theorem sc__law_below : FnScope ["x", "y"] ["x", "y"] (defScope (tp 25)) := ⟨rfl, rfl, rfl, by decide +kernel, rfl, by decide +kernel, by decide +kernel⟩
theorem cal__law_below {f : Addr} {fd : FuncData} (T : Txt K mg) (F : Fun K "_law_below" "_law_below" (tp 25) f fd) (hm : mg "_law_below" = some (.ref f)) (hb : Binds K fd ["x", "y"] []) : Cal P w K mg base "_law_below" 1 ["x", "y"] F__law_below := by
  refine cal_mk arity_fnF (fnV F sc__law_below 0 rfl (W := []) fun cdv A outer s H E hr => ?_) hm F.kp hb
  exact bv_W (bv_cons (sv_if (tv_cmp (op_eqD hr.units) o2_eq (ev_look (pv 0)) (ev_tup av_nil) (nomark _)) (bv_one (sv_ret ev_bl)) bv_nil) (bv_one (sv_ret (ev_or (ev_cmp (op_eqD hr.units) o2_eq (ev_look (pv 1)) (ev_tup av_nil) (nomark _)) (ev_one (ev_cmp (opr_lt hr.units0) o2_lt (ev_bin op_mulZ o2_mul (ev_sub (ev_look (pv 0)) ev_int (fun _ _ => rfl)) (ev_sub (ev_look (pv 1)) ev_int (fun _ _ => rfl))) (ev_bin op_mulZ o2_mul (ev_sub (ev_look (pv 1)) ev_int (fun _ _ => rfl)) (ev_sub (ev_look (pv 0)) ev_int (fun _ _ => rfl))) (nomark _))))))) (by decide)
theorem sc_fraction : FnScope ["a", "b", "divisor"] ["a", "b"] (defScope (tp 7)) := ⟨rfl, rfl, rfl, by decide +kernel, rfl, by decide +kernel, by decide +kernel⟩
theorem cal_fraction {f : Addr} {fd : FuncData} (T : Txt K mg) (F : Fun K "fraction" "fraction" (tp 7) f fd) (hm : mg "fraction" = some (.ref f)) (hb : Binds K fd ["a", "b"] []) (c_common_divisor : Cal P w K mg base "common_divisor" 1 ["a", "b"] F_common_divisor) : Cal P w K mg base "fraction" 2 ["a", "b"] F_fraction := by
  refine cal_mk arity_fnF (fnV F sc_fraction 1 rfl (W := [2]) fun cdv A outer s H E hr => ?_) hm F.kp hb
  exact bv_W (bv_cons (sv_if (tv_cmp (op_eqD hr.units) o2_eq (ev_look (pv 1)) ev_int (nomark _)) (bv_one sv_never) bv_nil) (bv_cons (sv_set (i := 2) sc_fraction.nd rfl (by first | exact .inl rfl | exact .inr rfl) (ev_def c_common_divisor (hr.mono (by decide)) (by rfl) (av_cons (ev_name (pv 0)) (av_cons (ev_name (pv 1)) av_nil)))) (bv_cons (sv_if (tv_cmp (opr_lt hr.units0) o2_lt (ev_look (pv 1)) ev_int (nomark _)) (bv_one (sv_set (i := 2) sc_fraction.nd rfl (by first | exact .inl rfl | exact .inr rfl) (ev_un un_neg o1_neg (ev_look (pv 2))))) bv_nil) (bv_one (sv_ret (ev_tup (av_cons (ev_bin op_fdivX o2_div (ev_look (pv 0)) (ev_look (pv 2))) (av_cons (ev_bin op_fdivX o2_div (ev_look (pv 1)) (ev_look (pv 2))) av_nil)))))))) (by decide)
theorem sc__law_plus : FnScope ["x", "y"] ["x", "y"] (defScope (tp 23)) := ⟨rfl, rfl, rfl, by decide +kernel, rfl, by decide +kernel, by decide +kernel⟩
theorem cal__law_plus {f : Addr} {fd : FuncData} (T : Txt K mg) (F : Fun K "_law_plus" "_law_plus" (tp 23) f fd) (hm : mg "_law_plus" = some (.ref f)) (hb : Binds K fd ["x", "y"] []) (c__law_frac : Cal P w K mg base "_law_frac" 1 ["a", "b"] F__law_frac) : Cal P w K mg base "_law_plus" 2 ["x", "y"] F__law_plus := by
  refine cal_mk arity_fnF (fnV F sc__law_plus 0 rfl (W := []) fun cdv A outer s H E hr => ?_) hm F.kp hb
  exact bv_W (bv_one (sv_ret (ev_def c__law_frac (hr.mono (by decide)) (by rfl) (av_cons (ev_bin opr_add o2_add (ev_bin op_mulZ o2_mul (ev_sub (ev_look (pv 0)) ev_int (fun _ _ => rfl)) (ev_sub (ev_look (pv 1)) ev_int (fun _ _ => rfl))) (ev_bin op_mulZ o2_mul (ev_sub (ev_look (pv 1)) ev_int (fun _ _ => rfl)) (ev_sub (ev_look (pv 0)) ev_int (fun _ _ => rfl)))) (av_cons (ev_bin op_mulZ o2_mul (ev_sub (ev_look (pv 0)) ev_int (fun _ _ => rfl)) (ev_sub (ev_look (pv 1)) ev_int (fun _ _ => rfl))) av_nil))))) (by decide)
theorem sc__law_times : FnScope ["x", "y"] ["x", "y"] (defScope (tp 24)) := ⟨rfl, rfl, rfl, by decide +kernel, rfl, by decide +kernel, by decide +kernel⟩
theorem cal__law_times {f : Addr} {fd : FuncData} (T : Txt K mg) (F : Fun K "_law_times" "_law_times" (tp 24) f fd) (hm : mg "_law_times" = some (.ref f)) (hb : Binds K fd ["x", "y"] []) (c__law_frac : Cal P w K mg base "_law_frac" 1 ["a", "b"] F__law_frac) : Cal P w K mg base "_law_times" 2 ["x", "y"] F__law_times := by
  refine cal_mk arity_fnF (fnV F sc__law_times 0 rfl (W := []) fun cdv A outer s H E hr => ?_) hm F.kp hb
  exact bv_W (bv_one (sv_ret (ev_def c__law_frac (hr.mono (by decide)) (by rfl) (av_cons (ev_bin op_mulZ o2_mul (ev_sub (ev_look (pv 0)) ev_int (fun _ _ => rfl)) (ev_sub (ev_look (pv 1)) ev_int (fun _ _ => rfl))) (av_cons (ev_bin op_mulZ o2_mul (ev_sub (ev_look (pv 0)) ev_int (fun _ _ => rfl)) (ev_sub (ev_look (pv 1)) ev_int (fun _ _ => rfl))) av_nil))))) (by decide)
theorem sc__law_ordinary : FnScope ["numbers", "first", "n", "most", "top", "rows", "count", "k", "number", "exponents", "a", "i"] ["numbers", "first", "n", "most", "top"] (defScope (tp 27)) := ⟨rfl, rfl, rfl, by decide +kernel, rfl, by decide +kernel, by decide +kernel⟩
theorem cal__law_ordinary {f : Addr} {fd : FuncData} (T : Txt K mg) (F : Fun K "_law_ordinary" "_law_ordinary" (tp 27) f fd) (hm : mg "_law_ordinary" = some (.ref f)) (hb : Binds K fd ["numbers", "first", "n", "most", "top"] []) (c__law_frac : Cal P w K mg base "_law_frac" 1 ["a", "b"] F__law_frac) : Cal P w K mg base "_law_ordinary" 2 ["numbers", "first", "n", "most", "top"] F__law_ordinary := by
  refine cal_mk arity_fnF (fnV F sc__law_ordinary 7 rfl (W := [5, 6, 7, 8, 9, 10]) fun cdv A outer s H E hr => ?_) hm F.kp hb
  exact bv_W (bv_cons (sv_set (i := 5) sc__law_ordinary.nd rfl (by first | exact .inl rfl | exact .inr rfl) ev_knew) (bv_cons (sv_set (i := 6) sc__law_ordinary.nd rfl (by first | exact .inl rfl | exact .inr rfl) (ev_bin op_modN o2_mod (ev_callTy call_int1 on_int (by rfl) T.b_int (by decide +kernel) (av_cons (ev_sub (ev_look (pv 0)) (ev_bin op_modN o2_mod (ev_callTy call_int1 on_int (by rfl) T.b_int (by decide +kernel) (av_cons (ev_look (pv 1)) av_nil)) (ev_callB call_len on_len (by rfl) T.b_len PySem.boot_len (av_cons (ev_look (pv 0)) av_nil))) (fun _ _ => rfl)) av_nil)) (ev_bin opr_add o2_add (ev_look (pv 3)) ev_int))) (bv_cons (sv_for (FB := L__law_ordinary_2) PySem.PassesOwn.never rfl (iv_range1 (by rfl) T.b_range (av_cons (ev_name (pv 6)) av_nil)) (gv_name sc__law_ordinary.nd rfl (by first | exact .inl rfl | exact .inr rfl)) (bv_cons (sv_set (i := 8) sc__law_ordinary.nd rfl (by first | exact .inl rfl | exact .inr rfl) (ev_callTy call_int1 on_int (by rfl) T.b_int (by decide +kernel) (av_cons (ev_sub (ev_look (pv 0)) (ev_bin op_modN o2_mod (ev_bin opr_add o2_add (ev_bin opr_add o2_add (ev_look (pv 1)) ev_int) (ev_look (pv 7))) (ev_callB call_len on_len (by rfl) T.b_len PySem.boot_len (av_cons (ev_look (pv 0)) av_nil))) (fun _ _ => rfl)) av_nil))) (bv_cons (sv_set (i := 9) sc__law_ordinary.nd rfl (by first | exact .inl rfl | exact .inr rfl) (ev_callTy call_tuple_of on_tuple (by rfl) T.b_tuple (by decide +kernel) (av_cons (ev_lc (own := [("i", 11)]) rfl sc__law_ordinary.nd (iv_range1 (by rfl) T.b_range (av_cons (ev_name (pv 2)) av_nil)) (blkOk_by (N := ["numbers", "first", "n", "most", "top", "rows", "count", "k", "number", "exponents", "a", "i"]) (sc := defScope (tp 27)) (by decide +kernel)) (fun _ _ _ _ _ => (gv_name sc__law_ordinary.nd rfl (by first | exact .inl rfl | exact .inr rfl))) (fun _ _ _ _ _ => cv_nil) (fun _ _ _ _ _ => (ev_bin op_modN o2_mod (ev_bin op_fdivX o2_div (ev_look (pv 8)) (ev_bin opr_add o2_add ev_int (ev_bin op_mulZ o2_mul (ev_bin op_mulZ o2_mul ev_int (ev_look (pv 11))) (ev_look (pv 11))))) (ev_bin opr_add o2_add (ev_look (pv 4)) ev_int))) (by decide)) av_nil))) (bv_cons (sv_set (i := 10) sc__law_ordinary.nd rfl (by first | exact .inl rfl | exact .inr rfl) (ev_bin op_mulZ o2_mul (ev_sub (ev_lst (av_cons ev_int (av_cons (ev_un un_neg o1_neg ev_int) (av_cons ev_int (av_cons ev_int (av_cons (ev_un un_neg o1_neg ev_int) (av_cons ev_int (av_cons ev_int (av_cons (ev_un un_neg o1_neg ev_int) (av_cons ev_int (av_cons ev_int av_nil))))))))))) (ev_bin op_modN o2_mod (ev_bin op_fdivX o2_div (ev_look (pv 8)) ev_int) ev_int) (fun _ _ => rfl)) (ev_sub (ev_lst (av_cons ev_int (av_cons ev_int (av_cons ev_int (av_cons ev_int (av_cons ev_int av_nil)))))) (ev_bin op_modN o2_mod (ev_bin op_fdivX o2_div (ev_look (pv 8)) ev_int) ev_int) (fun _ _ => rfl)))) (bv_one (sv_kput (hu_of hr) (pv 5) (ev_name (pv 9)) (ev_def c__law_frac (hr.mono (by decide)) (by rfl) (av_cons (ev_name (pv 10)) (av_cons (ev_own (ev_sub (ev_lst (av_cons ev_int (av_cons ev_int (av_cons ev_int (av_cons ev_int (av_cons ev_int av_nil)))))) (ev_bin op_modN o2_mod (ev_bin op_fdivX o2_div (ev_look (pv 8)) ev_int) ev_int) (fun _ _ => rfl))) av_nil))))))))) (bv_one (sv_ret (ev_callTy call_tuple_of on_tuple (by rfl) T.b_tuple (by decide +kernel) (av_cons (ev_lc (own := [("exponents", 9)]) rfl sc__law_ordinary.nd (iv_seq (ev_callB crx_sorted on_sorted (by rfl) T.b_sorted (by decide +kernel) (av_cons (ev_look (pv 5)) av_nil))) (blkOk_by (N := ["numbers", "first", "n", "most", "top", "rows", "count", "k", "number", "exponents", "a", "i"]) (sc := defScope (tp 27)) (by decide +kernel)) (fun _ _ _ _ _ => (gv_name sc__law_ordinary.nd rfl (by first | exact .inl rfl | exact .inr rfl))) (fun _ _ _ _ _ => cv_nil) (fun _ _ _ _ _ => (ev_tup (av_cons (ev_name (pv 9)) (av_cons (ev_kget (hu_of hr) (ev_look (pv 5)) (ev_look (pv 9)) (fun _ _ => rfl)) av_nil)))) (by decide)) av_nil))))))) (by decide)
theorem sc_plus : FnScope ["x", "y"] ["x", "y"] (defScope (tp 8)) := ⟨rfl, rfl, rfl, by decide +kernel, rfl, by decide +kernel, by decide +kernel⟩
theorem cal_plus {f : Addr} {fd : FuncData} (T : Txt K mg) (F : Fun K "plus" "plus" (tp 8) f fd) (hm : mg "plus" = some (.ref f)) (hb : Binds K fd ["x", "y"] []) (c_fraction : Cal P w K mg base "fraction" 2 ["a", "b"] F_fraction) : Cal P w K mg base "plus" 3 ["x", "y"] F_plus := by
  refine cal_mk arity_fnF (fnV F sc_plus 0 rfl (W := []) fun cdv A outer s H E hr => ?_) hm F.kp hb
  exact bv_W (bv_one (sv_ret (ev_def c_fraction (hr.mono (by decide)) (by rfl) (av_cons (ev_bin opr_add o2_add (ev_bin op_mulZ o2_mul (ev_sub (ev_look (pv 0)) ev_int (fun _ _ => rfl)) (ev_sub (ev_look (pv 1)) ev_int (fun _ _ => rfl))) (ev_bin op_mulZ o2_mul (ev_sub (ev_look (pv 1)) ev_int (fun _ _ => rfl)) (ev_sub (ev_look (pv 0)) ev_int (fun _ _ => rfl)))) (av_cons (ev_bin op_mulZ o2_mul (ev_sub (ev_look (pv 0)) ev_int (fun _ _ => rfl)) (ev_sub (ev_look (pv 1)) ev_int (fun _ _ => rfl))) av_nil))))) (by decide)
theorem sc_minus : FnScope ["x", "y"] ["x", "y"] (defScope (tp 9)) := ⟨rfl, rfl, rfl, by decide +kernel, rfl, by decide +kernel, by decide +kernel⟩
theorem cal_minus {f : Addr} {fd : FuncData} (T : Txt K mg) (F : Fun K "minus" "minus" (tp 9) f fd) (hm : mg "minus" = some (.ref f)) (hb : Binds K fd ["x", "y"] []) (c_fraction : Cal P w K mg base "fraction" 2 ["a", "b"] F_fraction) : Cal P w K mg base "minus" 3 ["x", "y"] F_minus := by
  refine cal_mk arity_fnF (fnV F sc_minus 0 rfl (W := []) fun cdv A outer s H E hr => ?_) hm F.kp hb
  exact bv_W (bv_one (sv_ret (ev_def c_fraction (hr.mono (by decide)) (by rfl) (av_cons (ev_bin op_sub o2_sub (ev_bin op_mulZ o2_mul (ev_sub (ev_look (pv 0)) ev_int (fun _ _ => rfl)) (ev_sub (ev_look (pv 1)) ev_int (fun _ _ => rfl))) (ev_bin op_mulZ o2_mul (ev_sub (ev_look (pv 1)) ev_int (fun _ _ => rfl)) (ev_sub (ev_look (pv 0)) ev_int (fun _ _ => rfl)))) (av_cons (ev_bin op_mulZ o2_mul (ev_sub (ev_look (pv 0)) ev_int (fun _ _ => rfl)) (ev_sub (ev_look (pv 1)) ev_int (fun _ _ => rfl))) av_nil))))) (by decide)
theorem sc_times : FnScope ["x", "y"] ["x", "y"] (defScope (tp 10)) := ⟨rfl, rfl, rfl, by decide +kernel, rfl, by decide +kernel, by decide +kernel⟩
theorem cal_times {f : Addr} {fd : FuncData} (T : Txt K mg) (F : Fun K "times" "times" (tp 10) f fd) (hm : mg "times" = some (.ref f)) (hb : Binds K fd ["x", "y"] []) (c_fraction : Cal P w K mg base "fraction" 2 ["a", "b"] F_fraction) : Cal P w K mg base "times" 3 ["x", "y"] F_times := by
  refine cal_mk arity_fnF (fnV F sc_times 0 rfl (W := []) fun cdv A outer s H E hr => ?_) hm F.kp hb
  exact bv_W (bv_one (sv_ret (ev_def c_fraction (hr.mono (by decide)) (by rfl) (av_cons (ev_bin op_mulZ o2_mul (ev_sub (ev_look (pv 0)) ev_int (fun _ _ => rfl)) (ev_sub (ev_look (pv 1)) ev_int (fun _ _ => rfl))) (av_cons (ev_bin op_mulZ o2_mul (ev_sub (ev_look (pv 0)) ev_int (fun _ _ => rfl)) (ev_sub (ev_look (pv 1)) ev_int (fun _ _ => rfl))) av_nil))))) (by decide)
theorem sc__law_to_power : FnScope ["x", "k", "found", "turn"] ["x", "k"] (defScope (tp 26)) := ⟨rfl, rfl, rfl, by decide +kernel, rfl, by decide +kernel, by decide +kernel⟩
theorem cal__law_to_power {f : Addr} {fd : FuncData} (T : Txt K mg) (F : Fun K "_law_to_power" "_law_to_power" (tp 26) f fd) (hm : mg "_law_to_power" = some (.ref f)) (hb : Binds K fd ["x", "k"] []) (c__law_times : Cal P w K mg base "_law_times" 2 ["x", "y"] F__law_times) : Cal P w K mg base "_law_to_power" 3 ["x", "k"] F__law_to_power := by
  refine cal_mk arity_fnF (fnV F sc__law_to_power 2 rfl (W := [2, 3]) fun cdv A outer s H E hr => ?_) hm F.kp hb
  exact bv_W (bv_cons (sv_set (i := 2) sc__law_to_power.nd rfl (by first | exact .inl rfl | exact .inr rfl) (ev_tup (av_cons ev_int (av_cons ev_int av_nil)))) (bv_cons (sv_for (FB := L__law_to_power_1) PySem.PassesOwn.never rfl (iv_range1 (by rfl) T.b_range (av_cons (ev_name (pv 1)) av_nil)) (gv_name sc__law_to_power.nd rfl (by first | exact .inl rfl | exact .inr rfl)) (bv_one (sv_set (i := 2) sc__law_to_power.nd rfl (by first | exact .inl rfl | exact .inr rfl) (ev_def c__law_times (hr.mono (by decide)) (by rfl) (av_cons (ev_name (pv 2)) (av_cons (ev_name (pv 0)) av_nil)))))) (bv_one (sv_ret (ev_name (pv 2)))))) (by decide)
theorem sc_compare : FnScope ["x", "y"] ["x", "y"] (defScope (tp 12)) := ⟨rfl, rfl, rfl, by decide +kernel, rfl, by decide +kernel, by decide +kernel⟩
theorem cal_compare {f : Addr} {fd : FuncData} (T : Txt K mg) (F : Fun K "compare" "compare" (tp 12) f fd) (hm : mg "compare" = some (.ref f)) (hb : Binds K fd ["x", "y"] []) (c_minus : Cal P w K mg base "minus" 3 ["x", "y"] F_minus) (c_sign : Cal P w K mg base "sign" 1 ["x"] F_sign) : Cal P w K mg base "compare" 4 ["x", "y"] F_compare := by
  refine cal_mk arity_fnF (fnV F sc_compare 0 rfl (W := []) fun cdv A outer s H E hr => ?_) hm F.kp hb
  exact bv_W (bv_cons (sv_if (tv_w (wv_or (tv_cmp (op_eqD hr.units) o2_eq (ev_look (pv 0)) (ev_globX (by rfl) T.e_INFINITE) (nomark _)) (wv_or1 (tv_cmp (op_eqD hr.units) o2_eq (ev_look (pv 1)) (ev_globX (by rfl) T.e_INFINITE) (nomark _))))) (bv_one (sv_ret (ev_bin op_sub o2_sub (ev_callTy call_int1 on_int (by rfl) T.b_int (by decide +kernel) (av_cons (ev_cmp (op_eqD hr.units) o2_eq (ev_look (pv 0)) (ev_globX (by rfl) T.e_INFINITE) (nomark _)) av_nil)) (ev_callTy call_int1 on_int (by rfl) T.b_int (by decide +kernel) (av_cons (ev_cmp (op_eqD hr.units) o2_eq (ev_look (pv 1)) (ev_globX (by rfl) T.e_INFINITE) (nomark _)) av_nil))))) bv_nil) (bv_one (sv_ret (ev_def c_sign (hr.mono (by decide)) (by rfl) (av_cons (ev_def c_minus (hr.mono (by decide)) (by rfl) (av_cons (ev_name (pv 0)) (av_cons (ev_name (pv 1)) av_nil))) av_nil))))) (by decide)
theorem sc_power_of : FnScope ["x", "k", "found", "_"] ["x", "k"] (defScope (tp 14)) := ⟨rfl, rfl, rfl, by decide +kernel, rfl, by decide +kernel, by decide +kernel⟩
theorem cal_power_of {f : Addr} {fd : FuncData} (T : Txt K mg) (F : Fun K "power_of" "power_of" (tp 14) f fd) (hm : mg "power_of" = some (.ref f)) (hb : Binds K fd ["x", "k"] []) (c_times : Cal P w K mg base "times" 3 ["x", "y"] F_times) : Cal P w K mg base "power_of" 4 ["x", "k"] F_power_of := by
  refine cal_mk arity_fnF (fnV F sc_power_of 2 rfl (W := [2, 3]) fun cdv A outer s H E hr => ?_) hm F.kp hb
  exact bv_W (bv_cons (sv_set (i := 2) sc_power_of.nd rfl (by first | exact .inl rfl | exact .inr rfl) (ev_tup (av_cons ev_int (av_cons ev_int av_nil)))) (bv_cons (sv_for (FB := L_power_of_1) PySem.PassesOwn.never rfl (iv_range1 (by rfl) T.b_range (av_cons (ev_name (pv 1)) av_nil)) (gv_name sc_power_of.nd rfl (by first | exact .inl rfl | exact .inr rfl)) (bv_one (sv_set (i := 2) sc_power_of.nd rfl (by first | exact .inl rfl | exact .inr rfl) (ev_def c_times (hr.mono (by decide)) (by rfl) (av_cons (ev_name (pv 2)) (av_cons (ev_name (pv 0)) av_nil)))))) (bv_one (sv_ret (ev_name (pv 2)))))) (by decide)
theorem sc__law_term : FnScope ["term", "point", "found", "i"] ["term", "point"] (defScope (tp 28)) := ⟨rfl, rfl, rfl, by decide +kernel, rfl, by decide +kernel, by decide +kernel⟩
theorem cal__law_term {f : Addr} {fd : FuncData} (T : Txt K mg) (F : Fun K "_law_term" "_law_term" (tp 28) f fd) (hm : mg "_law_term" = some (.ref f)) (hb : Binds K fd ["term", "point"] []) (c__law_to_power : Cal P w K mg base "_law_to_power" 3 ["x", "k"] F__law_to_power) (c__law_times : Cal P w K mg base "_law_times" 2 ["x", "y"] F__law_times) : Cal P w K mg base "_law_term" 4 ["term", "point"] F__law_term := by
  refine cal_mk arity_fnF (fnV F sc__law_term 2 rfl (W := [2, 3]) fun cdv A outer s H E hr => ?_) hm F.kp hb
  exact bv_W (bv_cons (sv_set (i := 2) sc__law_term.nd rfl (by first | exact .inl rfl | exact .inr rfl) (ev_own (ev_sub (ev_look (pv 0)) ev_int (fun _ _ => rfl)))) (bv_cons (sv_for (FB := L__law_term_1) PySem.PassesOwn.never rfl (iv_range1 (by rfl) T.b_range (av_cons (ev_callB call_len on_len (by rfl) T.b_len PySem.boot_len (av_cons (ev_look (pv 1)) av_nil)) av_nil)) (gv_name sc__law_term.nd rfl (by first | exact .inl rfl | exact .inr rfl)) (bv_one (sv_set (i := 2) sc__law_term.nd rfl (by first | exact .inl rfl | exact .inr rfl) (ev_def c__law_times (hr.mono (by decide)) (by rfl) (av_cons (ev_name (pv 2)) (av_cons (ev_def c__law_to_power (hr.mono (by decide)) (by rfl) (av_cons (ev_own (ev_sub (ev_look (pv 1)) (ev_look (pv 3)) (fun _ _ => rfl))) (av_cons (ev_own (ev_sub (ev_sub (ev_look (pv 0)) ev_int (fun _ _ => rfl)) (ev_look (pv 3)) (fun _ _ => rfl))) av_nil))) av_nil)))))) (bv_one (sv_ret (ev_name (pv 2)))))) (by decide)
theorem sc_term_value : FnScope ["term", "point", "found", "e", "x"] ["term", "point"] (defScope (tp 15)) := ⟨rfl, rfl, rfl, by decide +kernel, rfl, by decide +kernel, by decide +kernel⟩
theorem cal_term_value {f : Addr} {fd : FuncData} (T : Txt K mg) (F : Fun K "term_value" "term_value" (tp 15) f fd) (hm : mg "term_value" = some (.ref f)) (hb : Binds K fd ["term", "point"] []) (c_power_of : Cal P w K mg base "power_of" 4 ["x", "k"] F_power_of) (c_times : Cal P w K mg base "times" 3 ["x", "y"] F_times) : Cal P w K mg base "term_value" 5 ["term", "point"] F_term_value := by
  refine cal_mk arity_fnF (fnV F sc_term_value 3 rfl (W := [2, 3, 4]) fun cdv A outer s H E hr => ?_) hm F.kp hb
  exact bv_W (bv_cons (sv_set (i := 2) sc_term_value.nd rfl (by first | exact .inl rfl | exact .inr rfl) (ev_own (ev_sub (ev_look (pv 0)) ev_int (fun _ _ => rfl)))) (bv_cons (sv_for (FB := L_term_value_1) PySem.PassesOwn.never rfl (iv_zip (by rfl) T.b_zip (av_cons (ev_own (ev_sub (ev_look (pv 0)) ev_int (fun _ _ => rfl))) (av_cons (ev_name (pv 1)) av_nil))) (gv_tup rfl (gvs_cons (gv_name sc_term_value.nd rfl (by first | exact .inl rfl | exact .inr rfl)) (gvs_cons (gv_name sc_term_value.nd rfl (by first | exact .inl rfl | exact .inr rfl)) gvs_nil)) (fun _ _ _ h => gs_len2 h)) (bv_one (sv_set (i := 2) sc_term_value.nd rfl (by first | exact .inl rfl | exact .inr rfl) (ev_def c_times (hr.mono (by decide)) (by rfl) (av_cons (ev_name (pv 2)) (av_cons (ev_def c_power_of (hr.mono (by decide)) (by rfl) (av_cons (ev_name (pv 4)) (av_cons (ev_name (pv 3)) av_nil))) av_nil)))))) (bv_one (sv_ret (ev_name (pv 2)))))) (by decide)
theorem sc__law_value : FnScope ["f", "point", "found", "term"] ["f", "point"] (defScope (tp 29)) := ⟨rfl, rfl, rfl, by decide +kernel, rfl, by decide +kernel, by decide +kernel⟩
theorem cal__law_value {f : Addr} {fd : FuncData} (T : Txt K mg) (F : Fun K "_law_value" "_law_value" (tp 29) f fd) (hm : mg "_law_value" = some (.ref f)) (hb : Binds K fd ["f", "point"] []) (c__law_term : Cal P w K mg base "_law_term" 4 ["term", "point"] F__law_term) (c__law_plus : Cal P w K mg base "_law_plus" 2 ["x", "y"] F__law_plus) : Cal P w K mg base "_law_value" 5 ["f", "point"] F__law_value := by
  refine cal_mk arity_fnF (fnV F sc__law_value 2 rfl (W := [2, 3]) fun cdv A outer s H E hr => ?_) hm F.kp hb
  exact bv_W (bv_cons (sv_set (i := 2) sc__law_value.nd rfl (by first | exact .inl rfl | exact .inr rfl) (ev_tup (av_cons ev_int (av_cons ev_int av_nil)))) (bv_cons (sv_for (FB := L__law_value_1) PySem.PassesOwn.never rfl (iv_seq (ev_name (pv 0))) (gv_name sc__law_value.nd rfl (by first | exact .inl rfl | exact .inr rfl)) (bv_one (sv_set (i := 2) sc__law_value.nd rfl (by first | exact .inl rfl | exact .inr rfl) (ev_def c__law_plus (hr.mono (by decide)) (by rfl) (av_cons (ev_name (pv 2)) (av_cons (ev_defL (lens := [none, some 1]) c__law_term (hr.mono (by decide)) (by rfl) (lv_cons (ev_name (pv 3)) (lv_lend (pv 1) lv_nil))) av_nil)))))) (bv_one (sv_ret (ev_name (pv 2)))))) (by decide)
theorem sc_size_of : FnScope ["term", "radii", "value"] ["term", "radii"] (defScope (tp 17)) := ⟨rfl, rfl, rfl, by decide +kernel, rfl, by decide +kernel, by decide +kernel⟩
theorem cal_size_of {f : Addr} {fd : FuncData} (T : Txt K mg) (F : Fun K "size_of" "size_of" (tp 17) f fd) (hm : mg "size_of" = some (.ref f)) (hb : Binds K fd ["term", "radii"] []) (c_term_value : Cal P w K mg base "term_value" 5 ["term", "point"] F_term_value) : Cal P w K mg base "size_of" 6 ["term", "radii"] F_size_of := by
  refine cal_mk arity_fnF (fnV F sc_size_of 1 rfl (W := [2]) fun cdv A outer s H E hr => ?_) hm F.kp hb
  exact bv_W (bv_cons (sv_set (i := 2) sc_size_of.nd rfl (by first | exact .inl rfl | exact .inr rfl) (ev_def c_term_value (hr.mono (by decide)) (by rfl) (av_cons (ev_name (pv 0)) (av_cons (ev_name (pv 1)) av_nil)))) (bv_one (sv_ret (ev_tup (av_cons (ev_callB call_abs on_abs (by rfl) T.b_abs (by decide +kernel) (av_cons (ev_sub (ev_look (pv 2)) ev_int (fun _ _ => rfl)) av_nil)) (av_cons (ev_own (ev_sub (ev_look (pv 2)) ev_int (fun _ _ => rfl))) av_nil)))))) (by decide)
theorem sc_great_term : FnScope ["f", "radii", "sizes", "whole", "x", "term"] ["f", "radii"] (defScope (tp 18)) := ⟨rfl, rfl, rfl, by decide +kernel, rfl, by decide +kernel, by decide +kernel⟩
theorem cal_great_term {f : Addr} {fd : FuncData} (T : Txt K mg) (F : Fun K "great_term" "great_term" (tp 18) f fd) (hm : mg "great_term" = some (.ref f)) (hb : Binds K fd ["f", "radii"] []) (c_size_of : Cal P w K mg base "size_of" 6 ["term", "radii"] F_size_of) (c_plus : Cal P w K mg base "plus" 3 ["x", "y"] F_plus) (c_minus : Cal P w K mg base "minus" 3 ["x", "y"] F_minus) (c_compare : Cal P w K mg base "compare" 4 ["x", "y"] F_compare) : Cal P w K mg base "great_term" 7 ["f", "radii"] F_great_term := by
  refine cal_mk arity_fnF (fnV F sc_great_term 4 rfl (W := [2, 3, 4, 5]) fun cdv A outer s H E hr => ?_) hm F.kp hb
  exact bv_W (bv_cons (sv_frz 2 (sv_setLc (own := [("term", 5)]) (i := 2) rfl sc_great_term.nd rfl rfl (sw_true rfl rfl rfl (by decide +kernel)) (iv_seq (ev_name (pv 0))) (blkOk_by (N := ["f", "radii", "sizes", "whole", "x", "term"]) (sc := defScope (tp 18)) (by decide +kernel)) (fun _ _ _ _ _ => (gv_name sc_great_term.nd rfl (by first | exact .inl rfl | exact .inr rfl))) (fun _ _ _ _ _ => cv_nil) (fun _ _ _ _ _ => (ev_def c_size_of (hr.mono (by decide)) (by rfl) (av_cons (ev_name (pv 5)) (av_cons (ev_name (pv 1)) av_nil)))) (by decide))) (bv_cons (sv_set (i := 3) sc_great_term.nd rfl (by first | exact .inl rfl | exact .inr rfl) (ev_globX (by rfl) T.e_ZERO)) (bv_cons (sv_for (FB := L_great_term_2) PySem.PassesOwn.never rfl (iv_seq (ev_name (pv 2))) (gv_name sc_great_term.nd rfl (by first | exact .inl rfl | exact .inr rfl)) (bv_one (sv_set (i := 3) sc_great_term.nd rfl (by first | exact .inl rfl | exact .inr rfl) (ev_def c_plus (hr.mono (by decide)) (by rfl) (av_cons (ev_name (pv 3)) (av_cons (ev_name (pv 4)) av_nil)))))) (bv_cons (sv_for (FB := L_great_term_3) PySem.PassesOwn.never rfl (iv_zipM (by rfl) T.b_zip (av_cons (ev_name (pv 0)) (av_cons (ev_name (pv 2)) av_nil))) (gv_tup rfl (gvs_cons (gv_name sc_great_term.nd rfl (by first | exact .inl rfl | exact .inr rfl)) (gvs_cons (gv_name sc_great_term.nd rfl (by first | exact .inl rfl | exact .inr rfl)) gvs_nil)) (fun _ _ _ h => gs_len2 h)) (bv_one (sv_if (tv_cmp op_gt o2_gt (ev_def c_compare (hr.mono (by decide)) (by rfl) (av_cons (ev_name (pv 4)) (av_cons (ev_def c_minus (hr.mono (by decide)) (by rfl) (av_cons (ev_name (pv 3)) (av_cons (ev_name (pv 4)) av_nil))) av_nil))) ev_int (nomark _)) (bv_one (sv_ret (ev_own (ev_sub (ev_look (pv 5)) ev_int (fun _ _ => rfl))))) bv_nil))) (bv_one (sv_ret ev_non)))))) (by decide)
theorem sc_law : FnScope ["script", "digit", "numbers", "n", "f", "radii", "total", "term", "sizes", "size", "due", "k", "others", "j", "told", "index", "point", "i", "sign_v"] ["script"] (defScope (tp 30)) := ⟨rfl, rfl, rfl, by decide +kernel, rfl, by decide +kernel, by decide +kernel⟩
theorem cal_law {f : Addr} {fd : FuncData} (T : Txt K mg) (F : Fun K "law" "law" (tp 30) f fd) (hm : mg "law" = some (.ref f)) (hb : Binds K fd ["script"] []) (c__law_cell : Cal P w K mg base "_law_cell" 1 ["script", "k"] F__law_cell) (c__law_numbers : Cal P w K mg base "_law_numbers" 1 ["script", "first", "most"] F__law_numbers) (c__law_ordinary : Cal P w K mg base "_law_ordinary" 2 ["numbers", "first", "n", "most", "top"] F__law_ordinary) (c__law_frac : Cal P w K mg base "_law_frac" 1 ["a", "b"] F__law_frac) (c__law_plus : Cal P w K mg base "_law_plus" 2 ["x", "y"] F__law_plus) (c__law_term : Cal P w K mg base "_law_term" 4 ["term", "point"] F__law_term) (c__law_below : Cal P w K mg base "_law_below" 1 ["x", "y"] F__law_below) (c_great_term : Cal P w K mg base "great_term" 7 ["f", "radii"] F_great_term) (c__law_value : Cal P w K mg base "_law_value" 5 ["f", "point"] F__law_value) : Cal P w K mg base "law" 8 ["script"] F_law := by
  refine cal_mk arity_fnF (fnV F sc_law 18 rfl (W := [1, 2, 3, 4, 5, 6, 7, 8, 9, 10, 11, 12, 13, 14, 15, 16, 17, 18]) fun cdv A outer s H E hr => ?_) hm F.kp hb
  exact bv_W (bv_cons (sv_set (i := 1) sc_law.nd rfl (by first | exact .inl rfl | exact .inr rfl) (ev_callB call_abs on_abs (by rfl) T.b_abs (by decide +kernel) (av_cons (ev_def c__law_cell (hr.mono (by decide)) (by rfl) (av_cons (ev_name (pv 0)) (av_cons ev_int av_nil))) av_nil))) (bv_cons (sv_frz 2 (sv_set (i := 2) sc_law.nd rfl (by first | exact .inl rfl | exact .inr rfl) (ev_bin opr_add o2_add (ev_def c__law_numbers (hr.mono (by decide)) (by rfl) (av_cons (ev_name (pv 0)) (av_cons ev_int (av_cons ev_int av_nil)))) (ev_lst (av_cons ev_int (av_cons ev_int (av_cons ev_int (av_cons ev_int (av_cons ev_int (av_cons ev_int (av_cons ev_int (av_cons ev_int (av_cons ev_int av_nil))))))))))))) (bv_cons (sv_set (i := 3) sc_law.nd rfl (by first | exact .inl rfl | exact .inr rfl) (ev_bin opr_add o2_add ev_int (ev_bin op_modN o2_mod (ev_callTy call_int1 on_int (by rfl) T.b_int (by decide +kernel) (av_cons (ev_look (pv 1)) av_nil)) ev_int))) (bv_cons (sv_set (i := 4) sc_law.nd rfl (by first | exact .inl rfl | exact .inr rfl) (ev_def c__law_ordinary (hr.mono (by decide)) (by rfl) (av_cons (ev_name (pv 2)) (av_cons ev_int (av_cons (ev_name (pv 3)) (av_cons ev_int (av_cons ev_int av_nil))))))) (bv_cons (sv_if (tv_cmp (op_eqD hr.units) o2_eq (ev_look (pv 4)) (ev_tup av_nil) (nomark _)) (bv_one (sv_set (i := 4) sc_law.nd rfl (by first | exact .inl rfl | exact .inr rfl) (ev_tup (av_cons (ev_tup (av_cons (ev_bin opr_tmu o2_tmu (ev_tup (av_cons ev_int av_nil)) (ev_look (pv 3))) (av_cons (ev_tup (av_cons ev_int (av_cons ev_int av_nil))) av_nil))) av_nil)))) bv_nil) (bv_cons (sv_set (i := 5) sc_law.nd rfl (by first | exact .inl rfl | exact .inr rfl) (ev_callTy call_tuple_of on_tuple (by rfl) T.b_tuple (by decide +kernel) (av_cons (ev_lc (own := [("i", 17)]) rfl sc_law.nd (iv_range1 (by rfl) T.b_range (av_cons (ev_name (pv 3)) av_nil)) (blkOk_by (N := ["script", "digit", "numbers", "n", "f", "radii", "total", "term", "sizes", "size", "due", "k", "others", "j", "told", "index", "point", "i", "sign_v"]) (sc := defScope (tp 30)) (by decide +kernel)) (fun _ _ _ _ _ => (gv_name sc_law.nd rfl (by first | exact .inl rfl | exact .inr rfl))) (fun _ _ _ _ _ => cv_nil) (fun _ _ _ _ _ => (ev_def c__law_frac (hr.mono (by decide)) (by rfl) (av_cons (ev_bin opr_add o2_add ev_int (ev_bin op_modN o2_mod (ev_callTy call_int1 on_int (by rfl) T.b_int (by decide +kernel) (av_cons (ev_sub (ev_look (pv 2)) (ev_bin opr_add o2_add (ev_look (pv 17)) ev_int) (fun _ _ => rfl)) av_nil)) ev_int)) (av_cons (ev_own (ev_sub (ev_lst (av_cons ev_int (av_cons ev_int (av_cons ev_int (av_cons ev_int av_nil))))) (ev_bin op_modN o2_mod (ev_bin op_fdivX o2_div (ev_callTy call_int1 on_int (by rfl) T.b_int (by decide +kernel) (av_cons (ev_sub (ev_look (pv 2)) (ev_bin opr_add o2_add (ev_look (pv 17)) ev_int) (fun _ _ => rfl)) av_nil)) ev_int) ev_int) (fun _ _ => rfl))) av_nil)))) (by decide)) av_nil))) (bv_cons (sv_if (tv_cmp (op_eqD hr.units) o2_eq (ev_bin op_modN o2_mod (ev_bin op_fdivX o2_div (ev_look (pv 1)) ev_int) ev_int) ev_int (nomark _)) (bv_cons (sv_set (i := 5) sc_law.nd rfl (by first | exact .inl rfl | exact .inr rfl) (ev_bin opr_tmu o2_tmu (ev_tup (av_cons (ev_tup (av_cons ev_int (av_cons ev_int av_nil))) av_nil)) (ev_look (pv 3)))) (bv_cons (sv_set (i := 6) sc_law.nd rfl (by first | exact .inl rfl | exact .inr rfl) (ev_tup (av_cons ev_int (av_cons ev_int av_nil)))) (bv_cons (sv_for (FB := L_law_2) PySem.PassesOwn.never rfl (iv_seq (ev_slice (ev_look (pv 4)) (ov_some ev_int) ov_none)) (gv_name sc_law.nd rfl (by first | exact .inl rfl | exact .inr rfl)) (bv_one (sv_set (i := 6) sc_law.nd rfl (by first | exact .inl rfl | exact .inr rfl) (ev_def c__law_plus (hr.mono (by decide)) (by rfl) (av_cons (ev_name (pv 6)) (av_cons (ev_tup (av_cons (ev_callB call_abs on_abs (by rfl) T.b_abs (by decide +kernel) (av_cons (ev_sub (ev_sub (ev_look (pv 7)) ev_int (fun _ _ => rfl)) ev_int (fun _ _ => rfl)) av_nil)) (av_cons (ev_own (ev_sub (ev_sub (ev_look (pv 7)) ev_int (fun _ _ => rfl)) ev_int (fun _ _ => rfl))) av_nil))) av_nil)))))) (bv_one (sv_if (tv_cmp (op_neD hr.units) o2_ne (ev_look (pv 6)) (ev_tup (av_cons ev_int (av_cons ev_int av_nil))) (nomark _)) (bv_one (sv_set (i := 4) sc_law.nd rfl (by first | exact .inl rfl | exact .inr rfl) (ev_bin opr_add o2_add (ev_tup (av_cons (ev_tup (av_cons (ev_own (ev_sub (ev_sub (ev_look (pv 4)) ev_int (fun _ _ => rfl)) ev_int (fun _ _ => rfl))) (av_cons (ev_def c__law_plus (hr.mono (by decide)) (by rfl) (av_cons (ev_name (pv 6)) (av_cons (ev_def c__law_frac (hr.mono (by decide)) (by rfl) (av_cons (ev_bin op_sub o2_sub (ev_bin op_modN o2_mod (ev_bin op_fdivX o2_div (ev_look (pv 1)) ev_int) ev_int) ev_int) (av_cons ev_int av_nil))) av_nil))) av_nil))) av_nil)) (ev_slice (ev_look (pv 4)) (ov_some ev_int) ov_none)))) bv_nil))))) bv_nil) (bv_cons (sv_set (i := 4) sc_law.nd rfl (by first | exact .inl rfl | exact .inr rfl) (ev_callTy call_tuple_of on_tuple (by rfl) T.b_tuple (by decide +kernel) (av_cons (ev_lc (own := [("term", 7)]) rfl sc_law.nd (iv_seq (ev_name (pv 4))) (blkOk_by (N := ["script", "digit", "numbers", "n", "f", "radii", "total", "term", "sizes", "size", "due", "k", "others", "j", "told", "index", "point", "i", "sign_v"]) (sc := defScope (tp 30)) (by decide +kernel)) (fun _ _ _ _ _ => (gv_name sc_law.nd rfl (by first | exact .inl rfl | exact .inr rfl))) (fun _ _ _ _ _ => (cv_one (tv_cmp (op_neD hr.units) o2_ne (ev_sub (ev_look (pv 7)) ev_int (fun _ _ => rfl)) (ev_tup (av_cons ev_int (av_cons ev_int av_nil))) (nomark _)))) (fun _ _ _ _ _ => (ev_name (pv 7))) (by decide)) av_nil))) (bv_cons (sv_set (i := 8) sc_law.nd rfl (by first | exact .inl rfl | exact .inr rfl) (ev_lst av_nil)) (bv_cons (sv_for (FB := L_law_5) PySem.PassesOwn.never rfl (iv_seq (ev_name (pv 4))) (gv_name sc_law.nd rfl (by first | exact .inl rfl | exact .inr rfl)) (bv_cons (sv_set (i := 9) sc_law.nd rfl (by first | exact .inl rfl | exact .inr rfl) (ev_def c__law_term (hr.mono (by decide)) (by rfl) (av_cons (ev_name (pv 7)) (av_cons (ev_name (pv 5)) av_nil)))) (bv_one (sv_expr (ev_mt PySem.F.slot_list_append PySem.F.type_list_append mt_append mut_append (pv 8) (av_cons (ev_tup (av_cons (ev_callB call_abs on_abs (by rfl) T.b_abs (by decide +kernel) (av_cons (ev_sub (ev_look (pv 9)) ev_int (fun _ _ => rfl)) av_nil)) (av_cons (ev_own (ev_sub (ev_look (pv 9)) ev_int (fun _ _ => rfl))) av_nil))) av_nil)))))) (bv_cons (sv_set (i := 10) sc_law.nd rfl (by first | exact .inl rfl | exact .inr rfl) ev_non) (bv_cons (sv_for (FB := L_law_7) PySem.PassesOwn.never rfl (iv_range1 (by rfl) T.b_range (av_cons (ev_callB call_len on_len (by rfl) T.b_len PySem.boot_len (av_cons (ev_look (pv 4)) av_nil)) av_nil)) (gv_name sc_law.nd rfl (by first | exact .inl rfl | exact .inr rfl)) (bv_cons (sv_set (i := 12) sc_law.nd rfl (by first | exact .inl rfl | exact .inr rfl) (ev_tup (av_cons ev_int (av_cons ev_int av_nil)))) (bv_cons (sv_for (FB := L_law_6) PySem.PassesOwn.never rfl (iv_range1 (by rfl) T.b_range (av_cons (ev_callB call_len on_len (by rfl) T.b_len PySem.boot_len (av_cons (ev_look (pv 4)) av_nil)) av_nil)) (gv_name sc_law.nd rfl (by first | exact .inl rfl | exact .inr rfl)) (bv_one (sv_if (tv_cmp (op_neD hr.units) o2_ne (ev_look (pv 13)) (ev_look (pv 11)) (nomark _)) (bv_one (sv_set (i := 12) sc_law.nd rfl (by first | exact .inl rfl | exact .inr rfl) (ev_def c__law_plus (hr.mono (by decide)) (by rfl) (av_cons (ev_name (pv 12)) (av_cons (ev_own (ev_sub (ev_look (pv 8)) (ev_look (pv 13)) (fun _ _ => rfl))) av_nil))))) bv_nil))) (bv_one (sv_if (tv_tru (ev_def c__law_below (hr.mono (by decide)) (by rfl) (av_cons (ev_name (pv 12)) (av_cons (ev_own (ev_sub (ev_look (pv 8)) (ev_look (pv 11)) (fun _ _ => rfl))) av_nil)))) (bv_one (sv_set (i := 10) sc_law.nd rfl (by first | exact .inl rfl | exact .inr rfl) (ev_own (ev_sub (ev_sub (ev_look (pv 4)) (ev_look (pv 11)) (fun _ _ => rfl)) ev_int (fun _ _ => rfl))))) bv_nil))))) (bv_cons (sv_set (i := 14) sc_law.nd rfl (by first | exact .inl rfl | exact .inr rfl) (ev_def c_great_term (hr.mono (by decide)) (by rfl) (av_cons (ev_name (pv 4)) (av_cons (ev_name (pv 5)) av_nil)))) (bv_cons (sv_if (tv_w (wv_or (tv_cmp (op_neD hr.units) o2_ne (ev_cmp op_isN o2_isN (ev_look (pv 14)) ev_non (nomark _)) (ev_cmp op_isN o2_isN (ev_look (pv 10)) ev_non (nomark _)) (nomark _)) (wv_or1 (tv_cmp (op_neD hr.units) o2_ne (ev_look (pv 14)) (ev_look (pv 10)) (nomark _))))) (bv_one (sv_ret ev_bl)) bv_nil) (bv_cons (sv_if (tv_cmp op_notN o2_notN (ev_look (pv 10)) ev_non (nomark _)) (bv_one (sv_for (FB := L_law_9) PySem.PassesOwn.never rfl (iv_range1 (by rfl) T.b_range (av_cons (ev_bin op_shl o2_shl ev_int (ev_look (pv 3))) av_nil)) (gv_name sc_law.nd rfl (by first | exact .inl rfl | exact .inr rfl)) (bv_cons (sv_set (i := 16) sc_law.nd rfl (by first | exact .inl rfl | exact .inr rfl) (ev_lst av_nil)) (bv_cons (sv_for (FB := L_law_8) PySem.PassesOwn.never rfl (iv_range1 (by rfl) T.b_range (av_cons (ev_name (pv 3)) av_nil)) (gv_name sc_law.nd rfl (by first | exact .inl rfl | exact .inr rfl)) (bv_cons (sv_set (i := 18) sc_law.nd rfl (by first | exact .inl rfl | exact .inr rfl) (ev_bin op_sub o2_sub ev_int (ev_bin op_mulZ o2_mul ev_int (ev_bin op_and o2_and (ev_bin op_shr o2_shr (ev_look (pv 15)) (ev_look (pv 17))) ev_int)))) (bv_one (sv_expr (ev_mt PySem.F.slot_list_append PySem.F.type_list_append mt_append mut_append (pv 16) (av_cons (ev_tup (av_cons (ev_bin op_mulZ o2_mul (ev_look (pv 18)) (ev_sub (ev_sub (ev_look (pv 5)) (ev_look (pv 17)) (fun _ _ => rfl)) ev_int (fun _ _ => rfl))) (av_cons (ev_own (ev_sub (ev_sub (ev_look (pv 5)) (ev_look (pv 17)) (fun _ _ => rfl)) ev_int (fun _ _ => rfl))) av_nil))) av_nil)))))) (bv_one (sv_if (tv_cmp (op_eqD hr.units) o2_eq (ev_defL (lens := [none, some 16]) c__law_value (hr.mono (by decide)) (by rfl) (lv_cons (ev_name (pv 4)) (lv_lend (pv 16) lv_nil))) (ev_tup (av_cons ev_int (av_cons ev_int av_nil))) (nomark _)) (bv_one (sv_ret ev_bl)) bv_nil)))))) bv_nil) (bv_one (sv_ret ev_bl))))))))))))))))) (by decide)
end
theorem law_of {l : PySem.W.OpenLaw} {w : World} {K : PySem.W.Frag} {h : Heap} {mg : Str → Option Value} {fa : Addr} (X : K.In h) (G : h.Ns mainGlobals mg) (hfa : mg "law" = some (.ref fa))
    {f0 f1 f2 f3 f4 f5 f6 f7 f8 f9 f10 f11 f12 f13 f14 f15 f16 f17 f18 f19 f20 f21 : Addr} {od0 an0 od1 an1 od2 an2 od3 an3 od4 an4 od5 an5 od6 an6 od7 an7 od8 an8 od9 an9 od10 an10 od11 an11 od12 an12 od13 an13 od14 an14 od15 an15 od16 an16 od17 an17 od18 an18 od19 an19 od20 an20 od21 an21 : Option Addr} {sl0 sl1 sl2 sl3 sl4 sl5 sl6 sl7 sl8 sl9 sl10 sl11 sl12 sl13 sl14 sl15 sl16 sl17 sl18 sl19 sl20 sl21 : Array (Option Value)} {oc0 kV0 dc0 pm0 cd0 ct0 oc1 kV1 dc1 pm1 cd1 ct1 oc2 kV2 dc2 pm2 cd2 ct2 oc3 kV3 dc3 pm3 cd3 ct3 oc4 kV4 dc4 pm4 cd4 ct4 oc5 kV5 dc5 pm5 cd5 ct5 oc6 kV6 dc6 pm6 cd6 ct6 oc7 kV7 dc7 pm7 cd7 ct7 oc8 kV8 dc8 pm8 cd8 ct8 oc9 kV9 dc9 pm9 cd9 ct9 oc10 kV10 dc10 pm10 cd10 ct10 oc11 kV11 dc11 pm11 cd11 ct11 oc12 kV12 dc12 pm12 cd12 ct12 oc13 kV13 dc13 pm13 cd13 ct13 oc14 kV14 dc14 pm14 cd14 ct14 oc15 kV15 dc15 pm15 cd15 ct15 oc16 kV16 dc16 pm16 cd16 ct16 oc17 kV17 dc17 pm17 cd17 ct17 oc18 kV18 dc18 pm18 cd18 ct18 oc19 kV19 dc19 pm19 cd19 ct19 oc20 kV20 dc20 pm20 cd20 ct20 oc21 kV21 dc21 pm21 cd21 ct21 : Value}
    (a0 : PySem.W.nsIn K mainGlobals "common_divisor" = some (some (.ref f0))) (l0 : K.lookup f0 = some ⟨oc0, od0, .func (PySem.W.fnOf "common_divisor" "common_divisor" (defArgs (tp 6)) (defBody (tp 6)) (defScope (tp 6)) .none kV0 dc0 pm0 an0 cd0 ct0), sl0⟩) (c0 : PySem.W.codeIn K cd0 "common_divisor" = true) (k0 : PySem.W.keepIn K (.ref f0) = true)
    (a1 : PySem.W.nsIn K mainGlobals "sign" = some (some (.ref f1))) (l1 : K.lookup f1 = some ⟨oc1, od1, .func (PySem.W.fnOf "sign" "sign" (defArgs (tp 11)) (defBody (tp 11)) (defScope (tp 11)) .none kV1 dc1 pm1 an1 cd1 ct1), sl1⟩) (c1 : PySem.W.codeIn K cd1 "sign" = true) (k1 : PySem.W.keepIn K (.ref f1) = true)
    (a2 : PySem.W.nsIn K mainGlobals "_law_cell" = some (some (.ref f2))) (l2 : K.lookup f2 = some ⟨oc2, od2, .func (PySem.W.fnOf "_law_cell" "_law_cell" (defArgs (tp 20)) (defBody (tp 20)) (defScope (tp 20)) .none kV2 dc2 pm2 an2 cd2 ct2), sl2⟩) (c2 : PySem.W.codeIn K cd2 "_law_cell" = true) (k2 : PySem.W.keepIn K (.ref f2) = true)
    (a3 : PySem.W.nsIn K mainGlobals "_law_numbers" = some (some (.ref f3))) (l3 : K.lookup f3 = some ⟨oc3, od3, .func (PySem.W.fnOf "_law_numbers" "_law_numbers" (defArgs (tp 21)) (defBody (tp 21)) (defScope (tp 21)) .none kV3 dc3 pm3 an3 cd3 ct3), sl3⟩) (c3 : PySem.W.codeIn K cd3 "_law_numbers" = true) (k3 : PySem.W.keepIn K (.ref f3) = true)
    (a4 : PySem.W.nsIn K mainGlobals "_law_frac" = some (some (.ref f4))) (l4 : K.lookup f4 = some ⟨oc4, od4, .func (PySem.W.fnOf "_law_frac" "_law_frac" (defArgs (tp 22)) (defBody (tp 22)) (defScope (tp 22)) .none kV4 dc4 pm4 an4 cd4 ct4), sl4⟩) (c4 : PySem.W.codeIn K cd4 "_law_frac" = true) (k4 : PySem.W.keepIn K (.ref f4) = true)
    (a5 : PySem.W.nsIn K mainGlobals "_law_below" = some (some (.ref f5))) (l5 : K.lookup f5 = some ⟨oc5, od5, .func (PySem.W.fnOf "_law_below" "_law_below" (defArgs (tp 25)) (defBody (tp 25)) (defScope (tp 25)) .none kV5 dc5 pm5 an5 cd5 ct5), sl5⟩) (c5 : PySem.W.codeIn K cd5 "_law_below" = true) (k5 : PySem.W.keepIn K (.ref f5) = true)
    (a6 : PySem.W.nsIn K mainGlobals "fraction" = some (some (.ref f6))) (l6 : K.lookup f6 = some ⟨oc6, od6, .func (PySem.W.fnOf "fraction" "fraction" (defArgs (tp 7)) (defBody (tp 7)) (defScope (tp 7)) .none kV6 dc6 pm6 an6 cd6 ct6), sl6⟩) (c6 : PySem.W.codeIn K cd6 "fraction" = true) (k6 : PySem.W.keepIn K (.ref f6) = true)
    (a7 : PySem.W.nsIn K mainGlobals "_law_plus" = some (some (.ref f7))) (l7 : K.lookup f7 = some ⟨oc7, od7, .func (PySem.W.fnOf "_law_plus" "_law_plus" (defArgs (tp 23)) (defBody (tp 23)) (defScope (tp 23)) .none kV7 dc7 pm7 an7 cd7 ct7), sl7⟩) (c7 : PySem.W.codeIn K cd7 "_law_plus" = true) (k7 : PySem.W.keepIn K (.ref f7) = true)
    (a8 : PySem.W.nsIn K mainGlobals "_law_times" = some (some (.ref f8))) (l8 : K.lookup f8 = some ⟨oc8, od8, .func (PySem.W.fnOf "_law_times" "_law_times" (defArgs (tp 24)) (defBody (tp 24)) (defScope (tp 24)) .none kV8 dc8 pm8 an8 cd8 ct8), sl8⟩) (c8 : PySem.W.codeIn K cd8 "_law_times" = true) (k8 : PySem.W.keepIn K (.ref f8) = true)
    (a9 : PySem.W.nsIn K mainGlobals "_law_ordinary" = some (some (.ref f9))) (l9 : K.lookup f9 = some ⟨oc9, od9, .func (PySem.W.fnOf "_law_ordinary" "_law_ordinary" (defArgs (tp 27)) (defBody (tp 27)) (defScope (tp 27)) .none kV9 dc9 pm9 an9 cd9 ct9), sl9⟩) (c9 : PySem.W.codeIn K cd9 "_law_ordinary" = true) (k9 : PySem.W.keepIn K (.ref f9) = true)
    (a10 : PySem.W.nsIn K mainGlobals "plus" = some (some (.ref f10))) (l10 : K.lookup f10 = some ⟨oc10, od10, .func (PySem.W.fnOf "plus" "plus" (defArgs (tp 8)) (defBody (tp 8)) (defScope (tp 8)) .none kV10 dc10 pm10 an10 cd10 ct10), sl10⟩) (c10 : PySem.W.codeIn K cd10 "plus" = true) (k10 : PySem.W.keepIn K (.ref f10) = true)
    (a11 : PySem.W.nsIn K mainGlobals "minus" = some (some (.ref f11))) (l11 : K.lookup f11 = some ⟨oc11, od11, .func (PySem.W.fnOf "minus" "minus" (defArgs (tp 9)) (defBody (tp 9)) (defScope (tp 9)) .none kV11 dc11 pm11 an11 cd11 ct11), sl11⟩) (c11 : PySem.W.codeIn K cd11 "minus" = true) (k11 : PySem.W.keepIn K (.ref f11) = true)
    (a12 : PySem.W.nsIn K mainGlobals "times" = some (some (.ref f12))) (l12 : K.lookup f12 = some ⟨oc12, od12, .func (PySem.W.fnOf "times" "times" (defArgs (tp 10)) (defBody (tp 10)) (defScope (tp 10)) .none kV12 dc12 pm12 an12 cd12 ct12), sl12⟩) (c12 : PySem.W.codeIn K cd12 "times" = true) (k12 : PySem.W.keepIn K (.ref f12) = true)
    (a13 : PySem.W.nsIn K mainGlobals "_law_to_power" = some (some (.ref f13))) (l13 : K.lookup f13 = some ⟨oc13, od13, .func (PySem.W.fnOf "_law_to_power" "_law_to_power" (defArgs (tp 26)) (defBody (tp 26)) (defScope (tp 26)) .none kV13 dc13 pm13 an13 cd13 ct13), sl13⟩) (c13 : PySem.W.codeIn K cd13 "_law_to_power" = true) (k13 : PySem.W.keepIn K (.ref f13) = true)
    (a14 : PySem.W.nsIn K mainGlobals "compare" = some (some (.ref f14))) (l14 : K.lookup f14 = some ⟨oc14, od14, .func (PySem.W.fnOf "compare" "compare" (defArgs (tp 12)) (defBody (tp 12)) (defScope (tp 12)) .none kV14 dc14 pm14 an14 cd14 ct14), sl14⟩) (c14 : PySem.W.codeIn K cd14 "compare" = true) (k14 : PySem.W.keepIn K (.ref f14) = true)
    (a15 : PySem.W.nsIn K mainGlobals "power_of" = some (some (.ref f15))) (l15 : K.lookup f15 = some ⟨oc15, od15, .func (PySem.W.fnOf "power_of" "power_of" (defArgs (tp 14)) (defBody (tp 14)) (defScope (tp 14)) .none kV15 dc15 pm15 an15 cd15 ct15), sl15⟩) (c15 : PySem.W.codeIn K cd15 "power_of" = true) (k15 : PySem.W.keepIn K (.ref f15) = true)
    (a16 : PySem.W.nsIn K mainGlobals "_law_term" = some (some (.ref f16))) (l16 : K.lookup f16 = some ⟨oc16, od16, .func (PySem.W.fnOf "_law_term" "_law_term" (defArgs (tp 28)) (defBody (tp 28)) (defScope (tp 28)) .none kV16 dc16 pm16 an16 cd16 ct16), sl16⟩) (c16 : PySem.W.codeIn K cd16 "_law_term" = true) (k16 : PySem.W.keepIn K (.ref f16) = true)
    (a17 : PySem.W.nsIn K mainGlobals "term_value" = some (some (.ref f17))) (l17 : K.lookup f17 = some ⟨oc17, od17, .func (PySem.W.fnOf "term_value" "term_value" (defArgs (tp 15)) (defBody (tp 15)) (defScope (tp 15)) .none kV17 dc17 pm17 an17 cd17 ct17), sl17⟩) (c17 : PySem.W.codeIn K cd17 "term_value" = true) (k17 : PySem.W.keepIn K (.ref f17) = true)
    (a18 : PySem.W.nsIn K mainGlobals "_law_value" = some (some (.ref f18))) (l18 : K.lookup f18 = some ⟨oc18, od18, .func (PySem.W.fnOf "_law_value" "_law_value" (defArgs (tp 29)) (defBody (tp 29)) (defScope (tp 29)) .none kV18 dc18 pm18 an18 cd18 ct18), sl18⟩) (c18 : PySem.W.codeIn K cd18 "_law_value" = true) (k18 : PySem.W.keepIn K (.ref f18) = true)
    (a19 : PySem.W.nsIn K mainGlobals "size_of" = some (some (.ref f19))) (l19 : K.lookup f19 = some ⟨oc19, od19, .func (PySem.W.fnOf "size_of" "size_of" (defArgs (tp 17)) (defBody (tp 17)) (defScope (tp 17)) .none kV19 dc19 pm19 an19 cd19 ct19), sl19⟩) (c19 : PySem.W.codeIn K cd19 "size_of" = true) (k19 : PySem.W.keepIn K (.ref f19) = true)
    (a20 : PySem.W.nsIn K mainGlobals "great_term" = some (some (.ref f20))) (l20 : K.lookup f20 = some ⟨oc20, od20, .func (PySem.W.fnOf "great_term" "great_term" (defArgs (tp 18)) (defBody (tp 18)) (defScope (tp 18)) .none kV20 dc20 pm20 an20 cd20 ct20), sl20⟩) (c20 : PySem.W.codeIn K cd20 "great_term" = true) (k20 : PySem.W.keepIn K (.ref f20) = true)
    (a21 : PySem.W.nsIn K mainGlobals "law" = some (some (.ref f21))) (l21 : K.lookup f21 = some ⟨oc21, od21, .func (PySem.W.fnOf "law" "law" (defArgs (tp 30)) (defBody (tp 30)) (defScope (tp 30)) .none kV21 dc21 pm21 an21 cd21 ct21), sl21⟩) (c21 : PySem.W.codeIn K cd21 "law" = true) (k21 : PySem.W.keepIn K (.ref f21) = true)
    (z_abs : PySem.W.nsIn K mainGlobals "abs" = some none)
    (z_int : PySem.W.nsIn K mainGlobals "int" = some none)
    (z_len : PySem.W.nsIn K mainGlobals "len" = some none)
    (z_range : PySem.W.nsIn K mainGlobals "range" = some none)
    (z_sorted : PySem.W.nsIn K mainGlobals "sorted" = some none)
    (z_tuple : PySem.W.nsIn K mainGlobals "tuple" = some none)
    (z_zip : PySem.W.nsIn K mainGlobals "zip" = some none)
    {ga_INFINITE : Addr} {gd_INFINITE : Option Addr} {gn_INFINITE : Nat} {gs_INFINITE : Array (Option Value)} (ya_INFINITE : PySem.W.nsIn K mainGlobals "INFINITE" = some (some (.ref ga_INFINITE))) (yl_INFINITE : K.lookup ga_INFINITE = some ⟨.type "tuple", gd_INFINITE, .seq #[] gn_INFINITE, gs_INFINITE⟩)
    {ga_ZERO : Addr} {gd_ZERO : Option Addr} {gn_ZERO : Nat} {gs_ZERO : Array (Option Value)} {gt0_ZERO gt1_ZERO : Tok} (ya_ZERO : PySem.W.nsIn K mainGlobals "ZERO" = some (some (.ref ga_ZERO))) (yl_ZERO : K.lookup ga_ZERO = some ⟨.type "tuple", gd_ZERO, .seq #[.int 0 gt0_ZERO, .int 1 gt1_ZERO] gn_ZERO, gs_ZERO⟩)
    : ∃ fd : FuncData, (∀ (s : Shared) (v : Value), BindsTo s fd ⟨[v], []⟩ [("script", v)]) ∧ ∀ base : Heap, K.In base → base.Ns mainGlobals mg → FnOk l.prog w K mg base CX0 8 fa fd ["script"] (spF K 1 F_law) := by
  have e := hfa.symm.trans (PySem.W.mg_of X G a21)
  cases e
  have T : Txt K mg := ⟨PySem.W.mg_none_of X G z_abs, PySem.W.mg_none_of X G z_int, PySem.W.mg_none_of X G z_len, PySem.W.mg_none_of X G z_range, PySem.W.mg_none_of X G z_sorted, PySem.W.mg_none_of X G z_tuple, PySem.W.mg_none_of X G z_zip, ⟨.ref _, _, PySem.W.mg_of X G ya_INFINITE, rfl, rp_ktup0 yl_INFINITE rfl rfl⟩, ⟨.ref _, _, PySem.W.mg_of X G ya_ZERO, rfl, rp_ktupI (ns := [0, 1]) yl_ZERO rfl rfl (.cons ⟨_, rfl⟩ (.cons ⟨_, rfl⟩ (.nil))) (by decide)⟩⟩
  have F0 := fun_mk (st := (tp 6)) l0 c0 k0
  have b0 := F0.binds (ps := ["a", "b"]) fun _ _ _ _ _ _ us hl => match us, hl with | [_, _], _ => rfl
  have F1 := fun_mk (st := (tp 11)) l1 c1 k1
  have b1 := F1.binds (ps := ["x"]) fun _ _ _ _ _ _ us hl => match us, hl with | [_], _ => rfl
  have F2 := fun_mk (st := (tp 20)) l2 c2 k2
  have b2 := F2.binds (ps := ["script", "k"]) fun _ _ _ _ _ _ us hl => match us, hl with | [_, _], _ => rfl
  have F3 := fun_mk (st := (tp 21)) l3 c3 k3
  have b3 := F3.binds (ps := ["script", "first", "most"]) fun _ _ _ _ _ _ us hl => match us, hl with | [_, _, _], _ => rfl
  have F4 := fun_mk (st := (tp 22)) l4 c4 k4
  have b4 := F4.binds (ps := ["a", "b"]) fun _ _ _ _ _ _ us hl => match us, hl with | [_, _], _ => rfl
  have F5 := fun_mk (st := (tp 25)) l5 c5 k5
  have b5 := F5.binds (ps := ["x", "y"]) fun _ _ _ _ _ _ us hl => match us, hl with | [_, _], _ => rfl
  have F6 := fun_mk (st := (tp 7)) l6 c6 k6
  have b6 := F6.binds (ps := ["a", "b"]) fun _ _ _ _ _ _ us hl => match us, hl with | [_, _], _ => rfl
  have F7 := fun_mk (st := (tp 23)) l7 c7 k7
  have b7 := F7.binds (ps := ["x", "y"]) fun _ _ _ _ _ _ us hl => match us, hl with | [_, _], _ => rfl
  have F8 := fun_mk (st := (tp 24)) l8 c8 k8
  have b8 := F8.binds (ps := ["x", "y"]) fun _ _ _ _ _ _ us hl => match us, hl with | [_, _], _ => rfl
  have F9 := fun_mk (st := (tp 27)) l9 c9 k9
  have b9 := F9.binds (ps := ["numbers", "first", "n", "most", "top"]) fun _ _ _ _ _ _ us hl => match us, hl with | [_, _, _, _, _], _ => rfl
  have F10 := fun_mk (st := (tp 8)) l10 c10 k10
  have b10 := F10.binds (ps := ["x", "y"]) fun _ _ _ _ _ _ us hl => match us, hl with | [_, _], _ => rfl
  have F11 := fun_mk (st := (tp 9)) l11 c11 k11
  have b11 := F11.binds (ps := ["x", "y"]) fun _ _ _ _ _ _ us hl => match us, hl with | [_, _], _ => rfl
  have F12 := fun_mk (st := (tp 10)) l12 c12 k12
  have b12 := F12.binds (ps := ["x", "y"]) fun _ _ _ _ _ _ us hl => match us, hl with | [_, _], _ => rfl
  have F13 := fun_mk (st := (tp 26)) l13 c13 k13
  have b13 := F13.binds (ps := ["x", "k"]) fun _ _ _ _ _ _ us hl => match us, hl with | [_, _], _ => rfl
  have F14 := fun_mk (st := (tp 12)) l14 c14 k14
  have b14 := F14.binds (ps := ["x", "y"]) fun _ _ _ _ _ _ us hl => match us, hl with | [_, _], _ => rfl
  have F15 := fun_mk (st := (tp 14)) l15 c15 k15
  have b15 := F15.binds (ps := ["x", "k"]) fun _ _ _ _ _ _ us hl => match us, hl with | [_, _], _ => rfl
  have F16 := fun_mk (st := (tp 28)) l16 c16 k16
  have b16 := F16.binds (ps := ["term", "point"]) fun _ _ _ _ _ _ us hl => match us, hl with | [_, _], _ => rfl
  have F17 := fun_mk (st := (tp 15)) l17 c17 k17
  have b17 := F17.binds (ps := ["term", "point"]) fun _ _ _ _ _ _ us hl => match us, hl with | [_, _], _ => rfl
  have F18 := fun_mk (st := (tp 29)) l18 c18 k18
  have b18 := F18.binds (ps := ["f", "point"]) fun _ _ _ _ _ _ us hl => match us, hl with | [_, _], _ => rfl
  have F19 := fun_mk (st := (tp 17)) l19 c19 k19
  have b19 := F19.binds (ps := ["term", "radii"]) fun _ _ _ _ _ _ us hl => match us, hl with | [_, _], _ => rfl
  have F20 := fun_mk (st := (tp 18)) l20 c20 k20
  have b20 := F20.binds (ps := ["f", "radii"]) fun _ _ _ _ _ _ us hl => match us, hl with | [_, _], _ => rfl
  have F21 := fun_mk (st := (tp 30)) l21 c21 k21
  have b21 := F21.binds (ps := ["script"]) fun _ _ _ _ _ _ us hl => match us, hl with | [_], _ => rfl
  refine ⟨PySem.W.fnOf "law" "law" (defArgs (tp 30)) (defBody (tp 30)) (defScope (tp 30)) .none kV21 dc21 pm21 an21 cd21 ct21, fun s v => .of_eq rfl, fun base _ _ => ?_⟩
  have q_common_divisor := cal_common_divisor (P := l.prog) (w := w) (base := base) T F0 (PySem.W.mg_of X G a0) b0 
  have q_sign := cal_sign (P := l.prog) (w := w) (base := base) T F1 (PySem.W.mg_of X G a1) b1 
  have q__law_cell := cal__law_cell (P := l.prog) (w := w) (base := base) T F2 (PySem.W.mg_of X G a2) b2 
  have q__law_numbers := cal__law_numbers (P := l.prog) (w := w) (base := base) T F3 (PySem.W.mg_of X G a3) b3 
  have q__law_frac := cal__law_frac (P := l.prog) (w := w) (base := base) T F4 (PySem.W.mg_of X G a4) b4 
  have q__law_below := cal__law_below (P := l.prog) (w := w) (base := base) T F5 (PySem.W.mg_of X G a5) b5 
  have q_fraction := cal_fraction (P := l.prog) (w := w) (base := base) T F6 (PySem.W.mg_of X G a6) b6 q_common_divisor
  have q__law_plus := cal__law_plus (P := l.prog) (w := w) (base := base) T F7 (PySem.W.mg_of X G a7) b7 q__law_frac
  have q__law_times := cal__law_times (P := l.prog) (w := w) (base := base) T F8 (PySem.W.mg_of X G a8) b8 q__law_frac
  have q__law_ordinary := cal__law_ordinary (P := l.prog) (w := w) (base := base) T F9 (PySem.W.mg_of X G a9) b9 q__law_frac
  have q_plus := cal_plus (P := l.prog) (w := w) (base := base) T F10 (PySem.W.mg_of X G a10) b10 q_fraction
  have q_minus := cal_minus (P := l.prog) (w := w) (base := base) T F11 (PySem.W.mg_of X G a11) b11 q_fraction
  have q_times := cal_times (P := l.prog) (w := w) (base := base) T F12 (PySem.W.mg_of X G a12) b12 q_fraction
  have q__law_to_power := cal__law_to_power (P := l.prog) (w := w) (base := base) T F13 (PySem.W.mg_of X G a13) b13 q__law_times
  have q_compare := cal_compare (P := l.prog) (w := w) (base := base) T F14 (PySem.W.mg_of X G a14) b14 q_minus q_sign
  have q_power_of := cal_power_of (P := l.prog) (w := w) (base := base) T F15 (PySem.W.mg_of X G a15) b15 q_times
  have q__law_term := cal__law_term (P := l.prog) (w := w) (base := base) T F16 (PySem.W.mg_of X G a16) b16 q__law_to_power q__law_times
  have q_term_value := cal_term_value (P := l.prog) (w := w) (base := base) T F17 (PySem.W.mg_of X G a17) b17 q_power_of q_times
  have q__law_value := cal__law_value (P := l.prog) (w := w) (base := base) T F18 (PySem.W.mg_of X G a18) b18 q__law_term q__law_plus
  have q_size_of := cal_size_of (P := l.prog) (w := w) (base := base) T F19 (PySem.W.mg_of X G a19) b19 q_term_value
  have q_great_term := cal_great_term (P := l.prog) (w := w) (base := base) T F20 (PySem.W.mg_of X G a20) b20 q_size_of q_plus q_minus q_compare
  refine fnV F21 sc_law 18 rfl (W := [1, 2, 3, 4, 5, 6, 7, 8, 9, 10, 11, 12, 13, 14, 15, 16, 17, 18]) fun cdv A outer s H E hr => ?_
  exact bv_W (bv_cons (sv_set (i := 1) sc_law.nd rfl (by first | exact .inl rfl | exact .inr rfl) (ev_callB call_abs on_abs (by rfl) T.b_abs (by decide +kernel) (av_cons (ev_def q__law_cell (hr.mono (by decide)) (by rfl) (av_cons (ev_name (pv 0)) (av_cons ev_int av_nil))) av_nil))) (bv_cons (sv_frz 2 (sv_set (i := 2) sc_law.nd rfl (by first | exact .inl rfl | exact .inr rfl) (ev_bin opr_add o2_add (ev_def q__law_numbers (hr.mono (by decide)) (by rfl) (av_cons (ev_name (pv 0)) (av_cons ev_int (av_cons ev_int av_nil)))) (ev_lst (av_cons ev_int (av_cons ev_int (av_cons ev_int (av_cons ev_int (av_cons ev_int (av_cons ev_int (av_cons ev_int (av_cons ev_int (av_cons ev_int av_nil))))))))))))) (bv_cons (sv_set (i := 3) sc_law.nd rfl (by first | exact .inl rfl | exact .inr rfl) (ev_bin opr_add o2_add ev_int (ev_bin op_modN o2_mod (ev_callTy call_int1 on_int (by rfl) T.b_int (by decide +kernel) (av_cons (ev_look (pv 1)) av_nil)) ev_int))) (bv_cons (sv_set (i := 4) sc_law.nd rfl (by first | exact .inl rfl | exact .inr rfl) (ev_def q__law_ordinary (hr.mono (by decide)) (by rfl) (av_cons (ev_name (pv 2)) (av_cons ev_int (av_cons (ev_name (pv 3)) (av_cons ev_int (av_cons ev_int av_nil))))))) (bv_cons (sv_if (tv_cmp (op_eqD hr.units) o2_eq (ev_look (pv 4)) (ev_tup av_nil) (nomark _)) (bv_one (sv_set (i := 4) sc_law.nd rfl (by first | exact .inl rfl | exact .inr rfl) (ev_tup (av_cons (ev_tup (av_cons (ev_bin opr_tmu o2_tmu (ev_tup (av_cons ev_int av_nil)) (ev_look (pv 3))) (av_cons (ev_tup (av_cons ev_int (av_cons ev_int av_nil))) av_nil))) av_nil)))) bv_nil) (bv_cons (sv_set (i := 5) sc_law.nd rfl (by first | exact .inl rfl | exact .inr rfl) (ev_callTy call_tuple_of on_tuple (by rfl) T.b_tuple (by decide +kernel) (av_cons (ev_lc (own := [("i", 17)]) rfl sc_law.nd (iv_range1 (by rfl) T.b_range (av_cons (ev_name (pv 3)) av_nil)) (blkOk_by (N := ["script", "digit", "numbers", "n", "f", "radii", "total", "term", "sizes", "size", "due", "k", "others", "j", "told", "index", "point", "i", "sign_v"]) (sc := defScope (tp 30)) (by decide +kernel)) (fun _ _ _ _ _ => (gv_name sc_law.nd rfl (by first | exact .inl rfl | exact .inr rfl))) (fun _ _ _ _ _ => cv_nil) (fun _ _ _ _ _ => (ev_def q__law_frac (hr.mono (by decide)) (by rfl) (av_cons (ev_bin opr_add o2_add ev_int (ev_bin op_modN o2_mod (ev_callTy call_int1 on_int (by rfl) T.b_int (by decide +kernel) (av_cons (ev_sub (ev_look (pv 2)) (ev_bin opr_add o2_add (ev_look (pv 17)) ev_int) (fun _ _ => rfl)) av_nil)) ev_int)) (av_cons (ev_own (ev_sub (ev_lst (av_cons ev_int (av_cons ev_int (av_cons ev_int (av_cons ev_int av_nil))))) (ev_bin op_modN o2_mod (ev_bin op_fdivX o2_div (ev_callTy call_int1 on_int (by rfl) T.b_int (by decide +kernel) (av_cons (ev_sub (ev_look (pv 2)) (ev_bin opr_add o2_add (ev_look (pv 17)) ev_int) (fun _ _ => rfl)) av_nil)) ev_int) ev_int) (fun _ _ => rfl))) av_nil)))) (by decide)) av_nil))) (bv_cons (sv_if (tv_cmp (op_eqD hr.units) o2_eq (ev_bin op_modN o2_mod (ev_bin op_fdivX o2_div (ev_look (pv 1)) ev_int) ev_int) ev_int (nomark _)) (bv_cons (sv_set (i := 5) sc_law.nd rfl (by first | exact .inl rfl | exact .inr rfl) (ev_bin opr_tmu o2_tmu (ev_tup (av_cons (ev_tup (av_cons ev_int (av_cons ev_int av_nil))) av_nil)) (ev_look (pv 3)))) (bv_cons (sv_set (i := 6) sc_law.nd rfl (by first | exact .inl rfl | exact .inr rfl) (ev_tup (av_cons ev_int (av_cons ev_int av_nil)))) (bv_cons (sv_for (FB := L_law_2) PySem.PassesOwn.never rfl (iv_seq (ev_slice (ev_look (pv 4)) (ov_some ev_int) ov_none)) (gv_name sc_law.nd rfl (by first | exact .inl rfl | exact .inr rfl)) (bv_one (sv_set (i := 6) sc_law.nd rfl (by first | exact .inl rfl | exact .inr rfl) (ev_def q__law_plus (hr.mono (by decide)) (by rfl) (av_cons (ev_name (pv 6)) (av_cons (ev_tup (av_cons (ev_callB call_abs on_abs (by rfl) T.b_abs (by decide +kernel) (av_cons (ev_sub (ev_sub (ev_look (pv 7)) ev_int (fun _ _ => rfl)) ev_int (fun _ _ => rfl)) av_nil)) (av_cons (ev_own (ev_sub (ev_sub (ev_look (pv 7)) ev_int (fun _ _ => rfl)) ev_int (fun _ _ => rfl))) av_nil))) av_nil)))))) (bv_one (sv_if (tv_cmp (op_neD hr.units) o2_ne (ev_look (pv 6)) (ev_tup (av_cons ev_int (av_cons ev_int av_nil))) (nomark _)) (bv_one (sv_set (i := 4) sc_law.nd rfl (by first | exact .inl rfl | exact .inr rfl) (ev_bin opr_add o2_add (ev_tup (av_cons (ev_tup (av_cons (ev_own (ev_sub (ev_sub (ev_look (pv 4)) ev_int (fun _ _ => rfl)) ev_int (fun _ _ => rfl))) (av_cons (ev_def q__law_plus (hr.mono (by decide)) (by rfl) (av_cons (ev_name (pv 6)) (av_cons (ev_def q__law_frac (hr.mono (by decide)) (by rfl) (av_cons (ev_bin op_sub o2_sub (ev_bin op_modN o2_mod (ev_bin op_fdivX o2_div (ev_look (pv 1)) ev_int) ev_int) ev_int) (av_cons ev_int av_nil))) av_nil))) av_nil))) av_nil)) (ev_slice (ev_look (pv 4)) (ov_some ev_int) ov_none)))) bv_nil))))) bv_nil) (bv_cons (sv_set (i := 4) sc_law.nd rfl (by first | exact .inl rfl | exact .inr rfl) (ev_callTy call_tuple_of on_tuple (by rfl) T.b_tuple (by decide +kernel) (av_cons (ev_lc (own := [("term", 7)]) rfl sc_law.nd (iv_seq (ev_name (pv 4))) (blkOk_by (N := ["script", "digit", "numbers", "n", "f", "radii", "total", "term", "sizes", "size", "due", "k", "others", "j", "told", "index", "point", "i", "sign_v"]) (sc := defScope (tp 30)) (by decide +kernel)) (fun _ _ _ _ _ => (gv_name sc_law.nd rfl (by first | exact .inl rfl | exact .inr rfl))) (fun _ _ _ _ _ => (cv_one (tv_cmp (op_neD hr.units) o2_ne (ev_sub (ev_look (pv 7)) ev_int (fun _ _ => rfl)) (ev_tup (av_cons ev_int (av_cons ev_int av_nil))) (nomark _)))) (fun _ _ _ _ _ => (ev_name (pv 7))) (by decide)) av_nil))) (bv_cons (sv_set (i := 8) sc_law.nd rfl (by first | exact .inl rfl | exact .inr rfl) (ev_lst av_nil)) (bv_cons (sv_for (FB := L_law_5) PySem.PassesOwn.never rfl (iv_seq (ev_name (pv 4))) (gv_name sc_law.nd rfl (by first | exact .inl rfl | exact .inr rfl)) (bv_cons (sv_set (i := 9) sc_law.nd rfl (by first | exact .inl rfl | exact .inr rfl) (ev_def q__law_term (hr.mono (by decide)) (by rfl) (av_cons (ev_name (pv 7)) (av_cons (ev_name (pv 5)) av_nil)))) (bv_one (sv_expr (ev_mt PySem.F.slot_list_append PySem.F.type_list_append mt_append mut_append (pv 8) (av_cons (ev_tup (av_cons (ev_callB call_abs on_abs (by rfl) T.b_abs (by decide +kernel) (av_cons (ev_sub (ev_look (pv 9)) ev_int (fun _ _ => rfl)) av_nil)) (av_cons (ev_own (ev_sub (ev_look (pv 9)) ev_int (fun _ _ => rfl))) av_nil))) av_nil)))))) (bv_cons (sv_set (i := 10) sc_law.nd rfl (by first | exact .inl rfl | exact .inr rfl) ev_non) (bv_cons (sv_for (FB := L_law_7) PySem.PassesOwn.never rfl (iv_range1 (by rfl) T.b_range (av_cons (ev_callB call_len on_len (by rfl) T.b_len PySem.boot_len (av_cons (ev_look (pv 4)) av_nil)) av_nil)) (gv_name sc_law.nd rfl (by first | exact .inl rfl | exact .inr rfl)) (bv_cons (sv_set (i := 12) sc_law.nd rfl (by first | exact .inl rfl | exact .inr rfl) (ev_tup (av_cons ev_int (av_cons ev_int av_nil)))) (bv_cons (sv_for (FB := L_law_6) PySem.PassesOwn.never rfl (iv_range1 (by rfl) T.b_range (av_cons (ev_callB call_len on_len (by rfl) T.b_len PySem.boot_len (av_cons (ev_look (pv 4)) av_nil)) av_nil)) (gv_name sc_law.nd rfl (by first | exact .inl rfl | exact .inr rfl)) (bv_one (sv_if (tv_cmp (op_neD hr.units) o2_ne (ev_look (pv 13)) (ev_look (pv 11)) (nomark _)) (bv_one (sv_set (i := 12) sc_law.nd rfl (by first | exact .inl rfl | exact .inr rfl) (ev_def q__law_plus (hr.mono (by decide)) (by rfl) (av_cons (ev_name (pv 12)) (av_cons (ev_own (ev_sub (ev_look (pv 8)) (ev_look (pv 13)) (fun _ _ => rfl))) av_nil))))) bv_nil))) (bv_one (sv_if (tv_tru (ev_def q__law_below (hr.mono (by decide)) (by rfl) (av_cons (ev_name (pv 12)) (av_cons (ev_own (ev_sub (ev_look (pv 8)) (ev_look (pv 11)) (fun _ _ => rfl))) av_nil)))) (bv_one (sv_set (i := 10) sc_law.nd rfl (by first | exact .inl rfl | exact .inr rfl) (ev_own (ev_sub (ev_sub (ev_look (pv 4)) (ev_look (pv 11)) (fun _ _ => rfl)) ev_int (fun _ _ => rfl))))) bv_nil))))) (bv_cons (sv_set (i := 14) sc_law.nd rfl (by first | exact .inl rfl | exact .inr rfl) (ev_def q_great_term (hr.mono (by decide)) (by rfl) (av_cons (ev_name (pv 4)) (av_cons (ev_name (pv 5)) av_nil)))) (bv_cons (sv_if (tv_w (wv_or (tv_cmp (op_neD hr.units) o2_ne (ev_cmp op_isN o2_isN (ev_look (pv 14)) ev_non (nomark _)) (ev_cmp op_isN o2_isN (ev_look (pv 10)) ev_non (nomark _)) (nomark _)) (wv_or1 (tv_cmp (op_neD hr.units) o2_ne (ev_look (pv 14)) (ev_look (pv 10)) (nomark _))))) (bv_one (sv_ret ev_bl)) bv_nil) (bv_cons (sv_if (tv_cmp op_notN o2_notN (ev_look (pv 10)) ev_non (nomark _)) (bv_one (sv_for (FB := L_law_9) PySem.PassesOwn.never rfl (iv_range1 (by rfl) T.b_range (av_cons (ev_bin op_shl o2_shl ev_int (ev_look (pv 3))) av_nil)) (gv_name sc_law.nd rfl (by first | exact .inl rfl | exact .inr rfl)) (bv_cons (sv_set (i := 16) sc_law.nd rfl (by first | exact .inl rfl | exact .inr rfl) (ev_lst av_nil)) (bv_cons (sv_for (FB := L_law_8) PySem.PassesOwn.never rfl (iv_range1 (by rfl) T.b_range (av_cons (ev_name (pv 3)) av_nil)) (gv_name sc_law.nd rfl (by first | exact .inl rfl | exact .inr rfl)) (bv_cons (sv_set (i := 18) sc_law.nd rfl (by first | exact .inl rfl | exact .inr rfl) (ev_bin op_sub o2_sub ev_int (ev_bin op_mulZ o2_mul ev_int (ev_bin op_and o2_and (ev_bin op_shr o2_shr (ev_look (pv 15)) (ev_look (pv 17))) ev_int)))) (bv_one (sv_expr (ev_mt PySem.F.slot_list_append PySem.F.type_list_append mt_append mut_append (pv 16) (av_cons (ev_tup (av_cons (ev_bin op_mulZ o2_mul (ev_look (pv 18)) (ev_sub (ev_sub (ev_look (pv 5)) (ev_look (pv 17)) (fun _ _ => rfl)) ev_int (fun _ _ => rfl))) (av_cons (ev_own (ev_sub (ev_sub (ev_look (pv 5)) (ev_look (pv 17)) (fun _ _ => rfl)) ev_int (fun _ _ => rfl))) av_nil))) av_nil)))))) (bv_one (sv_if (tv_cmp (op_eqD hr.units) o2_eq (ev_defL (lens := [none, some 16]) q__law_value (hr.mono (by decide)) (by rfl) (lv_cons (ev_name (pv 4)) (lv_lend (pv 16) lv_nil))) (ev_tup (av_cons ev_int (av_cons ev_int av_nil))) (nomark _)) (bv_one (sv_ret ev_bl)) bv_nil)))))) bv_nil) (bv_one (sv_ret ev_bl))))))))))))))))) (by decide)
theorem walk {l : PySem.W.OpenLaw} {q : Program} {loose : List Str} {XP : (Str → Option Value) → Heap → Prop} {YP : World → Heap → Prop} {d : DefRec} {K : Params → PySem.W.Frag} (hn : l.most = some 63) (hdf : d.params.defaults = [])
    (hY : ∀ (w : World) (h : Heap), YP w h → (K w.params).In h)
    (F : ∀ (w : World) (mg : Str → Option Value) (fa : Addr) (h : Heap), (K w.params).In h → h.Ns mainGlobals mg → mg d.name = some (.ref fa) →
      ∃ fd : FuncData, (∀ (s : Shared) (u : Value), BindsTo s fd ⟨[u], []⟩ [("script", u)]) ∧ ∀ base : Heap, (K w.params).In base → base.Ns mainGlobals mg → FnOk l.prog w (K w.params) mg base CX0 8 fa fd ["script"] (spF (K w.params) 1 F_law))
    (law : ∀ ns : List Int, ns.length ≤ 63 → (∀ z ∈ ns, Builtin.Int.intBits z ≤ 1048576) → ∃ env, F_law [.scr ns] = some (.bl true, env)) :
    PySem.W.WalkO q loose XP YP l.row.toRowW d [] (fun f vs => PySem.call f vs) :=
  L2.walk_ofB (n := 63) (k := 8) (x := "script") (CX := fun _ => CX0) (sp := fun w => spF (K w.params) 1 F_law) hn (by decide) hdf ⟨rfl, by decide, by decide⟩ hY F (fun _ _ a ns hl hb _ hS => (law ns hl hb).elim fun _ h => law_end hS h) fun _ _ _ _ _ z => z
end
end G46


set_option Elab.async false
set_option maxRecDepth 100000
open PySem PySem.W PyProof.Rows in
set_option maxRecDepth 100000 in
set_option maxHeartbeats 0 in
theorem PySem.Challenge.cw_leastplus_k46_great_terms_holds : PySem.Challenge.rw_leastplus_k46_great_terms.Holds := by
  w_on; o_law; k_head; (case hw => w_witness2)
  k_fill
  refine G46.walk (l := PySem.Challenge.rw_leastplus_k46_great_terms) rfl rfl (fun w h Y => PySem.W.kIn_of Y) ?F (fun ns h _ => G46.law_ok ns h)
  case F =>
    intro w mg fa h KX G hmg
    refine' G46.law_of KX G hmg ?a0 ?l0 ?c0 ?k0 ?a1 ?l1 ?c1 ?k1 ?a2 ?l2 ?c2 ?k2 ?a3 ?l3 ?c3 ?k3 ?a4 ?l4 ?c4 ?k4 ?a5 ?l5 ?c5 ?k5 ?a6 ?l6 ?c6 ?k6 ?a7 ?l7 ?c7 ?k7 ?a8 ?l8 ?c8 ?k8 ?a9 ?l9 ?c9 ?k9 ?a10 ?l10 ?c10 ?k10 ?a11 ?l11 ?c11 ?k11 ?a12 ?l12 ?c12 ?k12 ?a13 ?l13 ?c13 ?k13 ?a14 ?l14 ?c14 ?k14 ?a15 ?l15 ?c15 ?k15 ?a16 ?l16 ?c16 ?k16 ?a17 ?l17 ?c17 ?k17 ?a18 ?l18 ?c18 ?k18 ?a19 ?l19 ?c19 ?k19 ?a20 ?l20 ?c20 ?k20 ?a21 ?l21 ?c21 ?k21 ?z_abs ?z_int ?z_len ?z_range ?z_sorted ?z_tuple ?z_zip ?ya_INFINITE ?yl_INFINITE ?ya_ZERO ?yl_ZERO
    (case a0 => k_is)
    (case l0 => k_is)
    (case c0 => k_is)
    (case k0 => k_is)
    (case a1 => k_is)
    (case l1 => k_is)
    (case c1 => k_is)
    (case k1 => k_is)
    (case a2 => k_is)
    (case l2 => k_is)
    (case c2 => k_is)
    (case k2 => k_is)
    (case a3 => k_is)
    (case l3 => k_is)
    (case c3 => k_is)
    (case k3 => k_is)
    (case a4 => k_is)
    (case l4 => k_is)
    (case c4 => k_is)
    (case k4 => k_is)
    (case a5 => k_is)
    (case l5 => k_is)
    (case c5 => k_is)
    (case k5 => k_is)
    (case a6 => k_is)
    (case l6 => k_is)
    (case c6 => k_is)
    (case k6 => k_is)
    (case a7 => k_is)
    (case l7 => k_is)
    (case c7 => k_is)
    (case k7 => k_is)
    (case a8 => k_is)
    (case l8 => k_is)
    (case c8 => k_is)
    (case k8 => k_is)
    (case a9 => k_is)
    (case l9 => k_is)
    (case c9 => k_is)
    (case k9 => k_is)
    (case a10 => k_is)
    (case l10 => k_is)
    (case c10 => k_is)
    (case k10 => k_is)
    (case a11 => k_is)
    (case l11 => k_is)
    (case c11 => k_is)
    (case k11 => k_is)
    (case a12 => k_is)
    (case l12 => k_is)
    (case c12 => k_is)
    (case k12 => k_is)
    (case a13 => k_is)
    (case l13 => k_is)
    (case c13 => k_is)
    (case k13 => k_is)
    (case a14 => k_is)
    (case l14 => k_is)
    (case c14 => k_is)
    (case k14 => k_is)
    (case a15 => k_is)
    (case l15 => k_is)
    (case c15 => k_is)
    (case k15 => k_is)
    (case a16 => k_is)
    (case l16 => k_is)
    (case c16 => k_is)
    (case k16 => k_is)
    (case a17 => k_is)
    (case l17 => k_is)
    (case c17 => k_is)
    (case k17 => k_is)
    (case a18 => k_is)
    (case l18 => k_is)
    (case c18 => k_is)
    (case k18 => k_is)
    (case a19 => k_is)
    (case l19 => k_is)
    (case c19 => k_is)
    (case k19 => k_is)
    (case a20 => k_is)
    (case l20 => k_is)
    (case c20 => k_is)
    (case k20 => k_is)
    (case a21 => k_is)
    (case l21 => k_is)
    (case c21 => k_is)
    (case k21 => k_is)
    (case z_abs => k_is)
    (case z_int => k_is)
    (case z_len => k_is)
    (case z_range => k_is)
    (case z_sorted => k_is)
    (case z_tuple => k_is)
    (case z_zip => k_is)
    (case ya_INFINITE => k_is)
    (case yl_INFINITE => k_is)
    (case ya_ZERO => k_is)
    (case yl_ZERO => k_is)
