import PyProof.Rows.All
import Wide.All
import OpenK.AllK
import Wide.FinOn
import HandS.ForMost
import HandS.TupAny
import HandS.Deep
import HandS.Wide
import HandS.WideMore
import HandS.IsInst
import HandS.CallLocal
import HandS.Zip
import HandS.EndBits
import HandS.WideBits
import HandS.Flow
import HandS.Walk
import PySem.Challenge.RW_leastplus_k33_whole_nearest_points
set_option Elab.async false
set_option linter.all false
set_option maxRecDepth 100000
set_option maxHeartbeats 1000000
namespace Pz
open PySem L2

/-- a Python value, by value. A list that is `true` is owned by the one who holds it: it may be changed -/
inductive D where
  | non | bl (b : Bool) | int (i : Int) | str (x : Str) | raw (v : V)
  | scr (ns : List Int)
  | tup (xs : List D) | lst (o : Bool) (xs : List D) | dct (o : Bool) (ks : List (List Int)) (vs : List D)

mutual
def D.pure : D → Bool
  | .tup xs => D.pures xs
  | .lst o xs => !o && D.pures xs
  | .dct o _ vs => !o && D.pures vs
  | .non | .bl _ | .int _ | .str _ | .raw _ | .scr _ => true
def D.pures : List D → Bool
  | [] => true
  | x :: xs => x.pure && D.pures xs
end
mutual
def D.fz : D → D
  | .tup xs => .tup (D.fzs xs)
  | .lst _ xs => .lst false (D.fzs xs)
  | .dct _ ks vs => .dct false ks (D.fzs vs)
  | .non => .non | .bl b => .bl b | .int i => .int i | .str x => .str x | .raw v => .raw v | .scr ns => .scr ns
def D.fzs : List D → List D
  | [] => []
  | x :: xs => x.fz :: D.fzs xs
end

theorem D.pures_all : ∀ xs : List D, D.pures xs = xs.all D.pure
  | [] => rfl
  | x :: xs => by simp [D.pures, D.pures_all xs]
theorem D.fzs_map : ∀ xs : List D, D.fzs xs = xs.map D.fz
  | [] => rfl
  | x :: xs => by simp [D.fzs, D.fzs_map xs]

/-- an entry of a dict whose keys are tuples of ints -/
def entI (x : List Int × Addr × Value) : DictEntry := ⟨reduceHash (Builtin.Tuple.tupleHashOf (x.1.map hashInt)), .ref x.2.1, x.2.2⟩
abbrev PrR : List (List Int × Addr × V) → List (List Int × Addr × Value) → Prop := Paired fun p q => p.1 = q.1 ∧ p.2.1 = q.2.1 ∧ RelV p.2.2 q.2.2
/-- a dict whose keys are tuples of ints, wherever these stand -/
def kvO (a : Addr) (kvs : List (List Int × Addr × V)) : HO := .ext fun h => kvs.length ≤ sizeLine ∧ (a == sysModules) = false ∧ ∃ xs : List (List Int × Addr × Value), PrR kvs xs ∧
  ∃ o es ep, h.get? a = some o ∧ o.ExactDict ∧ o.data = .dict es ep ∧ es.toList = xs.map entI ∧ (xs.map (·.1)).Nodup

section
variable (K : PySem.W.Frag)
mutual
/-- d lies as the value v: G what stays for ever, H the heap, L the lists that are owned within d -/
inductive Rp (G H : Hp) : D → V → List Addr → Prop
  | non : Rp G H .non .non []
  | bl (b : Bool) : Rp G H (.bl b) (.bl b) []
  | int (i : Int) : Rp G H (.int i) (.int i) []
  | str (x : Str) : Rp G H (.str x) (.str x) []
  | raw (v : V) : Rp G H (.raw v) v []
  | scr {a : Addr} {ns : List Int} (h : SqL K G a (ns.map V.int)) : Rp G H (.scr ns) (.ref a) []
  | tup {a : Addr} {vs : List V} {ds : List D} {L : List Addr} (h : SqT K G a vs) (hs : Rps G H ds vs L) : Rp G H (.tup ds) (.ref a) L
  | lstF {a : Addr} {vs : List V} {ds : List D} (h : G a = some (.lst vs)) (hs : Rps G H ds vs []) : Rp G H (.lst false ds) (.ref a) []
  | lstO {a : Addr} {vs : List V} {ds : List D} {L : List Addr} (n : G a = none) (h : H a = some (.lst vs)) (hs : Rps G H ds vs L) : Rp G H (.lst true ds) (.ref a) (a :: L)
  | dctF {a : Addr} {kvs : List (List Int × Addr × V)} {ks : List (List Int)} {ds : List D} (h : G a = some (kvO a kvs)) (ek : kvs.map (·.1) = ks) (hk : ∀ x ∈ kvs, SqT K G x.2.1 (x.1.map V.int)) (hs : Rps G H ds (kvs.map (·.2.2)) []) : Rp G H (.dct false ks ds) (.ref a) []
  | dctO {a : Addr} {kvs : List (List Int × Addr × V)} {ks : List (List Int)} {ds : List D} (n : G a = none) (h : H a = some (kvO a kvs)) (ek : kvs.map (·.1) = ks) (hk : ∀ x ∈ kvs, SqT K G x.2.1 (x.1.map V.int)) (hs : Rps G H ds (kvs.map (·.2.2)) []) : Rp G H (.dct true ks ds) (.ref a) [a]
inductive Rps (G H : Hp) : List D → List V → List Addr → Prop
  | nil : Rps G H [] [] []
  | cons {d : D} {v : V} {ds : List D} {vs : List V} {L1 L2 : List Addr} (h : Rp G H d v L1) (hs : Rps G H ds vs L2) : Rps G H (d :: ds) (v :: vs) (L1 ++ L2)
end
end

/-- G is part of H -/
def Le (G H : Hp) : Prop := ∀ a o, G a = some o → H a = some o
theorem Le.refl (G : Hp) : Le G G := fun _ _ h => h
theorem Le.trans {G H I : Hp} (a : Le G H) (b : Le H I) : Le G I := fun c o h => b c o (a c o h)
theorem Le.sqL {K : PySem.W.Frag} {G H : Hp} (l : Le G H) {a : Addr} {xs : List V} (h : SqL K G a xs) : SqL K H a xs := Same.seq l h
theorem Le.sqT {K : PySem.W.Frag} {G H : Hp} (e : Le G H) {a : Addr} {xs : List V} (h : SqT K G a xs) : SqT K H a xs := by
  rcases h with (h | ⟨o, h⟩) | h
  · exact .inl (.inl (e _ _ h))
  · exact .inl (.inr ⟨o, e _ _ h⟩)
  · exact .inr h
theorem Le.none {G H : Hp} (e : Le G H) {l : Addr} (h : H l = none) : G l = none := by
  cases q : G l with
  | none => rfl
  | some o => rw [e l o q] at h; cases h

section
variable {K : PySem.W.Frag} {G H G' H' : Hp}
mutual
theorem Rp.mono : ∀ {d : D} {v : V} {L : List Addr}, Rp K G H d v L → Le G G' → (∀ a ∈ L, G' a = none ∧ H' a = H a) → Rp K G' H' d v L
  | _, _, _, .non, _, _ => .non
  | _, _, _, .bl b, _, _ => .bl b
  | _, _, _, .int i, _, _ => .int i
  | _, _, _, .str x, _, _ => .str x
  | _, _, _, .raw v, _, _ => .raw v
  | _, _, _, .scr h, l, _ => .scr (l.sqL h)
  | _, _, _, .tup h hs, l, k => .tup (l.sqT h) (Rps.mono hs l k)
  | _, _, _, .lstF h hs, l, _ => .lstF (l _ _ h) (Rps.mono hs l fun _ z => nomatch z)
  | _, _, _, .lstO n h hs, l, k => .lstO (k _ (List.mem_cons_self ..)).1 ((k _ (List.mem_cons_self ..)).2.trans h) (Rps.mono hs l fun a z => k a (List.mem_cons_of_mem _ z))
  | _, _, _, .dctF h ek hk hs, l, _ => .dctF (l _ _ h) ek (fun x hx => l.sqT (hk x hx)) (Rps.mono hs l fun _ z => nomatch z)
  | _, _, _, .dctO n h ek hk hs, l, k => .dctO (k _ (List.mem_cons_self ..)).1 ((k _ (List.mem_cons_self ..)).2.trans h) ek (fun x hx => l.sqT (hk x hx)) (Rps.mono hs l fun _ z => nomatch z)
theorem Rps.mono : ∀ {ds : List D} {vs : List V} {L : List Addr}, Rps K G H ds vs L → Le G G' → (∀ a ∈ L, G' a = none ∧ H' a = H a) → Rps K G' H' ds vs L
  | _, _, _, .nil, _, _ => .nil
  | _, _, _, .cons h hs, l, k => .cons (Rp.mono h l fun a z => k a (List.mem_append_left _ z)) (Rps.mono hs l fun a z => k a (List.mem_append_right _ z))
end
mutual
theorem Rp.pure_nil : ∀ {d : D} {v : V} {L : List Addr}, Rp K G H d v L → d.pure = true → L = []
  | _, _, _, .non, _ => rfl
  | _, _, _, .bl b, _ => rfl
  | _, _, _, .int i, _ => rfl
  | _, _, _, .str x, _ => rfl
  | _, _, _, .raw v, _ => rfl
  | _, _, _, .scr h, _ => rfl
  | _, _, _, .tup h hs, p => Rps.pure_nil hs (by simpa [D.pure] using p)
  | _, _, _, .lstF h hs, p => rfl
  | _, _, _, .lstO n h hs, p => by simp [D.pure] at p
  | _, _, _, .dctF _ _ _ _, p => rfl
  | _, _, _, .dctO _ _ _ _ _, p => by simp [D.pure] at p
theorem Rps.pure_nil : ∀ {ds : List D} {vs : List V} {L : List Addr}, Rps K G H ds vs L → D.pures ds = true → L = []
  | _, _, _, .nil, _ => rfl
  | _, _, _, .cons h hs, p => by
    simp only [D.pures, Bool.and_eq_true] at p
    rw [Rp.pure_nil h p.1, Rps.pure_nil hs p.2]; rfl
end
mutual
theorem Rp.own : ∀ {d : D} {v : V} {L : List Addr}, Rp K G H d v L → ∀ a ∈ L, G a = none ∧ H a ≠ none
  | _, _, _, .non, _, z => nomatch z
  | _, _, _, .bl b, _, z => nomatch z
  | _, _, _, .int i, _, z => nomatch z
  | _, _, _, .str x, _, z => nomatch z
  | _, _, _, .raw v, _, z => nomatch z
  | _, _, _, .scr _, _, z => nomatch z
  | _, _, _, .tup h hs, a, z => Rps.own hs a z
  | _, _, _, .lstF h hs, _, z => nomatch z
  | _, _, _, .lstO n h hs, a, z => by
    rcases List.mem_cons.mp z with e | e
    · subst e; exact ⟨n, by rw [h]; simp⟩
    · exact Rps.own hs a e
  | _, _, _, .dctF _ _ _ _, _, z => nomatch z
  | _, _, _, .dctO n h _ _ _, a, z => by
    obtain rfl := List.mem_singleton.mp z
    exact ⟨n, by rw [h]; simp⟩
theorem Rps.own : ∀ {ds : List D} {vs : List V} {L : List Addr}, Rps K G H ds vs L → ∀ a ∈ L, G a = none ∧ H a ≠ none
  | _, _, _, .nil, _, z => nomatch z
  | _, _, _, .cons h hs, a, z => (List.mem_append.mp z).elim (Rp.own h a) (Rps.own hs a)
end
mutual
theorem Rp.fz : ∀ {d : D} {v : V} {L : List Addr}, Rp K G H d v L → Le G G' → (∀ a ∈ L, G' a = H a) → Rp K G' H' d.fz v []
  | _, _, _, .non, _, _ => .non
  | _, _, _, .bl b, _, _ => .bl b
  | _, _, _, .int i, _, _ => .int i
  | _, _, _, .str x, _, _ => .str x
  | _, _, _, .raw v, _, _ => .raw v
  | _, _, _, .scr h, l, _ => .scr (l.sqL h)
  | _, _, _, .tup h hs, l, k => .tup (l.sqT h) (Rps.fz hs l k)
  | _, _, _, .lstF h hs, l, _ => .lstF (l _ _ h) (Rps.fz hs l fun _ z => nomatch z)
  | _, _, _, .lstO n h hs, l, k => .lstF ((k _ (List.mem_cons_self ..)).trans h) (Rps.fz hs l fun a z => k a (List.mem_cons_of_mem _ z))
  | _, _, _, .dctF h ek hk hs, l, _ => .dctF (l _ _ h) ek (fun x hx => l.sqT (hk x hx)) (Rps.fz hs l fun _ z => nomatch z)
  | _, _, _, .dctO n h ek hk hs, l, k => .dctF ((k _ (List.mem_cons_self ..)).trans h) ek (fun x hx => l.sqT (hk x hx)) (Rps.fz hs l fun _ z => nomatch z)
theorem Rps.fz : ∀ {ds : List D} {vs : List V} {L : List Addr}, Rps K G H ds vs L → Le G G' → (∀ a ∈ L, G' a = H a) → Rps K G' H' (D.fzs ds) vs []
  | _, _, _, .nil, _, _ => .nil
  | _, _, _, .cons h hs, l, k => .cons (L1 := []) (L2 := []) (Rp.fz h l fun a z => k a (List.mem_append_left _ z)) (Rps.fz hs l fun a z => k a (List.mem_append_right _ z))
end
theorem Rps.length : ∀ {ds : List D} {vs : List V} {L : List Addr}, Rps K G H ds vs L → ds.length = vs.length
  | _, _, _, .nil => rfl
  | _, _, _, .cons h hs => by simp [Rps.length hs]
theorem Rps.get : ∀ {ds : List D} {vs : List V} {L : List Addr} {i : Nat} {d : D}, Rps K G H ds vs L → ds[i]? = some d → ∃ v L1, vs[i]? = some v ∧ Rp K G H d v L1 ∧ L1.Sublist L
  | _, _, _, _, _, .nil, e => by simp at e
  | _, _, _, 0, _, .cons h hs, e => by
    simp at e; subst e
    exact ⟨_, _, rfl, h, List.sublist_append_left _ _⟩
  | _, _, _, i + 1, _, .cons h hs, e => by
    obtain ⟨v, L1, e1, r, s⟩ := Rps.get (i := i) hs (by simpa using e)
    exact ⟨v, L1, by simpa using e1, r, s.trans (List.sublist_append_right _ _)⟩
theorem Rps.getV : ∀ {ds : List D} {vs : List V} {L : List Addr} {i : Nat} {v : V}, Rps K G H ds vs L → vs[i]? = some v → ∃ d L1, ds[i]? = some d ∧ Rp K G H d v L1 ∧ L1.Sublist L
  | _, _, _, _, _, .nil, e => by simp at e
  | _, _, _, 0, _, .cons h hs, e => by
    simp at e; subst e
    exact ⟨_, _, rfl, h, List.sublist_append_left _ _⟩
  | _, _, _, i + 1, _, .cons h hs, e => by
    obtain ⟨v, L1, e1, r, s⟩ := Rps.getV (i := i) hs (by simpa using e)
    exact ⟨v, L1, by simpa using e1, r, s.trans (List.sublist_append_right _ _)⟩
theorem Rps.append : ∀ {ds ds' : List D} {vs vs' : List V} {L L' : List Addr}, Rps K G H ds vs L → Rps K G H ds' vs' L' → Rps K G H (ds ++ ds') (vs ++ vs') (L ++ L')
  | _, _, _, _, _, _, .nil, s => s
  | _, _, _, _, _, _, .cons h hs, s => by
    rw [List.append_assoc]; exact .cons h (Rps.append hs s)
/-- nothing owned: item by item -/
abbrev Rp0 (K : PySem.W.Frag) (G : Hp) (d : D) (v : V) : Prop := Rp K G G d v []
abbrev Rps0 (K : PySem.W.Frag) (G : Hp) (ds : List D) (vs : List V) : Prop := Rps K G G ds vs []
theorem Rp.un (h : Rp K G H d v []) : Rp K G H' d v [] := h.mono (Le.refl _) fun _ z => nomatch z
theorem Rps.un (h : Rps K G H ds vs []) : Rps K G H' ds vs [] := h.mono (Le.refl _) fun _ z => nomatch z
theorem Rps.take : ∀ {ds : List D} {vs : List V} (n : Nat), Rps K G H ds vs [] → Rps K G H (ds.take n) (vs.take n) []
  | _, _, 0, _ => by simpa using Rps.nil
  | [], _, n + 1, h => by cases h; exact .nil
  | d :: ds, _, n + 1, h => by
    generalize e : ([] : List Addr) = L at h
    cases h with
    | @cons d v ds vs L1 L2 h hs =>
      obtain ⟨rfl, rfl⟩ := List.append_eq_nil_iff.mp e.symm
      exact .cons (L1 := []) (L2 := []) h (Rps.take n hs)
theorem Rps.drop : ∀ {ds : List D} {vs : List V} (n : Nat), Rps K G H ds vs [] → Rps K G H (ds.drop n) (vs.drop n) []
  | _, _, 0, h => by simpa using h
  | [], _, n + 1, h => by cases h; exact .nil
  | d :: ds, _, n + 1, h => by
    generalize e : ([] : List Addr) = L at h
    cases h with
    | @cons d v ds vs L1 L2 h hs =>
      obtain ⟨rfl, rfl⟩ := List.append_eq_nil_iff.mp e.symm
      simpa using Rps.drop n hs
end

/-- one item owned L1 among those of L is replaced: what remains -/
theorem Rps.set {K : PySem.W.Frag} {G H : Hp} : ∀ {ds : List D} {vs : List V} {L : List Addr} {i : Nat} {d : D}, Rps K G H ds vs L → ds[i]? = some d →
    ∃ v La L1 Lb, L = La ++ L1 ++ Lb ∧ vs[i]? = some v ∧ Rp K G H d v L1 ∧ ∀ {G' H' : Hp} {d' : D} {v' : V} {L1' : List Addr}, Le G G' → (∀ a ∈ La ++ Lb, G' a = none ∧ H' a = H a) → Rp K G' H' d' v' L1' → Rps K G' H' (ds.set i d') (vs.set i v') (La ++ L1' ++ Lb)
  | _, _, _, _, _, .nil, e => by simp at e
  | _, _, _, 0, _, .cons (L1 := L1) (L2 := L2) h hs, e => by
    simp at e; subst e
    refine ⟨_, [], L1, L2, rfl, rfl, h, fun l k r => ?_⟩
    exact .cons r (hs.mono l fun a z => k a (by simpa using z))
  | _, _, _, i + 1, _, .cons (L1 := L0) (L2 := L2) h hs, e => by
    obtain ⟨v, La, L1, Lb, e0, e1, r, f⟩ := Rps.set (i := i) hs (by simpa using e)
    refine ⟨v, L0 ++ La, L1, Lb, by rw [e0]; simp, by simpa using e1, r, fun l k r' => ?_⟩
    have q := Rps.cons (h.mono l fun a z => k a (by simp [z])) (f l (fun a z => k a (by rcases List.mem_append.mp z with z | z <;> simp [z])) r')
    simpa using q

/-! ### slots -/
abbrev En := List (Option D)
section
variable (K : PySem.W.Frag)
inductive REnv (G H : Hp) : En → St → List Addr → Prop
  | nil : REnv G H [] [] []
  | non {o : Option V} {es : En} {σ : St} {L : List Addr} (hs : REnv G H es σ L) : REnv G H (none :: es) (o :: σ) L
  | val {d : D} {v : V} {es : En} {σ : St} {L1 L2 : List Addr} (h : Rp K G H d v L1) (hs : REnv G H es σ L2) : REnv G H (some d :: es) (some v :: σ) (L1 ++ L2)
end
section
variable {K : PySem.W.Frag} {G H G' H' : Hp}
theorem REnv.mono : ∀ {es : En} {σ : St} {L : List Addr}, REnv K G H es σ L → Le G G' → (∀ a ∈ L, G' a = none ∧ H' a = H a) → REnv K G' H' es σ L
  | _, _, _, .nil, _, _ => .nil
  | _, _, _, .non hs, l, k => .non (REnv.mono hs l k)
  | _, _, _, .val h hs, l, k => .val (h.mono l fun a z => k a (List.mem_append_left _ z)) (REnv.mono hs l fun a z => k a (List.mem_append_right _ z))
theorem REnv.own : ∀ {es : En} {σ : St} {L : List Addr}, REnv K G H es σ L → ∀ a ∈ L, G a = none ∧ H a ≠ none
  | _, _, _, .nil, _, z => nomatch z
  | _, _, _, .non hs, a, z => REnv.own hs a z
  | _, _, _, .val h hs, a, z => (List.mem_append.mp z).elim (h.own a) (REnv.own hs a)
theorem REnv.length : ∀ {es : En} {σ : St} {L : List Addr}, REnv K G H es σ L → es.length = σ.length
  | _, _, _, .nil => rfl
  | _, _, _, .non hs => by simp [REnv.length hs]
  | _, _, _, .val h hs => by simp [REnv.length hs]
/-- the i-th slot among the others -/
theorem REnv.at : ∀ {es : En} {σ : St} {L : List Addr} {i : Nat}, REnv K G H es σ L → i < es.length →
    ∃ La Li Lb, L = La ++ Li ++ Lb ∧ (∀ d, es[i]? = some (some d) → ∃ v, σ[i]? = some (some v) ∧ Rp K G H d v Li) ∧
      (∀ {G' H' : Hp}, Le G G' → (∀ a ∈ La ++ Lb, G' a = none ∧ H' a = H a) → (∀ {d' : D} {v' : V} {L' : List Addr}, Rp K G' H' d' v' L' → REnv K G' H' (es.set i (some d')) (σ.set i (some v')) (La ++ L' ++ Lb)) ∧ ∀ o : Option V, REnv K G' H' (es.set i none) (σ.set i o) (La ++ Lb))
  | _, _, _, _, .nil, h => by simp at h
  | _, _, _, 0, .non (L := L) hs, _ => by
    refine ⟨[], [], L, rfl, fun d e => by simp at e, fun l k => ⟨fun r => ?_, fun o => ?_⟩⟩
    · exact .val r (hs.mono l fun a z => k a (by simpa using z))
    · exact .non (hs.mono l fun a z => k a (by simpa using z))
  | _, _, _, 0, .val (L1 := L1) (L2 := L2) h hs, _ => by
    refine ⟨[], L1, L2, rfl, fun d e => ?_, fun l k => ⟨fun r => ?_, fun o => ?_⟩⟩
    · simp at e; subst e; exact ⟨_, rfl, h⟩
    · exact .val r (hs.mono l fun a z => k a (by simpa using z))
    · exact .non (hs.mono l fun a z => k a (by simpa using z))
  | _, _, _, i + 1, .non hs, hi => by
    obtain ⟨La, Li, Lb, e0, e1, f⟩ := REnv.at (i := i) hs (by simpa using hi)
    refine ⟨La, Li, Lb, e0, fun d e => e1 d (by simpa using e), fun l k => ⟨fun r => ?_, fun o => ?_⟩⟩
    · exact .non ((f l k).1 r)
    · exact .non ((f l k).2 o)
  | _, _, _, i + 1, .val (L1 := L0) h hs, hi => by
    obtain ⟨La, Li, Lb, e0, e1, f⟩ := REnv.at (i := i) hs (by simpa using hi)
    refine ⟨L0 ++ La, Li, Lb, by rw [e0]; simp, fun d e => e1 d (by simpa using e), fun l k => ?_⟩
    have k' : ∀ a ∈ La ++ Lb, _ := fun a z => k a (by rcases List.mem_append.mp z with z | z <;> simp [z])
    refine ⟨fun r => ?_, fun o => ?_⟩
    · have q := REnv.val (h.mono l fun a z => k a (by simp [z])) ((f l k').1 r)
      simpa using q
    · have q := REnv.val (h.mono l fun a z => k a (by simp [z])) ((f l k').2 o)
      simpa using q
end

/-! ### the change of a heap -/
structure Ext (L : List Addr) (G H G' H' : Hp) (L' : List Addr) : Prop where
  le : Le G G'
  fr : ∀ b, b ∉ L → H b ≠ none → H' b = H b
  gd : ∀ b, G' b ≠ none → G b ≠ none ∨ b ∈ L ∨ H b = none
  own : ∀ b ∈ L', b ∈ L ∨ H b = none
theorem Ext.refl {L L' : List Addr} {G H : Hp} (h : ∀ b ∈ L', b ∈ L) : Ext L G H G H L' := ⟨Le.refl _, fun _ _ _ => rfl, fun _ h => .inl h, fun b z => .inl (h b z)⟩
theorem Ext.trans {L L1 L1' L2 : List Addr} {G H G1 H1 G2 H2 : Hp} (a : Ext L G H G1 H1 L1) (b : Ext L1' G1 H1 G2 H2 L2) (s : ∀ x ∈ L1', x ∈ L ∨ H x = none) : Ext L G H G2 H2 L2 where
  le := a.le.trans b.le
  fr := fun x n h => by
    have e1 := a.fr x n h
    refine (b.fr x (fun z => ?_) (by rw [e1]; exact h)).trans e1
    rcases s x z with q | q
    · exact n q
    · exact h q
  gd := fun x h => by
    have out : H1 x = none → x ∈ L ∨ H x = none := fun q => by
      by_cases hx : x ∈ L
      · exact .inl hx
      · by_cases hh : H x = none
        · exact .inr hh
        · rw [a.fr x hx hh] at q; exact absurd q hh
    rcases b.gd x h with q | q | q
    · exact a.gd x q
    · exact .inr (s x q)
    · exact .inr (out q)
  own := fun x h => by
    rcases b.own x h with q | q
    · exact s x q
    · by_cases hx : x ∈ L
      · exact .inl hx
      · by_cases hh : H x = none
        · exact .inr hh
        · rw [a.fr x hx hh] at q; exact absurd q hh
theorem Ext.sub {L L' L'' : List Addr} {G H G' H' : Hp} (a : Ext L G H G' H' L') (s : ∀ x ∈ L'', x ∈ L ∨ H x = none) : Ext L G H G' H' L'' := ⟨a.le, a.fr, a.gd, s⟩
/-- what is owned beside stays -/
theorem Ext.keep {L L' : List Addr} {G H G' H' : Hp} (a : Ext L G H G' H' L') {b : Addr} (n : b ∉ L) (g : G b = none) (h : H b ≠ none) : G' b = none ∧ H' b = H b := by
  refine ⟨?_, a.fr b n h⟩
  cases q : G' b with
  | none => rfl
  | some o =>
    rcases a.gd b (by rw [q]; simp) with z | z | z
    · exact absurd g z
    · exact absurd z n
    · exact absurd z h
end Pz

set_option Elab.async false
set_option linter.all false
set_option maxRecDepth 100000
set_option maxHeartbeats 1000000
namespace Pz
open PySem L2

structure RSt (K : PySem.W.Frag) (σ : St) (G H : Hp) (env : En) (L : List Addr) : Prop where
  le : Le G H
  rep : REnv K G H env σ L
  nd : L.Nodup

/-- only new things came; Lr are new and owned -/
structure Fresh (G H G' H' : Hp) (Lr : List Addr) : Prop where
  le : Le G G'
  le' : Le G' H'
  ext : ∀ b, H b ≠ none → H' b = H b
  gd : ∀ b, G' b ≠ none → G b ≠ none ∨ H b = none
  nd : Lr.Nodup
  new : ∀ b ∈ Lr, H b = none
section
variable {K : PySem.W.Frag} {σ : St} {G H G' H' G1 H1 G2 H2 : Hp} {env e1 e2 : En} {L L' L1 L2 La Lb Lr : List Addr}
theorem Fresh.refl (l : Le G H) : Fresh G H G H [] := ⟨Le.refl _, l, fun _ _ => rfl, fun _ h => .inl h, List.nodup_nil, fun _ z => nomatch z⟩
theorem Fresh.keepOf (f : Fresh G H G' H' Lr) {b : Addr} (g : G b = none ∧ H b ≠ none) : G' b = none ∧ H' b = H b := by
  refine ⟨?_, f.ext b g.2⟩
  cases q : G' b with
  | none => rfl
  | some o =>
    rcases f.gd b (by rw [q]; simp) with z | z
    · exact absurd g.1 z
    · exact absurd z g.2
theorem RSt.fresh (R : RSt K σ G H env L) (f : Fresh G H G' H' Lr) : RSt K σ G' H' env L :=
  ⟨f.le', R.rep.mono f.le fun a z => f.keepOf (R.rep.own a z), R.nd⟩
theorem Rp.fresh {d : D} {v : V} (r : Rp K G H d v La) (f : Fresh G H G' H' Lr) : Rp K G' H' d v La := r.mono f.le fun a z => f.keepOf (r.own a z)
theorem Rps.fresh {d : List D} {v : List V} (r : Rps K G H d v La) (f : Fresh G H G' H' Lr) : Rps K G' H' d v La := r.mono f.le fun a z => f.keepOf (r.own a z)
theorem Fresh.ext' (f : Fresh G H G' H' Lr) (s : ∀ x ∈ L', x ∈ L ∨ H x = none) : Ext L G H G' H' L' :=
  ⟨f.le, fun b _ h => f.ext b h, fun b h => (f.gd b h).imp id fun z => .inr z, s⟩
theorem Fresh.nodup (f : Fresh G H G' H' Lr) (n : L.Nodup) (o : ∀ a ∈ L, H a ≠ none) : (L ++ Lr).Nodup :=
  List.nodup_append.mpr ⟨n, f.nd, fun a h b h' e => by subst e; exact o a h (f.new a h')⟩
/-- a tuple, a list, any object laid at a new address, for ever -/
theorem Fresh.laid (l : Le G H) {p : Addr} (n : H p = none) (o : HO) : Fresh G H (upd G p o) (upd H p o) [] := by
  refine ⟨fun a u e => ?_, fun a u e => ?_, fun b h => ?_, fun b h => ?_, List.nodup_nil, fun _ z => nomatch z⟩
  · rw [upd_ne (ne_of_none (l a u e) n)]; exact e
  · by_cases q : a = p
    · subst q; rw [upd_same] at e ⊢; exact e
    · rw [upd_ne q] at e ⊢; exact l a u e
  · exact upd_ne fun e => h (by rw [e]; exact n)
  · by_cases q : b = p
    · subst q; exact .inr n
    · rw [upd_ne q] at h; exact .inl h
/-- an owned list laid at a new address -/
theorem Fresh.lst (l : Le G H) {p : Addr} (n : H p = none) (o : HO) : Fresh G H G (upd H p o) [p] := by
  refine ⟨Le.refl _, fun a u e => ?_, fun b h => ?_, fun b h => .inl h, by simp, fun b z => ?_⟩
  · rw [upd_ne (ne_of_none (l a u e) n)]; exact l a u e
  · exact upd_ne fun e => h (by rw [e]; exact n)
  · rw [List.mem_singleton.mp z]; exact n
end

/-! ### expressions -/
/-- what the function F of the slots tells of an expression: own: its value is no one else's; st: nothing that stood was changed -/
def tE (K : PySem.W.Frag) (own st : Bool) (F : En → Option (D × En)) : TE := fun σ H Q => ∃ G env L, RSt K σ G H env L ∧ ∃ d env', F env = some (d, env') ∧
  ∀ v G' H' L' Lr, RSt K σ G' H' env' L' → Rp K G' H' d v Lr → (own = true → (L' ++ Lr).Nodup) → (st = true → env' = env ∧ L' = L ∧ ∀ b, H b ≠ none → H' b = H b) → Ext L G H G' H' (L' ++ Lr) → Q v H'
def tA (K : PySem.W.Frag) (own st : Bool) (F : En → Option (List D × En)) : TA := fun σ H Q => ∃ G env L, RSt K σ G H env L ∧ ∃ d env', F env = some (d, env') ∧
  ∀ v G' H' L' Lr, RSt K σ G' H' env' L' → Rps K G' H' d v Lr → (own = true → (L' ++ Lr).Nodup) → (st = true → env' = env ∧ L' = L ∧ ∀ b, H b ≠ none → H' b = H b) → Ext L G H G' H' (L' ++ Lr) → Q v H'
def tT (K : PySem.W.Frag) (st : Bool) (F : En → Option (Bool × En)) : TT := fun σ H Q => ∃ G env L, RSt K σ G H env L ∧ ∃ d env', F env = some (d, env') ∧
  ∀ G' H' L', RSt K σ G' H' env' L' → (st = true → env' = env ∧ L' = L ∧ ∀ b, H b ≠ none → H' b = H b) → Ext L G H G' H' L' → Q d H'
abbrev Ev (X : Cx) (own st : Bool) (e : Expr) (F : En → Option (D × En)) : Prop := PE X e (tE X.K own st F)
abbrev Av (X : Cx) (own st : Bool) (es : List Expr) (F : En → Option (List D × En)) : Prop := PA X es (tA X.K own st F)
abbrev Tv (X : Cx) (st : Bool) (e : Expr) (F : En → Option (Bool × En)) : Prop := PT X e (tT X.K st F)
/-- a test whatever its whole is -/
abbrev Wv (X : Cx) (st : Bool) (e : Expr) (F : En → Option (Bool × En)) : Prop := PW X e (tT X.K st F)
theorem peM {X : Cx} {e : Expr} {t u : TE} (h : PE X e t) (k : ∀ σ H Q, u σ H Q → t σ H Q) : PE X e u := ⟨fun pins s σ H Q I hw => h.run pins s σ H Q I (k σ H Q hw)⟩
theorem paM {X : Cx} {e : List Expr} {t u : TA} (h : PA X e t) (k : ∀ σ H Q, u σ H Q → t σ H Q) : PA X e u := ⟨fun pos pins s σ H Q I hw => h.run pos pins s σ H Q I (k σ H Q hw)⟩
theorem ptM {X : Cx} {e : Expr} {t u : TT} (h : PT X e t) (k : ∀ σ H Q, u σ H Q → t σ H Q) : PT X e u := ⟨fun pins s σ H Q I hw => h.run pins s σ H Q I (k σ H Q hw)⟩
theorem pwM {X : Cx} {e : Expr} {t u : TT} (h : PW X e t) (k : ∀ σ H Q, u σ H Q → t σ H Q) : PW X e u := ⟨fun w pins s σ H Q I hw => h.run w pins s σ H Q I (k σ H Q hw)⟩

section
variable {K : PySem.W.Frag} {σ : St} {G H G' H' G1 H1 G2 H2 : Hp} {env e1 e2 : En} {L L' L1 L2 La Lb Lr : List Addr}
/-- an earlier value (owned La) behind a later expression -/
theorem persist {o1 s2 : Bool} (hm : o1 = true ∨ s2 = true) (own : ∀ a ∈ La, G1 a = none ∧ H1 a ≠ none) (n1 : o1 = true → (L1 ++ La).Nodup) (R2 : RSt K σ G2 H2 e2 L2)
    (st2 : s2 = true → e2 = e1 ∧ L2 = L1 ∧ ∀ b, H1 b ≠ none → H2 b = H1 b) (x : Ext L1 G1 H1 G2 H2 L') : ∀ a ∈ La, G2 a = none ∧ H2 a = H1 a := fun a ha => by
  by_cases hl : a ∈ L1
  · rcases hm with h | h
    · exact absurd rfl ((List.nodup_append.mp (n1 h)).2.2 a hl a ha)
    · obtain ⟨_, e, k⟩ := st2 h
      exact ⟨(R2.rep.own a (by rw [e]; exact hl)).1, k a (own a ha).2⟩
  · exact x.keep hl (own a ha).1 (own a ha).2
theorem st_trans {s1 s2 : Bool} (a : s1 = true → e1 = env ∧ L1 = L ∧ ∀ b, H b ≠ none → H1 b = H b) (b : s2 = true → e2 = e1 ∧ L2 = L1 ∧ ∀ b, H1 b ≠ none → H2 b = H1 b) :
    (s1 && s2) = true → e2 = env ∧ L2 = L ∧ ∀ b, H b ≠ none → H2 b = H b := fun h => by
  obtain ⟨h1, h2⟩ := Bool.and_eq_true_iff.mp h
  obtain ⟨a1, a2, a3⟩ := a h1
  obtain ⟨b1, b2, b3⟩ := b h2
  exact ⟨b1.trans a1, b2.trans a2, fun x hx => (b3 x (by rw [a3 x hx]; exact hx)).trans (a3 x hx)⟩
theorem st_fresh {s : Bool} (a : s = true → e1 = env ∧ L1 = L ∧ ∀ b, H b ≠ none → H1 b = H b) (f : Fresh G1 H1 G2 H2 Lr) : s = true → e1 = env ∧ L1 = L ∧ ∀ b, H b ≠ none → H2 b = H b := fun h => by
  obtain ⟨a1, a2, a3⟩ := a h
  exact ⟨a1, a2, fun x hx => (f.ext x (by rw [a3 x hx]; exact hx)).trans (a3 x hx)⟩
/-- a fresh value behind it all -/
theorem ext_fresh (x : Ext L G H G1 H1 (L1 ++ La)) (f : Fresh G1 H1 G2 H2 Lr) : Ext L G H G2 H2 (L1 ++ Lr) := by
  refine x.trans (f.ext' (L := L1) fun a z => ?_) fun a z => x.own a (List.mem_append_left _ z)
  exact (List.mem_append.mp z).imp id (f.new a)
theorem ext_then (x : Ext L G H G1 H1 (L1 ++ La)) (y : Ext L1 G1 H1 G2 H2 L2) : Ext L G H G2 H2 L2 := x.trans y fun a z => x.own a (List.mem_append_left _ z)
theorem ext_two (x : Ext L G H G1 H1 (L1 ++ La)) (y : Ext L1 G1 H1 G2 H2 (L2 ++ Lb)) : Ext L G H G2 H2 (L2 ++ (La ++ Lb)) :=
  (ext_then x y).sub fun a z => by
    rcases List.mem_append.mp z with z | z
    · exact (ext_then x y).own a (List.mem_append_left _ z)
    · rcases List.mem_append.mp z with z | z
      · exact x.own a (List.mem_append_right _ z)
      · exact (ext_then x y).own a (List.mem_append_right _ z)
end

/-! ### coercions -/
def ownF (F : En → Option (D × En)) : En → Option (D × En) := fun env => (F env).bind fun r => if r.1.pure = true then some r else none
section
variable {X : Cx} {e : Expr} {F : En → Option (D × En)} {o st : Bool}
theorem ev_own (h : Ev X o st e F) : Ev X true st e (ownF F) := peM h fun σ H Q ⟨G, env, L, R, d, env', hf, k⟩ => by
  unfold ownF at hf
  cases q : F env with
  | none => rw [q] at hf; simp at hf
  | some r =>
    obtain ⟨d', e'⟩ := r
    rw [q] at hf
    simp only [Option.bind_some] at hf
    split at hf
    · rename_i hp
      cases hf
      refine ⟨G, env, L, R, d, env', q, fun v G' H' L' Lr R' r n s x => ?_⟩
      have z := r.pure_nil hp
      subst z
      exact k v G' H' L' [] R' r (fun _ => by simpa using R'.nd) s x
    · cases hf
theorem ev_view (h : Ev X true st e F) : Ev X false st e F := peM h fun σ H Q ⟨G, env, L, R, d, env', hf, k⟩ => ⟨G, env, L, R, d, env', hf, fun v G' H' L' Lr R' r n s x => k v G' H' L' Lr R' r (fun z => nomatch z) s x⟩
theorem ev_eff (h : Ev X o true e F) : Ev X o false e F := peM h fun σ H Q ⟨G, env, L, R, d, env', hf, k⟩ => ⟨G, env, L, R, d, env', hf, fun v G' H' L' Lr R' r n s x => k v G' H' L' Lr R' r n (fun z => nomatch z) x⟩
end

/-! ### constants and names -/
def cF (d : D) : En → Option (D × En) := fun env => some (d, env)
section
variable {X : Cx} {pos : Pos}
theorem ev_c {e : Expr} {d : D} {v : V} (h : PE X e (tC v)) (r : ∀ G H, Rp X.K G H d v []) : Ev X true true e (cF d) := peM h fun σ H Q ⟨G, env, L, R, d', env', hf, k⟩ => by
  cases hf
  exact k v G H L [] R (r G H) (fun _ => by simpa using R.nd) (fun _ => ⟨rfl, rfl, fun _ _ => rfl⟩) (Ext.refl fun b z => by simpa using z)
theorem ev_int {i j} : Ev X true true (.Constant (.int i) j pos) (cF (.int i)) := ev_c pe_int fun _ _ => .int i
theorem ev_bl {b j} : Ev X true true (.Constant (.bool b) j pos) (cF (.bl b)) := ev_c pe_bl fun _ _ => .bl b
theorem ev_non {j} : Ev X true true (.Constant .none j pos) (cF .non) := ev_c pe_non fun _ _ => .non
theorem ev_str {x j} : Ev X true true (.Constant (.str x) j pos) (cF (.str x)) := ev_c pe_str fun _ _ => .str x
/-- a module's constant -/
theorem ev_glob {x : Str} {d : D} {v : V} {u : Value} (hg : Gl X x) (hm : X.mg x = some u) (r : RelV v u) (k : ∀ G H, Rp X.K G H d v []) (hd : (x == ("__debug__" : Str)) = false := by decide) : Ev X true true (.Name x pos) (cF d) := ev_c (pe_glob hg hm r hd) k

def nmF (i : Nat) : En → Option (D × En) := fun env => (env[i]?).bind fun o => o.map fun d => (d, env)
/-- a name, looked at -/
theorem ev_look {i : Nat} {e : Expr} (h : PE X e (tVar i)) : Ev X false true e (nmF i) := peM h fun σ H Q ⟨G, env, L, R, d, env', hf, k⟩ => by
  unfold nmF at hf
  cases q : env[i]? with
  | none => rw [q] at hf; simp at hf
  | some o =>
    cases o with
    | none => rw [q] at hf; simp at hf
    | some d' =>
      rw [q] at hf
      simp only [Option.bind_some, Option.map_some, Option.some.injEq, Prod.mk.injEq] at hf
      obtain ⟨rfl, rfl⟩ := hf
      obtain ⟨hi, _⟩ := List.getElem?_eq_some_iff.mp q
      obtain ⟨La, Li, Lb, e0, f, _⟩ := R.rep.at hi
      obtain ⟨v, ev, r⟩ := f d' q
      refine ⟨v, ev, k v G H L Li R r (fun z => nomatch z) (fun _ => ⟨rfl, rfl, fun _ _ => rfl⟩) (Ext.refl fun b z => ?_)⟩
      rcases List.mem_append.mp z with z | z
      · exact z
      · rw [e0]; simp [z]
/-- a name whose value owns nothing -/
abbrev nmO (i : Nat) := ownF (nmF i)
theorem ev_name {i : Nat} {e : Expr} (h : PE X e (tVar i)) : Ev X true true e (nmO i) := ev_own (ev_look h)
/-- a name whose value is shared from now on: it may not be changed any more -/
def fzF (i : Nat) : En → Option (D × En) := fun env => (env[i]?).bind fun o => o.map fun d => (d.fz, env.set i (some d.fz))
def frG (G H : Hp) (L : List Addr) : Hp := fun a => if a ∈ L then H a else G a
theorem frG_in {G H : Hp} {L : List Addr} {a : Addr} (h : a ∈ L) : frG G H L a = H a := if_pos h
theorem frG_out {G H : Hp} {L : List Addr} {a : Addr} (h : a ∉ L) : frG G H L a = G a := if_neg h
theorem frG_le {G H : Hp} {L : List Addr} (l : Le G H) : Le G (frG G H L) := fun a o e => by
  by_cases h : a ∈ L
  · rw [frG_in h]; exact l a o e
  · rw [frG_out h]; exact e
theorem frG_le' {G H : Hp} {L : List Addr} (l : Le G H) : Le (frG G H L) H := fun a o e => by
  by_cases h : a ∈ L
  · rw [frG_in h] at e; exact e
  · rw [frG_out h] at e; exact l a o e
theorem ev_share {i : Nat} {e : Expr} (h : PE X e (tVar i)) : Ev X true false e (fzF i) := peM h fun σ H Q ⟨G, env, L, R, d, env', hf, k⟩ => by
  unfold fzF at hf
  cases q : env[i]? with
  | none => rw [q] at hf; simp at hf
  | some o =>
    cases o with
    | none => rw [q] at hf; simp at hf
    | some d' =>
      rw [q] at hf
      simp only [Option.bind_some, Option.map_some, Option.some.injEq, Prod.mk.injEq] at hf
      obtain ⟨rfl, rfl⟩ := hf
      obtain ⟨hi, _⟩ := List.getElem?_eq_some_iff.mp q
      obtain ⟨La, Li, Lb, e0, f, g⟩ := R.rep.at hi
      obtain ⟨v, ev, r⟩ := f d' q
      have nd : (La ++ Li ++ Lb).Nodup := e0 ▸ R.nd
      have out : ∀ a ∈ La ++ Lb, a ∉ Li := fun a z y => by
        have nd1 := List.nodup_append.mp nd
        rcases List.mem_append.mp z with z | z
        · exact (List.nodup_append.mp nd1.1).2.2 a z a y rfl
        · exact nd1.2.2 a (List.mem_append_right _ y) a z rfl
      have r' : Rp X.K (frG G H Li) H d'.fz v [] := r.fz (frG_le R.le) fun a z => frG_in z
      have g' := ((g (G' := frG G H Li) (H' := H) (frG_le R.le) fun a z => ⟨by rw [frG_out (out a z)]; exact (R.rep.own a (by rw [e0]; rcases List.mem_append.mp z with z | z <;> simp [z])).1, rfl⟩).1 r')
      have eσ : σ.set i (some v) = σ := by
        refine List.ext_getElem? fun j => ?_
        by_cases hj : i = j
        · subst hj
          obtain ⟨hl, _⟩ := List.getElem?_eq_some_iff.mp ev
          rw [List.getElem?_set_self hl, ev]
        · rw [List.getElem?_set_ne hj]
      rw [eσ] at g'
      refine ⟨v, ev, k v (frG G H Li) H (La ++ [] ++ Lb) [] ⟨frG_le' R.le, g', ?_⟩ r' (fun _ => ?_) (fun z => nomatch z) ⟨frG_le R.le, fun _ _ _ => rfl, fun b hb => ?_, fun b hb => ?_⟩⟩
      · exact nd.sublist (by simp)
      · rw [List.append_nil]; exact nd.sublist (by simp)
      · by_cases hx : b ∈ Li
        · exact .inr (.inl (by rw [e0]; simp [hx]))
        · rw [frG_out hx] at hb; exact .inl hb
      · refine .inl ?_
        rw [e0]
        simp at hb ⊢
        rcases hb with z | z <;> simp [z]
end

/-! ### operators -/
/-- a two-place operation on values is told by f -/
def Op2 (K : PySem.W.Frag) (r : R2) (f : D → D → Option D) : Prop := ∀ {G H : Hp} {a b c : D} {x y : V} {La Lb : List Addr} {Q : VK}, Le G H → Rp K G H a x La → Rp K G H b y Lb → f a b = some c →
  (∀ v G' H' Lr, Fresh G H G' H' Lr → Rp K G' H' c v Lr → Q v H') → r x y H Q
def Op1 (K : PySem.W.Frag) (r : V → Hp → VK → Prop) (f : D → Option D) : Prop := ∀ {G H : Hp} {a c : D} {x : V} {La : List Addr} {Q : VK}, Le G H → Rp K G H a x La → f a = some c →
  (∀ v G' H' Lr, Fresh G H G' H' Lr → Rp K G' H' c v Lr → Q v H') → r x H Q
def OpN (K : PySem.W.Frag) (r : List V → Hp → VK → Prop) (f : List D → Option D) : Prop := ∀ {G H : Hp} {a : List D} {c : D} {x : List V} {La : List Addr} {Q : VK}, Le G H → Rps K G H a x La → f a = some c →
  (∀ v G' H' Lr, Fresh G H G' H' Lr → Rp K G' H' c v Lr → Q v H') → r x H Q
def b2 (f : D → D → Option D) (FA FB : En → Option (D × En)) : En → Option (D × En) := fun env => (FA env).bind fun a => (FB a.2).bind fun b => (f a.1 b.1).map fun c => (c, b.2)
def b1 (f : D → Option D) (FA : En → Option (D × En)) : En → Option (D × En) := fun env => (FA env).bind fun a => (f a.1).map fun c => (c, a.2)
def bN (f : List D → Option D) (FA : En → Option (List D × En)) : En → Option (D × En) := fun env => (FA env).bind fun a => (f a.1).map fun c => (c, a.2)
theorem b2_some {f : D → D → Option D} {FA FB : En → Option (D × En)} {env env' : En} {d : D} (h : b2 f FA FB env = some (d, env')) : ∃ a e1 b, FA env = some (a, e1) ∧ FB e1 = some (b, env') ∧ f a b = some d := by
  unfold b2 at h
  cases q : FA env with
  | none => rw [q] at h; simp at h
  | some a =>
    rw [q] at h; simp only [Option.bind_some] at h
    cases q2 : FB a.2 with
    | none => rw [q2] at h; simp at h
    | some b =>
      rw [q2] at h; simp only [Option.bind_some] at h
      cases q3 : f a.1 b.1 with
      | none => rw [q3] at h; simp at h
      | some c => rw [q3] at h; simp at h; obtain ⟨rfl, rfl⟩ := h; exact ⟨a.1, a.2, b.1, rfl, q2, q3⟩
theorem b1_some {f : D → Option D} {FA : En → Option (D × En)} {env env' : En} {d : D} (h : b1 f FA env = some (d, env')) : ∃ a, FA env = some (a, env') ∧ f a = some d := by
  unfold b1 at h
  cases q : FA env with
  | none => rw [q] at h; simp at h
  | some a =>
    rw [q] at h; simp only [Option.bind_some] at h
    cases q3 : f a.1 with
    | none => rw [q3] at h; simp at h
    | some c => rw [q3] at h; simp at h; obtain ⟨rfl, rfl⟩ := h; exact ⟨a.1, rfl, q3⟩
theorem bN_some {f : List D → Option D} {FA : En → Option (List D × En)} {env env' : En} {d : D} (h : bN f FA env = some (d, env')) : ∃ a, FA env = some (a, env') ∧ f a = some d := by
  unfold bN at h
  cases q : FA env with
  | none => rw [q] at h; simp at h
  | some a =>
    rw [q] at h; simp only [Option.bind_some] at h
    cases q3 : f a.1 with
    | none => rw [q3] at h; simp at h
    | some c => rw [q3] at h; simp at h; obtain ⟨rfl, rfl⟩ := h; exact ⟨a.1, rfl, q3⟩
section
variable {X : Cx} {a b : Expr} {FA FB : En → Option (D × En)} {o1 o2 s1 s2 : Bool} {pos : Pos}
theorem op2_lift {r : R2} {f : D → D → Option D} (ho : Op2 X.K r f) (hm : o1 = true ∨ s2 = true) (σ : St) (H : Hp) (Q : VK) (h : tE X.K true (s1 && s2) (b2 f FA FB) σ H Q) : tOp r (tE X.K o1 s1 FA) (tE X.K o2 s2 FB) σ H Q := by
  obtain ⟨G, env, L, R, d, env', hf, k⟩ := h
  obtain ⟨da, e1, db, h1, h2, h3⟩ := b2_some hf
  refine ⟨G, env, L, R, da, e1, h1, fun x G1 H1 L1 La R1 ra n1 st1 x1 => ⟨G1, e1, L1, R1, db, env', h2, fun y G2 H2 L2 Lb R2 rb n2 st2 x2 => ?_⟩⟩
  have ra2 : Rp X.K G2 H2 da x La := ra.mono x2.le (persist hm ra.own n1 R2 st2 x2)
  refine ho R2.le ra2 rb h3 fun v G3 H3 Lr fr rc => ?_
  exact k v G3 H3 L2 Lr (R2.fresh fr) rc (fun _ => fr.nodup R2.nd fun a z => (R2.rep.own a z).2) (st_fresh (st_trans st1 st2) fr) (ext_fresh (ext_then x1 x2) fr)
theorem op1_lift {r : V → Hp → VK → Prop} {f : D → Option D} (ho : Op1 X.K r f) (σ : St) (H : Hp) (Q : VK) (h : tE X.K true s1 (b1 f FA) σ H Q) : tUn r (tE X.K o1 s1 FA) σ H Q := by
  obtain ⟨G, env, L, R, d, env', hf, k⟩ := h
  obtain ⟨da, h1, h3⟩ := b1_some hf
  refine ⟨G, env, L, R, da, env', h1, fun x G1 H1 L1 La R1 ra n1 st1 x1 => ho R1.le ra h3 fun v G3 H3 Lr fr rc => ?_⟩
  exact k v G3 H3 L1 Lr (R1.fresh fr) rc (fun _ => fr.nodup R1.nd fun a z => (R1.rep.own a z).2) (st_fresh st1 fr) (ext_fresh x1 fr)
theorem ev_bin {op : Operator} {r : R2} {f : D → D → Option D} (hr : OpR X (binaryOp op) r) (ho : Op2 X.K r f) (ha : Ev X o1 s1 a FA) (hb : Ev X o2 s2 b FB) (hm : o1 = true ∨ s2 = true := by first | exact .inl rfl | exact .inr rfl) :
    Ev X true (s1 && s2) (.BinOp a op b pos) (b2 f FA FB) := peM (pe_op hr ha hb) (op2_lift ho hm)
theorem ev_un {op : UnaryOp} {r : V → Hp → VK → Prop} {f : D → Option D} (hr : UnR X (unaryOp op) r) (ho : Op1 X.K r f) (ha : Ev X o1 s1 a FA) : Ev X true s1 (.UnaryOp op a pos) (b1 f FA) := peM (pe_un hr ha) (op1_lift ho)
theorem ev_cmp {op : CmpOp} {r : R2} {f : D → D → Option D} (hr : OpR X (compareOp op) r) (ho : Op2 X.K r f) (ha : Ev X o1 s1 a FA) (hb : Ev X o2 s2 b FB) (hk : behindInMarks op b = false)
    (hm : o1 = true ∨ s2 = true := by first | exact .inl rfl | exact .inr rfl) : Ev X true (s1 && s2) (.Compare a [op] [b] pos) (b2 f FA FB) := peM (pe_cmpR hr ha hb hk) (op2_lift ho hm)
theorem ev_ix {r : R2} {f : D → D → Option D} (hr : IxR X r) (ho : Op2 X.K r f) (ha : Ev X o1 s1 a FA) (hb : Ev X o2 s2 b FB) (hs : PlainIx b)
    (hm : o1 = true ∨ s2 = true := by first | exact .inl rfl | exact .inr rfl) : Ev X true (s1 && s2) (.Subscript a b pos) (b2 f FA FB) := peM (pe_ix hr ha hb hs) (op2_lift ho hm)
end
end Pz

set_option Elab.async false
set_option linter.all false
set_option maxRecDepth 100000
set_option maxHeartbeats 1000000
namespace Pz
open PySem L2

/-! ### a value as data (for ==) -/
mutual
def D.py : D → PyData
  | .non => .none | .bl b => .bool b | .int i => .int i | .str x => .str x | .raw _ => .dict []
  | .scr ns => .list (ns.map .int)
  | .tup xs => .tuple (D.pys xs)
  | .lst _ xs => .list (D.pys xs)
  | .dct _ _ _ => .dict []
def D.pys : List D → List PyData
  | [] => []
  | x :: xs => x.py :: D.pys xs
end
def shp (d : D) : Bool := SeqAt.shaped d.py
section
variable {K : PySem.W.Frag} {G H G' H' : Hp}
theorem canLayAll_cons {x : PyData} {xs : List PyData} (h : PyData.canLayAll0 (x :: xs) = true) : x.canLay0 = true ∧ PyData.canLayAll0 xs = true := by simpa [PyData.canLayAll0] using h
theorem dpAll_ints : ∀ ns : List Int, DpAll K H (ns.map V.int) (ns.map PyData.int)
  | [] => .nil
  | n :: ns => .cons (.int n) (dpAll_ints ns)
mutual
theorem Rp.dp : ∀ {d : D} {v : V} {L : List Addr}, Rp K G H d v L → Le G H → d.py.canLay0 = true → Dp K H v d.py
  | _, _, _, .non, _, _ => .non
  | _, _, _, .bl b, _, _ => .bl b
  | _, _, _, .int i, _, _ => .int i
  | _, _, _, .str x, _, _ => .str x
  | _, _, _, .raw v, _, c => by simp [D.py, PyData.canLay0] at c
  | _, _, _, .scr h, l, _ => .lst (l.sqL h) (dpAll_ints _)
  | _, _, _, .tup h hs, l, c => .tup (l.sqT h) (Rps.dp hs l (by simpa [D.py, PyData.canLay0] using c))
  | _, _, _, .lstF h hs, l, c => .lst (SqL.of (l _ _ h)) (Rps.dp hs l (by simpa [D.py, PyData.canLay0] using c))
  | _, _, _, .lstO _ h hs, l, c => .lst (SqL.of h) (Rps.dp hs l (by simpa [D.py, PyData.canLay0] using c))
  | _, _, _, .dctF _ _ _ _, l, c => by simp [D.py, PyData.canLay0] at c
  | _, _, _, .dctO _ _ _ _ _, l, c => by simp [D.py, PyData.canLay0] at c
theorem Rps.dp : ∀ {d : List D} {v : List V} {L : List Addr}, Rps K G H d v L → Le G H → PyData.canLayAll0 (D.pys d) = true → DpAll K H v (D.pys d)
  | _, _, _, .nil, _, _ => .nil
  | _, _, _, .cons h hs, l, c => .cons (Rp.dp h l (canLayAll_cons c).1) (Rps.dp hs l (canLayAll_cons c).2)
end
theorem Rp.dps {d : D} {v : V} {L : List Addr} (r : Rp K G H d v L) (l : Le G H) (h : shp d = true) : Dp K H v d.py := r.dp l (SeqAt.canLay_of_shaped h)
/-- the answer is a new scalar -/
theorem fin {d : D} {v : V} {Q : VK} {G : Hp} (l : Le G H) (h : ∀ v' G' H' Lr, Fresh G H G' H' Lr → Rp K G' H' d v' Lr → Q v' H') (r : Rp K G H d v []) : Q v H := h v G H [] (Fresh.refl l) r

/-! ### inversions -/
theorem Rp.int_inv {i : Int} {v : V} {L : List Addr} (r : Rp K G H (.int i) v L) : v = .int i ∧ L = [] := by cases r; exact ⟨rfl, rfl⟩
theorem Rp.bl_inv {i : Bool} {v : V} {L : List Addr} (r : Rp K G H (.bl i) v L) : v = .bl i ∧ L = [] := by cases r; exact ⟨rfl, rfl⟩
theorem Rp.str_inv {i : Str} {v : V} {L : List Addr} (r : Rp K G H (.str i) v L) : v = .str i ∧ L = [] := by cases r; exact ⟨rfl, rfl⟩
theorem Rp.raw_inv {i : V} {v : V} {L : List Addr} (r : Rp K G H (.raw i) v L) : v = i ∧ L = [] := by cases r; exact ⟨rfl, rfl⟩
theorem Rp.non_inv {v : V} {L : List Addr} (r : Rp K G H .non v L) : v = .non ∧ L = [] := by cases r; exact ⟨rfl, rfl⟩
theorem Rp.scr_inv {ns : List Int} {v : V} {L : List Addr} (r : Rp K G H (.scr ns) v L) : ∃ a, v = .ref a ∧ L = [] ∧ SqL K G a (ns.map V.int) := by cases r with | scr h => exact ⟨_, rfl, rfl, h⟩
theorem Rp.tup_inv {ds : List D} {v : V} {L : List Addr} (r : Rp K G H (.tup ds) v L) : ∃ a vs, v = .ref a ∧ SqT K G a vs ∧ Rps K G H ds vs L := by cases r with | tup h hs => exact ⟨_, _, rfl, h, hs⟩
/-- a list as it is read, whoever owns it -/
theorem Rp.lst_inv {o : Bool} {ds : List D} {v : V} {L : List Addr} (l : Le G H) (r : Rp K G H (.lst o ds) v L) : ∃ a vs L1, v = .ref a ∧ H a = some (.lst vs) ∧ Rps K G H ds vs L1 ∧ ∀ x ∈ L1, x ∈ L := by
  cases r with
  | lstF h hs => exact ⟨_, _, _, rfl, l _ _ h, hs, fun _ z => nomatch z⟩
  | lstO _ h hs => exact ⟨_, _, _, rfl, h, hs, fun _ z => List.mem_cons_of_mem _ z⟩
theorem Rps.ints : ∀ (ns : List Int), Rps K G H (ns.map D.int) (ns.map V.int) []
  | [] => .nil
  | n :: ns => .cons (L1 := []) (L2 := []) (.int n) (Rps.ints ns)
theorem Rps.ints_inv : ∀ {ns : List Int} {vs : List V} {L : List Addr}, Rps K G H (ns.map D.int) vs L → vs = ns.map V.int ∧ L = []
  | [], _, _, h => by cases h; exact ⟨rfl, rfl⟩
  | n :: ns, _, _, h => by
    cases h with
    | cons h hs =>
      obtain ⟨rfl, rfl⟩ := h.int_inv
      obtain ⟨rfl, rfl⟩ := Rps.ints_inv hs
      exact ⟨rfl, rfl⟩
end
/-- all items are ints -/
def intsOf : List D → Option (List Int)
  | [] => some []
  | .int i :: r => (intsOf r).map (i :: ·)
  | _ :: _ => none
theorem intsOf_eq : ∀ {ds : List D} {ns : List Int}, intsOf ds = some ns → ds = ns.map D.int
  | [], _, h => by cases h; rfl
  | d :: r, ns, h => by
    cases d <;> simp only [intsOf] at h <;> try (cases h)
    rename_i i
    cases q : intsOf r with
    | none => rw [q] at h; cases h
    | some ms =>
      rw [q] at h; cases h
      rw [intsOf_eq q]; rfl
theorem intsOf_map : ∀ ns : List Int, intsOf (ns.map D.int) = some ns
  | [] => rfl
  | n :: ns => by simp [intsOf, intsOf_map ns]

/-! ### arithmetic -/
/-- a test that no reckoning looks into -/
noncomputable def tst (p : Prop) : Bool := @decide p (Classical.propDecidable p)
theorem tst_of {p : Prop} (h : p) : tst p = true := @decide_eq_true p (Classical.propDecidable p) h
theorem of_tst {p : Prop} (h : tst p = true) : p := @of_decide_eq_true p (Classical.propDecidable p) h
noncomputable section
def lineOk (n : Nat) : Bool := tst (n ≤ 16777216)
theorem lineOk_le {n : Nat} (h : lineOk n = true) : n ≤ sizeLine := by rw [sizeLine_eq]; exact of_tst h
def mulOk (i j : Int) : Bool := tst (CMul i j ∨ CMulW i j)
theorem mulOk_r {i j : Int} (h : j.natAbs < 2 ^ 64) : mulOk i j = true := tst_of (.inl (.inr (by omega)))
theorem mulOk_l {i j : Int} (h : i.natAbs < 2 ^ 64) : mulOk i j = true := tst_of (.inl (.inl (by omega)))
theorem mulOk_of {i j : Int} {a b : Nat} (ha : i.natAbs < 2 ^ a) (hb : j.natAbs < 2 ^ b) (h : a + b < 1000000 := by decide) : mulOk i j = true := by
  refine tst_of (.inr ?_)
  show _ + _ < 1000000
  have h0 : 0 < a ∨ 0 < b ∨ (a = 0 ∧ b = 0) := by omega
  by_cases ia : a = 0
  · subst ia
    have : i.natAbs = 0 := by simpa using ha
    rw [this]
    by_cases ib : b = 0
    · subst ib
      have : j.natAbs = 0 := by simpa using hb
      rw [this]; decide
    · have := PySem.Flt.log2_lt_of (by omega : 0 < b) hb
      have e : (0 : Nat).log2 = 0 := by decide
      omega
  · have ea := PySem.Flt.log2_lt_of (by omega : 0 < a) ha
    by_cases ib : b = 0
    · subst ib
      have : j.natAbs = 0 := by simpa using hb
      rw [this]
      have e : (0 : Nat).log2 = 0 := by decide
      omega
    · have := PySem.Flt.log2_lt_of (by omega : 0 < b) hb
      omega
def divOk (j : Int) : Bool := tst (j ≠ 0 ∧ j.natAbs.log2 < 9000)
theorem divOk_of {j : Int} {b : Nat} (h : j ≠ 0) (hb : j.natAbs < 2 ^ b) (h9 : b ≤ 9000 := by decide) : divOk j = true := by
  unfold divOk
  have : 0 < b := by
    rcases Nat.eq_zero_or_pos b with e | e
    · subst e; simp at hb; omega
    · exact e
  have := PySem.Flt.log2_lt_of this hb
  exact tst_of ⟨h, by omega⟩
def dAdd : D → D → Option D
  | .int i, .int j => some (.int (i + j))
  | .str x, .str y => if lineOk (x.length + y.length) = true then some (.str (x ++ y)) else none
  | .tup a, .tup b => if D.pures a = true ∧ D.pures b = true ∧ lineOk (a.length + b.length) = true then some (.tup (a ++ b)) else none
  | .lst _ a, .lst _ b => if D.pures a = true ∧ D.pures b = true ∧ lineOk (a.length + b.length) = true then some (.lst true (a ++ b)) else none
  | _, _ => none
def dSub : D → D → Option D
  | .int i, .int j => some (.int (i - j))
  | _, _ => none
def dMul : D → D → Option D
  | .int i, .int j => if mulOk i j = true then some (.int (i * j)) else none
  | _, _ => none
def dDiv : D → D → Option D
  | .int i, .int j => if divOk j = true then some (.int (i.fdiv j)) else none
  | _, _ => none
def dMod : D → D → Option D
  | .int i, .int j => if j ≠ 0 then some (.int (i.fmod j)) else none
  | _, _ => none
def powOk (i j : Int) : Bool := tst (0 ≤ j ∧ j ≤ 1000000 ∧ i.natAbs < 2 ^ 64)
def dPow : D → D → Option D
  | .int i, .int j => if powOk i j = true then some (.int (i ^ j.toNat)) else none
  | _, _ => none
def dNeg : D → Option D
  | .int i => some (.int (-i))
  | _ => none
abbrev rAddX (K : PySem.W.Frag) : R2 := fun x y H Q => (rI0 fun i j => .int (i + j)) x y H Q ∨ ((∃ i j, x = .str i ∧ y = .str j ∧ i.length + j.length ≤ sizeLine ∧ Q (.str (i ++ j)) H) ∨ (rCatA K x y H Q ∨ rCat x y H Q))
section
variable {X : Cx} {K : PySem.W.Frag}
theorem opr_add : OpR X (binaryOp .Add) (rAddX X.K) := op_add.or (op_add_str.or (op_catA.or op_cat))
theorem o2_add : Op2 K (rAddX K) dAdd := by
  intro G H a b c x y La Lb Q l ra rb e k
  unfold dAdd at e
  split at e
  · obtain ⟨rfl, _⟩ := ra.int_inv
    obtain ⟨rfl, _⟩ := rb.int_inv
    cases e
    exact .inl ⟨_, _, rfl, rfl, fin l k (.int _)⟩
  · obtain ⟨rfl, _⟩ := ra.str_inv
    obtain ⟨rfl, _⟩ := rb.str_inv
    split at e
    · rename_i h
      cases e
      exact .inr (.inl ⟨_, _, rfl, rfl, lineOk_le h, fin l k (.str _)⟩)
    · cases e
  · split at e
    · rename_i h
      cases e
      obtain ⟨p, vs, rfl, sa, qa⟩ := ra.tup_inv
      obtain ⟨q, ws, rfl, sb, qb⟩ := rb.tup_inv
      obtain rfl := qa.pure_nil h.1
      obtain rfl := qb.pure_nil h.2.1
      have ha := qa.length
      have hb := qb.length
      refine .inr (.inr (.inl ⟨p, q, vs, ws, rfl, rfl, l.sqT sa, l.sqT sb, by rw [← ha, ← hb]; exact lineOk_le h.2.2, fun z => ?_, fun z1 z2 => ?_, fun z1 z2 t nt => ?_⟩))
      · subst z
        have z : _ = [] := List.length_eq_zero_iff.mp (by simpa using ha)
        rw [z] at k
        exact fin l k (.tup sb (by simpa using qb))
      · subst z2
        have z : _ = [] := List.length_eq_zero_iff.mp (by simpa using hb)
        rw [z] at k
        exact fin l k (by rw [List.append_nil]; exact .tup sa qa)
      · have f := Fresh.laid l nt (.tup (vs ++ ws))
        exact k _ _ _ _ f (.tup (.inl (.inl upd_same)) (by simpa using (qa.append qb).fresh f))
    · cases e
  · split at e
    · rename_i h
      cases e
      obtain ⟨p, vs, L1, rfl, sa, qa, _⟩ := ra.lst_inv l
      obtain ⟨q, ws, L2, rfl, sb, qb, _⟩ := rb.lst_inv l
      obtain rfl := qa.pure_nil h.1
      obtain rfl := qb.pure_nil h.2.1
      have ha := qa.length
      have hb := qb.length
      refine .inr (.inr (.inr ⟨p, q, vs, ws, rfl, rfl, sa, sb, by rw [← ha, ← hb]; exact lineOk_le h.2.2, fun t nt => ?_⟩))
      have f := Fresh.lst l nt (.lst (vs ++ ws))
      exact k _ _ _ _ f (.lstO (l.none nt) upd_same (by simpa using (qa.append qb).fresh f))
    · cases e
  · cases e
/-- ints in, an int out -/
theorem o2_int {C : Int → Int → Prop} {g : Int → Int → Int} {f : D → D → Option D} (h : ∀ a b c, f a b = some c → ∃ i j, a = .int i ∧ b = .int j ∧ C i j ∧ c = .int (g i j)) : Op2 K (rI C fun i j => .int (g i j)) f := by
  intro G H a b c x y La Lb Q l ra rb e k
  obtain ⟨i, j, rfl, rfl, hc, rfl⟩ := h a b c e
  obtain ⟨rfl, _⟩ := ra.int_inv
  obtain ⟨rfl, _⟩ := rb.int_inv
  exact ⟨_, _, rfl, rfl, hc, fin l k (.int _)⟩
theorem o2_int0 {g : Int → Int → Int} {f : D → D → Option D} (h : ∀ a b c, f a b = some c → ∃ i j, a = .int i ∧ b = .int j ∧ c = .int (g i j)) : Op2 K (rI0 fun i j => .int (g i j)) f := by
  intro G H a b c x y La Lb Q l ra rb e k
  obtain ⟨i, j, rfl, rfl, rfl⟩ := h a b c e
  obtain ⟨rfl, _⟩ := ra.int_inv
  obtain ⟨rfl, _⟩ := rb.int_inv
  exact ⟨_, _, rfl, rfl, fin l k (.int _)⟩
theorem o2_intB {g : Int → Int → Bool} {f : D → D → Option D} (h : ∀ a b c, f a b = some c → ∃ i j, a = .int i ∧ b = .int j ∧ c = .bl (g i j)) : Op2 K (rI0 fun i j => .bl (g i j)) f := by
  intro G H a b c x y La Lb Q l ra rb e k
  obtain ⟨i, j, rfl, rfl, rfl⟩ := h a b c e
  obtain ⟨rfl, _⟩ := ra.int_inv
  obtain ⟨rfl, _⟩ := rb.int_inv
  exact ⟨_, _, rfl, rfl, fin l k (.bl _)⟩
theorem o2_sub : Op2 K (rI0 fun i j => .int (i - j)) dSub := o2_int0 fun a b c e => by
  unfold dSub at e; split at e <;> cases e; exact ⟨_, _, rfl, rfl, rfl⟩
theorem op_mulZ : OpR X (binaryOp .Mult) (rI (fun i j => CMul i j ∨ CMulW i j) fun i j => .int (i * j)) := opI fun _ _ _ _ _ _ _ hc q => PyProof.Rows.mul_int q (hc.elim CMul.ok CMulW.ok)
theorem iop_mulZ : OpR X (inplaceOp .Mult) (rI (fun i j => CMul i j ∨ CMulW i j) fun i j => .int (i * j)) := opI fun _ _ _ _ _ _ _ hc q => PyProof.Rows.imul_int q (hc.elim CMul.ok CMulW.ok)
theorem o2_mul : Op2 K (rI (fun i j => CMul i j ∨ CMulW i j) fun i j => .int (i * j)) dMul := o2_int fun a b c e => by
  unfold dMul at e; split at e
  · split at e
    · rename_i h; cases e; 
      exact ⟨_, _, rfl, rfl, of_tst h, rfl⟩
    · cases e
  · cases e
def CDivX (_ j : Int) : Prop := j ≠ 0 ∧ j.natAbs.log2 < 9000
theorem op_fdivX : OpR X (binaryOp .FloorDiv) (rI CDivX fun i j => .int (i.fdiv j)) := opI fun _ _ _ _ _ _ _ hc q => PyProof.Rows.floordiv_int hc.1 q (.inl (PyProof.noPylong_of_log2 hc.2))
theorem iop_fdivX : OpR X (inplaceOp .FloorDiv) (rI CDivX fun i j => .int (i.fdiv j)) := opI fun _ _ _ _ _ _ _ hc q => PyProof.Rows.ifloordiv_int hc.1 q (.inl (PyProof.noPylong_of_log2 hc.2))
theorem o2_div : Op2 K (rI CDivX fun i j => .int (i.fdiv j)) dDiv := o2_int fun a b c e => by
  unfold dDiv at e; split at e
  · split at e
    · rename_i h; cases e
      exact ⟨_, _, rfl, rfl, of_tst (p := _ ≠ 0 ∧ _) h, rfl⟩
    · cases e
  · cases e
theorem o2_mod : Op2 K (rI (fun _ j => j ≠ 0) fun i j => .int (i.fmod j)) dMod := o2_int fun a b c e => by
  unfold dMod at e; split at e
  · split at e
    · rename_i h; cases e; exact ⟨_, _, rfl, rfl, h, rfl⟩
    · cases e
  · cases e
theorem o2_pow : Op2 K (rI CPow fun i j => .int (i ^ j.toNat)) dPow := o2_int fun a b c e => by
  unfold dPow at e; split at e
  · split at e
    · rename_i h; cases e
      exact ⟨_, _, rfl, rfl, (of_tst h : _ ∧ _ ∧ _), rfl⟩
    · cases e
  · cases e
theorem o1_neg : Op1 K (rU fun i => .int (-i)) dNeg := by
  intro G H a c x La Q l ra e k
  unfold dNeg at e
  split at e
  · cases e
    obtain ⟨rfl, _⟩ := ra.int_inv
    exact ⟨_, rfl, fin l k (.int _)⟩
  · cases e
end

/-! ### comparisons -/
def dEq (a b : D) : Option D := if shp a = true ∧ shp b = true then some (.bl (PyData.eqv a.py b.py)) else none
def dNe (a b : D) : Option D := if shp a = true ∧ shp b = true then some (.bl (!PyData.eqv a.py b.py)) else none
def dLt : D → D → Option D
  | .int i, .int j => some (.bl (decide (i < j)))
  | .tup a, .tup b => match intsOf a, intsOf b with
    | some ns, some ms => some (.bl (HT.lexLt ns ms))
    | _, _ => none
  | _, _ => none
def dLe : D → D → Option D
  | .int i, .int j => some (.bl (decide (i ≤ j)))
  | _, _ => none
def dGt : D → D → Option D
  | .int i, .int j => some (.bl (decide (j < i)))
  | _, _ => none
def dGe : D → D → Option D
  | .int i, .int j => some (.bl (decide (j ≤ i)))
  | _, _ => none
def isNon : D → Bool
  | .non => true
  | _ => false
def dIsN : D → D → Option D
  | .non, .non => some (.bl true)
  | .raw _, .non => none
  | _, .non => some (.bl false)
  | _, _ => none
def dNotN : D → D → Option D
  | .non, .non => some (.bl false)
  | .raw _, .non => none
  | _, .non => some (.bl true)
  | _, _ => none
section
variable {X : Cx} {K : PySem.W.Frag}
theorem o2_eq : Op2 K (rEqD K) dEq := by
  intro G H a b c x y La Lb Q l ra rb e k
  unfold dEq at e
  split at e
  · rename_i h; cases e
    exact ⟨_, _, ra.dps l h.1, rb.dps l h.2, h.1, h.2, fin l k (.bl _)⟩
  · cases e
theorem o2_ne : Op2 K (rNeD K) dNe := by
  intro G H a b c x y La Lb Q l ra rb e k
  unfold dNe at e
  split at e
  · rename_i h; cases e
    exact ⟨_, _, ra.dps l h.1, rb.dps l h.2, h.1, h.2, fin l k (.bl _)⟩
  · cases e
abbrev rLtX (K : PySem.W.Frag) : R2 := fun x y H Q => (rI0 fun i j => .bl (decide (i < j))) x y H Q ∨ rLtT K x y H Q
theorem opr_lt (hu : X.A.units < cLine) : OpR X (compareOp .Lt) (rLtX X.K) := op_lt.or (op_ltT hu)
theorem o2_lt : Op2 K (rLtX K) dLt := by
  intro G H a b c x y La Lb Q l ra rb e k
  unfold dLt at e
  split at e
  · cases e
    obtain ⟨rfl, _⟩ := ra.int_inv
    obtain ⟨rfl, _⟩ := rb.int_inv
    exact .inl ⟨_, _, rfl, rfl, fin l k (.bl _)⟩
  · split at e
    · rename_i ns ms h1 h2
      cases e
      obtain ⟨p, vs, rfl, sa, qa⟩ := ra.tup_inv
      obtain ⟨q, ws, rfl, sb, qb⟩ := rb.tup_inv
      rw [intsOf_eq h1] at qa
      rw [intsOf_eq h2] at qb
      obtain ⟨rfl, _⟩ := qa.ints_inv
      obtain ⟨rfl, _⟩ := qb.ints_inv
      exact .inr ⟨p, q, ns, ms, rfl, rfl, l.sqT sa, l.sqT sb, fin l k (.bl _)⟩
    · cases e
  · cases e
theorem o2_le : Op2 K (rI0 fun i j => .bl (decide (i ≤ j))) dLe := o2_intB fun a b c e => by
  unfold dLe at e; split at e <;> cases e; exact ⟨_, _, rfl, rfl, rfl⟩
theorem o2_gt : Op2 K (rI0 fun i j => .bl (decide (j < i))) dGt := o2_intB fun a b c e => by
  unfold dGt at e; split at e <;> cases e; exact ⟨_, _, rfl, rfl, rfl⟩
theorem o2_ge : Op2 K (rI0 fun i j => .bl (decide (j ≤ i))) dGe := o2_intB fun a b c e => by
  unfold dGe at e; split at e <;> cases e; exact ⟨_, _, rfl, rfl, rfl⟩
theorem isN_eq {G H : Hp} {a : D} {x : V} {La : List Addr} (ra : Rp K G H a x La) (h : ∀ v, a ≠ .raw v) : decide (x = .non) = isNon a := by
  cases ra <;> first | rfl | exact absurd rfl (h _) | simp
theorem o2_isN : Op2 K (fun x y H Q => y = .non ∧ Q (.bl (decide (x = .non))) H) dIsN := by
  intro G H a b c x y La Lb Q l ra rb e k
  have hr : (∀ v, a ≠ .raw v) := fun v z => by subst z; cases b <;> simp [dIsN] at e
  have hb : b = .non := by cases b <;> cases a <;> first | rfl | (simp [dIsN] at e)
  subst hb
  obtain ⟨rfl, _⟩ := rb.non_inv
  refine ⟨rfl, ?_⟩
  rw [isN_eq ra hr]
  have : c = .bl (isNon a) := by cases a <;> simp [dIsN] at e <;> first | exact e.symm | (exact absurd rfl (hr _))
  subst this
  exact fin l k (.bl _)
theorem o2_notN : Op2 K (fun x y H Q => y = .non ∧ Q (.bl (!decide (x = .non))) H) dNotN := by
  intro G H a b c x y La Lb Q l ra rb e k
  have hr : (∀ v, a ≠ .raw v) := fun v z => by subst z; cases b <;> simp [dNotN] at e
  have hb : b = .non := by cases b <;> cases a <;> first | rfl | (simp [dNotN] at e)
  subst hb
  obtain ⟨rfl, _⟩ := rb.non_inv
  refine ⟨rfl, ?_⟩
  rw [isN_eq ra hr]
  have : c = .bl (!isNon a) := by cases a <;> simp [dNotN] at e <;> first | exact e.symm | (exact absurd rfl (hr _))
  subst this
  exact fin l k (.bl _)
end
end
end Pz

set_option Elab.async false
set_option linter.all false
set_option maxRecDepth 100000
set_option maxHeartbeats 1000000
namespace Pz
open PySem L2
noncomputable section

/-! ### items and slices -/
def dIx : D → D → Option D
  | .tup xs, .int i => atI xs i
  | .lst _ xs, .int i => atI xs i
  | .scr ns, .int i => (atI ns i).map .int
  | .str z, .int i => if lineOk z.length = true then (atI z.cps.toList i).map fun c => .str ⟨#[c]⟩ else none
  | _, _ => none
section
variable {K : PySem.W.Frag} {G H : Hp} {σ : St}
theorem Rps.atI {ds : List D} {vs : List V} {L : List Addr} {i : Int} {d : D} (r : Rps K G H ds vs L) (e : atI ds i = some d) : ∃ v L1, L2.atI vs i = some v ∧ Rp K G H d v L1 ∧ L1.Sublist L := by
  unfold L2.atI at e ⊢
  rw [← r.length]
  cases q : ixN ds.length i with
  | none => rw [q] at e; cases e
  | some j =>
    rw [q] at e
    obtain ⟨v, L1, h1, h2, h3⟩ := r.get (i := j) e
    exact ⟨v, L1, h1, h2, h3⟩
theorem atI_map {α β : Type} {f : α → β} {xs : List α} {i : Int} : atI (xs.map f) i = (atI xs i).map f := by
  unfold atI
  rw [List.length_map]
  cases q : ixN xs.length i with
  | none => rfl
  | some j => simp
end
section
variable {X : Cx} {a b : Expr} {FA FB : En → Option (D × En)} {o1 o2 s1 s2 : Bool} {pos p2 : Pos}
/-- an item, looked at -/
theorem ev_sub (ha : Ev X o1 s1 a FA) (hb : Ev X o2 s2 b FB) (hs : PlainIx b) (hm : o1 = true ∨ s2 = true := by first | exact .inl rfl | exact .inr rfl) : Ev X false (s1 && s2) (.Subscript a b pos) (b2 dIx FA FB) :=
  peM (pe_ix ix_seq ha hb hs) fun σ H Q h => by
    obtain ⟨G, env, L, R, d, env', hf, k⟩ := h
    obtain ⟨da, e1, db, h1, h2, h3⟩ := b2_some hf
    refine ⟨G, env, L, R, da, e1, h1, fun x G1 H1 L1 La R1 ra n1 st1 x1 => ⟨G1, e1, L1, R1, db, env', h2, fun y G2 H2 L2 Lb R2 rb n2 st2 x2 => ?_⟩⟩
    have ra2 : Rp X.K G2 H2 da x La := ra.mono x2.le (persist hm ra.own n1 R2 st2 x2)
    have fini : ∀ v L3, Rp X.K G2 H2 d v L3 → (∀ z ∈ L3, z ∈ La) → Q v H2 := fun v L3 r3 s3 =>
      k v G2 H2 L2 L3 R2 r3 (fun z => nomatch z) (st_trans st1 st2) ((ext_two x1 x2).sub fun z hz => (ext_two x1 x2).own z (by
        rcases List.mem_append.mp hz with q | q
        · exact List.mem_append_left _ q
        · exact List.mem_append_right _ (List.mem_append_left _ (s3 z q))))
    unfold dIx at h3
    split at h3
    · obtain ⟨p, vs, rfl, sa, qa⟩ := ra2.tup_inv
      obtain ⟨rfl, _⟩ := rb.int_inv
      obtain ⟨v, L3, hv, r3, s3⟩ := qa.atI h3
      exact .inr (.inl ⟨p, vs, _, v, rfl, rfl, R2.le.sqT sa, hv, fini v L3 r3 fun z hz => s3.subset hz⟩)
    · obtain ⟨p, vs, L5, rfl, sa, qa, s5⟩ := ra2.lst_inv R2.le
      obtain ⟨rfl, _⟩ := rb.int_inv
      obtain ⟨v, L3, hv, r3, s3⟩ := qa.atI h3
      exact .inl ⟨p, vs, _, v, rfl, rfl, SqL.of sa, hv, fini v L3 r3 fun z hz => s5 z (s3.subset hz)⟩
    · rename_i ns i
      obtain ⟨p, rfl, rfl, sa⟩ := ra2.scr_inv
      obtain ⟨rfl, _⟩ := rb.int_inv
      cases q : atI ns i with
      | none => rw [q] at h3; cases h3
      | some m =>
        rw [q] at h3; cases h3
        exact .inl ⟨p, _, _, .int m, rfl, rfl, R2.le.sqL sa, by rw [atI_map, q]; rfl, fini _ [] (.int m) fun z hz => nomatch hz⟩
    · rename_i z i
      obtain ⟨rfl, rfl⟩ := ra2.str_inv
      obtain ⟨rfl, _⟩ := rb.int_inv
      split at h3
      · rename_i hl
        cases q : atI z.cps.toList i with
        | none => rw [q] at h3; cases h3
        | some c =>
          rw [q] at h3; cases h3
          exact .inr (.inr ⟨z, i, c, rfl, rfl, lineOk_le hl, q, fini _ [] (.str _) fun z hz => nomatch hz⟩)
      · cases h3
    · cases h3

/-- a slice's part -/
def tO (K : PySem.W.Frag) (st : Bool) (F : En → Option (Option Int × En)) : TO := fun σ H Q => ∃ G env L, RSt K σ G H env L ∧ ∃ d env', F env = some (d, env') ∧
  ∀ G' H' L', RSt K σ G' H' env' L' → (st = true → env' = env ∧ L' = L ∧ ∀ b, H b ≠ none → H' b = H b) → Ext L G H G' H' L' → Q d H'
abbrev Ov (X : Cx) (st : Bool) (e : Option Expr) (F : En → Option (Option Int × En)) : Prop := PO X e (tO X.K st F)
theorem poM {X : Cx} {e : Option Expr} {t u : TO} (h : PO X e t) (k : ∀ σ H Q, u σ H Q → t σ H Q) : PO X e u := ⟨fun pins s σ H Q I hw => h.run pins s σ H Q I (k σ H Q hw)⟩
def noPt : En → Option (Option Int × En) := fun env => some (none, env)
def ptI : D → Option (Option Int)
  | .int i => some (some i)
  | _ => none
def ptF (F : En → Option (D × En)) : En → Option (Option Int × En) := fun env => (F env).bind fun a => (ptI a.1).map fun i => (i, a.2)
theorem ov_none : Ov X true none noPt := poM po_none fun σ H Q ⟨G, env, L, R, d, env', hf, k⟩ => by
  cases hf
  exact k G H L R (fun _ => ⟨rfl, rfl, fun _ _ => rfl⟩) (Ext.refl fun b z => z)
theorem ov_some (h : Ev X o1 s1 a FA) : Ov X s1 (some a) (ptF FA) := poM (po_some h) fun σ H Q ⟨G, env, L, R, d, env', hf, k⟩ => by
  unfold ptF at hf
  cases q : FA env with
  | none => rw [q] at hf; simp at hf
  | some r =>
    obtain ⟨da, e1⟩ := r
    rw [q] at hf
    simp only [Option.bind_some] at hf
    cases da <;> simp only [ptI, Option.map_none, Option.map_some, reduceCtorEq] at hf
    rename_i i
    cases hf
    refine ⟨G, env, L, R, .int i, _, q, fun x G1 H1 L1 La R1 ra n1 st1 x1 => ?_⟩
    obtain ⟨rfl, rfl⟩ := ra.int_inv
    exact ⟨i, rfl, k G1 H1 L1 R1 st1 (by simpa using x1)⟩
def cutD {α : Type} (xs : List α) (lo hi : Option Int) : List α := (xs.drop (HT.sIx xs.length 0 lo)).take (HT.sIx xs.length xs.length hi - HT.sIx xs.length 0 lo)
def dSl : D → Option Int → Option Int → Option D
  | .tup xs, lo, hi => if D.pures xs = true then some (.tup (cutD xs lo hi)) else none
  | .lst _ xs, lo, hi => if D.pures xs = true then some (.lst true (cutD xs lo hi)) else none
  | .scr ns, lo, hi => some (.lst true ((cutD ns lo hi).map .int))
  | _, _, _ => none
theorem Rps.cut {K : PySem.W.Frag} {G H : Hp} {ds : List D} {vs : List V} {lo hi : Option Int} (r : Rps K G H ds vs []) : Rps K G H (cutD ds lo hi) (cutV vs lo hi) [] := by
  unfold cutD cutV
  rw [r.length]
  exact (r.drop _).take _
def bSl (FA : En → Option (D × En)) (FL FU : En → Option (Option Int × En)) : En → Option (D × En) := fun env => (FA env).bind fun a => (FL a.2).bind fun l => (FU l.2).bind fun u => (dSl a.1 l.1 u.1).map fun c => (c, u.2)
theorem ev_slice {lo hi : Option Expr} {FL FU : En → Option (Option Int × En)} (ha : Ev X o1 s1 a FA) (hl : Ov X true lo FL) (hu : Ov X true hi FU) : Ev X true s1 (.Subscript a (.Slice lo hi none p2) pos) (bSl FA FL FU) :=
  peM (pe_slice (sl_tupA.or sl_list) ha hl hu) fun σ H Q h => by
    obtain ⟨G, env, L, R, d, env', hf, k⟩ := h
    unfold bSl at hf
    cases q1 : FA env with
    | none => rw [q1] at hf; simp at hf
    | some r1 =>
    obtain ⟨da, e1⟩ := r1
    rw [q1] at hf
    simp only [Option.bind_some] at hf
    cases q2 : FL e1 with
    | none => rw [q2] at hf; simp at hf
    | some r2 =>
    obtain ⟨lo', e2⟩ := r2
    rw [q2] at hf
    simp only [Option.bind_some] at hf
    cases q3 : FU e2 with
    | none => rw [q3] at hf; simp at hf
    | some r3 =>
    obtain ⟨hi', e3⟩ := r3
    rw [q3] at hf
    simp only [Option.bind_some] at hf
    cases q4 : dSl da lo' hi' with
    | none => rw [q4] at hf; simp at hf
    | some c =>
    rw [q4] at hf
    simp only [Option.map_some, Option.some.injEq, Prod.mk.injEq] at hf
    obtain ⟨rfl, rfl⟩ := hf
    refine ⟨G, env, L, R, da, e1, q1, fun x G1 H1 L1 La R1 ra n1 st1 x1 => ⟨G1, e1, L1, R1, lo', e2, q2, fun G2 H2 L2 R2 st2 x2 => ⟨G2, e2, L2, R2, hi', e3, q3, fun G3 H3 L3 R3 st3 x3 => ?_⟩⟩⟩
    have ra2 : Rp X.K G2 H2 da x La := ra.mono x2.le (persist (L' := L2) (o1 := o1) (s2 := true) (.inr rfl) ra.own n1 R2 st2 x2)
    have ra3 : Rp X.K G3 H3 da x La := by
      obtain ⟨f1, f2, f3⟩ := st2 rfl
      subst f1 f2
      exact ra2.mono x3.le (persist (L' := L3) (o1 := o1) (s2 := true) (.inr rfl) ra2.own n1 R3 st3 x3)
    have stt : s1 = true → e3 = env ∧ L3 = L ∧ ∀ b, H b ≠ none → H3 b = H b := fun h => by
      have z := st_trans (st_trans st1 st2) st3
      exact z (by simp [h])
    have xx : Ext L G H G3 H3 L3 := by
      have y1 := ext_then x1 x2
      exact y1.trans x3 fun z hz => y1.own z hz
    have fini : ∀ v G4 H4 Lr, Fresh G3 H3 G4 H4 Lr → Rp X.K G4 H4 c v Lr → Q v H4 := fun v G4 H4 Lr fr rc =>
      k v G4 H4 L3 Lr (R3.fresh fr) rc (fun _ => fr.nodup R3.nd fun a z => (R3.rep.own a z).2) (st_fresh stt fr) (ext_fresh (La := []) (by simpa using xx) fr)
    unfold dSl at q4
    split at q4
    · split at q4
      · rename_i hp
        cases q4
        obtain ⟨p, vs, rfl, sa, qa⟩ := ra3.tup_inv
        obtain rfl := qa.pure_nil hp
        refine .inl ⟨p, vs, rfl, R3.le.sqT sa, fun w => ?_, fun w t nt => ?_⟩
        · have e : cutD _ lo' hi' = _ := show (List.drop _ _).take _ = _ from by rw [qa.length, w.1, w.2, List.drop_zero, Nat.sub_zero, List.take_of_length_le (Nat.le_of_eq qa.length)]
          rw [e] at fini
          exact fini _ _ _ _ (Fresh.refl R3.le) (.tup sa qa)
        · have f := Fresh.laid R3.le nt (.tup (cutV vs lo' hi'))
          exact fini _ _ _ _ f (.tup (.inl (.inl upd_same)) (qa.cut.fresh f))
      · cases q4
    · split at q4
      · rename_i hp
        cases q4
        obtain ⟨p, vs, L5, rfl, sa, qa, s5⟩ := ra3.lst_inv R3.le
        obtain rfl := qa.pure_nil hp
        refine .inr ⟨p, vs, rfl, SqL.of sa, fun t nt => ?_⟩
        have f := Fresh.lst R3.le nt (.lst (cutV vs lo' hi'))
        exact fini _ _ _ _ f (.lstO (R3.le.none nt) upd_same (qa.cut.fresh f))
      · cases q4
    · rename_i ns
      cases q4
      obtain ⟨p, rfl, rfl, sa⟩ := ra3.scr_inv
      refine .inr ⟨p, _, rfl, R3.le.sqL sa, fun t nt => ?_⟩
      have f := Fresh.lst R3.le nt (.lst (cutV (ns.map V.int) lo' hi'))
      refine fini _ _ _ _ f (.lstO (R3.le.none nt) upd_same ?_)
      have e : (cutD ns lo' hi').map V.int = cutV (ns.map V.int) lo' hi' := by
        unfold cutD cutV
        rw [List.length_map, List.map_take, List.map_drop]
      rw [← e]
      exact Rps.ints _
    · cases q4
end

/-! ### lists of arguments, displays -/
def aNil : En → Option (List D × En) := fun env => some ([], env)
def aCons (F : En → Option (D × En)) (FR : En → Option (List D × En)) : En → Option (List D × En) := fun env => (F env).bind fun a => (FR a.2).map fun r => (a.1 :: r.1, r.2)
def dTup (ds : List D) : Option D := if lineOk ds.length = true then some (.tup ds) else none
def dLst (ds : List D) : Option D := if lineOk ds.length = true then some (.lst true ds) else none
section
variable {X : Cx} {e : Expr} {es : List Expr} {F : En → Option (D × En)} {FR : En → Option (List D × En)} {o1 o2 s1 s2 o s : Bool} {pos : Pos}
theorem av_nil : Av X true true [] aNil := paM pa_nil fun σ H Q ⟨G, env, L, R, d, env', hf, k⟩ => by
  cases hf
  exact k [] G H L [] R .nil (fun _ => by simpa using R.nd) (fun _ => ⟨rfl, rfl, fun _ _ => rfl⟩) (Ext.refl fun b z => by simpa using z)
theorem av_cons (he : Ev X o1 s1 e F) (hr : Av X o2 s2 es FR) (hm : o1 = true ∨ s2 = true := by first | exact .inl rfl | exact .inr rfl) (hs : starEach (e :: es) X.env = (false, eval e X.env) :: starEach es X.env := by rfl) :
    Av X (o1 && o2) (s1 && s2) (e :: es) (aCons F FR) := paM (pa_cons he hr hs) fun σ H Q ⟨G, env, L, R, d, env', hf, k⟩ => by
  unfold aCons at hf
  cases q1 : F env with
  | none => rw [q1] at hf; simp at hf
  | some r1 =>
  obtain ⟨da, e1⟩ := r1
  rw [q1] at hf
  simp only [Option.bind_some] at hf
  cases q2 : FR e1 with
  | none => rw [q2] at hf; simp at hf
  | some r2 =>
  obtain ⟨dr, e2⟩ := r2
  rw [q2] at hf
  simp only [Option.map_some, Option.some.injEq, Prod.mk.injEq] at hf
  obtain ⟨rfl, rfl⟩ := hf
  refine ⟨G, env, L, R, da, e1, q1, fun x G1 H1 L1 La R1 ra n1 st1 x1 => ⟨G1, e1, L1, R1, dr, _, q2, fun y G2 H2 L2 Lb R2 rb n2 st2 x2 => ?_⟩⟩
  have ra2 : Rp X.K G2 H2 da x La := ra.mono x2.le (persist hm ra.own n1 R2 st2 x2)
  refine k (x :: y) G2 H2 L2 (La ++ Lb) R2 (.cons ra2 rb) (fun ho => ?_) (st_trans st1 st2) (ext_two x1 x2)
  obtain ⟨h1, h2⟩ := Bool.and_eq_true_iff.mp ho
  have n1' := n1 h1
  have n2' := n2 h2
  have a1 := List.nodup_append.mp n1'
  have a2 := List.nodup_append.mp n2'
  have apart : ∀ z ∈ La, z ∉ L2 ++ Lb := fun z hz hz2 => by
    rcases x2.own z hz2 with w | w
    · exact a1.2.2 z w z hz rfl
    · exact (ra.own z hz).2 w
  refine List.nodup_append.mpr ⟨a2.1, List.nodup_append.mpr ⟨a1.2.1, a2.2.1, fun z hz y hy e => ?_⟩, fun z hz y hy e => ?_⟩
  · subst e; exact apart z hz (List.mem_append_right _ hy)
  · subst e
    rcases List.mem_append.mp hy with w | w
    · exact apart z w (List.mem_append_left _ hz)
    · exact a2.2.2 z hz z w rfl
theorem bN_lift {K : PySem.W.Frag} {f : List D → Option D} {r : List V → Hp → VK → Prop} (ho : OpN K r f) (σ : St) (H : Hp) (Q : VK) (h : tE K true s (bN f FR) σ H Q) : tA K o s FR σ H (fun vs H1 => r vs H1 Q) := by
  obtain ⟨G, env, L, R, d, env', hf, k⟩ := h
  obtain ⟨da, h1, h3⟩ := bN_some hf
  refine ⟨G, env, L, R, da, env', h1, fun x G1 H1 L1 La R1 ra n1 st1 x1 => ho R1.le ra h3 fun v G3 H3 Lr fr rc => ?_⟩
  exact k v G3 H3 L1 Lr (R1.fresh fr) rc (fun _ => fr.nodup R1.nd fun a z => (R1.rep.own a z).2) (st_fresh st1 fr) (ext_fresh x1 fr)
theorem ev_tup {x1} (h : Av X true s es FR) : Ev X true s (.Tuple es x1 pos) (bN dTup FR) := peM (pe_tup h) fun σ H Q hw => by
  obtain ⟨G, env, L, R, d, env', hf, k⟩ := hw
  obtain ⟨da, h1, h3⟩ := bN_some hf
  refine ⟨G, env, L, R, da, env', h1, fun x G1 H1 L1 La R1 ra n1 st1 x1 => ?_⟩
  unfold dTup at h3
  split at h3
  · rename_i hl
    cases h3
    refine ⟨by rw [← ra.length]; exact lineOk_le hl, fun p np => ?_⟩
    have f := Fresh.laid R1.le np (.tup x)
    exact k _ _ _ L1 La (R1.fresh f) (.tup (.inl (.inl upd_same)) (ra.fresh f)) n1 (st_fresh st1 f) (x1.trans (f.ext' fun z hz => .inl hz) fun z hz => x1.own z hz)
  · cases h3
theorem ev_lst (h : Av X true s es FR) : Ev X true s (.List es pos) (bN dLst FR) := peM (pe_lst h) fun σ H Q hw => by
  obtain ⟨G, env, L, R, d, env', hf, k⟩ := hw
  obtain ⟨da, h1, h3⟩ := bN_some hf
  refine ⟨G, env, L, R, da, env', h1, fun x G1 H1 L1 La R1 ra n1 st1 x1 => ?_⟩
  unfold dLst at h3
  split at h3
  · rename_i hl
    cases h3
    refine ⟨by rw [← ra.length]; exact lineOk_le hl, fun p np => ?_⟩
    have f := Fresh.lst R1.le np (.lst x)
    refine k _ _ _ L1 (p :: La) (R1.fresh f) (.lstO (R1.le.none np) upd_same (ra.fresh f)) (fun ho => ?_) (st_fresh st1 f) (x1.trans (f.ext' (L := L1 ++ La) fun z hz => ?_) fun z hz => x1.own z hz)
    · have nn := n1 ho
      have pn : p ∉ L1 ++ La := fun z => by
        rcases List.mem_append.mp z with z | z
        · exact (R1.rep.own p z).2 np
        · exact (ra.own p z).2 np
      rw [List.nodup_append] at nn ⊢
      refine ⟨nn.1, List.nodup_cons.mpr ⟨fun z => pn (List.mem_append_right _ z), nn.2.1⟩, fun z hz y hy e => ?_⟩
      subst e
      rcases List.mem_cons.mp hy with w | w
      · subst w; exact pn (List.mem_append_left _ hz)
      · exact nn.2.2 z hz z w rfl
    · rcases List.mem_append.mp hz with w | w
      · exact .inl (List.mem_append_left _ w)
      · rcases List.mem_cons.mp w with q | q
        · subst q; exact .inr np
        · exact .inl (List.mem_append_right _ q)
  · cases h3
/-- a call of a built-in by its name -/
theorem ev_callB {x : Str} {p : Pos} {id : String} {r : List V → Hp → VK → Prop} {f : List D → Option D} (hc : CallR X (.builtin id) r) (hf : OpN X.K r f) (hg : Gl X x) (hm : X.mg x = none) (hv : bootBuiltins x = some (.builtin id)) (ha : Av X o s (e :: es) FR)
    (hn : x ≠ "__name__" := by decide) (hdb : (x == ("__debug__" : Str)) = false := by decide)
    (he : starEach (e :: es) X.env = (false, eval e X.env) :: starEach es X.env := by rfl) (hpl : (backTo pos (starEach es X.env)).any (·.1) = false := by rfl) : Ev X true s (.Call (.Name x p) (e :: es) [] pos) (bN f FR) := peM (pe_callB hc hg hm hv ha hn hdb he hpl) (bN_lift hf)
theorem ev_callTy {x : Str} {p : Pos} {T : String} {r : List V → Hp → VK → Prop} {f : List D → Option D} (hc : CallR X (.type T) r) (hf : OpN X.K r f) (hg : Gl X x) (hm : X.mg x = none) (hv : bootBuiltins x = some (.type T)) (ha : Av X o s (e :: es) FR)
    (hn : x ≠ "__name__" := by decide) (hdb : (x == ("__debug__" : Str)) = false := by decide)
    (he : starEach (e :: es) X.env = (false, eval e X.env) :: starEach es X.env := by rfl) (hpl : (backTo pos (starEach es X.env)).any (·.1) = false := by rfl) : Ev X true s (.Call (.Name x p) (e :: es) [] pos) (bN f FR) := peM (pe_callTy hc hg hm hv ha hn hdb he hpl) (bN_lift hf)
end
end
end Pz

set_option Elab.async false
set_option linter.all false
set_option maxRecDepth 100000
set_option maxHeartbeats 1000000
namespace Pz
open PySem L2
noncomputable section

def asB : D → Option Bool
  | .bl b => some b
  | _ => none
def dTru : D → Option Bool
  | .non => some false
  | .bl b => some b
  | .int i => some (i != 0)
  | .str x => if lineOk x.length = true then some ((x.length : Int) != 0) else none
  | .scr ns => some (!ns.isEmpty)
  | .tup xs => some (!xs.isEmpty)
  | .lst _ xs => some (!xs.isEmpty)
  | _ => none
def tbF (F : En → Option (D × En)) : En → Option (Bool × En) := fun env => (F env).bind fun a => (asB a.1).map fun b => (b, a.2)
def ttF (F : En → Option (D × En)) : En → Option (Bool × En) := fun env => (F env).bind fun a => (dTru a.1).map fun b => (b, a.2)
theorem t_some {f : D → Option Bool} {F : En → Option (D × En)} {env env' : En} {b : Bool} (h : ((F env).bind fun a => (f a.1).map fun b => (b, a.2)) = some (b, env')) : ∃ a, F env = some (a, env') ∧ f a = some b := by
  cases q : F env with
  | none => rw [q] at h; simp at h
  | some a =>
    rw [q] at h; simp only [Option.bind_some] at h
    cases q3 : f a.1 with
    | none => rw [q3] at h; simp at h
    | some c => rw [q3] at h; simp at h; obtain ⟨rfl, rfl⟩ := h; exact ⟨a.1, rfl, q3⟩
section
variable {K : PySem.W.Frag} {G H : Hp} {σ : St} {F : En → Option (D × En)} {o s : Bool}
theorem tb_lift (Q : Bool → Hp → Prop) (h : tT K s (tbF F) σ H Q) (o : Bool) : tE K o s F σ H (fun x H' => ∃ k, x = .bl k ∧ Q k H') := by
  obtain ⟨G, env, L, R, d, env', hf, k⟩ := h
  obtain ⟨a, h1, h2⟩ := t_some hf
  refine ⟨G, env, L, R, a, env', h1, fun v G1 H1 L1 La R1 ra n1 st1 x1 => ?_⟩
  cases a <;> simp only [asB, reduceCtorEq] at h2
  cases h2
  obtain ⟨rfl, rfl⟩ := ra.bl_inv
  exact ⟨_, rfl, k G1 H1 L1 R1 st1 (by simpa using x1)⟩
theorem isEmpty_len {α β : Type} {xs : List α} {ys : List β} (h : xs.length = ys.length) : xs.isEmpty = ys.isEmpty := by
  cases xs <;> cases ys <;> first | rfl | (simp at h)
theorem dTru_ok {a : D} {x : V} {L : List Addr} {b : Bool} (r : Rp K G H a x L) (l : Le G H) (h : dTru a = some b) : TruV K x H b := by
  cases a <;> simp only [dTru, reduceCtorEq] at h
  · cases h; obtain ⟨rfl, _⟩ := r.non_inv; rfl
  · cases h; obtain ⟨rfl, _⟩ := r.bl_inv; rfl
  · cases h; obtain ⟨rfl, _⟩ := r.int_inv; rfl
  · split at h
    · rename_i hl; cases h; obtain ⟨rfl, _⟩ := r.str_inv; exact ⟨lineOk_le hl, rfl⟩
    · cases h
  · cases h
    obtain ⟨p, rfl, _, sa⟩ := r.scr_inv
    exact .inl ⟨_, l.sqL sa, by rw [isEmpty_len (List.length_map (as := _) V.int)]⟩
  · cases h
    obtain ⟨p, vs, rfl, sa, qa⟩ := r.tup_inv
    exact .inr (.inl ⟨vs, l.sqT sa, by rw [isEmpty_len qa.length]⟩)
  · cases h
    obtain ⟨p, vs, L1, rfl, sa, qa, _⟩ := r.lst_inv l
    exact .inl ⟨vs, SqL.of sa, by rw [isEmpty_len qa.length]⟩
theorem tt_lift (Q : Bool → Hp → Prop) (h : tT K s (ttF F) σ H Q) (o : Bool) : tE K o s F σ H (fun x H' => ∃ k, TruV K x H' k ∧ Q k H') := by
  obtain ⟨G, env, L, R, d, env', hf, k⟩ := h
  obtain ⟨a, h1, h2⟩ := t_some hf
  refine ⟨G, env, L, R, a, env', h1, fun v G1 H1 L1 La R1 ra n1 st1 x1 => ⟨d, dTru_ok ra R1.le h2, k G1 H1 L1 R1 st1 (x1.sub fun z hz => x1.own z (List.mem_append_left _ hz))⟩⟩
end
section
variable {X : Cx} {a b c : Expr} {FA FB : En → Option (D × En)} {TA' TB : En → Option (Bool × En)} {o o1 o2 s s1 s2 s3 : Bool} {pos : Pos} {rest : List Expr}
theorem tv_cmp {op : CmpOp} {r : R2} {f : D → D → Option D} (hr : OpR X (compareOp op) r) (ho : Op2 X.K r f) (ha : Ev X o1 s1 a FA) (hb : Ev X o2 s2 b FB) (hk : behindInMarks op b = false)
    (hm : o1 = true ∨ s2 = true := by first | exact .inl rfl | exact .inr rfl) : Tv X (s1 && s2) (.Compare a [op] [b] pos) (tbF (b2 f FA FB)) :=
  ptM (pt_cmpR hr ha hb hk) fun σ H Q h => op2_lift ho hm σ H _ (tb_lift Q h true)
/-- an expression whose test is its value's truth -/
theorem tv_tru (ha : Ev X o s a FA) (he : ∀ whole, isTrue a X.env whole = (do let v ← whole; standAt a.pos; holding [v] (truthy v)) := by intro _; rfl) : Tv X s a (ttF FA) :=
  ptM (pt_truth ha he) fun σ H Q h => tt_lift Q h o
def andF (FA FB : En → Option (Bool × En)) : En → Option (Bool × En) := fun env => (FA env).bind fun a => if a.1 = true then FB a.2 else some (false, a.2)
def orF (FA FB : En → Option (Bool × En)) : En → Option (Bool × En) := fun env => (FA env).bind fun a => if a.1 = true then some (true, a.2) else FB a.2
def notF (FA : En → Option (Bool × En)) : En → Option (Bool × En) := fun env => (FA env).map fun a => (!a.1, a.2)
theorem wv_and1 (ha : Tv X s a TA') : Wv X s (.BoolOp .And [a] pos) TA' := pw_and1 ha
theorem wv_or1 (ha : Tv X s a TA') : Wv X s (.BoolOp .Or [a] pos) TA' := pw_or1 ha
theorem st_left {s1 s2 : Bool} {env e1 : En} {L L1 : List Addr} {H H1 : Hp} (st : s1 = true → e1 = env ∧ L1 = L ∧ ∀ b, H b ≠ none → H1 b = H b) : (s1 && s2) = true → e1 = env ∧ L1 = L ∧ ∀ b, H b ≠ none → H1 b = H b := fun h => st (Bool.and_eq_true_iff.mp h).1
theorem wv_and (ha : Tv X s1 a TA') (hb : Wv X s2 (.BoolOp .And (b :: rest) pos) TB) : Wv X (s1 && s2) (.BoolOp .And (a :: b :: rest) pos) (andF TA' TB) :=
  pwM (pw_and ha hb) fun σ H Q ⟨G, env, L, R, d, env', hf, k⟩ => by
    unfold andF at hf
    cases q : TA' env with
    | none => rw [q] at hf; simp at hf
    | some r =>
      obtain ⟨c, e1⟩ := r
      rw [q] at hf
      simp only [Option.bind_some] at hf
      refine ⟨G, env, L, R, c, e1, q, fun G1 H1 L1 R1 st1 x1 => ?_⟩
      cases c with
      | true =>
        rw [if_pos rfl] at hf ⊢
        exact ⟨G1, e1, L1, R1, d, env', hf, fun G2 H2 L2 R2 st2 x2 => k G2 H2 L2 R2 (st_trans st1 st2) (x1.trans x2 fun z hz => x1.own z hz)⟩
      | false =>
        rw [if_neg (by decide)] at hf ⊢
        cases hf
        exact k G1 H1 L1 R1 (st_left st1) x1
theorem wv_or (ha : Tv X s1 a TA') (hb : Wv X s2 (.BoolOp .Or (b :: rest) pos) TB) : Wv X (s1 && s2) (.BoolOp .Or (a :: b :: rest) pos) (orF TA' TB) :=
  pwM (pw_or ha hb) fun σ H Q ⟨G, env, L, R, d, env', hf, k⟩ => by
    unfold orF at hf
    cases q : TA' env with
    | none => rw [q] at hf; simp at hf
    | some r =>
      obtain ⟨c, e1⟩ := r
      rw [q] at hf
      simp only [Option.bind_some] at hf
      refine ⟨G, env, L, R, c, e1, q, fun G1 H1 L1 R1 st1 x1 => ?_⟩
      cases c with
      | false =>
        rw [if_neg (by decide)] at hf ⊢
        exact ⟨G1, e1, L1, R1, d, env', hf, fun G2 H2 L2 R2 st2 x2 => k G2 H2 L2 R2 (st_trans st1 st2) (x1.trans x2 fun z hz => x1.own z hz)⟩
      | true =>
        rw [if_pos rfl] at hf ⊢
        cases hf
        exact k G1 H1 L1 R1 (st_left st1) x1
theorem tv_w (h : Wv X s a TA') : Tv X s a TA' := h.pt
theorem tv_not (ha : Tv X s a TA') : Tv X s (.UnaryOp .Not a pos) (notF TA') := ptM (pt_not ha) fun σ H Q ⟨G, env, L, R, d, env', hf, k⟩ => by
  unfold notF at hf
  cases q : TA' env with
  | none => rw [q] at hf; simp at hf
  | some r =>
    rw [q] at hf
    cases hf
    exact ⟨G, env, L, R, r.1, r.2, q, fun G1 H1 L1 R1 st1 x1 => k G1 H1 L1 R1 st1 x1⟩

/-! ### as values -/
def andV (FA FB : En → Option (D × En)) : En → Option (D × En) := fun env => (FA env).bind fun a => (dTru a.1).bind fun k => if k = true then FB a.2 else some a
def orV (FA FB : En → Option (D × En)) : En → Option (D × En) := fun env => (FA env).bind fun a => (dTru a.1).bind fun k => if k = true then some a else FB a.2
def ifF (FC : En → Option (Bool × En)) (FA FB : En → Option (D × En)) : En → Option (D × En) := fun env => (FC env).bind fun c => if c.1 = true then FA c.2 else FB c.2
def dNot (d : D) : Option D := (dTru d).map fun k => .bl (!k)
theorem ev_one {op} (h : Ev X o s a FA) : Ev X o s (.BoolOp op [a] pos) FA := pe_one h
theorem ev_and (ha : Ev X o s1 a FA) (hb : Ev X o s2 (.BoolOp .And (b :: rest) pos) FB) : Ev X o (s1 && s2) (.BoolOp .And (a :: b :: rest) pos) (andV FA FB) :=
  peM (pe_andT ha hb) fun σ H Q ⟨G, env, L, R, d, env', hf, k⟩ => by
    unfold andV at hf
    cases q : FA env with
    | none => rw [q] at hf; simp at hf
    | some r =>
      obtain ⟨da, e1⟩ := r
      rw [q] at hf
      simp only [Option.bind_some] at hf
      cases q2 : dTru da with
      | none => rw [q2] at hf; simp at hf
      | some c =>
      rw [q2] at hf
      simp only [Option.bind_some] at hf
      refine ⟨G, env, L, R, da, e1, q, fun x G1 H1 L1 La R1 ra n1 st1 x1 => ⟨c, dTru_ok ra R1.le q2, ?_⟩⟩
      cases c with
      | true =>
        rw [if_pos rfl] at hf ⊢
        refine ⟨G1, e1, L1, R1, d, env', hf, fun y G2 H2 L2 Lb R2 rb n2 st2 x2 => k y G2 H2 L2 Lb R2 rb n2 (st_trans st1 st2) (ext_then x1 x2)⟩
      | false =>
        rw [if_neg (by decide)] at hf ⊢
        cases hf
        exact k x G1 H1 L1 La R1 ra n1 (st_left st1) x1
theorem ev_or (ha : Ev X o s1 a FA) (hb : Ev X o s2 (.BoolOp .Or (b :: rest) pos) FB) : Ev X o (s1 && s2) (.BoolOp .Or (a :: b :: rest) pos) (orV FA FB) :=
  peM (pe_orT ha hb) fun σ H Q ⟨G, env, L, R, d, env', hf, k⟩ => by
    unfold orV at hf
    cases q : FA env with
    | none => rw [q] at hf; simp at hf
    | some r =>
      obtain ⟨da, e1⟩ := r
      rw [q] at hf
      simp only [Option.bind_some] at hf
      cases q2 : dTru da with
      | none => rw [q2] at hf; simp at hf
      | some c =>
      rw [q2] at hf
      simp only [Option.bind_some] at hf
      refine ⟨G, env, L, R, da, e1, q, fun x G1 H1 L1 La R1 ra n1 st1 x1 => ⟨c, dTru_ok ra R1.le q2, ?_⟩⟩
      cases c with
      | false =>
        rw [if_neg (by decide)] at hf ⊢
        refine ⟨G1, e1, L1, R1, d, env', hf, fun y G2 H2 L2 Lb R2 rb n2 st2 x2 => k y G2 H2 L2 Lb R2 rb n2 (st_trans st1 st2) (ext_then x1 x2)⟩
      | true =>
        rw [if_pos rfl] at hf ⊢
        cases hf
        exact k x G1 H1 L1 La R1 ra n1 (st_left st1) x1
theorem ev_not (ha : Ev X o s a FA) : Ev X true s (.UnaryOp .Not a pos) (b1 dNot FA) := peM (pe_notT ha) fun σ H Q h => by
  obtain ⟨G, env, L, R, d, env', hf, k⟩ := h
  obtain ⟨da, h1, h3⟩ := b1_some hf
  unfold dNot at h3
  cases q : dTru da with
  | none => rw [q] at h3; cases h3
  | some c =>
    rw [q] at h3; cases h3
    exact ⟨G, env, L, R, da, env', h1, fun x G1 H1 L1 La R1 ra n1 st1 x1 => ⟨c, dTru_ok ra R1.le q, k _ G1 H1 L1 [] R1 (.bl _) (fun _ => by simpa using R1.nd) st1 (x1.sub fun z hz => x1.own z (List.mem_append_left _ (by simpa using hz)))⟩⟩
theorem ev_if (hc : Tv X s1 c TA') (ha : Ev X o s2 a FA) (hb : Ev X o s3 b FB) : Ev X o (s1 && (s2 && s3)) (.IfExp c a b pos) (ifF TA' FA FB) :=
  peM (pe_ifExp hc ha hb) fun σ H Q ⟨G, env, L, R, d, env', hf, k⟩ => by
    unfold ifF at hf
    cases q : TA' env with
    | none => rw [q] at hf; simp at hf
    | some r =>
      obtain ⟨c, e1⟩ := r
      rw [q] at hf
      simp only [Option.bind_some] at hf
      refine ⟨G, env, L, R, c, e1, q, fun G1 H1 L1 R1 st1 x1 => ?_⟩
      have x1' : Ext L G H G1 H1 (L1 ++ []) := by simpa using x1
      cases c with
      | true =>
        rw [if_pos rfl] at hf
        show (if true = true then _ else _)
        rw [if_pos rfl]
        refine ⟨G1, e1, L1, R1, d, env', hf, fun y G2 H2 L2 Lb R2 rb n2 st2 x2 => k y G2 H2 L2 Lb R2 rb n2 (fun h => ?_) (ext_then x1' x2)⟩
        obtain ⟨h1, h2⟩ := Bool.and_eq_true_iff.mp h
        exact st_trans st1 st2 (by simp [h1, (Bool.and_eq_true_iff.mp h2).1])
      | false =>
        rw [if_neg (by decide)] at hf
        show (if false = true then _ else _)
        rw [if_neg (by decide)]
        refine ⟨G1, e1, L1, R1, d, env', hf, fun y G2 H2 L2 Lb R2 rb n2 st2 x2 => k y G2 H2 L2 Lb R2 rb n2 (fun h => ?_) (ext_then x1' x2)⟩
        obtain ⟨h1, h2⟩ := Bool.and_eq_true_iff.mp h
        exact st_trans st1 st2 (by simp [h1, (Bool.and_eq_true_iff.mp h2).2])
/-- chains a < b < c -/
def chF (f g : D → D → Option D) (FA FB FC : En → Option (D × En)) : En → Option (D × En) := fun env => (FA env).bind fun a => (FB a.2).bind fun b => (f a.1 b.1).bind fun r => (asB r).bind fun k =>
  if k = true then (FC b.2).bind fun c => (g b.1 c.1).map fun z => (z, c.2) else some (.bl false, b.2)
theorem chain_lift {op op' : CmpOp} {r r' : R2} {f g : D → D → Option D} {FC : En → Option (D × En)} {K : PySem.W.Frag} (ho : Op2 K r f) (ho' : Op2 K r' g) (σ : St) (H : Hp) (Q : VK) (h : tE K true (s1 && (s2 && s3)) (chF f g FA FB FC) σ H Q) :
    tChain r r' (tE K true s1 FA) (tE K true s2 FB) (tE K true s3 FC) σ H Q := by
  obtain ⟨G, env, L, R, d, env', hf, k⟩ := h
  unfold chF at hf
  cases q : FA env with
  | none => rw [q] at hf; simp at hf
  | some r1 =>
  obtain ⟨da, e1⟩ := r1
  rw [q] at hf
  simp only [Option.bind_some] at hf
  cases q2 : FB e1 with
  | none => rw [q2] at hf; simp at hf
  | some r2 =>
  obtain ⟨db, e2⟩ := r2
  rw [q2] at hf
  simp only [Option.bind_some] at hf
  cases q3 : f da db with
  | none => rw [q3] at hf; simp at hf
  | some t =>
  rw [q3] at hf
  simp only [Option.bind_some] at hf
  cases t <;> simp only [asB, Option.bind_none, Option.bind_some, reduceCtorEq] at hf
  rename_i kk
  refine ⟨G, env, L, R, da, e1, q, fun x G1 H1 L1 La R1 ra n1 st1 x1 => ⟨G1, e1, L1, R1, db, e2, q2, fun y G2 H2 L2 Lb R2 rb n2 st2 x2 => ?_⟩⟩
  have ra2 : Rp K G2 H2 da x La := ra.mono x2.le (persist (s2 := s2) (.inl rfl) ra.own n1 R2 st2 x2)
  refine ho R2.le ra2 rb q3 fun v G3 H3 Lr fr rc => ?_
  obtain ⟨rfl, rfl⟩ := rc.bl_inv
  refine ⟨kk, rfl, ?_⟩
  have R3 := R2.fresh fr
  have x3 : Ext L G H G3 H3 (L2 ++ Lb) := (ext_then x1 x2).trans (fr.ext' fun z hz => .inl hz) fun z hz => (ext_then x1 x2).own z hz
  have st3 := st_fresh (st_trans st1 st2) fr
  cases kk with
  | true =>
    rw [if_pos rfl] at hf ⊢
    cases q4 : FC e2 with
    | none => rw [q4] at hf; simp at hf
    | some r4 =>
    obtain ⟨dc, e3⟩ := r4
    rw [q4] at hf
    simp only [Option.bind_some] at hf
    cases q5 : g db dc with
    | none => rw [q5] at hf; simp at hf
    | some z =>
    rw [q5] at hf
    simp only [Option.map_some, Option.some.injEq, Prod.mk.injEq] at hf
    obtain ⟨rfl, rfl⟩ := hf
    refine ⟨G3, e2, L2, R3, dc, e3, q4, fun w G4 H4 L4 Lc R4 rc4 n4 st4 x4 => ?_⟩
    have rb3 := rb.fresh fr
    have rb4 : Rp K G4 H4 db y Lb := rb3.mono x4.le (persist (s2 := s3) (.inl rfl) rb3.own n2 R4 st4 x4)
    refine ho' R4.le rb4 rc4 q5 fun v5 G5 H5 L5 fr5 rc5 => ?_
    exact k v5 G5 H5 L4 L5 (R4.fresh fr5) rc5 (fun _ => fr5.nodup R4.nd fun a z => (R4.rep.own a z).2) (st_fresh (fun h => st_trans st3 st4 (by
      revert h; cases s1 <;> cases s2 <;> cases s3 <;> simp)) fr5) (ext_fresh (ext_then x3 x4) fr5)
  | false =>
    rw [if_neg (by decide)] at hf ⊢
    cases hf
    exact k _ G3 H3 L2 [] R3 (.bl _) (fun _ => by simpa using R3.nd) (fun h => st3 (by revert h; cases s1 <;> cases s2 <;> cases s3 <;> simp)) (x3.sub fun z hz => x3.own z (List.mem_append_left _ (by simpa using hz)))
theorem ev_chain {op op' : CmpOp} {r r' : R2} {f g : D → D → Option D} {FC : En → Option (D × En)} (hr : OpR X (compareOp op) r) (hr' : OpR X (compareOp op') r') (ho : Op2 X.K r f) (ho' : Op2 X.K r' g) (ha : Ev X true s1 a FA) (hb : Ev X true s2 b FB) (hc : Ev X true s3 c FC)
    (hm : lastMarks [op, op'] [b, c] = false := by with_unfolding_all rfl) : Ev X true (s1 && (s2 && s3)) (.Compare a [op, op'] [b, c] pos) (chF f g FA FB FC) := peM (pe_chain hr hr' ha hb hc hm) (chain_lift (op := op) (op' := op') ho ho')
theorem tv_chain {op op' : CmpOp} {r r' : R2} {f g : D → D → Option D} {FC : En → Option (D × En)} (hr : OpR X (compareOp op) r) (hr' : OpR X (compareOp op') r') (ho : Op2 X.K r f) (ho' : Op2 X.K r' g) (ha : Ev X true s1 a FA) (hb : Ev X true s2 b FB) (hc : Ev X true s3 c FC)
    (hm : lastMarks [op, op'] [b, c] = false := by with_unfolding_all rfl) : Tv X (s1 && (s2 && s3)) (.Compare a [op, op'] [b, c] pos) (tbF (chF f g FA FB FC)) := ptM (pt_chain hr hr' ha hb hc hm) fun σ H Q h => chain_lift (op := op) (op' := op') ho ho' σ H _ (tb_lift Q h true)
end

/-! ### built-ins -/
def boolsOf : List D → Option (List Bool)
  | [] => some []
  | .bl i :: r => (boolsOf r).map (i :: ·)
  | _ :: _ => none
theorem boolsOf_eq : ∀ {ds : List D} {ns : List Bool}, boolsOf ds = some ns → ds = ns.map D.bl
  | [], _, h => by cases h; rfl
  | d :: r, ns, h => by
    cases d <;> simp only [boolsOf] at h <;> try (cases h)
    rename_i i
    cases q : boolsOf r with
    | none => rw [q] at h; cases h
    | some ms =>
      rw [q] at h; cases h
      rw [boolsOf_eq q]; rfl
theorem boolsOf_map : ∀ ns : List Bool, boolsOf (ns.map D.bl) = some ns
  | [] => rfl
  | n :: ns => by simp [boolsOf, boolsOf_map ns]
def fLen : List D → Option D
  | [.tup xs] => some (.int xs.length)
  | [.lst _ xs] => some (.int xs.length)
  | [.scr xs] => some (.int xs.length)
  | [.str x] => if lineOk x.length = true then some (.int x.length) else none
  | _ => none
def fAbs : List D → Option D
  | [.int i] => some (.int (if i < 0 then -i else i))
  | _ => none
def fInt : List D → Option D
  | [.int i] => some (.int i)
  | [.bl b] => some (.int (if b = true then 1 else 0))
  | _ => none
def fMax2 : List D → Option D
  | [.int i, .int j] => some (.int (if j > i then j else i))
  | _ => none
def fMin2 : List D → Option D
  | [.int i, .int j] => some (.int (if j < i then j else i))
  | _ => none
def strOk (i : Int) : Bool := tst (i.natAbs.log2 < 1920)
def fStr : List D → Option D
  | [.int i] => if strOk i = true then some (.str (toString i)) else none
  | _ => none
def fList : List D → Option D
  | [.tup xs] => if D.pures xs = true then some (.lst true xs) else none
  | [.lst _ xs] => if D.pures xs = true then some (.lst true xs) else none
  | [.scr ns] => some (.lst true (ns.map .int))
  | _ => none
def fTuple : List D → Option D
  | [.tup xs] => if D.pures xs = true then some (.tup xs) else none
  | [.lst _ xs] => if D.pures xs = true then some (.tup xs) else none
  | [.scr ns] => some (.tup (ns.map .int))
  | _ => none
def fSum : List D → Option D
  | [.lst _ xs] => (intsOf xs).map fun ns => .int ns.sum
  | [.scr ns] => some (.int ns.sum)
  | _ => none
def fMaxL : List D → Option D
  | [.lst _ xs] => (intsOf xs).bind fun ns => ns.max?.map .int
  | _ => none
def fMinL : List D → Option D
  | [.lst _ xs] => (intsOf xs).bind fun ns => ns.min?.map .int
  | _ => none
def fAll : List D → Option D
  | [.lst _ xs] => (boolsOf xs).map fun bs => .bl (bs.all id)
  | _ => none
def fAny : List D → Option D
  | [.lst _ xs] => (boolsOf xs).map fun bs => .bl (bs.any id)
  | _ => none
def tyOf : D → Option String
  | .non => some "NoneType" | .bl _ => some "bool" | .int _ => some "int" | .str _ => some "str"
  | .scr _ => some "list" | .tup _ => some "tuple" | .lst _ _ => some "list" | _ => none
def fIsi : List D → Option D
  | [d, .raw (.ty n)] => (tyOf d).bind fun t => (kitB t n).map .bl
  | _ => none
def fBits : D → Option D
  | .int i => some (.int (Builtin.Int.intBits i : Nat))
  | _ => none
section
variable {X : Cx} {K : PySem.W.Frag} {G H : Hp}
theorem Rps.one {d : D} {x : List V} {L : List Addr} (r : Rps K G H [d] x L) : ∃ v, x = [v] ∧ Rp K G H d v L := by
  cases r with
  | @cons _ _ _ _ L1 L2 h hs => cases hs; exact ⟨_, rfl, by simpa using h⟩
theorem Rps.two {d e : D} {x : List V} {L : List Addr} (r : Rps K G H [d, e] x L) : ∃ v w L1 L2, x = [v, w] ∧ Rp K G H d v L1 ∧ Rp K G H e w L2 ∧ L = L1 ++ L2 := by
  cases r with
  | cons h hs => obtain ⟨w, rfl, h2⟩ := hs.one; exact ⟨_, _, _, _, rfl, h, h2, rfl⟩
theorem on_len : OpN K (fun xs H Q => ∃ x n, xs = [x] ∧ LenV K x H n ∧ Q (.int n) H) fLen := by
  intro G H a c x La Q l ra e k
  unfold fLen at e
  split at e
  · obtain ⟨v, rfl, r⟩ := ra.one
    obtain ⟨p, vs, rfl, sa, qa⟩ := r.tup_inv
    cases e
    exact ⟨_, vs.length, rfl, .inr ⟨vs, l.sqT sa, rfl⟩, by rw [← qa.length]; exact fin l k (.int _)⟩
  · obtain ⟨v, rfl, r⟩ := ra.one
    obtain ⟨p, vs, L1, rfl, sa, qa, _⟩ := r.lst_inv l
    cases e
    exact ⟨_, vs.length, rfl, .inl ⟨vs, SqL.of sa, rfl⟩, by rw [← qa.length]; exact fin l k (.int _)⟩
  · obtain ⟨v, rfl, r⟩ := ra.one
    obtain ⟨p, rfl, _, sa⟩ := r.scr_inv
    cases e
    exact ⟨_, _, rfl, .inl ⟨_, l.sqL sa, rfl⟩, by rw [List.length_map]; exact fin l k (.int _)⟩
  · split at e
    · rename_i hl
      obtain ⟨v, rfl, r⟩ := ra.one
      obtain ⟨rfl, _⟩ := r.str_inv
      cases e
      exact ⟨_, _, rfl, ⟨lineOk_le hl, rfl⟩, fin l k (.int _)⟩
    · cases e
  · cases e
theorem on_abs : OpN K (fun xs H Q => ∃ i, xs = [.int i] ∧ Q (.int (if i < 0 then -i else i)) H) fAbs := by
  intro G H a c x La Q l ra e k
  unfold fAbs at e
  split at e
  · obtain ⟨v, rfl, r⟩ := ra.one
    obtain ⟨rfl, _⟩ := r.int_inv
    cases e
    exact ⟨_, rfl, fin l k (.int _)⟩
  · cases e
theorem on_int : OpN K (fun xs H Q => (∃ i, xs = [.int i] ∧ Q (.int i) H) ∨ ∃ k, xs = [.bl k] ∧ Q (.int (if k then 1 else 0)) H) fInt := by
  intro G H a c x La Q l ra e k
  unfold fInt at e
  split at e
  · obtain ⟨v, rfl, r⟩ := ra.one
    obtain ⟨rfl, _⟩ := r.int_inv
    cases e
    exact .inl ⟨_, rfl, fin l k (.int _)⟩
  · obtain ⟨v, rfl, r⟩ := ra.one
    obtain ⟨rfl, _⟩ := r.bl_inv
    cases e
    exact .inr ⟨_, rfl, fin l k (.int _)⟩
  · cases e
theorem on_max2 : OpN K (fun xs H Q => ∃ i j, xs = [.int i, .int j] ∧ Q (.int (if j > i then j else i)) H) fMax2 := by
  intro G H a c x La Q l ra e k
  unfold fMax2 at e
  split at e
  · obtain ⟨v, w, L1, L2, rfl, r1, r2, _⟩ := ra.two
    obtain ⟨rfl, _⟩ := r1.int_inv
    obtain ⟨rfl, _⟩ := r2.int_inv
    cases e
    exact ⟨_, _, rfl, fin l k (.int _)⟩
  · cases e
theorem on_min2 : OpN K (fun xs H Q => ∃ i j, xs = [.int i, .int j] ∧ Q (.int (if j < i then j else i)) H) fMin2 := by
  intro G H a c x La Q l ra e k
  unfold fMin2 at e
  split at e
  · obtain ⟨v, w, L1, L2, rfl, r1, r2, _⟩ := ra.two
    obtain ⟨rfl, _⟩ := r1.int_inv
    obtain ⟨rfl, _⟩ := r2.int_inv
    cases e
    exact ⟨_, _, rfl, fin l k (.int _)⟩
  · cases e
theorem on_str : OpN K (fun xs H Q => ∃ i, xs = [.int i] ∧ i.natAbs.log2 < 1920 ∧ Q (.str (toString i)) H) fStr := by
  intro G H a c x La Q l ra e k
  unfold fStr at e
  split at e
  · split at e
    · rename_i hl
      obtain ⟨v, rfl, r⟩ := ra.one
      obtain ⟨rfl, _⟩ := r.int_inv
      cases e
      exact ⟨_, rfl, of_tst hl, fin l k (.str _)⟩
    · cases e
  · cases e
theorem on_list : OpN K (fun xs H Q => ∃ p ys, xs = [.ref p] ∧ (SqL K H p ys ∨ SqT K H p ys) ∧ ∀ l, H l = none → Q (.ref l) (upd H l (.lst ys))) fList := by
  intro G H a c x La Q l ra e k
  unfold fList at e
  split at e
  · split at e
    · rename_i hp
      obtain ⟨v, rfl, r⟩ := ra.one
      obtain ⟨p, vs, rfl, sa, qa⟩ := r.tup_inv
      obtain rfl := qa.pure_nil hp
      cases e
      refine ⟨p, vs, rfl, .inr (l.sqT sa), fun t nt => ?_⟩
      have f := Fresh.lst l nt (.lst vs)
      exact k _ _ _ _ f (.lstO (l.none nt) upd_same (qa.fresh f))
    · cases e
  · split at e
    · rename_i hp
      obtain ⟨v, rfl, r⟩ := ra.one
      obtain ⟨p, vs, L1, rfl, sa, qa, _⟩ := r.lst_inv l
      obtain rfl := qa.pure_nil hp
      cases e
      refine ⟨p, vs, rfl, .inl (SqL.of sa), fun t nt => ?_⟩
      have f := Fresh.lst l nt (.lst vs)
      exact k _ _ _ _ f (.lstO (l.none nt) upd_same (qa.fresh f))
    · cases e
  · rename_i ns
    obtain ⟨v, rfl, r⟩ := ra.one
    obtain ⟨p, rfl, _, sa⟩ := r.scr_inv
    cases e
    refine ⟨p, _, rfl, .inl (l.sqL sa), fun t nt => ?_⟩
    have f := Fresh.lst l nt (.lst (ns.map V.int))
    exact k _ _ _ _ f (.lstO (l.none nt) upd_same (Rps.ints _))
  · cases e
theorem on_tuple : OpN K (fun xs H Q => ∃ p ys, xs = [.ref p] ∧ ((SqL K H p ys ∧ ∀ l, H l = none → Q (.ref l) (upd H l (.tup ys))) ∨ (SqT K H p ys ∧ Q (.ref p) H))) fTuple := by
  intro G H a c x La Q l ra e k
  unfold fTuple at e
  split at e
  · split at e
    · rename_i hp
      obtain ⟨v, rfl, r⟩ := ra.one
      obtain ⟨p, vs, rfl, sa, qa⟩ := r.tup_inv
      obtain rfl := qa.pure_nil hp
      cases e
      exact ⟨p, vs, rfl, .inr ⟨l.sqT sa, fin l k (.tup sa qa)⟩⟩
    · cases e
  · split at e
    · rename_i hp
      obtain ⟨v, rfl, r⟩ := ra.one
      obtain ⟨p, vs, L1, rfl, sa, qa, _⟩ := r.lst_inv l
      obtain rfl := qa.pure_nil hp
      cases e
      refine ⟨p, vs, rfl, .inl ⟨SqL.of sa, fun t nt => ?_⟩⟩
      have f := Fresh.laid l nt (.tup vs)
      exact k _ _ _ _ f (.tup (.inl (.inl upd_same)) (qa.fresh f))
    · cases e
  · rename_i ns
    obtain ⟨v, rfl, r⟩ := ra.one
    obtain ⟨p, rfl, _, sa⟩ := r.scr_inv
    cases e
    refine ⟨p, _, rfl, .inl ⟨l.sqL sa, fun t nt => ?_⟩⟩
    have f := Fresh.laid l nt (.tup (ns.map V.int))
    exact k _ _ _ _ f (.tup (.inl (.inl upd_same)) (Rps.ints _))
  · cases e
/-- a list of ints, wherever it comes from -/
theorem lst_ints {o : Bool} {xs : List D} {ns : List Int} {v : V} {L : List Addr} (l : Le G H) (r : Rp K G H (.lst o xs) v L) (h : intsOf xs = some ns) : ∃ p, v = .ref p ∧ SqL K H p (ns.map V.int) := by
  obtain ⟨p, vs, L1, rfl, sa, qa, _⟩ := r.lst_inv l
  rw [intsOf_eq h] at qa
  obtain ⟨rfl, _⟩ := qa.ints_inv
  exact ⟨p, rfl, SqL.of sa⟩
theorem Rps.bls_inv : ∀ {ns : List Bool} {vs : List V} {L : List Addr}, Rps K G H (ns.map D.bl) vs L → vs = ns.map V.bl ∧ L = []
  | [], _, _, h => by cases h; exact ⟨rfl, rfl⟩
  | n :: ns, _, _, h => by
    cases h with
    | cons h hs =>
      obtain ⟨rfl, rfl⟩ := h.bl_inv
      obtain ⟨rfl, rfl⟩ := Rps.bls_inv hs
      exact ⟨rfl, rfl⟩
theorem lst_bools {o : Bool} {xs : List D} {ns : List Bool} {v : V} {L : List Addr} (l : Le G H) (r : Rp K G H (.lst o xs) v L) (h : boolsOf xs = some ns) : ∃ p, v = .ref p ∧ SqL K H p (ns.map V.bl) := by
  obtain ⟨p, vs, L1, rfl, sa, qa, _⟩ := r.lst_inv l
  rw [boolsOf_eq h] at qa
  obtain ⟨rfl, _⟩ := qa.bls_inv
  exact ⟨p, rfl, SqL.of sa⟩
theorem on_sum : OpN K (rSum K) fSum := by
  intro G H a c x La Q l ra e k
  unfold fSum at e
  split at e
  · rename_i o xs
    obtain ⟨v, rfl, r⟩ := ra.one
    cases q : intsOf xs with
    | none => rw [q] at e; cases e
    | some ns =>
      rw [q] at e; cases e
      obtain ⟨p, rfl, sa⟩ := lst_ints l r q
      exact ⟨p, ns, rfl, sa, fin l k (.int _)⟩
  · obtain ⟨v, rfl, r⟩ := ra.one
    obtain ⟨p, rfl, _, sa⟩ := r.scr_inv
    cases e
    exact ⟨p, _, rfl, l.sqL sa, fin l k (.int _)⟩
  · cases e
theorem on_max : OpN K (rMax K) fMaxL := by
  intro G H a c x La Q l ra e k
  unfold fMaxL at e
  split at e
  · rename_i o xs
    obtain ⟨v, rfl, r⟩ := ra.one
    cases q : intsOf xs with
    | none => rw [q] at e; cases e
    | some ns =>
      rw [q] at e
      simp only [Option.bind_some] at e
      cases q2 : ns.max? with
      | none => rw [q2] at e; cases e
      | some m =>
        rw [q2] at e; cases e
        obtain ⟨p, rfl, sa⟩ := lst_ints l r q
        obtain ⟨hm, hu⟩ := List.max?_eq_some_iff.mp q2
        refine ⟨p, ns, rfl, sa, List.length_pos_of_mem hm, fun m' h1 h2 => ?_⟩
        have : m' = m := Int.le_antisymm (hu m' h1) (h2 m hm)
        subst this
        exact fin l k (.int _)
  · cases e
theorem on_min : OpN K (rMin K) fMinL := by
  intro G H a c x La Q l ra e k
  unfold fMinL at e
  split at e
  · rename_i o xs
    obtain ⟨v, rfl, r⟩ := ra.one
    cases q : intsOf xs with
    | none => rw [q] at e; cases e
    | some ns =>
      rw [q] at e
      simp only [Option.bind_some] at e
      cases q2 : ns.min? with
      | none => rw [q2] at e; cases e
      | some m =>
        rw [q2] at e; cases e
        obtain ⟨p, rfl, sa⟩ := lst_ints l r q
        obtain ⟨hm, hu⟩ := List.min?_eq_some_iff.mp q2
        refine ⟨p, ns, rfl, sa, List.length_pos_of_mem hm, fun m' h1 h2 => ?_⟩
        have : m' = m := Int.le_antisymm (h2 m hm) (hu m' h1)
        subst this
        exact fin l k (.int _)
  · cases e
theorem on_all : OpN K (rAll K) fAll := by
  intro G H a c x La Q l ra e k
  unfold fAll at e
  split at e
  · rename_i o xs
    obtain ⟨v, rfl, r⟩ := ra.one
    cases q : boolsOf xs with
    | none => rw [q] at e; cases e
    | some ns =>
      rw [q] at e; cases e
      obtain ⟨p, rfl, sa⟩ := lst_bools l r q
      exact ⟨p, ns, rfl, sa, fin l k (.bl _)⟩
  · cases e
theorem on_any : OpN K (rAny K) fAny := by
  intro G H a c x La Q l ra e k
  unfold fAny at e
  split at e
  · rename_i o xs
    obtain ⟨v, rfl, r⟩ := ra.one
    cases q : boolsOf xs with
    | none => rw [q] at e; cases e
    | some ns =>
      rw [q] at e; cases e
      obtain ⟨p, rfl, sa⟩ := lst_bools l r q
      exact ⟨p, ns, rfl, sa, fin l k (.bl _)⟩
  · cases e
theorem tyOf_ok {d : D} {x : V} {L : List Addr} {t : String} (r : Rp K G H d x L) (l : Le G H) (h : tyOf d = some t) : TyX K H x (.type t) := by
  cases d <;> simp only [tyOf, reduceCtorEq, Option.some.injEq] at h <;> subst h
  · obtain ⟨rfl, _⟩ := r.non_inv; exact .base .non
  · obtain ⟨rfl, _⟩ := r.bl_inv; exact .base (.bl _)
  · obtain ⟨rfl, _⟩ := r.int_inv; exact .base (.int _)
  · obtain ⟨rfl, _⟩ := r.str_inv; exact .base (.str _)
  · obtain ⟨p, rfl, _, sa⟩ := r.scr_inv
    rcases l.sqL sa with (h | ⟨o, h⟩) | ⟨o, its, n, h, c, _⟩
    · exact .base (.lst h)
    · exact .base (.frz h)
    · exact .kList h c
  · obtain ⟨p, vs, rfl, sa, _⟩ := r.tup_inv
    rcases l.sqT sa with (h | ⟨o, h⟩) | ⟨o, its, n, h, c, _⟩
    · exact .base (.tup h)
    · exact .fTuple h
    · exact .kTuple h c
  · obtain ⟨p, vs, _, rfl, sa, _, _⟩ := r.lst_inv l
    exact .base (.lst sa)
theorem on_isi : OpN K (rIsi K) fIsi := by
  intro G H a c x La Q l ra e k
  unfold fIsi at e
  split at e
  · rename_i d n
    obtain ⟨v, w, L1, L2, rfl, r1, r2, _⟩ := ra.two
    obtain ⟨rfl, _⟩ := r2.raw_inv
    cases q : tyOf d with
    | none => rw [q] at e; cases e
    | some t =>
      rw [q] at e
      simp only [Option.bind_some] at e
      cases q2 : kitB t n with
      | none => rw [q2] at e; cases e
      | some b =>
        rw [q2] at e; cases e
        exact ⟨v, .ty n, .type t, .type n, b, rfl, .ty n, tyOf_ok r1 l q, kit_ty q2, fin l k (.bl _)⟩
  · cases e
theorem ev_bits {o s : Bool} {e : Expr} {F : En → Option (D × En)} {apos pos : Pos} (ho : Ev X o s e F) (hbase : attributeBase e "bit_length" X.env (eval e X.env) = eval e X.env := by rfl) (hline : (apos.endLine == pos.line) = true := by rfl) :
    Ev X true s (.Call (.Attribute e "bit_length" apos) [] [] pos) (b1 fBits F) := peM (pe_bits ho hbase hline) fun σ H Q h => by
  have z : Op1 X.K (fun x H1 Q => ∃ i, x = .int i ∧ Q (.int (Builtin.Int.intBits i : Nat)) H1) fBits := by
    intro G H a c x La Q l ra e k
    unfold fBits at e
    split at e
    · obtain ⟨rfl, _⟩ := ra.int_inv
      cases e
      exact ⟨_, rfl, fin l k (.int _)⟩
    · cases e
  exact op1_lift z σ H Q h
end
end
end Pz

set_option Elab.async false
set_option linter.all false
set_option maxRecDepth 100000
set_option maxHeartbeats 1000000
namespace Pz
open PySem L2
noncomputable section

inductive Fl where
  | nx | bk | ct | rt (d : D)
def Keep (W : List Nat) (σ σ' : St) : Prop := σ'.length = σ.length ∧ ∀ j, j ∉ W → σ'[j]? = σ[j]?
theorem Keep.refl (W : List Nat) (σ : St) : Keep W σ σ := ⟨rfl, fun _ _ => rfl⟩
theorem Keep.trans {W W' W'' : List Nat} {σ σ' σ'' : St} (a : Keep W σ σ') (b : Keep W' σ' σ'') (h : ∀ j, j ∈ W ∨ j ∈ W' → j ∈ W'') : Keep W'' σ σ'' := ⟨b.1.trans a.1, fun j n => (b.2 j fun z => n (h j (.inr z))).trans (a.2 j fun z => n (h j (.inl z)))⟩
theorem Keep.sub {W W' : List Nat} {σ σ' : St} (a : Keep W σ σ') (h : ∀ j, j ∈ W → j ∈ W') : Keep W' σ σ' := ⟨a.1, fun j n => a.2 j fun z => n (h j z)⟩

section
variable (K : PySem.W.Frag)
def Post (W : List Nat) (D : Ends) (σ : St) (G H : Hp) (L : List Addr) : Fl → En → Prop
  | .nx, env' => ∀ σ' G' H' L', RSt K σ' G' H' env' L' → Keep W σ σ' → Ext L G H G' H' L' → D.nx σ' H'
  | .bk, env' => ∀ σ' G' H' L', RSt K σ' G' H' env' L' → Keep W σ σ' → Ext L G H G' H' L' → D.bk σ' H'
  | .ct, env' => ∀ σ' G' H' L', RSt K σ' G' H' env' L' → Keep W σ σ' → Ext L G H G' H' L' → D.ct σ' H'
  | .rt d, env' => ∀ σ' v G' H' L' Lr, RSt K σ' G' H' env' L' → Keep W σ σ' → Rp K G' H' d v Lr → (L' ++ Lr).Nodup → Ext L G H G' H' (L' ++ Lr) → D.rt v H'
def tS (W : List Nat) (F : En → Option (Fl × En)) : TS := fun D σ H => ∃ G env L, RSt K σ G H env L ∧ ∃ fl env', F env = some (fl, env') ∧ Post K W D σ G H L fl env'
/-- a target: stores a value -/
def tG (W : List Nat) (F : D → En → Option En) : TG := fun v σ H Q => ∃ G env L d Lr, RSt K σ G H env L ∧ Rp K G H d v Lr ∧ (L ++ Lr).Nodup ∧ ∃ env', F d env = some env' ∧
  ∀ σ' G' H' L', RSt K σ' G' H' env' L' → Keep W σ σ' → Ext (L ++ Lr) G H G' H' L' → Q σ' H'
def tGs (W : List Nat) (F : List D → En → Option En) : TGs := fun v σ H Q => ∃ G env L d Lr, RSt K σ G H env L ∧ Rps K G H d v Lr ∧ (L ++ Lr).Nodup ∧ ∃ env', F d env = some env' ∧
  ∀ σ' G' H' L', RSt K σ' G' H' env' L' → Keep W σ σ' → Ext (L ++ Lr) G H G' H' L' → Q σ' H'
end
theorem Post.mono {K : PySem.W.Frag} {W W' : List Nat} {D D' : Ends} {σ σ0 : St} {G G0 H H0 : Hp} {L L0 : List Addr} {fl : Fl} {env' : En} (p : Post K W' D' σ0 G0 H0 L0 fl env')
    (hk : ∀ σ', Keep W σ σ' → Keep W' σ0 σ') (hx : ∀ G' H' L', Ext L G H G' H' L' → Ext L0 G0 H0 G' H' L') (hn : ∀ σ' H', D'.nx σ' H' → D.nx σ' H') (hb : ∀ σ' H', D'.bk σ' H' → D.bk σ' H') (hc : ∀ σ' H', D'.ct σ' H' → D.ct σ' H') (hr : ∀ v H', D'.rt v H' → D.rt v H') : Post K W D σ G H L fl env' := by
  cases fl with
  | nx => exact fun σ' G' H' L' R k x => hn _ _ (p σ' G' H' L' R (hk _ k) (hx _ _ _ x))
  | bk => exact fun σ' G' H' L' R k x => hb _ _ (p σ' G' H' L' R (hk _ k) (hx _ _ _ x))
  | ct => exact fun σ' G' H' L' R k x => hc _ _ (p σ' G' H' L' R (hk _ k) (hx _ _ _ x))
  | rt d => exact fun σ' v G' H' L' Lr R k r n x => hr _ _ (p σ' v G' H' L' Lr R (hk _ k) r n (hx _ _ _ x))
abbrev Sv (X : Cx) (W : List Nat) (st : Stmt) (F : En → Option (Fl × En)) : Prop := PS X st (tS X.K W F)
abbrev Bv (X : Cx) (W : List Nat) (st : List Stmt) (F : En → Option (Fl × En)) : Prop := PSs X st (tS X.K W F)
abbrev Gv (X : Cx) (W : List Nat) (e : Expr) (F : D → En → Option En) : Prop := PG X e (tG X.K W F)
abbrev Gvs (X : Cx) (W : List Nat) (es : List Expr) (F : List D → En → Option En) : Prop := PGs X es (tGs X.K W F)
theorem psM {X : Cx} {e : Stmt} {t u : TS} (h : PS X e t) (k : ∀ D σ H, u D σ H → t D σ H) : PS X e u := ⟨fun pins s σ H D I hw => h.run pins s σ H D I (k D σ H hw)⟩
theorem pssM {X : Cx} {e : List Stmt} {t u : TS} (h : PSs X e t) (k : ∀ D σ H, u D σ H → t D σ H) : PSs X e u := ⟨fun pins s σ H D I hw => h.run pins s σ H D I (k D σ H hw)⟩
theorem pgM {X : Cx} {e : Expr} {t u : TG} (h : PG X e t) (k : ∀ v σ H Q, u v σ H Q → t v σ H Q) : PG X e u := ⟨fun pins s σ H v w Q I r hw => h.run pins s σ H v w Q I r (k v σ H Q hw)⟩
theorem pgsM {X : Cx} {e : List Expr} {t u : TGs} (h : PGs X e t) (k : ∀ v σ H Q, u v σ H Q → t v σ H Q) : PGs X e u := ⟨fun pins s σ H v w Q I r hw => h.run pins s σ H v w Q I r (k v σ H Q hw)⟩

/-! ### storing at a slot -/
def put (i : Nat) (d : D) (env : En) : Option En := if i < env.length then some (env.set i (some d)) else none
theorem put_some {i : Nat} {d : D} {env env' : En} (h : put i d env = some env') : i < env.length ∧ env' = env.set i (some d) := by
  unfold put at h
  split at h
  · rename_i q; cases h; exact ⟨q, rfl⟩
  · cases h
theorem set_keep {σ : St} {i : Nat} {o : Option V} : Keep [i] σ (σ.set i o) := ⟨by simp, fun j n => List.getElem?_set_ne fun e => n (by simp [e])⟩
/-- the state behind a store -/
theorem RSt.put {K : PySem.W.Frag} {σ : St} {G H : Hp} {env env' : En} {L Lr : List Addr} {i : Nat} {d : D} {v : V} (R : RSt K σ G H env L) (r : Rp K G H d v Lr) (n : (L ++ Lr).Nodup) (h : Pz.put i d env = some env') :
    ∃ L', RSt K (σ.set i (some v)) G H env' L' ∧ ∀ a ∈ L', a ∈ L ++ Lr := by
  obtain ⟨hi, rfl⟩ := put_some h
  obtain ⟨La, Li, Lb, e0, _, f⟩ := R.rep.at hi
  have q := (f (Le.refl G) fun a z => ⟨(R.rep.own a (by rw [e0]; rcases List.mem_append.mp z with z | z <;> simp [z])).1, rfl⟩).1 r
  refine ⟨_, ⟨R.le, q, ?_⟩, fun a z => ?_⟩
  · subst e0
    rw [List.nodup_append] at n
    obtain ⟨n1, n2, n3⟩ := n
    rw [List.nodup_append] at n1
    obtain ⟨n4, n5, n6⟩ := n1
    rw [List.nodup_append] at n4
    obtain ⟨n7, n8, n9⟩ := n4
    refine List.nodup_append.mpr ⟨List.nodup_append.mpr ⟨n7, n2, fun a ha b hb e => n3 a (by simp [ha]) b hb e⟩, n5, fun a ha b hb e => ?_⟩
    rcases List.mem_append.mp ha with z | z
    · exact n6 a (List.mem_append_left _ z) b hb e
    · exact n3 b (by simp [hb]) a z e.symm
  · subst e0
    simp only [List.mem_append] at z ⊢
    rcases z with (z | z) | z <;> simp [z]
theorem gv_name {X : Cx} {i : Nat} {x : Str} {pos : Pos} (hN : X.N.Nodup) (hi : X.N[i]? = some x) (hx : Loc X.env.scope x) (hf : X.fn x = true ∨ X.env.scope.names.lookup x = some .local := by first | exact .inl rfl | exact .inr rfl | assumption) :
    Gv X [i] (.Name x pos) (put i) := pgM (pg_name hN hi hx hf) fun v σ H Q ⟨G, env, L, d, Lr, R, r, n, env', hf, k⟩ => by
  obtain ⟨L', R', s⟩ := R.put r n hf
  exact k _ G H L' R' set_keep ⟨Le.refl _, fun _ _ _ => rfl, fun _ h => .inl h, fun a z => .inl (s a z)⟩
def gsNil : List D → En → Option En
  | [], env => some env
  | _, _ => none
def gsCons (F : D → En → Option En) (FR : List D → En → Option En) : List D → En → Option En
  | d :: ds, env => (F d env).bind (FR ds)
  | [], _ => none
theorem gvs_nil {X : Cx} : Gvs X [] [] gsNil := pgsM pgs_nil fun v σ H Q ⟨G, env, L, d, Lr, R, r, n, env', hf, k⟩ => by
  cases d with
  | nil =>
    cases hf
    cases r
    exact ⟨rfl, k σ G H L R (Keep.refl _ _) (Ext.refl fun b z => by simpa using z)⟩
  | cons _ _ => cases hf
theorem gvs_cons {X : Cx} {W1 W2 : List Nat} {e : Expr} {es : List Expr} {F : D → En → Option En} {FR : List D → En → Option En} (h1 : Gv X W1 e F) (h2 : Gvs X W2 es FR)
    (hs : (assignEach (e :: es) X.env).map (·.2) = assign e X.env :: (assignEach es X.env).map (·.2) := by rfl) : Gvs X (W1 ++ W2) (e :: es) (gsCons F FR) :=
  pgsM (pgs_cons h1 h2 hs) fun v σ H Q ⟨G, env, L, d, Lr, R, r, n, env', hf, k⟩ => by
    cases d with
    | nil => cases hf
    | cons d ds =>
    cases r with
    | @cons _ v _ vs L1 L2 r rs =>
    simp only [gsCons] at hf
    cases q : F d env with
    | none => rw [q] at hf; simp at hf
    | some e1 =>
    rw [q] at hf
    simp only [Option.bind_some] at hf
    refine ⟨v, vs, rfl, G, env, L, d, L1, R, r, n.sublist (by simp), e1, q, fun σ1 G1 H1 Lx R1 k1 x1 => ?_⟩
    have apart : ∀ a ∈ L2, a ∉ L ++ L1 := fun a ha hb => by
      have n' : ((L ++ L1) ++ L2).Nodup := by simpa using n
      exact (List.nodup_append.mp n').2.2 a hb a ha rfl
    have rs1 : Rps X.K G1 H1 ds vs L2 := rs.mono x1.le fun a ha => x1.keep (apart a ha) (rs.own a ha).1 (rs.own a ha).2
    have n2 : L2.Nodup := n.sublist (by simp)
    refine ⟨G1, e1, Lx, ds, L2, R1, rs1, List.nodup_append.mpr ⟨R1.nd, n2, fun a ha b hb e => ?_⟩, env', hf, fun σ2 G2 H2 Ly R2 k2 x2 => k σ2 G2 H2 Ly R2 (k1.trans k2 fun j z => by simpa using z) ?_⟩
    · subst e
      rcases x1.own a ha with z | z
      · exact apart a hb z
      · exact (rs.own a hb).2 z
    · have x1' : Ext (L ++ (L1 ++ L2)) G H G1 H1 (Lx ++ L2) := by
        refine ⟨x1.le, fun b nb hb => x1.fr b (fun z => nb (by simp only [List.mem_append] at z ⊢; rcases z with z | z <;> simp [z])) hb, fun b hb => (x1.gd b hb).imp id fun z => z.imp (fun z => by simp only [List.mem_append] at z ⊢; rcases z with z | z <;> simp [z]) id, fun b hb => ?_⟩
        rcases List.mem_append.mp hb with z | z
        · exact (x1.own b z).imp (fun z => by simp only [List.mem_append] at z ⊢; rcases z with z | z <;> simp [z]) id
        · exact .inl (by simp [z])
      exact x1'.trans x2 fun b hb => x1'.own b hb
/-- a, b = a tuple -/
def gTupF (F : List D → En → Option En) : D → En → Option En
  | .tup ds, env => F ds env
  | _, _ => none
theorem gv_tup {X : Cx} {W : List Nat} {es : List Expr} {k : Nat} {pos : Pos} {F : List D → En → Option En} (hc : X.calm = true) (h : Gvs X W es F) (hl : ∀ ds env env', F ds env = some env' → ds.length = es.length)
    (hn : (assignEach es X.env).length = es.length := by rfl) (hst : (assignEach es X.env).findIdx? (·.1) = none := by rfl) : Gv X W (.Tuple es k pos) (gTupF F) :=
  pgM (pg_tup hc h hn hst) fun v σ H Q ⟨G, env, L, d, Lr, R, r, n, env', hf, k⟩ => by
    cases d <;> simp only [gTupF, reduceCtorEq] at hf
    obtain ⟨a, vs, rfl, sa, qa⟩ := r.tup_inv
    exact ⟨a, vs, rfl, R.le.sqT sa, by rw [← qa.length]; exact hl _ _ _ hf, G, env, L, _, Lr, R, qa, n, env', hf, k⟩

/-! ### blocks -/
def seqF (F1 F2 : En → Option (Fl × En)) : En → Option (Fl × En) := fun env => (F1 env).bind fun r => match r.1 with
  | .nx => F2 r.2
  | fl => some (fl, r.2)
def nxF : En → Option (Fl × En) := fun env => some (.nx, env)
def bkF : En → Option (Fl × En) := fun env => some (.bk, env)
def ctF : En → Option (Fl × En) := fun env => some (.ct, env)
def nvF : En → Option (Fl × En) := fun _ => none
section
variable {X : Cx} {st : Stmt} {rest sa sb : List Stmt} {F F1 F2 : En → Option (Fl × En)} {FE : En → Option (D × En)} {FT : En → Option (Bool × En)} {W W1 W2 : List Nat} {e c : Expr} {o s : Bool} {pos : Pos}
theorem bv_nil : Bv X [] [] nxF := pssM pss_nil fun D σ H ⟨G, env, L, R, fl, env', hf, k⟩ => by
  cases hf
  exact k σ G H L R (Keep.refl _ _) (Ext.refl fun _ z => z)
theorem bv_one (h : Sv X W st F) : Bv X W [st] F := pss_one h
theorem bv_cons (h1 : Sv X W1 st F1) (h2 : Bv X W2 rest F2) : Bv X (W1 ++ W2) (st :: rest) (seqF F1 F2) := pssM (pss_cons h1 h2) fun D σ H ⟨G, env, L, R, fl, env', hf, k⟩ => by
  unfold seqF at hf
  cases q : F1 env with
  | none => rw [q] at hf; simp at hf
  | some r =>
  obtain ⟨f1, e1⟩ := r
  rw [q] at hf
  simp only [Option.bind_some] at hf
  refine ⟨G, env, L, R, f1, e1, q, ?_⟩
  have hk : ∀ σ', Keep W1 σ σ' → Keep (W1 ++ W2) σ σ' := fun σ' z => z.sub fun j h => List.mem_append_left _ h
  cases f1 with
  | nx =>
    intro σ1 G1 H1 L1 R1 k1 x1
    refine ⟨G1, e1, L1, R1, fl, env', hf, k.mono (fun σ' z => k1.trans z fun j h => by simpa using h) (fun _ _ _ x => x1.trans x fun a z => x1.own a z) (fun _ _ z => z) (fun _ _ z => z) (fun _ _ z => z) fun _ _ z => z⟩
  | bk => cases hf; exact fun σ' G' H' L' R' k' x' => k σ' G' H' L' R' (hk _ k') x'
  | ct => cases hf; exact fun σ' G' H' L' R' k' x' => k σ' G' H' L' R' (hk _ k') x'
  | rt d => cases hf; exact fun σ' v G' H' L' Lr R' k' r' n' x' => k σ' v G' H' L' Lr R' (hk _ k') r' n' x'
theorem sv_pass : Sv X [] (.Pass pos) nxF := psM ps_pass fun D σ H ⟨G, env, L, R, fl, env', hf, k⟩ => by
  cases hf
  exact k σ G H L R (Keep.refl _ _) (Ext.refl fun _ z => z)
theorem sv_break : Sv X [] (.Break pos) bkF := psM ps_break fun D σ H ⟨G, env, L, R, fl, env', hf, k⟩ => by
  cases hf
  exact k σ G H L R (Keep.refl _ _) (Ext.refl fun _ z => z)
theorem sv_continue : Sv X [] (.Continue pos) ctF := psM ps_continue fun D σ H ⟨G, env, L, R, fl, env', hf, k⟩ => by
  cases hf
  exact k σ G H L R (Keep.refl _ _) (Ext.refl fun _ z => z)
/-- what this proof never comes to -/
theorem sv_never : Sv X [] st nvF := psM ps_never fun D σ H ⟨G, env, L, R, fl, env', hf, k⟩ => by cases hf
theorem bv_never : Bv X [] rest nvF := pssM pss_never fun D σ H ⟨G, env, L, R, fl, env', hf, k⟩ => by cases hf
def exF (F : En → Option (D × En)) : En → Option (Fl × En) := fun env => (F env).map fun a => (.nx, a.2)
theorem sv_expr (h : Ev X o s e FE) (hs : swapsWith e none pos.line X.env = pure false := by rfl) : Sv X [] (.Expr e pos) (exF FE) := psM (ps_expr h hs) fun D σ H ⟨G, env, L, R, fl, env', hf, k⟩ => by
  unfold exF at hf
  cases q : FE env with
  | none => rw [q] at hf; simp at hf
  | some r =>
    rw [q] at hf
    simp only [Option.map_some, Option.some.injEq, Prod.mk.injEq] at hf
    obtain ⟨rfl, rfl⟩ := hf
    exact ⟨G, env, L, R, r.1, r.2, q, fun v G1 H1 L1 Lr R1 r1 n1 st1 x1 => k σ G1 H1 L1 R1 (Keep.refl _ _) (x1.sub fun a z => x1.own a (List.mem_append_left _ z))⟩
def rtF (F : En → Option (D × En)) : En → Option (Fl × En) := fun env => (F env).map fun a => (.rt a.1, a.2)
theorem sv_ret (h : Ev X true s e FE) : Sv X [] (.Return (some e) pos) (rtF FE) := psM (ps_ret h) fun D σ H ⟨G, env, L, R, fl, env', hf, k⟩ => by
  unfold rtF at hf
  cases q : FE env with
  | none => rw [q] at hf; simp at hf
  | some r =>
    rw [q] at hf
    simp only [Option.map_some, Option.some.injEq, Prod.mk.injEq] at hf
    obtain ⟨rfl, rfl⟩ := hf
    exact ⟨G, env, L, R, r.1, r.2, q, fun v G1 H1 L1 Lr R1 r1 n1 st1 x1 => k σ v G1 H1 L1 Lr R1 (Keep.refl _ _) r1 (n1 rfl) x1⟩
def rnF : En → Option (Fl × En) := fun env => some (.rt .non, env)
theorem sv_retN : Sv X [] (.Return none pos) rnF := psM ps_retN fun D σ H ⟨G, env, L, R, fl, env', hf, k⟩ => by
  cases hf
  exact k σ .non G H L [] R (Keep.refl _ _) .non (by simpa using R.nd) (Ext.refl fun _ z => by simpa using z)
/-- return x: the value leaves with the frame -/
def rmF (i : Nat) : En → Option (Fl × En) := fun env => (env[i]?).bind fun o => o.map fun d => (.rt d, env.set i none)
theorem sv_retMove {i : Nat} (h : PE X e (tVar i)) : Sv X [] (.Return (some e) pos) (rmF i) := psM (ps_ret h) fun D σ H ⟨G, env, L, R, fl, env', hf, k⟩ => by
  unfold rmF at hf
  cases q : env[i]? with
  | none => rw [q] at hf; simp at hf
  | some o =>
    cases o with
    | none => rw [q] at hf; simp at hf
    | some d =>
      rw [q] at hf
      simp only [Option.bind_some, Option.map_some, Option.some.injEq, Prod.mk.injEq] at hf
      obtain ⟨rfl, rfl⟩ := hf
      obtain ⟨hi, _⟩ := List.getElem?_eq_some_iff.mp q
      obtain ⟨La, Li, Lb, e0, f, g⟩ := R.rep.at hi
      obtain ⟨v, ev, r⟩ := f d q
      refine ⟨v, ev, ?_⟩
      have g' := (g (Le.refl G) (H' := H) fun a z => ⟨(R.rep.own a (by rw [e0]; rcases List.mem_append.mp z with z | z <;> simp [z])).1, rfl⟩).2 (some v)
      have eσ : σ.set i (some v) = σ := by
        refine List.ext_getElem? fun j => ?_
        by_cases hj : i = j
        · subst hj
          obtain ⟨hl, _⟩ := List.getElem?_eq_some_iff.mp ev
          rw [List.getElem?_set_self hl, ev]
        · rw [List.getElem?_set_ne hj]
      rw [eσ] at g'
      have nd : (La ++ Li ++ Lb).Nodup := e0 ▸ R.nd
      have nd2 : (La ++ Lb ++ Li).Nodup := by
        rw [List.nodup_append] at nd
        obtain ⟨n1, n2, n3⟩ := nd
        rw [List.nodup_append] at n1
        obtain ⟨n4, n5, n6⟩ := n1
        refine List.nodup_append.mpr ⟨List.nodup_append.mpr ⟨n4, n2, fun a ha b hb e => n3 a (by simp [ha]) b hb e⟩, n5, fun a ha b hb e => ?_⟩
        rcases List.mem_append.mp ha with z | z
        · exact n6 a z b hb e
        · exact n3 b (by simp [hb]) a z e.symm
      exact k σ v G H (La ++ Lb) Li ⟨R.le, g', nd2.sublist (List.sublist_append_left _ _)⟩ (Keep.refl _ _) r nd2 (Ext.refl fun a z => by
        rw [e0]; simp only [List.mem_append] at z ⊢; rcases z with (z | z) | z <;> simp [z])
def stF (F : En → Option (D × En)) (T : D → En → Option En) : En → Option (Fl × En) := fun env => (F env).bind fun a => (T a.1 a.2).map fun e => (.nx, e)
theorem asg_lift {tg : Expr} {T : D → En → Option En} {K : PySem.W.Frag} (D : Ends) (σ : St) (H : Hp) (h : tS K W (stF FE T) D σ H) : tAsg (tE K true s FE) (tG K W T) D σ H := by
  obtain ⟨G, env, L, R, fl, env', hf, k⟩ := h
  unfold stF at hf
  cases q : FE env with
  | none => rw [q] at hf; simp at hf
  | some r =>
  obtain ⟨d, e1⟩ := r
  rw [q] at hf
  simp only [Option.bind_some] at hf
  cases q2 : T d e1 with
  | none => rw [q2] at hf; simp at hf
  | some e2 =>
  rw [q2] at hf
  simp only [Option.map_some, Option.some.injEq, Prod.mk.injEq] at hf
  obtain ⟨rfl, rfl⟩ := hf
  exact ⟨G, env, L, R, d, e1, q, fun v G1 H1 L1 Lr R1 r1 n1 st1 x1 => ⟨G1, e1, L1, d, Lr, R1, r1, n1 rfl, e2, q2, fun σ2 G2 H2 L2 R2 k2 x2 => k σ2 G2 H2 L2 R2 k2 (x1.trans x2 fun a z => x1.own a z)⟩⟩
theorem sv_asg {tg : Expr} {T : D → En → Option En} (he : Ev X true s e FE) (hg : Gv X W tg T) (hs : swapsWithSole [tg] e pos.line X.env = pure false := by rfl) (hw : swappedStores [tg] e X.env = pure none := by rfl)
    (h1 : (assignEach [tg] X.env).map (·.2) = [assign tg X.env] := by rfl) : Sv X W (.Assign [tg] e pos) (stF FE T) := psM (ps_asg he hg hs hw h1) (asg_lift (tg := tg))
theorem sv_set {i : Nat} {x : Str} {pos' : Pos} (hN : X.N.Nodup) (hi : X.N[i]? = some x) (hx : Loc X.env.scope x) (he : Ev X true s e FE) (hs : swapsWith e (some (.Name x pos')) pos.line X.env = pure false := by rfl)
    (hf : X.fn x = true ∨ X.env.scope.names.lookup x = some .local := by first | exact .inl rfl | exact .inr rfl | assumption) : Sv X [i] (.Assign [.Name x pos'] e pos) (stF FE (put i)) :=
  psM (ps_set hN hi hx he hs hf) fun D σ H h => by
    obtain ⟨G, env, L, R, fl, env', hff, k⟩ := h
    unfold stF at hff
    cases q : FE env with
    | none => rw [q] at hff; simp at hff
    | some r =>
    obtain ⟨d, e1⟩ := r
    rw [q] at hff
    simp only [Option.bind_some] at hff
    cases q2 : put i d e1 with
    | none => rw [q2] at hff; simp at hff
    | some e2 =>
    rw [q2] at hff
    simp only [Option.map_some, Option.some.injEq, Prod.mk.injEq] at hff
    obtain ⟨rfl, rfl⟩ := hff
    refine ⟨G, env, L, R, d, e1, q, fun v G1 H1 L1 Lr R1 r1 n1 st1 x1 => ?_⟩
    obtain ⟨L', R', ss⟩ := R1.put r1 (n1 rfl) q2
    exact k _ G1 H1 L' R' set_keep (x1.sub fun a z => x1.own a (ss a z))
/-- a, b = x, y -/
def parF (F : En → Option (List D × En)) (i j : Nat) : En → Option (Fl × En) := fun env => (F env).bind fun a => match a.1 with
  | [d, e] => (put i d a.2).bind fun e1 => (put j e e1).map fun e2 => (.nx, e2)
  | _ => none
theorem sv_par {i j : Nat} {x y : Str} {a b : Expr} {FA : En → Option (List D × En)} {px py pt : Pos} {kt k2 pt2} (hc : X.calm = true) (hN : X.N.Nodup) (hi : X.N[i]? = some x) (hj : X.N[j]? = some y) (hij : i ≠ j)
    (hx : X.env.scope.names.lookup x = some .local) (hy : X.env.scope.names.lookup y = some .local) (ha : Av X true s [a, b] FA)
    (hw : swappedStores [.Tuple [.Name x px, .Name y py] kt pt] (.Tuple [a, b] k2 pt2) X.env = pure (some [x, y]))
    (hs : swapsWithSole [.Tuple [.Name x px, .Name y py] kt pt] (.Tuple [a, b] k2 pt2) pos.line X.env = pure false := by rfl) :
    Sv X [i, j] (.Assign [.Tuple [.Name x px, .Name y py] kt pt] (.Tuple [a, b] k2 pt2) pos) (parF FA i j) := psM (ps_par hc hN hi hj hij hx hy ha hw hs) fun D σ H h => by
  obtain ⟨G, env, L, R, fl, env', hff, k⟩ := h
  unfold parF at hff
  cases q : FA env with
  | none => rw [q] at hff; simp at hff
  | some r =>
  obtain ⟨ds, e1⟩ := r
  rw [q] at hff
  simp only [Option.bind_some] at hff
  cases ds with
  | nil => simp at hff
  | cons d1 t =>
  cases t with
  | nil => simp at hff
  | cons d2 t =>
  cases t with
  | cons _ _ => simp at hff
  | nil =>
    simp only at hff
    cases q2 : put i d1 e1 with
    | none => rw [q2] at hff; simp at hff
    | some e2 =>
    rw [q2] at hff
    simp only [Option.bind_some] at hff
    cases q3 : put j d2 e2 with
    | none => rw [q3] at hff; simp at hff
    | some e3 =>
    rw [q3] at hff
    simp only [Option.map_some, Option.some.injEq, Prod.mk.injEq] at hff
    obtain ⟨rfl, rfl⟩ := hff
    refine ⟨G, env, L, R, _, e1, q, fun vs G1 H1 L1 Lr R1 r1 n1 st1 x1 => ?_⟩
    obtain ⟨v, w, La, Lb, rfl, ra, rb, rfl⟩ := r1.two
    have nn := n1 rfl
    obtain ⟨L', R', s1⟩ := R1.put ra (nn.sublist (by simp)) q2
    obtain ⟨L'', R'', s2⟩ := R'.put rb (List.nodup_append.mpr ⟨R'.nd, nn.sublist (by simp), fun a ha b hb e => by
      subst e
      have nn' : ((L1 ++ La) ++ Lb).Nodup := by simpa using nn
      exact (List.nodup_append.mp nn').2.2 a (s1 a ha) a hb rfl⟩) q3
    refine ⟨v, w, rfl, k _ G1 H1 L'' R'' (set_keep.trans set_keep fun z hz => ?_) (x1.sub fun a z => x1.own a ?_)⟩
    · rcases hz with hz | hz <;> simp only [List.mem_singleton] at hz <;> simp [hz]
    · rcases List.mem_append.mp (s2 a z) with w | w
      · have := s1 a w
        simp only [List.mem_append] at this ⊢
        rcases this with w | w <;> simp [w]
      · simp [w]
/-- x op= e, nothing owned -/
def agF (i : Nat) (f : D → D → Option D) (F : En → Option (D × En)) : En → Option (Fl × En) := fun env => (nmF i env).bind fun x => if x.1.pure = true then (F env).bind fun a => (f x.1 a.1).bind fun c => (put i c a.2).map fun e => (.nx, e) else none
theorem sv_aug {i : Nat} {x : Str} {op : Operator} {ti : TIp} {f : D → D → Option D} {pos' : Pos} (hN : X.N.Nodup) (hi : X.N[i]? = some x) (hx : Loc X.env.scope x) (he : Ev X true s e FE) (ho : PIp X op ti) (hop : Op2 X.K ti f)
    (hf : X.fn x = true ∨ X.env.scope.names.lookup x = some .local := by first | exact .inl rfl | exact .inr rfl | assumption) : Sv X [i] (.AugAssign (.Name x pos') op e pos) (agF i f FE) :=
  psM (ps_aug hN hi hx he ho hf) fun D σ H h => by
    obtain ⟨G, env, L, R, fl, env', hff, k⟩ := h
    unfold agF at hff
    cases q : nmF i env with
    | none => rw [q] at hff; simp at hff
    | some r =>
    rw [q] at hff
    simp only [Option.bind_some] at hff
    split at hff
    · rename_i hp
      unfold nmF at q
      cases q0 : env[i]? with
      | none => rw [q0] at q; simp at q
      | some o =>
      cases o with
      | none => rw [q0] at q; simp at q
      | some d0 =>
      rw [q0] at q
      simp only [Option.bind_some, Option.map_some, Option.some.injEq] at q
      subst q
      cases q1 : FE env with
      | none => rw [q1] at hff; simp at hff
      | some r1 =>
      obtain ⟨d1, e1⟩ := r1
      rw [q1] at hff
      simp only [Option.bind_some] at hff
      cases q2 : f d0 d1 with
      | none => rw [q2] at hff; simp at hff
      | some c =>
      rw [q2] at hff
      simp only [Option.bind_some] at hff
      cases q3 : put i c e1 with
      | none => rw [q3] at hff; simp at hff
      | some e2 =>
      rw [q3] at hff
      simp only [Option.map_some, Option.some.injEq, Prod.mk.injEq] at hff
      obtain ⟨rfl, rfl⟩ := hff
      obtain ⟨hil, _⟩ := List.getElem?_eq_some_iff.mp q0
      obtain ⟨La, Li, Lb, e0, f0, _⟩ := R.rep.at hil
      obtain ⟨v, ev, r⟩ := f0 d0 q0
      obtain rfl := r.pure_nil hp
      refine ⟨v, ev, G, env, L, R, d1, e1, q1, fun y G1 H1 L1 Lr R1 r1 n1 st1 x1 => ?_⟩
      refine hop R1.le ((r.mono x1.le fun _ z => nomatch z) : Rp X.K G1 H1 d0 v []) r1 q2 fun z G2 H2 Lz fr rz => ?_
      obtain ⟨L', R', ss⟩ := (R1.fresh fr).put rz (fr.nodup R1.nd fun a z => (R1.rep.own a z).2) q3
      exact k _ G2 H2 L' R' set_keep ((ext_fresh x1 fr).sub fun a z => (ext_fresh x1 fr).own a (ss a z))
    · cases hff
def ifS (FC : En → Option (Bool × En)) (FA FB : En → Option (Fl × En)) : En → Option (Fl × En) := fun env => (FC env).bind fun c => if c.1 = true then FA c.2 else FB c.2
theorem sv_if (hc : Tv X s c FT) (ha : Bv X W1 sa F1) (hb : Bv X W2 sb F2) : Sv X (W1 ++ W2) (.If c sa sb pos) (ifS FT F1 F2) := psM (ps_if hc ha hb) fun D σ H ⟨G, env, L, R, fl, env', hf, k⟩ => by
  unfold ifS at hf
  cases q : FT env with
  | none => rw [q] at hf; simp at hf
  | some r =>
  obtain ⟨b, e1⟩ := r
  rw [q] at hf
  simp only [Option.bind_some] at hf
  refine ⟨G, env, L, R, b, e1, q, fun G1 H1 L1 R1 st1 x1 => ?_⟩
  cases b with
  | true =>
    rw [if_pos rfl] at hf
    show (if true = true then _ else _)
    rw [if_pos rfl]
    exact ⟨G1, e1, L1, R1, fl, env', hf, k.mono (fun σ' z => z.sub fun j h => List.mem_append_left _ h) (fun _ _ _ x => x1.trans x fun a z => x1.own a z) (fun _ _ z => z) (fun _ _ z => z) (fun _ _ z => z) fun _ _ z => z⟩
  | false =>
    rw [if_neg (by decide)] at hf
    show (if false = true then _ else _)
    rw [if_neg (by decide)]
    exact ⟨G1, e1, L1, R1, fl, env', hf, k.mono (fun σ' z => z.sub fun j h => List.mem_append_right _ h) (fun _ _ _ x => x1.trans x fun a z => x1.own a z) (fun _ _ z => z) (fun _ _ z => z) (fun _ _ z => z) fun _ _ z => z⟩
end

/-! ### while -/
def wN (c : En → Option (Bool × En)) (b : En → Option (Fl × En)) : Nat → En → Option (Fl × En)
  | 0, _ => none
  | n + 1, env => (c env).bind fun t => if t.1 = true then (b t.2).bind fun r => match r.1 with
      | .nx => wN c b n r.2
      | .ct => wN c b n r.2
      | .bk => some (.nx, r.2)
      | .rt d => some (.rt d, r.2)
    else some (.nx, t.2)
theorem wN_succ {c : En → Option (Bool × En)} {b : En → Option (Fl × En)} : ∀ {n : Nat} {env : En} {r : Fl × En}, wN c b n env = some r → wN c b (n + 1) env = some r
  | 0, _, _, h => by cases h
  | n + 1, env, r, h => by
    unfold wN at h ⊢
    cases q : c env with
    | none => rw [q] at h; simp at h
    | some t =>
      rw [q] at h
      simp only [Option.bind_some] at h ⊢
      split
      · rename_i ht
        rw [if_pos ht] at h
        cases q2 : b t.2 with
        | none => rw [q2] at h; simp at h
        | some u =>
          rw [q2] at h
          simp only [Option.bind_some] at h ⊢
          obtain ⟨f, e⟩ := u
          cases f with
          | nx => exact wN_succ h
          | ct => exact wN_succ h
          | bk => exact h
          | rt d => exact h
      · rename_i ht
        rw [if_neg ht] at h
        exact h
theorem wN_le {c : En → Option (Bool × En)} {b : En → Option (Fl × En)} {n : Nat} {env : En} {r : Fl × En} (h : wN c b n env = some r) : ∀ k, wN c b (n + k) env = some r
  | 0 => h
  | k + 1 => wN_succ (wN_le h k)
open Classical in
def whF (c : En → Option (Bool × En)) (b : En → Option (Fl × En)) : En → Option (Fl × En) := fun env => if h : ∃ n r, wN c b n env = some r then some (Classical.choose (Classical.choose_spec h)) else none
theorem whF_of {c : En → Option (Bool × En)} {b : En → Option (Fl × En)} {n : Nat} {env : En} {r : Fl × En} (h : wN c b n env = some r) : whF c b env = some r := by
  have ex : ∃ n r, wN c b n env = some r := ⟨n, r, h⟩
  unfold whF
  rw [dif_pos ex]
  have q := Classical.choose_spec (Classical.choose_spec ex)
  have a := wN_le h (Classical.choose ex)
  have b' := wN_le q n
  rw [Nat.add_comm] at b'
  rw [a] at b'
  exact congrArg some (Option.some.inj b').symm
theorem whF_some {c : En → Option (Bool × En)} {b : En → Option (Fl × En)} {env : En} {r : Fl × En} (h : whF c b env = some r) : ∃ n, wN c b n env = some r := by
  unfold whF at h
  split at h
  · rename_i ex
    have q := Classical.choose_spec (Classical.choose_spec ex)
    exact ⟨_, by rw [q]; exact h⟩
  · cases h
theorem sv_while {X : Cx} {c : Expr} {body : List Stmt} {FT : En → Option (Bool × En)} {F : En → Option (Fl × En)} {W : List Nat} {s : Bool} {pos : Pos} (hp : PassesOwn (model X.prog X.w) X.A X.env X.xe) (hc : Tv X s c FT) (hb : Bv X W body F) :
    Sv X W (.While c body [] pos) (whF FT F) := psM (ps_while hp hc hb) fun D σ H ⟨G, env, L, R, fl, env', hf, k⟩ => by
  obtain ⟨n, hn⟩ := whF_some hf
  refine ⟨fun m σ1 H1 => ∃ G1 env1 L1, RSt X.K σ1 G1 H1 env1 L1 ∧ Keep W σ σ1 ∧ Ext L G H G1 H1 L1 ∧ wN FT F m env1 = some (fl, env'), ⟨n, G, env, L, R, Keep.refl _ _, Ext.refl fun _ z => z, hn⟩, ?_⟩
  rintro m σ1 H1 ⟨G1, env1, L1, R1, k1, x1, h1⟩
  cases m with
  | zero => cases h1
  | succ m =>
  unfold wN at h1
  cases q : FT env1 with
  | none => rw [q] at h1; simp at h1
  | some t =>
  obtain ⟨b, e2⟩ := t
  rw [q] at h1
  simp only [Option.bind_some] at h1
  refine ⟨G1, env1, L1, R1, b, e2, q, fun G2 H2 L2 R2 st2 x2 => ?_⟩
  have x12 := x1.trans x2 fun a z => x1.own a z
  cases b with
  | false =>
    rw [if_neg (by decide)] at h1
    show (if false = true then _ else _)
    rw [if_neg (by decide)]
    cases h1
    exact k σ1 G2 H2 L2 R2 k1 x12
  | true =>
    rw [if_pos rfl] at h1
    show (if true = true then _ else _)
    rw [if_pos rfl]
    cases q3 : F e2 with
    | none => rw [q3] at h1; simp at h1
    | some u =>
    obtain ⟨f, e3⟩ := u
    rw [q3] at h1
    simp only [Option.bind_some] at h1
    refine ⟨fun σ3 H3 => ∃ G3 env3 L3, RSt X.K σ3 G3 H3 env3 L3 ∧ Keep W σ σ3 ∧ Ext L G H G3 H3 L3 ∧ wN FT F m env3 = some (fl, env'), fun σ3 H3 h3 => ⟨m, Nat.lt_succ_self m, h3⟩, G2, e2, L2, R2, f, e3, q3, ?_⟩
    have kk : ∀ σ', Keep W σ1 σ' → Keep W σ σ' := fun σ' z => k1.trans z fun j h => h.elim id id
    cases f with
    | nx => exact fun σ' G' H' L' R' k' x' => ⟨G', e3, L', R', kk _ k', x12.trans x' fun a z => x12.own a z, h1⟩
    | ct => exact fun σ' G' H' L' R' k' x' => ⟨G', e3, L', R', kk _ k', x12.trans x' fun a z => x12.own a z, h1⟩
    | bk => cases h1; exact fun σ' G' H' L' R' k' x' => k σ' G' H' L' R' (kk _ k') (x12.trans x' fun a z => x12.own a z)
    | rt d => cases h1; exact fun σ' v G' H' L' Lr R' k' r' n' x' => k σ' v G' H' L' Lr R' (kk _ k') r' n' (x12.trans x' fun a z => x12.own a z)
end
end Pz

set_option Elab.async false
set_option linter.all false
set_option maxRecDepth 100000
set_option maxHeartbeats 1000000
namespace Pz
open PySem L2
noncomputable section

section
variable (K : PySem.W.Frag)
def YD (G0 : Hp) (items : List D) : Nat → Hp → V → Hp → Prop := fun i H1 x H2 => ∀ G1, Le G0 G1 → Le G1 H1 → ∃ G2 d, items[i]? = some d ∧ Fresh G1 H1 G2 H2 [] ∧ Rp K G2 H2 d x []
def tI (F : En → Option (List D × En)) : TI := fun σ H R => ∃ G env L, RSt K σ G H env L ∧ ∃ items env', F env = some (items, env') ∧
  ∀ J G' H' L', RSt K σ G' H' env' L' → Ext L G H G' H' L' → Walk J items.length (fun H'' => Le G' H'') (YD K G' items) → R J H'
end
abbrev Iv (X : Cx) (tg e : Expr) (F : En → Option (List D × En)) : Prop := PI X tg e (tI X.K F)
theorem piM {X : Cx} {tg e : Expr} {t u : TI} (h : PI X tg e t) (k : ∀ σ H R, u σ H R → t σ H R) : PI X tg e u := ⟨fun pins s σ H R I hw => h.run pins s σ H R I (k σ H R hw)⟩
section
variable {K : PySem.W.Frag} {G G' H H' H1 H2 : Hp} {items : List D} {vs ws : List V}
theorem yd_at (r : Rps K G' H items vs []) {i : Nat} {x : V} (h : YAt vs i H1 x H2) : YD K G' items i H1 x H2 := fun G1 l1 l2 => by
  obtain ⟨rfl, e⟩ := h
  obtain ⟨d, L1, e1, r1, s1⟩ := r.getV e
  obtain rfl := List.sublist_nil.mp s1
  exact ⟨G1, d, e1, Fresh.refl l2, r1.mono l1 fun _ z => nomatch z⟩
theorem yd_pair {as bs : List D} (ra : Rps K G' H as vs []) (rb : Rps K G' H bs ws []) {i : Nat} {x : V} (h : YPair (fun i => vs[i]?) (fun i => ws[i]?) i H1 x H2) : YD K G' (List.zipWith (fun a b => .tup [a, b]) as bs) i H1 x H2 := fun G1 l1 l2 => by
  obtain ⟨T, x, y, rfl, nT, rfl, e1, e2⟩ := h
  obtain ⟨d, L1, q1, r1, s1⟩ := ra.getV e1
  obtain rfl := List.sublist_nil.mp s1
  obtain ⟨d', L2, q2, r2, s2⟩ := rb.getV e2
  obtain rfl := List.sublist_nil.mp s2
  have f := Fresh.laid l2 nT (.tup [x, y])
  refine ⟨_, .tup [d, d'], by rw [List.getElem?_zipWith, q1, q2], f, .tup (.inl (.inl upd_same)) ?_⟩
  exact .cons (L1 := []) (L2 := []) ((r1.mono l1 fun _ z => nomatch z : Rp K G1 H1 d x []).fresh f) (.cons (L1 := []) (L2 := []) ((r2.mono l1 fun _ z => nomatch z : Rp K G1 H1 d' y []).fresh f) .nil)
end

/-! ### lists, tuples, ranges -/
def iSeq (K : PySem.W.Frag) (tl : TE) : TI := fun σ H R => tl σ H fun x H1 => ∃ a, x = .ref a ∧ ((∃ xs, SqL K H1 a xs) ∧ R (Itl K a) H1 ∨ (∃ xs, SqT K H1 a xs) ∧ R (Itt K a) H1)
section
open PySem.Spec PyProof.Rows
theorem pi_seq {X : Cx} {tg l : Expr} {tl : TE} (hl : PE X l tl) : PI X tg l (iSeq X.K tl) := by
  refine ⟨fun pins s σ H R I h => ?_⟩
  refine thn (hl.run pins s σ H _ I h) fun v s1 ⟨x, H1, I1, r1, q1⟩ => ?_
  obtain ⟨a, e, q⟩ := q1
  subst e
  cases r1
  rcases q with ⟨⟨xs, hq⟩, q⟩ | ⟨⟨xs, hq⟩, q⟩
  · obtain ⟨its, rv, p, hz⟩ := I1.list hq
    refine wpAny_pyIter_list p.isList ?_
    refine ⟨s1.heap.objs.size, [s1.heap.objs.size], _, _, H1, rfl, I1.kept (t' := s1.toks) fun b o e => Heap.get?_push_of_some _ e, turn_list a _, ⟨_, Heap.get?_push_size _ rfl, rfl, rfl⟩, fun b hb => ?_, q⟩
    have e : b = s1.heap.objs.size := by simpa using hb
    subst e
    exact I1.fpOk (Nat.le_refl _) (I1.hok.fresh (Nat.le_refl _))
  · obtain ⟨its, rv, p, hz⟩ := I1.tuple hq
    refine wpAny_pyIter_tuple (show s1.heap.IsTuple a its.toArray from p) ?_
    refine ⟨s1.heap.objs.size, [s1.heap.objs.size], _, _, H1, rfl, I1.kept (t' := s1.toks) fun b o e => Heap.get?_push_of_some _ e, turn_tuple a _, ⟨_, Heap.get?_push_size _ rfl, rfl, rfl⟩, fun b hb => ?_, q⟩
    have e : b = s1.heap.objs.size := by simpa using hb
    subst e
    exact I1.fpOk (Nat.le_refl _) (I1.hok.fresh (Nat.le_refl _))
end
def itOf : D → Option (List D)
  | .tup xs => some (D.fzs xs)
  | .lst _ xs => some (D.fzs xs)
  | .scr ns => some (ns.map .int)
  | _ => none
def itF (FE : En → Option (D × En)) : En → Option (List D × En) := fun env => (FE env).bind fun a => (itOf a.1).map fun xs => (xs, a.2)
section
variable {X : Cx} {tg e e2 : Expr} {es : List Expr} {FE : En → Option (D × En)} {FA : En → Option (List D × En)} {s : Bool}
/-- the state when what is owned beside is given away for ever -/
theorem RSt.give {K : PySem.W.Frag} {σ : St} {G H : Hp} {env : En} {L Lr : List Addr} (R : RSt K σ G H env L) (n : (L ++ Lr).Nodup) : RSt K σ (frG G H Lr) H env L :=
  ⟨frG_le' R.le, R.rep.mono (frG_le R.le) fun a z => ⟨by rw [frG_out fun y => (List.nodup_append.mp n).2.2 a z a y rfl]; exact (R.rep.own a z).1, rfl⟩, R.nd⟩
theorem Ext.give {L L1 Lr : List Addr} {G H G1 H1 : Hp} (x : Ext L G H G1 H1 (L1 ++ Lr)) (l : Le G1 H1) : Ext L G H (frG G1 H1 Lr) H1 L1 :=
  ⟨x.le.trans (frG_le l), x.fr, fun b h => by
    by_cases z : b ∈ Lr
    · exact .inr (x.own b (List.mem_append_right _ z))
    · rw [frG_out z] at h; exact x.gd b h, fun b h => x.own b (List.mem_append_left _ h)⟩
theorem iv_seq (he : Ev X true s e FE) : Iv X tg e (itF FE) := piM (pi_seq he) fun σ H Rr ⟨G, env, L, R, items, env', hf, k⟩ => by
  unfold itF at hf
  cases q : FE env with
  | none => rw [q] at hf; simp at hf
  | some r =>
  obtain ⟨d, e1⟩ := r
  rw [q] at hf
  simp only [Option.bind_some] at hf
  cases q2 : itOf d with
  | none => rw [q2] at hf; simp at hf
  | some xs =>
  rw [q2] at hf
  simp only [Option.map_some, Option.some.injEq, Prod.mk.injEq] at hf
  obtain ⟨rfl, rfl⟩ := hf
  refine ⟨G, env, L, R, d, _, q, fun x G1 H1 L1 Lr R1 r1 n1 st1 x1 => ?_⟩
  have R2 := R1.give (n1 rfl)
  have x2 := x1.give R1.le
  have rz := r1.fz (G' := frG G1 H1 Lr) (H' := H1) (frG_le R1.le) fun a z => frG_in z
  cases d <;> simp only [itOf, reduceCtorEq, Option.some.injEq] at q2 <;> subst q2
  · rename_i ns
    obtain ⟨p, rfl, rfl, sa⟩ := r1.scr_inv
    have sa' := (frG_le (L := []) R1.le).sqL sa
    refine ⟨p, rfl, .inl ⟨⟨_, R2.le.sqL sa'⟩, k _ _ _ _ R2 x2 ?_⟩⟩
    have w := walk_list (K := X.K) (a := p) (xs := List.map V.int ns)
    rw [List.length_map] at w
    rw [List.length_map]
    exact w.mono (fun H' l => l.sqL sa') fun i H' x H'' hi l y => yd_at (Rps.ints (H := H1) _) y
  · obtain ⟨p, vs, rfl, sa, qa⟩ := rz.tup_inv
    refine ⟨p, rfl, .inr ⟨⟨_, R2.le.sqT sa⟩, k _ _ _ _ R2 x2 ?_⟩⟩
    have w := walk_tup (K := X.K) (a := p) (xs := vs)
    rw [← qa.length] at w
    exact w.mono (fun H' l => l.sqT sa) fun i H' x H'' hi l y => yd_at qa y
  · rename_i o xs
    obtain ⟨p, vs, rfl, sa, qa⟩ : ∃ p vs, x = .ref p ∧ (frG G1 H1 Lr) p = some (.lst vs) ∧ Rps X.K (frG G1 H1 Lr) H1 (D.fzs xs) vs [] := by
      have rz' : Rp X.K (frG G1 H1 Lr) H1 (.lst false (D.fzs xs)) x [] := rz
      cases rz' with
      | lstF h hs => exact ⟨_, _, rfl, h, hs⟩
    refine ⟨p, rfl, .inl ⟨⟨_, SqL.of (R2.le _ _ sa)⟩, k _ _ _ _ R2 x2 ?_⟩⟩
    have w := walk_list (K := X.K) (a := p) (xs := vs)
    rw [← qa.length] at w
    exact w.mono (fun H' l => SqL.of (l _ _ sa)) fun i H' x H'' hi l y => yd_at qa y
/-- from a list of arguments -/
def inF (f : List D → Option (List D)) (FA : En → Option (List D × En)) : En → Option (List D × En) := fun env => (FA env).bind fun a => (f a.1).map fun xs => (xs, a.2)
theorem inF_some {f : List D → Option (List D)} {env env' : En} {items : List D} (h : inF f FA env = some (items, env')) : ∃ a, FA env = some (a, env') ∧ f a = some items := by
  unfold inF at h
  cases q : FA env with
  | none => rw [q] at h; simp at h
  | some a =>
    rw [q] at h; simp only [Option.bind_some] at h
    cases q3 : f a.1 with
    | none => rw [q3] at h; simp at h
    | some c => rw [q3] at h; simp at h; obtain ⟨rfl, rfl⟩ := h; exact ⟨a.1, rfl, q3⟩
def rgOk (i : Int) : Bool := tst (-4611686018427387904 ≤ i ∧ i < 4611686018427387904)
theorem rgOk_of {i : Int} (h : rgOk i = true) : -(2 ^ 62) ≤ i ∧ i < 2 ^ 62 := by
  have h := of_tst h
  omega
def rng1 : List D → Option (List D)
  | [.int j] => if rgOk j = true then some ((List.range j.toNat).map fun i : Nat => .int (i : Int)) else none
  | _ => none
def rng2 : List D → Option (List D)
  | [.int i, .int j] => if rgOk i = true ∧ rgOk j = true then some ((List.range (j - i).toNat).map fun k : Nat => .int (i + (k : Int))) else none
  | _ => none
theorem yd_fn {K : PySem.W.Frag} {G' H1 H2 : Hp} {n : Nat} {lo : Int} {i : Nat} {x : V} (hi : i < n) (h : YFn (fun i : Nat => V.int (lo + (i : Int))) i H1 x H2) : YD K G' ((List.range n).map fun k : Nat => .int (lo + (k : Int))) i H1 x H2 := fun G1 l1 l2 => by
  obtain ⟨rfl, rfl⟩ := h
  exact ⟨G1, .int (lo + i), by simp [hi], Fresh.refl l2, .int _⟩
theorem iv_range1 {p pos : Pos} (hg : Gl X "range") (hm : X.mg "range" = none) (ha : Av X true s [e] FA) (hs : starEach [e] X.env = [(false, eval e X.env)] := by rfl) : Iv X tg (.Call (.Name "range" p) [e] [] pos) (inF rng1 FA) :=
  piM (pi_range1 hg hm ha hs) fun σ H Rr ⟨G, env, L, R, items, env', hf, k⟩ => by
    obtain ⟨da, h1, h3⟩ := inF_some hf
    refine ⟨G, env, L, R, da, env', h1, fun x G1 H1 L1 La R1 ra n1 st1 x1 => ?_⟩
    unfold rng1 at h3
    split at h3
    · split at h3
      · rename_i j hj
        cases h3
        obtain ⟨v, rfl, r⟩ := ra.one
        obtain ⟨rfl, rfl⟩ := r.int_inv
        obtain ⟨b1, b2⟩ := rgOk_of hj
        refine ⟨j, rfl, b1, b2, k _ G1 H1 L1 R1 (by simpa using x1) ?_⟩
        have w := walk_range (lo := 0) (n := j.toNat)
        have e0 : ((List.range j.toNat).map fun i : Nat => D.int (i : Int)) = ((List.range j.toNat).map fun i : Nat => D.int (0 + (i : Int))) := by simp
        rw [e0]
        rw [List.length_map, List.length_range]
        exact w.mono (fun _ _ => trivial) fun i H' x H'' hi l y => yd_fn hi y
      · cases h3
    · cases h3
theorem iv_range2 {p pos : Pos} (hg : Gl X "range") (hm : X.mg "range" = none) (ha : Av X true s [e, e2] FA) (hs : starEach [e, e2] X.env = [(false, eval e X.env), (false, eval e2 X.env)] := by rfl) (hs2 : starEach [e2] X.env = [(false, eval e2 X.env)] := by rfl) :
    Iv X tg (.Call (.Name "range" p) [e, e2] [] pos) (inF rng2 FA) :=
  piM (pi_range2 hg hm ha hs hs2) fun σ H Rr ⟨G, env, L, R, items, env', hf, k⟩ => by
    obtain ⟨da, h1, h3⟩ := inF_some hf
    refine ⟨G, env, L, R, da, env', h1, fun x G1 H1 L1 La R1 ra n1 st1 x1 => ?_⟩
    unfold rng2 at h3
    split at h3
    · split at h3
      · rename_i i j hj
        cases h3
        obtain ⟨v, w, La, Lb, rfl, r, r', rfl⟩ := ra.two
        obtain ⟨rfl, rfl⟩ := r.int_inv
        obtain ⟨rfl, rfl⟩ := r'.int_inv
        obtain ⟨b1, b2⟩ := rgOk_of hj.1
        obtain ⟨b3, b4⟩ := rgOk_of hj.2
        refine ⟨i, j, rfl, ⟨b1, b2, b3, b4⟩, k _ G1 H1 L1 R1 (by simpa using x1) ?_⟩
        have w := walk_range (lo := i) (n := (j - i).toNat)
        rw [List.length_map, List.length_range]
        exact w.mono (fun _ _ => trivial) fun i H' x H'' hi l y => yd_fn hi y
      · cases h3
    · cases h3
/-- zip of two lists, or of two tuples -/
def fzip : List D → Option (List D)
  | [.tup a, .tup b] => if D.pures a = true ∧ D.pures b = true then some (List.zipWith (fun a b => .tup [a, b]) a b) else none
  | [.lst _ a, .lst _ b] => if D.pures a = true ∧ D.pures b = true then some (List.zipWith (fun a b => .tup [a, b]) (D.fzs a) (D.fzs b)) else none
  | _ => none
theorem walk_zipT {K : PySem.W.Frag} {a b : Addr} {xs ys : List V} {n : Nat} (hn : n = min xs.length ys.length) : Walk (RZ.ItzT K a b) n (fun H => SqT K H a xs ∧ SqT K H b ys) (YPair (fun i => xs[i]?) (fun i => ys[i]?)) := by
  subst hn
  refine ⟨fun i _ hi q => ?_, fun _ q => ⟨xs, ys, q.1, q.2, by omega⟩, fun i H v H' _ q y => ?_⟩
  · have h1 : i < xs.length := by omega
    have h2 : i < ys.length := by omega
    exact ⟨xs, ys, xs[i], ys[i], q.1, q.2, by simp [h1], by simp [h2]⟩
  · obtain ⟨T, x, z, h1, h2, h3, h4, h5⟩ := y
    exact ⟨T, x, z, h1, h2, h3, h4 xs q.1, h5 ys q.2⟩
theorem iv_zip {p pos tpos : Pos} {elts : List Expr} {kk : Nat} (hg : Gl X "zip") (hm : X.mg "zip" = none) (ha : Av X true s [e, e2] FA)
    (hs : starEach [e, e2] X.env = (false, eval e X.env) :: starEach [e2] X.env := by rfl) (hpl : (backTo pos (starEach [e2] X.env)).any (·.1) = false := by rfl) :
    Iv X (.Tuple elts kk tpos) (.Call (.Name "zip" p) [e, e2] [] pos) (inF fzip FA) := piM (RZ.pi_zipA hg hm ha hs hpl) fun σ H Rr ⟨G, env, L, R, items, env', hf, k⟩ => by
  obtain ⟨da, h1, h3⟩ := inF_some hf
  refine ⟨G, env, L, R, da, env', h1, fun x G1 H1 L1 La R1 ra n1 st1 x1 => ?_⟩
  unfold fzip at h3
  split at h3
  · split at h3
    · rename_i a b hj
      cases h3
      obtain ⟨v, w, La, Lb, rfl, r, r', rfl⟩ := ra.two
      obtain ⟨p, vs, rfl, sa, qa⟩ := r.tup_inv
      obtain ⟨q, ws, rfl, sb, qb⟩ := r'.tup_inv
      obtain rfl := qa.pure_nil hj.1
      obtain rfl := qb.pure_nil hj.2
      refine ⟨p, q, vs, ws, rfl, .inr ⟨R1.le.sqT sa, R1.le.sqT sb, k _ G1 H1 L1 R1 (by simpa using x1) ?_⟩⟩
      have w := walk_zipT (K := X.K) (a := p) (b := q) (xs := vs) (ys := ws) rfl
      rw [List.length_zipWith, qa.length, qb.length]
      exact w.mono (fun H' l => ⟨l.sqT sa, l.sqT sb⟩) fun i H' x H'' hi l y => yd_pair qa qb y
    · cases h3
  · split at h3
    · rename_i o1 a o2 b hj
      cases h3
      have R2 := R1.give (n1 rfl)
      have x2 := x1.give R1.le
      have rz := ra.fz (G' := frG G1 H1 La) (H' := H1) (frG_le R1.le) fun a z => frG_in z
      obtain ⟨v, w, L3, L4, rfl, r, r', e0⟩ := rz.two
      obtain ⟨rfl, rfl⟩ := List.append_eq_nil_iff.mp e0.symm
      have r : Rp X.K (frG G1 H1 La) H1 (.lst false (D.fzs a)) v [] := r
      have r' : Rp X.K (frG G1 H1 La) H1 (.lst false (D.fzs b)) w [] := r'
      cases r with
      | @lstF p vs _ sa qa =>
      cases r' with
      | @lstF q ws _ sb qb =>
      refine ⟨p, q, vs, ws, rfl, .inl ⟨SqL.of (R2.le _ _ sa), SqL.of (R2.le _ _ sb), k _ _ H1 L1 R2 x2 ?_⟩⟩
      have w := walk_zip (K := X.K) (a := p) (b := q) (xs := vs) (ys := ws) rfl
      rw [List.length_zipWith, qa.length, qb.length]
      exact w.mono (fun H' l => ⟨SqL.of (l _ _ sa), SqL.of (l _ _ sb)⟩) fun i H' x H'' hi l y => yd_pair qa qb y
    · cases h3
  · cases h3
end

/-! ### for -/
def flF (FT : D → En → Option En) (FB : En → Option (Fl × En)) : List D → En → Option (Fl × En)
  | [], env => some (.nx, env)
  | x :: xs, env => (FT x env).bind fun e1 => (FB e1).bind fun r => match r.1 with
    | .nx => flF FT FB xs r.2
    | .ct => flF FT FB xs r.2
    | .bk => some (.nx, r.2)
    | .rt d => some (.rt d, r.2)
def forF (FI : En → Option (List D × En)) (FT : D → En → Option En) (FB : En → Option (Fl × En)) : En → Option (Fl × En) := fun env => (FI env).bind fun a => flF FT FB a.1 a.2
theorem sv_for {X : Cx} {tg iter : Expr} {body : List Stmt} {FI : En → Option (List D × En)} {FT : D → En → Option En} {FB : En → Option (Fl × En)} {W1 W2 : List Nat} {pos : Pos} (hp : PassesOwn (model X.prog X.w) X.A X.env X.xe) (hc : X.calm = true)
    (hi : Iv X tg iter FI) (hg : Gv X W1 tg FT) (hb : Bv X W2 body FB) (hs : ∀ x, foldedSetIterable iter X.env x = pure x := by intro _; rfl) : Sv X (W1 ++ W2) (.For tg iter body [] pos) (forF FI FT FB) :=
  psM (ps_for hp hc hi hg hb hs) fun D σ H ⟨G, env, L, R, fl, env', hf, k⟩ => by
  unfold forF at hf
  cases q : FI env with
  | none => rw [q] at hf; simp at hf
  | some r =>
  obtain ⟨items, e0⟩ := r
  rw [q] at hf
  simp only [Option.bind_some] at hf
  refine ⟨G, env, L, R, items, e0, q, fun J G1 H1 L1 R1 x1 w => ?_⟩
  have go : ∀ {W : List Nat}, (∀ j ∈ W, j ∈ W1 ++ W2) → ∀ {σ1 σ2 : St}, Keep (W1 ++ W2) σ σ1 → Keep W σ1 σ2 → Keep (W1 ++ W2) σ σ2 := @fun _ hW _ _ a b => Keep.trans a b fun j h => h.elim id (hW j)
  refine for_it w (fun i σ1 H2 => ∃ G2 env1 L2, RSt X.K σ1 G2 H2 env1 L2 ∧ Le G1 G2 ∧ Keep (W1 ++ W2) σ σ1 ∧ Ext L G H G2 H2 L2 ∧ flF FT FB (items.drop i) env1 = some (fl, env')) ⟨G1, e0, L1, R1, Le.refl _, Keep.refl _ _, x1, by simpa using hf⟩ ?_ ?_ ?_
  · rintro i σ1 H2 hi ⟨G2, env1, L2, R2, l2, _⟩
    exact l2.trans R2.le
  · rintro i x σ1 H2 H3 hi ⟨G2, env1, L2, R2, l2, k2, x2, h2⟩ y
    obtain ⟨G3, d, hd, fr, rd⟩ := y G2 l2 R2.le
    have e1 : items.drop i = d :: items.drop (i + 1) := by
      obtain ⟨hl, hd'⟩ := List.getElem?_eq_some_iff.mp hd
      rw [← hd', List.getElem_cons_drop]
    rw [e1] at h2
    simp only [flF] at h2
    cases q3 : FT d env1 with
    | none => rw [q3] at h2; simp at h2
    | some e3 =>
    rw [q3] at h2
    simp only [Option.bind_some] at h2
    cases q4 : FB e3 with
    | none => rw [q4] at h2; simp at h2
    | some u =>
    obtain ⟨f, e4⟩ := u
    rw [q4] at h2
    simp only [Option.bind_some] at h2
    have R3 := R2.fresh fr
    have x3 : Ext L G H G3 H3 L2 := x2.trans (fr.ext' fun a z => .inl z) fun a z => x2.own a z
    refine ⟨G3, env1, L2, d, [], R3, rd, by simpa using R3.nd, e3, q3, fun σ4 G4 H4 L4 R4 k4 x4 => ?_⟩
    have x4' : Ext L G H G4 H4 L4 := x3.trans x4 fun a z => x3.own a (by simpa using z)
    have k4' := go (fun j h => List.mem_append_left _ h) k2 k4
    have l4 : Le G1 G4 := (l2.trans fr.le).trans x4.le
    refine ⟨G4, e3, L4, R4, f, e4, q4, ?_⟩
    cases f with
    | nx => exact fun σ5 G5 H5 L5 R5 k5 x5 => ⟨G5, e4, L5, R5, l4.trans x5.le, go (fun j h => List.mem_append_right _ h) k4' k5, x4'.trans x5 fun a z => x4'.own a z, h2⟩
    | ct => exact fun σ5 G5 H5 L5 R5 k5 x5 => ⟨G5, e4, L5, R5, l4.trans x5.le, go (fun j h => List.mem_append_right _ h) k4' k5, x4'.trans x5 fun a z => x4'.own a z, h2⟩
    | bk => cases h2; exact fun σ5 G5 H5 L5 R5 k5 x5 => k σ5 G5 H5 L5 R5 (go (fun j h => List.mem_append_right _ h) k4' k5) (x4'.trans x5 fun a z => x4'.own a z)
    | rt d => cases h2; exact fun σ5 v G5 H5 L5 Lr R5 k5 r5 n5 x5 => k σ5 v G5 H5 L5 Lr R5 (go (fun j h => List.mem_append_right _ h) k4' k5) r5 n5 (x4'.trans x5 fun a z => x4'.own a z)
  · rintro σ1 H2 ⟨G2, env1, L2, R2, l2, k2, x2, h2⟩
    rw [List.drop_length] at h2
    cases h2
    exact k σ1 G2 H2 L2 R2 k2 x2
end
end Pz

set_option Elab.async false
set_option linter.all false
set_option maxRecDepth 100000
set_option maxHeartbeats 1000000
namespace Pz
open PySem L2
noncomputable section

def wpE : List Nat → En → En
  | [], e => e
  | v :: vs, e => (wpE vs e).set v none
def mgE (vs : List Nat) : Nat → En → En → En
  | n, a :: as, b :: bs => (if vs.contains n = true then a else b) :: mgE vs (n + 1) as bs
  | _, _, _ => []
def okE (vs : List Nat) : Nat → En → Bool
  | n, some d :: as => (!vs.contains n || d.pure) && okE vs (n + 1) as
  | n, none :: as => okE vs (n + 1) as
  | _, [] => true
section
variable {K : PySem.W.Frag} {G G0 H H0 : Hp}
theorem REnv.setNone {es : En} {σ : St} {L : List Addr} (r : REnv K G H es σ L) (v : Nat) : ∃ L', REnv K G H (es.set v none) (σ.set v none) L' ∧ L'.Sublist L := by
  by_cases h : v < es.length
  · obtain ⟨La, Li, Lb, e0, _, f⟩ := r.at h
    refine ⟨La ++ Lb, (f (Le.refl _) fun a z => ⟨(r.own a (by rw [e0]; rcases List.mem_append.mp z with z | z <;> simp [z])).1, rfl⟩).2 none, ?_⟩
    rw [e0]; simp
  · rw [List.set_eq_of_length_le (by omega), List.set_eq_of_length_le (by rw [← r.length]; omega)]
    exact ⟨L, r, List.Sublist.refl _⟩
theorem REnv.wipe {es : En} {σ : St} {L : List Addr} (r : REnv K G H es σ L) : ∀ vs : List Nat, ∃ L', REnv K G H (wpE vs es) (L2.wipe σ vs) L' ∧ L'.Sublist L
  | [] => ⟨L, r, List.Sublist.refl _⟩
  | v :: vs => by
    obtain ⟨L1, r1, s1⟩ := REnv.wipe r vs
    obtain ⟨L2, r2, s2⟩ := r1.setNone v
    exact ⟨L2, r2, s2.trans s1⟩
theorem wpE_length (es : En) : ∀ vs : List Nat, (wpE vs es).length = es.length
  | [] => rfl
  | v :: vs => by unfold wpE; rw [List.length_set, wpE_length es vs]
theorem wpE_at {es : En} : ∀ {vs : List Nat} {i : Nat}, i ∈ vs → i < es.length → (wpE vs es)[i]? = some none
  | v :: vs, i, h, hl => by
    unfold wpE
    by_cases e : v = i
    · subst e; rw [List.getElem?_set_self (by rw [wpE_length]; exact hl)]
    · rw [List.getElem?_set_ne e]
      exact wpE_at ((List.mem_cons.mp h).resolve_left fun z => e z.symm) hl
theorem wipe_at {σ : St} : ∀ {vs : List Nat} {i : Nat}, i ∈ vs → i < σ.length → (L2.wipe σ vs)[i]? = some none
  | v :: vs, i, h, hl => by
    unfold L2.wipe
    by_cases e : v = i
    · subst e; rw [List.getElem?_set_self (by rw [wipe_length]; exact hl)]
    · rw [List.getElem?_set_ne e]
      exact wipe_at ((List.mem_cons.mp h).resolve_left fun z => e z.symm) hl
theorem wipe_off {σ : St} : ∀ {vs : List Nat} {i : Nat}, i ∉ vs → (L2.wipe σ vs)[i]? = σ[i]?
  | [], _, _ => rfl
  | v :: vs, i, h => by
    unfold L2.wipe
    rw [List.getElem?_set_ne fun e => h (by simp [e])]
    exact wipe_off fun z => h (by simp [z])
theorem REnv.merge {vs : List Nat} : ∀ {n : Nat} {a b : En} {σ τ : St} {La Lb : List Addr}, REnv K G0 H0 a σ La → REnv K G H b τ Lb → Le G0 G → a.length = b.length → okE vs n a = true →
    (∀ i, vs.contains (n + i) = true → i < b.length → b[i]? = some none) → (∀ i, vs.contains (n + i) = false → τ[i]? = σ[i]?) → REnv K G H (mgE vs n a b) σ Lb
  | _, _, _, _, _, _, _, .nil, .nil, _, _, _, _, _ => .nil
  | n, _, _, _, _, _, _, .nil, .non _, _, hl, _, _, _ => by simp at hl
  | n, _, _, _, _, _, _, .nil, .val _ _, _, hl, _, _, _ => by simp at hl
  | n, _, _, _, _, _, _, .non _, .nil, _, hl, _, _, _ => by simp at hl
  | n, _, _, _, _, _, _, .val _ _, .nil, _, hl, _, _, _ => by simp at hl
  | n, _, _, _, _, _, _, .non ra, .non rb, l, hl, ok, h1, h2 => by
    have q := REnv.merge (n := n + 1) ra rb l (by simpa using hl) (by simpa [okE] using ok) (fun i hi hb => by have := h1 (i + 1) (by rw [← hi]; congr 1; omega) (by simpa using hb); simpa using this) fun i hi => by have := h2 (i + 1) (by rw [← hi]; congr 1; omega); simpa using this
    simp only [mgE]
    split <;> exact .non q
  | n, _, _, _, _, _, _, .non ra, .val (d := d) (v := v) r rb, l, hl, ok, h1, h2 => by
    have q := REnv.merge (n := n + 1) ra rb l (by simpa using hl) (by simpa [okE] using ok) (fun i hi hb => by have := h1 (i + 1) (by rw [← hi]; congr 1; omega) (by simpa using hb); simpa using this) fun i hi => by have := h2 (i + 1) (by rw [← hi]; congr 1; omega); simpa using this
    simp only [mgE]
    by_cases hc : vs.contains n = true
    · have := h1 0 (by simpa using hc) (by simp); simp at this
    · rw [if_neg hc]
      have e := h2 0 (by simpa using hc)
      simp at e
      rw [← e]
      exact .val r q
  | n, _, _, _, _, _, _, .val (d := d) (v := v) r ra, .non rb, l, hl, ok, h1, h2 => by
    simp only [okE, Bool.and_eq_true] at ok
    have q := REnv.merge (n := n + 1) ra rb l (by simpa using hl) ok.2 (fun i hi hb => by have := h1 (i + 1) (by rw [← hi]; congr 1; omega) (by simpa using hb); simpa using this) fun i hi => by have := h2 (i + 1) (by rw [← hi]; congr 1; omega); simpa using this
    simp only [mgE]
    by_cases hc : vs.contains n = true
    · rw [if_pos hc]
      have hp : d.pure = true := by have := ok.1; rw [hc] at this; simpa using this
      obtain rfl := r.pure_nil hp
      exact .val (L1 := []) (r.mono l fun _ z => nomatch z) q
    · rw [if_neg hc]
      exact .non q
  | n, _, _, _, _, _, _, .val (d := d) (v := v) r ra, .val r' rb, l, hl, ok, h1, h2 => by
    simp only [okE, Bool.and_eq_true] at ok
    have q := REnv.merge (n := n + 1) ra rb l (by simpa using hl) ok.2 (fun i hi hb => by have := h1 (i + 1) (by rw [← hi]; congr 1; omega) (by simpa using hb); simpa using this) fun i hi => by have := h2 (i + 1) (by rw [← hi]; congr 1; omega); simpa using this
    simp only [mgE]
    by_cases hc : vs.contains n = true
    · have := h1 0 (by simpa using hc) (by simp); simp at this
    · rw [if_neg hc]
      have e := h2 0 (by simpa using hc)
      simp at e
      rw [← e]
      exact .val r' q
end

/-- the turns of a comprehension -/
def lcL (vs : List Nat) (FT : D → En → Option En) (FC : En → Option (Bool × En)) (FE : En → Option (D × En)) : List D → List D → En → Option (List D × En)
  | acc, [], env => some (acc, env)
  | acc, x :: xs, env => (FT x env).bind fun e1 => (FC e1).bind fun c => if c.1 = true then (FE c.2).bind fun a => lcL vs FT FC FE (acc ++ [a.1]) xs (wpE vs a.2) else lcL vs FT FC FE acc xs (wpE vs c.2)
def yesF : En → Option (Bool × En) := fun env => some (true, env)
def lcF (vs : List Nat) (FI : En → Option (List D × En)) (FT : D → En → Option En) (FC : En → Option (Bool × En)) (FE : En → Option (D × En)) : En → Option (D × En) := fun env =>
  (FI env).bind fun a => if lineOk a.1.length = true ∧ okE vs 0 a.2 = true then (lcL vs FT FC FE [] a.1 (wpE vs a.2)).map fun r => (.lst true r.1, mgE vs 0 a.2 r.2) else none
abbrev Cv (X : Cx) (ifs : List Expr) (F : En → Option (Bool × En)) : Prop := PTs X ifs (tT X.K false F)
theorem cv_nil {X : Cx} : Cv X [] yesF := ⟨fun pins s σ H Q I ⟨G, env, L, R, d, env', hf, k⟩ => pts_nil.run pins s σ H Q I (by
  cases hf
  exact k G H L R (fun z => nomatch z) (Ext.refl fun _ z => z))⟩
theorem tv_eff {X : Cx} {e : Expr} {F : En → Option (Bool × En)} {s : Bool} (h : Tv X s e F) : Tv X false e F := ptM h fun σ H Q ⟨G, env, L, R, d, env', hf, k⟩ => ⟨G, env, L, R, d, env', hf, fun G' H' L' R' st x => k G' H' L' R' (fun z => nomatch z) x⟩
theorem cv_one {X : Cx} {e : Expr} {F : En → Option (Bool × En)} {s : Bool} (h : Tv X s e F) : Cv X [e] F := pts_one (tv_eff h)
theorem lcL_wiped {vs : List Nat} {FT : D → En → Option En} {FC : En → Option (Bool × En)} {FE : En → Option (D × En)} : ∀ {xs acc : List D} {env e0 env' : En} {r : List D}, env = wpE vs e0 → lcL vs FT FC FE acc xs env = some (r, env') → ∃ e1, env' = wpE vs e1
  | [], acc, env, e0, env', r, hw, h => by
    simp only [lcL, Option.some.injEq, Prod.mk.injEq] at h
    exact ⟨e0, h.2 ▸ hw⟩
  | x :: xs, acc, env, e0, env', r, hw, h => by
    simp only [lcL] at h
    cases q : FT x env with
    | none => rw [q] at h; simp at h
    | some e1 =>
    rw [q] at h; simp only [Option.bind_some] at h
    cases q2 : FC e1 with
    | none => rw [q2] at h; simp at h
    | some c =>
    rw [q2] at h; simp only [Option.bind_some] at h
    split at h
    · cases q3 : FE c.2 with
      | none => rw [q3] at h; simp at h
      | some a => rw [q3] at h; simp only [Option.bind_some] at h; exact lcL_wiped (e0 := a.2) rfl h
    · exact lcL_wiped (e0 := c.2) rfl h
section
variable {K : PySem.W.Frag}
/-- what was owned beside is apart from what is owned now -/
theorem lc_nd {L2 L5 M : List Addr} {G2 H2 G5 H5 : Hp} (x : Ext L2 G2 H2 G5 H5 L5) (n5 : L5.Nodup) (nn : (L2 ++ M).Nodup) (own : ∀ {a : Addr}, a ∈ M → G2 a = none ∧ H2 a ≠ none) : (L5 ++ M).Nodup :=
  List.nodup_append.mpr ⟨n5, (List.nodup_append.mp nn).2.1, fun a ha b hb e => by
    subst e
    rcases x.own a ha with z | z
    · exact (List.nodup_append.mp nn).2.2 a z a hb rfl
    · exact (own hb).2 z⟩
theorem lc_ext {L L2 L5 M : List Addr} {G H G2 H2 G5 H5 : Hp} (x : Ext L G H G2 H2 (L2 ++ M)) (y : Ext L2 G2 H2 G5 H5 L5) : Ext L G H G5 H5 (L5 ++ M) := by
  have z : Ext L G H G5 H5 L5 := x.trans y fun a h => x.own a (List.mem_append_left _ h)
  refine z.sub fun a h => ?_
  rcases List.mem_append.mp h with h | h
  · exact z.own a h
  · exact x.own a (List.mem_append_right _ h)
theorem lc_lift {vs W : List Nat} {FI : En → Option (List D × En)} {FT : D → En → Option En} {FC : En → Option (Bool × En)} {FE : En → Option (D × En)} {s2 : Bool} (hW : ∀ j ∈ W, j ∈ vs) (σ : St) (H : Hp) (Q : VK) (h : tE K true false (lcF vs FI FT FC FE) σ H Q) :
    tLc (tI K FI) (tG K W FT) (tT K false FC) (tE K true s2 FE) vs σ H Q := by
  obtain ⟨G, env, L, R, d, env', hf, k⟩ := h
  unfold lcF at hf
  cases q : FI env with
  | none => rw [q] at hf; simp at hf
  | some r =>
  obtain ⟨items, e0⟩ := r
  rw [q] at hf
  simp only [Option.bind_some] at hf
  split at hf
  case isFalse => cases hf
  rename_i hok
  cases q2 : lcL vs FT FC FE [] items (wpE vs e0) with
  | none => rw [q2] at hf; simp at hf
  | some r =>
  obtain ⟨res, ef⟩ := r
  rw [q2] at hf
  simp only [Option.map_some, Option.some.injEq, Prod.mk.injEq] at hf
  obtain ⟨rfl, rfl⟩ := hf
  refine ⟨G, env, L, R, items, e0, q, fun J G1 H1 L1 R1 x1 w D hD => ?_⟩
  have hlen := lineOk_le hok.1
  obtain ⟨Lw, rw0, sw0⟩ := R1.rep.wipe vs
  have f0 := Fresh.lst R1.le hD (.lst [])
  have Rw : RSt K (wipe σ vs) G1 (upd H1 D (.lst [])) (wpE vs e0) Lw := ⟨f0.le', rw0.mono f0.le fun a z => f0.keepOf (rw0.own a z), R1.nd.sublist sw0⟩
  have gD : G1 D = none := R1.le.none hD
  refine lc_it w (fun i H2 => ∃ G2 e2 L2 acc av La, RSt K (wipe σ vs) G2 H2 e2 L2 ∧ Le G1 G2 ∧ H2 D = some (.lst av) ∧ G2 D = none ∧ Rps K G2 H2 acc av La ∧ (L2 ++ (D :: La)).Nodup ∧ Ext Lw G1 H1 G2 H2 (L2 ++ (D :: La)) ∧ acc.length ≤ i ∧ (∃ e3, e2 = wpE vs e3) ∧
      lcL vs FT FC FE acc (items.drop i) e2 = some (res, ef)) ?_ ?_ ?_ ?_
  · refine ⟨G1, wpE vs e0, Lw, [], [], [], Rw, Le.refl _, upd_same, gD, .nil, ?_, ?_, Nat.zero_le _, ⟨_, rfl⟩, by simpa using q2⟩
    · exact f0.nodup (R1.nd.sublist sw0) fun a z => (rw0.own a z).2
    · exact f0.ext' fun a z => by
        rcases List.mem_append.mp z with z | z
        · exact .inl z
        · exact .inr (f0.new a z)
  · rintro i H2 hi ⟨G2, e2, L2, acc, av, La, R2, l2, _⟩
    exact l2.trans R2.le
  · rintro i x H2 H3 hi ⟨G2, e2, L2, acc, av, La, R2, l2, hH, gD2, ra, nn, x2, hal, ⟨e3, he3⟩, h2⟩ y
    obtain ⟨G3, dx, hd, fr, rd⟩ := y G2 l2 R2.le
    have e1 : items.drop i = dx :: items.drop (i + 1) := by
      obtain ⟨hl, hd'⟩ := List.getElem?_eq_some_iff.mp hd
      rw [← hd', List.getElem_cons_drop]
    rw [e1] at h2
    simp only [lcL] at h2
    cases q3 : FT dx e2 with
    | none => rw [q3] at h2; simp at h2
    | some e4 =>
    rw [q3] at h2
    simp only [Option.bind_some] at h2
    cases q4 : FC e4 with
    | none => rw [q4] at h2; simp at h2
    | some c =>
    obtain ⟨c, e5⟩ := c
    rw [q4] at h2
    simp only [Option.bind_some] at h2
    have R3 := R2.fresh fr
    have ra3 := ra.fresh fr
    have dOwn : ∀ {a : Addr}, a ∈ D :: La → G2 a = none ∧ H2 a ≠ none := fun {a} z => by
      rcases List.mem_cons.mp z with e | e
      · subst e; exact ⟨gD2, by rw [hH]; simp⟩
      · exact ra.own a e
    have apart : ∀ {a : Addr}, a ∈ D :: La → a ∉ L2 := fun {a} z y => (List.nodup_append.mp nn).2.2 a y a z rfl
    -- the owned list and its items behind any further change within L2
    have stay : ∀ {G4 H4 : Hp} {L4 : List Addr}, Ext L2 G2 H2 G4 H4 L4 → ∀ a ∈ D :: La, G4 a = none ∧ H4 a = H2 a := fun x a z => x.keep (apart z) (dOwn z).1 (dOwn z).2
    have x3 : Ext L2 G2 H2 G3 H3 L2 := fr.ext' fun a z => .inl z
    refine ⟨G3, e2, L2, dx, [], R3, rd, by simpa using R3.nd, e4, q3, fun σ4 G4 H4 L4 R4 k4 x4 => ⟨?_, ?_⟩⟩
    · -- the block's names alone have changed
      refine List.ext_getElem? fun j => ?_
      by_cases hj : j ∈ vs
      · by_cases hl : j < σ.length
        · rw [wipe_at hj (by rw [k4.1, wipe_length]; exact hl), wipe_at hj hl]
        · rw [List.getElem?_eq_none (by rw [wipe_length, k4.1, wipe_length]; omega), List.getElem?_eq_none (by rw [wipe_length]; omega)]
      · rw [wipe_off hj]
        exact (k4.2 j fun z => hj (hW j z)).trans rfl
    have wq : wipe σ4 vs = wipe σ vs := by
      refine List.ext_getElem? fun j => ?_
      by_cases hj : j ∈ vs
      · by_cases hl : j < σ.length
        · rw [wipe_at hj (by rw [k4.1, wipe_length]; exact hl), wipe_at hj hl]
        · rw [List.getElem?_eq_none (by rw [wipe_length, k4.1, wipe_length]; omega), List.getElem?_eq_none (by rw [wipe_length]; omega)]
      · rw [wipe_off hj]
        exact (k4.2 j fun z => hj (hW j z)).trans rfl
    have x24 : Ext L2 G2 H2 G4 H4 L4 := x3.trans x4 fun a z => .inl (by simpa using z)
    refine ⟨G4, e4, L4, R4, c, e5, q4, fun G5 H5 L5 R5 st5 x5 => ?_⟩
    have x25 : Ext L2 G2 H2 G5 H5 L5 := x24.trans x5 fun a z => x24.own a z
    cases c with
    | false =>
      rw [if_neg (by decide)] at h2
      show (if false = true then _ else _)
      rw [if_neg (by decide)]
      obtain ⟨L6, rw6, sw6⟩ := R5.rep.wipe vs
      rw [wq] at rw6
      have s5 := stay x25
      refine ⟨G5, wpE vs e5, L6, acc, av, La, ⟨R5.le, rw6, R5.nd.sublist sw6⟩, l2.trans x25.le, by rw [(s5 D (List.mem_cons_self ..)).2]; exact hH, (s5 D (List.mem_cons_self ..)).1, ra.mono x25.le fun a z => s5 a (List.mem_cons_of_mem _ z), ?_, ?_, by omega, ⟨_, rfl⟩, h2⟩
      · exact lc_nd (x25.sub fun a z => x25.own a (sw6.subset z)) (R5.nd.sublist sw6) nn dOwn
      · exact lc_ext x2 (x25.sub fun a z => x25.own a (sw6.subset z))
    | true =>
      rw [if_pos rfl] at h2
      show (if true = true then _ else _)
      rw [if_pos rfl]
      cases q5 : FE e5 with
      | none => rw [q5] at h2; simp at h2
      | some u =>
      obtain ⟨du, e6⟩ := u
      rw [q5] at h2
      simp only [Option.bind_some] at h2
      refine ⟨G5, e5, L5, R5, du, e6, q5, fun v G6 H6 L6 Lv R6 rv n6 st6 x6 => ?_⟩
      have x26 : Ext L2 G2 H2 G6 H6 (L6 ++ Lv) := x25.trans x6 fun a z => x25.own a z
      have s6 := stay x26
      have hD6 : H6 D = some (.lst av) := by rw [(s6 D (List.mem_cons_self ..)).2]; exact hH
      have gD6 := (s6 D (List.mem_cons_self ..)).1
      have hav : av.length < sizeLine := by rw [← ra.length]; omega
      refine ⟨av, hD6, hav, ?_⟩
      obtain ⟨L7, rw7, sw7⟩ := R6.rep.wipe vs
      rw [wq] at rw7
      -- nothing else lies at D
      have nD : D ∉ L6 ++ Lv := fun z => by
        rcases x26.own D z with w | w
        · exact apart (List.mem_cons_self ..) w
        · exact (dOwn (List.mem_cons_self ..)).2 w
      have keepD : ∀ {a : Addr}, a ≠ D → upd H6 D (.lst (av ++ [v])) a = H6 a := fun {a} n => upd_ne n
      have nn6 : (L6 ++ Lv ++ (D :: La)).Nodup := lc_nd x26 (n6 rfl) nn dOwn
      have le7 : Le G6 (upd H6 D (.lst (av ++ [v]))) := fun a o e => by
        rw [keepD fun z => by rw [z, gD6] at e; cases e]
        exact R6.le a o e
      refine ⟨G6, wpE vs e6, L7, acc ++ [du], av ++ [v], La ++ Lv, ⟨le7, rw7.mono (Le.refl _) fun a z => ⟨(rw7.own a z).1, keepD fun e => nD (by rw [← e]; exact List.mem_append_left _ (sw7.subset z))⟩, R6.nd.sublist sw7⟩, l2.trans x26.le, upd_same, gD6, ?_, ?_, ?_, by simp; omega, ⟨_, rfl⟩, h2⟩
      · have hLa : ∀ a ∈ La, a ≠ D := fun a z e => by
          have n1 := (List.nodup_append.mp nn).2.1
          rw [e] at z
          exact (List.nodup_cons.mp n1).1 z
        have p1 : Rps K G6 (upd H6 D (.lst (av ++ [v]))) acc av La := ra.mono x26.le fun a z => ⟨(s6 a (List.mem_cons_of_mem _ z)).1, (keepD (hLa a z)).trans (s6 a (List.mem_cons_of_mem _ z)).2⟩
        have p2 : Rp K G6 (upd H6 D (.lst (av ++ [v]))) du v Lv := rv.mono (Le.refl _) fun a z => ⟨(rv.own a z).1, keepD fun e => nD (by rw [← e]; exact List.mem_append_right _ z)⟩
        have p3 := p1.append (.cons (L1 := Lv) (L2 := []) p2 .nil)
        simpa using p3
      · have : (L7 ++ Lv ++ (D :: La)).Nodup := nn6.sublist ((sw7.append (List.Sublist.refl _)).append (List.Sublist.refl _))
        refine (List.Perm.nodup_iff ?_).mp this
        rw [List.append_assoc]
        exact List.Perm.append_left _ (by simpa using List.perm_append_comm (l₁ := Lv) (l₂ := D :: La))
      · have z := lc_ext x2 x26
        refine ⟨z.le, fun b nb hb => ?_, z.gd, fun b hb => z.own b ?_⟩
        · rw [keepD fun e => hb (by rw [e]; exact hD)]
          exact z.fr b nb hb
        · simp only [List.mem_append, List.mem_cons] at hb ⊢
          rcases hb with w | w | w | w
          · exact .inl (.inl (sw7.subset w))
          · exact .inr (.inl w)
          · exact .inr (.inr w)
          · exact .inl (.inr w)
  · rintro H2 ⟨G2, e2, L2, acc, av, La, R2, l2, hH, gD2, ra, nn, x2, hal, ⟨e3, rfl⟩, h2⟩
    rw [List.drop_length] at h2
    simp only [lcL, Option.some.injEq, Prod.mk.injEq] at h2
    obtain ⟨rfl, rfl⟩ := h2
    have m := REnv.merge (vs := vs) (n := 0) R1.rep R2.rep l2 (by rw [R1.rep.length, R2.rep.length, wipe_length]) hok.2 (fun i hi hl => by
      rw [Nat.zero_add] at hi
      exact wpE_at (List.contains_iff_mem.mp hi) (by rw [wpE_length] at hl; exact hl)) fun i hi => by
      rw [Nat.zero_add] at hi
      exact wipe_off fun z => by rw [List.contains_iff_mem.mpr z] at hi; cases hi
    exact k (.ref D) G2 H2 L2 (D :: La) ⟨R2.le, m, R2.nd⟩ (.lstO gD2 hH ra) (fun _ => nn) (fun z => nomatch z) (x1.trans x2 fun a z => x1.own a (sw0.subset z))
end
section
variable {X : Cx} {elt tg iter : Expr} {ifs : List Expr} {scope : Scope} {own : List (Str × Nat)} {pos spos py : Pos} {FI : En → Option (List D × En)} {FT : D → En → Option En} {FC : En → Option (Bool × En)} {FE : En → Option (D × En)} {W : List Nat} {s2 : Bool} {i : Nat} {y : Str}
theorem ev_lc (hc : X.calm = true) (hN : X.N.Nodup) (hi : Iv X tg iter FI) (ok : BlkOk X.N X.env.scope scope own)
    (hg : ∀ (s : Shared) (H : Hp) (C : Addr) (cl : List (Str × Addr)) (fp : List Addr), Gv (X.blk s H scope (compEnvC scope cl C X.env) fp) W tg FT) (ht : ∀ (s : Shared) (H : Hp) (C : Addr) (cl : List (Str × Addr)) (fp : List Addr), Cv (X.blk s H scope (compEnvC scope cl C X.env) fp) ifs FC)
    (he : ∀ (s : Shared) (H : Hp) (C : Addr) (cl : List (Str × Addr)) (fp : List Addr), Ev (X.blk s H scope (compEnvC scope cl C X.env) fp) true s2 elt FE) (hW : ∀ j ∈ W, j ∈ own.map (·.2)) (hs : ∀ x, foldedSetIterable iter X.env x = pure x := by intro _; rfl) :
    Ev X true false (.ListComp elt [⟨tg, iter, ifs, 0⟩] scope pos) (lcF (own.map (·.2)) FI FT FC FE) := peM (pe_lc hc hN hi ok hg ht he hs) fun σ H Q h => lc_lift hW σ H Q h
/-- name = [..] on one line -/
theorem sv_setLc (hc : X.calm = true) (hN : X.N.Nodup) (hy : X.N[i]? = some y) (hyl : X.env.scope.names.lookup y = some .local)
    (hsw : swapsWith (.ListComp elt [⟨tg, iter, ifs, 0⟩] scope pos) (some (.Name y py)) spos.line X.env = pure true) (hi : Iv X tg iter FI) (ok : BlkOk X.N X.env.scope scope own)
    (hg : ∀ (s : Shared) (H : Hp) (C : Addr) (cl : List (Str × Addr)) (fp : List Addr), Gv (X.blk s H scope (compEnvC scope cl C X.env) fp) W tg FT) (ht : ∀ (s : Shared) (H : Hp) (C : Addr) (cl : List (Str × Addr)) (fp : List Addr), Cv (X.blk s H scope (compEnvC scope cl C X.env) fp) ifs FC)
    (he : ∀ (s : Shared) (H : Hp) (C : Addr) (cl : List (Str × Addr)) (fp : List Addr), Ev (X.blk s H scope (compEnvC scope cl C X.env) fp) true s2 elt FE) (hW : ∀ j ∈ W, j ∈ own.map (·.2)) (hs : ∀ x, foldedSetIterable iter X.env x = pure x := by intro _; rfl) :
    Sv X [i] (.Assign [.Name y py] (.ListComp elt [⟨tg, iter, ifs, 0⟩] scope pos) spos) (stF (lcF (own.map (·.2)) FI FT FC FE) (put i)) :=
  psM (ps_setLc hc hN hy hyl hsw hi ok hg ht he hs) fun D σ H h => by
    obtain ⟨G, env, L, R, fl, env', hff, k⟩ := h
    unfold stF at hff
    cases q : lcF (own.map (·.2)) FI FT FC FE env with
    | none => rw [q] at hff; simp at hff
    | some r =>
    obtain ⟨d, e1⟩ := r
    rw [q] at hff
    simp only [Option.bind_some] at hff
    cases q2 : put i d e1 with
    | none => rw [q2] at hff; simp at hff
    | some e2 =>
    rw [q2] at hff
    simp only [Option.map_some, Option.some.injEq, Prod.mk.injEq] at hff
    obtain ⟨rfl, rfl⟩ := hff
    refine lc_lift (s2 := s2) hW σ H _ ⟨G, env, L, R, d, e1, q, fun v G1 H1 L1 Lr R1 r1 n1 st1 x1 => ?_⟩
    obtain ⟨L', R', ss⟩ := R1.put r1 (n1 rfl) q2
    exact k _ G1 H1 L' R' set_keep (x1.sub fun a z => x1.own a (ss a z))
end
end
end Pz

set_option Elab.async false
set_option linter.all false
set_option maxRecDepth 100000
set_option maxHeartbeats 1000000
namespace Pz
open PySem L2
noncomputable section

/-! ### a def -/
section
variable (K : PySem.W.Frag)
/-- what a def's function promises: its value, and what it gives back at each parameter -/
def spF (n : Nat) (F : List D → Option (D × En)) : Sp := fun vs H Q _ => vs.length = n ∧ ∃ G ds L, Le G H ∧ Rps K G H ds vs L ∧ L.Nodup ∧ ∃ d back, F ds = some (d, back) ∧
  ∀ v G' H' Lr Lb, Le G' H' → REnv K G' H' back (vs.map some) Lb → Rp K G' H' d v Lr → (Lb ++ Lr).Nodup → Ext L G H G' H' (Lb ++ Lr) → Q v H'
end
abbrev FnV (P : Program) (w : World) (K : PySem.W.Frag) (mg : Str → Option Value) (base : Heap) (k : Nat) (f : Addr) (fd : FuncData) (ps : List Str) (F : List D → Option (D × En)) : Prop := FnOk P w K mg base CX0 k f fd ps (spF K ps.length F)
def fnF (n m : Nat) (W : List Nat) (FB : En → Option (Fl × En)) : List D → Option (D × En) := fun ds => if ds.length = n then (FB (ds.map some ++ List.replicate m none)).bind fun r => match r.1 with
  | .rt d => some (d, (wpE W r.2).take n)
  | .nx => some (.non, (wpE W r.2).take n)
  | _ => none
  else none
section
variable {K : PySem.W.Frag} {G H G' H' : Hp}
theorem REnv.nones : ∀ m : Nat, REnv K G H (List.replicate m none) (List.replicate m none) []
  | 0 => .nil
  | m + 1 => .non (REnv.nones m)
theorem Rps.env : ∀ {ds : List D} {vs : List V} {L : List Addr} {es : En} {σ : St} {L2 : List Addr}, Rps K G H ds vs L → REnv K G H es σ L2 → REnv K G H (ds.map some ++ es) (vs.map some ++ σ) (L ++ L2)
  | _, _, _, _, _, _, .nil, r => r
  | _, _, _, _, _, _, .cons h hs, r => by
    rw [List.append_assoc]
    exact .val h (Rps.env hs r)
theorem REnv.take : ∀ {es : En} {σ : St} {L : List Addr} (n : Nat), REnv K G H es σ L → ∃ L', REnv K G H (es.take n) (σ.take n) L' ∧ L'.Sublist L
  | _, _, _, 0, _ => ⟨[], by simpa using REnv.nil, List.nil_sublist _⟩
  | _, _, _, _ + 1, .nil => ⟨[], .nil, List.Sublist.refl _⟩
  | _, _, _, n + 1, .non r => by
    obtain ⟨L', r', s⟩ := REnv.take n r
    exact ⟨L', .non r', s⟩
  | _, _, _, n + 1, .val h r => by
    obtain ⟨L', r', s⟩ := REnv.take n r
    exact ⟨_, .val h r', (List.Sublist.refl _).append s⟩
/-- the same slots by other values where nothing is said -/
theorem REnv.retag : ∀ {es : En} {τ σ : St} {L : List Addr}, REnv K G H es τ L → τ.length = σ.length → (∀ (i : Nat) (d : D), es[i]? = some (some d) → τ[i]? = σ[i]?) → REnv K G H es σ L
  | _, _, [], _, .nil, _, _ => .nil
  | _, _, _ :: _, _, .nil, h, _ => by simp at h
  | _, _, [], _, .non _, h, _ => by simp at h
  | _, _, [], _, .val _ _, h, _ => by simp at h
  | _, _, o :: σ, _, .non r, h, k => .non (REnv.retag r (by simpa using h) fun i d e => by have := k (i + 1) d (by simpa using e); simpa using this)
  | _, _, o :: σ, _, .val (v := v) q r, h, k => by
    have e := k 0 _ rfl
    simp at e
    rw [← e]
    exact .val q (REnv.retag r (by simpa using h) fun i d e => by have := k (i + 1) d (by simpa using e); simpa using this)
variable {P : Program} {w : World} {mg : Str → Option Value} {base : Heap}
theorem fnV {x qual : Str} {st : Stmt} {f : Addr} {fd : FuncData} {N ps : List Str} {k : Nat} {W : List Nat} {FB : En → Option (Fl × En)} (F : Fun K x qual st f fd) (S : FnScope N ps (defScope st)) (m : Nat) (hm : N.length = ps.length + m)
    (hbody : ∀ (cdv : Value) (A : Around) (outer : List Env) (s : Shared) (H : Hp) (E : XK), Room k (A.deeper (PyProof.Rows.envOfC qual (defScope st) s.heap.objs.size f cdv)) → Bv (cxOf CX0 P w K mg base N qual (defScope st) f cdv A outer s H E).nox W (defBody st) FB) :
    FnV P w K mg base (k + 1) f fd ps (fnF ps.length m W FB) := by
  refine F.ok S (fun vs H Q E h => h.1) fun cdv A outer s H vs Q E hr h => ?_
  refine ⟨_, hbody cdv A outer s H E hr, ?_⟩
  obtain ⟨hl, G, ds, L, l, r, nd, d, back, hF, q⟩ := h
  unfold fnF at hF
  have hds : ds.length = ps.length := by rw [r.length, hl]
  rw [if_pos hds] at hF
  cases q2 : FB (ds.map some ++ List.replicate m none) with
  | none => rw [q2] at hF; simp at hF
  | some u =>
  obtain ⟨fl, env'⟩ := u
  rw [q2] at hF
  simp only [Option.bind_some] at hF
  have es : L2.start N vs = vs.map some ++ List.replicate m none := by
    unfold L2.start
    rw [hm, hl, Nat.add_sub_cancel_left]
  have R0 : RSt K (L2.start N vs) G H (ds.map some ++ List.replicate m none) L := ⟨l, by rw [es]; simpa using r.env (REnv.nones m), nd⟩
  -- what is given back
  have giv : ∀ {σ' : St} {G' H' : Hp} {L' : List Addr}, RSt K σ' G' H' env' L' → Keep W (L2.start N vs) σ' → ∃ Lb, REnv K G' H' ((wpE W env').take ps.length) (vs.map some) Lb ∧ Lb.Sublist L' := fun {σ' G' H' L'} R' k' => by
    obtain ⟨L1, r1, s1⟩ := R'.rep.wipe W
    have r2 : REnv K G' H' (wpE W env') (L2.start N vs) L1 := r1.retag (by rw [wipe_length]; exact k'.1) fun i d e => by
      have hi : i ∉ W := fun z => by
        have hl : i < env'.length := by
          have := (List.getElem?_eq_some_iff.mp e).1
          rwa [wpE_length] at this
        rw [wpE_at z hl] at e; cases e
      rw [wipe_off hi]
      exact k'.2 i hi
    obtain ⟨L3, r3, s2⟩ := r2.take ps.length
    refine ⟨L3, ?_, s2.trans s1⟩
    have : (_root_.L2.start N vs).take ps.length = vs.map some := by
      rw [es, ← hl, List.take_append_of_le_length (by simp), List.take_of_length_le (by simp)]
    rwa [this] at r3
  refine ⟨G, _, L, R0, fl, env', q2, ?_⟩
  cases fl with
  | bk => cases hF
  | ct => cases hF
  | nx =>
    cases hF
    intro σ' G' H' L' R' k' x'
    obtain ⟨Lb, rb, sb⟩ := giv R' k'
    exact q .non G' H' [] Lb R'.le rb .non (by rw [List.append_nil]; exact R'.nd.sublist sb) (x'.sub fun a z => x'.own a (sb.subset (by simpa using z)))
  | rt d =>
    cases hF
    intro σ' v G' H' L' Lr R' k' r' n' x'
    obtain ⟨Lb, rb, sb⟩ := giv R' k'
    exact q v G' H' Lr Lb R'.le rb r' (n'.sublist (sb.append (List.Sublist.refl _))) (x'.sub fun a z => x'.own a (((sb.append (List.Sublist.refl Lr)).subset) z))
end

/-! ### a call -/
def clF (F : List D → Option (D × En)) (FA : En → Option (List D × En)) : En → Option (D × En) := fun env => (FA env).bind fun a => (F a.1).map fun r => (r.1, a.2)
section
variable {X : Cx} {k : Nat} {f : Addr} {fd : FuncData} {ps : List Str} {F : List D → Option (D × En)} {FA : En → Option (List D × En)} {x : Str} {p pos : Pos} {e : Expr} {es : List Expr} {s : Bool}
theorem cl_lift {K : PySem.W.Frag} {n : Nat} {E : XK} (hn : ∀ ds r, F ds = some r → ds.length = n) (σ : St) (H : Hp) (Q : VK) (h : tE K true s (clF F FA) σ H Q) : tCall (spF K n F) [] E (tA K true s FA) σ H Q := by
  obtain ⟨G, env, L, R, d, env', hf, k⟩ := h
  unfold clF at hf
  cases q : FA env with
  | none => rw [q] at hf; simp at hf
  | some r =>
  obtain ⟨ds, e1⟩ := r
  rw [q] at hf
  simp only [Option.bind_some] at hf
  cases q2 : F ds with
  | none => rw [q2] at hf; simp at hf
  | some r =>
  obtain ⟨dr, back⟩ := r
  rw [q2] at hf
  simp only [Option.map_some, Option.some.injEq, Prod.mk.injEq] at hf
  obtain ⟨rfl, rfl⟩ := hf
  refine ⟨G, env, L, R, ds, e1, q, fun vs G1 H1 L1 La R1 ra n1 st1 x1 => ?_⟩
  have nn := n1 rfl
  have ap : ∀ a ∈ L1, a ∉ La := fun a h h' => (List.nodup_append.mp nn).2.2 a h a h' rfl
  refine ⟨by rw [List.append_nil, ← ra.length]; exact hn ds _ q2, G1, ds, La, R1.le, by rw [List.append_nil]; exact ra, (List.nodup_append.mp nn).2.1, dr, back, q2, fun v G2 H2 Lr Lb l2 rb rr n2 x2 => ?_⟩
  have R2 : RSt K σ G2 H2 e1 L1 := ⟨l2, R1.rep.mono x2.le fun a z => x2.keep (ap a z) (R1.rep.own a z).1 (R1.rep.own a z).2, R1.nd⟩
  have x12 : Ext L G H G2 H2 (Lb ++ Lr) := x1.trans x2 fun a z => x1.own a (List.mem_append_right _ z)
  refine k v G2 H2 L1 Lr R2 rr (fun _ => List.nodup_append.mpr ⟨R1.nd, (List.nodup_append.mp n2).2.1, fun a ha b hb e => ?_⟩) (fun hs => ?_) (x12.sub fun a z => ?_)
  · subst e
    rcases x2.own a (List.mem_append_right _ hb) with z | z
    · exact ap a ha z
    · exact (R1.rep.own a ha).2 z
  · obtain ⟨f1, f2, f3⟩ := st1 hs
    refine ⟨f1, f2, fun b hb => ?_⟩
    have hb1 : H1 b ≠ none := by rw [f3 b hb]; exact hb
    refine (x2.fr b (fun z => ?_) hb1).trans (f3 b hb)
    rcases x1.own b (List.mem_append_right _ z) with w | w
    · exact ap b (by rw [f2]; exact w) z
    · exact hb w
  · rcases List.mem_append.mp z with w | w
    · exact x1.own a (List.mem_append_left _ w)
    · exact x12.own a (List.mem_append_right _ w)
theorem ev_call (F' : FnV X.prog X.w X.K X.mg X.base k f fd ps F) (hn : ∀ ds r, F ds = some r → ds.length = ps.length) (hr : Room k X.A) (hg : Gl X x) (hm : X.mg x = some (.ref f)) (hk : PySem.W.keepIn X.K (.ref f) = true) (hb : Binds X.K fd ps []) (ha : Av X true s (e :: es) FA)
    (hdb : (x == ("__debug__" : Str)) = false := by decide) (he : starEach (e :: es) X.env = (false, eval e X.env) :: starEach es X.env := by rfl) (hpl : (backTo pos (starEach es X.env)).any (·.1) = false := by rfl) :
    Ev X true s (.Call (.Name x p) (e :: es) [] pos) (clF F FA) := peM (pe_call F' hr hg hm hk hb .nil pass0 ha hdb he hpl) (cl_lift hn)

/-! ### arguments that are lent -/
/-- lens: for each argument the slot that it was taken from, if it was lent -/
def tL (K : PySem.W.Frag) (lens : List (Option Nat)) (F : En → Option (List D × En)) : TA := fun σ H Q => ∃ G env L, RSt K σ G H env L ∧ ∃ d env', F env = some (d, env') ∧
  ∀ v G' H' L' Lr, RSt K σ G' H' env' L' → Rps K G' H' d v Lr → (L' ++ Lr).Nodup → (∀ (j i : Nat) (u : V), lens[j]? = some (some i) → v[j]? = some u → σ[i]? = some (some u)) → v.length = lens.length → Ext L G H G' H' (L' ++ Lr) → Q v H'
abbrev Lv (X : Cx) (lens : List (Option Nat)) (es : List Expr) (F : En → Option (List D × En)) : Prop := PA X es (tL X.K lens F)
def ldF (i : Nat) : En → Option (D × En) := fun env => (env[i]?).bind fun o => o.map fun d => (d, env.set i none)
theorem lv_nil : Lv X [] [] aNil := paM pa_nil fun σ H Q ⟨G, env, L, R, d, env', hf, k⟩ => by
  cases hf
  exact k [] G H L [] R .nil (by simpa using R.nd) (fun j i u h => by simp at h) rfl (Ext.refl fun b z => by simpa using z)
theorem lv_cons {F : En → Option (D × En)} {FR : En → Option (List D × En)} {lens : List (Option Nat)} (he : Ev X true s e F) (hr : Lv X lens es FR) (hs : starEach (e :: es) X.env = (false, eval e X.env) :: starEach es X.env := by rfl) : Lv X (none :: lens) (e :: es) (aCons F FR) :=
  paM (pa_cons he hr hs) fun σ H Q ⟨G, env, L, R, d, env', hf, k⟩ => by
  unfold aCons at hf
  cases q1 : F env with
  | none => rw [q1] at hf; simp at hf
  | some r1 =>
  obtain ⟨da, e1⟩ := r1
  rw [q1] at hf
  simp only [Option.bind_some] at hf
  cases q2 : FR e1 with
  | none => rw [q2] at hf; simp at hf
  | some r2 =>
  obtain ⟨dr, e2⟩ := r2
  rw [q2] at hf
  simp only [Option.map_some, Option.some.injEq, Prod.mk.injEq] at hf
  obtain ⟨rfl, rfl⟩ := hf
  refine ⟨G, env, L, R, da, e1, q1, fun x G1 H1 L1 La R1 ra n1 st1 x1 => ⟨G1, e1, L1, R1, dr, _, q2, fun y G2 H2 L2 Lb R2 rb n2 ln2 len2 x2 => ?_⟩⟩
  have n1' := n1 rfl
  have a1 := List.nodup_append.mp n1'
  have ra2 : Rp X.K G2 H2 da x La := ra.mono x2.le fun a z => x2.keep (fun w => a1.2.2 a w a z rfl) (ra.own a z).1 (ra.own a z).2
  refine k (x :: y) G2 H2 L2 (La ++ Lb) R2 (.cons ra2 rb) ?_ (fun j i u hj hu => ?_) (by simp [len2]) (ext_two x1 x2)
  · have a2 := List.nodup_append.mp n2
    have apart : ∀ z ∈ La, z ∉ L2 ++ Lb := fun z hz hz2 => by
      rcases x2.own z hz2 with w | w
      · exact a1.2.2 z w z hz rfl
      · exact (ra.own z hz).2 w
    refine List.nodup_append.mpr ⟨a2.1, List.nodup_append.mpr ⟨a1.2.1, a2.2.1, fun z hz y hy e => ?_⟩, fun z hz y hy e => ?_⟩
    · subst e; exact apart z hz (List.mem_append_right _ hy)
    · subst e
      rcases List.mem_append.mp hy with w | w
      · exact apart z w (List.mem_append_left _ hz)
      · exact a2.2.2 z hz z w rfl
  · cases j with
    | zero => simp at hj
    | succ j => exact ln2 j i u (by simpa using hj) (by simpa using hu)
/-- a list that is lent: it is taken when all arguments are there -/
def aConsL (i : Nat) (FR : En → Option (List D × En)) : En → Option (List D × En) := fun env => match env[i]? with
  | some (some _) => (FR env).bind fun r => (r.2[i]?).bind fun o => o.map fun d => (d :: r.1, r.2.set i none)
  | _ => none
theorem lv_lend {i : Nat} {FR : En → Option (List D × En)} {lens : List (Option Nat)} (he : PE X e (tVar i)) (hr : Lv X lens es FR) (hs : starEach (e :: es) X.env = (false, eval e X.env) :: starEach es X.env := by rfl) : Lv X (some i :: lens) (e :: es) (aConsL i FR) :=
  paM (pa_cons he hr hs) fun σ H Q ⟨G, env, L, R, d, env', hf, k⟩ => by
  unfold aConsL at hf
  split at hf
  case h_2 => cases hf
  rename_i d0 q0
  cases q2 : FR env with
  | none => rw [q2] at hf; simp at hf
  | some r2 =>
  obtain ⟨dr, e2⟩ := r2
  rw [q2] at hf
  simp only [Option.bind_some] at hf
  cases q3 : e2[i]? with
  | none => rw [q3] at hf; simp at hf
  | some o =>
  cases o with
  | none => rw [q3] at hf; simp at hf
  | some da =>
  rw [q3] at hf
  simp only [Option.bind_some, Option.map_some, Option.some.injEq, Prod.mk.injEq] at hf
  obtain ⟨rfl, rfl⟩ := hf
  obtain ⟨hi0, _⟩ := List.getElem?_eq_some_iff.mp q0
  obtain ⟨_, _, _, _, f0, _⟩ := R.rep.at hi0
  obtain ⟨v, ev, _⟩ := f0 d0 q0
  refine ⟨v, ev, G, env, L, R, dr, e2, q2, fun y G2 H2 L2 Lc R2 rb n2 ln2 len2 x2 => ?_⟩
  obtain ⟨hi, _⟩ := List.getElem?_eq_some_iff.mp q3
  obtain ⟨La, Li, Lb, e0, f, g⟩ := R2.rep.at hi
  obtain ⟨v', ev', r⟩ := f da q3
  obtain rfl : v = v' := by rw [ev] at ev'; simpa using ev'
  have g' := (g (Le.refl G2) (H' := H2) fun a z => ⟨(R2.rep.own a (by rw [e0]; rcases List.mem_append.mp z with z | z <;> simp [z])).1, rfl⟩).2 (some v)
  have eσ : σ.set i (some v) = σ := by
    refine List.ext_getElem? fun j => ?_
    by_cases hj : i = j
    · subst hj
      obtain ⟨hl, _⟩ := List.getElem?_eq_some_iff.mp ev
      rw [List.getElem?_set_self hl, ev]
    · rw [List.getElem?_set_ne hj]
  rw [eσ] at g'
  have nd : ((La ++ Lb) ++ (Li ++ Lc)).Nodup := by
    rw [e0] at n2
    refine (List.Perm.nodup_iff ?_).mp n2
    rw [List.append_assoc, List.append_assoc, List.append_assoc]
    refine List.Perm.append_left _ ?_
    rw [← List.append_assoc, ← List.append_assoc]
    exact List.Perm.append_right _ List.perm_append_comm
  refine k (v :: y) G2 H2 (La ++ Lb) (Li ++ Lc) ⟨R2.le, g', nd.sublist (List.sublist_append_left _ _)⟩ (.cons r rb) nd (fun j i' u hj hu => ?_) (by simp [len2]) (x2.sub fun a z => x2.own a ?_)
  · cases j with
    | zero => simp at hj hu; subst hj hu; exact ev
    | succ j => exact ln2 j i' u (by simpa using hj) (by simpa using hu)
  · rw [e0]
    simp only [List.mem_append] at z ⊢
    rcases z with (z | z) | z | z <;> simp [z]
/-- what was lent comes back -/
def giveE : List (Option Nat) → List D → En → En → En
  | some i :: ls, d :: ds, b :: bs, env => giveE ls ds bs (if d.pure = true then env.set i (some d) else match b with | some b => env.set i (some b) | none => env)
  | none :: ls, _ :: ds, _ :: bs, env => giveE ls ds bs env
  | _, _, _, env => env
theorem RSt.setAt {K : PySem.W.Frag} {σ : St} {G H : Hp} {env : En} {L Lr : List Addr} {i : Nat} {d : D} {v : V} (R : RSt K σ G H env L) (r : Rp K G H d v Lr) (n : (L ++ Lr).Nodup) (e : σ[i]? = some (some v)) :
    ∃ L', RSt K σ G H (env.set i (some d)) L' ∧ ∀ a ∈ L', a ∈ L ++ Lr := by
  have hi : i < env.length := by rw [R.rep.length]; exact (List.getElem?_eq_some_iff.mp e).1
  obtain ⟨L', R', s⟩ := R.put (i := i) r n (by unfold Pz.put; rw [if_pos hi])
  have eσ : σ.set i (some v) = σ := by
    refine List.ext_getElem? fun j => ?_
    by_cases hj : i = j
    · subst hj
      obtain ⟨hl, _⟩ := List.getElem?_eq_some_iff.mp e
      rw [List.getElem?_set_self hl, e]
    · rw [List.getElem?_set_ne hj]
  rw [eσ] at R'
  exact ⟨L', R', s⟩
theorem give_ok {K : PySem.W.Frag} {σ : St} {G G1 H H1 : Hp} : ∀ {lens : List (Option Nat)} {ds : List D} {vs : List V} {back env : En} {La Lb L : List Addr}, Rps K G1 H1 ds vs La → Le G1 G → REnv K G H back (vs.map some) Lb → RSt K σ G H env L → (L ++ Lb).Nodup →
    (∀ (j i : Nat) (u : V), lens[j]? = some (some i) → vs[j]? = some u → σ[i]? = some (some u)) → ∃ L', RSt K σ G H (giveE lens ds back env) L' ∧ ∀ a ∈ L', a ∈ L ++ Lb
  | [], ds, vs, back, env, La, Lb, L, ra, l, rb, R, n, ln => ⟨L, by simpa [giveE] using R, fun a z => List.mem_append_left _ z⟩
  | o :: ls, [], vs, back, env, La, Lb, L, ra, l, rb, R, n, ln => ⟨L, by cases o <;> simpa [giveE] using R, fun a z => List.mem_append_left _ z⟩
  | o :: ls, d :: ds, _ :: vs, _, env, _, _, L, .cons r ra, l, .non rb, R, n, ln => by
    have ln' : ∀ (j i : Nat) (u : V), ls[j]? = some (some i) → vs[j]? = some u → σ[i]? = some (some u) := fun j i u h1 h2 => ln (j + 1) i u (by simpa using h1) (by simpa using h2)
    cases o with
    | none => simpa [giveE] using give_ok ra l rb R n ln'
    | some i =>
      simp only [giveE]
      split
      · rename_i hp
        obtain rfl := r.pure_nil hp
        obtain ⟨L', R', s⟩ := R.setAt (r.mono l fun _ z => nomatch z : Rp K G H d _ []) (by simpa using R.nd) (ln 0 i _ rfl rfl)
        obtain ⟨L'', R'', s'⟩ := give_ok ra l rb R' (List.nodup_append.mpr ⟨R'.nd, (List.nodup_append.mp n).2.1, fun a ha b hb e => (List.nodup_append.mp n).2.2 a (by simpa using s a ha) b hb e⟩) ln'
        exact ⟨L'', R'', fun a z => by
          rcases List.mem_append.mp (s' a z) with w | w
          · exact List.mem_append_left _ (by simpa using s a w)
          · exact List.mem_append_right _ w⟩
      · exact give_ok ra l rb R n ln'
  | o :: ls, d :: ds, _ :: vs, _, env, _, _, L, .cons r ra, l, .val (d := b) (L1 := L1) (L2 := L2) q rb, R, n, ln => by
    have ln' : ∀ (j i : Nat) (u : V), ls[j]? = some (some i) → vs[j]? = some u → σ[i]? = some (some u) := fun j i u h1 h2 => ln (j + 1) i u (by simpa using h1) (by simpa using h2)
    cases o with
    | none =>
      obtain ⟨L', R', s⟩ := give_ok ra l rb R (n.sublist ((List.Sublist.refl _).append (List.sublist_append_right _ _))) ln'
      exact ⟨L', by simpa [giveE] using R', fun a z => by rcases List.mem_append.mp (s a z) with w | w <;> simp [w]⟩
    | some i =>
      simp only [giveE]
      split
      · rename_i hp
        obtain rfl := r.pure_nil hp
        obtain ⟨L', R', s⟩ := R.setAt (r.mono l fun _ z => nomatch z : Rp K G H d _ []) (by simpa using R.nd) (ln 0 i _ rfl rfl)
        obtain ⟨L'', R'', s'⟩ := give_ok ra l rb R' (List.nodup_append.mpr ⟨R'.nd, ((List.nodup_append.mp n).2.1).sublist (List.sublist_append_right _ _), fun a ha b hb e => (List.nodup_append.mp n).2.2 a (by simpa using s a ha) b (List.mem_append_right _ hb) e⟩) ln'
        exact ⟨L'', R'', fun a z => by
          rcases List.mem_append.mp (s' a z) with w | w
          · exact List.mem_append_left _ (by simpa using s a w)
          · simp [w]⟩
      · obtain ⟨L', R', s⟩ := R.setAt q (n.sublist ((List.Sublist.refl _).append (List.sublist_append_left _ _))) (ln 0 i _ rfl rfl)
        have n3 : (L ++ L1 ++ L2).Nodup := by simpa using n
        obtain ⟨L'', R'', s'⟩ := give_ok ra l rb R' (List.nodup_append.mpr ⟨R'.nd, (List.nodup_append.mp n3).2.1, fun a ha b hb e => (List.nodup_append.mp n3).2.2 a (s a ha) b hb e⟩) ln'
        exact ⟨L'', R'', fun a z => by
          rcases List.mem_append.mp (s' a z) with w | w
          · have := s a w; simp only [List.mem_append] at this ⊢; rcases this with w | w <;> simp [w]
          · simp [w]⟩
def lcallF (lens : List (Option Nat)) (F : List D → Option (D × En)) (FA : En → Option (List D × En)) : En → Option (D × En) := fun env => (FA env).bind fun a => (F a.1).map fun r => (r.1, giveE lens a.1 r.2 a.2)
theorem ev_callL {lens : List (Option Nat)} (F' : FnV X.prog X.w X.K X.mg X.base k f fd ps F) (hr : Room k X.A) (hg : Gl X x) (hm : X.mg x = some (.ref f)) (hk : PySem.W.keepIn X.K (.ref f) = true) (hb : Binds X.K fd ps []) (ha : Lv X lens (e :: es) FA) (hlen : lens.length = ps.length := by rfl)
    (hdb : (x == ("__debug__" : Str)) = false := by decide) (he : starEach (e :: es) X.env = (false, eval e X.env) :: starEach es X.env := by rfl) (hpl : (backTo pos (starEach es X.env)).any (·.1) = false := by rfl) :
    Ev X true false (.Call (.Name x p) (e :: es) [] pos) (lcallF lens F FA) := peM (pe_call F' hr hg hm hk hb .nil pass0 ha hdb he hpl) fun σ H Q h => by
  obtain ⟨G, env, L, R, d, env', hf, k⟩ := h
  unfold lcallF at hf
  cases q : FA env with
  | none => rw [q] at hf; simp at hf
  | some r =>
  obtain ⟨ds, e1⟩ := r
  rw [q] at hf
  simp only [Option.bind_some] at hf
  cases q2 : F ds with
  | none => rw [q2] at hf; simp at hf
  | some r =>
  obtain ⟨dr, back⟩ := r
  rw [q2] at hf
  simp only [Option.map_some, Option.some.injEq, Prod.mk.injEq] at hf
  obtain ⟨rfl, rfl⟩ := hf
  refine ⟨G, env, L, R, ds, e1, q, fun vs G1 H1 L1 La R1 ra nn ln1 len1 x1 => ?_⟩
  have ap : ∀ a ∈ L1, a ∉ La := fun a h h' => (List.nodup_append.mp nn).2.2 a h a h' rfl
  refine ⟨by rw [List.append_nil, len1, hlen], G1, ds, La, R1.le, by rw [List.append_nil]; exact ra, (List.nodup_append.mp nn).2.1, dr, back, q2, fun v G2 H2 Lr Lb l2 rb rr n2 x2 => ?_⟩
  rw [List.append_nil] at rb
  have R2 : RSt X.K σ G2 H2 e1 L1 := ⟨l2, R1.rep.mono x2.le fun a z => x2.keep (ap a z) (R1.rep.own a z).1 (R1.rep.own a z).2, R1.nd⟩
  have x12 : Ext L G H G2 H2 (Lb ++ Lr) := x1.trans x2 fun a z => x1.own a (List.mem_append_right _ z)
  have ap2 : ∀ a ∈ Lb ++ Lr, a ∉ L1 := fun a h h' => by
    rcases x2.own a h with z | z
    · exact ap a h' z
    · exact (R1.rep.own a h').2 z
  have n3 : ((L1 ++ Lb) ++ Lr).Nodup := by
    rw [List.append_assoc]
    exact List.nodup_append.mpr ⟨R1.nd, n2, fun a ha b hb e => ap2 b hb (by rw [← e]; exact ha)⟩
  obtain ⟨L3, R3, s3⟩ := give_ok ra x2.le rb R2 (n3.sublist (List.sublist_append_left _ _)) ln1
  refine k v G2 H2 L3 Lr R3 rr (fun _ => List.nodup_append.mpr ⟨R3.nd, (List.nodup_append.mp n3).2.1, fun a ha b hb e => (List.nodup_append.mp n3).2.2 a (s3 a ha) b hb e⟩) (fun z => nomatch z) (x12.sub fun a z => ?_)
  rcases List.mem_append.mp z with w | w
  · rcases List.mem_append.mp (s3 a w) with w | w
    · exact x1.own a (List.mem_append_left _ w)
    · exact x12.own a (List.mem_append_left _ w)
  · exact x12.own a (List.mem_append_right _ w)
end
end
end Pz

set_option Elab.async false
set_option linter.all false
set_option maxRecDepth 100000
set_option maxHeartbeats 1000000
namespace Pz
open PySem L2
noncomputable section

def lineLt (n : Nat) : Bool := tst (n < 16777216)
theorem lineLt_lt {n : Nat} (h : lineLt n = true) : n < sizeLine := by rw [sizeLine_eq]; exact of_tst h
def isL : Option (Option D) → Bool
  | some (some (.lst _ _)) => true
  | _ => false
def mtF (i : Nat) (f : List D → List D → Option (D × List D)) (FA : En → Option (List D × En)) : En → Option (D × En) := fun env => if isL env[i]? = true then (FA env).bind fun a => match a.2[i]? with
  | some (some (.lst true ds)) => (f ds a.1).map fun r => (r.1, a.2.set i (some (.lst true r.2)))
  | _ => none
  else none
def MutOK (K : PySem.W.Frag) (r : V → List V → Hp → VK → Prop) (f : List D → List D → Option (D × List D)) : Prop := ∀ {G H : Hp} {ds as ds' : List D} {vs xs : List V} {p : Addr} {L1 La : List Addr} {res : D} {Q : VK},
  Le G H → G p = none → H p = some (.lst vs) → Rps K G H ds vs L1 → Rps K G H as xs La → (L1 ++ La).Nodup → f ds as = some (res, ds') →
  (∀ v vs' Lr L', Rp K G H res v Lr → Rps K G H ds' vs' L' → (L' ++ Lr).Nodup → (∀ a ∈ L' ++ Lr, a ∈ L1 ++ La) → Q v (upd H p (.lst vs'))) → r (.ref p) xs H Q
section
variable {K : PySem.W.Frag}
theorem isL_ok {σ : St} {G H : Hp} {env : En} {L : List Addr} {i : Nat} (R : RSt K σ G H env L) (h : isL env[i]? = true) : ∃ p, σ[i]? = some (some (.ref p)) ∧ ∃ xs, SqL K H p xs := by
  cases q : env[i]? with
  | none => rw [q] at h; cases h
  | some o =>
  cases o with
  | none => rw [q] at h; cases h
  | some d =>
  rw [q] at h
  obtain ⟨hi, _⟩ := List.getElem?_eq_some_iff.mp q
  obtain ⟨La, Li, Lb, e0, f, _⟩ := R.rep.at hi
  obtain ⟨v, ev, r⟩ := f d q
  cases d <;> simp only [isL, Bool.false_eq_true] at h
  obtain ⟨p, vs, _, rfl, sa, _, _⟩ := r.lst_inv R.le
  exact ⟨p, ev, vs, SqL.of sa⟩
/-- the changed list in its slot -/
theorem RSt.chg {σ : St} {G H : Hp} {env : En} {L Lx : List Addr} {i : Nat} {ds : List D} (R : RSt K σ G H env L) (e : env[i]? = some (some (.lst true ds))) (nx : ∀ a ∈ Lx, a ∉ L) :
    ∃ p vs L1, σ[i]? = some (some (.ref p)) ∧ G p = none ∧ H p = some (.lst vs) ∧ Rps K G H ds vs L1 ∧ p ∈ L ∧ (∀ a ∈ L1, a ∈ L) ∧ (p :: L1).Nodup ∧
      ∀ {ds' : List D} {vs' : List V} {L' : List Addr}, Rps K G H ds' vs' L' → L'.Nodup → (∀ a ∈ L', a ∈ L1 ∨ a ∈ Lx) → p ∉ L' → ∃ L2, RSt K σ G (upd H p (.lst vs')) (env.set i (some (.lst true ds'))) L2 ∧ ∀ a ∈ L2, (a ∈ L ∧ a ∉ L1) ∨ a ∈ L' := by
  obtain ⟨hi, _⟩ := List.getElem?_eq_some_iff.mp e
  obtain ⟨La, Li, Lb, e0, f, g⟩ := R.rep.at hi
  obtain ⟨v, ev, r⟩ := f _ e
  cases r with
  | @lstO p vs _ L1 n h hs =>
  have nd : (La ++ (p :: L1) ++ Lb).Nodup := e0 ▸ R.nd
  have nd1 := List.nodup_append.mp nd
  have nd2 := List.nodup_append.mp nd1.1
  have offp : ∀ a ∈ La ++ Lb, a ∉ p :: L1 := fun a z w => by
    rcases List.mem_append.mp z with z | z
    · exact nd2.2.2 a z a w rfl
    · exact nd1.2.2 a (List.mem_append_right _ w) a z rfl
  refine ⟨p, vs, L1, ev, n, h, hs, by rw [e0]; simp, fun a z => by rw [e0]; simp [z], nd2.2.1, fun {ds' vs' L'} r' n' s' np => ?_⟩
  have up : ∀ a, a ≠ p → upd H p (.lst vs') a = H a := fun a z => upd_ne z
  have r2 : Rp K G (upd H p (.lst vs')) (.lst true ds') (.ref p) (p :: L') := .lstO n upd_same (r'.mono (Le.refl _) fun a z => ⟨(r'.own a z).1, up a fun q => np (q ▸ z)⟩)
  have q := (g (Le.refl G) (H' := upd H p (.lst vs')) fun a z => ⟨(R.rep.own a (by rw [e0]; rcases List.mem_append.mp z with z | z <;> simp [z])).1, up a fun w => offp a z (by simp [w])⟩).1 r2
  have eσ : σ.set i (some (.ref p)) = σ := by
    refine List.ext_getElem? fun j => ?_
    by_cases hj : i = j
    · subst hj
      obtain ⟨hl, _⟩ := List.getElem?_eq_some_iff.mp ev
      rw [List.getElem?_set_self hl, ev]
    · rw [List.getElem?_set_ne hj]
  rw [eσ] at q
  have inL : ∀ a ∈ La ++ Lb, a ∈ L := fun a z => by rw [e0]; rcases List.mem_append.mp z with z | z <;> simp [z]
  have ap : ∀ a ∈ p :: L', a ∉ La ++ Lb := fun a z w => by
    rcases List.mem_cons.mp z with y | y
    · exact offp a w (by simp [y])
    · rcases s' a y with y | y
      · exact offp a w (by simp [y])
      · exact nx a y (inL a w)
  refine ⟨La ++ (p :: L') ++ Lb, ⟨fun a o x => ?_, q, ?_⟩, fun a z => ?_⟩
  · rw [up a fun w => by rw [w, n] at x; cases x]
    exact R.le a o x
  · refine List.nodup_append.mpr ⟨List.nodup_append.mpr ⟨nd2.1, List.nodup_cons.mpr ⟨np, n'⟩, fun a ha b hb e => ?_⟩, nd1.2.1, fun a ha b hb e => ?_⟩
    · subst e; exact ap a hb (List.mem_append_left _ ha)
    · subst e
      rcases List.mem_append.mp ha with w | w
      · exact nd1.2.2 a (List.mem_append_left _ w) a hb rfl
      · exact ap a w (List.mem_append_right _ hb)
  · simp only [List.mem_append, List.mem_cons] at z
    rcases z with (z | z | z) | z
    · exact .inl ⟨inL a (by simp [z]), fun w => offp a (by simp [z]) (by simp [w])⟩
    · subst z; exact .inl ⟨by rw [e0]; simp, fun w => (List.nodup_cons.mp nd2.2.1).1 w⟩
    · exact .inr z
    · exact .inl ⟨inL a (by simp [z]), fun w => offp a (by simp [z]) (by simp [w])⟩
theorem mt_lift {i : Nat} {r : V → List V → Hp → VK → Prop} {f : List D → List D → Option (D × List D)} {FA : En → Option (List D × En)} {s : Bool} (hr : MutOK K r f) (σ : St) (H : Hp) (Q : VK) (h : tE K true false (mtF i f FA) σ H Q) :
    ∃ x, σ[i]? = some (some x) ∧ tyV K "list" x H ∧ tA K true s FA σ H fun xs H2 => r x xs H2 Q := by
  obtain ⟨G, env, L, R, d, env', hf, k⟩ := h
  unfold mtF at hf
  split at hf
  case isFalse => cases hf
  rename_i hl
  obtain ⟨p0, e0, xs0, sq0⟩ := isL_ok R hl
  cases q : FA env with
  | none => rw [q] at hf; simp at hf
  | some a =>
  obtain ⟨as, e1⟩ := a
  rw [q] at hf
  simp only [Option.bind_some] at hf
  split at hf
  case h_2 => cases hf
  rename_i ds hd
  cases q2 : f ds as with
  | none => rw [q2] at hf; simp at hf
  | some u =>
  obtain ⟨res, ds'⟩ := u
  rw [q2] at hf
  simp only [Option.map_some, Option.some.injEq, Prod.mk.injEq] at hf
  obtain ⟨rfl, rfl⟩ := hf
  refine ⟨_, e0, .inl ⟨rfl, _, sq0⟩, G, env, L, R, as, e1, q, fun xs G1 H1 L1 La R1 ra n1 st1 x1 => ?_⟩
  have nn := List.nodup_append.mp (n1 rfl)
  obtain ⟨p, vs, Li, ep, gp, hp, rs, pL, iL, nL, chg⟩ := R1.chg (Lx := La) hd fun a z w => nn.2.2 a w a z rfl
  rw [e0] at ep
  cases ep
  refine hr R1.le gp hp rs ra (List.nodup_append.mpr ⟨(List.nodup_cons.mp nL).2, nn.2.1, fun a ha b hb e => nn.2.2 a (iL a ha) b hb e⟩) q2 fun v vs' Lr L' rr rs' nr sr => ?_
  have nr' := List.nodup_append.mp nr
  have np : p0 ∉ L' ++ Lr := fun z => by
    rcases List.mem_append.mp (sr _ z) with w | w
    · exact (List.nodup_cons.mp nL).1 w
    · exact nn.2.2 _ pL _ w rfl
  obtain ⟨L2, R2, s2⟩ := chg rs' nr'.1 (fun a z => List.mem_append.mp (sr a (List.mem_append_left _ z))) fun z => np (List.mem_append_left _ z)
  have rr2 : Rp K G1 (upd H1 p0 (.lst vs')) res v Lr := rr.mono (Le.refl _) fun a z => ⟨(rr.own a z).1, upd_ne fun w => np (by rw [← w]; exact List.mem_append_right _ z)⟩
  refine k v G1 _ L2 Lr R2 rr2 (fun _ => List.nodup_append.mpr ⟨R2.nd, nr'.2.1, fun a ha b hb e => ?_⟩) (fun z => nomatch z) ⟨x1.le, fun b nb hb => ?_, x1.gd, fun b hb => ?_⟩
  · subst e
    rcases s2 a ha with ⟨w, w'⟩ | w
    · rcases List.mem_append.mp (sr a (List.mem_append_right _ hb)) with z | z
      · exact w' z
      · exact nn.2.2 a w a z rfl
    · exact nr'.2.2 a w a hb rfl
  · rw [upd_ne fun w => ?_]
    · exact x1.fr b nb hb
    · rcases x1.own b (by rw [w]; exact List.mem_append_left _ pL) with z | z
      · exact nb z
      · exact hb z
  · refine x1.own b ?_
    have : b ∈ L1 ∨ b ∈ Li ++ La := by
      rcases List.mem_append.mp hb with w | w
      · rcases s2 b w with ⟨w, _⟩ | w
        · exact .inl w
        · exact .inr (sr b (List.mem_append_left _ w))
      · exact .inr (sr b (List.mem_append_right _ w))
    rcases this with w | w
    · exact List.mem_append_left _ w
    · rcases List.mem_append.mp w with w | w
      · exact List.mem_append_left _ (iL b w)
      · exact List.mem_append_right _ w
end
section
variable {X : Cx} {o e : Expr} {es : List Expr} {name : Str} {apos cpos : Pos} {id : String} {r : V → List V → Hp → VK → Prop} {f : List D → List D → Option (D × List D)} {FA : En → Option (List D × En)} {i : Nat} {s : Bool}
theorem ev_mt (slot : PySem.Slot "list" name id) (hty : typeOf (.builtin id) = pure (.type "method_descriptor")) (hm : MtR X id r) (hr : MutOK X.K r f) (ho : PE X o (tVar i)) (ha : Av X true s (e :: es) FA)
    (hbase : attributeBase o name X.env (eval o X.env) = eval o X.env := by rfl)
    (hfew : ((backTo cpos (starEach (e :: es) X.env)).all (fun x => !x.1) && (backToKw cpos (keywordEach [] X.env)).all (fun x => x.1.isSome)
      && decide ((e :: es).length + ([] : List Keyword).length + (if ([] : List Keyword).isEmpty then 0 else 1) < 30)) = true := by rfl)
    (hline : (apos.endLine == cpos.line) = true := by rfl) (hs : starEach (e :: es) X.env = (false, eval e X.env) :: starEach es X.env := by rfl) (hplain : (backTo cpos (starEach es X.env)).any (·.1) = false := by rfl) :
    Ev X true false (.Call (.Attribute o name apos) (e :: es) [] cpos) (mtF i f FA) := peM (pe_bm PySem.F.plainAttrs_list slot hty hm ho ha hbase hfew hline hs hplain) fun σ H Q h => mt_lift hr σ H Q h
theorem ev_mt0 (slot : PySem.Slot "list" name id) (hty : typeOf (.builtin id) = pure (.type "method_descriptor")) (hm : MtR X id r) (hr : MutOK X.K r f) (ho : PE X o (tVar i))
    (hbase : attributeBase o name X.env (eval o X.env) = eval o X.env := by rfl) (hline : (apos.endLine == cpos.line) = true := by rfl) :
    Ev X true false (.Call (.Attribute o name apos) [] [] cpos) (mtF i f aNil) := peM (pe_bm0 PySem.F.plainAttrs_list slot hty hm ho hbase hline) fun σ H Q h => by
  obtain ⟨x, e1, ty, G, env, L, R, d, env', hf, k⟩ := mt_lift (s := true) hr σ H Q h
  cases hf
  exact ⟨x, e1, ty, k [] G H L [] R .nil (fun _ => by simpa using R.nd) (fun _ => ⟨rfl, rfl, fun _ _ => rfl⟩) (Ext.refl fun b z => by simpa using z)⟩
end

/-! ### the methods -/
def mAppend : List D → List D → Option (D × List D)
  | ds, [d] => if lineLt ds.length = true then some (.non, ds ++ [d]) else none
  | _, _ => none
def mInsert : List D → List D → Option (D × List D)
  | ds, [.int i, d] => if lineLt ds.length = true ∧ rgOk i = true ∧ 0 ≤ i ∧ D.pures ds = true then some (.non, ds.take i.toNat ++ [d] ++ ds.drop i.toNat) else none
  | _, _ => none
def mPop : List D → List D → Option (D × List D)
  | ds, [] => if D.pures ds = true then ds[ds.length - 1]?.map fun d => (d, ds.dropLast) else none
  | _, _ => none
def mPopAt : List D → List D → Option (D × List D)
  | ds, [.int i] => if D.pures ds = true ∧ rgOk i = true then (seqIndex? i ds.length).bind fun k => ds[k]?.map fun d => (d, ds.eraseIdx k) else none
  | _, _ => none
def mExtend : List D → List D → Option (D × List D)
  | ds, [.lst _ xs] => if D.pures xs = true ∧ lineOk (ds.length + xs.length) = true then some (.non, ds ++ xs) else none
  | _, _ => none
section
variable {K : PySem.W.Frag} {G H : Hp}
theorem mut_append : MutOK K rAppend mAppend := by
  intro G H ds as ds' vs xs p L1 La res Q l gp hp rs ra nd e k
  unfold mAppend at e
  split at e
  · split at e
    · rename_i d hl
      cases e
      obtain ⟨v, rfl, r⟩ := ra.one
      exact ⟨p, vs, v, rfl, rfl, hp, by rw [← rs.length]; exact lineLt_lt hl, k .non (vs ++ [v]) [] (L1 ++ La) .non (rs.append (by simpa using Rps.cons (L2 := []) r .nil)) (by simpa using nd) fun a z => by simpa using z⟩
    · cases e
  · cases e
theorem Rps.pures {ds : List D} {vs : List V} {L : List Addr} (r : Rps K G H ds vs L) (h : D.pures ds = true) : Rps K G H ds vs [] ∧ L = [] := by
  have e := r.pure_nil h
  subst e
  exact ⟨r, rfl⟩
theorem mut_insert : MutOK K (fun x vs H Q => ∃ (l : Addr) (xs : List V) (i : Int) (y : V), x = .ref l ∧ vs = [.int i, y] ∧ H l = some (.lst xs) ∧ xs.length < sizeLine ∧ 0 ≤ i ∧ i < 2 ^ 63 ∧
    Q .non (upd H l (.lst (xs.take i.toNat ++ [y] ++ xs.drop i.toNat)))) mInsert := by
  intro G H ds as ds' vs xs p L1 La res Q l gp hp rs ra nd e k
  unfold mInsert at e
  split at e
  · split at e
    · rename_i i d hl
      cases e
      obtain ⟨v, w, L2, L3, rfl, r1, r2, rfl⟩ := ra.two
      obtain ⟨rfl, rfl⟩ := r1.int_inv
      obtain ⟨rs', rfl⟩ := rs.pures hl.2.2.2
      obtain ⟨b1, b2⟩ := rgOk_of hl.2.1
      refine ⟨p, vs, i, w, rfl, rfl, hp, by rw [← rs.length]; exact lineLt_lt hl.1, hl.2.2.1, by omega, ?_⟩
      refine k .non (vs.take i.toNat ++ [w] ++ vs.drop i.toNat) [] L3 .non ?_ (by simpa using nd) fun a z => by simpa using z
      have q := ((rs'.take i.toNat).append (Rps.cons (L2 := []) r2 .nil)).append (rs'.drop i.toNat)
      simpa using q
    · cases e
  · cases e
theorem Rps.dropLast {ds : List D} {vs : List V} (r : Rps K G H ds vs []) : Rps K G H ds.dropLast vs.dropLast [] := by
  rw [List.dropLast_eq_take, List.dropLast_eq_take, r.length]
  exact r.take _
theorem mut_pop : MutOK K rPop mPop := by
  intro G H ds as ds' vs xs p L1 La res Q l gp hp rs ra nd e k
  unfold mPop at e
  split at e
  · split at e
    · rename_i hl
      obtain ⟨rs', rfl⟩ := rs.pures hl
      cases q : ds[ds.length - 1]? with
      | none => rw [q] at e; cases e
      | some d =>
        rw [q] at e; cases e
        cases ra
        obtain ⟨v, L2, ev, rv, s⟩ := rs'.get q
        obtain rfl := List.sublist_nil.mp s
        exact ⟨p, vs, v, rfl, rfl, hp, by rw [← rs.length]; exact ev, k v vs.dropLast [] [] rv rs'.dropLast (by simp) fun a z => by simp at z⟩
    · cases e
  · cases e
theorem Rps.eraseIdx {ds : List D} {vs : List V} (j : Nat) (r : Rps K G H ds vs []) : Rps K G H (ds.eraseIdx j) (vs.eraseIdx j) [] := by
  rw [List.eraseIdx_eq_take_drop_succ, List.eraseIdx_eq_take_drop_succ]
  simpa using (r.take j).append (r.drop (j + 1))
theorem mut_popAt : MutOK K rPopAt mPopAt := by
  intro G H ds as ds' vs xs p L1 La res Q l gp hp rs ra nd e k
  unfold mPopAt at e
  split at e
  · rename_i i
    split at e
    · rename_i hl
      obtain ⟨rs', rfl⟩ := rs.pures hl.1
      obtain ⟨w, rfl, ri⟩ := ra.one
      obtain ⟨rfl, _⟩ := ri.int_inv
      cases q : seqIndex? i ds.length with
      | none => rw [q] at e; cases e
      | some j =>
        rw [q] at e
        simp only [Option.bind_some] at e
        cases q2 : ds[j]? with
        | none => rw [q2] at e; cases e
        | some d =>
          rw [q2] at e; cases e
          obtain ⟨v, L2, ev, rv, s⟩ := rs'.get q2
          obtain rfl := List.sublist_nil.mp s
          obtain ⟨b1, b2⟩ := rgOk_of hl.2
          exact ⟨p, vs, i, j, v, rfl, rfl, hp, by omega, by omega, by rw [← rs.length]; exact q, ev, k v (vs.eraseIdx j) [] [] rv (rs'.eraseIdx j) (by simp) fun a z => by simp at z⟩
    · cases e
  · cases e
theorem mut_extend : MutOK K rExtend mExtend := by
  intro G H ds as ds' vs xs p L1 La res Q l gp hp rs ra nd e k
  unfold mExtend at e
  split at e
  · split at e
    · rename_i o ys hl
      cases e
      obtain ⟨w, rfl, r⟩ := ra.one
      obtain ⟨b, ws, L2, rfl, sb, qb, s2⟩ := r.lst_inv l
      obtain ⟨qb', rfl⟩ := qb.pures hl.1
      exact ⟨p, b, vs, ws, rfl, rfl, hp, sb, by rw [← rs.length, ← qb'.length]; exact lineOk_le hl.2, k .non (vs ++ ws) [] L1 .non (by simpa using rs.append qb') (by simpa using nd.sublist (List.sublist_append_left _ _)) fun a z => by simp at z ⊢; exact .inl z⟩
    · cases e
  · cases e
end

/-! ### xs[i] = v -/
def siF (i : Nat) (FI : En → Option (D × En)) : D → En → Option En := fun d env => if isL env[i]? = true then (FI env).bind fun a => match a.1, a.2[i]? with
  | .int k, some (some (.lst true ds)) => (ixN ds.length k).map fun j => a.2.set i (some (.lst true (ds.set j d)))
  | _, _ => none
  else none
theorem Rps.setPure {K : PySem.W.Frag} {G H : Hp} {ds : List D} {vs : List V} {j : Nat} {d : D} {v : V} {Lv : List Addr} (r : Rps K G H ds vs []) (rv : Rp K G H d v Lv) (hj : j < ds.length) : Rps K G H (ds.set j d) (vs.set j v) Lv := by
  obtain ⟨v0, La, L1, Lb, e0, _, _, f⟩ := r.set (i := j) (d := ds[j]) (by simp [hj])
  have e : La = [] ∧ L1 = [] ∧ Lb = [] := by
    have := e0.symm
    simp at this
    exact ⟨this.1, this.2.1, this.2.2⟩
  obtain ⟨rfl, rfl, rfl⟩ := e
  simpa using f (Le.refl _) (fun a z => by simp at z) rv
theorem gv_item {X : Cx} {o b : Expr} {pos : Pos} {FI : En → Option (D × En)} {i : Nat} {s : Bool} (ho : PE X o (tVar i)) (hi : Ev X true s b FI) (ha : ∀ v, assign (.Subscript o b pos) X.env v = (do
      let ov ← holding [v] (eval o X.env)
      let iv ← holding [v, ov] (eval b X.env)
      standAt pos
      holding [v, ov, iv] (setItem ov iv v)
      release [v, ov, iv] []) := by intro _; rfl) : Gv X [] (.Subscript o b pos) (siF i FI) := pgM (pg_sub ho hi set_list ha) fun v σ H Q ⟨G, env, L, d, Lr, R, r, n, env', hf, k⟩ => by
  unfold siF at hf
  split at hf
  case isFalse => cases hf
  rename_i hl
  obtain ⟨p0, e0, xs0, sq0⟩ := isL_ok R hl
  cases q : FI env with
  | none => rw [q] at hf; simp at hf
  | some a =>
  obtain ⟨ad, e1⟩ := a
  rw [q] at hf
  simp only [Option.bind_some] at hf
  split at hf
  case h_2 => cases hf
  rename_i kk ds hd2
  cases q2 : ixN ds.length kk with
  | none => rw [q2] at hf; cases hf
  | some j =>
  rw [q2] at hf
  simp only [Option.map_some, Option.some.injEq] at hf
  subst hf
  have nn := List.nodup_append.mp n
  refine ⟨_, e0, G, env, L, R, _, e1, q, fun x G1 H1 L1 La R1 ra n1 st1 x1 => ?_⟩
  obtain ⟨rfl, rfl⟩ := ra.int_inv
  have x1' : Ext L G H G1 H1 L1 := by simpa using x1
  have rv : Rp X.K G1 H1 d v Lr := r.mono x1.le fun a z => x1.keep (fun w => nn.2.2 a w a z rfl) (r.own a z).1 (r.own a z).2
  have ap : ∀ a ∈ Lr, a ∉ L1 := fun a z w => by
    rcases x1'.own a w with y | y
    · exact nn.2.2 a y a z rfl
    · exact (r.own a z).2 y
  obtain ⟨p, vs, Li, ep, gp, hp', rs, pL, iL, nL, chg⟩ := R1.chg (Lx := Lr) hd2 ap
  rw [e0] at ep
  cases ep
  have hj : j < ds.length := (ixN_seq q2).2.1
  have np : p0 ∉ Lr := fun z => ap _ z pL
  obtain ⟨v0, La', Lm', Lb', eL, _, _, fs⟩ := rs.set (i := j) (d := ds[j]) (by simp [hj])
  have rs2 := fs (Le.refl _) (fun a z => ⟨(rs.own a (by rw [eL]; rcases List.mem_append.mp z with z | z <;> simp [z])).1, rfl⟩) rv
  have inLi : ∀ a, a ∈ La' ∨ a ∈ Lb' → a ∈ Li := fun a z => by rw [eL]; rcases z with z | z <;> simp [z]
  have nLi : (La' ++ Lm' ++ Lb').Nodup := eL ▸ (List.nodup_cons.mp nL).2
  have n3 : (La' ++ Lr ++ Lb').Nodup := by
    have w1 := List.nodup_append.mp nLi
    have w2 := List.nodup_append.mp w1.1
    refine List.nodup_append.mpr ⟨List.nodup_append.mpr ⟨w2.1, nn.2.1, fun a ha b hb e => ?_⟩, w1.2.1, fun a ha b hb e => ?_⟩
    · subst e; exact ap a hb (iL a (inLi a (.inl ha)))
    · subst e
      rcases List.mem_append.mp ha with z | z
      · exact w1.2.2 a (List.mem_append_left _ z) a hb rfl
      · exact ap a z (iL a (inLi a (.inr hb)))
  obtain ⟨L2, R2, s2⟩ := chg rs2 n3 (fun a z => by
    simp only [List.mem_append] at z
    rcases z with (z | z) | z
    · exact .inl (inLi a (.inl z))
    · exact .inr z
    · exact .inl (inLi a (.inr z))) (fun z => by
    simp only [List.mem_append] at z
    rcases z with (z | z) | z
    · exact (List.nodup_cons.mp nL).1 (inLi _ (.inl z))
    · exact np z
    · exact (List.nodup_cons.mp nL).1 (inLi _ (.inr z)))
  refine ⟨p0, vs, kk, j, rfl, rfl, hp', by rw [← rs.length]; exact q2, ?_⟩
  refine k σ G1 _ L2 R2 (Keep.refl _ _) ⟨x1.le, fun b nb hb => ?_, fun b hb => (x1.gd b hb).imp id fun z => z.imp (List.mem_append_left _) id, fun b hb => ?_⟩
  · rw [upd_ne fun w => ?_]
    · exact x1'.fr b (fun z => nb (List.mem_append_left _ z)) hb
    · rcases x1'.own b (by rw [w]; exact pL) with z | z
      · exact nb (List.mem_append_left _ z)
      · exact hb z
  · rcases s2 b hb with ⟨w, _⟩ | w
    · exact (x1'.own b w).imp (List.mem_append_left _) id
    · simp only [List.mem_append] at w
      rcases w with (w | w) | w
      · exact (x1'.own b (iL b (inLi b (.inl w)))).imp (List.mem_append_left _) id
      · exact .inl (List.mem_append_right _ w)
      · exact (x1'.own b (iL b (inLi b (.inr w)))).imp (List.mem_append_left _) id
end
end Pz

set_option Elab.async false
set_option linter.all false
set_option maxRecDepth 100000
set_option maxHeartbeats 1000000
namespace Pz
open PySem L2
noncomputable section

def Arity (n : Nat) (F : List D → Option (D × En)) : Prop := ∀ ds r, F ds = some r → ds.length = n
theorem arity_fnF {n m : Nat} {W : List Nat} {FB : En → Option (Fl × En)} : Arity n (fnF n m W FB) := fun ds r h => by
  unfold fnF at h
  split at h
  · assumption
  · cases h
/-- a def as its callers see it -/
def Cal (P : Program) (w : World) (K : PySem.W.Frag) (mg : Str → Option Value) (base : Heap) (x : Str) (k : Nat) (ps : List Str) (F : List D → Option (D × En)) : Prop :=
  Arity ps.length F ∧ ∃ f fd, FnV P w K mg base k f fd ps F ∧ mg x = some (.ref f) ∧ PySem.W.keepIn K (.ref f) = true ∧ Binds K fd ps []
theorem cal_mk {P : Program} {w : World} {K : PySem.W.Frag} {mg : Str → Option Value} {base : Heap} {x : Str} {k : Nat} {ps : List Str} {F : List D → Option (D × En)} {f : Addr} {fd : FuncData} (a : Arity ps.length F) (h : FnV P w K mg base k f fd ps F) (hm : mg x = some (.ref f)) (hk : PySem.W.keepIn K (.ref f) = true) (hb : Binds K fd ps []) :
    Cal P w K mg base x k ps F := ⟨a, f, fd, h, hm, hk, hb⟩
section
variable {X : Cx} {k : Nat} {ps : List Str} {F : List D → Option (D × En)} {FA : En → Option (List D × En)} {x : Str} {p pos : Pos} {e : Expr} {es : List Expr} {s : Bool} {lens : List (Option Nat)}
theorem ev_def (h : Cal X.prog X.w X.K X.mg X.base x k ps F) (hr : Room k X.A) (hg : Gl X x) (ha : Av X true s (e :: es) FA)
    (hdb : (x == ("__debug__" : Str)) = false := by decide) (he : starEach (e :: es) X.env = (false, eval e X.env) :: starEach es X.env := by rfl) (hpl : (backTo pos (starEach es X.env)).any (·.1) = false := by rfl) :
    Ev X true s (.Call (.Name x p) (e :: es) [] pos) (clF F FA) := by
  obtain ⟨a, f, fd, F', hm, hk, hb⟩ := h
  exact ev_call F' a hr hg hm hk hb ha hdb he hpl
theorem ev_defL (h : Cal X.prog X.w X.K X.mg X.base x k ps F) (hr : Room k X.A) (hg : Gl X x) (ha : Lv X lens (e :: es) FA) (hlen : lens.length = ps.length := by rfl)
    (hdb : (x == ("__debug__" : Str)) = false := by decide) (he : starEach (e :: es) X.env = (false, eval e X.env) :: starEach es X.env := by rfl) (hpl : (backTo pos (starEach es X.env)).any (·.1) = false := by rfl) :
    Ev X true false (.Call (.Name x p) (e :: es) [] pos) (lcallF lens F FA) := by
  obtain ⟨a, f, fd, F', hm, hk, hb⟩ := h
  exact ev_callL F' hr hg hm hk hb ha hlen hdb he hpl
theorem ev_def0 (h : Cal X.prog X.w X.K X.mg X.base x k [] F) (hr : Room k X.A) (hg : Gl X x) (hdb : (x == ("__debug__" : Str)) = false := by decide) : Ev X true true (.Call (.Name x p) [] [] pos) (clF F aNil) := by
  obtain ⟨a, f, fd, F', hm, hk, hb⟩ := h
  refine peM (pe_call0 F' hr hg hm hk hb .nil pass0 hdb) fun σ H Q h => ?_
  have q := cl_lift (FA := aNil) (E := E0) (n := 0) (s := true) a σ H Q h
  obtain ⟨G, env, L, R, d, env', hf, k⟩ := q
  cases hf
  exact k [] G H L [] R .nil (fun _ => by simpa using R.nd) (fun _ => ⟨rfl, rfl, fun _ _ => rfl⟩) (Ext.refl fun b z => by simpa using z)
theorem bv_W {W W' : List Nat} {st : List Stmt} {FB : En → Option (Fl × En)} (h : Bv X W st FB) (hs : ∀ j ∈ W, j ∈ W') : Bv X W' st FB := pssM h fun D σ H ⟨G, env, L, R, fl, env', hf, k⟩ =>
  ⟨G, env, L, R, fl, env', hf, k.mono (fun σ' z => z.sub hs) (fun _ _ _ x => x) (fun _ _ z => z) (fun _ _ z => z) (fun _ _ z => z) fun _ _ z => z⟩
/-- a built-in type as a value -/
theorem ev_ty {n : String} (hg : Gl X x) (hm : X.mg x = none) (hv : bootBuiltins x = some (.type n)) (hn : x ≠ "__name__" := by decide) (hd : (x == ("__debug__" : Str)) = false := by decide) : Ev X true true (.Name x pos) (cF (.raw (.ty n))) :=
  ev_c (pe_bltn hg hm hv (show RelV (.ty n) (Value.type n) from rfl) hn hd) fun _ _ => .raw _
end
theorem ev_globX {X : Cx} {x : Str} {d : D} {pos : Pos} (hg : Gl X x) (h : ∃ v u, X.mg x = some u ∧ RelV v u ∧ ∀ G H, Rp X.K G H d v []) (hd : (x == ("__debug__" : Str)) = false := by decide) : Ev X true true (.Name x pos) (cF d) := by
  obtain ⟨v, u, hm, r, k⟩ := h
  exact ev_glob hg hm r k hd
theorem gs_len0 {ds : List D} {env env' : En} (h : gsNil ds env = some env') : ds.length = 0 := by
  cases ds with
  | nil => rfl
  | cons _ _ => cases h
theorem gs_lenS {n : Nat} {F : D → En → Option En} {FR : List D → En → Option En} {ds : List D} {env env' : En} (k : ∀ ds env env', FR ds env = some env' → ds.length = n) (h : gsCons F FR ds env = some env') : ds.length = n + 1 := by
  cases ds with
  | nil => cases h
  | cons d r =>
    simp only [gsCons] at h
    cases q : F d env with
    | none => rw [q] at h; simp at h
    | some e1 => rw [q] at h; simp only [Option.bind_some] at h; simp [k r e1 env' h]
theorem gs_len1 {f1 : D → En → Option En} {ds : List D} {env env' : En} (h : gsCons f1 gsNil ds env = some env') : ds.length = 1 := gs_lenS (fun _ _ _ h => gs_len0 h) h
theorem gs_len2 {f1 f2 : D → En → Option En} {ds : List D} {env env' : En} (h : gsCons f1 (gsCons f2 gsNil) ds env = some env') : ds.length = 2 := gs_lenS (fun _ _ _ h => gs_len1 h) h
theorem gs_len3 {f1 f2 f3 : D → En → Option En} {ds : List D} {env env' : En} (h : gsCons f1 (gsCons f2 (gsCons f3 gsNil)) ds env = some env') : ds.length = 3 := gs_lenS (fun _ _ _ h => gs_len2 h) h
theorem gs_len4 {f1 f2 f3 f4 : D → En → Option En} {ds : List D} {env env' : En} (h : gsCons f1 (gsCons f2 (gsCons f3 (gsCons f4 gsNil))) ds env = some env') : ds.length = 4 := gs_lenS (fun _ _ _ h => gs_len3 h) h
/-! ### in place -/
def dAddI : D → D → Option D
  | .int i, .int j => some (.int (i + j))
  | _, _ => none
section
variable {X : Cx} {K : PySem.W.Frag}
theorem o2_addI : Op2 K (rI0 fun i j => .int (i + j)) dAddI := o2_int0 fun a b c e => by
  unfold dAddI at e; split at e <;> cases e; exact ⟨_, _, rfl, rfl, rfl⟩
end
/-! ### constants of the module -/
theorem rp_ktup0 {K : PySem.W.Frag} {a : Addr} {oc : Obj} {n : Nat} (h : K.lookup a = some oc) (hc : oc.cls = .type "tuple") (hd : oc.data = .seq #[] n) : ∀ G H, Rp K G H (.tup []) (.ref a) [] := fun G H =>
  .tup (.inr ⟨oc, #[], n, h, hc, hd, by simp, .nil⟩) .nil
def toksInts : List Int → List Tok → List Value
  | n :: ns, t :: ts => .int n t :: toksInts ns ts
  | _, _ => []
theorem rp_ktupI {K : PySem.W.Frag} {a : Addr} {oc : Obj} {n : Nat} {ns : List Int} {its : Array Value} (h : K.lookup a = some oc) (hc : oc.cls = .type "tuple") (hd : oc.data = .seq its n) (hv : Vals (ns.map V.int) its.toList) (hz : ns.length ≤ sizeLine) : ∀ G H, Rp K G H (.tup (ns.map D.int)) (.ref a) [] := fun G H =>
  .tup (.inr ⟨oc, its, n, h, hc, hd, by have := hv.length; simp at this; omega, hv⟩) (Rps.ints ns)
/-- the law's entry -/
theorem law_end {K : PySem.W.Frag} {F : List D → Option (D × En)} {H : Hp} {a : Addr} {ns : List Int} {env : En} (hs : SqL K H a (ns.map V.int)) (h : F [.scr ns] = some (.bl true, env)) : spF K 1 F [.ref a] H (fun v _ => v = .bl true) fun _ _ _ => False :=
  ⟨rfl, H, [.scr ns], [], Le.refl _, by simpa using Rps.cons (L1 := []) (L2 := []) (.scr hs) .nil, List.nodup_nil, _, _, h, fun v G' H' Lr Lb _ _ r _ _ => r.bl_inv.1⟩
end
end Pz

set_option Elab.async false
set_option linter.all false
set_option maxRecDepth 100000
set_option maxHeartbeats 1000000
namespace Pz
open PySem L2
noncomputable section

/-- the value alone -/
def val (F : List D → Option (D × En)) (ds : List D) : Option D := (F ds).map (·.1)
def retV : Fl → Option D
  | .rt d => some d
  | .nx => some .non
  | _ => none
theorem clF_val {F : List D → Option (D × En)} {FA : En → Option (List D × En)} {env : En} : clF F FA env = (FA env).bind fun a => (val F a.1).map fun d => (d, a.2) := by
  unfold clF val
  congr 1
  funext a
  rw [Option.map_map]; rfl
theorem val_fnF {n m : Nat} {W : List Nat} {FB : En → Option (Fl × En)} {ds : List D} : val (fnF n m W FB) ds = if ds.length = n then (FB (ds.map some ++ List.replicate m none)).bind fun r => retV r.1 else none := by
  unfold val fnF
  split
  · cases FB (ds.map some ++ List.replicate m none) with
    | none => rfl
    | some r =>
      obtain ⟨f, e⟩ := r
      cases f <;> rfl
  · rfl
theorem val_some {F : List D → Option (D × En)} {ds : List D} {d : D} (h : val F ds = some d) : ∃ e, F ds = some (d, e) := by
  unfold val at h
  cases q : F ds with
  | none => rw [q] at h; cases h
  | some r => rw [q] at h; cases h; exact ⟨r.2, rfl⟩
theorem bind_ite {α β : Type} {c : Prop} [Decidable c] {a b : Option α} {f : α → Option β} : (if c then a else b).bind f = if c then a.bind f else b.bind f := by split <;> rfl
theorem map_ite {α β : Type} {c : Prop} [Decidable c] {a b : Option α} {f : α → β} : (if c then a else b).map f = if c then a.map f else b.map f := by split <;> rfl
/-- behind a statement -/
def andThen (F2 : En → Option (Fl × En)) : Fl × En → Option (Fl × En)
  | (.nx, e) => F2 e
  | (.bk, e) => some (.bk, e)
  | (.ct, e) => some (.ct, e)
  | (.rt d, e) => some (.rt d, e)
theorem seqF_eq {F1 F2 : En → Option (Fl × En)} {env : En} : seqF F1 F2 env = (F1 env).bind (andThen F2) := by
  unfold seqF
  congr 1
  funext r
  obtain ⟨f, e⟩ := r
  cases f <;> rfl
theorem andThen_nx {F2 : En → Option (Fl × En)} {e : En} : andThen F2 (.nx, e) = F2 e := rfl
theorem andThen_bk {F2 : En → Option (Fl × En)} {e : En} : andThen F2 (.bk, e) = some (.bk, e) := rfl
theorem andThen_ct {F2 : En → Option (Fl × En)} {e : En} : andThen F2 (.ct, e) = some (.ct, e) := rfl
theorem andThen_rt {F2 : En → Option (Fl × En)} {e : En} {d : D} : andThen F2 (.rt d, e) = some (.rt d, e) := rfl
theorem retV_rt {d : D} : retV (.rt d) = some d := rfl
theorem retV_nx : retV .nx = some .non := rfl
/-- a turn of a for -/
def flK (FT : D → En → Option En) (FB : En → Option (Fl × En)) (xs : List D) : Fl × En → Option (Fl × En)
  | (.nx, e) => flF FT FB xs e
  | (.ct, e) => flF FT FB xs e
  | (.bk, e) => some (.nx, e)
  | (.rt d, e) => some (.rt d, e)
theorem flF_nil {FT : D → En → Option En} {FB : En → Option (Fl × En)} {env : En} : flF FT FB [] env = some (.nx, env) := rfl
theorem flF_cons {FT : D → En → Option En} {FB : En → Option (Fl × En)} {x : D} {xs : List D} {env : En} : flF FT FB (x :: xs) env = (FT x env).bind fun e => (FB e).bind (flK FT FB xs) := by
  simp only [flF]
  congr 1
  funext e
  congr 1
  funext r
  obtain ⟨f, e⟩ := r
  cases f <;> rfl
theorem flK_nx {FT : D → En → Option En} {FB : En → Option (Fl × En)} {xs : List D} {e : En} : flK FT FB xs (.nx, e) = flF FT FB xs e := rfl
theorem flK_ct {FT : D → En → Option En} {FB : En → Option (Fl × En)} {xs : List D} {e : En} : flK FT FB xs (.ct, e) = flF FT FB xs e := rfl
theorem flK_bk {FT : D → En → Option En} {FB : En → Option (Fl × En)} {xs : List D} {e : En} : flK FT FB xs (.bk, e) = some (.nx, e) := rfl
theorem flK_rt {FT : D → En → Option En} {FB : En → Option (Fl × En)} {xs : List D} {e : En} {d : D} : flK FT FB xs (.rt d, e) = some (.rt d, e) := rfl
theorem forF_eq {FI : En → Option (List D × En)} {FT : D → En → Option En} {FB : En → Option (Fl × En)} {env : En} : forF FI FT FB env = (FI env).bind fun a => flF FT FB a.1 a.2 := rfl
theorem wN_eq {c : En → Option (Bool × En)} {b : En → Option (Fl × En)} {n : Nat} {env : En} : wN c b (n + 1) env = (c env).bind fun t => if t.1 = true then (b t.2).bind fun r => match r with
      | (.nx, e) => wN c b n e
      | (.ct, e) => wN c b n e
      | (.bk, e) => some (.nx, e)
      | (.rt d, e) => some (.rt d, e)
    else some (.nx, t.2) := by
  conv => lhs; unfold wN
  congr 1
  funext t
  split
  · congr 1
    funext r
    obtain ⟨f, e⟩ := r
    cases f <;> rfl
  · rfl
/-- a while turn by turn -/
theorem whF_done {c : En → Option (Bool × En)} {b : En → Option (Fl × En)} {env e : En} (h : c env = some (false, e)) : whF c b env = some (.nx, e) :=
  whF_of (n := 1) (by rw [wN_eq, h]; rfl)
theorem whF_turn {c : En → Option (Bool × En)} {b : En → Option (Fl × En)} {env e e' : En} {r : Fl × En} (h : c env = some (true, e)) (hb : b e = some (.nx, e')) (k : whF c b e' = some r) : whF c b env = some r := by
  obtain ⟨n, hn⟩ := whF_some k
  exact whF_of (n := n + 1) (by rw [wN_eq, h]; simp only [Option.bind_some, if_true, hb]; exact hn)
theorem whF_ret {c : En → Option (Bool × En)} {b : En → Option (Fl × En)} {env e e' : En} {d : D} (h : c env = some (true, e)) (hb : b e = some (.rt d, e')) : whF c b env = some (.rt d, e') :=
  whF_of (n := 1) (by rw [wN_eq, h]; simp only [Option.bind_some, if_true, hb])
theorem whF_brk {c : En → Option (Bool × En)} {b : En → Option (Fl × En)} {env e e' : En} (h : c env = some (true, e)) (hb : b e = some (.bk, e')) : whF c b env = some (.nx, e') :=
  whF_of (n := 1) (by rw [wN_eq, h]; simp only [Option.bind_some, if_true, hb])
theorem nmF_eq {i : Nat} {env : En} {d : D} (h : env[i]? = some (some d)) : nmF i env = some (d, env) := by unfold nmF; rw [h]; rfl

/-! ### what the operators give -/
theorem dIx_tup0 {a : D} {r : List D} : dIx (.tup (a :: r)) (.int 0) = some a := by
  show atI (a :: r) ((0 : Nat) : Int) = _
  exact atI_nat rfl
theorem dIx_tup1 {a b : D} {r : List D} : dIx (.tup (a :: b :: r)) (.int 1) = some b := by
  show atI (a :: b :: r) ((1 : Nat) : Int) = _
  exact atI_nat rfl
theorem dIx_lstN {o : Bool} {xs : List D} {k : Nat} : dIx (.lst o xs) (.int (k : Int)) = xs[k]? := by
  show atI xs ((k : Nat) : Int) = _
  cases h : xs[k]? with
  | some v => exact atI_nat h
  | none =>
    have hk : xs.length ≤ k := List.getElem?_eq_none_iff.mp h
    unfold atI ixN
    rw [if_pos (Int.natCast_nonneg _), if_neg (by omega)]; rfl
theorem dIx_tupN {xs : List D} {k : Nat} : dIx (.tup xs) (.int (k : Int)) = xs[k]? := dIx_lstN (o := true)
theorem dIx_scrN {ns : List Int} {k : Nat} : dIx (.scr ns) (.int (k : Int)) = (ns[k]?).map .int := by
  show (atI ns ((k : Nat) : Int)).map _ = _
  congr 1
  cases h : ns[k]? with
  | some v => exact atI_nat h
  | none =>
    have hk : ns.length ≤ k := List.getElem?_eq_none_iff.mp h
    unfold atI ixN
    rw [if_pos (Int.natCast_nonneg _), if_neg (by omega)]; rfl
theorem shp_int {i : Int} : shp (.int i) = true := by
  unfold shp SeqAt.shaped; simp [D.py, PyData.canLay0, PyData.depth]
theorem shp_bl {i : Bool} : shp (.bl i) = true := by
  unfold shp SeqAt.shaped; simp [D.py, PyData.canLay0, PyData.depth]
theorem shp_non : shp .non = true := by
  unfold shp SeqAt.shaped; simp [D.py, PyData.canLay0, PyData.depth]
theorem dEq_int {i j : Int} : dEq (.int i) (.int j) = some (.bl (decide (i = j))) := by
  unfold dEq; rw [if_pos ⟨shp_int, shp_int⟩]; simp only [D.py, PyData.eqv]; rfl
theorem dNe_int {i j : Int} : dNe (.int i) (.int j) = some (.bl (!decide (i = j))) := by
  unfold dNe; rw [if_pos ⟨shp_int, shp_int⟩]; simp only [D.py, PyData.eqv]; rfl
theorem dAdd_int {i j : Int} : dAdd (.int i) (.int j) = some (.int (i + j)) := rfl
theorem dSub_int {i j : Int} : dSub (.int i) (.int j) = some (.int (i - j)) := rfl
theorem dMul_int {i j : Int} (h : mulOk i j = true) : dMul (.int i) (.int j) = some (.int (i * j)) := by simp only [dMul]; rw [if_pos h]
theorem dMod_pos {i j : Int} (h : 0 < j) : dMod (.int i) (.int j) = some (.int (i % j)) := by simp only [dMod]; rw [if_pos (by omega), Int.fmod_eq_emod_of_nonneg _ (by omega)]
theorem dDiv_pos {i j : Int} (h : 0 < j) (hd : divOk j = true) : dDiv (.int i) (.int j) = some (.int (i / j)) := by simp only [dDiv]; rw [if_pos hd, Int.fdiv_eq_ediv_of_nonneg _ (by omega)]
theorem dLt_int {i j : Int} : dLt (.int i) (.int j) = some (.bl (decide (i < j))) := rfl
theorem dLe_int {i j : Int} : dLe (.int i) (.int j) = some (.bl (decide (i ≤ j))) := rfl
theorem dGt_int {i j : Int} : dGt (.int i) (.int j) = some (.bl (decide (j < i))) := rfl
theorem dGe_int {i j : Int} : dGe (.int i) (.int j) = some (.bl (decide (j ≤ i))) := rfl
theorem dAddI_int {i j : Int} : dAddI (.int i) (.int j) = some (.int (i + j)) := rfl
theorem asB_bl {b : Bool} : asB (.bl b) = some b := rfl
theorem dTup_le {ds : List D} (h : ds.length ≤ 16777216) : dTup ds = some (.tup ds) := by unfold dTup; rw [if_pos (show lineOk _ = true from tst_of h)]
theorem dLst_le {ds : List D} (h : ds.length ≤ 16777216) : dLst ds = some (.lst true ds) := by unfold dLst; rw [if_pos (show lineOk _ = true from tst_of h)]
/-! ### isinstance -/
theorem isi_int_int {i : Int} : fIsi [.int i, .raw (.ty "int")] = some (.bl true) := by
  show (kitB "int" "int").map D.bl = _
  have : kitB "int" "int" = some true := by decide +kernel
  rw [this]; rfl
end
end Pz

set_option Elab.async false
set_option linter.all false
set_option maxRecDepth 100000
set_option maxHeartbeats 1000000
namespace Pz
open PySem L2
noncomputable section
def frzF (F : En → Option (D × En)) : En → Option (D × En) := fun env => (F env).map fun r => (r.1.fz, r.2)
section
variable {X : Cx} {e : Expr} {F : En → Option (D × En)} {o st : Bool}
theorem ev_frz (h : Ev X true st e F) : Ev X true false e (frzF F) := peM h fun σ H Q ⟨G, env, L, R, d, env', hf, k⟩ => by
  unfold frzF at hf
  cases q : F env with
  | none => rw [q] at hf; simp at hf
  | some r =>
  obtain ⟨d', e'⟩ := r
  rw [q] at hf
  simp only [Option.map_some, Option.some.injEq, Prod.mk.injEq] at hf
  obtain ⟨rfl, rfl⟩ := hf
  refine ⟨G, env, L, R, d', e', q, fun v G' H' L' Lr R' r n s x => ?_⟩
  have nn := List.nodup_append.mp (n rfl)
  have out : ∀ a ∈ L', a ∉ Lr := fun a z y => nn.2.2 a z a y rfl
  have r' : Rp X.K (frG G' H' Lr) H' d'.fz v [] := r.fz (frG_le R'.le) fun a z => frG_in z
  refine k v (frG G' H' Lr) H' L' [] ⟨frG_le' R'.le, R'.rep.mono (frG_le R'.le) fun a z => ⟨by rw [frG_out (out a z)]; exact (R'.rep.own a z).1, rfl⟩, R'.nd⟩ r' (fun _ => by simpa using R'.nd) (fun z => nomatch z) ⟨x.le.trans (frG_le R'.le), x.fr, fun b hb => ?_, fun b hb => x.own b (List.mem_append_left _ (by simpa using hb))⟩
  by_cases hx : b ∈ Lr
  · exact (x.own b (List.mem_append_right _ hx)).elim (fun z => .inr (.inl z)) fun z => .inr (.inr z)
  · rw [frG_out hx] at hb; exact x.gd b hb
end
/-! ### a def that calls itself -/
def recF (B : (List D → Option (D × En)) → List D → Option (D × En)) (n : Nat) : List D → Option (D × En) := Nat.rec (fun _ => none) (fun _ r => B r) n
theorem recF_zero {B : (List D → Option (D × En)) → List D → Option (D × En)} : recF B 0 = fun _ => none := rfl
theorem recF_succ {B : (List D → Option (D × En)) → List D → Option (D × En)} {n : Nat} : recF B (n + 1) = B (recF B n) := rfl
theorem cal_none {P : Program} {w : World} {K : PySem.W.Frag} {mg : Str → Option Value} {base : Heap} {x : Str} {k : Nat} {ps : List Str} {f : Addr} {fd : FuncData} (hm : mg x = some (.ref f)) (hk : PySem.W.keepIn K (.ref f) = true) (hb : Binds K fd ps []) :
    Cal P w K mg base x k ps (fun _ => none) := by
  refine ⟨fun ds r h => (by cases h), f, fd, ⟨fun vs H Q E h => h.1, fun A outer s H args us vs Q E hr he hb hv hs => ?_⟩, hm, hk, hb⟩
  obtain ⟨_, G, ds, L, _, _, _, d, back, h, _⟩ := hs
  cases h
end
end Pz
namespace Pz
open PySem L2
abbrev fsc (ns : List (Str × NameKind)) : Scope := { kind := .function, names := ns, isGenerator := false, isCoroutine := false, more := [] }
end Pz
namespace Pz
open PySem L2
noncomputable section
/-! ### a name whose value is frozen behind a statement -/
def fzAt (i : Nat) (e : En) : En := match e[i]? with
  | some (some d) => e.set i (some d.fz)
  | _ => e
def zsF (i : Nat) (F : En → Option (Fl × En)) : En → Option (Fl × En) := fun env => (F env).map fun r => match r with
  | (.nx, e) => (.nx, fzAt i e)
  | r => r
theorem fzAt_some {i : Nat} {e : En} {d : D} (h : e[i]? = some (some d)) : fzAt i e = e.set i (some d.fz) := by unfold fzAt; rw [h]
theorem zsF_eq {i : Nat} {F : En → Option (Fl × En)} {env : En} : zsF i F env = (F env).bind fun r => match r with
  | (.nx, e) => some (.nx, fzAt i e)
  | r => some r := by
  unfold zsF
  cases F env with
  | none => rfl
  | some r => obtain ⟨f, e⟩ := r; cases f <;> rfl
theorem RSt.fzAt {K : PySem.W.Frag} {σ : St} {G H : Hp} {env : En} {L : List Addr} (i : Nat) (R : RSt K σ G H env L) : ∃ G' L', RSt K σ G' H (Pz.fzAt i env) L' ∧ Ext L G H G' H L' := by
  unfold Pz.fzAt
  split
  case h_2 => exact ⟨G, L, R, Ext.refl fun _ z => z⟩
  rename_i d' q
  obtain ⟨hi, _⟩ := List.getElem?_eq_some_iff.mp q
  obtain ⟨La, Li, Lb, e0, f, g⟩ := R.rep.at hi
  obtain ⟨v, ev, r⟩ := f d' q
  have nd : (La ++ Li ++ Lb).Nodup := e0 ▸ R.nd
  have out : ∀ a ∈ La ++ Lb, a ∉ Li := fun a z y => by
    have nd1 := List.nodup_append.mp nd
    rcases List.mem_append.mp z with z | z
    · exact (List.nodup_append.mp nd1.1).2.2 a z a y rfl
    · exact nd1.2.2 a (List.mem_append_right _ y) a z rfl
  have r' : Rp K (frG G H Li) H d'.fz v [] := r.fz (frG_le R.le) fun a z => frG_in z
  have g' := ((g (G' := frG G H Li) (H' := H) (frG_le R.le) fun a z => ⟨by rw [frG_out (out a z)]; exact (R.rep.own a (by rw [e0]; rcases List.mem_append.mp z with z | z <;> simp [z])).1, rfl⟩).1 r')
  have eσ : σ.set i (some v) = σ := by
    refine List.ext_getElem? fun j => ?_
    by_cases hj : i = j
    · subst hj
      obtain ⟨hl, _⟩ := List.getElem?_eq_some_iff.mp ev
      rw [List.getElem?_set_self hl, ev]
    · rw [List.getElem?_set_ne hj]
  rw [eσ] at g'
  refine ⟨frG G H Li, La ++ [] ++ Lb, ⟨frG_le' R.le, g', nd.sublist (by simp)⟩, ⟨frG_le R.le, fun _ _ _ => rfl, fun b hb => ?_, fun b hb => ?_⟩⟩
  · by_cases hx : b ∈ Li
    · exact .inr (.inl (by rw [e0]; simp [hx]))
    · rw [frG_out hx] at hb; exact .inl hb
  · refine .inl ?_
    rw [e0]
    simp at hb ⊢
    rcases hb with z | z <;> simp [z]
theorem sv_frz {X : Cx} {W : List Nat} {st : Stmt} {F : En → Option (Fl × En)} (i : Nat) (h : Sv X W st F) : Sv X W st (zsF i F) := psM h fun D σ H ⟨G, env, L, R, fl, env', hf, k⟩ => by
  unfold zsF at hf
  cases q : F env with
  | none => rw [q] at hf; simp at hf
  | some r =>
  obtain ⟨f1, e1⟩ := r
  rw [q] at hf
  simp only [Option.map_some, Option.some.injEq] at hf
  refine ⟨G, env, L, R, f1, e1, q, ?_⟩
  cases f1 with
  | nx =>
    cases hf
    intro σ' G' H' L' R' k' x'
    obtain ⟨G2, L2, R2, x2⟩ := R'.fzAt i
    exact k σ' G2 H' L2 R2 k' (x'.trans x2 fun a z => x'.own a z)
  | bk => cases hf; exact k
  | ct => cases hf; exact k
  | rt d => cases hf; exact k
end
end Pz

set_option Elab.async false
set_option linter.all false
set_option maxRecDepth 100000
set_option maxHeartbeats 1000000
namespace Pz
open PySem L2
noncomputable section
/-! ### a for over a list that is told by ys -/
theorem flF_fold {α S J : Type} {FT : D → En → Option En} {FB : En → Option (Fl × En)} (f : α → D) (st : S → J → En) (step : S → α → S) :
    ∀ (ys : List α) (s : S) (j : J), (∀ s j y, y ∈ ys → ∃ j', (FT (f y) (st s j)).bind FB = some (.nx, st (step s y) j')) → ∃ j', flF FT FB (ys.map f) (st s j) = some (.nx, st (ys.foldl step s) j')
  | [], s, j, _ => ⟨j, rfl⟩
  | y :: ys, s, j, h => by
    obtain ⟨j1, e1⟩ := h s j y (List.mem_cons_self ..)
    obtain ⟨j2, e2⟩ := flF_fold f st step ys (step s y) j1 fun s j z hz => h s j z (List.mem_cons_of_mem _ hz)
    refine ⟨j2, ?_⟩
    rw [List.map_cons, flF_cons]
    cases q : FT (f y) (st s j) with
    | none => rw [q] at e1; cases e1
    | some e =>
      rw [q] at e1
      simp only [Option.bind_some] at e1 ⊢
      rw [e1]
      exact e2
/-- with a claim that is kept -/
theorem flF_keep {α S J : Type} {FT : D → En → Option En} {FB : En → Option (Fl × En)} (f : α → D) (st : S → J → En) (step : S → α → S) (I : S → Prop) :
    ∀ (ys : List α) (s : S) (j : J), I s → (∀ s j y, y ∈ ys → I s → I (step s y) ∧ ∃ j', (FT (f y) (st s j)).bind FB = some (.nx, st (step s y) j')) → I (ys.foldl step s) ∧ ∃ j', flF FT FB (ys.map f) (st s j) = some (.nx, st (ys.foldl step s) j')
  | [], s, j, i, _ => ⟨i, j, rfl⟩
  | y :: ys, s, j, i, h => by
    obtain ⟨i1, j1, e1⟩ := h s j y (List.mem_cons_self ..) i
    obtain ⟨i2, j2, e2⟩ := flF_keep f st step I ys (step s y) j1 i1 fun s j z hz => h s j z (List.mem_cons_of_mem _ hz)
    refine ⟨i2, j2, ?_⟩
    rw [List.map_cons, flF_cons]
    cases q : FT (f y) (st s j) with
    | none => rw [q] at e1; cases e1
    | some e =>
      rw [q] at e1
      simp only [Option.bind_some] at e1 ⊢
      rw [e1]
      exact e2
/-- with a relation that is kept: what the loop leaves is not told by a function -/
theorem flF_rel {α : Type} {FT : D → En → Option En} {FB : En → Option (Fl × En)} (f : α → D) (R : List α → En → Prop) :
    ∀ (ys : List α) (e : En), R ys e → (∀ y zs e, R (y :: zs) e → ∃ e', (FT (f y) e).bind FB = some (.nx, e') ∧ R zs e') → ∃ e', flF FT FB (ys.map f) e = some (.nx, e') ∧ R [] e'
  | [], e, r, _ => ⟨e, rfl, r⟩
  | y :: ys, e, r, h => by
    obtain ⟨e1, q1, r1⟩ := h y ys e r
    obtain ⟨e2, q2, r2⟩ := flF_rel f R ys e1 r1 h
    refine ⟨e2, ?_, r2⟩
    rw [List.map_cons, flF_cons]
    cases q : FT (f y) e with
    | none => rw [q] at q1; cases q1
    | some e' =>
      rw [q] at q1
      simp only [Option.bind_some] at q1 ⊢
      rw [q1]
      exact q2
/-- a loop that puts one thing after the other behind a list -/
theorem flF_append {α J : Type} {FT : D → En → Option En} {FB : En → Option (Fl × En)} (f : α → D) (g : α → D) (st : List D → J → En) :
    ∀ (ys : List α) (acc : List D) (j : J), acc.length + ys.length ≤ 1000000 → (∀ (acc : List D) j y, y ∈ ys → lineLt acc.length = true → ∃ j', (FT (f y) (st acc j)).bind FB = some (.nx, st (acc ++ [g y]) j')) → ∃ j', flF FT FB (ys.map f) (st acc j) = some (.nx, st (acc ++ ys.map g) j')
  | [], acc, j, _, _ => ⟨j, by simp [flF_nil]⟩
  | y :: ys, acc, j, hl, h => by
    simp only [List.length_cons] at hl
    obtain ⟨j1, e1⟩ := h acc j y (List.mem_cons_self ..) (tst_of (by omega))
    obtain ⟨j2, e2⟩ := flF_append f g st ys (acc ++ [g y]) j1 (by simp; omega) fun acc j z hz => h acc j z (List.mem_cons_of_mem _ hz)
    refine ⟨j2, ?_⟩
    rw [List.map_cons, flF_cons]
    cases q : FT (f y) (st acc j) with
    | none => rw [q] at e1; cases e1
    | some e =>
      rw [q] at e1
      simp only [Option.bind_some] at e1 ⊢
      rw [e1]
      simpa [flK_nx] using e2
/-! ### a comprehension whose element changes nothing -/
theorem lcL_map {α : Type} {vs : List Nat} {FT : D → En → Option En} {FE : En → Option (D × En)} {e0 : En} (f : α → D) (g : α → D) :
    ∀ (ys : List α) (acc : List D), (∀ y ∈ ys, ∃ e1 e2, FT (f y) e0 = some e1 ∧ FE e1 = some (g y, e2) ∧ wpE vs e2 = e0) → lcL vs FT yesF FE acc (ys.map f) e0 = some (acc ++ ys.map g, e0)
  | [], acc, _ => by simp [lcL]
  | y :: ys, acc, h => by
    obtain ⟨e1, e2, h1, h2, h3⟩ := h y (List.mem_cons_self ..)
    have q := lcL_map (vs := vs) f g ys (acc ++ [g y]) fun z hz => h z (List.mem_cons_of_mem _ hz)
    simp only [List.map_cons, lcL, h1, Option.bind_some, yesF, if_true, h2, h3, q]
    simp
theorem lcF_map {α : Type} {vs : List Nat} {FI : En → Option (List D × En)} {FT : D → En → Option En} {FE : En → Option (D × En)} {env env' : En} (f : α → D) (g : α → D) (ys : List α)
    (hI : FI env = some (ys.map f, env')) (hl : ys.length ≤ 16777216) (hk : okE vs 0 env' = true)
    (h : ∀ y ∈ ys, ∃ e1 e2, FT (f y) (wpE vs env') = some e1 ∧ FE e1 = some (g y, e2) ∧ wpE vs e2 = wpE vs env') :
    lcF vs FI FT yesF FE env = some (.lst true (ys.map g), mgE vs 0 env' (wpE vs env')) := by
  unfold lcF
  rw [hI]
  simp only [Option.bind_some, hk, and_true, List.length_map]
  rw [if_pos (show lineOk _ = true from tst_of hl), lcL_map f g ys [] h]
  simp
/-- a comprehension whose element changes the slots: what is kept -/
theorem lcL_rel {α : Type} {vs : List Nat} {FT : D → En → Option En} {FE : En → Option (D × En)} (f : α → D) (R : List D → En → Prop) :
    ∀ (ys : List α) (acc : List D) (e : En), R acc e → (∀ y ∈ ys, ∀ acc e, R acc e → ∃ e1 d e2, FT (f y) e = some e1 ∧ FE e1 = some (d, e2) ∧ R (acc ++ [d]) (wpE vs e2)) → ∃ acc' e', lcL vs FT yesF FE acc (ys.map f) e = some (acc', e') ∧ R acc' e' ∧ acc'.length = acc.length + ys.length
  | [], acc, e, r, _ => ⟨acc, e, by simp [lcL], r, by simp⟩
  | y :: ys, acc, e, r, h => by
    obtain ⟨e1, d, e2, h1, h2, r2⟩ := h y (List.mem_cons_self ..) acc e r
    obtain ⟨acc', e', h3, r3, l3⟩ := lcL_rel f R ys (acc ++ [d]) _ r2 fun z hz => h z (List.mem_cons_of_mem _ hz)
    refine ⟨acc', e', ?_, r3, by simp at l3 ⊢; omega⟩
    simp only [List.map_cons, lcL, h1, Option.bind_some, yesF, if_true, h2, h3]
theorem lcF_rel {α : Type} {vs : List Nat} {FI : En → Option (List D × En)} {FT : D → En → Option En} {FE : En → Option (D × En)} {env env' : En} (f : α → D) (R : List D → En → Prop) (ys : List α)
    (hI : FI env = some (ys.map f, env')) (hl : ys.length ≤ 16777216) (hk : okE vs 0 env' = true) (h0 : R [] (wpE vs env'))
    (h : ∀ y ∈ ys, ∀ acc e, R acc e → ∃ e1 d e2, FT (f y) e = some e1 ∧ FE e1 = some (d, e2) ∧ R (acc ++ [d]) (wpE vs e2)) :
    ∃ acc e, lcF vs FI FT yesF FE env = some (.lst true acc, mgE vs 0 env' e) ∧ R acc e ∧ acc.length = ys.length := by
  obtain ⟨acc, e, h1, r, l⟩ := lcL_rel (vs := vs) f R ys [] _ h0 h
  refine ⟨acc, e, ?_, r, by simpa using l⟩
  unfold lcF
  rw [hI]
  simp only [Option.bind_some, hk, and_true, List.length_map]
  rw [if_pos (show lineOk _ = true from tst_of hl), h1]
  rfl
/-- the same, with what is still to come -/
theorem lcL_rem {α : Type} {vs : List Nat} {FT : D → En → Option En} {FE : En → Option (D × En)} (f : α → D) (R : List α → List D → En → Prop)
    (h : ∀ y zs acc e, R (y :: zs) acc e → ∃ e1 d e2, FT (f y) e = some e1 ∧ FE e1 = some (d, e2) ∧ R zs (acc ++ [d]) (wpE vs e2)) :
    ∀ (ys : List α) (acc : List D) (e : En), R ys acc e → ∃ acc' e', lcL vs FT yesF FE acc (ys.map f) e = some (acc', e') ∧ R [] acc' e'
  | [], acc, e, r => ⟨acc, e, by simp [lcL], r⟩
  | y :: ys, acc, e, r => by
    obtain ⟨e1, d, e2, h1, h2, r2⟩ := h y ys acc e r
    obtain ⟨acc', e', h3, r3⟩ := lcL_rem f R h ys (acc ++ [d]) _ r2
    refine ⟨acc', e', ?_, r3⟩
    simp only [List.map_cons, lcL, h1, Option.bind_some, yesF, if_true, h2, h3]
theorem lcF_rem {α : Type} {vs : List Nat} {FI : En → Option (List D × En)} {FT : D → En → Option En} {FE : En → Option (D × En)} {env env' : En} (f : α → D) (R : List α → List D → En → Prop) (ys : List α)
    (hI : FI env = some (ys.map f, env')) (hl : ys.length ≤ 16777216) (hk : okE vs 0 env' = true) (h0 : R ys [] (wpE vs env'))
    (h : ∀ y zs acc e, R (y :: zs) acc e → ∃ e1 d e2, FT (f y) e = some e1 ∧ FE e1 = some (d, e2) ∧ R zs (acc ++ [d]) (wpE vs e2)) :
    ∃ acc e, lcF vs FI FT yesF FE env = some (.lst true acc, mgE vs 0 env' e) ∧ R [] acc e := by
  obtain ⟨acc, e, h1, r⟩ := lcL_rem (vs := vs) f R h ys [] _ h0
  refine ⟨acc, e, ?_, r⟩
  unfold lcF
  rw [hI]
  simp only [Option.bind_some, hk, and_true, List.length_map]
  rw [if_pos (show lineOk _ = true from tst_of hl), h1]
  rfl
/-- the same, chosen by a test -/
theorem lcL_filter {α : Type} {vs : List Nat} {FT : D → En → Option En} {FC : En → Option (Bool × En)} {FE : En → Option (D × En)} {e0 : En} (f : α → D) (c : α → Bool) (g : α → D) :
    ∀ (ys : List α) (acc : List D), (∀ y ∈ ys, ∃ e1 e2, FT (f y) e0 = some e1 ∧ FC e1 = some (c y, e2) ∧ (c y = true → ∃ e3, FE e2 = some (g y, e3) ∧ wpE vs e3 = e0) ∧ (c y = false → wpE vs e2 = e0)) → lcL vs FT FC FE acc (ys.map f) e0 = some (acc ++ (ys.filter c).map g, e0)
  | [], acc, _ => by simp [lcL]
  | y :: ys, acc, h => by
    obtain ⟨e1, e2, h1, h2, h3, h4⟩ := h y (List.mem_cons_self ..)
    cases hc : c y with
    | true =>
      obtain ⟨e3, h5, h6⟩ := h3 hc
      have q := lcL_filter (vs := vs) (FC := FC) f c g ys (acc ++ [g y]) fun z hz => h z (List.mem_cons_of_mem _ hz)
      simp only [List.map_cons, lcL, h1, Option.bind_some, h2, hc, if_true, h5, h6, q]
      simp [hc]
    | false =>
      have q := lcL_filter (vs := vs) (FC := FC) f c g ys acc fun z hz => h z (List.mem_cons_of_mem _ hz)
      simp only [List.map_cons, lcL, h1, Option.bind_some, h2, hc, Bool.false_eq_true, if_false, h4 hc, q]
      simp [hc]
theorem lcF_filter {α : Type} {vs : List Nat} {FI : En → Option (List D × En)} {FT : D → En → Option En} {FC : En → Option (Bool × En)} {FE : En → Option (D × En)} {env env' : En} (f : α → D) (c : α → Bool) (g : α → D) (ys : List α)
    (hI : FI env = some (ys.map f, env')) (hl : ys.length ≤ 16777216) (hk : okE vs 0 env' = true)
    (h : ∀ y ∈ ys, ∃ e1 e2, FT (f y) (wpE vs env') = some e1 ∧ FC e1 = some (c y, e2) ∧ (c y = true → ∃ e3, FE e2 = some (g y, e3) ∧ wpE vs e3 = wpE vs env') ∧ (c y = false → wpE vs e2 = wpE vs env')) :
    lcF vs FI FT FC FE env = some (.lst true ((ys.filter c).map g), mgE vs 0 env' (wpE vs env')) := by
  unfold lcF
  rw [hI]
  simp only [Option.bind_some, hk, and_true, List.length_map]
  rw [if_pos (show lineOk _ = true from tst_of hl), lcL_filter f c g ys [] h]
  simp
/-! ### fractions -/
/-- the pair of a fraction -/
def fr (q : Rat) : D := .tup [.int q.num, .int q.den]
theorem fr_def (q : Rat) : fr q = .tup [.int q.num, .int (q.den : Int)] := rfl
theorem fr_inj {a b : Rat} (h : fr a = fr b) : a = b := by
  simp [fr] at h
  exact Rat.ext h.1 (by omega)
theorem den_pos (q : Rat) : (0 : Int) < q.den := by have := q.den_pos; omega
/-- what the programs make of a pair: both divided by the greatest common divisor -/
theorem divInt_num {a b : Int} (hb : 0 < b) : (Rat.divInt a b).num = a / (Int.gcd a b : Int) := by
  rw [Rat.num_divInt, Int.sign_eq_one_of_pos hb, Int.one_mul, Int.gcd_comm]
theorem divInt_den {a b : Int} (hb : 0 < b) : ((Rat.divInt a b).den : Int) = b / (Int.gcd a b : Int) := by
  rw [Rat.den_divInt, if_neg (by omega), Int.gcd_comm]
  rw [Int.natCast_ediv]
  congr 1
  omega
theorem add_divInt (x y : Rat) : x + y = Rat.divInt (x.num * y.den + y.num * x.den) (x.den * y.den) := by
  rw [Rat.add_def, Rat.normalize_eq_mkRat, ← Int.natCast_mul, Rat.divInt_ofNat]
theorem sub_divInt (x y : Rat) : x - y = Rat.divInt (x.num * y.den - y.num * x.den) (x.den * y.den) := by
  rw [Rat.sub_def', ← Int.natCast_mul, Rat.divInt_ofNat]
theorem mul_divInt (x y : Rat) : x * y = Rat.divInt (x.num * y.num) (x.den * y.den) := by
  rw [Rat.mul_def, Rat.normalize_eq_mkRat, ← Int.natCast_mul, Rat.divInt_ofNat]
theorem fdiv_gcd {a g : Int} (hg : 0 < g) (h : g ∣ a) : a.fdiv g = a / g ∧ a.fdiv (-g) = -(a / g) := by
  obtain ⟨c, rfl⟩ := h
  have e1 : (g * c).fdiv g = c := Int.mul_fdiv_cancel_left c (by omega)
  have e2 : (g * c).fdiv (-g) = -c := by
    have : g * c = (-g) * (-c) := by rw [Int.neg_mul_neg]
    rw [this]; exact Int.mul_fdiv_cancel_left _ (by omega)
  rw [e1, e2, Int.mul_ediv_cancel_left c (by omega)]
  exact ⟨rfl, rfl⟩
theorem gcd_pos {a b : Int} (hb : b ≠ 0) : (0 : Int) < (Int.gcd a b : Nat) := by
  have := Int.gcd_pos_of_ne_zero_right a hb
  omega
theorem gcd_le {a b : Int} (hb : b ≠ 0) : Int.gcd a b ≤ b.natAbs := Nat.le_of_dvd (by omega) (Int.gcd_dvd_natAbs_right a b)
/-- the value that the code makes: both parts divided by the divisor, of b's sign -/
theorem fr_divInt {a b : Int} (hb : b ≠ 0) : fr (Rat.divInt a b) = if b < 0 then .tup [.int (a.fdiv (-(Int.gcd a b : Int))), .int (b.fdiv (-(Int.gcd a b : Int)))] else .tup [.int (a.fdiv (Int.gcd a b : Int)), .int (b.fdiv (Int.gcd a b : Int))] := by
  obtain ⟨a1, a2⟩ := fdiv_gcd (gcd_pos (a := a) hb) (Int.gcd_dvd_left a b)
  obtain ⟨b1, b2⟩ := fdiv_gcd (gcd_pos (a := a) hb) (Int.gcd_dvd_right a b)
  obtain ⟨c, hc⟩ := Int.gcd_dvd_left a b
  obtain ⟨d, hd⟩ := Int.gcd_dvd_right a b
  have hg := gcd_pos (a := a) hb
  rw [a1, a2, b1, b2]
  unfold fr
  rw [Rat.num_divInt, Rat.den_divInt, if_neg hb]
  have e1 : (b.gcd a : Int) = (a.gcd b : Int) := by rw [Int.gcd_comm]
  have e2 : ((b.natAbs / b.gcd a : Nat) : Int) = (b.natAbs : Int) / (a.gcd b : Int) := by rw [Int.natCast_ediv, e1]
  rw [e1, e2]
  split
  · rename_i h
    rw [Int.sign_eq_neg_one_of_neg h]
    have e3 : (b.natAbs : Int) = -b := by omega
    rw [e3, Int.neg_ediv_of_dvd (Int.gcd_dvd_right a b)]
    rw [show -1 * a = -a by omega, Int.neg_ediv_of_dvd (Int.gcd_dvd_left a b)]
  · rename_i h
    rw [Int.sign_eq_one_of_pos (by omega), Int.one_mul]
    have e3 : (b.natAbs : Int) = b := by omega
    rw [e3]
theorem shp_fr (q : Rat) : shp (fr q) = true := by
  unfold shp SeqAt.shaped; simp [fr, D.py, D.pys, PyData.canLay0, PyData.canLayAll0, PyData.depth, PyData.depthAll]
theorem shp_nil : shp (.tup []) = true := by
  unfold shp SeqAt.shaped; simp [D.py, D.pys, PyData.canLay0, PyData.canLayAll0, PyData.depth, PyData.depthAll]
theorem pure_fr (q : Rat) : (fr q).pure = true := by simp [fr, D.pure, D.pures]
theorem fz_fr (q : Rat) : (fr q).fz = fr q := by simp [fr, D.fz, D.fzs]
/-- a value: a fraction, or () -/
abbrev T := Option Rat
def fv : T → D
  | none => .tup []
  | some q => fr q
theorem fv_none : fv none = .tup [] := rfl
theorem fv_some (q : Rat) : fv (some q) = fr q := rfl
theorem pure_fv (t : T) : (fv t).pure = true := by cases t <;> simp [fv, fr, D.pure, D.pures]
theorem fz_fv (t : T) : (fv t).fz = fv t := by cases t <;> simp [fv, fr, D.fz, D.fzs]
theorem shp_fv (t : T) : shp (fv t) = true := by
  cases t with
  | none => exact shp_nil
  | some q => exact shp_fr q
theorem pures_fv (ts : List T) : D.pures (ts.map fv) = true := by
  rw [D.pures_all]; simp [pure_fv]
theorem fzs_fv (ts : List T) : D.fzs (ts.map fv) = ts.map fv := by
  rw [D.fzs_map, List.map_map]; exact List.map_congr_left fun t _ => fz_fv t
theorem dEq_fv0 (t : T) : dEq (fv t) (.tup []) = some (.bl t.isNone) := by
  unfold dEq
  rw [if_pos ⟨shp_fv t, shp_nil⟩]
  cases t <;> simp [fv, fr, D.py, D.pys, PyData.eqv, PyData.eqvAll]
theorem dNe_fv0 (t : T) : dNe (fv t) (.tup []) = some (.bl t.isSome) := by
  unfold dNe
  rw [if_pos ⟨shp_fv t, shp_nil⟩]
  cases t <;> simp [fv, fr, D.py, D.pys, PyData.eqv, PyData.eqvAll]
def tlt : T → T → Bool
  | none, _ => false
  | some _, none => true
  | some a, some b => decide (a < b)
def tle (a b : T) : Bool := !tlt b a
def tadd : T → T → T
  | some a, some b => some (a + b)
  | _, _ => none
def minL (ts : List T) : T := ts.foldl (fun f x => if tlt x f = true then x else f) none
theorem tle_refl (a : T) : tle a a = true := by
  cases a <;> simp [tle, tlt]
theorem tle_antisymm {a b : T} (h : tle a b = true) (k : tle b a = true) : a = b := by
  cases a <;> cases b <;> simp [tle, tlt] at h k ⊢
  grind
theorem tle_trans {a b c : T} (h : tle a b = true) (k : tle b c = true) : tle a c = true := by
  cases a <;> cases b <;> cases c <;> simp [tle, tlt] at h k ⊢
  grind
theorem minL_fold (z : T) : ∀ (ts : List T) (f : T), tle z (ts.foldl (fun f x => if tlt x f = true then x else f) f) = true ↔ tle z f = true ∧ ∀ x ∈ ts, tle z x = true
  | [], f => by simp
  | x :: xs, f => by
    rw [List.foldl_cons, minL_fold z xs]
    by_cases h : tlt x f = true
    · rw [if_pos h]
      have : tle x f = true := by
        cases x <;> cases f <;> simp [tle, tlt] at h ⊢; grind
      constructor
      · rintro ⟨a, b⟩; exact ⟨tle_trans a this, by simpa using ⟨a, b⟩⟩
      · rintro ⟨a, b⟩
        simp only [List.mem_cons, forall_eq_or_imp] at b
        exact b
    · rw [if_neg h]
      have : tle f x = true := by unfold tle; simpa using h
      constructor
      · rintro ⟨a, b⟩; exact ⟨a, by simpa using ⟨tle_trans a this, b⟩⟩
      · rintro ⟨a, b⟩
        simp only [List.mem_cons, forall_eq_or_imp] at b
        exact ⟨a, b.2⟩
/-- the least: below what is below all -/
theorem le_minL {z : T} {ts : List T} : tle z (minL ts) = true ↔ ∀ x ∈ ts, tle z x = true := by
  unfold minL
  rw [minL_fold]
  exact ⟨fun h => h.2, fun h => ⟨by cases z <;> rfl, h⟩⟩
theorem minL_eq {a b : T} (h : ∀ z, tle z a = true ↔ tle z b = true) : a = b := tle_antisymm ((h a).mp (tle_refl a)) ((h b).mpr (tle_refl b))
theorem minL_mem_fold : ∀ (ts : List T) (f : T), ts.foldl (fun f x => if tlt x f = true then x else f) f = f ∨ ts.foldl (fun f x => if tlt x f = true then x else f) f ∈ ts
  | [], f => .inl rfl
  | x :: xs, f => by
    rw [List.foldl_cons]
    rcases minL_mem_fold xs (if tlt x f = true then x else f) with h | h
    · rw [h]; split
      · exact .inr (List.mem_cons_self ..)
      · exact .inl rfl
    · exact .inr (List.mem_cons_of_mem _ h)
theorem minL_mem (ts : List T) : minL ts = none ∨ minL ts ∈ ts := minL_mem_fold ts none
theorem le_tadd {z a c : T} : tle z (tadd a c) = true ↔ match c with | none => True | some q => tle (tadd z (some (-q))) a = true := by
  cases a <;> cases c <;> cases z <;> simp [tadd, tle, tlt]
  rename_i a c z
  constructor <;> intro h <;> grind
theorem le_tadd_none {z a c : T} (hz : z = none) : tle z (tadd a c) = true ↔ (c = none ∨ a = none) := by
  subst hz
  cases a <;> cases c <;> simp [tadd, tle, tlt]
theorem minL_tadd (ts : List T) (c : T) : tadd (minL ts) c = minL (ts.map fun t => tadd t c) := by
  refine minL_eq fun z => ?_
  rw [le_tadd, le_minL]
  cases c with
  | none => simp [le_tadd]
  | some q =>
    simp only [List.mem_map, forall_exists_index, and_imp, forall_apply_eq_imp_iff₂]
    rw [le_minL]
    exact ⟨fun h a ha => le_tadd.mpr (h a ha), fun h a ha => le_tadd.mp (h a ha)⟩
theorem tadd_comm (a b : T) : tadd a b = tadd b a := by
  cases a <;> cases b <;> simp [tadd]; exact Rat.add_comm ..
theorem tadd_assoc (a b c : T) : tadd (tadd a b) c = tadd a (tadd b c) := by
  cases a <;> cases b <;> cases c <;> simp [tadd]; exact Rat.add_assoc ..
end
end Pz

set_option Elab.async false
set_option linter.all false
set_option maxRecDepth 100000
set_option maxHeartbeats 1000000
namespace Pz
open PySem L2
noncomputable section
namespace I
theorem isi_non_tuple  : fIsi [.non, .raw (.ty "tuple")] = some (.bl false) := by
  show (kitB "NoneType" "tuple").map D.bl = _
  have : kitB "NoneType" "tuple" = some false := by decide +kernel
  rw [this]; rfl
theorem isi_non_list  : fIsi [.non, .raw (.ty "list")] = some (.bl false) := by
  show (kitB "NoneType" "list").map D.bl = _
  have : kitB "NoneType" "list" = some false := by decide +kernel
  rw [this]; rfl
theorem isi_non_bool  : fIsi [.non, .raw (.ty "bool")] = some (.bl false) := by
  show (kitB "NoneType" "bool").map D.bl = _
  have : kitB "NoneType" "bool" = some false := by decide +kernel
  rw [this]; rfl
theorem isi_non_int  : fIsi [.non, .raw (.ty "int")] = some (.bl false) := by
  show (kitB "NoneType" "int").map D.bl = _
  have : kitB "NoneType" "int" = some false := by decide +kernel
  rw [this]; rfl
theorem isi_non_str  : fIsi [.non, .raw (.ty "str")] = some (.bl false) := by
  show (kitB "NoneType" "str").map D.bl = _
  have : kitB "NoneType" "str" = some false := by decide +kernel
  rw [this]; rfl
theorem isi_bl_tuple {b : Bool} : fIsi [.bl b, .raw (.ty "tuple")] = some (.bl false) := by
  show (kitB "bool" "tuple").map D.bl = _
  have : kitB "bool" "tuple" = some false := by decide +kernel
  rw [this]; rfl
theorem isi_bl_list {b : Bool} : fIsi [.bl b, .raw (.ty "list")] = some (.bl false) := by
  show (kitB "bool" "list").map D.bl = _
  have : kitB "bool" "list" = some false := by decide +kernel
  rw [this]; rfl
theorem isi_bl_bool {b : Bool} : fIsi [.bl b, .raw (.ty "bool")] = some (.bl true) := by
  show (kitB "bool" "bool").map D.bl = _
  have : kitB "bool" "bool" = some true := by decide +kernel
  rw [this]; rfl
theorem isi_bl_int {b : Bool} : fIsi [.bl b, .raw (.ty "int")] = some (.bl true) := by
  show (kitB "bool" "int").map D.bl = _
  have : kitB "bool" "int" = some true := by decide +kernel
  rw [this]; rfl
theorem isi_bl_str {b : Bool} : fIsi [.bl b, .raw (.ty "str")] = some (.bl false) := by
  show (kitB "bool" "str").map D.bl = _
  have : kitB "bool" "str" = some false := by decide +kernel
  rw [this]; rfl
theorem isi_int_tuple {i : Int} : fIsi [.int i, .raw (.ty "tuple")] = some (.bl false) := by
  show (kitB "int" "tuple").map D.bl = _
  have : kitB "int" "tuple" = some false := by decide +kernel
  rw [this]; rfl
theorem isi_int_list {i : Int} : fIsi [.int i, .raw (.ty "list")] = some (.bl false) := by
  show (kitB "int" "list").map D.bl = _
  have : kitB "int" "list" = some false := by decide +kernel
  rw [this]; rfl
theorem isi_int_bool {i : Int} : fIsi [.int i, .raw (.ty "bool")] = some (.bl false) := by
  show (kitB "int" "bool").map D.bl = _
  have : kitB "int" "bool" = some false := by decide +kernel
  rw [this]; rfl
theorem isi_int_int {i : Int} : fIsi [.int i, .raw (.ty "int")] = some (.bl true) := by
  show (kitB "int" "int").map D.bl = _
  have : kitB "int" "int" = some true := by decide +kernel
  rw [this]; rfl
theorem isi_int_str {i : Int} : fIsi [.int i, .raw (.ty "str")] = some (.bl false) := by
  show (kitB "int" "str").map D.bl = _
  have : kitB "int" "str" = some false := by decide +kernel
  rw [this]; rfl
theorem isi_str_tuple {x : Str} : fIsi [.str x, .raw (.ty "tuple")] = some (.bl false) := by
  show (kitB "str" "tuple").map D.bl = _
  have : kitB "str" "tuple" = some false := by decide +kernel
  rw [this]; rfl
theorem isi_str_list {x : Str} : fIsi [.str x, .raw (.ty "list")] = some (.bl false) := by
  show (kitB "str" "list").map D.bl = _
  have : kitB "str" "list" = some false := by decide +kernel
  rw [this]; rfl
theorem isi_str_bool {x : Str} : fIsi [.str x, .raw (.ty "bool")] = some (.bl false) := by
  show (kitB "str" "bool").map D.bl = _
  have : kitB "str" "bool" = some false := by decide +kernel
  rw [this]; rfl
theorem isi_str_int {x : Str} : fIsi [.str x, .raw (.ty "int")] = some (.bl false) := by
  show (kitB "str" "int").map D.bl = _
  have : kitB "str" "int" = some false := by decide +kernel
  rw [this]; rfl
theorem isi_str_str {x : Str} : fIsi [.str x, .raw (.ty "str")] = some (.bl true) := by
  show (kitB "str" "str").map D.bl = _
  have : kitB "str" "str" = some true := by decide +kernel
  rw [this]; rfl
theorem isi_tup_tuple {xs : List D} : fIsi [.tup xs, .raw (.ty "tuple")] = some (.bl true) := by
  show (kitB "tuple" "tuple").map D.bl = _
  have : kitB "tuple" "tuple" = some true := by decide +kernel
  rw [this]; rfl
theorem isi_tup_list {xs : List D} : fIsi [.tup xs, .raw (.ty "list")] = some (.bl false) := by
  show (kitB "tuple" "list").map D.bl = _
  have : kitB "tuple" "list" = some false := by decide +kernel
  rw [this]; rfl
theorem isi_tup_bool {xs : List D} : fIsi [.tup xs, .raw (.ty "bool")] = some (.bl false) := by
  show (kitB "tuple" "bool").map D.bl = _
  have : kitB "tuple" "bool" = some false := by decide +kernel
  rw [this]; rfl
theorem isi_tup_int {xs : List D} : fIsi [.tup xs, .raw (.ty "int")] = some (.bl false) := by
  show (kitB "tuple" "int").map D.bl = _
  have : kitB "tuple" "int" = some false := by decide +kernel
  rw [this]; rfl
theorem isi_tup_str {xs : List D} : fIsi [.tup xs, .raw (.ty "str")] = some (.bl false) := by
  show (kitB "tuple" "str").map D.bl = _
  have : kitB "tuple" "str" = some false := by decide +kernel
  rw [this]; rfl
theorem isi_lst_tuple {o : Bool} {xs : List D} : fIsi [.lst o xs, .raw (.ty "tuple")] = some (.bl false) := by
  show (kitB "list" "tuple").map D.bl = _
  have : kitB "list" "tuple" = some false := by decide +kernel
  rw [this]; rfl
theorem isi_lst_list {o : Bool} {xs : List D} : fIsi [.lst o xs, .raw (.ty "list")] = some (.bl true) := by
  show (kitB "list" "list").map D.bl = _
  have : kitB "list" "list" = some true := by decide +kernel
  rw [this]; rfl
theorem isi_lst_bool {o : Bool} {xs : List D} : fIsi [.lst o xs, .raw (.ty "bool")] = some (.bl false) := by
  show (kitB "list" "bool").map D.bl = _
  have : kitB "list" "bool" = some false := by decide +kernel
  rw [this]; rfl
theorem isi_lst_int {o : Bool} {xs : List D} : fIsi [.lst o xs, .raw (.ty "int")] = some (.bl false) := by
  show (kitB "list" "int").map D.bl = _
  have : kitB "list" "int" = some false := by decide +kernel
  rw [this]; rfl
theorem isi_lst_str {o : Bool} {xs : List D} : fIsi [.lst o xs, .raw (.ty "str")] = some (.bl false) := by
  show (kitB "list" "str").map D.bl = _
  have : kitB "list" "str" = some false := by decide +kernel
  rw [this]; rfl
theorem isi_scr_tuple {ns : List Int} : fIsi [.scr ns, .raw (.ty "tuple")] = some (.bl false) := by
  show (kitB "list" "tuple").map D.bl = _
  have : kitB "list" "tuple" = some false := by decide +kernel
  rw [this]; rfl
theorem isi_scr_list {ns : List Int} : fIsi [.scr ns, .raw (.ty "list")] = some (.bl true) := by
  show (kitB "list" "list").map D.bl = _
  have : kitB "list" "list" = some true := by decide +kernel
  rw [this]; rfl
theorem isi_scr_bool {ns : List Int} : fIsi [.scr ns, .raw (.ty "bool")] = some (.bl false) := by
  show (kitB "list" "bool").map D.bl = _
  have : kitB "list" "bool" = some false := by decide +kernel
  rw [this]; rfl
theorem isi_scr_int {ns : List Int} : fIsi [.scr ns, .raw (.ty "int")] = some (.bl false) := by
  show (kitB "list" "int").map D.bl = _
  have : kitB "list" "int" = some false := by decide +kernel
  rw [this]; rfl
theorem isi_scr_str {ns : List Int} : fIsi [.scr ns, .raw (.ty "str")] = some (.bl false) := by
  show (kitB "list" "str").map D.bl = _
  have : kitB "list" "str" = some false := by decide +kernel
  rw [this]; rfl
end I
theorem dEq_bl {i j : Bool} : dEq (.bl i) (.bl j) = some (.bl (decide (i = j))) := by
  unfold dEq; rw [if_pos ⟨shp_bl, shp_bl⟩]; cases i <;> cases j <;> rfl
theorem dNe_bl {i j : Bool} : dNe (.bl i) (.bl j) = some (.bl (!decide (i = j))) := by
  unfold dNe; rw [if_pos ⟨shp_bl, shp_bl⟩]; cases i <;> cases j <;> rfl
theorem dIsN_non : dIsN .non .non = some (.bl true) := rfl
theorem dIsN_bl {b : Bool} : dIsN (.bl b) .non = some (.bl false) := rfl
theorem dIsN_int {b : Int} : dIsN (.int b) .non = some (.bl false) := rfl
theorem dIsN_str {b : Str} : dIsN (.str b) .non = some (.bl false) := rfl
theorem dIsN_tup {b : List D} : dIsN (.tup b) .non = some (.bl false) := rfl
theorem dIsN_lst {o : Bool} {b : List D} : dIsN (.lst o b) .non = some (.bl false) := rfl
mutual
def D.dep : D → Nat
  | .tup xs => D.deps xs + 1
  | .lst _ xs => D.deps xs + 1
  | .scr _ => 1
  | _ => 0
def D.deps : List D → Nat
  | [] => 0
  | x :: xs => max x.dep (D.deps xs)
end
mutual
/-- made of numbers, booleans, words, None, tuples and frozen lists, no longer than a million -/
def D.nice : D → Bool
  | .tup xs => D.nices xs && decide (xs.length ≤ 1000000)
  | .lst o xs => !o && (D.nices xs && decide (xs.length ≤ 1000000))
  | .str x => (D.str x).py.canLay0
  | .non | .bl _ | .int _ => true
  | .scr _ | .raw _ | .dct _ _ _ => false
def D.nices : List D → Bool
  | [] => true
  | x :: xs => x.nice && D.nices xs
end
theorem D.nices_all : ∀ xs : List D, D.nices xs = xs.all D.nice
  | [] => rfl
  | x :: xs => by simp [D.nices, D.nices_all xs]
theorem D.deps_le {n : Nat} : ∀ {xs : List D}, D.deps xs ≤ n ↔ ∀ x ∈ xs, x.dep ≤ n
  | [] => by simp [D.deps]
  | x :: xs => by simp only [D.deps, Nat.max_le, D.deps_le (xs := xs), List.mem_cons, forall_eq_or_imp]
mutual
theorem D.nice_pure : ∀ {d : D}, d.nice = true → d.pure = true ∧ d.fz = d
  | .non, _ | .bl _, _ | .int _, _ | .str _, _ => ⟨rfl, rfl⟩
  | .tup xs, h => by
    simp only [D.nice, Bool.and_eq_true] at h
    obtain ⟨a, b⟩ := D.nices_pure h.1
    exact ⟨by simpa [D.pure] using a, by simp [D.fz, b]⟩
  | .lst o xs, h => by
    simp only [D.nice, Bool.and_eq_true] at h
    obtain ⟨a, b⟩ := D.nices_pure h.2.1
    cases o
    · exact ⟨by simpa [D.pure] using a, by simp [D.fz, b]⟩
    · simp at h
theorem D.nices_pure : ∀ {ds : List D}, D.nices ds = true → D.pures ds = true ∧ D.fzs ds = ds
  | [], _ => ⟨rfl, rfl⟩
  | x :: xs, h => by
    simp only [D.nices, Bool.and_eq_true] at h
    obtain ⟨a, b⟩ := D.nice_pure h.1
    obtain ⟨c, d⟩ := D.nices_pure h.2
    exact ⟨by simp [D.pures, a, c], by simp [D.fzs, b, d]⟩
end
mutual
theorem D.nice_lay : ∀ {d : D}, d.nice = true → d.py.canLay0 = true ∧ d.py.depth ≤ d.dep + 1
  | .non, _ | .bl _, _ | .int _, _ => by simp [D.py, PyData.canLay0, PyData.depth]
  | .str x, h => ⟨h, by simp [D.py, PyData.depth]⟩
  | .tup xs, h => by
    simp only [D.nice, Bool.and_eq_true] at h
    obtain ⟨a, b⟩ := D.nices_lay h.1
    simp only [D.py, PyData.canLay0, a, PyData.depth, D.dep, true_and]
    omega
  | .lst o xs, h => by
    simp only [D.nice, Bool.and_eq_true] at h
    obtain ⟨a, b⟩ := D.nices_lay h.2.1
    simp only [D.py, PyData.canLay0, a, PyData.depth, D.dep, true_and]
    omega
theorem D.nices_lay : ∀ {ds : List D}, D.nices ds = true → PyData.canLayAll0 (D.pys ds) = true ∧ PyData.depthAll (D.pys ds) ≤ D.deps ds + 1
  | [], _ => by simp [D.pys, PyData.canLayAll0, PyData.depthAll]
  | x :: xs, h => by
    simp only [D.nices, Bool.and_eq_true] at h
    obtain ⟨a, b⟩ := D.nice_lay h.1
    obtain ⟨c, d⟩ := D.nices_lay h.2
    simp only [D.pys, PyData.canLayAll0, a, c, PyData.depthAll, D.deps, Bool.and_self, true_and]
    omega
end
theorem D.nice_shp {d : D} (h : d.nice = true) (k : d.dep ≤ 60) : shp d = true := by
  obtain ⟨a, b⟩ := D.nice_lay h
  unfold shp SeqAt.shaped
  simp only [a, Bool.true_and, decide_eq_true_eq]
  omega
/-- one among a thing's items -/
theorem D.nice_tup {xs : List D} {x : D} (h : (D.tup xs).nice = true) (m : x ∈ xs) : x.nice = true := by
  simp only [D.nice, Bool.and_eq_true, D.nices_all, List.all_eq_true] at h
  exact h.1 x m
theorem D.nice_lst {o : Bool} {xs : List D} {x : D} (h : (D.lst o xs).nice = true) (m : x ∈ xs) : x.nice = true := by
  simp only [D.nice, Bool.and_eq_true, D.nices_all, List.all_eq_true] at h
  exact h.2.1 x m
theorem D.dep_tup {xs : List D} {x : D} {n : Nat} (h : (D.tup xs).dep ≤ n + 1) (m : x ∈ xs) : x.dep ≤ n := by
  simp only [D.dep] at h
  exact (D.deps_le.mp (by omega : D.deps xs ≤ n)) x m
theorem D.dep_lst {o : Bool} {xs : List D} {x : D} {n : Nat} (h : (D.lst o xs).dep ≤ n + 1) (m : x ∈ xs) : x.dep ≤ n := by
  simp only [D.dep] at h
  exact (D.deps_le.mp (by omega : D.deps xs ≤ n)) x m
theorem D.len_tup {xs : List D} (h : (D.tup xs).nice = true) : xs.length ≤ 1000000 := by
  simp only [D.nice, Bool.and_eq_true, decide_eq_true_eq] at h
  exact h.2
theorem D.len_lst {o : Bool} {xs : List D} (h : (D.lst o xs).nice = true) : xs.length ≤ 1000000 ∧ o = false := by
  simp only [D.nice, Bool.and_eq_true, decide_eq_true_eq] at h
  exact ⟨h.2.2, by cases o <;> simp at h ⊢⟩
theorem rg_of {n : Nat} (h : n ≤ 1000000) : rgOk (n : Int) = true := tst_of (by omega)
end
end Pz

set_option Elab.async false
set_option linter.all false
set_option maxRecDepth 100000
set_option maxHeartbeats 1000000
namespace Pz
open PySem L2
noncomputable section
mutual
def D.wid : D → Nat
  | .tup xs => max xs.length (D.wids xs)
  | .lst _ xs => max xs.length (D.wids xs)
  | _ => 0
def D.wids : List D → Nat
  | [] => 0
  | x :: xs => max x.wid (D.wids xs)
end
theorem D.wids_le {n : Nat} : ∀ {xs : List D}, D.wids xs ≤ n ↔ ∀ x ∈ xs, x.wid ≤ n
  | [] => by simp [D.wids]
  | x :: xs => by simp only [D.wids, Nat.max_le, D.wids_le (xs := xs), List.mem_cons, forall_eq_or_imp]
structure Wl (w h : Nat) (d : D) : Prop where
  nice : d.nice = true
  dep : d.dep ≤ h
  wid : d.wid ≤ w
theorem Wl.mono {w h w' h' : Nat} {d : D} (k : Wl w h d) (hw : w ≤ w') (hh : h ≤ h') : Wl w' h' d := ⟨k.nice, Nat.le_trans k.dep hh, Nat.le_trans k.wid hw⟩
theorem Wl.tup {w h : Nat} {xs : List D} (k : ∀ x ∈ xs, Wl w h x) (hl : xs.length ≤ w) (hw : w ≤ 1000000) : Wl w (h + 1) (.tup xs) := by
  refine ⟨?_, ?_, ?_⟩
  · simp only [D.nice, Bool.and_eq_true, D.nices_all, List.all_eq_true, decide_eq_true_eq]
    exact ⟨fun x hx => (k x hx).nice, by omega⟩
  · simp only [D.dep]
    have := D.deps_le.mpr fun x hx => (k x hx).dep
    omega
  · simp only [D.wid]
    exact Nat.max_le.mpr ⟨hl, D.wids_le.mpr fun x hx => (k x hx).wid⟩
theorem Wl.lst {w h : Nat} {xs : List D} (k : ∀ x ∈ xs, Wl w h x) (hl : xs.length ≤ w) (hw : w ≤ 1000000) : Wl w (h + 1) (.lst false xs) := by
  refine ⟨?_, ?_, ?_⟩
  · simp only [D.nice, Bool.and_eq_true, D.nices_all, List.all_eq_true, decide_eq_true_eq]
    exact ⟨rfl, fun x hx => (k x hx).nice, by omega⟩
  · simp only [D.dep]
    have := D.deps_le.mpr fun x hx => (k x hx).dep
    omega
  · simp only [D.wid]
    exact Nat.max_le.mpr ⟨hl, D.wids_le.mpr fun x hx => (k x hx).wid⟩
theorem Wl.mem {w h : Nat} {xs : List D} (k : Wl w h (.tup xs)) {x : D} (hx : x ∈ xs) : Wl w (h - 1) x ∧ 0 < h := by
  have h1 := k.dep
  have h2 := k.wid
  simp only [D.dep] at h1
  simp only [D.wid, Nat.max_le] at h2
  have := D.deps_le.mp (show D.deps xs ≤ h - 1 by omega) x hx
  exact ⟨⟨D.nice_tup k.nice hx, this, D.wids_le.mp h2.2 x hx⟩, by omega⟩
theorem Wl.len {w h : Nat} {xs : List D} (k : Wl w h (.tup xs)) : xs.length ≤ w := by
  have h2 := k.wid
  simp only [D.wid, Nat.max_le] at h2
  exact h2.1
theorem Wl.fz {w h : Nat} {d : D} (k : Wl w h d) : d.fz = d := (D.nice_pure k.nice).2
theorem Wl.pure {w h : Nat} {d : D} (k : Wl w h d) : d.pure = true := (D.nice_pure k.nice).1
theorem Wl.pures {w h : Nat} {xs : List D} (k : Wl w h (.tup xs)) : D.pures xs = true := by simpa [D.pure] using k.pure
theorem Wl.int {w h : Nat} (i : Int) : Wl w h (.int i) := ⟨rfl, Nat.zero_le _, Nat.zero_le _⟩
theorem Wl.bl {w h : Nat} (i : Bool) : Wl w h (.bl i) := ⟨rfl, Nat.zero_le _, Nat.zero_le _⟩
theorem Wl.non {w h : Nat} : Wl w h .non := ⟨rfl, Nat.zero_le _, Nat.zero_le _⟩
theorem Wl.nil {w h : Nat} : Wl w (h + 1) (.tup []) := ⟨rfl, by simp [D.dep, D.deps], by simp [D.wid, D.wids]⟩
/-- a loop that leaves at the first that fails -/
theorem flF_all {α J : Type} {FT : D → En → Option En} {FB : En → Option (Fl × En)} (f : α → D) (c : α → Bool) (d : D) (st : J → En) :
    ∀ (ys : List α) (j : J), (∀ j y, y ∈ ys → ∃ j', (c y = true → (FT (f y) (st j)).bind FB = some (.nx, st j')) ∧ (c y = false → (FT (f y) (st j)).bind FB = some (.rt d, st j'))) →
      ∃ j', flF FT FB (ys.map f) (st j) = some (if ys.all c = true then (.nx, st j') else (.rt d, st j'))
  | [], j, _ => ⟨j, rfl⟩
  | y :: ys, j, h => by
    obtain ⟨j1, e1, e2⟩ := h j y (List.mem_cons_self ..)
    cases hc : c y with
    | true =>
      obtain ⟨j2, e3⟩ := flF_all f c d st ys j1 fun j z hz => h j z (List.mem_cons_of_mem _ hz)
      refine ⟨j2, ?_⟩
      have e1 := e1 hc
      rw [List.map_cons, flF_cons]
      cases q : FT (f y) (st j) with
      | none => rw [q] at e1; cases e1
      | some e =>
        rw [q] at e1
        simp only [Option.bind_some] at e1 ⊢
        rw [e1]
        simp only [Option.bind_some, flK_nx, e3, List.all_cons, hc, Bool.true_and]
    | false =>
      refine ⟨j1, ?_⟩
      have e2 := e2 hc
      rw [List.map_cons, flF_cons]
      cases q : FT (f y) (st j) with
      | none => rw [q] at e2; cases e2
      | some e =>
        rw [q] at e2
        simp only [Option.bind_some] at e2 ⊢
        rw [e2]
        simp only [Option.bind_some, flK_rt, List.all_cons, hc, Bool.false_and, Bool.false_eq_true, if_false]
/-- the end of a def -/
def fnO (W : List Nat) (n : Nat) : Fl × En → Option (D × En)
  | (.rt d, e) => some (d, (wpE W e).take n)
  | (.nx, e) => some (.non, (wpE W e).take n)
  | _ => none
theorem fnO_rt {W : List Nat} {n : Nat} {d : D} {e : En} : fnO W n (.rt d, e) = some (d, (wpE W e).take n) := rfl
theorem fnO_nx {W : List Nat} {n : Nat} {e : En} : fnO W n (.nx, e) = some (.non, (wpE W e).take n) := rfl
theorem fnF_eq {n m : Nat} {W : List Nat} {FB : En → Option (Fl × En)} {ds : List D} : fnF n m W FB ds = if ds.length = n then (FB (ds.map some ++ List.replicate m none)).bind (fnO W n) else none := by
  unfold fnF
  split
  · congr 1
    funext r
    obtain ⟨f, e⟩ := r
    cases f <;> rfl
  · rfl
/-- cuts -/
theorem cut_to {α : Type} {xs : List α} {k : Nat} (h : k ≤ xs.length) : cutD xs none (some (k : Int)) = xs.take k := by
  unfold cutD
  have e1 : HT.sIx xs.length 0 none = 0 := rfl
  have e2 : HT.sIx xs.length xs.length (some (k : Int)) = k := by
    rw [HT.sIx_nat]; omega
  rw [e1, e2]; simp
theorem cut_from {α : Type} {xs : List α} {k : Nat} (h : k ≤ xs.length) : cutD xs (some (k : Int)) none = xs.drop k := by
  unfold cutD
  have e1 : HT.sIx xs.length 0 (some (k : Int)) = k := by
    rw [HT.sIx_nat]; omega
  have e2 : HT.sIx xs.length xs.length none = xs.length := rfl
  rw [e1, e2]
  exact List.take_of_length_le (by simp)
end
end Pz

set_option Elab.async false
set_option linter.all false
set_option maxRecDepth 100000
namespace G33
open PySem L2 Pz
noncomputable section
def g_INFINITE : D := .tup []
def C_common_divisor_1 : En → Option (Bool × En) := (tbF (b2 dGt (nmF 1) (cF (.int 0))))
def L_common_divisor_1 : En → Option (Fl × En) := (parF (aCons (nmO 1) (aCons (b2 dMod (nmF 0) (nmF 1)) aNil)) 0 1)
def F_common_divisor : List D → Option (D × En) := fnF 2 0 [0, 1] (seqF (parF (aCons (bN fAbs (aCons (nmF 0) aNil)) (aCons (bN fAbs (aCons (nmF 1) aNil)) aNil)) 0 1) (seqF (whF C_common_divisor_1 L_common_divisor_1) (rtF (nmO 0))))
def F_sign : List D → Option (D × En) := fnF 1 0 [] (rtF (b2 dSub (bN fInt (aCons (b2 dGt (b2 dIx (nmF 0) (cF (.int 0))) (cF (.int 0))) aNil)) (bN fInt (aCons (b2 dLt (b2 dIx (nmF 0) (cF (.int 0))) (cF (.int 0))) aNil))))
def E_as_matrix_1 : En → Option (D × En) := (ownF (b2 dIx (nmF 2) (nmF 1)))
def E_as_matrix_2 : En → Option (D × En) := (bN fTuple (aCons (lcF [2] (itF (fzF 0)) (put 2) yesF E_as_matrix_1) aNil))
def F_as_matrix : List D → Option (D × En) := fnF 1 2 [] (rtF (bN fTuple (aCons (lcF [1] (inF rng1 (aCons (bN fLen (aCons (b2 dIx (nmF 0) (cF (.int 0))) aNil)) aNil)) (put 1) yesF E_as_matrix_2) aNil)))
def F__law_is_integer : List D → Option (D × En) := fnF 1 0 [] (rtF (andV (bN fIsi (aCons (nmF 0) (aCons (cF (.raw (.ty "int"))) aNil))) (b1 dNot (bN fIsi (aCons (nmF 0) (aCons (cF (.raw (.ty "bool"))) aNil))))))
def L__law_pool_1 : En → Option (Fl × En) := (stF (b2 dMod (bN fInt (aCons (b2 dAdd (b2 dMul (nmF 1) (cF (.int 31))) (nmF 2)) aNil)) (cF (.int 1000003))) (put 1))
def F__law_pool : List D → Option (D × En) := fnF 1 2 [1, 2] (seqF (stF (cF (.int 7)) (put 1)) (seqF (forF (itF (bSl (nmF 0) noPt (ptF (cF (.int 63))))) (put 2) L__law_pool_1) (rtF (bN dLst (aCons (bN fList (aCons (nmF 0) aNil)) (aCons (cF (.int 0)) (aCons (cF (.int 0)) (aCons (cF (.int 0)) (aCons (nmO 1) aNil)))))))))
def L__law_spread_1 : En → Option (Fl × En) := (seqF (stF (b2 dMod (bN fInt (aCons (b2 dAdd (b2 dAdd (b2 dMul (nmF 1) (cF (.int 48271))) (cF (.int 12345))) (nmF 3)) aNil)) (cF (.int 2147483647))) (put 1)) (stF (b2 dAdd (b2 dMul (nmF 2) (cF (.int 2147483647))) (nmF 1)) (put 2)))
def F__law_spread : List D → Option (D × En) := fnF 1 3 [1, 2, 3] (seqF (stF (b2 dMod (bN fInt (aCons (nmF 0) aNil)) (cF (.int 2147483647))) (put 1)) (seqF (stF (cF (.int 1)) (put 2)) (seqF (forF (inF rng1 (aCons (cF (.int 4)) aNil)) (put 3) L__law_spread_1) (rtF (nmO 2)))))
def C__law_gcd_1 : En → Option (Bool × En) := (tbF (b2 dGt (nmF 1) (cF (.int 0))))
def L__law_gcd_1 : En → Option (Fl × En) := (seqF (stF (b2 dMod (nmF 0) (nmF 1)) (put 2)) (seqF (stF (nmO 1) (put 0)) (stF (nmO 2) (put 1))))
def F__law_gcd : List D → Option (D × En) := fnF 2 1 [0, 1, 2] (seqF (stF (bN fAbs (aCons (nmF 0) aNil)) (put 0)) (seqF (stF (bN fAbs (aCons (nmF 1) aNil)) (put 1)) (seqF (whF C__law_gcd_1 L__law_gcd_1) (rtF (nmO 0)))))
def F__law_less : List D → Option (D × En) := fnF 2 0 [] (rtF (b2 dLt (b2 dMul (b2 dIx (nmF 0) (cF (.int 0))) (b2 dIx (nmF 1) (cF (.int 1)))) (b2 dMul (b2 dIx (nmF 1) (cF (.int 0))) (b2 dIx (nmF 0) (cF (.int 1))))))
def E__law_unit_1 : En → Option (D × En) := (ifF (tbF (b2 dEq (nmF 1) (nmF 2))) (bN dTup (aCons (cF (.int 0)) (aCons (cF (.int 1)) aNil))) (bN dTup aNil))
def E__law_unit_2 : En → Option (D × En) := (bN fTuple (aCons (lcF [2] (inF rng1 (aCons (nmO 0) aNil)) (put 2) yesF E__law_unit_1) aNil))
def F__law_unit : List D → Option (D × En) := fnF 1 2 [] (rtF (bN fTuple (aCons (lcF [1] (inF rng1 (aCons (nmO 0) aNil)) (put 1) yesF E__law_unit_2) aNil)))
def F_fraction : List D → Option (D × En) := fnF 2 1 [2] (seqF (ifS (tbF (b2 dEq (nmF 1) (cF (.int 0)))) nvF nxF) (seqF (stF (clF F_common_divisor (aCons (nmO 0) (aCons (nmO 1) aNil))) (put 2)) (seqF (ifS (tbF (b2 dLt (nmF 1) (cF (.int 0)))) (stF (b1 dNeg (nmF 2)) (put 2)) nxF) (rtF (bN dTup (aCons (b2 dDiv (nmF 0) (nmF 2)) (aCons (b2 dDiv (nmF 1) (nmF 2)) aNil)))))))
def F__law_draw : List D → Option (D × En) := fnF 2 3 [2, 3, 4] (seqF (ifS (andF (tbF (b2 dLe (b2 dIx (nmF 0) (cF (.int 2))) (cF (.int 0)))) (tbF (b2 dLt (b2 dIx (nmF 0) (cF (.int 1))) (bN fLen (aCons (b2 dIx (nmF 0) (cF (.int 0))) aNil))))) (seqF (stF (ownF (b2 dIx (b2 dIx (nmF 0) (cF (.int 0))) (b2 dIx (nmF 0) (cF (.int 1))))) (put 2)) (seqF (stF (b2 dAdd (b2 dIx (nmF 0) (cF (.int 1))) (cF (.int 1))) (siF 0 (cF (.int 1)))) (seqF (stF (nmO 2) (siF 0 (cF (.int 2)))) (ifS (tbF (b2 dLt (nmF 2) (cF (.int 1000000000000000000)))) (stF (clF F__law_spread (aCons (nmO 2) aNil)) (siF 0 (cF (.int 2)))) nxF)))) nxF) (seqF (stF (b2 dAdd (b2 dIx (nmF 0) (cF (.int 3))) (cF (.int 1))) (siF 0 (cF (.int 3)))) (seqF (ifS (tbF (b2 dLe (b2 dIx (nmF 0) (cF (.int 2))) (cF (.int 0)))) (seqF (stF (b2 dMod (bN fInt (aCons (b2 dAdd (b2 dAdd (b2 dMul (b2 dIx (nmF 0) (cF (.int 4))) (cF (.int 48271))) (b2 dMul (b2 dIx (nmF 0) (cF (.int 3))) (cF (.int 69621)))) (cF (.int 1))) aNil)) (cF (.int 2147483647))) (put 3)) (seqF (stF (b2 dMod (bN fInt (aCons (b2 dAdd (b2 dMul (nmF 3) (cF (.int 16807))) (b2 dIx (nmF 0) (cF (.int 3)))) aNil)) (cF (.int 2147483629))) (put 3)) (rtF (b2 dMod (b2 dDiv (nmF 3) (cF (.int 5))) (nmF 1))))) nxF) (seqF (stF (b2 dMod (bN fInt (aCons (b2 dIx (nmF 0) (cF (.int 2))) aNil)) (nmF 1)) (put 4)) (seqF (stF (b2 dDiv (b2 dIx (nmF 0) (cF (.int 2))) (nmF 1)) (siF 0 (cF (.int 2)))) (rtF (nmO 4)))))))
def F__law_frac : List D → Option (D × En) := fnF 2 1 [2] (seqF (stF (clF F__law_gcd (aCons (nmO 0) (aCons (nmO 1) aNil))) (put 2)) (rtF (ifF (tbF (b2 dGt (nmF 1) (cF (.int 0)))) (bN dTup (aCons (b2 dDiv (nmF 0) (nmF 2)) (aCons (b2 dDiv (nmF 1) (nmF 2)) aNil))) (bN dTup (aCons (b2 dDiv (b1 dNeg (nmF 0)) (nmF 2)) (aCons (b2 dDiv (b1 dNeg (nmF 1)) (nmF 2)) aNil))))))
def F__law_is_fraction : List D → Option (D × En) := fnF 1 0 [] (seqF (ifS (orF (notF (ttF (bN fIsi (aCons (nmF 0) (aCons (cF (.raw (.ty "tuple"))) aNil))))) (orF (tbF (b2 dNe (bN fLen (aCons (nmF 0) aNil)) (cF (.int 2)))) (orF (notF (ttF (clF F__law_is_integer (aCons (ownF (b2 dIx (nmF 0) (cF (.int 0)))) aNil)))) (notF (ttF (clF F__law_is_integer (aCons (ownF (b2 dIx (nmF 0) (cF (.int 1)))) aNil))))))) (rtF (cF (.bl false))) nxF) (rtF (andV (b2 dGt (b2 dIx (nmF 0) (cF (.int 1))) (cF (.int 0))) (b2 dEq (clF F__law_gcd (aCons (ownF (b2 dIx (nmF 0) (cF (.int 0)))) (aCons (ownF (b2 dIx (nmF 0) (cF (.int 1)))) aNil))) (cF (.int 1))))))
def L__law_least_1 : En → Option (Fl × En) := (stF (ifF (ttF (clF F__law_less (aCons (nmO 2) (aCons (nmO 1) aNil)))) (nmO 2) (nmO 1)) (put 1))
def F__law_least : List D → Option (D × En) := fnF 1 2 [1, 2] (seqF (stF (ownF (b2 dIx (nmF 0) (cF (.int 0)))) (put 1)) (seqF (forF (itF (nmO 0)) (put 2) L__law_least_1) (rtF (nmO 1))))
def F__law_smaller : List D → Option (D × En) := fnF 2 0 [] (seqF (ifS (orF (tbF (b2 dEq (nmF 0) (bN dTup aNil))) (tbF (b2 dEq (nmF 1) (bN dTup aNil)))) (rtF (andV (b2 dEq (nmF 1) (bN dTup aNil)) (b2 dNe (nmF 0) (bN dTup aNil)))) nxF) (rtF (clF F__law_less (aCons (nmO 0) (aCons (nmO 1) aNil)))))
def F_plus : List D → Option (D × En) := fnF 2 0 [] (rtF (clF F_fraction (aCons (b2 dAdd (b2 dMul (b2 dIx (nmF 0) (cF (.int 0))) (b2 dIx (nmF 1) (cF (.int 1)))) (b2 dMul (b2 dIx (nmF 1) (cF (.int 0))) (b2 dIx (nmF 0) (cF (.int 1))))) (aCons (b2 dMul (b2 dIx (nmF 0) (cF (.int 1))) (b2 dIx (nmF 1) (cF (.int 1)))) aNil))))
def F_minus : List D → Option (D × En) := fnF 2 0 [] (rtF (clF F_fraction (aCons (b2 dSub (b2 dMul (b2 dIx (nmF 0) (cF (.int 0))) (b2 dIx (nmF 1) (cF (.int 1)))) (b2 dMul (b2 dIx (nmF 1) (cF (.int 0))) (b2 dIx (nmF 0) (cF (.int 1))))) (aCons (b2 dMul (b2 dIx (nmF 0) (cF (.int 1))) (b2 dIx (nmF 1) (cF (.int 1)))) aNil))))
def F__law_add : List D → Option (D × En) := fnF 2 0 [] (rtF (clF F__law_frac (aCons (b2 dAdd (b2 dMul (b2 dIx (nmF 0) (cF (.int 0))) (b2 dIx (nmF 1) (cF (.int 1)))) (b2 dMul (b2 dIx (nmF 1) (cF (.int 0))) (b2 dIx (nmF 0) (cF (.int 1))))) (aCons (b2 dMul (b2 dIx (nmF 0) (cF (.int 1))) (b2 dIx (nmF 1) (cF (.int 1)))) aNil))))
def F__law_sub : List D → Option (D × En) := fnF 2 0 [] (rtF (clF F__law_frac (aCons (b2 dSub (b2 dMul (b2 dIx (nmF 0) (cF (.int 0))) (b2 dIx (nmF 1) (cF (.int 1)))) (b2 dMul (b2 dIx (nmF 1) (cF (.int 0))) (b2 dIx (nmF 0) (cF (.int 1))))) (aCons (b2 dMul (b2 dIx (nmF 0) (cF (.int 1))) (b2 dIx (nmF 1) (cF (.int 1)))) aNil))))
def F__law_mul : List D → Option (D × En) := fnF 2 0 [] (rtF (clF F__law_frac (aCons (b2 dMul (b2 dIx (nmF 0) (cF (.int 0))) (b2 dIx (nmF 1) (cF (.int 0)))) (aCons (b2 dMul (b2 dIx (nmF 0) (cF (.int 1))) (b2 dIx (nmF 1) (cF (.int 1)))) aNil))))
def F__law_some : List D → Option (D × En) := fnF 1 0 [] (rtF (clF F__law_frac (aCons (b2 dSub (lcallF [some 0, none] F__law_draw (aConsL 0 (aCons (cF (.int 25)) aNil))) (cF (.int 12))) (aCons (b2 dAdd (cF (.int 1)) (b2 dMul (lcallF [some 0, none] F__law_draw (aConsL 0 (aCons (cF (.int 3)) aNil))) (lcallF [some 0, none] F__law_draw (aConsL 0 (aCons (cF (.int 2)) aNil))))) aNil))))
def L__law_lowest_1 : En → Option (Fl × En) := (stF (ifF (ttF (clF F__law_smaller (aCons (nmO 2) (aCons (nmO 1) aNil)))) (nmO 2) (nmO 1)) (put 1))
def F__law_lowest : List D → Option (D × En) := fnF 1 2 [1, 2] (seqF (stF (bN dTup aNil) (put 1)) (seqF (forF (itF (fzF 0)) (put 2) L__law_lowest_1) (rtF (nmO 1))))
def L__law_matrix_1 : En → Option (Fl × En) := (seqF (stF (andV (b2 dGt (nmF 3) (cF (.int 0))) (b2 dEq (lcallF [some 0, none] F__law_draw (aConsL 0 (aCons (nmO 3) aNil))) (cF (.int 0)))) (put 8)) (exF (mtF 6 mAppend (aCons (ifF (ttF (nmF 8)) (bN dTup aNil) (clF F__law_frac (aCons (b2 dSub (lcallF [some 0, none] F__law_draw (aConsL 0 (aCons (cF (.int 13)) aNil))) (cF (.int 4))) (aCons (b2 dAdd (cF (.int 1)) (bN fInt (aCons (b2 dEq (lcallF [some 0, none] F__law_draw (aConsL 0 (aCons (cF (.int 6)) aNil))) (cF (.int 0))) aNil))) aNil)))) aNil))))
def L__law_matrix_2 : En → Option (Fl × En) := (seqF (stF (bN dLst aNil) (put 6)) (seqF (forF (inF rng1 (aCons (nmO 2) aNil)) (put 7) L__law_matrix_1) (exF (mtF 4 mAppend (aCons (bN fTuple (aCons (nmF 6) aNil)) aNil)))))
def F__law_matrix : List D → Option (D × En) := fnF 4 5 [4, 5, 6, 7, 8] (seqF (stF (bN dLst aNil) (put 4)) (seqF (forF (inF rng1 (aCons (nmO 1) aNil)) (put 5) L__law_matrix_2) (rtF (bN fTuple (aCons (nmF 4) aNil)))))
def E__law_cloud_1 : En → Option (D × En) := (bN dTup (aCons (b2 dSub (lcallF [some 0, none] F__law_draw (aConsL 0 (aCons (cF (.int 9)) aNil))) (cF (.int 4))) (aCons (b2 dAdd (cF (.int 1)) (bN fInt (aCons (b2 dEq (lcallF [some 0, none] F__law_draw (aConsL 0 (aCons (cF (.int 5)) aNil))) (cF (.int 0))) aNil))) aNil)))
def L__law_cloud_2 : En → Option (Fl × En) := (exF (mtF 3 mAppend (aCons (bN fTuple (aCons (lcF [5] (inF rng1 (aCons (nmO 1) aNil)) (put 5) yesF E__law_cloud_1) aNil)) aNil)))
def E__law_cloud_3 : En → Option (D × En) := (clF F__law_frac (aCons (ownF (b2 dIx (nmF 7) (cF (.int 0)))) (aCons (ownF (b2 dIx (nmF 7) (cF (.int 1)))) aNil)))
def E__law_cloud_4 : En → Option (D × En) := (bN fTuple (aCons (lcF [7] (itF (nmO 6)) (put 7) yesF E__law_cloud_3) aNil))
def F__law_cloud : List D → Option (D × En) := fnF 3 5 [3, 4] (seqF (stF (bN dLst aNil) (put 3)) (seqF (forF (inF rng1 (aCons (b2 dAdd (cF (.int 1)) (lcallF [some 0, none] F__law_draw (aConsL 0 (aCons (nmO 2) aNil)))) aNil)) (put 4) L__law_cloud_2) (rtF (lcF [6] (itF (fzF 3)) (put 6) yesF E__law_cloud_4))))
def F_compare : List D → Option (D × En) := fnF 2 0 [] (seqF (ifS (orF (tbF (b2 dEq (nmF 0) (cF g_INFINITE))) (tbF (b2 dEq (nmF 1) (cF g_INFINITE)))) (rtF (b2 dSub (bN fInt (aCons (b2 dEq (nmF 0) (cF g_INFINITE)) aNil)) (bN fInt (aCons (b2 dEq (nmF 1) (cF g_INFINITE)) aNil)))) nxF) (rtF (clF F_sign (aCons (clF F_minus (aCons (nmO 0) (aCons (nmO 1) aNil))) aNil))))
def F_added : List D → Option (D × En) := fnF 2 0 [] (rtF (ifF (orF (tbF (b2 dEq (nmF 0) (cF g_INFINITE))) (tbF (b2 dEq (nmF 1) (cF g_INFINITE)))) (cF g_INFINITE) (clF F_plus (aCons (nmO 0) (aCons (nmO 1) aNil)))))
def F__law_plus : List D → Option (D × En) := fnF 2 0 [] (rtF (ifF (orF (tbF (b2 dEq (nmF 0) (bN dTup aNil))) (tbF (b2 dEq (nmF 1) (bN dTup aNil)))) (bN dTup aNil) (clF F__law_add (aCons (nmO 0) (aCons (nmO 1) aNil)))))
def E__law_mix_1 : En → Option (D × En) := (clF F__law_add (aCons (ownF (b2 dIx (nmF 1) (nmF 4))) (aCons (ownF (b2 dIx (b2 dIx (nmF 0) (nmF 4)) (nmF 3))) aNil)))
def L__law_mix_2 : En → Option (Fl × En) := (exF (mtF 2 mAppend (aCons (clF F__law_lowest (aCons (lcF [4] (inF rng1 (aCons (bN fLen (aCons (nmF 0) aNil)) aNil)) (put 4) yesF E__law_mix_1) aNil)) aNil)))
def F__law_mix : List D → Option (D × En) := fnF 2 3 [2, 3] (seqF (stF (bN dLst aNil) (put 2)) (seqF (forF (inF rng1 (aCons (bN fLen (aCons (b2 dIx (nmF 0) (cF (.int 0))) aNil)) aNil)) (put 3) L__law_mix_2) (rtF (bN fTuple (aCons (nmF 2) aNil)))))
def E__law_gap_1 : En → Option (D × En) := (clF F__law_sub (aCons (ownF (b2 dIx (nmF 0) (nmF 6))) (aCons (ownF (b2 dIx (nmF 1) (nmF 6))) aNil)))
def L__law_gap_2 : En → Option (Fl × En) := (seqF (stF (ifF (ttF (clF F__law_less (aCons (nmO 3) (aCons (nmO 5) aNil)))) (nmO 5) (nmO 3)) (put 3)) (stF (ifF (ttF (clF F__law_less (aCons (nmO 5) (aCons (nmO 4) aNil)))) (nmO 5) (nmO 4)) (put 4)))
def F__law_gap : List D → Option (D × En) := fnF 2 5 [2, 3, 4, 5] (seqF (zsF 2 (stF (lcF [6] (inF rng1 (aCons (bN fLen (aCons (nmF 0) aNil)) aNil)) (put 6) yesF E__law_gap_1) (put 2))) (seqF (stF (ownF (b2 dIx (nmF 2) (cF (.int 0)))) (put 3)) (seqF (stF (ownF (b2 dIx (nmF 2) (cF (.int 0)))) (put 4)) (seqF (forF (itF (nmO 2)) (put 5) L__law_gap_2) (rtF (clF F__law_sub (aCons (nmO 3) (aCons (nmO 4) aNil))))))))
def L_least_1 : En → Option (Fl × En) := (stF (ifF (tbF (b2 dLt (clF F_compare (aCons (nmO 2) (aCons (nmO 1) aNil))) (cF (.int 0)))) (nmO 2) (nmO 1)) (put 1))
def F_least : List D → Option (D × En) := fnF 1 2 [1, 2] (seqF (stF (cF g_INFINITE) (put 1)) (seqF (forF (itF (fzF 0)) (put 2) L_least_1) (rtF (nmO 1))))
def L_greatest_1 : En → Option (Fl × En) := (stF (ifF (tbF (b2 dGt (clF F_compare (aCons (nmO 2) (aCons (nmO 1) aNil))) (cF (.int 0)))) (nmO 2) (nmO 1)) (put 1))
def F_greatest : List D → Option (D × En) := fnF 1 2 [1, 2] (seqF (stF (ownF (b2 dIx (nmF 0) (cF (.int 0)))) (put 1)) (seqF (forF (itF (fzF 0)) (put 2) L_greatest_1) (rtF (nmO 1))))
def E__law_product_1 : En → Option (D × En) := (clF F__law_plus (aCons (ownF (b2 dIx (nmF 3) (nmF 5))) (aCons (ownF (b2 dIx (b2 dIx (nmF 1) (nmF 5)) (nmF 4))) aNil)))
def E__law_product_2 : En → Option (D × En) := (clF F__law_lowest (aCons (lcF [5] (inF rng1 (aCons (bN fLen (aCons (nmF 1) aNil)) aNil)) (put 5) yesF E__law_product_1) aNil))
def L__law_product_3 : En → Option (Fl × En) := (exF (mtF 2 mAppend (aCons (bN fTuple (aCons (lcF [4] (inF rng1 (aCons (bN fLen (aCons (b2 dIx (nmF 1) (cF (.int 0))) aNil)) aNil)) (put 4) yesF E__law_product_2) aNil)) aNil)))
def F__law_product : List D → Option (D × En) := fnF 2 4 [2, 3] (seqF (stF (bN dLst aNil) (put 2)) (seqF (forF (itF (nmO 0)) (put 3) L__law_product_3) (rtF (bN fTuple (aCons (nmF 2) aNil)))))
def L__law_weight_1 : En → Option (Fl × En) := (stF (clF F__law_plus (aCons (nmO 2) (aCons (ownF (b2 dIx (b2 dIx (nmF 0) (nmF 3)) (b2 dIx (nmF 1) (nmF 3)))) aNil))) (put 2))
def F__law_weight : List D → Option (D × En) := fnF 2 2 [2, 3] (seqF (stF (bN dTup (aCons (cF (.int 0)) (aCons (cF (.int 1)) aNil))) (put 2)) (seqF (forF (inF rng1 (aCons (bN fLen (aCons (nmF 1) aNil)) aNil)) (put 3) L__law_weight_1) (rtF (nmO 2))))
def E_least_sum_1 : En → Option (D × En) := (clF F_added (aCons (nmO 2) (aCons (nmO 3) aNil)))
def F_least_sum : List D → Option (D × En) := fnF 2 2 [] (rtF (clF F_least (aCons (lcF [2, 3] (inF fzip (aCons (nmO 0) (aCons (nmO 1) aNil))) (gTupF (gsCons (put 2) (gsCons (put 3) gsNil))) yesF E_least_sum_1) aNil)))
def E_least_above_1 : En → Option (D × En) := (clF F_minus (aCons (nmO 4) (aCons (ownF (b2 dIx (nmF 5) (nmF 3))) aNil)))
def L_least_above_2 : En → Option (Fl × En) := (exF (mtF 2 mAppend (aCons (clF F_greatest (aCons (lcF [4, 5] (inF fzip (aCons (nmO 1) (aCons (nmO 0) aNil))) (gTupF (gsCons (put 4) (gsCons (put 5) gsNil))) yesF E_least_above_1) aNil)) aNil)))
def F_least_above : List D → Option (D × En) := fnF 2 4 [2, 3] (seqF (stF (bN dLst aNil) (put 2)) (seqF (forF (inF rng1 (aCons (bN fLen (aCons (b2 dIx (nmF 0) (cF (.int 0))) aNil)) aNil)) (put 3) L_least_above_2) (rtF (bN fTuple (aCons (nmF 2) aNil)))))
def E_distance_1 : En → Option (D × En) := (clF F_minus (aCons (nmO 3) (aCons (nmO 4) aNil)))
def F_distance : List D → Option (D × En) := fnF 2 3 [2] (seqF (zsF 2 (stF (lcF [3, 4] (inF fzip (aCons (nmO 0) (aCons (nmO 1) aNil))) (gTupF (gsCons (put 3) (gsCons (put 4) gsNil))) yesF E_distance_1) (put 2))) (rtF (clF F_minus (aCons (clF F_greatest (aCons (nmO 2) aNil)) (aCons (clF F_least (aCons (nmO 2) aNil)) aNil)))))
def E_times_column_1 : En → Option (D × En) := (clF F_least_sum (aCons (nmO 2) (aCons (nmO 1) aNil)))
def F_times_column : List D → Option (D × En) := fnF 2 1 [] (rtF (bN fTuple (aCons (lcF [2] (itF (nmO 0)) (put 2) yesF E_times_column_1) aNil)))
def E_solution_paper_1 : En → Option (D × En) := (nmO 5)
def I_solution_paper_1 : En → Option (Bool × En) := (tbF (b2 dNe (b2 dIx (nmF 3) (nmF 5)) (b2 dIx (nmF 1) (nmF 5))))
def F_solution_paper : List D → Option (D × En) := fnF 2 4 [2, 3, 4] (seqF (stF (clF F_least_above (aCons (nmO 0) (aCons (nmO 1) aNil))) (put 2)) (seqF (stF (clF F_times_column (aCons (nmO 0) (aCons (nmO 2) aNil))) (put 3)) (seqF (zsF 4 (stF (lcF [5] (inF rng1 (aCons (bN fLen (aCons (nmF 1) aNil)) aNil)) (put 5) I_solution_paper_1 E_solution_paper_1) (put 4))) (rtF (ifF (tbF (b2 dEq (bN fLen (aCons (nmF 4) aNil)) (cF (.int 0)))) (bN dTup (aCons (cF (.str "yes")) (aCons (nmO 2) aNil))) (bN dTup (aCons (cF (.str "no")) (aCons (ownF (b2 dIx (nmF 4) (cF (.int 0)))) aNil))))))))
def F_nearest : List D → Option (D × En) := fnF 2 1 [2] (seqF (stF (lcallF [some 0] F_as_matrix (aConsL 0 aNil)) (put 2)) (rtF (clF F_times_column (aCons (nmO 2) (aCons (clF F_least_above (aCons (nmO 2) (aCons (nmO 1) aNil))) aNil)))))
def F_hull_paper : List D → Option (D × En) := fnF 2 0 [] (rtF (clF F_solution_paper (aCons (lcallF [some 0] F_as_matrix (aConsL 0 aNil)) (aCons (nmO 1) aNil))))
def L__law_same_1 (rec : List D → Option (D × En)) : En → Option (Fl × En) := (ifS (notF (ttF (clF rec (aCons (ownF (b2 dIx (nmF 0) (nmF 2))) (aCons (ownF (b2 dIx (nmF 1) (nmF 2))) aNil))))) (rtF (cF (.bl false))) nxF)
def B__law_same (rec : List D → Option (D × En)) : List D → Option (D × En) := fnF 2 1 [2] (seqF (ifS (orF (ttF (bN fIsi (aCons (nmF 1) (aCons (cF (.raw (.ty "tuple"))) aNil)))) (ttF (bN fIsi (aCons (nmF 1) (aCons (cF (.raw (.ty "list"))) aNil))))) (seqF (ifS (orF (tbF (b2 dNe (bN fIsi (aCons (nmF 1) (aCons (cF (.raw (.ty "tuple"))) aNil))) (bN fIsi (aCons (nmF 0) (aCons (cF (.raw (.ty "tuple"))) aNil))))) (tbF (b2 dNe (bN fIsi (aCons (nmF 1) (aCons (cF (.raw (.ty "list"))) aNil))) (bN fIsi (aCons (nmF 0) (aCons (cF (.raw (.ty "list"))) aNil)))))) (rtF (cF (.bl false))) nxF) (seqF (ifS (tbF (b2 dNe (bN fLen (aCons (nmF 0) aNil)) (bN fLen (aCons (nmF 1) aNil)))) (rtF (cF (.bl false))) nxF) (seqF (forF (inF rng1 (aCons (bN fLen (aCons (nmF 1) aNil)) aNil)) (put 2) (L__law_same_1 rec)) (rtF (cF (.bl true)))))) nxF) (seqF (ifS (tbF (b2 dIsN (nmF 1) (cF .non))) (rtF (b2 dIsN (nmF 0) (cF .non))) nxF) (seqF (ifS (ttF (bN fIsi (aCons (nmF 1) (aCons (cF (.raw (.ty "bool"))) aNil)))) (rtF (andV (bN fIsi (aCons (nmF 0) (aCons (cF (.raw (.ty "bool"))) aNil))) (b2 dEq (nmF 0) (nmF 1)))) nxF) (seqF (ifS (ttF (bN fIsi (aCons (nmF 1) (aCons (cF (.raw (.ty "int"))) aNil)))) (rtF (andV (bN fIsi (aCons (nmF 0) (aCons (cF (.raw (.ty "int"))) aNil))) (andV (b1 dNot (bN fIsi (aCons (nmF 0) (aCons (cF (.raw (.ty "bool"))) aNil)))) (b2 dEq (nmF 0) (nmF 1))))) nxF) (rtF (andV (bN fIsi (aCons (nmF 0) (aCons (cF (.raw (.ty "str"))) aNil))) (b2 dEq (nmF 0) (nmF 1))))))))
def F__law_same : List D → Option (D × En) := recF B__law_same 60
def E__law_orders_1 (rec : List D → Option (D × En)) : En → Option (D × En) := (b2 dAdd (bN dTup (aCons (ownF (b2 dIx (nmF 0) (nmF 2))) aNil)) (nmF 3))
def L__law_orders_2 (rec : List D → Option (D × En)) : En → Option (Fl × En) := (stF (b2 dAdd (fzF 1) (lcF [3] (itF (frzF (clF rec (aCons (b2 dAdd (bSl (nmF 0) noPt (ptF (nmF 2))) (bSl (nmF 0) (ptF (b2 dAdd (nmF 2) (cF (.int 1)))) noPt)) aNil)))) (put 3) yesF (E__law_orders_1 rec))) (put 1))
def B__law_orders (rec : List D → Option (D × En)) : List D → Option (D × En) := fnF 1 3 [1, 2] (seqF (ifS (tbF (b2 dEq (bN fLen (aCons (nmF 0) aNil)) (cF (.int 0)))) (rtF (bN dLst (aCons (bN dTup aNil) aNil))) nxF) (seqF (stF (bN dLst aNil) (put 1)) (seqF (forF (inF rng1 (aCons (bN fLen (aCons (nmF 0) aNil)) aNil)) (put 2) (L__law_orders_2 rec)) (rmF 1))))
def F__law_orders : List D → Option (D × En) := recF B__law_orders 60
def E_law_1 : En → Option (D × En) := (lcallF [some 1] F__law_some (aConsL 1 aNil))
def L_law_2 : En → Option (Fl × En) := (seqF (stF (clF F__law_sub (aCons (ownF (b2 dIx (nmF 4) (nmF 8))) (aCons (ownF (b2 dIx (nmF 6) (nmF 8))) aNil))) (put 9)) (stF (ifF (ttF (clF F__law_less (aCons (nmO 7) (aCons (nmO 9) aNil)))) (nmO 9) (nmO 7)) (put 7)))
def L_law_3 : En → Option (Fl × En) := (seqF (stF (clF F__law_sub (aCons (ownF (b2 dIx (nmF 4) (cF (.int 0)))) (aCons (ownF (b2 dIx (nmF 6) (cF (.int 0)))) aNil))) (put 7)) (seqF (forF (inF rng1 (aCons (nmO 2) aNil)) (put 8) L_law_2) (exF (mtF 5 mAppend (aCons (nmO 7) aNil)))))
def E_law_4 : En → Option (D × En) := (nmO 8)
def I_law_4 : En → Option (Bool × En) := (ttF (clF F__law_less (aCons (ownF (b2 dIx (nmF 11) (nmF 8))) (aCons (ownF (b2 dIx (nmF 4) (nmF 8))) aNil))))
def E_law_6 : En → Option (D × En) := (clF F__law_add (aCons (nmO 18) (aCons (bN dTup (aCons (b2 dSub (lcallF [some 1, none] F__law_draw (aConsL 1 (aCons (cF (.int 7)) aNil))) (cF (.int 3))) (aCons (cF (.int 1)) aNil))) aNil)))
def E_law_7 : En → Option (D × En) := (nmO 8)
def I_law_7 : En → Option (Bool × En) := (ttF (clF F__law_less (aCons (ownF (b2 dIx (nmF 15) (nmF 8))) (aCons (ownF (b2 dIx (nmF 4) (nmF 8))) aNil))))
def E_law_9 : En → Option (D × En) := (nmO 8)
def I_law_9 : En → Option (Bool × En) := (ttF (clF F__law_less (aCons (ownF (b2 dIx (nmF 15) (nmF 8))) (aCons (ownF (b2 dIx (nmF 11) (nmF 8))) aNil))))
def L_law_11 : En → Option (Fl × En) := (seqF (zsF 14 (stF (lcF [18] (itF (fzF 5)) (put 18) yesF E_law_6) (put 14))) (seqF (stF (clF F__law_mix (aCons (nmO 3) (aCons (nmO 14) aNil))) (put 15)) (seqF (ifS (orF (notF (ttF (clF F__law_same (aCons (clF F_distance (aCons (nmO 4) (aCons (nmO 15) aNil))) (aCons (clF F__law_gap (aCons (nmO 4) (aCons (nmO 15) aNil))) aNil))))) (ttF (clF F__law_less (aCons (clF F__law_gap (aCons (nmO 4) (aCons (nmO 15) aNil))) (aCons (nmO 12) aNil))))) (rtF (cF (.bl false))) nxF) (seqF (stF (b2 dEq (bN fLen (aCons (lcF [8] (inF rng1 (aCons (nmO 2) aNil)) (put 8) I_law_7 E_law_7) aNil)) (cF (.int 0))) (put 16)) (ifS (andF (ttF (nmF 16)) (tbF (b2 dGt (bN fLen (aCons (lcF [8] (inF rng1 (aCons (nmO 2) aNil)) (put 8) I_law_9 E_law_9) aNil)) (cF (.int 0))))) (rtF (cF (.bl false))) nxF)))))
def E_law_12 : En → Option (D × En) := (clF F__law_add (aCons (nmO 19) (aCons (nmO 17) aNil)))
def S_law_16 : En → Option (Fl × En) := (rtF (clF F__law_same (aCons (clF F_distance (aCons (nmO 4) (aCons (bN fTuple (aCons (lcF [19] (itF (nmO 4)) (put 19) yesF E_law_12) aNil)) aNil))) (aCons (bN dTup (aCons (cF (.int 0)) (aCons (cF (.int 1)) aNil))) aNil))))
def S_law_15 : En → Option (Fl × En) := (seqF (stF (lcallF [some 1] F__law_some (aConsL 1 aNil)) (put 17)) S_law_16)
def S_law_14 : En → Option (Fl × En) := (seqF (forF (inF rng1 (aCons (cF (.int 6)) aNil)) (put 13) L_law_11) S_law_15)
def S_law_13 : En → Option (Fl × En) := (seqF (ifS (notF (ttF (clF F__law_same (aCons (clF F_distance (aCons (nmO 4) (aCons (nmO 11) aNil))) (aCons (nmO 12) aNil))))) (rtF (cF (.bl false))) nxF) S_law_14)
def S_law_12 : En → Option (Fl × En) := (seqF (stF (clF F__law_gap (aCons (nmO 4) (aCons (nmO 11) aNil))) (put 12)) S_law_13)
def S_law_11 : En → Option (Fl × En) := (seqF (ifS (tbF (b2 dNe (b2 dEq (nmF 11) (nmF 4)) (b2 dEq (b2 dIx (clF F_hull_paper (aCons (bN fList (aCons (nmF 3) aNil)) (aCons (nmO 4) aNil))) (cF (.int 0))) (cF (.str "yes"))))) (rtF (cF (.bl false))) nxF) S_law_12)
def S_law_10 : En → Option (Fl × En) := (seqF (ifS (tbF (b2 dGt (bN fLen (aCons (lcF [8] (inF rng1 (aCons (nmO 2) aNil)) (put 8) I_law_4 E_law_4) aNil)) (cF (.int 0)))) (rtF (cF (.bl false))) nxF) S_law_11)
def S_law_9 : En → Option (Fl × En) := (seqF (ifS (orF (notF (ttF (clF F__law_same (aCons (nmO 11) (aCons (nmO 10) aNil))))) (tbF (b2 dNe (b2 dIx (clF F_hull_paper (aCons (bN fList (aCons (nmF 3) aNil)) (aCons (nmO 11) aNil))) (cF (.int 0))) (cF (.str "yes"))))) (rtF (cF (.bl false))) nxF) S_law_10)
def S_law_8 : En → Option (Fl × En) := (seqF (stF (clF F_nearest (aCons (bN fList (aCons (nmF 3) aNil)) (aCons (nmO 4) aNil))) (put 11)) S_law_9)
def S_law_7 : En → Option (Fl × En) := (seqF (stF (lcallF [none, some 5] F__law_mix (aCons (nmO 3) (aConsL 5 aNil))) (put 10)) S_law_8)
def S_law_6 : En → Option (Fl × En) := (seqF (forF (itF (nmO 3)) (put 6) L_law_3) S_law_7)
def S_law_5 : En → Option (Fl × En) := (seqF (stF (bN dLst aNil) (put 5)) S_law_6)
def S_law_4 : En → Option (Fl × En) := (seqF (stF (bN fTuple (aCons (lcF [8] (inF rng1 (aCons (nmO 2) aNil)) (put 8) yesF E_law_1) aNil)) (put 4)) S_law_5)
def S_law_3 : En → Option (Fl × En) := (seqF (zsF 3 (stF (lcallF [some 1, none, none] F__law_cloud (aConsL 1 (aCons (nmO 2) (aCons (cF (.int 5)) aNil)))) (put 3))) S_law_4)
def S_law_2 : En → Option (Fl × En) := (seqF (stF (b2 dAdd (cF (.int 1)) (lcallF [some 1, none] F__law_draw (aConsL 1 (aCons (cF (.int 4)) aNil)))) (put 2)) S_law_3)
def F_law : List D → Option (D × En) := fnF 1 19 [1, 2, 3, 4, 5, 6, 7, 8, 9, 10, 11, 12, 13, 14, 15, 16, 17] (seqF (stF (clF F__law_pool (aCons (nmO 0) aNil)) (put 1)) S_law_2)
end
end G33

set_option Elab.async false
set_option linter.all false
set_option maxRecDepth 100000
set_option maxHeartbeats 1000000
namespace G33
open PySem L2 Pz
noncomputable section
/-! numbers: the program's own functions -/
theorem cd_c (x y : Nat) : C_common_divisor_1 [some (.int x), some (.int y)] = some (decide (0 < y), [some (.int x), some (.int y)]) := by
  simp only [C_common_divisor_1, val_fnF, zsF_eq, fzAt, D.fz, wpE, mgE, List.contains_cons, List.contains_nil, Nat.reduceBEq, Bool.or_false, Bool.or_true, Bool.false_or, Bool.true_or, seqF_eq, andThen_nx, andThen_bk, andThen_ct, andThen_rt, retV_rt, retV_nx, nxF, bkF, ctF, rtF, rnF, rmF, stF, exF, put, parF, agF, ifS, forF_eq, flF_nil, flF_cons, flK_nx, flK_ct, flK_bk, flK_rt, tbF, ttF, andF, orF, notF, andV, orV, ifF, chF, b1, b2, bN, clF_val, aNil, aCons, nmF, ownF, cF, fzF, itF, inF, itOf, rng1, rng2, yesF, dTru, dNot, I.isi_non_tuple, I.isi_non_list, I.isi_non_bool, I.isi_non_int, I.isi_non_str, I.isi_bl_tuple, I.isi_bl_list, I.isi_bl_bool, I.isi_bl_int, I.isi_bl_str, I.isi_int_tuple, I.isi_int_list, I.isi_int_bool, I.isi_int_int, I.isi_int_str, I.isi_str_tuple, I.isi_str_list, I.isi_str_bool, I.isi_str_int, I.isi_str_str, I.isi_tup_tuple, I.isi_tup_list, I.isi_tup_bool, I.isi_tup_int, I.isi_tup_str, I.isi_lst_tuple, I.isi_lst_list, I.isi_lst_bool, I.isi_lst_int, I.isi_lst_str, I.isi_scr_tuple, I.isi_scr_list, I.isi_scr_bool, I.isi_scr_int, I.isi_scr_str, dEq_bl, dNe_bl, dIsN_non, dIsN_bl, dIsN_int, dIsN_str, dIsN_tup, dIsN_lst, dAdd_int, dSub_int, dEq_int, dNe_int, dLt_int, dLe_int, dGt_int, dGe_int, dAddI_int, asB_bl, dIx_tup0, dIx_tup1, fLen, fAbs, fInt, fMax2, fMin2, gTupF, gsCons, gsNil, D.pure, D.pures, Bool.not_true, Bool.not_false, Bool.and_true, Bool.true_and, Bool.and_false, Bool.false_and, Option.bind_some, Option.bind_none, Option.map_some, Option.map_none, bind_ite, map_ite, List.map_cons, List.map_nil, List.replicate, List.cons_append, List.nil_append, List.append_nil, List.getElem?_cons_zero, List.getElem?_cons_succ, List.set_cons_zero, List.set_cons_succ, List.length_cons, List.length_nil, Nat.reduceAdd, Nat.reduceLT, Nat.zero_add, Nat.lt_add_one, if_true, if_false, ite_true, ite_false, decide_eq_true_eq, Bool.false_eq_true, reduceCtorEq, reduceIte, Nat.reduceLeDiff, Nat.reduceEqDiff]
  by_cases h : 0 < y
  · have : (0 : Int) < y := by omega
    simp only [h, this, val_fnF, zsF_eq, fzAt, D.fz, wpE, mgE, List.contains_cons, List.contains_nil, Nat.reduceBEq, Bool.or_false, Bool.or_true, Bool.false_or, Bool.true_or, seqF_eq, andThen_nx, andThen_bk, andThen_ct, andThen_rt, retV_rt, retV_nx, nxF, bkF, ctF, rtF, rnF, rmF, stF, exF, put, parF, agF, ifS, forF_eq, flF_nil, flF_cons, flK_nx, flK_ct, flK_bk, flK_rt, tbF, ttF, andF, orF, notF, andV, orV, ifF, chF, b1, b2, bN, clF_val, aNil, aCons, nmF, ownF, cF, fzF, itF, inF, itOf, rng1, rng2, yesF, dTru, dNot, I.isi_non_tuple, I.isi_non_list, I.isi_non_bool, I.isi_non_int, I.isi_non_str, I.isi_bl_tuple, I.isi_bl_list, I.isi_bl_bool, I.isi_bl_int, I.isi_bl_str, I.isi_int_tuple, I.isi_int_list, I.isi_int_bool, I.isi_int_int, I.isi_int_str, I.isi_str_tuple, I.isi_str_list, I.isi_str_bool, I.isi_str_int, I.isi_str_str, I.isi_tup_tuple, I.isi_tup_list, I.isi_tup_bool, I.isi_tup_int, I.isi_tup_str, I.isi_lst_tuple, I.isi_lst_list, I.isi_lst_bool, I.isi_lst_int, I.isi_lst_str, I.isi_scr_tuple, I.isi_scr_list, I.isi_scr_bool, I.isi_scr_int, I.isi_scr_str, dEq_bl, dNe_bl, dIsN_non, dIsN_bl, dIsN_int, dIsN_str, dIsN_tup, dIsN_lst, dAdd_int, dSub_int, dEq_int, dNe_int, dLt_int, dLe_int, dGt_int, dGe_int, dAddI_int, asB_bl, dIx_tup0, dIx_tup1, fLen, fAbs, fInt, fMax2, fMin2, gTupF, gsCons, gsNil, D.pure, D.pures, Bool.not_true, Bool.not_false, Bool.and_true, Bool.true_and, Bool.and_false, Bool.false_and, Option.bind_some, Option.bind_none, Option.map_some, Option.map_none, bind_ite, map_ite, List.map_cons, List.map_nil, List.replicate, List.cons_append, List.nil_append, List.append_nil, List.getElem?_cons_zero, List.getElem?_cons_succ, List.set_cons_zero, List.set_cons_succ, List.length_cons, List.length_nil, Nat.reduceAdd, Nat.reduceLT, Nat.zero_add, Nat.lt_add_one, if_true, if_false, ite_true, ite_false, decide_eq_true_eq, Bool.false_eq_true, reduceCtorEq, reduceIte, Nat.reduceLeDiff, Nat.reduceEqDiff, decide_true]
  · have : ¬ (0 : Int) < y := by omega
    simp only [h, this, val_fnF, zsF_eq, fzAt, D.fz, wpE, mgE, List.contains_cons, List.contains_nil, Nat.reduceBEq, Bool.or_false, Bool.or_true, Bool.false_or, Bool.true_or, seqF_eq, andThen_nx, andThen_bk, andThen_ct, andThen_rt, retV_rt, retV_nx, nxF, bkF, ctF, rtF, rnF, rmF, stF, exF, put, parF, agF, ifS, forF_eq, flF_nil, flF_cons, flK_nx, flK_ct, flK_bk, flK_rt, tbF, ttF, andF, orF, notF, andV, orV, ifF, chF, b1, b2, bN, clF_val, aNil, aCons, nmF, ownF, cF, fzF, itF, inF, itOf, rng1, rng2, yesF, dTru, dNot, I.isi_non_tuple, I.isi_non_list, I.isi_non_bool, I.isi_non_int, I.isi_non_str, I.isi_bl_tuple, I.isi_bl_list, I.isi_bl_bool, I.isi_bl_int, I.isi_bl_str, I.isi_int_tuple, I.isi_int_list, I.isi_int_bool, I.isi_int_int, I.isi_int_str, I.isi_str_tuple, I.isi_str_list, I.isi_str_bool, I.isi_str_int, I.isi_str_str, I.isi_tup_tuple, I.isi_tup_list, I.isi_tup_bool, I.isi_tup_int, I.isi_tup_str, I.isi_lst_tuple, I.isi_lst_list, I.isi_lst_bool, I.isi_lst_int, I.isi_lst_str, I.isi_scr_tuple, I.isi_scr_list, I.isi_scr_bool, I.isi_scr_int, I.isi_scr_str, dEq_bl, dNe_bl, dIsN_non, dIsN_bl, dIsN_int, dIsN_str, dIsN_tup, dIsN_lst, dAdd_int, dSub_int, dEq_int, dNe_int, dLt_int, dLe_int, dGt_int, dGe_int, dAddI_int, asB_bl, dIx_tup0, dIx_tup1, fLen, fAbs, fInt, fMax2, fMin2, gTupF, gsCons, gsNil, D.pure, D.pures, Bool.not_true, Bool.not_false, Bool.and_true, Bool.true_and, Bool.and_false, Bool.false_and, Option.bind_some, Option.bind_none, Option.map_some, Option.map_none, bind_ite, map_ite, List.map_cons, List.map_nil, List.replicate, List.cons_append, List.nil_append, List.append_nil, List.getElem?_cons_zero, List.getElem?_cons_succ, List.set_cons_zero, List.set_cons_succ, List.length_cons, List.length_nil, Nat.reduceAdd, Nat.reduceLT, Nat.zero_add, Nat.lt_add_one, if_true, if_false, ite_true, ite_false, decide_eq_true_eq, Bool.false_eq_true, reduceCtorEq, reduceIte, Nat.reduceLeDiff, Nat.reduceEqDiff, decide_false]
theorem cd_b {x y : Nat} (h : 0 < y) : L_common_divisor_1 [some (.int x), some (.int y)] = some (.nx, [some (.int y), some (.int (x % y : Nat))]) := by
  simp only [L_common_divisor_1, val_fnF, zsF_eq, fzAt, D.fz, wpE, mgE, List.contains_cons, List.contains_nil, Nat.reduceBEq, Bool.or_false, Bool.or_true, Bool.false_or, Bool.true_or, seqF_eq, andThen_nx, andThen_bk, andThen_ct, andThen_rt, retV_rt, retV_nx, nxF, bkF, ctF, rtF, rnF, rmF, stF, exF, put, parF, agF, ifS, forF_eq, flF_nil, flF_cons, flK_nx, flK_ct, flK_bk, flK_rt, tbF, ttF, andF, orF, notF, andV, orV, ifF, chF, b1, b2, bN, clF_val, aNil, aCons, nmF, ownF, cF, fzF, itF, inF, itOf, rng1, rng2, yesF, dTru, dNot, I.isi_non_tuple, I.isi_non_list, I.isi_non_bool, I.isi_non_int, I.isi_non_str, I.isi_bl_tuple, I.isi_bl_list, I.isi_bl_bool, I.isi_bl_int, I.isi_bl_str, I.isi_int_tuple, I.isi_int_list, I.isi_int_bool, I.isi_int_int, I.isi_int_str, I.isi_str_tuple, I.isi_str_list, I.isi_str_bool, I.isi_str_int, I.isi_str_str, I.isi_tup_tuple, I.isi_tup_list, I.isi_tup_bool, I.isi_tup_int, I.isi_tup_str, I.isi_lst_tuple, I.isi_lst_list, I.isi_lst_bool, I.isi_lst_int, I.isi_lst_str, I.isi_scr_tuple, I.isi_scr_list, I.isi_scr_bool, I.isi_scr_int, I.isi_scr_str, dEq_bl, dNe_bl, dIsN_non, dIsN_bl, dIsN_int, dIsN_str, dIsN_tup, dIsN_lst, dAdd_int, dSub_int, dEq_int, dNe_int, dLt_int, dLe_int, dGt_int, dGe_int, dAddI_int, asB_bl, dIx_tup0, dIx_tup1, fLen, fAbs, fInt, fMax2, fMin2, gTupF, gsCons, gsNil, D.pure, D.pures, Bool.not_true, Bool.not_false, Bool.and_true, Bool.true_and, Bool.and_false, Bool.false_and, Option.bind_some, Option.bind_none, Option.map_some, Option.map_none, bind_ite, map_ite, List.map_cons, List.map_nil, List.replicate, List.cons_append, List.nil_append, List.append_nil, List.getElem?_cons_zero, List.getElem?_cons_succ, List.set_cons_zero, List.set_cons_succ, List.length_cons, List.length_nil, Nat.reduceAdd, Nat.reduceLT, Nat.zero_add, Nat.lt_add_one, if_true, if_false, ite_true, ite_false, decide_eq_true_eq, Bool.false_eq_true, reduceCtorEq, reduceIte, Nat.reduceLeDiff, Nat.reduceEqDiff, dMod_pos (show (0 : Int) < (y : Int) by omega), Int.natCast_emod]
theorem cd_loop : ∀ (n x y : Nat), y ≤ n → whF C_common_divisor_1 L_common_divisor_1 [some (.int x), some (.int y)] = some (.nx, [some (.int (Nat.gcd x y : Nat)), some (.int 0)])
  | n, x, 0, _ => by
    rw [whF_done (cd_c x 0)]; simp
  | 0, x, y + 1, h => by omega
  | n + 1, x, y + 1, h => by
    have hm := Nat.mod_lt x (show 0 < y + 1 by omega)
    rw [whF_turn (by rw [cd_c, decide_eq_true (by omega)]) (cd_b (by omega)) (cd_loop n (y + 1) (x % (y + 1)) (by omega))]
    rw [Nat.gcd_comm (y + 1), ← Nat.gcd_rec, Nat.gcd_comm]
theorem cd_eq (a b : Int) : val F_common_divisor [.int a, .int b] = some (.int (Int.gcd a b : Nat)) := by
  have e1 : (if a < 0 then -a else a) = (a.natAbs : Int) := by split <;> omega
  have e2 : (if b < 0 then -b else b) = (b.natAbs : Int) := by split <;> omega
  simp only [F_common_divisor, val_fnF, zsF_eq, fzAt, D.fz, wpE, mgE, List.contains_cons, List.contains_nil, Nat.reduceBEq, Bool.or_false, Bool.or_true, Bool.false_or, Bool.true_or, seqF_eq, andThen_nx, andThen_bk, andThen_ct, andThen_rt, retV_rt, retV_nx, nxF, bkF, ctF, rtF, rnF, rmF, stF, exF, put, parF, agF, ifS, forF_eq, flF_nil, flF_cons, flK_nx, flK_ct, flK_bk, flK_rt, tbF, ttF, andF, orF, notF, andV, orV, ifF, chF, b1, b2, bN, clF_val, aNil, aCons, nmF, ownF, cF, fzF, itF, inF, itOf, rng1, rng2, yesF, dTru, dNot, I.isi_non_tuple, I.isi_non_list, I.isi_non_bool, I.isi_non_int, I.isi_non_str, I.isi_bl_tuple, I.isi_bl_list, I.isi_bl_bool, I.isi_bl_int, I.isi_bl_str, I.isi_int_tuple, I.isi_int_list, I.isi_int_bool, I.isi_int_int, I.isi_int_str, I.isi_str_tuple, I.isi_str_list, I.isi_str_bool, I.isi_str_int, I.isi_str_str, I.isi_tup_tuple, I.isi_tup_list, I.isi_tup_bool, I.isi_tup_int, I.isi_tup_str, I.isi_lst_tuple, I.isi_lst_list, I.isi_lst_bool, I.isi_lst_int, I.isi_lst_str, I.isi_scr_tuple, I.isi_scr_list, I.isi_scr_bool, I.isi_scr_int, I.isi_scr_str, dEq_bl, dNe_bl, dIsN_non, dIsN_bl, dIsN_int, dIsN_str, dIsN_tup, dIsN_lst, dAdd_int, dSub_int, dEq_int, dNe_int, dLt_int, dLe_int, dGt_int, dGe_int, dAddI_int, asB_bl, dIx_tup0, dIx_tup1, fLen, fAbs, fInt, fMax2, fMin2, gTupF, gsCons, gsNil, D.pure, D.pures, Bool.not_true, Bool.not_false, Bool.and_true, Bool.true_and, Bool.and_false, Bool.false_and, Option.bind_some, Option.bind_none, Option.map_some, Option.map_none, bind_ite, map_ite, List.map_cons, List.map_nil, List.replicate, List.cons_append, List.nil_append, List.append_nil, List.getElem?_cons_zero, List.getElem?_cons_succ, List.set_cons_zero, List.set_cons_succ, List.length_cons, List.length_nil, Nat.reduceAdd, Nat.reduceLT, Nat.zero_add, Nat.lt_add_one, if_true, if_false, ite_true, ite_false, decide_eq_true_eq, Bool.false_eq_true, reduceCtorEq, reduceIte, Nat.reduceLeDiff, Nat.reduceEqDiff, e1, e2, cd_loop b.natAbs a.natAbs b.natAbs (Nat.le_refl _)]
  rfl
theorem fraction_eq {a b : Int} (hb : b ≠ 0) (hs : b.natAbs < 2 ^ 9000) : val F_fraction [.int a, .int b] = some (fr (Rat.divInt a b)) := by
  have hg := gcd_pos (a := a) hb
  have hl := gcd_le (a := a) hb
  have d1 : divOk (Int.gcd a b : Int) = true := divOk_of (b := 9000) (by omega) (by omega)
  have d2 : divOk (-(Int.gcd a b : Int)) = true := divOk_of (b := 9000) (by omega) (by omega)
  rw [fr_divInt hb]
  simp only [F_fraction, val_fnF, zsF_eq, fzAt, D.fz, wpE, mgE, List.contains_cons, List.contains_nil, Nat.reduceBEq, Bool.or_false, Bool.or_true, Bool.false_or, Bool.true_or, seqF_eq, andThen_nx, andThen_bk, andThen_ct, andThen_rt, retV_rt, retV_nx, nxF, bkF, ctF, rtF, rnF, rmF, stF, exF, put, parF, agF, ifS, forF_eq, flF_nil, flF_cons, flK_nx, flK_ct, flK_bk, flK_rt, tbF, ttF, andF, orF, notF, andV, orV, ifF, chF, b1, b2, bN, clF_val, aNil, aCons, nmF, ownF, cF, fzF, itF, inF, itOf, rng1, rng2, yesF, dTru, dNot, I.isi_non_tuple, I.isi_non_list, I.isi_non_bool, I.isi_non_int, I.isi_non_str, I.isi_bl_tuple, I.isi_bl_list, I.isi_bl_bool, I.isi_bl_int, I.isi_bl_str, I.isi_int_tuple, I.isi_int_list, I.isi_int_bool, I.isi_int_int, I.isi_int_str, I.isi_str_tuple, I.isi_str_list, I.isi_str_bool, I.isi_str_int, I.isi_str_str, I.isi_tup_tuple, I.isi_tup_list, I.isi_tup_bool, I.isi_tup_int, I.isi_tup_str, I.isi_lst_tuple, I.isi_lst_list, I.isi_lst_bool, I.isi_lst_int, I.isi_lst_str, I.isi_scr_tuple, I.isi_scr_list, I.isi_scr_bool, I.isi_scr_int, I.isi_scr_str, dEq_bl, dNe_bl, dIsN_non, dIsN_bl, dIsN_int, dIsN_str, dIsN_tup, dIsN_lst, dAdd_int, dSub_int, dEq_int, dNe_int, dLt_int, dLe_int, dGt_int, dGe_int, dAddI_int, asB_bl, dIx_tup0, dIx_tup1, fLen, fAbs, fInt, fMax2, fMin2, gTupF, gsCons, gsNil, D.pure, D.pures, Bool.not_true, Bool.not_false, Bool.and_true, Bool.true_and, Bool.and_false, Bool.false_and, Option.bind_some, Option.bind_none, Option.map_some, Option.map_none, bind_ite, map_ite, List.map_cons, List.map_nil, List.replicate, List.cons_append, List.nil_append, List.append_nil, List.getElem?_cons_zero, List.getElem?_cons_succ, List.set_cons_zero, List.set_cons_succ, List.length_cons, List.length_nil, Nat.reduceAdd, Nat.reduceLT, Nat.zero_add, Nat.lt_add_one, if_true, if_false, ite_true, ite_false, decide_eq_true_eq, Bool.false_eq_true, reduceCtorEq, reduceIte, Nat.reduceLeDiff, Nat.reduceEqDiff, cd_eq, hb, decide_false]
  by_cases h : b < 0
  · simp only [h, decide_true, val_fnF, zsF_eq, fzAt, D.fz, wpE, mgE, List.contains_cons, List.contains_nil, Nat.reduceBEq, Bool.or_false, Bool.or_true, Bool.false_or, Bool.true_or, seqF_eq, andThen_nx, andThen_bk, andThen_ct, andThen_rt, retV_rt, retV_nx, nxF, bkF, ctF, rtF, rnF, rmF, stF, exF, put, parF, agF, ifS, forF_eq, flF_nil, flF_cons, flK_nx, flK_ct, flK_bk, flK_rt, tbF, ttF, andF, orF, notF, andV, orV, ifF, chF, b1, b2, bN, clF_val, aNil, aCons, nmF, ownF, cF, fzF, itF, inF, itOf, rng1, rng2, yesF, dTru, dNot, I.isi_non_tuple, I.isi_non_list, I.isi_non_bool, I.isi_non_int, I.isi_non_str, I.isi_bl_tuple, I.isi_bl_list, I.isi_bl_bool, I.isi_bl_int, I.isi_bl_str, I.isi_int_tuple, I.isi_int_list, I.isi_int_bool, I.isi_int_int, I.isi_int_str, I.isi_str_tuple, I.isi_str_list, I.isi_str_bool, I.isi_str_int, I.isi_str_str, I.isi_tup_tuple, I.isi_tup_list, I.isi_tup_bool, I.isi_tup_int, I.isi_tup_str, I.isi_lst_tuple, I.isi_lst_list, I.isi_lst_bool, I.isi_lst_int, I.isi_lst_str, I.isi_scr_tuple, I.isi_scr_list, I.isi_scr_bool, I.isi_scr_int, I.isi_scr_str, dEq_bl, dNe_bl, dIsN_non, dIsN_bl, dIsN_int, dIsN_str, dIsN_tup, dIsN_lst, dAdd_int, dSub_int, dEq_int, dNe_int, dLt_int, dLe_int, dGt_int, dGe_int, dAddI_int, asB_bl, dIx_tup0, dIx_tup1, fLen, fAbs, fInt, fMax2, fMin2, gTupF, gsCons, gsNil, D.pure, D.pures, Bool.not_true, Bool.not_false, Bool.and_true, Bool.true_and, Bool.and_false, Bool.false_and, Option.bind_some, Option.bind_none, Option.map_some, Option.map_none, bind_ite, map_ite, List.map_cons, List.map_nil, List.replicate, List.cons_append, List.nil_append, List.append_nil, List.getElem?_cons_zero, List.getElem?_cons_succ, List.set_cons_zero, List.set_cons_succ, List.length_cons, List.length_nil, Nat.reduceAdd, Nat.reduceLT, Nat.zero_add, Nat.lt_add_one, if_true, if_false, ite_true, ite_false, decide_eq_true_eq, Bool.false_eq_true, reduceCtorEq, reduceIte, Nat.reduceLeDiff, Nat.reduceEqDiff, dNeg, dDiv, d2, dTup_le (show [D.int (a.fdiv (-(Int.gcd a b : Int))), .int (b.fdiv (-(Int.gcd a b : Int)))].length ≤ 16777216 by simp)]
  · simp only [h, decide_false, val_fnF, zsF_eq, fzAt, D.fz, wpE, mgE, List.contains_cons, List.contains_nil, Nat.reduceBEq, Bool.or_false, Bool.or_true, Bool.false_or, Bool.true_or, seqF_eq, andThen_nx, andThen_bk, andThen_ct, andThen_rt, retV_rt, retV_nx, nxF, bkF, ctF, rtF, rnF, rmF, stF, exF, put, parF, agF, ifS, forF_eq, flF_nil, flF_cons, flK_nx, flK_ct, flK_bk, flK_rt, tbF, ttF, andF, orF, notF, andV, orV, ifF, chF, b1, b2, bN, clF_val, aNil, aCons, nmF, ownF, cF, fzF, itF, inF, itOf, rng1, rng2, yesF, dTru, dNot, I.isi_non_tuple, I.isi_non_list, I.isi_non_bool, I.isi_non_int, I.isi_non_str, I.isi_bl_tuple, I.isi_bl_list, I.isi_bl_bool, I.isi_bl_int, I.isi_bl_str, I.isi_int_tuple, I.isi_int_list, I.isi_int_bool, I.isi_int_int, I.isi_int_str, I.isi_str_tuple, I.isi_str_list, I.isi_str_bool, I.isi_str_int, I.isi_str_str, I.isi_tup_tuple, I.isi_tup_list, I.isi_tup_bool, I.isi_tup_int, I.isi_tup_str, I.isi_lst_tuple, I.isi_lst_list, I.isi_lst_bool, I.isi_lst_int, I.isi_lst_str, I.isi_scr_tuple, I.isi_scr_list, I.isi_scr_bool, I.isi_scr_int, I.isi_scr_str, dEq_bl, dNe_bl, dIsN_non, dIsN_bl, dIsN_int, dIsN_str, dIsN_tup, dIsN_lst, dAdd_int, dSub_int, dEq_int, dNe_int, dLt_int, dLe_int, dGt_int, dGe_int, dAddI_int, asB_bl, dIx_tup0, dIx_tup1, fLen, fAbs, fInt, fMax2, fMin2, gTupF, gsCons, gsNil, D.pure, D.pures, Bool.not_true, Bool.not_false, Bool.and_true, Bool.true_and, Bool.and_false, Bool.false_and, Option.bind_some, Option.bind_none, Option.map_some, Option.map_none, bind_ite, map_ite, List.map_cons, List.map_nil, List.replicate, List.cons_append, List.nil_append, List.append_nil, List.getElem?_cons_zero, List.getElem?_cons_succ, List.set_cons_zero, List.set_cons_succ, List.length_cons, List.length_nil, Nat.reduceAdd, Nat.reduceLT, Nat.zero_add, Nat.lt_add_one, if_true, if_false, ite_true, ite_false, decide_eq_true_eq, Bool.false_eq_true, reduceCtorEq, reduceIte, Nat.reduceLeDiff, Nat.reduceEqDiff, dDiv, d1, dTup_le (show [D.int (a.fdiv (Int.gcd a b : Int)), .int (b.fdiv (Int.gcd a b : Int))].length ≤ 16777216 by simp)]
theorem den2 {x y : Rat} (hx : x.den < 2 ^ 64) (hy : y.den < 2 ^ 64) : ((x.den : Int) * y.den).natAbs < 2 ^ 9000 ∧ (x.den : Int) * y.den ≠ 0 := by
  have := x.den_pos; have := y.den_pos
  refine ⟨?_, by have := Int.mul_pos (den_pos x) (den_pos y); omega⟩
  have e : ((x.den : Int) * y.den).natAbs = x.den * y.den := by rw [Int.natAbs_mul]; rfl
  rw [e]
  exact Nat.lt_of_lt_of_le (Nat.mul_lt_mul'' hx hy) (by rw [← Nat.pow_add]; exact Nat.pow_le_pow_right (by omega) (by omega))
theorem plus_eq {x y : Rat} (hx : x.den < 2 ^ 64) (hy : y.den < 2 ^ 64) : val F_plus [fr x, fr y] = some (fr (x + y)) := by
  have m1 : mulOk x.num (y.den : Int) = true := mulOk_r (by simpa using hy)
  have m2 : mulOk y.num (x.den : Int) = true := mulOk_r (by simpa using hx)
  have m3 : mulOk (x.den : Int) (y.den : Int) = true := mulOk_r (by simpa using hy)
  obtain ⟨h1, h2⟩ := den2 hx hy
  simp only [F_plus, fr_def, val_fnF, zsF_eq, fzAt, D.fz, wpE, mgE, List.contains_cons, List.contains_nil, Nat.reduceBEq, Bool.or_false, Bool.or_true, Bool.false_or, Bool.true_or, seqF_eq, andThen_nx, andThen_bk, andThen_ct, andThen_rt, retV_rt, retV_nx, nxF, bkF, ctF, rtF, rnF, rmF, stF, exF, put, parF, agF, ifS, forF_eq, flF_nil, flF_cons, flK_nx, flK_ct, flK_bk, flK_rt, tbF, ttF, andF, orF, notF, andV, orV, ifF, chF, b1, b2, bN, clF_val, aNil, aCons, nmF, ownF, cF, fzF, itF, inF, itOf, rng1, rng2, yesF, dTru, dNot, I.isi_non_tuple, I.isi_non_list, I.isi_non_bool, I.isi_non_int, I.isi_non_str, I.isi_bl_tuple, I.isi_bl_list, I.isi_bl_bool, I.isi_bl_int, I.isi_bl_str, I.isi_int_tuple, I.isi_int_list, I.isi_int_bool, I.isi_int_int, I.isi_int_str, I.isi_str_tuple, I.isi_str_list, I.isi_str_bool, I.isi_str_int, I.isi_str_str, I.isi_tup_tuple, I.isi_tup_list, I.isi_tup_bool, I.isi_tup_int, I.isi_tup_str, I.isi_lst_tuple, I.isi_lst_list, I.isi_lst_bool, I.isi_lst_int, I.isi_lst_str, I.isi_scr_tuple, I.isi_scr_list, I.isi_scr_bool, I.isi_scr_int, I.isi_scr_str, dEq_bl, dNe_bl, dIsN_non, dIsN_bl, dIsN_int, dIsN_str, dIsN_tup, dIsN_lst, dAdd_int, dSub_int, dEq_int, dNe_int, dLt_int, dLe_int, dGt_int, dGe_int, dAddI_int, asB_bl, dIx_tup0, dIx_tup1, fLen, fAbs, fInt, fMax2, fMin2, gTupF, gsCons, gsNil, D.pure, D.pures, Bool.not_true, Bool.not_false, Bool.and_true, Bool.true_and, Bool.and_false, Bool.false_and, Option.bind_some, Option.bind_none, Option.map_some, Option.map_none, bind_ite, map_ite, List.map_cons, List.map_nil, List.replicate, List.cons_append, List.nil_append, List.append_nil, List.getElem?_cons_zero, List.getElem?_cons_succ, List.set_cons_zero, List.set_cons_succ, List.length_cons, List.length_nil, Nat.reduceAdd, Nat.reduceLT, Nat.zero_add, Nat.lt_add_one, if_true, if_false, ite_true, ite_false, decide_eq_true_eq, Bool.false_eq_true, reduceCtorEq, reduceIte, Nat.reduceLeDiff, Nat.reduceEqDiff, dMul, m1, m2, m3, fraction_eq h2 h1, add_divInt]
theorem minus_eq {x y : Rat} (hx : x.den < 2 ^ 64) (hy : y.den < 2 ^ 64) : val F_minus [fr x, fr y] = some (fr (x - y)) := by
  have m1 : mulOk x.num (y.den : Int) = true := mulOk_r (by simpa using hy)
  have m2 : mulOk y.num (x.den : Int) = true := mulOk_r (by simpa using hx)
  have m3 : mulOk (x.den : Int) (y.den : Int) = true := mulOk_r (by simpa using hy)
  obtain ⟨h1, h2⟩ := den2 hx hy
  simp only [F_minus, fr_def, val_fnF, zsF_eq, fzAt, D.fz, wpE, mgE, List.contains_cons, List.contains_nil, Nat.reduceBEq, Bool.or_false, Bool.or_true, Bool.false_or, Bool.true_or, seqF_eq, andThen_nx, andThen_bk, andThen_ct, andThen_rt, retV_rt, retV_nx, nxF, bkF, ctF, rtF, rnF, rmF, stF, exF, put, parF, agF, ifS, forF_eq, flF_nil, flF_cons, flK_nx, flK_ct, flK_bk, flK_rt, tbF, ttF, andF, orF, notF, andV, orV, ifF, chF, b1, b2, bN, clF_val, aNil, aCons, nmF, ownF, cF, fzF, itF, inF, itOf, rng1, rng2, yesF, dTru, dNot, I.isi_non_tuple, I.isi_non_list, I.isi_non_bool, I.isi_non_int, I.isi_non_str, I.isi_bl_tuple, I.isi_bl_list, I.isi_bl_bool, I.isi_bl_int, I.isi_bl_str, I.isi_int_tuple, I.isi_int_list, I.isi_int_bool, I.isi_int_int, I.isi_int_str, I.isi_str_tuple, I.isi_str_list, I.isi_str_bool, I.isi_str_int, I.isi_str_str, I.isi_tup_tuple, I.isi_tup_list, I.isi_tup_bool, I.isi_tup_int, I.isi_tup_str, I.isi_lst_tuple, I.isi_lst_list, I.isi_lst_bool, I.isi_lst_int, I.isi_lst_str, I.isi_scr_tuple, I.isi_scr_list, I.isi_scr_bool, I.isi_scr_int, I.isi_scr_str, dEq_bl, dNe_bl, dIsN_non, dIsN_bl, dIsN_int, dIsN_str, dIsN_tup, dIsN_lst, dAdd_int, dSub_int, dEq_int, dNe_int, dLt_int, dLe_int, dGt_int, dGe_int, dAddI_int, asB_bl, dIx_tup0, dIx_tup1, fLen, fAbs, fInt, fMax2, fMin2, gTupF, gsCons, gsNil, D.pure, D.pures, Bool.not_true, Bool.not_false, Bool.and_true, Bool.true_and, Bool.and_false, Bool.false_and, Option.bind_some, Option.bind_none, Option.map_some, Option.map_none, bind_ite, map_ite, List.map_cons, List.map_nil, List.replicate, List.cons_append, List.nil_append, List.append_nil, List.getElem?_cons_zero, List.getElem?_cons_succ, List.set_cons_zero, List.set_cons_succ, List.length_cons, List.length_nil, Nat.reduceAdd, Nat.reduceLT, Nat.zero_add, Nat.lt_add_one, if_true, if_false, ite_true, ite_false, decide_eq_true_eq, Bool.false_eq_true, reduceCtorEq, reduceIte, Nat.reduceLeDiff, Nat.reduceEqDiff, dMul, m1, m2, m3, fraction_eq h2 h1, sub_divInt]
def sgn (q : Rat) : Int := (if 0 < q.num then 1 else 0) - (if q.num < 0 then 1 else 0)
theorem sign_eq (q : Rat) : val F_sign [fr q] = some (.int (sgn q)) := by
  simp only [F_sign, fr_def, val_fnF, zsF_eq, fzAt, D.fz, wpE, mgE, List.contains_cons, List.contains_nil, Nat.reduceBEq, Bool.or_false, Bool.or_true, Bool.false_or, Bool.true_or, seqF_eq, andThen_nx, andThen_bk, andThen_ct, andThen_rt, retV_rt, retV_nx, nxF, bkF, ctF, rtF, rnF, rmF, stF, exF, put, parF, agF, ifS, forF_eq, flF_nil, flF_cons, flK_nx, flK_ct, flK_bk, flK_rt, tbF, ttF, andF, orF, notF, andV, orV, ifF, chF, b1, b2, bN, clF_val, aNil, aCons, nmF, ownF, cF, fzF, itF, inF, itOf, rng1, rng2, yesF, dTru, dNot, I.isi_non_tuple, I.isi_non_list, I.isi_non_bool, I.isi_non_int, I.isi_non_str, I.isi_bl_tuple, I.isi_bl_list, I.isi_bl_bool, I.isi_bl_int, I.isi_bl_str, I.isi_int_tuple, I.isi_int_list, I.isi_int_bool, I.isi_int_int, I.isi_int_str, I.isi_str_tuple, I.isi_str_list, I.isi_str_bool, I.isi_str_int, I.isi_str_str, I.isi_tup_tuple, I.isi_tup_list, I.isi_tup_bool, I.isi_tup_int, I.isi_tup_str, I.isi_lst_tuple, I.isi_lst_list, I.isi_lst_bool, I.isi_lst_int, I.isi_lst_str, I.isi_scr_tuple, I.isi_scr_list, I.isi_scr_bool, I.isi_scr_int, I.isi_scr_str, dEq_bl, dNe_bl, dIsN_non, dIsN_bl, dIsN_int, dIsN_str, dIsN_tup, dIsN_lst, dAdd_int, dSub_int, dEq_int, dNe_int, dLt_int, dLe_int, dGt_int, dGe_int, dAddI_int, asB_bl, dIx_tup0, dIx_tup1, fLen, fAbs, fInt, fMax2, fMin2, gTupF, gsCons, gsNil, D.pure, D.pures, Bool.not_true, Bool.not_false, Bool.and_true, Bool.true_and, Bool.and_false, Bool.false_and, Option.bind_some, Option.bind_none, Option.map_some, Option.map_none, bind_ite, map_ite, List.map_cons, List.map_nil, List.replicate, List.cons_append, List.nil_append, List.append_nil, List.getElem?_cons_zero, List.getElem?_cons_succ, List.set_cons_zero, List.set_cons_succ, List.length_cons, List.length_nil, Nat.reduceAdd, Nat.reduceLT, Nat.zero_add, Nat.lt_add_one, if_true, if_false, ite_true, ite_false, decide_eq_true_eq, Bool.false_eq_true, reduceCtorEq, reduceIte, Nat.reduceLeDiff, Nat.reduceEqDiff]
  unfold sgn
  by_cases h1 : 0 < q.num <;> by_cases h2 : q.num < 0 <;> simp only [h1, h2, decide_true, decide_false, val_fnF, zsF_eq, fzAt, D.fz, wpE, mgE, List.contains_cons, List.contains_nil, Nat.reduceBEq, Bool.or_false, Bool.or_true, Bool.false_or, Bool.true_or, seqF_eq, andThen_nx, andThen_bk, andThen_ct, andThen_rt, retV_rt, retV_nx, nxF, bkF, ctF, rtF, rnF, rmF, stF, exF, put, parF, agF, ifS, forF_eq, flF_nil, flF_cons, flK_nx, flK_ct, flK_bk, flK_rt, tbF, ttF, andF, orF, notF, andV, orV, ifF, chF, b1, b2, bN, clF_val, aNil, aCons, nmF, ownF, cF, fzF, itF, inF, itOf, rng1, rng2, yesF, dTru, dNot, I.isi_non_tuple, I.isi_non_list, I.isi_non_bool, I.isi_non_int, I.isi_non_str, I.isi_bl_tuple, I.isi_bl_list, I.isi_bl_bool, I.isi_bl_int, I.isi_bl_str, I.isi_int_tuple, I.isi_int_list, I.isi_int_bool, I.isi_int_int, I.isi_int_str, I.isi_str_tuple, I.isi_str_list, I.isi_str_bool, I.isi_str_int, I.isi_str_str, I.isi_tup_tuple, I.isi_tup_list, I.isi_tup_bool, I.isi_tup_int, I.isi_tup_str, I.isi_lst_tuple, I.isi_lst_list, I.isi_lst_bool, I.isi_lst_int, I.isi_lst_str, I.isi_scr_tuple, I.isi_scr_list, I.isi_scr_bool, I.isi_scr_int, I.isi_scr_str, dEq_bl, dNe_bl, dIsN_non, dIsN_bl, dIsN_int, dIsN_str, dIsN_tup, dIsN_lst, dAdd_int, dSub_int, dEq_int, dNe_int, dLt_int, dLe_int, dGt_int, dGe_int, dAddI_int, asB_bl, dIx_tup0, dIx_tup1, fLen, fAbs, fInt, fMax2, fMin2, gTupF, gsCons, gsNil, D.pure, D.pures, Bool.not_true, Bool.not_false, Bool.and_true, Bool.true_and, Bool.and_false, Bool.false_and, Option.bind_some, Option.bind_none, Option.map_some, Option.map_none, bind_ite, map_ite, List.map_cons, List.map_nil, List.replicate, List.cons_append, List.nil_append, List.append_nil, List.getElem?_cons_zero, List.getElem?_cons_succ, List.set_cons_zero, List.set_cons_succ, List.length_cons, List.length_nil, Nat.reduceAdd, Nat.reduceLT, Nat.zero_add, Nat.lt_add_one, if_true, if_false, ite_true, ite_false, decide_eq_true_eq, Bool.false_eq_true, reduceCtorEq, reduceIte, Nat.reduceLeDiff, Nat.reduceEqDiff, Bool.toInt, if_true, if_false] <;> rfl
theorem sgn_lt (x y : Rat) : sgn (x - y) < 0 ↔ x < y := by
  have e : x < y ↔ (x - y).num < 0 := by
    have n : (x - y).num < 0 ↔ x - y < 0 := by
      rw [← Rat.not_le, ← Rat.num_nonneg]; omega
    rw [n]
    constructor <;> intro h <;> grind
  rw [e]
  unfold sgn
  split <;> split <;> omega
def cmpT : T → T → Int
  | none, none => 0
  | none, some _ => 1
  | some _, none => -1
  | some a, some b => sgn (a - b)
theorem cmpT_lt (a b : T) : decide (cmpT a b < 0) = tlt a b := by
  cases a <;> cases b <;> simp [cmpT, tlt, sgn_lt]
def Sm (t : T) : Prop := ∀ q, t = some q → q.den < 2 ^ 64
theorem compare_eq {a b : T} (ha : Sm a) (hb : Sm b) : val F_compare [fv a, fv b] = some (.int (cmpT a b)) := by
  cases a <;> cases b
  · simp only [F_compare, g_INFINITE, fv_none, val_fnF, zsF_eq, fzAt, D.fz, wpE, mgE, List.contains_cons, List.contains_nil, Nat.reduceBEq, Bool.or_false, Bool.or_true, Bool.false_or, Bool.true_or, seqF_eq, andThen_nx, andThen_bk, andThen_ct, andThen_rt, retV_rt, retV_nx, nxF, bkF, ctF, rtF, rnF, rmF, stF, exF, put, parF, agF, ifS, forF_eq, flF_nil, flF_cons, flK_nx, flK_ct, flK_bk, flK_rt, tbF, ttF, andF, orF, notF, andV, orV, ifF, chF, b1, b2, bN, clF_val, aNil, aCons, nmF, ownF, cF, fzF, itF, inF, itOf, rng1, rng2, yesF, dTru, dNot, I.isi_non_tuple, I.isi_non_list, I.isi_non_bool, I.isi_non_int, I.isi_non_str, I.isi_bl_tuple, I.isi_bl_list, I.isi_bl_bool, I.isi_bl_int, I.isi_bl_str, I.isi_int_tuple, I.isi_int_list, I.isi_int_bool, I.isi_int_int, I.isi_int_str, I.isi_str_tuple, I.isi_str_list, I.isi_str_bool, I.isi_str_int, I.isi_str_str, I.isi_tup_tuple, I.isi_tup_list, I.isi_tup_bool, I.isi_tup_int, I.isi_tup_str, I.isi_lst_tuple, I.isi_lst_list, I.isi_lst_bool, I.isi_lst_int, I.isi_lst_str, I.isi_scr_tuple, I.isi_scr_list, I.isi_scr_bool, I.isi_scr_int, I.isi_scr_str, dEq_bl, dNe_bl, dIsN_non, dIsN_bl, dIsN_int, dIsN_str, dIsN_tup, dIsN_lst, dAdd_int, dSub_int, dEq_int, dNe_int, dLt_int, dLe_int, dGt_int, dGe_int, dAddI_int, asB_bl, dIx_tup0, dIx_tup1, fLen, fAbs, fInt, fMax2, fMin2, gTupF, gsCons, gsNil, D.pure, D.pures, Bool.not_true, Bool.not_false, Bool.and_true, Bool.true_and, Bool.and_false, Bool.false_and, Option.bind_some, Option.bind_none, Option.map_some, Option.map_none, bind_ite, map_ite, List.map_cons, List.map_nil, List.replicate, List.cons_append, List.nil_append, List.append_nil, List.getElem?_cons_zero, List.getElem?_cons_succ, List.set_cons_zero, List.set_cons_succ, List.length_cons, List.length_nil, Nat.reduceAdd, Nat.reduceLT, Nat.zero_add, Nat.lt_add_one, if_true, if_false, ite_true, ite_false, decide_eq_true_eq, Bool.false_eq_true, reduceCtorEq, reduceIte, Nat.reduceLeDiff, Nat.reduceEqDiff, dEq_fv0 none]
    rfl
  · have e := dEq_fv0 none; have e2 := dEq_fv0 (some ‹Rat›)
    rw [fv_none] at e; 
    simp only [F_compare, g_INFINITE, fv_none, val_fnF, zsF_eq, fzAt, D.fz, wpE, mgE, List.contains_cons, List.contains_nil, Nat.reduceBEq, Bool.or_false, Bool.or_true, Bool.false_or, Bool.true_or, seqF_eq, andThen_nx, andThen_bk, andThen_ct, andThen_rt, retV_rt, retV_nx, nxF, bkF, ctF, rtF, rnF, rmF, stF, exF, put, parF, agF, ifS, forF_eq, flF_nil, flF_cons, flK_nx, flK_ct, flK_bk, flK_rt, tbF, ttF, andF, orF, notF, andV, orV, ifF, chF, b1, b2, bN, clF_val, aNil, aCons, nmF, ownF, cF, fzF, itF, inF, itOf, rng1, rng2, yesF, dTru, dNot, I.isi_non_tuple, I.isi_non_list, I.isi_non_bool, I.isi_non_int, I.isi_non_str, I.isi_bl_tuple, I.isi_bl_list, I.isi_bl_bool, I.isi_bl_int, I.isi_bl_str, I.isi_int_tuple, I.isi_int_list, I.isi_int_bool, I.isi_int_int, I.isi_int_str, I.isi_str_tuple, I.isi_str_list, I.isi_str_bool, I.isi_str_int, I.isi_str_str, I.isi_tup_tuple, I.isi_tup_list, I.isi_tup_bool, I.isi_tup_int, I.isi_tup_str, I.isi_lst_tuple, I.isi_lst_list, I.isi_lst_bool, I.isi_lst_int, I.isi_lst_str, I.isi_scr_tuple, I.isi_scr_list, I.isi_scr_bool, I.isi_scr_int, I.isi_scr_str, dEq_bl, dNe_bl, dIsN_non, dIsN_bl, dIsN_int, dIsN_str, dIsN_tup, dIsN_lst, dAdd_int, dSub_int, dEq_int, dNe_int, dLt_int, dLe_int, dGt_int, dGe_int, dAddI_int, asB_bl, dIx_tup0, dIx_tup1, fLen, fAbs, fInt, fMax2, fMin2, gTupF, gsCons, gsNil, D.pure, D.pures, Bool.not_true, Bool.not_false, Bool.and_true, Bool.true_and, Bool.and_false, Bool.false_and, Option.bind_some, Option.bind_none, Option.map_some, Option.map_none, bind_ite, map_ite, List.map_cons, List.map_nil, List.replicate, List.cons_append, List.nil_append, List.append_nil, List.getElem?_cons_zero, List.getElem?_cons_succ, List.set_cons_zero, List.set_cons_succ, List.length_cons, List.length_nil, Nat.reduceAdd, Nat.reduceLT, Nat.zero_add, Nat.lt_add_one, if_true, if_false, ite_true, ite_false, decide_eq_true_eq, Bool.false_eq_true, reduceCtorEq, reduceIte, Nat.reduceLeDiff, Nat.reduceEqDiff, e, e2]
    rfl
  · have e := dEq_fv0 none; have e2 := dEq_fv0 (some ‹Rat›)
    rw [fv_none] at e
    simp only [F_compare, g_INFINITE, fv_none, val_fnF, zsF_eq, fzAt, D.fz, wpE, mgE, List.contains_cons, List.contains_nil, Nat.reduceBEq, Bool.or_false, Bool.or_true, Bool.false_or, Bool.true_or, seqF_eq, andThen_nx, andThen_bk, andThen_ct, andThen_rt, retV_rt, retV_nx, nxF, bkF, ctF, rtF, rnF, rmF, stF, exF, put, parF, agF, ifS, forF_eq, flF_nil, flF_cons, flK_nx, flK_ct, flK_bk, flK_rt, tbF, ttF, andF, orF, notF, andV, orV, ifF, chF, b1, b2, bN, clF_val, aNil, aCons, nmF, ownF, cF, fzF, itF, inF, itOf, rng1, rng2, yesF, dTru, dNot, I.isi_non_tuple, I.isi_non_list, I.isi_non_bool, I.isi_non_int, I.isi_non_str, I.isi_bl_tuple, I.isi_bl_list, I.isi_bl_bool, I.isi_bl_int, I.isi_bl_str, I.isi_int_tuple, I.isi_int_list, I.isi_int_bool, I.isi_int_int, I.isi_int_str, I.isi_str_tuple, I.isi_str_list, I.isi_str_bool, I.isi_str_int, I.isi_str_str, I.isi_tup_tuple, I.isi_tup_list, I.isi_tup_bool, I.isi_tup_int, I.isi_tup_str, I.isi_lst_tuple, I.isi_lst_list, I.isi_lst_bool, I.isi_lst_int, I.isi_lst_str, I.isi_scr_tuple, I.isi_scr_list, I.isi_scr_bool, I.isi_scr_int, I.isi_scr_str, dEq_bl, dNe_bl, dIsN_non, dIsN_bl, dIsN_int, dIsN_str, dIsN_tup, dIsN_lst, dAdd_int, dSub_int, dEq_int, dNe_int, dLt_int, dLe_int, dGt_int, dGe_int, dAddI_int, asB_bl, dIx_tup0, dIx_tup1, fLen, fAbs, fInt, fMax2, fMin2, gTupF, gsCons, gsNil, D.pure, D.pures, Bool.not_true, Bool.not_false, Bool.and_true, Bool.true_and, Bool.and_false, Bool.false_and, Option.bind_some, Option.bind_none, Option.map_some, Option.map_none, bind_ite, map_ite, List.map_cons, List.map_nil, List.replicate, List.cons_append, List.nil_append, List.append_nil, List.getElem?_cons_zero, List.getElem?_cons_succ, List.set_cons_zero, List.set_cons_succ, List.length_cons, List.length_nil, Nat.reduceAdd, Nat.reduceLT, Nat.zero_add, Nat.lt_add_one, if_true, if_false, ite_true, ite_false, decide_eq_true_eq, Bool.false_eq_true, reduceCtorEq, reduceIte, Nat.reduceLeDiff, Nat.reduceEqDiff, e, e2, Option.isNone]
    rfl
  · rename_i x y
    simp only [F_compare, g_INFINITE, val_fnF, zsF_eq, fzAt, D.fz, wpE, mgE, List.contains_cons, List.contains_nil, Nat.reduceBEq, Bool.or_false, Bool.or_true, Bool.false_or, Bool.true_or, seqF_eq, andThen_nx, andThen_bk, andThen_ct, andThen_rt, retV_rt, retV_nx, nxF, bkF, ctF, rtF, rnF, rmF, stF, exF, put, parF, agF, ifS, forF_eq, flF_nil, flF_cons, flK_nx, flK_ct, flK_bk, flK_rt, tbF, ttF, andF, orF, notF, andV, orV, ifF, chF, b1, b2, bN, clF_val, aNil, aCons, nmF, ownF, cF, fzF, itF, inF, itOf, rng1, rng2, yesF, dTru, dNot, I.isi_non_tuple, I.isi_non_list, I.isi_non_bool, I.isi_non_int, I.isi_non_str, I.isi_bl_tuple, I.isi_bl_list, I.isi_bl_bool, I.isi_bl_int, I.isi_bl_str, I.isi_int_tuple, I.isi_int_list, I.isi_int_bool, I.isi_int_int, I.isi_int_str, I.isi_str_tuple, I.isi_str_list, I.isi_str_bool, I.isi_str_int, I.isi_str_str, I.isi_tup_tuple, I.isi_tup_list, I.isi_tup_bool, I.isi_tup_int, I.isi_tup_str, I.isi_lst_tuple, I.isi_lst_list, I.isi_lst_bool, I.isi_lst_int, I.isi_lst_str, I.isi_scr_tuple, I.isi_scr_list, I.isi_scr_bool, I.isi_scr_int, I.isi_scr_str, dEq_bl, dNe_bl, dIsN_non, dIsN_bl, dIsN_int, dIsN_str, dIsN_tup, dIsN_lst, dAdd_int, dSub_int, dEq_int, dNe_int, dLt_int, dLe_int, dGt_int, dGe_int, dAddI_int, asB_bl, dIx_tup0, dIx_tup1, fLen, fAbs, fInt, fMax2, fMin2, gTupF, gsCons, gsNil, D.pure, D.pures, Bool.not_true, Bool.not_false, Bool.and_true, Bool.true_and, Bool.and_false, Bool.false_and, Option.bind_some, Option.bind_none, Option.map_some, Option.map_none, bind_ite, map_ite, List.map_cons, List.map_nil, List.replicate, List.cons_append, List.nil_append, List.append_nil, List.getElem?_cons_zero, List.getElem?_cons_succ, List.set_cons_zero, List.set_cons_succ, List.length_cons, List.length_nil, Nat.reduceAdd, Nat.reduceLT, Nat.zero_add, Nat.lt_add_one, if_true, if_false, ite_true, ite_false, decide_eq_true_eq, Bool.false_eq_true, reduceCtorEq, reduceIte, Nat.reduceLeDiff, Nat.reduceEqDiff, dEq_fv0, Option.isNone, pure_fv]
    simp only [fv_some, minus_eq (ha x rfl) (hb y rfl), val_fnF, zsF_eq, fzAt, D.fz, wpE, mgE, List.contains_cons, List.contains_nil, Nat.reduceBEq, Bool.or_false, Bool.or_true, Bool.false_or, Bool.true_or, seqF_eq, andThen_nx, andThen_bk, andThen_ct, andThen_rt, retV_rt, retV_nx, nxF, bkF, ctF, rtF, rnF, rmF, stF, exF, put, parF, agF, ifS, forF_eq, flF_nil, flF_cons, flK_nx, flK_ct, flK_bk, flK_rt, tbF, ttF, andF, orF, notF, andV, orV, ifF, chF, b1, b2, bN, clF_val, aNil, aCons, nmF, ownF, cF, fzF, itF, inF, itOf, rng1, rng2, yesF, dTru, dNot, I.isi_non_tuple, I.isi_non_list, I.isi_non_bool, I.isi_non_int, I.isi_non_str, I.isi_bl_tuple, I.isi_bl_list, I.isi_bl_bool, I.isi_bl_int, I.isi_bl_str, I.isi_int_tuple, I.isi_int_list, I.isi_int_bool, I.isi_int_int, I.isi_int_str, I.isi_str_tuple, I.isi_str_list, I.isi_str_bool, I.isi_str_int, I.isi_str_str, I.isi_tup_tuple, I.isi_tup_list, I.isi_tup_bool, I.isi_tup_int, I.isi_tup_str, I.isi_lst_tuple, I.isi_lst_list, I.isi_lst_bool, I.isi_lst_int, I.isi_lst_str, I.isi_scr_tuple, I.isi_scr_list, I.isi_scr_bool, I.isi_scr_int, I.isi_scr_str, dEq_bl, dNe_bl, dIsN_non, dIsN_bl, dIsN_int, dIsN_str, dIsN_tup, dIsN_lst, dAdd_int, dSub_int, dEq_int, dNe_int, dLt_int, dLe_int, dGt_int, dGe_int, dAddI_int, asB_bl, dIx_tup0, dIx_tup1, fLen, fAbs, fInt, fMax2, fMin2, gTupF, gsCons, gsNil, D.pure, D.pures, Bool.not_true, Bool.not_false, Bool.and_true, Bool.true_and, Bool.and_false, Bool.false_and, Option.bind_some, Option.bind_none, Option.map_some, Option.map_none, bind_ite, map_ite, List.map_cons, List.map_nil, List.replicate, List.cons_append, List.nil_append, List.append_nil, List.getElem?_cons_zero, List.getElem?_cons_succ, List.set_cons_zero, List.set_cons_succ, List.length_cons, List.length_nil, Nat.reduceAdd, Nat.reduceLT, Nat.zero_add, Nat.lt_add_one, if_true, if_false, ite_true, ite_false, decide_eq_true_eq, Bool.false_eq_true, reduceCtorEq, reduceIte, Nat.reduceLeDiff, Nat.reduceEqDiff, sign_eq]
    rfl
theorem added_eq {a b : T} (ha : Sm a) (hb : Sm b) : val F_added [fv a, fv b] = some (fv (tadd a b)) := by
  cases a <;> cases b
  · simp only [F_added, g_INFINITE, val_fnF, zsF_eq, fzAt, D.fz, wpE, mgE, List.contains_cons, List.contains_nil, Nat.reduceBEq, Bool.or_false, Bool.or_true, Bool.false_or, Bool.true_or, seqF_eq, andThen_nx, andThen_bk, andThen_ct, andThen_rt, retV_rt, retV_nx, nxF, bkF, ctF, rtF, rnF, rmF, stF, exF, put, parF, agF, ifS, forF_eq, flF_nil, flF_cons, flK_nx, flK_ct, flK_bk, flK_rt, tbF, ttF, andF, orF, notF, andV, orV, ifF, chF, b1, b2, bN, clF_val, aNil, aCons, nmF, ownF, cF, fzF, itF, inF, itOf, rng1, rng2, yesF, dTru, dNot, I.isi_non_tuple, I.isi_non_list, I.isi_non_bool, I.isi_non_int, I.isi_non_str, I.isi_bl_tuple, I.isi_bl_list, I.isi_bl_bool, I.isi_bl_int, I.isi_bl_str, I.isi_int_tuple, I.isi_int_list, I.isi_int_bool, I.isi_int_int, I.isi_int_str, I.isi_str_tuple, I.isi_str_list, I.isi_str_bool, I.isi_str_int, I.isi_str_str, I.isi_tup_tuple, I.isi_tup_list, I.isi_tup_bool, I.isi_tup_int, I.isi_tup_str, I.isi_lst_tuple, I.isi_lst_list, I.isi_lst_bool, I.isi_lst_int, I.isi_lst_str, I.isi_scr_tuple, I.isi_scr_list, I.isi_scr_bool, I.isi_scr_int, I.isi_scr_str, dEq_bl, dNe_bl, dIsN_non, dIsN_bl, dIsN_int, dIsN_str, dIsN_tup, dIsN_lst, dAdd_int, dSub_int, dEq_int, dNe_int, dLt_int, dLe_int, dGt_int, dGe_int, dAddI_int, asB_bl, dIx_tup0, dIx_tup1, fLen, fAbs, fInt, fMax2, fMin2, gTupF, gsCons, gsNil, D.pure, D.pures, Bool.not_true, Bool.not_false, Bool.and_true, Bool.true_and, Bool.and_false, Bool.false_and, Option.bind_some, Option.bind_none, Option.map_some, Option.map_none, bind_ite, map_ite, List.map_cons, List.map_nil, List.replicate, List.cons_append, List.nil_append, List.append_nil, List.getElem?_cons_zero, List.getElem?_cons_succ, List.set_cons_zero, List.set_cons_succ, List.length_cons, List.length_nil, Nat.reduceAdd, Nat.reduceLT, Nat.zero_add, Nat.lt_add_one, if_true, if_false, ite_true, ite_false, decide_eq_true_eq, Bool.false_eq_true, reduceCtorEq, reduceIte, Nat.reduceLeDiff, Nat.reduceEqDiff, dEq_fv0, Option.isNone]; rfl
  · simp only [F_added, g_INFINITE, val_fnF, zsF_eq, fzAt, D.fz, wpE, mgE, List.contains_cons, List.contains_nil, Nat.reduceBEq, Bool.or_false, Bool.or_true, Bool.false_or, Bool.true_or, seqF_eq, andThen_nx, andThen_bk, andThen_ct, andThen_rt, retV_rt, retV_nx, nxF, bkF, ctF, rtF, rnF, rmF, stF, exF, put, parF, agF, ifS, forF_eq, flF_nil, flF_cons, flK_nx, flK_ct, flK_bk, flK_rt, tbF, ttF, andF, orF, notF, andV, orV, ifF, chF, b1, b2, bN, clF_val, aNil, aCons, nmF, ownF, cF, fzF, itF, inF, itOf, rng1, rng2, yesF, dTru, dNot, I.isi_non_tuple, I.isi_non_list, I.isi_non_bool, I.isi_non_int, I.isi_non_str, I.isi_bl_tuple, I.isi_bl_list, I.isi_bl_bool, I.isi_bl_int, I.isi_bl_str, I.isi_int_tuple, I.isi_int_list, I.isi_int_bool, I.isi_int_int, I.isi_int_str, I.isi_str_tuple, I.isi_str_list, I.isi_str_bool, I.isi_str_int, I.isi_str_str, I.isi_tup_tuple, I.isi_tup_list, I.isi_tup_bool, I.isi_tup_int, I.isi_tup_str, I.isi_lst_tuple, I.isi_lst_list, I.isi_lst_bool, I.isi_lst_int, I.isi_lst_str, I.isi_scr_tuple, I.isi_scr_list, I.isi_scr_bool, I.isi_scr_int, I.isi_scr_str, dEq_bl, dNe_bl, dIsN_non, dIsN_bl, dIsN_int, dIsN_str, dIsN_tup, dIsN_lst, dAdd_int, dSub_int, dEq_int, dNe_int, dLt_int, dLe_int, dGt_int, dGe_int, dAddI_int, asB_bl, dIx_tup0, dIx_tup1, fLen, fAbs, fInt, fMax2, fMin2, gTupF, gsCons, gsNil, D.pure, D.pures, Bool.not_true, Bool.not_false, Bool.and_true, Bool.true_and, Bool.and_false, Bool.false_and, Option.bind_some, Option.bind_none, Option.map_some, Option.map_none, bind_ite, map_ite, List.map_cons, List.map_nil, List.replicate, List.cons_append, List.nil_append, List.append_nil, List.getElem?_cons_zero, List.getElem?_cons_succ, List.set_cons_zero, List.set_cons_succ, List.length_cons, List.length_nil, Nat.reduceAdd, Nat.reduceLT, Nat.zero_add, Nat.lt_add_one, if_true, if_false, ite_true, ite_false, decide_eq_true_eq, Bool.false_eq_true, reduceCtorEq, reduceIte, Nat.reduceLeDiff, Nat.reduceEqDiff, dEq_fv0, Option.isNone]; rfl
  · simp only [F_added, g_INFINITE, val_fnF, zsF_eq, fzAt, D.fz, wpE, mgE, List.contains_cons, List.contains_nil, Nat.reduceBEq, Bool.or_false, Bool.or_true, Bool.false_or, Bool.true_or, seqF_eq, andThen_nx, andThen_bk, andThen_ct, andThen_rt, retV_rt, retV_nx, nxF, bkF, ctF, rtF, rnF, rmF, stF, exF, put, parF, agF, ifS, forF_eq, flF_nil, flF_cons, flK_nx, flK_ct, flK_bk, flK_rt, tbF, ttF, andF, orF, notF, andV, orV, ifF, chF, b1, b2, bN, clF_val, aNil, aCons, nmF, ownF, cF, fzF, itF, inF, itOf, rng1, rng2, yesF, dTru, dNot, I.isi_non_tuple, I.isi_non_list, I.isi_non_bool, I.isi_non_int, I.isi_non_str, I.isi_bl_tuple, I.isi_bl_list, I.isi_bl_bool, I.isi_bl_int, I.isi_bl_str, I.isi_int_tuple, I.isi_int_list, I.isi_int_bool, I.isi_int_int, I.isi_int_str, I.isi_str_tuple, I.isi_str_list, I.isi_str_bool, I.isi_str_int, I.isi_str_str, I.isi_tup_tuple, I.isi_tup_list, I.isi_tup_bool, I.isi_tup_int, I.isi_tup_str, I.isi_lst_tuple, I.isi_lst_list, I.isi_lst_bool, I.isi_lst_int, I.isi_lst_str, I.isi_scr_tuple, I.isi_scr_list, I.isi_scr_bool, I.isi_scr_int, I.isi_scr_str, dEq_bl, dNe_bl, dIsN_non, dIsN_bl, dIsN_int, dIsN_str, dIsN_tup, dIsN_lst, dAdd_int, dSub_int, dEq_int, dNe_int, dLt_int, dLe_int, dGt_int, dGe_int, dAddI_int, asB_bl, dIx_tup0, dIx_tup1, fLen, fAbs, fInt, fMax2, fMin2, gTupF, gsCons, gsNil, D.pure, D.pures, Bool.not_true, Bool.not_false, Bool.and_true, Bool.true_and, Bool.and_false, Bool.false_and, Option.bind_some, Option.bind_none, Option.map_some, Option.map_none, bind_ite, map_ite, List.map_cons, List.map_nil, List.replicate, List.cons_append, List.nil_append, List.append_nil, List.getElem?_cons_zero, List.getElem?_cons_succ, List.set_cons_zero, List.set_cons_succ, List.length_cons, List.length_nil, Nat.reduceAdd, Nat.reduceLT, Nat.zero_add, Nat.lt_add_one, if_true, if_false, ite_true, ite_false, decide_eq_true_eq, Bool.false_eq_true, reduceCtorEq, reduceIte, Nat.reduceLeDiff, Nat.reduceEqDiff, dEq_fv0, Option.isNone]; rfl
  · rename_i x y
    simp only [F_added, g_INFINITE, val_fnF, zsF_eq, fzAt, D.fz, wpE, mgE, List.contains_cons, List.contains_nil, Nat.reduceBEq, Bool.or_false, Bool.or_true, Bool.false_or, Bool.true_or, seqF_eq, andThen_nx, andThen_bk, andThen_ct, andThen_rt, retV_rt, retV_nx, nxF, bkF, ctF, rtF, rnF, rmF, stF, exF, put, parF, agF, ifS, forF_eq, flF_nil, flF_cons, flK_nx, flK_ct, flK_bk, flK_rt, tbF, ttF, andF, orF, notF, andV, orV, ifF, chF, b1, b2, bN, clF_val, aNil, aCons, nmF, ownF, cF, fzF, itF, inF, itOf, rng1, rng2, yesF, dTru, dNot, I.isi_non_tuple, I.isi_non_list, I.isi_non_bool, I.isi_non_int, I.isi_non_str, I.isi_bl_tuple, I.isi_bl_list, I.isi_bl_bool, I.isi_bl_int, I.isi_bl_str, I.isi_int_tuple, I.isi_int_list, I.isi_int_bool, I.isi_int_int, I.isi_int_str, I.isi_str_tuple, I.isi_str_list, I.isi_str_bool, I.isi_str_int, I.isi_str_str, I.isi_tup_tuple, I.isi_tup_list, I.isi_tup_bool, I.isi_tup_int, I.isi_tup_str, I.isi_lst_tuple, I.isi_lst_list, I.isi_lst_bool, I.isi_lst_int, I.isi_lst_str, I.isi_scr_tuple, I.isi_scr_list, I.isi_scr_bool, I.isi_scr_int, I.isi_scr_str, dEq_bl, dNe_bl, dIsN_non, dIsN_bl, dIsN_int, dIsN_str, dIsN_tup, dIsN_lst, dAdd_int, dSub_int, dEq_int, dNe_int, dLt_int, dLe_int, dGt_int, dGe_int, dAddI_int, asB_bl, dIx_tup0, dIx_tup1, fLen, fAbs, fInt, fMax2, fMin2, gTupF, gsCons, gsNil, D.pure, D.pures, Bool.not_true, Bool.not_false, Bool.and_true, Bool.true_and, Bool.and_false, Bool.false_and, Option.bind_some, Option.bind_none, Option.map_some, Option.map_none, bind_ite, map_ite, List.map_cons, List.map_nil, List.replicate, List.cons_append, List.nil_append, List.append_nil, List.getElem?_cons_zero, List.getElem?_cons_succ, List.set_cons_zero, List.set_cons_succ, List.length_cons, List.length_nil, Nat.reduceAdd, Nat.reduceLT, Nat.zero_add, Nat.lt_add_one, if_true, if_false, ite_true, ite_false, decide_eq_true_eq, Bool.false_eq_true, reduceCtorEq, reduceIte, Nat.reduceLeDiff, Nat.reduceEqDiff, dEq_fv0, Option.isNone, pure_fv]
    simp only [fv_some, plus_eq (ha x rfl) (hb y rfl), val_fnF, zsF_eq, fzAt, D.fz, wpE, mgE, List.contains_cons, List.contains_nil, Nat.reduceBEq, Bool.or_false, Bool.or_true, Bool.false_or, Bool.true_or, seqF_eq, andThen_nx, andThen_bk, andThen_ct, andThen_rt, retV_rt, retV_nx, nxF, bkF, ctF, rtF, rnF, rmF, stF, exF, put, parF, agF, ifS, forF_eq, flF_nil, flF_cons, flK_nx, flK_ct, flK_bk, flK_rt, tbF, ttF, andF, orF, notF, andV, orV, ifF, chF, b1, b2, bN, clF_val, aNil, aCons, nmF, ownF, cF, fzF, itF, inF, itOf, rng1, rng2, yesF, dTru, dNot, I.isi_non_tuple, I.isi_non_list, I.isi_non_bool, I.isi_non_int, I.isi_non_str, I.isi_bl_tuple, I.isi_bl_list, I.isi_bl_bool, I.isi_bl_int, I.isi_bl_str, I.isi_int_tuple, I.isi_int_list, I.isi_int_bool, I.isi_int_int, I.isi_int_str, I.isi_str_tuple, I.isi_str_list, I.isi_str_bool, I.isi_str_int, I.isi_str_str, I.isi_tup_tuple, I.isi_tup_list, I.isi_tup_bool, I.isi_tup_int, I.isi_tup_str, I.isi_lst_tuple, I.isi_lst_list, I.isi_lst_bool, I.isi_lst_int, I.isi_lst_str, I.isi_scr_tuple, I.isi_scr_list, I.isi_scr_bool, I.isi_scr_int, I.isi_scr_str, dEq_bl, dNe_bl, dIsN_non, dIsN_bl, dIsN_int, dIsN_str, dIsN_tup, dIsN_lst, dAdd_int, dSub_int, dEq_int, dNe_int, dLt_int, dLe_int, dGt_int, dGe_int, dAddI_int, asB_bl, dIx_tup0, dIx_tup1, fLen, fAbs, fInt, fMax2, fMin2, gTupF, gsCons, gsNil, D.pure, D.pures, Bool.not_true, Bool.not_false, Bool.and_true, Bool.true_and, Bool.and_false, Bool.false_and, Option.bind_some, Option.bind_none, Option.map_some, Option.map_none, bind_ite, map_ite, List.map_cons, List.map_nil, List.replicate, List.cons_append, List.nil_append, List.append_nil, List.getElem?_cons_zero, List.getElem?_cons_succ, List.set_cons_zero, List.set_cons_succ, List.length_cons, List.length_nil, Nat.reduceAdd, Nat.reduceLT, Nat.zero_add, Nat.lt_add_one, if_true, if_false, ite_true, ite_false, decide_eq_true_eq, Bool.false_eq_true, reduceCtorEq, reduceIte, Nat.reduceLeDiff, Nat.reduceEqDiff]
    rfl
theorem minT_Sm {x f : T} (hx : Sm x) (hf : Sm f) : Sm (if tlt x f = true then x else f) := by split <;> assumption
theorem least_eq {o : Bool} {ts : List T} (h : ∀ t ∈ ts, Sm t) : val F_least [.lst o (ts.map fv)] = some (fv (minL ts)) := by
  obtain ⟨_, j, e⟩ := flF_keep (FT := put 2) (FB := L_least_1) fv (fun (s : T) (j : Option D) => [some (.lst false (ts.map fv)), some (fv s), j]) (fun f x => if tlt x f = true then x else f) Sm ts none none (fun _ h => by cases h)
    fun s j y hy hs => ⟨minT_Sm (h y hy) hs, some (fv y), by
      simp only [val_fnF, zsF_eq, fzAt, D.fz, wpE, mgE, List.contains_cons, List.contains_nil, Nat.reduceBEq, Bool.or_false, Bool.or_true, Bool.false_or, Bool.true_or, seqF_eq, andThen_nx, andThen_bk, andThen_ct, andThen_rt, retV_rt, retV_nx, nxF, bkF, ctF, rtF, rnF, rmF, stF, exF, put, parF, agF, ifS, forF_eq, flF_nil, flF_cons, flK_nx, flK_ct, flK_bk, flK_rt, tbF, ttF, andF, orF, notF, andV, orV, ifF, chF, b1, b2, bN, clF_val, aNil, aCons, nmF, ownF, cF, fzF, itF, inF, itOf, rng1, rng2, yesF, dTru, dNot, I.isi_non_tuple, I.isi_non_list, I.isi_non_bool, I.isi_non_int, I.isi_non_str, I.isi_bl_tuple, I.isi_bl_list, I.isi_bl_bool, I.isi_bl_int, I.isi_bl_str, I.isi_int_tuple, I.isi_int_list, I.isi_int_bool, I.isi_int_int, I.isi_int_str, I.isi_str_tuple, I.isi_str_list, I.isi_str_bool, I.isi_str_int, I.isi_str_str, I.isi_tup_tuple, I.isi_tup_list, I.isi_tup_bool, I.isi_tup_int, I.isi_tup_str, I.isi_lst_tuple, I.isi_lst_list, I.isi_lst_bool, I.isi_lst_int, I.isi_lst_str, I.isi_scr_tuple, I.isi_scr_list, I.isi_scr_bool, I.isi_scr_int, I.isi_scr_str, dEq_bl, dNe_bl, dIsN_non, dIsN_bl, dIsN_int, dIsN_str, dIsN_tup, dIsN_lst, dAdd_int, dSub_int, dEq_int, dNe_int, dLt_int, dLe_int, dGt_int, dGe_int, dAddI_int, asB_bl, dIx_tup0, dIx_tup1, fLen, fAbs, fInt, fMax2, fMin2, gTupF, gsCons, gsNil, D.pure, D.pures, Bool.not_true, Bool.not_false, Bool.and_true, Bool.true_and, Bool.and_false, Bool.false_and, Option.bind_some, Option.bind_none, Option.map_some, Option.map_none, bind_ite, map_ite, List.map_cons, List.map_nil, List.replicate, List.cons_append, List.nil_append, List.append_nil, List.getElem?_cons_zero, List.getElem?_cons_succ, List.set_cons_zero, List.set_cons_succ, List.length_cons, List.length_nil, Nat.reduceAdd, Nat.reduceLT, Nat.zero_add, Nat.lt_add_one, if_true, if_false, ite_true, ite_false, decide_eq_true_eq, Bool.false_eq_true, reduceCtorEq, reduceIte, Nat.reduceLeDiff, Nat.reduceEqDiff, L_least_1, pure_fv, compare_eq (h y hy) hs, cmpT_lt]
      cases tlt y s <;> simp [val_fnF, zsF_eq, fzAt, D.fz, wpE, mgE, List.contains_cons, List.contains_nil, Nat.reduceBEq, Bool.or_false, Bool.or_true, Bool.false_or, Bool.true_or, seqF_eq, andThen_nx, andThen_bk, andThen_ct, andThen_rt, retV_rt, retV_nx, nxF, bkF, ctF, rtF, rnF, rmF, stF, exF, put, parF, agF, ifS, forF_eq, flF_nil, flF_cons, flK_nx, flK_ct, flK_bk, flK_rt, tbF, ttF, andF, orF, notF, andV, orV, ifF, chF, b1, b2, bN, clF_val, aNil, aCons, nmF, ownF, cF, fzF, itF, inF, itOf, rng1, rng2, yesF, dTru, dNot, I.isi_non_tuple, I.isi_non_list, I.isi_non_bool, I.isi_non_int, I.isi_non_str, I.isi_bl_tuple, I.isi_bl_list, I.isi_bl_bool, I.isi_bl_int, I.isi_bl_str, I.isi_int_tuple, I.isi_int_list, I.isi_int_bool, I.isi_int_int, I.isi_int_str, I.isi_str_tuple, I.isi_str_list, I.isi_str_bool, I.isi_str_int, I.isi_str_str, I.isi_tup_tuple, I.isi_tup_list, I.isi_tup_bool, I.isi_tup_int, I.isi_tup_str, I.isi_lst_tuple, I.isi_lst_list, I.isi_lst_bool, I.isi_lst_int, I.isi_lst_str, I.isi_scr_tuple, I.isi_scr_list, I.isi_scr_bool, I.isi_scr_int, I.isi_scr_str, dEq_bl, dNe_bl, dIsN_non, dIsN_bl, dIsN_int, dIsN_str, dIsN_tup, dIsN_lst, dAdd_int, dSub_int, dEq_int, dNe_int, dLt_int, dLe_int, dGt_int, dGe_int, dAddI_int, asB_bl, dIx_tup0, dIx_tup1, fLen, fAbs, fInt, fMax2, fMin2, gTupF, gsCons, gsNil, D.pure, D.pures, Bool.not_true, Bool.not_false, Bool.and_true, Bool.true_and, Bool.and_false, Bool.false_and, Option.bind_some, Option.bind_none, Option.map_some, Option.map_none, bind_ite, map_ite, List.map_cons, List.map_nil, List.replicate, List.cons_append, List.nil_append, List.append_nil, List.getElem?_cons_zero, List.getElem?_cons_succ, List.set_cons_zero, List.set_cons_succ, List.length_cons, List.length_nil, Nat.reduceAdd, Nat.reduceLT, Nat.zero_add, Nat.lt_add_one, if_true, if_false, ite_true, ite_false, decide_eq_true_eq, Bool.false_eq_true, reduceCtorEq, reduceIte, Nat.reduceLeDiff, Nat.reduceEqDiff, pure_fv]⟩
  simp only [F_least, g_INFINITE, val_fnF, zsF_eq, fzAt, D.fz, wpE, mgE, List.contains_cons, List.contains_nil, Nat.reduceBEq, Bool.or_false, Bool.or_true, Bool.false_or, Bool.true_or, seqF_eq, andThen_nx, andThen_bk, andThen_ct, andThen_rt, retV_rt, retV_nx, nxF, bkF, ctF, rtF, rnF, rmF, stF, exF, put, parF, agF, ifS, forF_eq, flF_nil, flF_cons, flK_nx, flK_ct, flK_bk, flK_rt, tbF, ttF, andF, orF, notF, andV, orV, ifF, chF, b1, b2, bN, clF_val, aNil, aCons, nmF, ownF, cF, fzF, itF, inF, itOf, rng1, rng2, yesF, dTru, dNot, I.isi_non_tuple, I.isi_non_list, I.isi_non_bool, I.isi_non_int, I.isi_non_str, I.isi_bl_tuple, I.isi_bl_list, I.isi_bl_bool, I.isi_bl_int, I.isi_bl_str, I.isi_int_tuple, I.isi_int_list, I.isi_int_bool, I.isi_int_int, I.isi_int_str, I.isi_str_tuple, I.isi_str_list, I.isi_str_bool, I.isi_str_int, I.isi_str_str, I.isi_tup_tuple, I.isi_tup_list, I.isi_tup_bool, I.isi_tup_int, I.isi_tup_str, I.isi_lst_tuple, I.isi_lst_list, I.isi_lst_bool, I.isi_lst_int, I.isi_lst_str, I.isi_scr_tuple, I.isi_scr_list, I.isi_scr_bool, I.isi_scr_int, I.isi_scr_str, dEq_bl, dNe_bl, dIsN_non, dIsN_bl, dIsN_int, dIsN_str, dIsN_tup, dIsN_lst, dAdd_int, dSub_int, dEq_int, dNe_int, dLt_int, dLe_int, dGt_int, dGe_int, dAddI_int, asB_bl, dIx_tup0, dIx_tup1, fLen, fAbs, fInt, fMax2, fMin2, gTupF, gsCons, gsNil, D.pure, D.pures, Bool.not_true, Bool.not_false, Bool.and_true, Bool.true_and, Bool.and_false, Bool.false_and, Option.bind_some, Option.bind_none, Option.map_some, Option.map_none, bind_ite, map_ite, List.map_cons, List.map_nil, List.replicate, List.cons_append, List.nil_append, List.append_nil, List.getElem?_cons_zero, List.getElem?_cons_succ, List.set_cons_zero, List.set_cons_succ, List.length_cons, List.length_nil, Nat.reduceAdd, Nat.reduceLT, Nat.zero_add, Nat.lt_add_one, if_true, if_false, ite_true, ite_false, decide_eq_true_eq, Bool.false_eq_true, reduceCtorEq, reduceIte, Nat.reduceLeDiff, Nat.reduceEqDiff, D.fz, fzs_fv]
  rw [fv_none] at e
  simp only [e, val_fnF, zsF_eq, fzAt, D.fz, wpE, mgE, List.contains_cons, List.contains_nil, Nat.reduceBEq, Bool.or_false, Bool.or_true, Bool.false_or, Bool.true_or, seqF_eq, andThen_nx, andThen_bk, andThen_ct, andThen_rt, retV_rt, retV_nx, nxF, bkF, ctF, rtF, rnF, rmF, stF, exF, put, parF, agF, ifS, forF_eq, flF_nil, flF_cons, flK_nx, flK_ct, flK_bk, flK_rt, tbF, ttF, andF, orF, notF, andV, orV, ifF, chF, b1, b2, bN, clF_val, aNil, aCons, nmF, ownF, cF, fzF, itF, inF, itOf, rng1, rng2, yesF, dTru, dNot, I.isi_non_tuple, I.isi_non_list, I.isi_non_bool, I.isi_non_int, I.isi_non_str, I.isi_bl_tuple, I.isi_bl_list, I.isi_bl_bool, I.isi_bl_int, I.isi_bl_str, I.isi_int_tuple, I.isi_int_list, I.isi_int_bool, I.isi_int_int, I.isi_int_str, I.isi_str_tuple, I.isi_str_list, I.isi_str_bool, I.isi_str_int, I.isi_str_str, I.isi_tup_tuple, I.isi_tup_list, I.isi_tup_bool, I.isi_tup_int, I.isi_tup_str, I.isi_lst_tuple, I.isi_lst_list, I.isi_lst_bool, I.isi_lst_int, I.isi_lst_str, I.isi_scr_tuple, I.isi_scr_list, I.isi_scr_bool, I.isi_scr_int, I.isi_scr_str, dEq_bl, dNe_bl, dIsN_non, dIsN_bl, dIsN_int, dIsN_str, dIsN_tup, dIsN_lst, dAdd_int, dSub_int, dEq_int, dNe_int, dLt_int, dLe_int, dGt_int, dGe_int, dAddI_int, asB_bl, dIx_tup0, dIx_tup1, fLen, fAbs, fInt, fMax2, fMin2, gTupF, gsCons, gsNil, D.pure, D.pures, Bool.not_true, Bool.not_false, Bool.and_true, Bool.true_and, Bool.and_false, Bool.false_and, Option.bind_some, Option.bind_none, Option.map_some, Option.map_none, bind_ite, map_ite, List.map_cons, List.map_nil, List.replicate, List.cons_append, List.nil_append, List.append_nil, List.getElem?_cons_zero, List.getElem?_cons_succ, List.set_cons_zero, List.set_cons_succ, List.length_cons, List.length_nil, Nat.reduceAdd, Nat.reduceLT, Nat.zero_add, Nat.lt_add_one, if_true, if_false, ite_true, ite_false, decide_eq_true_eq, Bool.false_eq_true, reduceCtorEq, reduceIte, Nat.reduceLeDiff, Nat.reduceEqDiff, pure_fv]
  rfl
end
end G33

set_option Elab.async false
set_option linter.all false
set_option maxRecDepth 100000
set_option maxHeartbeats 1000000
namespace G33
open PySem L2 Pz
noncomputable section
/-! numbers: the law's own functions -/
theorem lcd_c (x y : Nat) (o : Option D) : C__law_gcd_1 [some (.int x), some (.int y), o] = some (decide (0 < y), [some (.int x), some (.int y), o]) := by
  simp only [C__law_gcd_1, val_fnF, zsF_eq, fzAt, D.fz, wpE, mgE, List.contains_cons, List.contains_nil, Nat.reduceBEq, Bool.or_false, Bool.or_true, Bool.false_or, Bool.true_or, seqF_eq, andThen_nx, andThen_bk, andThen_ct, andThen_rt, retV_rt, retV_nx, nxF, bkF, ctF, rtF, rnF, rmF, stF, exF, put, parF, agF, ifS, forF_eq, flF_nil, flF_cons, flK_nx, flK_ct, flK_bk, flK_rt, tbF, ttF, andF, orF, notF, andV, orV, ifF, chF, b1, b2, bN, clF_val, aNil, aCons, nmF, ownF, cF, fzF, itF, inF, itOf, rng1, rng2, yesF, dTru, dNot, I.isi_non_tuple, I.isi_non_list, I.isi_non_bool, I.isi_non_int, I.isi_non_str, I.isi_bl_tuple, I.isi_bl_list, I.isi_bl_bool, I.isi_bl_int, I.isi_bl_str, I.isi_int_tuple, I.isi_int_list, I.isi_int_bool, I.isi_int_int, I.isi_int_str, I.isi_str_tuple, I.isi_str_list, I.isi_str_bool, I.isi_str_int, I.isi_str_str, I.isi_tup_tuple, I.isi_tup_list, I.isi_tup_bool, I.isi_tup_int, I.isi_tup_str, I.isi_lst_tuple, I.isi_lst_list, I.isi_lst_bool, I.isi_lst_int, I.isi_lst_str, I.isi_scr_tuple, I.isi_scr_list, I.isi_scr_bool, I.isi_scr_int, I.isi_scr_str, dEq_bl, dNe_bl, dIsN_non, dIsN_bl, dIsN_int, dIsN_str, dIsN_tup, dIsN_lst, dAdd_int, dSub_int, dEq_int, dNe_int, dLt_int, dLe_int, dGt_int, dGe_int, dAddI_int, asB_bl, dIx_tup0, dIx_tup1, fLen, fAbs, fInt, fMax2, fMin2, gTupF, gsCons, gsNil, D.pure, D.pures, Bool.not_true, Bool.not_false, Bool.and_true, Bool.true_and, Bool.and_false, Bool.false_and, Option.bind_some, Option.bind_none, Option.map_some, Option.map_none, bind_ite, map_ite, List.map_cons, List.map_nil, List.replicate, List.cons_append, List.nil_append, List.append_nil, List.getElem?_cons_zero, List.getElem?_cons_succ, List.set_cons_zero, List.set_cons_succ, List.length_cons, List.length_nil, Nat.reduceAdd, Nat.reduceLT, Nat.zero_add, Nat.lt_add_one, if_true, if_false, ite_true, ite_false, decide_eq_true_eq, Bool.false_eq_true, reduceCtorEq, reduceIte, Nat.reduceLeDiff, Nat.reduceEqDiff]
  by_cases h : 0 < y
  · have : (0 : Int) < y := by omega
    simp only [h, this, val_fnF, zsF_eq, fzAt, D.fz, wpE, mgE, List.contains_cons, List.contains_nil, Nat.reduceBEq, Bool.or_false, Bool.or_true, Bool.false_or, Bool.true_or, seqF_eq, andThen_nx, andThen_bk, andThen_ct, andThen_rt, retV_rt, retV_nx, nxF, bkF, ctF, rtF, rnF, rmF, stF, exF, put, parF, agF, ifS, forF_eq, flF_nil, flF_cons, flK_nx, flK_ct, flK_bk, flK_rt, tbF, ttF, andF, orF, notF, andV, orV, ifF, chF, b1, b2, bN, clF_val, aNil, aCons, nmF, ownF, cF, fzF, itF, inF, itOf, rng1, rng2, yesF, dTru, dNot, I.isi_non_tuple, I.isi_non_list, I.isi_non_bool, I.isi_non_int, I.isi_non_str, I.isi_bl_tuple, I.isi_bl_list, I.isi_bl_bool, I.isi_bl_int, I.isi_bl_str, I.isi_int_tuple, I.isi_int_list, I.isi_int_bool, I.isi_int_int, I.isi_int_str, I.isi_str_tuple, I.isi_str_list, I.isi_str_bool, I.isi_str_int, I.isi_str_str, I.isi_tup_tuple, I.isi_tup_list, I.isi_tup_bool, I.isi_tup_int, I.isi_tup_str, I.isi_lst_tuple, I.isi_lst_list, I.isi_lst_bool, I.isi_lst_int, I.isi_lst_str, I.isi_scr_tuple, I.isi_scr_list, I.isi_scr_bool, I.isi_scr_int, I.isi_scr_str, dEq_bl, dNe_bl, dIsN_non, dIsN_bl, dIsN_int, dIsN_str, dIsN_tup, dIsN_lst, dAdd_int, dSub_int, dEq_int, dNe_int, dLt_int, dLe_int, dGt_int, dGe_int, dAddI_int, asB_bl, dIx_tup0, dIx_tup1, fLen, fAbs, fInt, fMax2, fMin2, gTupF, gsCons, gsNil, D.pure, D.pures, Bool.not_true, Bool.not_false, Bool.and_true, Bool.true_and, Bool.and_false, Bool.false_and, Option.bind_some, Option.bind_none, Option.map_some, Option.map_none, bind_ite, map_ite, List.map_cons, List.map_nil, List.replicate, List.cons_append, List.nil_append, List.append_nil, List.getElem?_cons_zero, List.getElem?_cons_succ, List.set_cons_zero, List.set_cons_succ, List.length_cons, List.length_nil, Nat.reduceAdd, Nat.reduceLT, Nat.zero_add, Nat.lt_add_one, if_true, if_false, ite_true, ite_false, decide_eq_true_eq, Bool.false_eq_true, reduceCtorEq, reduceIte, Nat.reduceLeDiff, Nat.reduceEqDiff, decide_true]
  · have : ¬ (0 : Int) < y := by omega
    simp only [h, this, val_fnF, zsF_eq, fzAt, D.fz, wpE, mgE, List.contains_cons, List.contains_nil, Nat.reduceBEq, Bool.or_false, Bool.or_true, Bool.false_or, Bool.true_or, seqF_eq, andThen_nx, andThen_bk, andThen_ct, andThen_rt, retV_rt, retV_nx, nxF, bkF, ctF, rtF, rnF, rmF, stF, exF, put, parF, agF, ifS, forF_eq, flF_nil, flF_cons, flK_nx, flK_ct, flK_bk, flK_rt, tbF, ttF, andF, orF, notF, andV, orV, ifF, chF, b1, b2, bN, clF_val, aNil, aCons, nmF, ownF, cF, fzF, itF, inF, itOf, rng1, rng2, yesF, dTru, dNot, I.isi_non_tuple, I.isi_non_list, I.isi_non_bool, I.isi_non_int, I.isi_non_str, I.isi_bl_tuple, I.isi_bl_list, I.isi_bl_bool, I.isi_bl_int, I.isi_bl_str, I.isi_int_tuple, I.isi_int_list, I.isi_int_bool, I.isi_int_int, I.isi_int_str, I.isi_str_tuple, I.isi_str_list, I.isi_str_bool, I.isi_str_int, I.isi_str_str, I.isi_tup_tuple, I.isi_tup_list, I.isi_tup_bool, I.isi_tup_int, I.isi_tup_str, I.isi_lst_tuple, I.isi_lst_list, I.isi_lst_bool, I.isi_lst_int, I.isi_lst_str, I.isi_scr_tuple, I.isi_scr_list, I.isi_scr_bool, I.isi_scr_int, I.isi_scr_str, dEq_bl, dNe_bl, dIsN_non, dIsN_bl, dIsN_int, dIsN_str, dIsN_tup, dIsN_lst, dAdd_int, dSub_int, dEq_int, dNe_int, dLt_int, dLe_int, dGt_int, dGe_int, dAddI_int, asB_bl, dIx_tup0, dIx_tup1, fLen, fAbs, fInt, fMax2, fMin2, gTupF, gsCons, gsNil, D.pure, D.pures, Bool.not_true, Bool.not_false, Bool.and_true, Bool.true_and, Bool.and_false, Bool.false_and, Option.bind_some, Option.bind_none, Option.map_some, Option.map_none, bind_ite, map_ite, List.map_cons, List.map_nil, List.replicate, List.cons_append, List.nil_append, List.append_nil, List.getElem?_cons_zero, List.getElem?_cons_succ, List.set_cons_zero, List.set_cons_succ, List.length_cons, List.length_nil, Nat.reduceAdd, Nat.reduceLT, Nat.zero_add, Nat.lt_add_one, if_true, if_false, ite_true, ite_false, decide_eq_true_eq, Bool.false_eq_true, reduceCtorEq, reduceIte, Nat.reduceLeDiff, Nat.reduceEqDiff, decide_false]
theorem lcd_b {x y : Nat} (o : Option D) (h : 0 < y) : L__law_gcd_1 [some (.int x), some (.int y), o] = some (.nx, [some (.int y), some (.int (x % y : Nat)), some (.int (x % y : Nat))]) := by
  simp only [L__law_gcd_1, val_fnF, zsF_eq, fzAt, D.fz, wpE, mgE, List.contains_cons, List.contains_nil, Nat.reduceBEq, Bool.or_false, Bool.or_true, Bool.false_or, Bool.true_or, seqF_eq, andThen_nx, andThen_bk, andThen_ct, andThen_rt, retV_rt, retV_nx, nxF, bkF, ctF, rtF, rnF, rmF, stF, exF, put, parF, agF, ifS, forF_eq, flF_nil, flF_cons, flK_nx, flK_ct, flK_bk, flK_rt, tbF, ttF, andF, orF, notF, andV, orV, ifF, chF, b1, b2, bN, clF_val, aNil, aCons, nmF, ownF, cF, fzF, itF, inF, itOf, rng1, rng2, yesF, dTru, dNot, I.isi_non_tuple, I.isi_non_list, I.isi_non_bool, I.isi_non_int, I.isi_non_str, I.isi_bl_tuple, I.isi_bl_list, I.isi_bl_bool, I.isi_bl_int, I.isi_bl_str, I.isi_int_tuple, I.isi_int_list, I.isi_int_bool, I.isi_int_int, I.isi_int_str, I.isi_str_tuple, I.isi_str_list, I.isi_str_bool, I.isi_str_int, I.isi_str_str, I.isi_tup_tuple, I.isi_tup_list, I.isi_tup_bool, I.isi_tup_int, I.isi_tup_str, I.isi_lst_tuple, I.isi_lst_list, I.isi_lst_bool, I.isi_lst_int, I.isi_lst_str, I.isi_scr_tuple, I.isi_scr_list, I.isi_scr_bool, I.isi_scr_int, I.isi_scr_str, dEq_bl, dNe_bl, dIsN_non, dIsN_bl, dIsN_int, dIsN_str, dIsN_tup, dIsN_lst, dAdd_int, dSub_int, dEq_int, dNe_int, dLt_int, dLe_int, dGt_int, dGe_int, dAddI_int, asB_bl, dIx_tup0, dIx_tup1, fLen, fAbs, fInt, fMax2, fMin2, gTupF, gsCons, gsNil, D.pure, D.pures, Bool.not_true, Bool.not_false, Bool.and_true, Bool.true_and, Bool.and_false, Bool.false_and, Option.bind_some, Option.bind_none, Option.map_some, Option.map_none, bind_ite, map_ite, List.map_cons, List.map_nil, List.replicate, List.cons_append, List.nil_append, List.append_nil, List.getElem?_cons_zero, List.getElem?_cons_succ, List.set_cons_zero, List.set_cons_succ, List.length_cons, List.length_nil, Nat.reduceAdd, Nat.reduceLT, Nat.zero_add, Nat.lt_add_one, if_true, if_false, ite_true, ite_false, decide_eq_true_eq, Bool.false_eq_true, reduceCtorEq, reduceIte, Nat.reduceLeDiff, Nat.reduceEqDiff, dMod_pos (show (0 : Int) < (y : Int) by omega), Int.natCast_emod]
theorem lcd_loop : ∀ (n x y : Nat) (o : Option D), y ≤ n → ∃ o', whF C__law_gcd_1 L__law_gcd_1 [some (.int x), some (.int y), o] = some (.nx, [some (.int (Nat.gcd x y : Nat)), some (.int 0), o'])
  | n, x, 0, o, _ => ⟨o, by
    rw [whF_done (lcd_c x 0 o)]; simp⟩
  | 0, x, y + 1, o, h => by omega
  | n + 1, x, y + 1, o, h => by
    have hm := Nat.mod_lt x (show 0 < y + 1 by omega)
    obtain ⟨o', e⟩ := lcd_loop n (y + 1) (x % (y + 1)) (some (.int (x % (y + 1) : Nat))) (by omega)
    refine ⟨o', ?_⟩
    rw [whF_turn (by rw [lcd_c, decide_eq_true (by omega)]) (lcd_b o (by omega)) e]
    rw [Nat.gcd_comm (y + 1), ← Nat.gcd_rec, Nat.gcd_comm]
theorem lgcd_eq (a b : Int) : val F__law_gcd [.int a, .int b] = some (.int (Int.gcd a b : Nat)) := by
  have e1 : (if a < 0 then -a else a) = (a.natAbs : Int) := by split <;> omega
  have e2 : (if b < 0 then -b else b) = (b.natAbs : Int) := by split <;> omega
  obtain ⟨o', e⟩ := lcd_loop b.natAbs a.natAbs b.natAbs none (Nat.le_refl _)
  simp only [F__law_gcd, val_fnF, zsF_eq, fzAt, D.fz, wpE, mgE, List.contains_cons, List.contains_nil, Nat.reduceBEq, Bool.or_false, Bool.or_true, Bool.false_or, Bool.true_or, seqF_eq, andThen_nx, andThen_bk, andThen_ct, andThen_rt, retV_rt, retV_nx, nxF, bkF, ctF, rtF, rnF, rmF, stF, exF, put, parF, agF, ifS, forF_eq, flF_nil, flF_cons, flK_nx, flK_ct, flK_bk, flK_rt, tbF, ttF, andF, orF, notF, andV, orV, ifF, chF, b1, b2, bN, clF_val, aNil, aCons, nmF, ownF, cF, fzF, itF, inF, itOf, rng1, rng2, yesF, dTru, dNot, I.isi_non_tuple, I.isi_non_list, I.isi_non_bool, I.isi_non_int, I.isi_non_str, I.isi_bl_tuple, I.isi_bl_list, I.isi_bl_bool, I.isi_bl_int, I.isi_bl_str, I.isi_int_tuple, I.isi_int_list, I.isi_int_bool, I.isi_int_int, I.isi_int_str, I.isi_str_tuple, I.isi_str_list, I.isi_str_bool, I.isi_str_int, I.isi_str_str, I.isi_tup_tuple, I.isi_tup_list, I.isi_tup_bool, I.isi_tup_int, I.isi_tup_str, I.isi_lst_tuple, I.isi_lst_list, I.isi_lst_bool, I.isi_lst_int, I.isi_lst_str, I.isi_scr_tuple, I.isi_scr_list, I.isi_scr_bool, I.isi_scr_int, I.isi_scr_str, dEq_bl, dNe_bl, dIsN_non, dIsN_bl, dIsN_int, dIsN_str, dIsN_tup, dIsN_lst, dAdd_int, dSub_int, dEq_int, dNe_int, dLt_int, dLe_int, dGt_int, dGe_int, dAddI_int, asB_bl, dIx_tup0, dIx_tup1, fLen, fAbs, fInt, fMax2, fMin2, gTupF, gsCons, gsNil, D.pure, D.pures, Bool.not_true, Bool.not_false, Bool.and_true, Bool.true_and, Bool.and_false, Bool.false_and, Option.bind_some, Option.bind_none, Option.map_some, Option.map_none, bind_ite, map_ite, List.map_cons, List.map_nil, List.replicate, List.cons_append, List.nil_append, List.append_nil, List.getElem?_cons_zero, List.getElem?_cons_succ, List.set_cons_zero, List.set_cons_succ, List.length_cons, List.length_nil, Nat.reduceAdd, Nat.reduceLT, Nat.zero_add, Nat.lt_add_one, if_true, if_false, ite_true, ite_false, decide_eq_true_eq, Bool.false_eq_true, reduceCtorEq, reduceIte, Nat.reduceLeDiff, Nat.reduceEqDiff, e1, e2, e]
  rfl
theorem lfrac_eq {a b : Int} (hb : b ≠ 0) (hs : b.natAbs < 2 ^ 9000) : val F__law_frac [.int a, .int b] = some (fr (Rat.divInt a b)) := by
  have hg := gcd_pos (a := a) hb
  have hl := gcd_le (a := a) hb
  have d1 : divOk (Int.gcd a b : Int) = true := divOk_of (b := 9000) (by omega) (by omega)
  obtain ⟨a1, a2⟩ := fdiv_gcd hg (Int.gcd_dvd_left a b)
  obtain ⟨p1, p2⟩ := fdiv_gcd hg (Int.gcd_dvd_right a b)
  obtain ⟨a3, _⟩ := fdiv_gcd hg (Int.dvd_neg.mpr (Int.gcd_dvd_left a b))
  obtain ⟨p3, _⟩ := fdiv_gcd hg (Int.dvd_neg.mpr (Int.gcd_dvd_right a b))
  rw [fr_divInt hb]
  simp only [F__law_frac, val_fnF, zsF_eq, fzAt, D.fz, wpE, mgE, List.contains_cons, List.contains_nil, Nat.reduceBEq, Bool.or_false, Bool.or_true, Bool.false_or, Bool.true_or, seqF_eq, andThen_nx, andThen_bk, andThen_ct, andThen_rt, retV_rt, retV_nx, nxF, bkF, ctF, rtF, rnF, rmF, stF, exF, put, parF, agF, ifS, forF_eq, flF_nil, flF_cons, flK_nx, flK_ct, flK_bk, flK_rt, tbF, ttF, andF, orF, notF, andV, orV, ifF, chF, b1, b2, bN, clF_val, aNil, aCons, nmF, ownF, cF, fzF, itF, inF, itOf, rng1, rng2, yesF, dTru, dNot, I.isi_non_tuple, I.isi_non_list, I.isi_non_bool, I.isi_non_int, I.isi_non_str, I.isi_bl_tuple, I.isi_bl_list, I.isi_bl_bool, I.isi_bl_int, I.isi_bl_str, I.isi_int_tuple, I.isi_int_list, I.isi_int_bool, I.isi_int_int, I.isi_int_str, I.isi_str_tuple, I.isi_str_list, I.isi_str_bool, I.isi_str_int, I.isi_str_str, I.isi_tup_tuple, I.isi_tup_list, I.isi_tup_bool, I.isi_tup_int, I.isi_tup_str, I.isi_lst_tuple, I.isi_lst_list, I.isi_lst_bool, I.isi_lst_int, I.isi_lst_str, I.isi_scr_tuple, I.isi_scr_list, I.isi_scr_bool, I.isi_scr_int, I.isi_scr_str, dEq_bl, dNe_bl, dIsN_non, dIsN_bl, dIsN_int, dIsN_str, dIsN_tup, dIsN_lst, dAdd_int, dSub_int, dEq_int, dNe_int, dLt_int, dLe_int, dGt_int, dGe_int, dAddI_int, asB_bl, dIx_tup0, dIx_tup1, fLen, fAbs, fInt, fMax2, fMin2, gTupF, gsCons, gsNil, D.pure, D.pures, Bool.not_true, Bool.not_false, Bool.and_true, Bool.true_and, Bool.and_false, Bool.false_and, Option.bind_some, Option.bind_none, Option.map_some, Option.map_none, bind_ite, map_ite, List.map_cons, List.map_nil, List.replicate, List.cons_append, List.nil_append, List.append_nil, List.getElem?_cons_zero, List.getElem?_cons_succ, List.set_cons_zero, List.set_cons_succ, List.length_cons, List.length_nil, Nat.reduceAdd, Nat.reduceLT, Nat.zero_add, Nat.lt_add_one, if_true, if_false, ite_true, ite_false, decide_eq_true_eq, Bool.false_eq_true, reduceCtorEq, reduceIte, Nat.reduceLeDiff, Nat.reduceEqDiff, lgcd_eq]
  by_cases h : b < 0
  · have h' : ¬ 0 < b := by omega
    simp only [h, h', decide_true, decide_false, val_fnF, zsF_eq, fzAt, D.fz, wpE, mgE, List.contains_cons, List.contains_nil, Nat.reduceBEq, Bool.or_false, Bool.or_true, Bool.false_or, Bool.true_or, seqF_eq, andThen_nx, andThen_bk, andThen_ct, andThen_rt, retV_rt, retV_nx, nxF, bkF, ctF, rtF, rnF, rmF, stF, exF, put, parF, agF, ifS, forF_eq, flF_nil, flF_cons, flK_nx, flK_ct, flK_bk, flK_rt, tbF, ttF, andF, orF, notF, andV, orV, ifF, chF, b1, b2, bN, clF_val, aNil, aCons, nmF, ownF, cF, fzF, itF, inF, itOf, rng1, rng2, yesF, dTru, dNot, I.isi_non_tuple, I.isi_non_list, I.isi_non_bool, I.isi_non_int, I.isi_non_str, I.isi_bl_tuple, I.isi_bl_list, I.isi_bl_bool, I.isi_bl_int, I.isi_bl_str, I.isi_int_tuple, I.isi_int_list, I.isi_int_bool, I.isi_int_int, I.isi_int_str, I.isi_str_tuple, I.isi_str_list, I.isi_str_bool, I.isi_str_int, I.isi_str_str, I.isi_tup_tuple, I.isi_tup_list, I.isi_tup_bool, I.isi_tup_int, I.isi_tup_str, I.isi_lst_tuple, I.isi_lst_list, I.isi_lst_bool, I.isi_lst_int, I.isi_lst_str, I.isi_scr_tuple, I.isi_scr_list, I.isi_scr_bool, I.isi_scr_int, I.isi_scr_str, dEq_bl, dNe_bl, dIsN_non, dIsN_bl, dIsN_int, dIsN_str, dIsN_tup, dIsN_lst, dAdd_int, dSub_int, dEq_int, dNe_int, dLt_int, dLe_int, dGt_int, dGe_int, dAddI_int, asB_bl, dIx_tup0, dIx_tup1, fLen, fAbs, fInt, fMax2, fMin2, gTupF, gsCons, gsNil, D.pure, D.pures, Bool.not_true, Bool.not_false, Bool.and_true, Bool.true_and, Bool.and_false, Bool.false_and, Option.bind_some, Option.bind_none, Option.map_some, Option.map_none, bind_ite, map_ite, List.map_cons, List.map_nil, List.replicate, List.cons_append, List.nil_append, List.append_nil, List.getElem?_cons_zero, List.getElem?_cons_succ, List.set_cons_zero, List.set_cons_succ, List.length_cons, List.length_nil, Nat.reduceAdd, Nat.reduceLT, Nat.zero_add, Nat.lt_add_one, if_true, if_false, ite_true, ite_false, decide_eq_true_eq, Bool.false_eq_true, reduceCtorEq, reduceIte, Nat.reduceLeDiff, Nat.reduceEqDiff, dNeg, dDiv, d1, dTup_le (show [D.int ((-a).fdiv (Int.gcd a b : Int)), .int ((-b).fdiv (Int.gcd a b : Int))].length ≤ 16777216 by simp)]
    rw [a3, p3, a2, p2, Int.neg_ediv_of_dvd (Int.gcd_dvd_left a b), Int.neg_ediv_of_dvd (Int.gcd_dvd_right a b)]
  · have h' : 0 < b := by omega
    simp only [h, h', decide_true, decide_false, val_fnF, zsF_eq, fzAt, D.fz, wpE, mgE, List.contains_cons, List.contains_nil, Nat.reduceBEq, Bool.or_false, Bool.or_true, Bool.false_or, Bool.true_or, seqF_eq, andThen_nx, andThen_bk, andThen_ct, andThen_rt, retV_rt, retV_nx, nxF, bkF, ctF, rtF, rnF, rmF, stF, exF, put, parF, agF, ifS, forF_eq, flF_nil, flF_cons, flK_nx, flK_ct, flK_bk, flK_rt, tbF, ttF, andF, orF, notF, andV, orV, ifF, chF, b1, b2, bN, clF_val, aNil, aCons, nmF, ownF, cF, fzF, itF, inF, itOf, rng1, rng2, yesF, dTru, dNot, I.isi_non_tuple, I.isi_non_list, I.isi_non_bool, I.isi_non_int, I.isi_non_str, I.isi_bl_tuple, I.isi_bl_list, I.isi_bl_bool, I.isi_bl_int, I.isi_bl_str, I.isi_int_tuple, I.isi_int_list, I.isi_int_bool, I.isi_int_int, I.isi_int_str, I.isi_str_tuple, I.isi_str_list, I.isi_str_bool, I.isi_str_int, I.isi_str_str, I.isi_tup_tuple, I.isi_tup_list, I.isi_tup_bool, I.isi_tup_int, I.isi_tup_str, I.isi_lst_tuple, I.isi_lst_list, I.isi_lst_bool, I.isi_lst_int, I.isi_lst_str, I.isi_scr_tuple, I.isi_scr_list, I.isi_scr_bool, I.isi_scr_int, I.isi_scr_str, dEq_bl, dNe_bl, dIsN_non, dIsN_bl, dIsN_int, dIsN_str, dIsN_tup, dIsN_lst, dAdd_int, dSub_int, dEq_int, dNe_int, dLt_int, dLe_int, dGt_int, dGe_int, dAddI_int, asB_bl, dIx_tup0, dIx_tup1, fLen, fAbs, fInt, fMax2, fMin2, gTupF, gsCons, gsNil, D.pure, D.pures, Bool.not_true, Bool.not_false, Bool.and_true, Bool.true_and, Bool.and_false, Bool.false_and, Option.bind_some, Option.bind_none, Option.map_some, Option.map_none, bind_ite, map_ite, List.map_cons, List.map_nil, List.replicate, List.cons_append, List.nil_append, List.append_nil, List.getElem?_cons_zero, List.getElem?_cons_succ, List.set_cons_zero, List.set_cons_succ, List.length_cons, List.length_nil, Nat.reduceAdd, Nat.reduceLT, Nat.zero_add, Nat.lt_add_one, if_true, if_false, ite_true, ite_false, decide_eq_true_eq, Bool.false_eq_true, reduceCtorEq, reduceIte, Nat.reduceLeDiff, Nat.reduceEqDiff, dDiv, d1, dTup_le (show [D.int (a.fdiv (Int.gcd a b : Int)), .int (b.fdiv (Int.gcd a b : Int))].length ≤ 16777216 by simp)]
theorem ladd_eq {x y : Rat} (hx : x.den < 2 ^ 64) (hy : y.den < 2 ^ 64) : val F__law_add [fr x, fr y] = some (fr (x + y)) := by
  have m1 : mulOk x.num (y.den : Int) = true := mulOk_r (by simpa using hy)
  have m2 : mulOk y.num (x.den : Int) = true := mulOk_r (by simpa using hx)
  have m3 : mulOk (x.den : Int) (y.den : Int) = true := mulOk_r (by simpa using hy)
  obtain ⟨h1, h2⟩ := den2 hx hy
  simp only [F__law_add, fr_def, val_fnF, zsF_eq, fzAt, D.fz, wpE, mgE, List.contains_cons, List.contains_nil, Nat.reduceBEq, Bool.or_false, Bool.or_true, Bool.false_or, Bool.true_or, seqF_eq, andThen_nx, andThen_bk, andThen_ct, andThen_rt, retV_rt, retV_nx, nxF, bkF, ctF, rtF, rnF, rmF, stF, exF, put, parF, agF, ifS, forF_eq, flF_nil, flF_cons, flK_nx, flK_ct, flK_bk, flK_rt, tbF, ttF, andF, orF, notF, andV, orV, ifF, chF, b1, b2, bN, clF_val, aNil, aCons, nmF, ownF, cF, fzF, itF, inF, itOf, rng1, rng2, yesF, dTru, dNot, I.isi_non_tuple, I.isi_non_list, I.isi_non_bool, I.isi_non_int, I.isi_non_str, I.isi_bl_tuple, I.isi_bl_list, I.isi_bl_bool, I.isi_bl_int, I.isi_bl_str, I.isi_int_tuple, I.isi_int_list, I.isi_int_bool, I.isi_int_int, I.isi_int_str, I.isi_str_tuple, I.isi_str_list, I.isi_str_bool, I.isi_str_int, I.isi_str_str, I.isi_tup_tuple, I.isi_tup_list, I.isi_tup_bool, I.isi_tup_int, I.isi_tup_str, I.isi_lst_tuple, I.isi_lst_list, I.isi_lst_bool, I.isi_lst_int, I.isi_lst_str, I.isi_scr_tuple, I.isi_scr_list, I.isi_scr_bool, I.isi_scr_int, I.isi_scr_str, dEq_bl, dNe_bl, dIsN_non, dIsN_bl, dIsN_int, dIsN_str, dIsN_tup, dIsN_lst, dAdd_int, dSub_int, dEq_int, dNe_int, dLt_int, dLe_int, dGt_int, dGe_int, dAddI_int, asB_bl, dIx_tup0, dIx_tup1, fLen, fAbs, fInt, fMax2, fMin2, gTupF, gsCons, gsNil, D.pure, D.pures, Bool.not_true, Bool.not_false, Bool.and_true, Bool.true_and, Bool.and_false, Bool.false_and, Option.bind_some, Option.bind_none, Option.map_some, Option.map_none, bind_ite, map_ite, List.map_cons, List.map_nil, List.replicate, List.cons_append, List.nil_append, List.append_nil, List.getElem?_cons_zero, List.getElem?_cons_succ, List.set_cons_zero, List.set_cons_succ, List.length_cons, List.length_nil, Nat.reduceAdd, Nat.reduceLT, Nat.zero_add, Nat.lt_add_one, if_true, if_false, ite_true, ite_false, decide_eq_true_eq, Bool.false_eq_true, reduceCtorEq, reduceIte, Nat.reduceLeDiff, Nat.reduceEqDiff, dMul, m1, m2, m3, lfrac_eq h2 h1, add_divInt]
theorem lsub_eq {x y : Rat} (hx : x.den < 2 ^ 64) (hy : y.den < 2 ^ 64) : val F__law_sub [fr x, fr y] = some (fr (x - y)) := by
  have m1 : mulOk x.num (y.den : Int) = true := mulOk_r (by simpa using hy)
  have m2 : mulOk y.num (x.den : Int) = true := mulOk_r (by simpa using hx)
  have m3 : mulOk (x.den : Int) (y.den : Int) = true := mulOk_r (by simpa using hy)
  obtain ⟨h1, h2⟩ := den2 hx hy
  simp only [F__law_sub, fr_def, val_fnF, zsF_eq, fzAt, D.fz, wpE, mgE, List.contains_cons, List.contains_nil, Nat.reduceBEq, Bool.or_false, Bool.or_true, Bool.false_or, Bool.true_or, seqF_eq, andThen_nx, andThen_bk, andThen_ct, andThen_rt, retV_rt, retV_nx, nxF, bkF, ctF, rtF, rnF, rmF, stF, exF, put, parF, agF, ifS, forF_eq, flF_nil, flF_cons, flK_nx, flK_ct, flK_bk, flK_rt, tbF, ttF, andF, orF, notF, andV, orV, ifF, chF, b1, b2, bN, clF_val, aNil, aCons, nmF, ownF, cF, fzF, itF, inF, itOf, rng1, rng2, yesF, dTru, dNot, I.isi_non_tuple, I.isi_non_list, I.isi_non_bool, I.isi_non_int, I.isi_non_str, I.isi_bl_tuple, I.isi_bl_list, I.isi_bl_bool, I.isi_bl_int, I.isi_bl_str, I.isi_int_tuple, I.isi_int_list, I.isi_int_bool, I.isi_int_int, I.isi_int_str, I.isi_str_tuple, I.isi_str_list, I.isi_str_bool, I.isi_str_int, I.isi_str_str, I.isi_tup_tuple, I.isi_tup_list, I.isi_tup_bool, I.isi_tup_int, I.isi_tup_str, I.isi_lst_tuple, I.isi_lst_list, I.isi_lst_bool, I.isi_lst_int, I.isi_lst_str, I.isi_scr_tuple, I.isi_scr_list, I.isi_scr_bool, I.isi_scr_int, I.isi_scr_str, dEq_bl, dNe_bl, dIsN_non, dIsN_bl, dIsN_int, dIsN_str, dIsN_tup, dIsN_lst, dAdd_int, dSub_int, dEq_int, dNe_int, dLt_int, dLe_int, dGt_int, dGe_int, dAddI_int, asB_bl, dIx_tup0, dIx_tup1, fLen, fAbs, fInt, fMax2, fMin2, gTupF, gsCons, gsNil, D.pure, D.pures, Bool.not_true, Bool.not_false, Bool.and_true, Bool.true_and, Bool.and_false, Bool.false_and, Option.bind_some, Option.bind_none, Option.map_some, Option.map_none, bind_ite, map_ite, List.map_cons, List.map_nil, List.replicate, List.cons_append, List.nil_append, List.append_nil, List.getElem?_cons_zero, List.getElem?_cons_succ, List.set_cons_zero, List.set_cons_succ, List.length_cons, List.length_nil, Nat.reduceAdd, Nat.reduceLT, Nat.zero_add, Nat.lt_add_one, if_true, if_false, ite_true, ite_false, decide_eq_true_eq, Bool.false_eq_true, reduceCtorEq, reduceIte, Nat.reduceLeDiff, Nat.reduceEqDiff, dMul, m1, m2, m3, lfrac_eq h2 h1, sub_divInt]
theorem lless_eq {x y : Rat} (hx : x.den < 2 ^ 64) (hy : y.den < 2 ^ 64) : val F__law_less [fr x, fr y] = some (.bl (decide (x < y))) := by
  have m1 : mulOk x.num (y.den : Int) = true := mulOk_r (by simpa using hy)
  have m2 : mulOk y.num (x.den : Int) = true := mulOk_r (by simpa using hx)
  simp only [F__law_less, fr_def, val_fnF, zsF_eq, fzAt, D.fz, wpE, mgE, List.contains_cons, List.contains_nil, Nat.reduceBEq, Bool.or_false, Bool.or_true, Bool.false_or, Bool.true_or, seqF_eq, andThen_nx, andThen_bk, andThen_ct, andThen_rt, retV_rt, retV_nx, nxF, bkF, ctF, rtF, rnF, rmF, stF, exF, put, parF, agF, ifS, forF_eq, flF_nil, flF_cons, flK_nx, flK_ct, flK_bk, flK_rt, tbF, ttF, andF, orF, notF, andV, orV, ifF, chF, b1, b2, bN, clF_val, aNil, aCons, nmF, ownF, cF, fzF, itF, inF, itOf, rng1, rng2, yesF, dTru, dNot, I.isi_non_tuple, I.isi_non_list, I.isi_non_bool, I.isi_non_int, I.isi_non_str, I.isi_bl_tuple, I.isi_bl_list, I.isi_bl_bool, I.isi_bl_int, I.isi_bl_str, I.isi_int_tuple, I.isi_int_list, I.isi_int_bool, I.isi_int_int, I.isi_int_str, I.isi_str_tuple, I.isi_str_list, I.isi_str_bool, I.isi_str_int, I.isi_str_str, I.isi_tup_tuple, I.isi_tup_list, I.isi_tup_bool, I.isi_tup_int, I.isi_tup_str, I.isi_lst_tuple, I.isi_lst_list, I.isi_lst_bool, I.isi_lst_int, I.isi_lst_str, I.isi_scr_tuple, I.isi_scr_list, I.isi_scr_bool, I.isi_scr_int, I.isi_scr_str, dEq_bl, dNe_bl, dIsN_non, dIsN_bl, dIsN_int, dIsN_str, dIsN_tup, dIsN_lst, dAdd_int, dSub_int, dEq_int, dNe_int, dLt_int, dLe_int, dGt_int, dGe_int, dAddI_int, asB_bl, dIx_tup0, dIx_tup1, fLen, fAbs, fInt, fMax2, fMin2, gTupF, gsCons, gsNil, D.pure, D.pures, Bool.not_true, Bool.not_false, Bool.and_true, Bool.true_and, Bool.and_false, Bool.false_and, Option.bind_some, Option.bind_none, Option.map_some, Option.map_none, bind_ite, map_ite, List.map_cons, List.map_nil, List.replicate, List.cons_append, List.nil_append, List.append_nil, List.getElem?_cons_zero, List.getElem?_cons_succ, List.set_cons_zero, List.set_cons_succ, List.length_cons, List.length_nil, Nat.reduceAdd, Nat.reduceLT, Nat.zero_add, Nat.lt_add_one, if_true, if_false, ite_true, ite_false, decide_eq_true_eq, Bool.false_eq_true, reduceCtorEq, reduceIte, Nat.reduceLeDiff, Nat.reduceEqDiff, dMul, m1, m2, Rat.lt_iff]
end
end G33

set_option Elab.async false
set_option linter.all false
set_option maxRecDepth 100000
set_option maxHeartbeats 1000000
namespace G33
open PySem L2 Pz
noncomputable section
/-! values: the law's own functions -/
theorem nil_ok0 : dTup [] = some (fv none) := dTup_le (by simp)
theorem lplus_eq {a b : T} (ha : Sm a) (hb : Sm b) : val F__law_plus [fv a, fv b] = some (fv (tadd a b)) := by
  cases a <;> cases b
  · simp only [F__law_plus, val_fnF, zsF_eq, fzAt, D.fz, wpE, mgE, List.contains_cons, List.contains_nil, Nat.reduceBEq, Bool.or_false, Bool.or_true, Bool.false_or, Bool.true_or, seqF_eq, andThen_nx, andThen_bk, andThen_ct, andThen_rt, retV_rt, retV_nx, nxF, bkF, ctF, rtF, rnF, rmF, stF, exF, put, parF, agF, ifS, forF_eq, flF_nil, flF_cons, flK_nx, flK_ct, flK_bk, flK_rt, tbF, ttF, andF, orF, notF, andV, orV, ifF, chF, b1, b2, bN, clF_val, aNil, aCons, nmF, ownF, cF, fzF, itF, inF, itOf, rng1, rng2, yesF, dTru, dNot, I.isi_non_tuple, I.isi_non_list, I.isi_non_bool, I.isi_non_int, I.isi_non_str, I.isi_bl_tuple, I.isi_bl_list, I.isi_bl_bool, I.isi_bl_int, I.isi_bl_str, I.isi_int_tuple, I.isi_int_list, I.isi_int_bool, I.isi_int_int, I.isi_int_str, I.isi_str_tuple, I.isi_str_list, I.isi_str_bool, I.isi_str_int, I.isi_str_str, I.isi_tup_tuple, I.isi_tup_list, I.isi_tup_bool, I.isi_tup_int, I.isi_tup_str, I.isi_lst_tuple, I.isi_lst_list, I.isi_lst_bool, I.isi_lst_int, I.isi_lst_str, I.isi_scr_tuple, I.isi_scr_list, I.isi_scr_bool, I.isi_scr_int, I.isi_scr_str, dEq_bl, dNe_bl, dIsN_non, dIsN_bl, dIsN_int, dIsN_str, dIsN_tup, dIsN_lst, dAdd_int, dSub_int, dEq_int, dNe_int, dLt_int, dLe_int, dGt_int, dGe_int, dAddI_int, asB_bl, dIx_tup0, dIx_tup1, fLen, fAbs, fInt, fMax2, fMin2, gTupF, gsCons, gsNil, D.pure, D.pures, Bool.not_true, Bool.not_false, Bool.and_true, Bool.true_and, Bool.and_false, Bool.false_and, Option.bind_some, Option.bind_none, Option.map_some, Option.map_none, bind_ite, map_ite, List.map_cons, List.map_nil, List.replicate, List.cons_append, List.nil_append, List.append_nil, List.getElem?_cons_zero, List.getElem?_cons_succ, List.set_cons_zero, List.set_cons_succ, List.length_cons, List.length_nil, Nat.reduceAdd, Nat.reduceLT, Nat.zero_add, Nat.lt_add_one, if_true, if_false, ite_true, ite_false, decide_eq_true_eq, Bool.false_eq_true, reduceCtorEq, reduceIte, Nat.reduceLeDiff, Nat.reduceEqDiff, nil_ok0, fv_none, dEq_fv0 none, Option.isNone]
    have := dEq_fv0 none; rw [fv_none] at this
    simp only [this, val_fnF, zsF_eq, fzAt, D.fz, wpE, mgE, List.contains_cons, List.contains_nil, Nat.reduceBEq, Bool.or_false, Bool.or_true, Bool.false_or, Bool.true_or, seqF_eq, andThen_nx, andThen_bk, andThen_ct, andThen_rt, retV_rt, retV_nx, nxF, bkF, ctF, rtF, rnF, rmF, stF, exF, put, parF, agF, ifS, forF_eq, flF_nil, flF_cons, flK_nx, flK_ct, flK_bk, flK_rt, tbF, ttF, andF, orF, notF, andV, orV, ifF, chF, b1, b2, bN, clF_val, aNil, aCons, nmF, ownF, cF, fzF, itF, inF, itOf, rng1, rng2, yesF, dTru, dNot, I.isi_non_tuple, I.isi_non_list, I.isi_non_bool, I.isi_non_int, I.isi_non_str, I.isi_bl_tuple, I.isi_bl_list, I.isi_bl_bool, I.isi_bl_int, I.isi_bl_str, I.isi_int_tuple, I.isi_int_list, I.isi_int_bool, I.isi_int_int, I.isi_int_str, I.isi_str_tuple, I.isi_str_list, I.isi_str_bool, I.isi_str_int, I.isi_str_str, I.isi_tup_tuple, I.isi_tup_list, I.isi_tup_bool, I.isi_tup_int, I.isi_tup_str, I.isi_lst_tuple, I.isi_lst_list, I.isi_lst_bool, I.isi_lst_int, I.isi_lst_str, I.isi_scr_tuple, I.isi_scr_list, I.isi_scr_bool, I.isi_scr_int, I.isi_scr_str, dEq_bl, dNe_bl, dIsN_non, dIsN_bl, dIsN_int, dIsN_str, dIsN_tup, dIsN_lst, dAdd_int, dSub_int, dEq_int, dNe_int, dLt_int, dLe_int, dGt_int, dGe_int, dAddI_int, asB_bl, dIx_tup0, dIx_tup1, fLen, fAbs, fInt, fMax2, fMin2, gTupF, gsCons, gsNil, D.pure, D.pures, Bool.not_true, Bool.not_false, Bool.and_true, Bool.true_and, Bool.and_false, Bool.false_and, Option.bind_some, Option.bind_none, Option.map_some, Option.map_none, bind_ite, map_ite, List.map_cons, List.map_nil, List.replicate, List.cons_append, List.nil_append, List.append_nil, List.getElem?_cons_zero, List.getElem?_cons_succ, List.set_cons_zero, List.set_cons_succ, List.length_cons, List.length_nil, Nat.reduceAdd, Nat.reduceLT, Nat.zero_add, Nat.lt_add_one, if_true, if_false, ite_true, ite_false, decide_eq_true_eq, Bool.false_eq_true, reduceCtorEq, reduceIte, Nat.reduceLeDiff, Nat.reduceEqDiff, Option.isNone]; rfl
  · simp only [F__law_plus, val_fnF, zsF_eq, fzAt, D.fz, wpE, mgE, List.contains_cons, List.contains_nil, Nat.reduceBEq, Bool.or_false, Bool.or_true, Bool.false_or, Bool.true_or, seqF_eq, andThen_nx, andThen_bk, andThen_ct, andThen_rt, retV_rt, retV_nx, nxF, bkF, ctF, rtF, rnF, rmF, stF, exF, put, parF, agF, ifS, forF_eq, flF_nil, flF_cons, flK_nx, flK_ct, flK_bk, flK_rt, tbF, ttF, andF, orF, notF, andV, orV, ifF, chF, b1, b2, bN, clF_val, aNil, aCons, nmF, ownF, cF, fzF, itF, inF, itOf, rng1, rng2, yesF, dTru, dNot, I.isi_non_tuple, I.isi_non_list, I.isi_non_bool, I.isi_non_int, I.isi_non_str, I.isi_bl_tuple, I.isi_bl_list, I.isi_bl_bool, I.isi_bl_int, I.isi_bl_str, I.isi_int_tuple, I.isi_int_list, I.isi_int_bool, I.isi_int_int, I.isi_int_str, I.isi_str_tuple, I.isi_str_list, I.isi_str_bool, I.isi_str_int, I.isi_str_str, I.isi_tup_tuple, I.isi_tup_list, I.isi_tup_bool, I.isi_tup_int, I.isi_tup_str, I.isi_lst_tuple, I.isi_lst_list, I.isi_lst_bool, I.isi_lst_int, I.isi_lst_str, I.isi_scr_tuple, I.isi_scr_list, I.isi_scr_bool, I.isi_scr_int, I.isi_scr_str, dEq_bl, dNe_bl, dIsN_non, dIsN_bl, dIsN_int, dIsN_str, dIsN_tup, dIsN_lst, dAdd_int, dSub_int, dEq_int, dNe_int, dLt_int, dLe_int, dGt_int, dGe_int, dAddI_int, asB_bl, dIx_tup0, dIx_tup1, fLen, fAbs, fInt, fMax2, fMin2, gTupF, gsCons, gsNil, D.pure, D.pures, Bool.not_true, Bool.not_false, Bool.and_true, Bool.true_and, Bool.and_false, Bool.false_and, Option.bind_some, Option.bind_none, Option.map_some, Option.map_none, bind_ite, map_ite, List.map_cons, List.map_nil, List.replicate, List.cons_append, List.nil_append, List.append_nil, List.getElem?_cons_zero, List.getElem?_cons_succ, List.set_cons_zero, List.set_cons_succ, List.length_cons, List.length_nil, Nat.reduceAdd, Nat.reduceLT, Nat.zero_add, Nat.lt_add_one, if_true, if_false, ite_true, ite_false, decide_eq_true_eq, Bool.false_eq_true, reduceCtorEq, reduceIte, Nat.reduceLeDiff, Nat.reduceEqDiff, nil_ok0, fv_none, dEq_fv0, Option.isNone]
    have := dEq_fv0 none; rw [fv_none] at this
    simp only [this, val_fnF, zsF_eq, fzAt, D.fz, wpE, mgE, List.contains_cons, List.contains_nil, Nat.reduceBEq, Bool.or_false, Bool.or_true, Bool.false_or, Bool.true_or, seqF_eq, andThen_nx, andThen_bk, andThen_ct, andThen_rt, retV_rt, retV_nx, nxF, bkF, ctF, rtF, rnF, rmF, stF, exF, put, parF, agF, ifS, forF_eq, flF_nil, flF_cons, flK_nx, flK_ct, flK_bk, flK_rt, tbF, ttF, andF, orF, notF, andV, orV, ifF, chF, b1, b2, bN, clF_val, aNil, aCons, nmF, ownF, cF, fzF, itF, inF, itOf, rng1, rng2, yesF, dTru, dNot, I.isi_non_tuple, I.isi_non_list, I.isi_non_bool, I.isi_non_int, I.isi_non_str, I.isi_bl_tuple, I.isi_bl_list, I.isi_bl_bool, I.isi_bl_int, I.isi_bl_str, I.isi_int_tuple, I.isi_int_list, I.isi_int_bool, I.isi_int_int, I.isi_int_str, I.isi_str_tuple, I.isi_str_list, I.isi_str_bool, I.isi_str_int, I.isi_str_str, I.isi_tup_tuple, I.isi_tup_list, I.isi_tup_bool, I.isi_tup_int, I.isi_tup_str, I.isi_lst_tuple, I.isi_lst_list, I.isi_lst_bool, I.isi_lst_int, I.isi_lst_str, I.isi_scr_tuple, I.isi_scr_list, I.isi_scr_bool, I.isi_scr_int, I.isi_scr_str, dEq_bl, dNe_bl, dIsN_non, dIsN_bl, dIsN_int, dIsN_str, dIsN_tup, dIsN_lst, dAdd_int, dSub_int, dEq_int, dNe_int, dLt_int, dLe_int, dGt_int, dGe_int, dAddI_int, asB_bl, dIx_tup0, dIx_tup1, fLen, fAbs, fInt, fMax2, fMin2, gTupF, gsCons, gsNil, D.pure, D.pures, Bool.not_true, Bool.not_false, Bool.and_true, Bool.true_and, Bool.and_false, Bool.false_and, Option.bind_some, Option.bind_none, Option.map_some, Option.map_none, bind_ite, map_ite, List.map_cons, List.map_nil, List.replicate, List.cons_append, List.nil_append, List.append_nil, List.getElem?_cons_zero, List.getElem?_cons_succ, List.set_cons_zero, List.set_cons_succ, List.length_cons, List.length_nil, Nat.reduceAdd, Nat.reduceLT, Nat.zero_add, Nat.lt_add_one, if_true, if_false, ite_true, ite_false, decide_eq_true_eq, Bool.false_eq_true, reduceCtorEq, reduceIte, Nat.reduceLeDiff, Nat.reduceEqDiff, Option.isNone]; rfl
  · simp only [F__law_plus, val_fnF, zsF_eq, fzAt, D.fz, wpE, mgE, List.contains_cons, List.contains_nil, Nat.reduceBEq, Bool.or_false, Bool.or_true, Bool.false_or, Bool.true_or, seqF_eq, andThen_nx, andThen_bk, andThen_ct, andThen_rt, retV_rt, retV_nx, nxF, bkF, ctF, rtF, rnF, rmF, stF, exF, put, parF, agF, ifS, forF_eq, flF_nil, flF_cons, flK_nx, flK_ct, flK_bk, flK_rt, tbF, ttF, andF, orF, notF, andV, orV, ifF, chF, b1, b2, bN, clF_val, aNil, aCons, nmF, ownF, cF, fzF, itF, inF, itOf, rng1, rng2, yesF, dTru, dNot, I.isi_non_tuple, I.isi_non_list, I.isi_non_bool, I.isi_non_int, I.isi_non_str, I.isi_bl_tuple, I.isi_bl_list, I.isi_bl_bool, I.isi_bl_int, I.isi_bl_str, I.isi_int_tuple, I.isi_int_list, I.isi_int_bool, I.isi_int_int, I.isi_int_str, I.isi_str_tuple, I.isi_str_list, I.isi_str_bool, I.isi_str_int, I.isi_str_str, I.isi_tup_tuple, I.isi_tup_list, I.isi_tup_bool, I.isi_tup_int, I.isi_tup_str, I.isi_lst_tuple, I.isi_lst_list, I.isi_lst_bool, I.isi_lst_int, I.isi_lst_str, I.isi_scr_tuple, I.isi_scr_list, I.isi_scr_bool, I.isi_scr_int, I.isi_scr_str, dEq_bl, dNe_bl, dIsN_non, dIsN_bl, dIsN_int, dIsN_str, dIsN_tup, dIsN_lst, dAdd_int, dSub_int, dEq_int, dNe_int, dLt_int, dLe_int, dGt_int, dGe_int, dAddI_int, asB_bl, dIx_tup0, dIx_tup1, fLen, fAbs, fInt, fMax2, fMin2, gTupF, gsCons, gsNil, D.pure, D.pures, Bool.not_true, Bool.not_false, Bool.and_true, Bool.true_and, Bool.and_false, Bool.false_and, Option.bind_some, Option.bind_none, Option.map_some, Option.map_none, bind_ite, map_ite, List.map_cons, List.map_nil, List.replicate, List.cons_append, List.nil_append, List.append_nil, List.getElem?_cons_zero, List.getElem?_cons_succ, List.set_cons_zero, List.set_cons_succ, List.length_cons, List.length_nil, Nat.reduceAdd, Nat.reduceLT, Nat.zero_add, Nat.lt_add_one, if_true, if_false, ite_true, ite_false, decide_eq_true_eq, Bool.false_eq_true, reduceCtorEq, reduceIte, Nat.reduceLeDiff, Nat.reduceEqDiff, nil_ok0, fv_none, dEq_fv0, Option.isNone]
    have := dEq_fv0 none; rw [fv_none] at this
    simp only [this, val_fnF, zsF_eq, fzAt, D.fz, wpE, mgE, List.contains_cons, List.contains_nil, Nat.reduceBEq, Bool.or_false, Bool.or_true, Bool.false_or, Bool.true_or, seqF_eq, andThen_nx, andThen_bk, andThen_ct, andThen_rt, retV_rt, retV_nx, nxF, bkF, ctF, rtF, rnF, rmF, stF, exF, put, parF, agF, ifS, forF_eq, flF_nil, flF_cons, flK_nx, flK_ct, flK_bk, flK_rt, tbF, ttF, andF, orF, notF, andV, orV, ifF, chF, b1, b2, bN, clF_val, aNil, aCons, nmF, ownF, cF, fzF, itF, inF, itOf, rng1, rng2, yesF, dTru, dNot, I.isi_non_tuple, I.isi_non_list, I.isi_non_bool, I.isi_non_int, I.isi_non_str, I.isi_bl_tuple, I.isi_bl_list, I.isi_bl_bool, I.isi_bl_int, I.isi_bl_str, I.isi_int_tuple, I.isi_int_list, I.isi_int_bool, I.isi_int_int, I.isi_int_str, I.isi_str_tuple, I.isi_str_list, I.isi_str_bool, I.isi_str_int, I.isi_str_str, I.isi_tup_tuple, I.isi_tup_list, I.isi_tup_bool, I.isi_tup_int, I.isi_tup_str, I.isi_lst_tuple, I.isi_lst_list, I.isi_lst_bool, I.isi_lst_int, I.isi_lst_str, I.isi_scr_tuple, I.isi_scr_list, I.isi_scr_bool, I.isi_scr_int, I.isi_scr_str, dEq_bl, dNe_bl, dIsN_non, dIsN_bl, dIsN_int, dIsN_str, dIsN_tup, dIsN_lst, dAdd_int, dSub_int, dEq_int, dNe_int, dLt_int, dLe_int, dGt_int, dGe_int, dAddI_int, asB_bl, dIx_tup0, dIx_tup1, fLen, fAbs, fInt, fMax2, fMin2, gTupF, gsCons, gsNil, D.pure, D.pures, Bool.not_true, Bool.not_false, Bool.and_true, Bool.true_and, Bool.and_false, Bool.false_and, Option.bind_some, Option.bind_none, Option.map_some, Option.map_none, bind_ite, map_ite, List.map_cons, List.map_nil, List.replicate, List.cons_append, List.nil_append, List.append_nil, List.getElem?_cons_zero, List.getElem?_cons_succ, List.set_cons_zero, List.set_cons_succ, List.length_cons, List.length_nil, Nat.reduceAdd, Nat.reduceLT, Nat.zero_add, Nat.lt_add_one, if_true, if_false, ite_true, ite_false, decide_eq_true_eq, Bool.false_eq_true, reduceCtorEq, reduceIte, Nat.reduceLeDiff, Nat.reduceEqDiff, Option.isNone]; rfl
  · rename_i x y
    simp only [F__law_plus, val_fnF, zsF_eq, fzAt, D.fz, wpE, mgE, List.contains_cons, List.contains_nil, Nat.reduceBEq, Bool.or_false, Bool.or_true, Bool.false_or, Bool.true_or, seqF_eq, andThen_nx, andThen_bk, andThen_ct, andThen_rt, retV_rt, retV_nx, nxF, bkF, ctF, rtF, rnF, rmF, stF, exF, put, parF, agF, ifS, forF_eq, flF_nil, flF_cons, flK_nx, flK_ct, flK_bk, flK_rt, tbF, ttF, andF, orF, notF, andV, orV, ifF, chF, b1, b2, bN, clF_val, aNil, aCons, nmF, ownF, cF, fzF, itF, inF, itOf, rng1, rng2, yesF, dTru, dNot, I.isi_non_tuple, I.isi_non_list, I.isi_non_bool, I.isi_non_int, I.isi_non_str, I.isi_bl_tuple, I.isi_bl_list, I.isi_bl_bool, I.isi_bl_int, I.isi_bl_str, I.isi_int_tuple, I.isi_int_list, I.isi_int_bool, I.isi_int_int, I.isi_int_str, I.isi_str_tuple, I.isi_str_list, I.isi_str_bool, I.isi_str_int, I.isi_str_str, I.isi_tup_tuple, I.isi_tup_list, I.isi_tup_bool, I.isi_tup_int, I.isi_tup_str, I.isi_lst_tuple, I.isi_lst_list, I.isi_lst_bool, I.isi_lst_int, I.isi_lst_str, I.isi_scr_tuple, I.isi_scr_list, I.isi_scr_bool, I.isi_scr_int, I.isi_scr_str, dEq_bl, dNe_bl, dIsN_non, dIsN_bl, dIsN_int, dIsN_str, dIsN_tup, dIsN_lst, dAdd_int, dSub_int, dEq_int, dNe_int, dLt_int, dLe_int, dGt_int, dGe_int, dAddI_int, asB_bl, dIx_tup0, dIx_tup1, fLen, fAbs, fInt, fMax2, fMin2, gTupF, gsCons, gsNil, D.pure, D.pures, Bool.not_true, Bool.not_false, Bool.and_true, Bool.true_and, Bool.and_false, Bool.false_and, Option.bind_some, Option.bind_none, Option.map_some, Option.map_none, bind_ite, map_ite, List.map_cons, List.map_nil, List.replicate, List.cons_append, List.nil_append, List.append_nil, List.getElem?_cons_zero, List.getElem?_cons_succ, List.set_cons_zero, List.set_cons_succ, List.length_cons, List.length_nil, Nat.reduceAdd, Nat.reduceLT, Nat.zero_add, Nat.lt_add_one, if_true, if_false, ite_true, ite_false, decide_eq_true_eq, Bool.false_eq_true, reduceCtorEq, reduceIte, Nat.reduceLeDiff, Nat.reduceEqDiff, nil_ok0, fv_none, dEq_fv0, Option.isNone, pure_fv]
    simp only [fv_some, ladd_eq (ha x rfl) (hb y rfl), val_fnF, zsF_eq, fzAt, D.fz, wpE, mgE, List.contains_cons, List.contains_nil, Nat.reduceBEq, Bool.or_false, Bool.or_true, Bool.false_or, Bool.true_or, seqF_eq, andThen_nx, andThen_bk, andThen_ct, andThen_rt, retV_rt, retV_nx, nxF, bkF, ctF, rtF, rnF, rmF, stF, exF, put, parF, agF, ifS, forF_eq, flF_nil, flF_cons, flK_nx, flK_ct, flK_bk, flK_rt, tbF, ttF, andF, orF, notF, andV, orV, ifF, chF, b1, b2, bN, clF_val, aNil, aCons, nmF, ownF, cF, fzF, itF, inF, itOf, rng1, rng2, yesF, dTru, dNot, I.isi_non_tuple, I.isi_non_list, I.isi_non_bool, I.isi_non_int, I.isi_non_str, I.isi_bl_tuple, I.isi_bl_list, I.isi_bl_bool, I.isi_bl_int, I.isi_bl_str, I.isi_int_tuple, I.isi_int_list, I.isi_int_bool, I.isi_int_int, I.isi_int_str, I.isi_str_tuple, I.isi_str_list, I.isi_str_bool, I.isi_str_int, I.isi_str_str, I.isi_tup_tuple, I.isi_tup_list, I.isi_tup_bool, I.isi_tup_int, I.isi_tup_str, I.isi_lst_tuple, I.isi_lst_list, I.isi_lst_bool, I.isi_lst_int, I.isi_lst_str, I.isi_scr_tuple, I.isi_scr_list, I.isi_scr_bool, I.isi_scr_int, I.isi_scr_str, dEq_bl, dNe_bl, dIsN_non, dIsN_bl, dIsN_int, dIsN_str, dIsN_tup, dIsN_lst, dAdd_int, dSub_int, dEq_int, dNe_int, dLt_int, dLe_int, dGt_int, dGe_int, dAddI_int, asB_bl, dIx_tup0, dIx_tup1, fLen, fAbs, fInt, fMax2, fMin2, gTupF, gsCons, gsNil, D.pure, D.pures, Bool.not_true, Bool.not_false, Bool.and_true, Bool.true_and, Bool.and_false, Bool.false_and, Option.bind_some, Option.bind_none, Option.map_some, Option.map_none, bind_ite, map_ite, List.map_cons, List.map_nil, List.replicate, List.cons_append, List.nil_append, List.append_nil, List.getElem?_cons_zero, List.getElem?_cons_succ, List.set_cons_zero, List.set_cons_succ, List.length_cons, List.length_nil, Nat.reduceAdd, Nat.reduceLT, Nat.zero_add, Nat.lt_add_one, if_true, if_false, ite_true, ite_false, decide_eq_true_eq, Bool.false_eq_true, reduceCtorEq, reduceIte, Nat.reduceLeDiff, Nat.reduceEqDiff]
    rfl
theorem lsmaller_eq {a b : T} (ha : Sm a) (hb : Sm b) : val F__law_smaller [fv a, fv b] = some (.bl (tlt a b)) := by
  have e0 := dEq_fv0 none
  have n0 := dNe_fv0 none
  rw [fv_none] at e0 n0
  cases a <;> cases b
  · simp only [F__law_smaller, val_fnF, zsF_eq, fzAt, D.fz, wpE, mgE, List.contains_cons, List.contains_nil, Nat.reduceBEq, Bool.or_false, Bool.or_true, Bool.false_or, Bool.true_or, seqF_eq, andThen_nx, andThen_bk, andThen_ct, andThen_rt, retV_rt, retV_nx, nxF, bkF, ctF, rtF, rnF, rmF, stF, exF, put, parF, agF, ifS, forF_eq, flF_nil, flF_cons, flK_nx, flK_ct, flK_bk, flK_rt, tbF, ttF, andF, orF, notF, andV, orV, ifF, chF, b1, b2, bN, clF_val, aNil, aCons, nmF, ownF, cF, fzF, itF, inF, itOf, rng1, rng2, yesF, dTru, dNot, I.isi_non_tuple, I.isi_non_list, I.isi_non_bool, I.isi_non_int, I.isi_non_str, I.isi_bl_tuple, I.isi_bl_list, I.isi_bl_bool, I.isi_bl_int, I.isi_bl_str, I.isi_int_tuple, I.isi_int_list, I.isi_int_bool, I.isi_int_int, I.isi_int_str, I.isi_str_tuple, I.isi_str_list, I.isi_str_bool, I.isi_str_int, I.isi_str_str, I.isi_tup_tuple, I.isi_tup_list, I.isi_tup_bool, I.isi_tup_int, I.isi_tup_str, I.isi_lst_tuple, I.isi_lst_list, I.isi_lst_bool, I.isi_lst_int, I.isi_lst_str, I.isi_scr_tuple, I.isi_scr_list, I.isi_scr_bool, I.isi_scr_int, I.isi_scr_str, dEq_bl, dNe_bl, dIsN_non, dIsN_bl, dIsN_int, dIsN_str, dIsN_tup, dIsN_lst, dAdd_int, dSub_int, dEq_int, dNe_int, dLt_int, dLe_int, dGt_int, dGe_int, dAddI_int, asB_bl, dIx_tup0, dIx_tup1, fLen, fAbs, fInt, fMax2, fMin2, gTupF, gsCons, gsNil, D.pure, D.pures, Bool.not_true, Bool.not_false, Bool.and_true, Bool.true_and, Bool.and_false, Bool.false_and, Option.bind_some, Option.bind_none, Option.map_some, Option.map_none, bind_ite, map_ite, List.map_cons, List.map_nil, List.replicate, List.cons_append, List.nil_append, List.append_nil, List.getElem?_cons_zero, List.getElem?_cons_succ, List.set_cons_zero, List.set_cons_succ, List.length_cons, List.length_nil, Nat.reduceAdd, Nat.reduceLT, Nat.zero_add, Nat.lt_add_one, if_true, if_false, ite_true, ite_false, decide_eq_true_eq, Bool.false_eq_true, reduceCtorEq, reduceIte, Nat.reduceLeDiff, Nat.reduceEqDiff, nil_ok0, fv_none, e0, n0, Option.isNone, Option.isSome]; rfl
  · simp only [F__law_smaller, val_fnF, zsF_eq, fzAt, D.fz, wpE, mgE, List.contains_cons, List.contains_nil, Nat.reduceBEq, Bool.or_false, Bool.or_true, Bool.false_or, Bool.true_or, seqF_eq, andThen_nx, andThen_bk, andThen_ct, andThen_rt, retV_rt, retV_nx, nxF, bkF, ctF, rtF, rnF, rmF, stF, exF, put, parF, agF, ifS, forF_eq, flF_nil, flF_cons, flK_nx, flK_ct, flK_bk, flK_rt, tbF, ttF, andF, orF, notF, andV, orV, ifF, chF, b1, b2, bN, clF_val, aNil, aCons, nmF, ownF, cF, fzF, itF, inF, itOf, rng1, rng2, yesF, dTru, dNot, I.isi_non_tuple, I.isi_non_list, I.isi_non_bool, I.isi_non_int, I.isi_non_str, I.isi_bl_tuple, I.isi_bl_list, I.isi_bl_bool, I.isi_bl_int, I.isi_bl_str, I.isi_int_tuple, I.isi_int_list, I.isi_int_bool, I.isi_int_int, I.isi_int_str, I.isi_str_tuple, I.isi_str_list, I.isi_str_bool, I.isi_str_int, I.isi_str_str, I.isi_tup_tuple, I.isi_tup_list, I.isi_tup_bool, I.isi_tup_int, I.isi_tup_str, I.isi_lst_tuple, I.isi_lst_list, I.isi_lst_bool, I.isi_lst_int, I.isi_lst_str, I.isi_scr_tuple, I.isi_scr_list, I.isi_scr_bool, I.isi_scr_int, I.isi_scr_str, dEq_bl, dNe_bl, dIsN_non, dIsN_bl, dIsN_int, dIsN_str, dIsN_tup, dIsN_lst, dAdd_int, dSub_int, dEq_int, dNe_int, dLt_int, dLe_int, dGt_int, dGe_int, dAddI_int, asB_bl, dIx_tup0, dIx_tup1, fLen, fAbs, fInt, fMax2, fMin2, gTupF, gsCons, gsNil, D.pure, D.pures, Bool.not_true, Bool.not_false, Bool.and_true, Bool.true_and, Bool.and_false, Bool.false_and, Option.bind_some, Option.bind_none, Option.map_some, Option.map_none, bind_ite, map_ite, List.map_cons, List.map_nil, List.replicate, List.cons_append, List.nil_append, List.append_nil, List.getElem?_cons_zero, List.getElem?_cons_succ, List.set_cons_zero, List.set_cons_succ, List.length_cons, List.length_nil, Nat.reduceAdd, Nat.reduceLT, Nat.zero_add, Nat.lt_add_one, if_true, if_false, ite_true, ite_false, decide_eq_true_eq, Bool.false_eq_true, reduceCtorEq, reduceIte, Nat.reduceLeDiff, Nat.reduceEqDiff, nil_ok0, fv_none, e0, n0, dEq_fv0, dNe_fv0, Option.isNone, Option.isSome]; rfl
  · simp only [F__law_smaller, val_fnF, zsF_eq, fzAt, D.fz, wpE, mgE, List.contains_cons, List.contains_nil, Nat.reduceBEq, Bool.or_false, Bool.or_true, Bool.false_or, Bool.true_or, seqF_eq, andThen_nx, andThen_bk, andThen_ct, andThen_rt, retV_rt, retV_nx, nxF, bkF, ctF, rtF, rnF, rmF, stF, exF, put, parF, agF, ifS, forF_eq, flF_nil, flF_cons, flK_nx, flK_ct, flK_bk, flK_rt, tbF, ttF, andF, orF, notF, andV, orV, ifF, chF, b1, b2, bN, clF_val, aNil, aCons, nmF, ownF, cF, fzF, itF, inF, itOf, rng1, rng2, yesF, dTru, dNot, I.isi_non_tuple, I.isi_non_list, I.isi_non_bool, I.isi_non_int, I.isi_non_str, I.isi_bl_tuple, I.isi_bl_list, I.isi_bl_bool, I.isi_bl_int, I.isi_bl_str, I.isi_int_tuple, I.isi_int_list, I.isi_int_bool, I.isi_int_int, I.isi_int_str, I.isi_str_tuple, I.isi_str_list, I.isi_str_bool, I.isi_str_int, I.isi_str_str, I.isi_tup_tuple, I.isi_tup_list, I.isi_tup_bool, I.isi_tup_int, I.isi_tup_str, I.isi_lst_tuple, I.isi_lst_list, I.isi_lst_bool, I.isi_lst_int, I.isi_lst_str, I.isi_scr_tuple, I.isi_scr_list, I.isi_scr_bool, I.isi_scr_int, I.isi_scr_str, dEq_bl, dNe_bl, dIsN_non, dIsN_bl, dIsN_int, dIsN_str, dIsN_tup, dIsN_lst, dAdd_int, dSub_int, dEq_int, dNe_int, dLt_int, dLe_int, dGt_int, dGe_int, dAddI_int, asB_bl, dIx_tup0, dIx_tup1, fLen, fAbs, fInt, fMax2, fMin2, gTupF, gsCons, gsNil, D.pure, D.pures, Bool.not_true, Bool.not_false, Bool.and_true, Bool.true_and, Bool.and_false, Bool.false_and, Option.bind_some, Option.bind_none, Option.map_some, Option.map_none, bind_ite, map_ite, List.map_cons, List.map_nil, List.replicate, List.cons_append, List.nil_append, List.append_nil, List.getElem?_cons_zero, List.getElem?_cons_succ, List.set_cons_zero, List.set_cons_succ, List.length_cons, List.length_nil, Nat.reduceAdd, Nat.reduceLT, Nat.zero_add, Nat.lt_add_one, if_true, if_false, ite_true, ite_false, decide_eq_true_eq, Bool.false_eq_true, reduceCtorEq, reduceIte, Nat.reduceLeDiff, Nat.reduceEqDiff, nil_ok0, fv_none, e0, n0, dEq_fv0, dNe_fv0, Option.isNone, Option.isSome]; rfl
  · rename_i x y
    simp only [F__law_smaller, val_fnF, zsF_eq, fzAt, D.fz, wpE, mgE, List.contains_cons, List.contains_nil, Nat.reduceBEq, Bool.or_false, Bool.or_true, Bool.false_or, Bool.true_or, seqF_eq, andThen_nx, andThen_bk, andThen_ct, andThen_rt, retV_rt, retV_nx, nxF, bkF, ctF, rtF, rnF, rmF, stF, exF, put, parF, agF, ifS, forF_eq, flF_nil, flF_cons, flK_nx, flK_ct, flK_bk, flK_rt, tbF, ttF, andF, orF, notF, andV, orV, ifF, chF, b1, b2, bN, clF_val, aNil, aCons, nmF, ownF, cF, fzF, itF, inF, itOf, rng1, rng2, yesF, dTru, dNot, I.isi_non_tuple, I.isi_non_list, I.isi_non_bool, I.isi_non_int, I.isi_non_str, I.isi_bl_tuple, I.isi_bl_list, I.isi_bl_bool, I.isi_bl_int, I.isi_bl_str, I.isi_int_tuple, I.isi_int_list, I.isi_int_bool, I.isi_int_int, I.isi_int_str, I.isi_str_tuple, I.isi_str_list, I.isi_str_bool, I.isi_str_int, I.isi_str_str, I.isi_tup_tuple, I.isi_tup_list, I.isi_tup_bool, I.isi_tup_int, I.isi_tup_str, I.isi_lst_tuple, I.isi_lst_list, I.isi_lst_bool, I.isi_lst_int, I.isi_lst_str, I.isi_scr_tuple, I.isi_scr_list, I.isi_scr_bool, I.isi_scr_int, I.isi_scr_str, dEq_bl, dNe_bl, dIsN_non, dIsN_bl, dIsN_int, dIsN_str, dIsN_tup, dIsN_lst, dAdd_int, dSub_int, dEq_int, dNe_int, dLt_int, dLe_int, dGt_int, dGe_int, dAddI_int, asB_bl, dIx_tup0, dIx_tup1, fLen, fAbs, fInt, fMax2, fMin2, gTupF, gsCons, gsNil, D.pure, D.pures, Bool.not_true, Bool.not_false, Bool.and_true, Bool.true_and, Bool.and_false, Bool.false_and, Option.bind_some, Option.bind_none, Option.map_some, Option.map_none, bind_ite, map_ite, List.map_cons, List.map_nil, List.replicate, List.cons_append, List.nil_append, List.append_nil, List.getElem?_cons_zero, List.getElem?_cons_succ, List.set_cons_zero, List.set_cons_succ, List.length_cons, List.length_nil, Nat.reduceAdd, Nat.reduceLT, Nat.zero_add, Nat.lt_add_one, if_true, if_false, ite_true, ite_false, decide_eq_true_eq, Bool.false_eq_true, reduceCtorEq, reduceIte, Nat.reduceLeDiff, Nat.reduceEqDiff, nil_ok0, fv_none, dEq_fv0, dNe_fv0, Option.isNone, Option.isSome, pure_fv]
    simp only [fv_some, lless_eq (ha x rfl) (hb y rfl), val_fnF, zsF_eq, fzAt, D.fz, wpE, mgE, List.contains_cons, List.contains_nil, Nat.reduceBEq, Bool.or_false, Bool.or_true, Bool.false_or, Bool.true_or, seqF_eq, andThen_nx, andThen_bk, andThen_ct, andThen_rt, retV_rt, retV_nx, nxF, bkF, ctF, rtF, rnF, rmF, stF, exF, put, parF, agF, ifS, forF_eq, flF_nil, flF_cons, flK_nx, flK_ct, flK_bk, flK_rt, tbF, ttF, andF, orF, notF, andV, orV, ifF, chF, b1, b2, bN, clF_val, aNil, aCons, nmF, ownF, cF, fzF, itF, inF, itOf, rng1, rng2, yesF, dTru, dNot, I.isi_non_tuple, I.isi_non_list, I.isi_non_bool, I.isi_non_int, I.isi_non_str, I.isi_bl_tuple, I.isi_bl_list, I.isi_bl_bool, I.isi_bl_int, I.isi_bl_str, I.isi_int_tuple, I.isi_int_list, I.isi_int_bool, I.isi_int_int, I.isi_int_str, I.isi_str_tuple, I.isi_str_list, I.isi_str_bool, I.isi_str_int, I.isi_str_str, I.isi_tup_tuple, I.isi_tup_list, I.isi_tup_bool, I.isi_tup_int, I.isi_tup_str, I.isi_lst_tuple, I.isi_lst_list, I.isi_lst_bool, I.isi_lst_int, I.isi_lst_str, I.isi_scr_tuple, I.isi_scr_list, I.isi_scr_bool, I.isi_scr_int, I.isi_scr_str, dEq_bl, dNe_bl, dIsN_non, dIsN_bl, dIsN_int, dIsN_str, dIsN_tup, dIsN_lst, dAdd_int, dSub_int, dEq_int, dNe_int, dLt_int, dLe_int, dGt_int, dGe_int, dAddI_int, asB_bl, dIx_tup0, dIx_tup1, fLen, fAbs, fInt, fMax2, fMin2, gTupF, gsCons, gsNil, D.pure, D.pures, Bool.not_true, Bool.not_false, Bool.and_true, Bool.true_and, Bool.and_false, Bool.false_and, Option.bind_some, Option.bind_none, Option.map_some, Option.map_none, bind_ite, map_ite, List.map_cons, List.map_nil, List.replicate, List.cons_append, List.nil_append, List.append_nil, List.getElem?_cons_zero, List.getElem?_cons_succ, List.set_cons_zero, List.set_cons_succ, List.length_cons, List.length_nil, Nat.reduceAdd, Nat.reduceLT, Nat.zero_add, Nat.lt_add_one, if_true, if_false, ite_true, ite_false, decide_eq_true_eq, Bool.false_eq_true, reduceCtorEq, reduceIte, Nat.reduceLeDiff, Nat.reduceEqDiff]
    rfl
theorem llowest_eq {o : Bool} {ts : List T} (h : ∀ t ∈ ts, Sm t) : val F__law_lowest [.lst o (ts.map fv)] = some (fv (minL ts)) := by
  obtain ⟨_, j, e⟩ := flF_keep (FT := put 2) (FB := L__law_lowest_1) fv (fun (s : T) (j : Option D) => [some (.lst false (ts.map fv)), some (fv s), j]) (fun f x => if tlt x f = true then x else f) Sm ts none none (fun _ h => by cases h)
    fun s j y hy hs => ⟨minT_Sm (h y hy) hs, some (fv y), by
      simp only [val_fnF, zsF_eq, fzAt, D.fz, wpE, mgE, List.contains_cons, List.contains_nil, Nat.reduceBEq, Bool.or_false, Bool.or_true, Bool.false_or, Bool.true_or, seqF_eq, andThen_nx, andThen_bk, andThen_ct, andThen_rt, retV_rt, retV_nx, nxF, bkF, ctF, rtF, rnF, rmF, stF, exF, put, parF, agF, ifS, forF_eq, flF_nil, flF_cons, flK_nx, flK_ct, flK_bk, flK_rt, tbF, ttF, andF, orF, notF, andV, orV, ifF, chF, b1, b2, bN, clF_val, aNil, aCons, nmF, ownF, cF, fzF, itF, inF, itOf, rng1, rng2, yesF, dTru, dNot, I.isi_non_tuple, I.isi_non_list, I.isi_non_bool, I.isi_non_int, I.isi_non_str, I.isi_bl_tuple, I.isi_bl_list, I.isi_bl_bool, I.isi_bl_int, I.isi_bl_str, I.isi_int_tuple, I.isi_int_list, I.isi_int_bool, I.isi_int_int, I.isi_int_str, I.isi_str_tuple, I.isi_str_list, I.isi_str_bool, I.isi_str_int, I.isi_str_str, I.isi_tup_tuple, I.isi_tup_list, I.isi_tup_bool, I.isi_tup_int, I.isi_tup_str, I.isi_lst_tuple, I.isi_lst_list, I.isi_lst_bool, I.isi_lst_int, I.isi_lst_str, I.isi_scr_tuple, I.isi_scr_list, I.isi_scr_bool, I.isi_scr_int, I.isi_scr_str, dEq_bl, dNe_bl, dIsN_non, dIsN_bl, dIsN_int, dIsN_str, dIsN_tup, dIsN_lst, dAdd_int, dSub_int, dEq_int, dNe_int, dLt_int, dLe_int, dGt_int, dGe_int, dAddI_int, asB_bl, dIx_tup0, dIx_tup1, fLen, fAbs, fInt, fMax2, fMin2, gTupF, gsCons, gsNil, D.pure, D.pures, Bool.not_true, Bool.not_false, Bool.and_true, Bool.true_and, Bool.and_false, Bool.false_and, Option.bind_some, Option.bind_none, Option.map_some, Option.map_none, bind_ite, map_ite, List.map_cons, List.map_nil, List.replicate, List.cons_append, List.nil_append, List.append_nil, List.getElem?_cons_zero, List.getElem?_cons_succ, List.set_cons_zero, List.set_cons_succ, List.length_cons, List.length_nil, Nat.reduceAdd, Nat.reduceLT, Nat.zero_add, Nat.lt_add_one, if_true, if_false, ite_true, ite_false, decide_eq_true_eq, Bool.false_eq_true, reduceCtorEq, reduceIte, Nat.reduceLeDiff, Nat.reduceEqDiff, L__law_lowest_1, pure_fv, lsmaller_eq (h y hy) hs]
      cases tlt y s <;> simp [val_fnF, zsF_eq, fzAt, D.fz, wpE, mgE, List.contains_cons, List.contains_nil, Nat.reduceBEq, Bool.or_false, Bool.or_true, Bool.false_or, Bool.true_or, seqF_eq, andThen_nx, andThen_bk, andThen_ct, andThen_rt, retV_rt, retV_nx, nxF, bkF, ctF, rtF, rnF, rmF, stF, exF, put, parF, agF, ifS, forF_eq, flF_nil, flF_cons, flK_nx, flK_ct, flK_bk, flK_rt, tbF, ttF, andF, orF, notF, andV, orV, ifF, chF, b1, b2, bN, clF_val, aNil, aCons, nmF, ownF, cF, fzF, itF, inF, itOf, rng1, rng2, yesF, dTru, dNot, I.isi_non_tuple, I.isi_non_list, I.isi_non_bool, I.isi_non_int, I.isi_non_str, I.isi_bl_tuple, I.isi_bl_list, I.isi_bl_bool, I.isi_bl_int, I.isi_bl_str, I.isi_int_tuple, I.isi_int_list, I.isi_int_bool, I.isi_int_int, I.isi_int_str, I.isi_str_tuple, I.isi_str_list, I.isi_str_bool, I.isi_str_int, I.isi_str_str, I.isi_tup_tuple, I.isi_tup_list, I.isi_tup_bool, I.isi_tup_int, I.isi_tup_str, I.isi_lst_tuple, I.isi_lst_list, I.isi_lst_bool, I.isi_lst_int, I.isi_lst_str, I.isi_scr_tuple, I.isi_scr_list, I.isi_scr_bool, I.isi_scr_int, I.isi_scr_str, dEq_bl, dNe_bl, dIsN_non, dIsN_bl, dIsN_int, dIsN_str, dIsN_tup, dIsN_lst, dAdd_int, dSub_int, dEq_int, dNe_int, dLt_int, dLe_int, dGt_int, dGe_int, dAddI_int, asB_bl, dIx_tup0, dIx_tup1, fLen, fAbs, fInt, fMax2, fMin2, gTupF, gsCons, gsNil, D.pure, D.pures, Bool.not_true, Bool.not_false, Bool.and_true, Bool.true_and, Bool.and_false, Bool.false_and, Option.bind_some, Option.bind_none, Option.map_some, Option.map_none, bind_ite, map_ite, List.map_cons, List.map_nil, List.replicate, List.cons_append, List.nil_append, List.append_nil, List.getElem?_cons_zero, List.getElem?_cons_succ, List.set_cons_zero, List.set_cons_succ, List.length_cons, List.length_nil, Nat.reduceAdd, Nat.reduceLT, Nat.zero_add, Nat.lt_add_one, if_true, if_false, ite_true, ite_false, decide_eq_true_eq, Bool.false_eq_true, reduceCtorEq, reduceIte, Nat.reduceLeDiff, Nat.reduceEqDiff, pure_fv]⟩
  simp only [F__law_lowest, nil_ok0, val_fnF, zsF_eq, fzAt, D.fz, wpE, mgE, List.contains_cons, List.contains_nil, Nat.reduceBEq, Bool.or_false, Bool.or_true, Bool.false_or, Bool.true_or, seqF_eq, andThen_nx, andThen_bk, andThen_ct, andThen_rt, retV_rt, retV_nx, nxF, bkF, ctF, rtF, rnF, rmF, stF, exF, put, parF, agF, ifS, forF_eq, flF_nil, flF_cons, flK_nx, flK_ct, flK_bk, flK_rt, tbF, ttF, andF, orF, notF, andV, orV, ifF, chF, b1, b2, bN, clF_val, aNil, aCons, nmF, ownF, cF, fzF, itF, inF, itOf, rng1, rng2, yesF, dTru, dNot, I.isi_non_tuple, I.isi_non_list, I.isi_non_bool, I.isi_non_int, I.isi_non_str, I.isi_bl_tuple, I.isi_bl_list, I.isi_bl_bool, I.isi_bl_int, I.isi_bl_str, I.isi_int_tuple, I.isi_int_list, I.isi_int_bool, I.isi_int_int, I.isi_int_str, I.isi_str_tuple, I.isi_str_list, I.isi_str_bool, I.isi_str_int, I.isi_str_str, I.isi_tup_tuple, I.isi_tup_list, I.isi_tup_bool, I.isi_tup_int, I.isi_tup_str, I.isi_lst_tuple, I.isi_lst_list, I.isi_lst_bool, I.isi_lst_int, I.isi_lst_str, I.isi_scr_tuple, I.isi_scr_list, I.isi_scr_bool, I.isi_scr_int, I.isi_scr_str, dEq_bl, dNe_bl, dIsN_non, dIsN_bl, dIsN_int, dIsN_str, dIsN_tup, dIsN_lst, dAdd_int, dSub_int, dEq_int, dNe_int, dLt_int, dLe_int, dGt_int, dGe_int, dAddI_int, asB_bl, dIx_tup0, dIx_tup1, fLen, fAbs, fInt, fMax2, fMin2, gTupF, gsCons, gsNil, D.pure, D.pures, Bool.not_true, Bool.not_false, Bool.and_true, Bool.true_and, Bool.and_false, Bool.false_and, Option.bind_some, Option.bind_none, Option.map_some, Option.map_none, bind_ite, map_ite, List.map_cons, List.map_nil, List.replicate, List.cons_append, List.nil_append, List.append_nil, List.getElem?_cons_zero, List.getElem?_cons_succ, List.set_cons_zero, List.set_cons_succ, List.length_cons, List.length_nil, Nat.reduceAdd, Nat.reduceLT, Nat.zero_add, Nat.lt_add_one, if_true, if_false, ite_true, ite_false, decide_eq_true_eq, Bool.false_eq_true, reduceCtorEq, reduceIte, Nat.reduceLeDiff, Nat.reduceEqDiff, D.fz, fzs_fv]
  simp only [e, val_fnF, zsF_eq, fzAt, D.fz, wpE, mgE, List.contains_cons, List.contains_nil, Nat.reduceBEq, Bool.or_false, Bool.or_true, Bool.false_or, Bool.true_or, seqF_eq, andThen_nx, andThen_bk, andThen_ct, andThen_rt, retV_rt, retV_nx, nxF, bkF, ctF, rtF, rnF, rmF, stF, exF, put, parF, agF, ifS, forF_eq, flF_nil, flF_cons, flK_nx, flK_ct, flK_bk, flK_rt, tbF, ttF, andF, orF, notF, andV, orV, ifF, chF, b1, b2, bN, clF_val, aNil, aCons, nmF, ownF, cF, fzF, itF, inF, itOf, rng1, rng2, yesF, dTru, dNot, I.isi_non_tuple, I.isi_non_list, I.isi_non_bool, I.isi_non_int, I.isi_non_str, I.isi_bl_tuple, I.isi_bl_list, I.isi_bl_bool, I.isi_bl_int, I.isi_bl_str, I.isi_int_tuple, I.isi_int_list, I.isi_int_bool, I.isi_int_int, I.isi_int_str, I.isi_str_tuple, I.isi_str_list, I.isi_str_bool, I.isi_str_int, I.isi_str_str, I.isi_tup_tuple, I.isi_tup_list, I.isi_tup_bool, I.isi_tup_int, I.isi_tup_str, I.isi_lst_tuple, I.isi_lst_list, I.isi_lst_bool, I.isi_lst_int, I.isi_lst_str, I.isi_scr_tuple, I.isi_scr_list, I.isi_scr_bool, I.isi_scr_int, I.isi_scr_str, dEq_bl, dNe_bl, dIsN_non, dIsN_bl, dIsN_int, dIsN_str, dIsN_tup, dIsN_lst, dAdd_int, dSub_int, dEq_int, dNe_int, dLt_int, dLe_int, dGt_int, dGe_int, dAddI_int, asB_bl, dIx_tup0, dIx_tup1, fLen, fAbs, fInt, fMax2, fMin2, gTupF, gsCons, gsNil, D.pure, D.pures, Bool.not_true, Bool.not_false, Bool.and_true, Bool.true_and, Bool.and_false, Bool.false_and, Option.bind_some, Option.bind_none, Option.map_some, Option.map_none, bind_ite, map_ite, List.map_cons, List.map_nil, List.replicate, List.cons_append, List.nil_append, List.append_nil, List.getElem?_cons_zero, List.getElem?_cons_succ, List.set_cons_zero, List.set_cons_succ, List.length_cons, List.length_nil, Nat.reduceAdd, Nat.reduceLT, Nat.zero_add, Nat.lt_add_one, if_true, if_false, ite_true, ite_false, decide_eq_true_eq, Bool.false_eq_true, reduceCtorEq, reduceIte, Nat.reduceLeDiff, Nat.reduceEqDiff, pure_fv]
  rfl
end
end G33

set_option Elab.async false
set_option linter.all false
set_option maxRecDepth 100000
set_option maxHeartbeats 1000000
namespace G33
open PySem L2 Pz
noncomputable section
/-! the pool that a law draws from -/
abbrev p5 (a b c d e : D) : D := .lst true [a, b, c, d, e]
theorem i5_0 {a b c d e : D} : dIx (p5 a b c d e) (.int 0) = some a := dIx_lstN (o := true) (k := 0)
theorem i5_1 {a b c d e : D} : dIx (p5 a b c d e) (.int 1) = some b := dIx_lstN (o := true) (k := 1)
theorem i5_2 {a b c d e : D} : dIx (p5 a b c d e) (.int 2) = some c := dIx_lstN (o := true) (k := 2)
theorem i5_3 {a b c d e : D} : dIx (p5 a b c d e) (.int 3) = some d := dIx_lstN (o := true) (k := 3)
theorem i5_4 {a b c d e : D} : dIx (p5 a b c d e) (.int 4) = some e := dIx_lstN (o := true) (k := 4)
theorem ix5 {k : Nat} (h : k < 5) : ixN 5 (k : Int) = some k := by unfold ixN; rw [if_pos (by omega), if_pos (by omega)]; simp
theorem ix5_1 : ixN 5 1 = some 1 := ix5 (k := 1) (by omega)
theorem ix5_2 : ixN 5 2 = some 2 := ix5 (k := 2) (by omega)
theorem ix5_3 : ixN 5 3 = some 3 := ix5 (k := 3) (by omega)
theorem spread_ok (cell : Int) : ∃ z : Int, val F__law_spread [.int cell] = some (.int z) := by
  have hr : rgOk 4 = true := tst_of (by omega)
  obtain ⟨j, e⟩ := flF_fold (FT := put 3) (FB := L__law_spread_1) (fun i : Nat => D.int (i : Int)) (fun (s : Int × Int) (j : Option D) => [some (.int cell), some (.int (s.1 % 2147483647)), some (.int s.2), j])
    (fun s i => (s.1 % 2147483647 * 48271 + 12345 + i, s.2 * 2147483647 + (s.1 % 2147483647 * 48271 + 12345 + i) % 2147483647)) (List.range (4 : Int).toNat) (cell, 1) none
    fun s j y _ => ⟨some (.int y), by
      simp only [val_fnF, zsF_eq, fzAt, D.fz, wpE, mgE, List.contains_cons, List.contains_nil, Nat.reduceBEq, Bool.or_false, Bool.or_true, Bool.false_or, Bool.true_or, seqF_eq, andThen_nx, andThen_bk, andThen_ct, andThen_rt, retV_rt, retV_nx, nxF, bkF, ctF, rtF, rnF, rmF, stF, exF, put, parF, agF, ifS, forF_eq, flF_nil, flF_cons, flK_nx, flK_ct, flK_bk, flK_rt, tbF, ttF, andF, orF, notF, andV, orV, ifF, chF, b1, b2, bN, clF_val, aNil, aCons, nmF, ownF, cF, fzF, itF, inF, itOf, rng1, rng2, yesF, dTru, dNot, I.isi_non_tuple, I.isi_non_list, I.isi_non_bool, I.isi_non_int, I.isi_non_str, I.isi_bl_tuple, I.isi_bl_list, I.isi_bl_bool, I.isi_bl_int, I.isi_bl_str, I.isi_int_tuple, I.isi_int_list, I.isi_int_bool, I.isi_int_int, I.isi_int_str, I.isi_str_tuple, I.isi_str_list, I.isi_str_bool, I.isi_str_int, I.isi_str_str, I.isi_tup_tuple, I.isi_tup_list, I.isi_tup_bool, I.isi_tup_int, I.isi_tup_str, I.isi_lst_tuple, I.isi_lst_list, I.isi_lst_bool, I.isi_lst_int, I.isi_lst_str, I.isi_scr_tuple, I.isi_scr_list, I.isi_scr_bool, I.isi_scr_int, I.isi_scr_str, dEq_bl, dNe_bl, dIsN_non, dIsN_bl, dIsN_int, dIsN_str, dIsN_tup, dIsN_lst, dAdd_int, dSub_int, dEq_int, dNe_int, dLt_int, dLe_int, dGt_int, dGe_int, dAddI_int, asB_bl, dIx_tup0, dIx_tup1, fLen, fAbs, fInt, fMax2, fMin2, gTupF, gsCons, gsNil, D.pure, D.pures, Bool.not_true, Bool.not_false, Bool.and_true, Bool.true_and, Bool.and_false, Bool.false_and, Option.bind_some, Option.bind_none, Option.map_some, Option.map_none, bind_ite, map_ite, List.map_cons, List.map_nil, List.replicate, List.cons_append, List.nil_append, List.append_nil, List.getElem?_cons_zero, List.getElem?_cons_succ, List.set_cons_zero, List.set_cons_succ, List.length_cons, List.length_nil, Nat.reduceAdd, Nat.reduceLT, Nat.zero_add, Nat.lt_add_one, if_true, if_false, ite_true, ite_false, decide_eq_true_eq, Bool.false_eq_true, reduceCtorEq, reduceIte, Nat.reduceLeDiff, Nat.reduceEqDiff, L__law_spread_1, dMul, mulOk_r (show (48271 : Int).natAbs < 2 ^ 64 by decide), mulOk_r (show (2147483647 : Int).natAbs < 2 ^ 64 by decide), dMod_pos (show (0 : Int) < 2147483647 by decide)]⟩
  simp only [F__law_spread, val_fnF, zsF_eq, fzAt, D.fz, wpE, mgE, List.contains_cons, List.contains_nil, Nat.reduceBEq, Bool.or_false, Bool.or_true, Bool.false_or, Bool.true_or, seqF_eq, andThen_nx, andThen_bk, andThen_ct, andThen_rt, retV_rt, retV_nx, nxF, bkF, ctF, rtF, rnF, rmF, stF, exF, put, parF, agF, ifS, forF_eq, flF_nil, flF_cons, flK_nx, flK_ct, flK_bk, flK_rt, tbF, ttF, andF, orF, notF, andV, orV, ifF, chF, b1, b2, bN, clF_val, aNil, aCons, nmF, ownF, cF, fzF, itF, inF, itOf, rng1, rng2, yesF, dTru, dNot, I.isi_non_tuple, I.isi_non_list, I.isi_non_bool, I.isi_non_int, I.isi_non_str, I.isi_bl_tuple, I.isi_bl_list, I.isi_bl_bool, I.isi_bl_int, I.isi_bl_str, I.isi_int_tuple, I.isi_int_list, I.isi_int_bool, I.isi_int_int, I.isi_int_str, I.isi_str_tuple, I.isi_str_list, I.isi_str_bool, I.isi_str_int, I.isi_str_str, I.isi_tup_tuple, I.isi_tup_list, I.isi_tup_bool, I.isi_tup_int, I.isi_tup_str, I.isi_lst_tuple, I.isi_lst_list, I.isi_lst_bool, I.isi_lst_int, I.isi_lst_str, I.isi_scr_tuple, I.isi_scr_list, I.isi_scr_bool, I.isi_scr_int, I.isi_scr_str, dEq_bl, dNe_bl, dIsN_non, dIsN_bl, dIsN_int, dIsN_str, dIsN_tup, dIsN_lst, dAdd_int, dSub_int, dEq_int, dNe_int, dLt_int, dLe_int, dGt_int, dGe_int, dAddI_int, asB_bl, dIx_tup0, dIx_tup1, fLen, fAbs, fInt, fMax2, fMin2, gTupF, gsCons, gsNil, D.pure, D.pures, Bool.not_true, Bool.not_false, Bool.and_true, Bool.true_and, Bool.and_false, Bool.false_and, Option.bind_some, Option.bind_none, Option.map_some, Option.map_none, bind_ite, map_ite, List.map_cons, List.map_nil, List.replicate, List.cons_append, List.nil_append, List.append_nil, List.getElem?_cons_zero, List.getElem?_cons_succ, List.set_cons_zero, List.set_cons_succ, List.length_cons, List.length_nil, Nat.reduceAdd, Nat.reduceLT, Nat.zero_add, Nat.lt_add_one, if_true, if_false, ite_true, ite_false, decide_eq_true_eq, Bool.false_eq_true, reduceCtorEq, reduceIte, Nat.reduceLeDiff, Nat.reduceEqDiff, dMod_pos (show (0 : Int) < 2147483647 by decide), hr]
  simp only [e, val_fnF, zsF_eq, fzAt, D.fz, wpE, mgE, List.contains_cons, List.contains_nil, Nat.reduceBEq, Bool.or_false, Bool.or_true, Bool.false_or, Bool.true_or, seqF_eq, andThen_nx, andThen_bk, andThen_ct, andThen_rt, retV_rt, retV_nx, nxF, bkF, ctF, rtF, rnF, rmF, stF, exF, put, parF, agF, ifS, forF_eq, flF_nil, flF_cons, flK_nx, flK_ct, flK_bk, flK_rt, tbF, ttF, andF, orF, notF, andV, orV, ifF, chF, b1, b2, bN, clF_val, aNil, aCons, nmF, ownF, cF, fzF, itF, inF, itOf, rng1, rng2, yesF, dTru, dNot, I.isi_non_tuple, I.isi_non_list, I.isi_non_bool, I.isi_non_int, I.isi_non_str, I.isi_bl_tuple, I.isi_bl_list, I.isi_bl_bool, I.isi_bl_int, I.isi_bl_str, I.isi_int_tuple, I.isi_int_list, I.isi_int_bool, I.isi_int_int, I.isi_int_str, I.isi_str_tuple, I.isi_str_list, I.isi_str_bool, I.isi_str_int, I.isi_str_str, I.isi_tup_tuple, I.isi_tup_list, I.isi_tup_bool, I.isi_tup_int, I.isi_tup_str, I.isi_lst_tuple, I.isi_lst_list, I.isi_lst_bool, I.isi_lst_int, I.isi_lst_str, I.isi_scr_tuple, I.isi_scr_list, I.isi_scr_bool, I.isi_scr_int, I.isi_scr_str, dEq_bl, dNe_bl, dIsN_non, dIsN_bl, dIsN_int, dIsN_str, dIsN_tup, dIsN_lst, dAdd_int, dSub_int, dEq_int, dNe_int, dLt_int, dLe_int, dGt_int, dGe_int, dAddI_int, asB_bl, dIx_tup0, dIx_tup1, fLen, fAbs, fInt, fMax2, fMin2, gTupF, gsCons, gsNil, D.pure, D.pures, Bool.not_true, Bool.not_false, Bool.and_true, Bool.true_and, Bool.and_false, Bool.false_and, Option.bind_some, Option.bind_none, Option.map_some, Option.map_none, bind_ite, map_ite, List.map_cons, List.map_nil, List.replicate, List.cons_append, List.nil_append, List.append_nil, List.getElem?_cons_zero, List.getElem?_cons_succ, List.set_cons_zero, List.set_cons_succ, List.length_cons, List.length_nil, Nat.reduceAdd, Nat.reduceLT, Nat.zero_add, Nat.lt_add_one, if_true, if_false, ite_true, ite_false, decide_eq_true_eq, Bool.false_eq_true, reduceCtorEq, reduceIte, Nat.reduceLeDiff, Nat.reduceEqDiff]
  exact ⟨_, rfl⟩
def Pl (d : D) : Prop := ∃ (ns : List Int) (p : Nat) (v c s : Int), d = p5 (.lst true (ns.map .int)) (.int p) (.int v) (.int c) (.int s)
theorem pool_ok (ns : List Int) : ∃ d, val F__law_pool [.scr ns] = some d ∧ Pl d := by
  obtain ⟨j, e⟩ := flF_fold (FT := put 2) (FB := L__law_pool_1) D.int (fun (s : Int) (j : Option D) => [some (.scr ns), some (.int s), j])
    (fun s i => (s * 31 + i) % 1000003) (cutD ns none (some 63)) 7 none
    fun s j y _ => ⟨some (.int y), by
      simp only [val_fnF, zsF_eq, fzAt, D.fz, wpE, mgE, List.contains_cons, List.contains_nil, Nat.reduceBEq, Bool.or_false, Bool.or_true, Bool.false_or, Bool.true_or, seqF_eq, andThen_nx, andThen_bk, andThen_ct, andThen_rt, retV_rt, retV_nx, nxF, bkF, ctF, rtF, rnF, rmF, stF, exF, put, parF, agF, ifS, forF_eq, flF_nil, flF_cons, flK_nx, flK_ct, flK_bk, flK_rt, tbF, ttF, andF, orF, notF, andV, orV, ifF, chF, b1, b2, bN, clF_val, aNil, aCons, nmF, ownF, cF, fzF, itF, inF, itOf, rng1, rng2, yesF, dTru, dNot, I.isi_non_tuple, I.isi_non_list, I.isi_non_bool, I.isi_non_int, I.isi_non_str, I.isi_bl_tuple, I.isi_bl_list, I.isi_bl_bool, I.isi_bl_int, I.isi_bl_str, I.isi_int_tuple, I.isi_int_list, I.isi_int_bool, I.isi_int_int, I.isi_int_str, I.isi_str_tuple, I.isi_str_list, I.isi_str_bool, I.isi_str_int, I.isi_str_str, I.isi_tup_tuple, I.isi_tup_list, I.isi_tup_bool, I.isi_tup_int, I.isi_tup_str, I.isi_lst_tuple, I.isi_lst_list, I.isi_lst_bool, I.isi_lst_int, I.isi_lst_str, I.isi_scr_tuple, I.isi_scr_list, I.isi_scr_bool, I.isi_scr_int, I.isi_scr_str, dEq_bl, dNe_bl, dIsN_non, dIsN_bl, dIsN_int, dIsN_str, dIsN_tup, dIsN_lst, dAdd_int, dSub_int, dEq_int, dNe_int, dLt_int, dLe_int, dGt_int, dGe_int, dAddI_int, asB_bl, dIx_tup0, dIx_tup1, fLen, fAbs, fInt, fMax2, fMin2, gTupF, gsCons, gsNil, D.pure, D.pures, Bool.not_true, Bool.not_false, Bool.and_true, Bool.true_and, Bool.and_false, Bool.false_and, Option.bind_some, Option.bind_none, Option.map_some, Option.map_none, bind_ite, map_ite, List.map_cons, List.map_nil, List.replicate, List.cons_append, List.nil_append, List.append_nil, List.getElem?_cons_zero, List.getElem?_cons_succ, List.set_cons_zero, List.set_cons_succ, List.length_cons, List.length_nil, Nat.reduceAdd, Nat.reduceLT, Nat.zero_add, Nat.lt_add_one, if_true, if_false, ite_true, ite_false, decide_eq_true_eq, Bool.false_eq_true, reduceCtorEq, reduceIte, Nat.reduceLeDiff, Nat.reduceEqDiff, L__law_pool_1, dMul, mulOk_r (show (31 : Int).natAbs < 2 ^ 64 by decide), dMod_pos (show (0 : Int) < 1000003 by decide)]⟩
  have el : (D.fzs ((cutD ns none (some 63)).map D.int)) = (cutD ns none (some 63)).map D.int := by
    rw [D.fzs_map, List.map_map]; rfl
  have e2 : val F__law_pool [.scr ns] = some (p5 (.lst true (ns.map .int)) (.int (0 : Nat)) (.int 0) (.int 0) (.int ((cutD ns none (some 63)).foldl (fun s i => (s * 31 + i) % 1000003) 7))) := by
    simp only [F__law_pool, val_fnF, zsF_eq, fzAt, D.fz, wpE, mgE, List.contains_cons, List.contains_nil, Nat.reduceBEq, Bool.or_false, Bool.or_true, Bool.false_or, Bool.true_or, seqF_eq, andThen_nx, andThen_bk, andThen_ct, andThen_rt, retV_rt, retV_nx, nxF, bkF, ctF, rtF, rnF, rmF, stF, exF, put, parF, agF, ifS, forF_eq, flF_nil, flF_cons, flK_nx, flK_ct, flK_bk, flK_rt, tbF, ttF, andF, orF, notF, andV, orV, ifF, chF, b1, b2, bN, clF_val, aNil, aCons, nmF, ownF, cF, fzF, itF, inF, itOf, rng1, rng2, yesF, dTru, dNot, I.isi_non_tuple, I.isi_non_list, I.isi_non_bool, I.isi_non_int, I.isi_non_str, I.isi_bl_tuple, I.isi_bl_list, I.isi_bl_bool, I.isi_bl_int, I.isi_bl_str, I.isi_int_tuple, I.isi_int_list, I.isi_int_bool, I.isi_int_int, I.isi_int_str, I.isi_str_tuple, I.isi_str_list, I.isi_str_bool, I.isi_str_int, I.isi_str_str, I.isi_tup_tuple, I.isi_tup_list, I.isi_tup_bool, I.isi_tup_int, I.isi_tup_str, I.isi_lst_tuple, I.isi_lst_list, I.isi_lst_bool, I.isi_lst_int, I.isi_lst_str, I.isi_scr_tuple, I.isi_scr_list, I.isi_scr_bool, I.isi_scr_int, I.isi_scr_str, dEq_bl, dNe_bl, dIsN_non, dIsN_bl, dIsN_int, dIsN_str, dIsN_tup, dIsN_lst, dAdd_int, dSub_int, dEq_int, dNe_int, dLt_int, dLe_int, dGt_int, dGe_int, dAddI_int, asB_bl, dIx_tup0, dIx_tup1, fLen, fAbs, fInt, fMax2, fMin2, gTupF, gsCons, gsNil, D.pure, D.pures, Bool.not_true, Bool.not_false, Bool.and_true, Bool.true_and, Bool.and_false, Bool.false_and, Option.bind_some, Option.bind_none, Option.map_some, Option.map_none, bind_ite, map_ite, List.map_cons, List.map_nil, List.replicate, List.cons_append, List.nil_append, List.append_nil, List.getElem?_cons_zero, List.getElem?_cons_succ, List.set_cons_zero, List.set_cons_succ, List.length_cons, List.length_nil, Nat.reduceAdd, Nat.reduceLT, Nat.zero_add, Nat.lt_add_one, if_true, if_false, ite_true, ite_false, decide_eq_true_eq, Bool.false_eq_true, reduceCtorEq, reduceIte, Nat.reduceLeDiff, Nat.reduceEqDiff, bSl, noPt, ptF, ptI, dSl, el]
    simp only [e, val_fnF, zsF_eq, fzAt, D.fz, wpE, mgE, List.contains_cons, List.contains_nil, Nat.reduceBEq, Bool.or_false, Bool.or_true, Bool.false_or, Bool.true_or, seqF_eq, andThen_nx, andThen_bk, andThen_ct, andThen_rt, retV_rt, retV_nx, nxF, bkF, ctF, rtF, rnF, rmF, stF, exF, put, parF, agF, ifS, forF_eq, flF_nil, flF_cons, flK_nx, flK_ct, flK_bk, flK_rt, tbF, ttF, andF, orF, notF, andV, orV, ifF, chF, b1, b2, bN, clF_val, aNil, aCons, nmF, ownF, cF, fzF, itF, inF, itOf, rng1, rng2, yesF, dTru, dNot, I.isi_non_tuple, I.isi_non_list, I.isi_non_bool, I.isi_non_int, I.isi_non_str, I.isi_bl_tuple, I.isi_bl_list, I.isi_bl_bool, I.isi_bl_int, I.isi_bl_str, I.isi_int_tuple, I.isi_int_list, I.isi_int_bool, I.isi_int_int, I.isi_int_str, I.isi_str_tuple, I.isi_str_list, I.isi_str_bool, I.isi_str_int, I.isi_str_str, I.isi_tup_tuple, I.isi_tup_list, I.isi_tup_bool, I.isi_tup_int, I.isi_tup_str, I.isi_lst_tuple, I.isi_lst_list, I.isi_lst_bool, I.isi_lst_int, I.isi_lst_str, I.isi_scr_tuple, I.isi_scr_list, I.isi_scr_bool, I.isi_scr_int, I.isi_scr_str, dEq_bl, dNe_bl, dIsN_non, dIsN_bl, dIsN_int, dIsN_str, dIsN_tup, dIsN_lst, dAdd_int, dSub_int, dEq_int, dNe_int, dLt_int, dLe_int, dGt_int, dGe_int, dAddI_int, asB_bl, dIx_tup0, dIx_tup1, fLen, fAbs, fInt, fMax2, fMin2, gTupF, gsCons, gsNil, D.pure, D.pures, Bool.not_true, Bool.not_false, Bool.and_true, Bool.true_and, Bool.and_false, Bool.false_and, Option.bind_some, Option.bind_none, Option.map_some, Option.map_none, bind_ite, map_ite, List.map_cons, List.map_nil, List.replicate, List.cons_append, List.nil_append, List.append_nil, List.getElem?_cons_zero, List.getElem?_cons_succ, List.set_cons_zero, List.set_cons_succ, List.length_cons, List.length_nil, Nat.reduceAdd, Nat.reduceLT, Nat.zero_add, Nat.lt_add_one, if_true, if_false, ite_true, ite_false, decide_eq_true_eq, Bool.false_eq_true, reduceCtorEq, reduceIte, Nat.reduceLeDiff, Nat.reduceEqDiff, fList]
    rw [dLst_le (by simp)]
    rfl
  exact ⟨_, e2, ns, 0, 0, 0, _, rfl⟩
theorem draw_ok {d : D} (h : Pl d) {m : Int} (h0 : 0 < m) (h1 : m < 2 ^ 60) : ∃ r d', F__law_draw [d, .int m] = some (.int r, [some d', some (.int m)]) ∧ Pl d' ∧ 0 ≤ r ∧ r < m := by
  obtain ⟨ns, p, v, c, s, rfl⟩ := h
  have dm : divOk m = true := divOk_of (b := 60) (by omega) (by omega)
  have d5 : divOk 5 = true := divOk_of (b := 60) (by omega) (by decide)
  have bd : ∀ z : Int, 0 ≤ z % m ∧ z % m < m := fun z => ⟨Int.emod_nonneg _ (by omega), Int.emod_lt_of_pos _ h0⟩
  by_cases hA : v ≤ 0 ∧ p < ns.length
  · obtain ⟨hv, hp⟩ := hA
    have hp' : (p : Int) < (ns.length : Int) := by omega
    have eg : ns[p]? = some ns[p] := by simp [hp]
    have ec : (p : Int) + 1 = ((p + 1 : Nat) : Int) := by omega
    by_cases hc : ns[p] < 1000000000000000000
    · obtain ⟨z, ez⟩ := spread_ok ns[p]
      by_cases hz : z ≤ 0
      · have e := show F__law_draw [p5 (.lst true (ns.map .int)) (.int p) (.int v) (.int c) (.int s), .int m] = some (.int _, [some (p5 (.lst true (ns.map .int)) (.int ((p + 1 : Nat) : Int)) (.int z) (.int (c + 1)) (.int s)), some (.int m)]) by
          simp only [F__law_draw, hv, hp', eg, hc, ez, hz, decide_true, decide_false, ec, val_fnF, zsF_eq, fzAt, D.fz, wpE, mgE, List.contains_cons, List.contains_nil, Nat.reduceBEq, Bool.or_false, Bool.or_true, Bool.false_or, Bool.true_or, seqF_eq, andThen_nx, andThen_bk, andThen_ct, andThen_rt, retV_rt, retV_nx, nxF, bkF, ctF, rtF, rnF, rmF, stF, exF, put, parF, agF, ifS, forF_eq, flF_nil, flF_cons, flK_nx, flK_ct, flK_bk, flK_rt, tbF, ttF, andF, orF, notF, andV, orV, ifF, chF, b1, b2, bN, clF_val, aNil, aCons, nmF, ownF, cF, fzF, itF, inF, itOf, rng1, rng2, yesF, dTru, dNot, I.isi_non_tuple, I.isi_non_list, I.isi_non_bool, I.isi_non_int, I.isi_non_str, I.isi_bl_tuple, I.isi_bl_list, I.isi_bl_bool, I.isi_bl_int, I.isi_bl_str, I.isi_int_tuple, I.isi_int_list, I.isi_int_bool, I.isi_int_int, I.isi_int_str, I.isi_str_tuple, I.isi_str_list, I.isi_str_bool, I.isi_str_int, I.isi_str_str, I.isi_tup_tuple, I.isi_tup_list, I.isi_tup_bool, I.isi_tup_int, I.isi_tup_str, I.isi_lst_tuple, I.isi_lst_list, I.isi_lst_bool, I.isi_lst_int, I.isi_lst_str, I.isi_scr_tuple, I.isi_scr_list, I.isi_scr_bool, I.isi_scr_int, I.isi_scr_str, dEq_bl, dNe_bl, dIsN_non, dIsN_bl, dIsN_int, dIsN_str, dIsN_tup, dIsN_lst, dAdd_int, dSub_int, dEq_int, dNe_int, dLt_int, dLe_int, dGt_int, dGe_int, dAddI_int, asB_bl, dIx_tup0, dIx_tup1, fLen, fAbs, fInt, fMax2, fMin2, gTupF, gsCons, gsNil, D.pure, D.pures, Bool.not_true, Bool.not_false, Bool.and_true, Bool.true_and, Bool.and_false, Bool.false_and, Option.bind_some, Option.bind_none, Option.map_some, Option.map_none, bind_ite, map_ite, List.map_cons, List.map_nil, List.replicate, List.cons_append, List.nil_append, List.append_nil, List.getElem?_cons_zero, List.getElem?_cons_succ, List.set_cons_zero, List.set_cons_succ, List.length_cons, List.length_nil, Nat.reduceAdd, Nat.reduceLT, Nat.zero_add, Nat.lt_add_one, if_true, if_false, ite_true, ite_false, decide_eq_true_eq, Bool.false_eq_true, reduceCtorEq, reduceIte, Nat.reduceLeDiff, Nat.reduceEqDiff, i5_0, i5_1, i5_2, i5_3, i5_4, siF, isL, ix5_1, ix5_2, ix5_3, dIx_lstN, List.getElem?_map, List.length_map, dMul, mulOk_r (show (48271 : Int).natAbs < 2 ^ 64 by decide), mulOk_r (show (69621 : Int).natAbs < 2 ^ 64 by decide), mulOk_r (show (16807 : Int).natAbs < 2 ^ 64 by decide), dMod_pos (show (0 : Int) < 2147483647 by decide), dMod_pos (show (0 : Int) < 2147483629 by decide), dDiv_pos (show (0 : Int) < 5 by decide) d5, dMod_pos h0, dDiv_pos h0 dm, fnF, wpE, List.take_succ_cons, List.take_zero]
          rfl
        exact ⟨_, _, e, ⟨_, _, _, _, _, rfl⟩, bd _⟩
      · have e := show F__law_draw [p5 (.lst true (ns.map .int)) (.int p) (.int v) (.int c) (.int s), .int m] = some (.int _, [some (p5 (.lst true (ns.map .int)) (.int ((p + 1 : Nat) : Int)) (.int (z / m)) (.int (c + 1)) (.int s)), some (.int m)]) by
          simp only [F__law_draw, hv, hp', eg, hc, ez, hz, decide_true, decide_false, ec, val_fnF, zsF_eq, fzAt, D.fz, wpE, mgE, List.contains_cons, List.contains_nil, Nat.reduceBEq, Bool.or_false, Bool.or_true, Bool.false_or, Bool.true_or, seqF_eq, andThen_nx, andThen_bk, andThen_ct, andThen_rt, retV_rt, retV_nx, nxF, bkF, ctF, rtF, rnF, rmF, stF, exF, put, parF, agF, ifS, forF_eq, flF_nil, flF_cons, flK_nx, flK_ct, flK_bk, flK_rt, tbF, ttF, andF, orF, notF, andV, orV, ifF, chF, b1, b2, bN, clF_val, aNil, aCons, nmF, ownF, cF, fzF, itF, inF, itOf, rng1, rng2, yesF, dTru, dNot, I.isi_non_tuple, I.isi_non_list, I.isi_non_bool, I.isi_non_int, I.isi_non_str, I.isi_bl_tuple, I.isi_bl_list, I.isi_bl_bool, I.isi_bl_int, I.isi_bl_str, I.isi_int_tuple, I.isi_int_list, I.isi_int_bool, I.isi_int_int, I.isi_int_str, I.isi_str_tuple, I.isi_str_list, I.isi_str_bool, I.isi_str_int, I.isi_str_str, I.isi_tup_tuple, I.isi_tup_list, I.isi_tup_bool, I.isi_tup_int, I.isi_tup_str, I.isi_lst_tuple, I.isi_lst_list, I.isi_lst_bool, I.isi_lst_int, I.isi_lst_str, I.isi_scr_tuple, I.isi_scr_list, I.isi_scr_bool, I.isi_scr_int, I.isi_scr_str, dEq_bl, dNe_bl, dIsN_non, dIsN_bl, dIsN_int, dIsN_str, dIsN_tup, dIsN_lst, dAdd_int, dSub_int, dEq_int, dNe_int, dLt_int, dLe_int, dGt_int, dGe_int, dAddI_int, asB_bl, dIx_tup0, dIx_tup1, fLen, fAbs, fInt, fMax2, fMin2, gTupF, gsCons, gsNil, D.pure, D.pures, Bool.not_true, Bool.not_false, Bool.and_true, Bool.true_and, Bool.and_false, Bool.false_and, Option.bind_some, Option.bind_none, Option.map_some, Option.map_none, bind_ite, map_ite, List.map_cons, List.map_nil, List.replicate, List.cons_append, List.nil_append, List.append_nil, List.getElem?_cons_zero, List.getElem?_cons_succ, List.set_cons_zero, List.set_cons_succ, List.length_cons, List.length_nil, Nat.reduceAdd, Nat.reduceLT, Nat.zero_add, Nat.lt_add_one, if_true, if_false, ite_true, ite_false, decide_eq_true_eq, Bool.false_eq_true, reduceCtorEq, reduceIte, Nat.reduceLeDiff, Nat.reduceEqDiff, i5_0, i5_1, i5_2, i5_3, i5_4, siF, isL, ix5_1, ix5_2, ix5_3, dIx_lstN, List.getElem?_map, List.length_map, dMul, mulOk_r (show (48271 : Int).natAbs < 2 ^ 64 by decide), mulOk_r (show (69621 : Int).natAbs < 2 ^ 64 by decide), mulOk_r (show (16807 : Int).natAbs < 2 ^ 64 by decide), dMod_pos (show (0 : Int) < 2147483647 by decide), dMod_pos (show (0 : Int) < 2147483629 by decide), dDiv_pos (show (0 : Int) < 5 by decide) d5, dMod_pos h0, dDiv_pos h0 dm, fnF, wpE, List.take_succ_cons, List.take_zero]
          rfl
        exact ⟨_, _, e, ⟨_, _, _, _, _, rfl⟩, bd _⟩
    · have hz : ¬ ns[p] ≤ 0 := by omega
      have e := show F__law_draw [p5 (.lst true (ns.map .int)) (.int p) (.int v) (.int c) (.int s), .int m] = some (.int _, [some (p5 (.lst true (ns.map .int)) (.int ((p + 1 : Nat) : Int)) (.int (ns[p] / m)) (.int (c + 1)) (.int s)), some (.int m)]) by
        simp only [F__law_draw, hv, hp', eg, hc, hz, decide_true, decide_false, ec, val_fnF, zsF_eq, fzAt, D.fz, wpE, mgE, List.contains_cons, List.contains_nil, Nat.reduceBEq, Bool.or_false, Bool.or_true, Bool.false_or, Bool.true_or, seqF_eq, andThen_nx, andThen_bk, andThen_ct, andThen_rt, retV_rt, retV_nx, nxF, bkF, ctF, rtF, rnF, rmF, stF, exF, put, parF, agF, ifS, forF_eq, flF_nil, flF_cons, flK_nx, flK_ct, flK_bk, flK_rt, tbF, ttF, andF, orF, notF, andV, orV, ifF, chF, b1, b2, bN, clF_val, aNil, aCons, nmF, ownF, cF, fzF, itF, inF, itOf, rng1, rng2, yesF, dTru, dNot, I.isi_non_tuple, I.isi_non_list, I.isi_non_bool, I.isi_non_int, I.isi_non_str, I.isi_bl_tuple, I.isi_bl_list, I.isi_bl_bool, I.isi_bl_int, I.isi_bl_str, I.isi_int_tuple, I.isi_int_list, I.isi_int_bool, I.isi_int_int, I.isi_int_str, I.isi_str_tuple, I.isi_str_list, I.isi_str_bool, I.isi_str_int, I.isi_str_str, I.isi_tup_tuple, I.isi_tup_list, I.isi_tup_bool, I.isi_tup_int, I.isi_tup_str, I.isi_lst_tuple, I.isi_lst_list, I.isi_lst_bool, I.isi_lst_int, I.isi_lst_str, I.isi_scr_tuple, I.isi_scr_list, I.isi_scr_bool, I.isi_scr_int, I.isi_scr_str, dEq_bl, dNe_bl, dIsN_non, dIsN_bl, dIsN_int, dIsN_str, dIsN_tup, dIsN_lst, dAdd_int, dSub_int, dEq_int, dNe_int, dLt_int, dLe_int, dGt_int, dGe_int, dAddI_int, asB_bl, dIx_tup0, dIx_tup1, fLen, fAbs, fInt, fMax2, fMin2, gTupF, gsCons, gsNil, D.pure, D.pures, Bool.not_true, Bool.not_false, Bool.and_true, Bool.true_and, Bool.and_false, Bool.false_and, Option.bind_some, Option.bind_none, Option.map_some, Option.map_none, bind_ite, map_ite, List.map_cons, List.map_nil, List.replicate, List.cons_append, List.nil_append, List.append_nil, List.getElem?_cons_zero, List.getElem?_cons_succ, List.set_cons_zero, List.set_cons_succ, List.length_cons, List.length_nil, Nat.reduceAdd, Nat.reduceLT, Nat.zero_add, Nat.lt_add_one, if_true, if_false, ite_true, ite_false, decide_eq_true_eq, Bool.false_eq_true, reduceCtorEq, reduceIte, Nat.reduceLeDiff, Nat.reduceEqDiff, i5_0, i5_1, i5_2, i5_3, i5_4, siF, isL, ix5_1, ix5_2, ix5_3, dIx_lstN, List.getElem?_map, List.length_map, dMul, mulOk_r (show (48271 : Int).natAbs < 2 ^ 64 by decide), mulOk_r (show (69621 : Int).natAbs < 2 ^ 64 by decide), mulOk_r (show (16807 : Int).natAbs < 2 ^ 64 by decide), dMod_pos (show (0 : Int) < 2147483647 by decide), dMod_pos (show (0 : Int) < 2147483629 by decide), dDiv_pos (show (0 : Int) < 5 by decide) d5, dMod_pos h0, dDiv_pos h0 dm, fnF, wpE, List.take_succ_cons, List.take_zero]
        rfl
      exact ⟨_, _, e, ⟨_, _, _, _, _, rfl⟩, bd _⟩
  · have hB : v ≤ 0 → ¬ (p : Int) < (ns.length : Int) := fun h k => hA ⟨h, by omega⟩
    by_cases hv : v ≤ 0
    · have hp' := hB hv
      have e := show F__law_draw [p5 (.lst true (ns.map .int)) (.int p) (.int v) (.int c) (.int s), .int m] = some (.int _, [some (p5 (.lst true (ns.map .int)) (.int p) (.int v) (.int (c + 1)) (.int s)), some (.int m)]) by
        simp only [F__law_draw, hv, hp', decide_true, decide_false, val_fnF, zsF_eq, fzAt, D.fz, wpE, mgE, List.contains_cons, List.contains_nil, Nat.reduceBEq, Bool.or_false, Bool.or_true, Bool.false_or, Bool.true_or, seqF_eq, andThen_nx, andThen_bk, andThen_ct, andThen_rt, retV_rt, retV_nx, nxF, bkF, ctF, rtF, rnF, rmF, stF, exF, put, parF, agF, ifS, forF_eq, flF_nil, flF_cons, flK_nx, flK_ct, flK_bk, flK_rt, tbF, ttF, andF, orF, notF, andV, orV, ifF, chF, b1, b2, bN, clF_val, aNil, aCons, nmF, ownF, cF, fzF, itF, inF, itOf, rng1, rng2, yesF, dTru, dNot, I.isi_non_tuple, I.isi_non_list, I.isi_non_bool, I.isi_non_int, I.isi_non_str, I.isi_bl_tuple, I.isi_bl_list, I.isi_bl_bool, I.isi_bl_int, I.isi_bl_str, I.isi_int_tuple, I.isi_int_list, I.isi_int_bool, I.isi_int_int, I.isi_int_str, I.isi_str_tuple, I.isi_str_list, I.isi_str_bool, I.isi_str_int, I.isi_str_str, I.isi_tup_tuple, I.isi_tup_list, I.isi_tup_bool, I.isi_tup_int, I.isi_tup_str, I.isi_lst_tuple, I.isi_lst_list, I.isi_lst_bool, I.isi_lst_int, I.isi_lst_str, I.isi_scr_tuple, I.isi_scr_list, I.isi_scr_bool, I.isi_scr_int, I.isi_scr_str, dEq_bl, dNe_bl, dIsN_non, dIsN_bl, dIsN_int, dIsN_str, dIsN_tup, dIsN_lst, dAdd_int, dSub_int, dEq_int, dNe_int, dLt_int, dLe_int, dGt_int, dGe_int, dAddI_int, asB_bl, dIx_tup0, dIx_tup1, fLen, fAbs, fInt, fMax2, fMin2, gTupF, gsCons, gsNil, D.pure, D.pures, Bool.not_true, Bool.not_false, Bool.and_true, Bool.true_and, Bool.and_false, Bool.false_and, Option.bind_some, Option.bind_none, Option.map_some, Option.map_none, bind_ite, map_ite, List.map_cons, List.map_nil, List.replicate, List.cons_append, List.nil_append, List.append_nil, List.getElem?_cons_zero, List.getElem?_cons_succ, List.set_cons_zero, List.set_cons_succ, List.length_cons, List.length_nil, Nat.reduceAdd, Nat.reduceLT, Nat.zero_add, Nat.lt_add_one, if_true, if_false, ite_true, ite_false, decide_eq_true_eq, Bool.false_eq_true, reduceCtorEq, reduceIte, Nat.reduceLeDiff, Nat.reduceEqDiff, i5_0, i5_1, i5_2, i5_3, i5_4, siF, isL, ix5_1, ix5_2, ix5_3, dIx_lstN, List.getElem?_map, List.length_map, dMul, mulOk_r (show (48271 : Int).natAbs < 2 ^ 64 by decide), mulOk_r (show (69621 : Int).natAbs < 2 ^ 64 by decide), mulOk_r (show (16807 : Int).natAbs < 2 ^ 64 by decide), dMod_pos (show (0 : Int) < 2147483647 by decide), dMod_pos (show (0 : Int) < 2147483629 by decide), dDiv_pos (show (0 : Int) < 5 by decide) d5, dMod_pos h0, dDiv_pos h0 dm, fnF, wpE, List.take_succ_cons, List.take_zero]
        rfl
      exact ⟨_, _, e, ⟨_, _, _, _, _, rfl⟩, bd _⟩
    · have e := show F__law_draw [p5 (.lst true (ns.map .int)) (.int p) (.int v) (.int c) (.int s), .int m] = some (.int _, [some (p5 (.lst true (ns.map .int)) (.int p) (.int (v / m)) (.int (c + 1)) (.int s)), some (.int m)]) by
        simp only [F__law_draw, hv, decide_true, decide_false, val_fnF, zsF_eq, fzAt, D.fz, wpE, mgE, List.contains_cons, List.contains_nil, Nat.reduceBEq, Bool.or_false, Bool.or_true, Bool.false_or, Bool.true_or, seqF_eq, andThen_nx, andThen_bk, andThen_ct, andThen_rt, retV_rt, retV_nx, nxF, bkF, ctF, rtF, rnF, rmF, stF, exF, put, parF, agF, ifS, forF_eq, flF_nil, flF_cons, flK_nx, flK_ct, flK_bk, flK_rt, tbF, ttF, andF, orF, notF, andV, orV, ifF, chF, b1, b2, bN, clF_val, aNil, aCons, nmF, ownF, cF, fzF, itF, inF, itOf, rng1, rng2, yesF, dTru, dNot, I.isi_non_tuple, I.isi_non_list, I.isi_non_bool, I.isi_non_int, I.isi_non_str, I.isi_bl_tuple, I.isi_bl_list, I.isi_bl_bool, I.isi_bl_int, I.isi_bl_str, I.isi_int_tuple, I.isi_int_list, I.isi_int_bool, I.isi_int_int, I.isi_int_str, I.isi_str_tuple, I.isi_str_list, I.isi_str_bool, I.isi_str_int, I.isi_str_str, I.isi_tup_tuple, I.isi_tup_list, I.isi_tup_bool, I.isi_tup_int, I.isi_tup_str, I.isi_lst_tuple, I.isi_lst_list, I.isi_lst_bool, I.isi_lst_int, I.isi_lst_str, I.isi_scr_tuple, I.isi_scr_list, I.isi_scr_bool, I.isi_scr_int, I.isi_scr_str, dEq_bl, dNe_bl, dIsN_non, dIsN_bl, dIsN_int, dIsN_str, dIsN_tup, dIsN_lst, dAdd_int, dSub_int, dEq_int, dNe_int, dLt_int, dLe_int, dGt_int, dGe_int, dAddI_int, asB_bl, dIx_tup0, dIx_tup1, fLen, fAbs, fInt, fMax2, fMin2, gTupF, gsCons, gsNil, D.pure, D.pures, Bool.not_true, Bool.not_false, Bool.and_true, Bool.true_and, Bool.and_false, Bool.false_and, Option.bind_some, Option.bind_none, Option.map_some, Option.map_none, bind_ite, map_ite, List.map_cons, List.map_nil, List.replicate, List.cons_append, List.nil_append, List.append_nil, List.getElem?_cons_zero, List.getElem?_cons_succ, List.set_cons_zero, List.set_cons_succ, List.length_cons, List.length_nil, Nat.reduceAdd, Nat.reduceLT, Nat.zero_add, Nat.lt_add_one, if_true, if_false, ite_true, ite_false, decide_eq_true_eq, Bool.false_eq_true, reduceCtorEq, reduceIte, Nat.reduceLeDiff, Nat.reduceEqDiff, i5_0, i5_1, i5_2, i5_3, i5_4, siF, isL, ix5_1, ix5_2, ix5_3, dIx_lstN, List.getElem?_map, List.length_map, dMul, mulOk_r (show (48271 : Int).natAbs < 2 ^ 64 by decide), mulOk_r (show (69621 : Int).natAbs < 2 ^ 64 by decide), mulOk_r (show (16807 : Int).natAbs < 2 ^ 64 by decide), dMod_pos (show (0 : Int) < 2147483647 by decide), dMod_pos (show (0 : Int) < 2147483629 by decide), dDiv_pos (show (0 : Int) < 5 by decide) d5, dMod_pos h0, dDiv_pos h0 dm, fnF, wpE, List.take_succ_cons, List.take_zero]
        rfl
      exact ⟨_, _, e, ⟨_, _, _, _, _, rfl⟩, bd _⟩
theorem lendE {d d' : D} {m : Int} {e : En} {r : Int} {k : Nat} {FE : En → Option (D × En)} (h : F__law_draw [d, .int m] = some (.int r, [some d', some (.int m)])) (hd : Pl d) (hk : e[k]? = some (some d)) (hf : FE e = some (.int m, e)) :
    lcallF [some k, none] F__law_draw (aConsL k (aCons FE aNil)) e = some (.int r, (e.set k none).set k (some d')) := by
  obtain ⟨ns, p, v, c, s, rfl⟩ := hd
  simp only [lcallF, aCons, aConsL, hk, hf, aNil, Option.bind_some, Option.map_some, h, giveE, D.pure, Bool.not_true, Bool.false_and, Bool.false_eq_true, if_false]
theorem Pl.np {d : D} (h : Pl d) : d.pure = false := by
  obtain ⟨ns, p, v, c, s, rfl⟩ := h
  rfl
end
end G33

set_option Elab.async false
set_option linter.all false
set_option maxRecDepth 100000
set_option maxHeartbeats 1000000
namespace G33
open PySem L2 Pz
noncomputable section
/-! the law's comparison: a thing is the same as itself -/
theorem same_seq {r : List D → Option (D × En)} {a : D} {xs : List D} (ha : ∀ k : Nat, dIx a (.int (k : Int)) = xs[k]?) (hp : D.pures xs = true) (hr : ∀ x ∈ xs, val r [x, x] = some (.bl true)) (hl : xs.length ≤ 1000000) :
    ∃ j, flF (put 2) (L__law_same_1 r) ((List.range (xs.length : Int).toNat).map fun i : Nat => .int (i : Int)) [some a, some a, none] = some (.nx, [some a, some a, j]) := by
  obtain ⟨j, e⟩ := flF_fold (FT := put 2) (FB := L__law_same_1 r) (fun i : Nat => D.int (i : Int)) (fun (_ : Unit) (j : Option D) => [some a, some a, j]) (fun _ _ => ()) (List.range (xs.length : Int).toNat) () none
    fun s j y hy => ⟨some (.int y), by
      have hy' : y < xs.length := by simpa using hy
      have q : xs[y]? = some xs[y] := by simp [hy']
      have p : xs[y].pure = true := by
        rw [D.pures_all] at hp
        exact List.all_eq_true.mp hp _ (List.getElem_mem hy')
      simp only [val_fnF, zsF_eq, fzAt, D.fz, wpE, mgE, List.contains_cons, List.contains_nil, Nat.reduceBEq, Bool.or_false, Bool.or_true, Bool.false_or, Bool.true_or, seqF_eq, andThen_nx, andThen_bk, andThen_ct, andThen_rt, retV_rt, retV_nx, nxF, bkF, ctF, rtF, rnF, rmF, stF, exF, put, parF, agF, ifS, forF_eq, flF_nil, flF_cons, flK_nx, flK_ct, flK_bk, flK_rt, tbF, ttF, andF, orF, notF, andV, orV, ifF, chF, b1, b2, bN, clF_val, aNil, aCons, nmF, ownF, cF, fzF, itF, inF, itOf, rng1, rng2, yesF, dTru, dNot, I.isi_non_tuple, I.isi_non_list, I.isi_non_bool, I.isi_non_int, I.isi_non_str, I.isi_bl_tuple, I.isi_bl_list, I.isi_bl_bool, I.isi_bl_int, I.isi_bl_str, I.isi_int_tuple, I.isi_int_list, I.isi_int_bool, I.isi_int_int, I.isi_int_str, I.isi_str_tuple, I.isi_str_list, I.isi_str_bool, I.isi_str_int, I.isi_str_str, I.isi_tup_tuple, I.isi_tup_list, I.isi_tup_bool, I.isi_tup_int, I.isi_tup_str, I.isi_lst_tuple, I.isi_lst_list, I.isi_lst_bool, I.isi_lst_int, I.isi_lst_str, I.isi_scr_tuple, I.isi_scr_list, I.isi_scr_bool, I.isi_scr_int, I.isi_scr_str, dEq_bl, dNe_bl, dIsN_non, dIsN_bl, dIsN_int, dIsN_str, dIsN_tup, dIsN_lst, dAdd_int, dSub_int, dEq_int, dNe_int, dLt_int, dLe_int, dGt_int, dGe_int, dAddI_int, asB_bl, dIx_tup0, dIx_tup1, fLen, fAbs, fInt, fMax2, fMin2, gTupF, gsCons, gsNil, D.pure, D.pures, Bool.not_true, Bool.not_false, Bool.and_true, Bool.true_and, Bool.and_false, Bool.false_and, Option.bind_some, Option.bind_none, Option.map_some, Option.map_none, bind_ite, map_ite, List.map_cons, List.map_nil, List.replicate, List.cons_append, List.nil_append, List.append_nil, List.getElem?_cons_zero, List.getElem?_cons_succ, List.set_cons_zero, List.set_cons_succ, List.length_cons, List.length_nil, Nat.reduceAdd, Nat.reduceLT, Nat.zero_add, Nat.lt_add_one, if_true, if_false, ite_true, ite_false, decide_eq_true_eq, Bool.false_eq_true, reduceCtorEq, reduceIte, Nat.reduceLeDiff, Nat.reduceEqDiff, L__law_same_1, ha, q, p, hr _ (List.getElem_mem hy')]⟩
  exact ⟨j, e⟩
theorem same_rec : ∀ (n : Nat) (d : D), d.nice = true → d.dep < n → n ≤ 60 → val (recF B__law_same n) [d, d] = some (.bl true)
  | 0, _, _, h, _ => by omega
  | n + 1, .non, _, _, _ => by simp only [recF_succ, B__law_same, val_fnF, zsF_eq, fzAt, D.fz, wpE, mgE, List.contains_cons, List.contains_nil, Nat.reduceBEq, Bool.or_false, Bool.or_true, Bool.false_or, Bool.true_or, seqF_eq, andThen_nx, andThen_bk, andThen_ct, andThen_rt, retV_rt, retV_nx, nxF, bkF, ctF, rtF, rnF, rmF, stF, exF, put, parF, agF, ifS, forF_eq, flF_nil, flF_cons, flK_nx, flK_ct, flK_bk, flK_rt, tbF, ttF, andF, orF, notF, andV, orV, ifF, chF, b1, b2, bN, clF_val, aNil, aCons, nmF, ownF, cF, fzF, itF, inF, itOf, rng1, rng2, yesF, dTru, dNot, I.isi_non_tuple, I.isi_non_list, I.isi_non_bool, I.isi_non_int, I.isi_non_str, I.isi_bl_tuple, I.isi_bl_list, I.isi_bl_bool, I.isi_bl_int, I.isi_bl_str, I.isi_int_tuple, I.isi_int_list, I.isi_int_bool, I.isi_int_int, I.isi_int_str, I.isi_str_tuple, I.isi_str_list, I.isi_str_bool, I.isi_str_int, I.isi_str_str, I.isi_tup_tuple, I.isi_tup_list, I.isi_tup_bool, I.isi_tup_int, I.isi_tup_str, I.isi_lst_tuple, I.isi_lst_list, I.isi_lst_bool, I.isi_lst_int, I.isi_lst_str, I.isi_scr_tuple, I.isi_scr_list, I.isi_scr_bool, I.isi_scr_int, I.isi_scr_str, dEq_bl, dNe_bl, dIsN_non, dIsN_bl, dIsN_int, dIsN_str, dIsN_tup, dIsN_lst, dAdd_int, dSub_int, dEq_int, dNe_int, dLt_int, dLe_int, dGt_int, dGe_int, dAddI_int, asB_bl, dIx_tup0, dIx_tup1, fLen, fAbs, fInt, fMax2, fMin2, gTupF, gsCons, gsNil, D.pure, D.pures, Bool.not_true, Bool.not_false, Bool.and_true, Bool.true_and, Bool.and_false, Bool.false_and, Option.bind_some, Option.bind_none, Option.map_some, Option.map_none, bind_ite, map_ite, List.map_cons, List.map_nil, List.replicate, List.cons_append, List.nil_append, List.append_nil, List.getElem?_cons_zero, List.getElem?_cons_succ, List.set_cons_zero, List.set_cons_succ, List.length_cons, List.length_nil, Nat.reduceAdd, Nat.reduceLT, Nat.zero_add, Nat.lt_add_one, if_true, if_false, ite_true, ite_false, decide_eq_true_eq, Bool.false_eq_true, reduceCtorEq, reduceIte, Nat.reduceLeDiff, Nat.reduceEqDiff]
  | n + 1, .bl b, _, _, _ => by simp only [recF_succ, B__law_same, val_fnF, zsF_eq, fzAt, D.fz, wpE, mgE, List.contains_cons, List.contains_nil, Nat.reduceBEq, Bool.or_false, Bool.or_true, Bool.false_or, Bool.true_or, seqF_eq, andThen_nx, andThen_bk, andThen_ct, andThen_rt, retV_rt, retV_nx, nxF, bkF, ctF, rtF, rnF, rmF, stF, exF, put, parF, agF, ifS, forF_eq, flF_nil, flF_cons, flK_nx, flK_ct, flK_bk, flK_rt, tbF, ttF, andF, orF, notF, andV, orV, ifF, chF, b1, b2, bN, clF_val, aNil, aCons, nmF, ownF, cF, fzF, itF, inF, itOf, rng1, rng2, yesF, dTru, dNot, I.isi_non_tuple, I.isi_non_list, I.isi_non_bool, I.isi_non_int, I.isi_non_str, I.isi_bl_tuple, I.isi_bl_list, I.isi_bl_bool, I.isi_bl_int, I.isi_bl_str, I.isi_int_tuple, I.isi_int_list, I.isi_int_bool, I.isi_int_int, I.isi_int_str, I.isi_str_tuple, I.isi_str_list, I.isi_str_bool, I.isi_str_int, I.isi_str_str, I.isi_tup_tuple, I.isi_tup_list, I.isi_tup_bool, I.isi_tup_int, I.isi_tup_str, I.isi_lst_tuple, I.isi_lst_list, I.isi_lst_bool, I.isi_lst_int, I.isi_lst_str, I.isi_scr_tuple, I.isi_scr_list, I.isi_scr_bool, I.isi_scr_int, I.isi_scr_str, dEq_bl, dNe_bl, dIsN_non, dIsN_bl, dIsN_int, dIsN_str, dIsN_tup, dIsN_lst, dAdd_int, dSub_int, dEq_int, dNe_int, dLt_int, dLe_int, dGt_int, dGe_int, dAddI_int, asB_bl, dIx_tup0, dIx_tup1, fLen, fAbs, fInt, fMax2, fMin2, gTupF, gsCons, gsNil, D.pure, D.pures, Bool.not_true, Bool.not_false, Bool.and_true, Bool.true_and, Bool.and_false, Bool.false_and, Option.bind_some, Option.bind_none, Option.map_some, Option.map_none, bind_ite, map_ite, List.map_cons, List.map_nil, List.replicate, List.cons_append, List.nil_append, List.append_nil, List.getElem?_cons_zero, List.getElem?_cons_succ, List.set_cons_zero, List.set_cons_succ, List.length_cons, List.length_nil, Nat.reduceAdd, Nat.reduceLT, Nat.zero_add, Nat.lt_add_one, if_true, if_false, ite_true, ite_false, decide_eq_true_eq, Bool.false_eq_true, reduceCtorEq, reduceIte, Nat.reduceLeDiff, Nat.reduceEqDiff, decide_true]
  | n + 1, .int b, _, _, _ => by simp only [recF_succ, B__law_same, val_fnF, zsF_eq, fzAt, D.fz, wpE, mgE, List.contains_cons, List.contains_nil, Nat.reduceBEq, Bool.or_false, Bool.or_true, Bool.false_or, Bool.true_or, seqF_eq, andThen_nx, andThen_bk, andThen_ct, andThen_rt, retV_rt, retV_nx, nxF, bkF, ctF, rtF, rnF, rmF, stF, exF, put, parF, agF, ifS, forF_eq, flF_nil, flF_cons, flK_nx, flK_ct, flK_bk, flK_rt, tbF, ttF, andF, orF, notF, andV, orV, ifF, chF, b1, b2, bN, clF_val, aNil, aCons, nmF, ownF, cF, fzF, itF, inF, itOf, rng1, rng2, yesF, dTru, dNot, I.isi_non_tuple, I.isi_non_list, I.isi_non_bool, I.isi_non_int, I.isi_non_str, I.isi_bl_tuple, I.isi_bl_list, I.isi_bl_bool, I.isi_bl_int, I.isi_bl_str, I.isi_int_tuple, I.isi_int_list, I.isi_int_bool, I.isi_int_int, I.isi_int_str, I.isi_str_tuple, I.isi_str_list, I.isi_str_bool, I.isi_str_int, I.isi_str_str, I.isi_tup_tuple, I.isi_tup_list, I.isi_tup_bool, I.isi_tup_int, I.isi_tup_str, I.isi_lst_tuple, I.isi_lst_list, I.isi_lst_bool, I.isi_lst_int, I.isi_lst_str, I.isi_scr_tuple, I.isi_scr_list, I.isi_scr_bool, I.isi_scr_int, I.isi_scr_str, dEq_bl, dNe_bl, dIsN_non, dIsN_bl, dIsN_int, dIsN_str, dIsN_tup, dIsN_lst, dAdd_int, dSub_int, dEq_int, dNe_int, dLt_int, dLe_int, dGt_int, dGe_int, dAddI_int, asB_bl, dIx_tup0, dIx_tup1, fLen, fAbs, fInt, fMax2, fMin2, gTupF, gsCons, gsNil, D.pure, D.pures, Bool.not_true, Bool.not_false, Bool.and_true, Bool.true_and, Bool.and_false, Bool.false_and, Option.bind_some, Option.bind_none, Option.map_some, Option.map_none, bind_ite, map_ite, List.map_cons, List.map_nil, List.replicate, List.cons_append, List.nil_append, List.append_nil, List.getElem?_cons_zero, List.getElem?_cons_succ, List.set_cons_zero, List.set_cons_succ, List.length_cons, List.length_nil, Nat.reduceAdd, Nat.reduceLT, Nat.zero_add, Nat.lt_add_one, if_true, if_false, ite_true, ite_false, decide_eq_true_eq, Bool.false_eq_true, reduceCtorEq, reduceIte, Nat.reduceLeDiff, Nat.reduceEqDiff, decide_true]
  | n + 1, .str b, h, _, _ => by
    have e : dEq (.str b) (.str b) = some (.bl true) := by
      have s := D.nice_shp h (by simp [D.dep])
      unfold dEq; rw [if_pos ⟨s, s⟩]; simp [D.py, PyData.eqv]
    simp only [recF_succ, B__law_same, val_fnF, zsF_eq, fzAt, D.fz, wpE, mgE, List.contains_cons, List.contains_nil, Nat.reduceBEq, Bool.or_false, Bool.or_true, Bool.false_or, Bool.true_or, seqF_eq, andThen_nx, andThen_bk, andThen_ct, andThen_rt, retV_rt, retV_nx, nxF, bkF, ctF, rtF, rnF, rmF, stF, exF, put, parF, agF, ifS, forF_eq, flF_nil, flF_cons, flK_nx, flK_ct, flK_bk, flK_rt, tbF, ttF, andF, orF, notF, andV, orV, ifF, chF, b1, b2, bN, clF_val, aNil, aCons, nmF, ownF, cF, fzF, itF, inF, itOf, rng1, rng2, yesF, dTru, dNot, I.isi_non_tuple, I.isi_non_list, I.isi_non_bool, I.isi_non_int, I.isi_non_str, I.isi_bl_tuple, I.isi_bl_list, I.isi_bl_bool, I.isi_bl_int, I.isi_bl_str, I.isi_int_tuple, I.isi_int_list, I.isi_int_bool, I.isi_int_int, I.isi_int_str, I.isi_str_tuple, I.isi_str_list, I.isi_str_bool, I.isi_str_int, I.isi_str_str, I.isi_tup_tuple, I.isi_tup_list, I.isi_tup_bool, I.isi_tup_int, I.isi_tup_str, I.isi_lst_tuple, I.isi_lst_list, I.isi_lst_bool, I.isi_lst_int, I.isi_lst_str, I.isi_scr_tuple, I.isi_scr_list, I.isi_scr_bool, I.isi_scr_int, I.isi_scr_str, dEq_bl, dNe_bl, dIsN_non, dIsN_bl, dIsN_int, dIsN_str, dIsN_tup, dIsN_lst, dAdd_int, dSub_int, dEq_int, dNe_int, dLt_int, dLe_int, dGt_int, dGe_int, dAddI_int, asB_bl, dIx_tup0, dIx_tup1, fLen, fAbs, fInt, fMax2, fMin2, gTupF, gsCons, gsNil, D.pure, D.pures, Bool.not_true, Bool.not_false, Bool.and_true, Bool.true_and, Bool.and_false, Bool.false_and, Option.bind_some, Option.bind_none, Option.map_some, Option.map_none, bind_ite, map_ite, List.map_cons, List.map_nil, List.replicate, List.cons_append, List.nil_append, List.append_nil, List.getElem?_cons_zero, List.getElem?_cons_succ, List.set_cons_zero, List.set_cons_succ, List.length_cons, List.length_nil, Nat.reduceAdd, Nat.reduceLT, Nat.zero_add, Nat.lt_add_one, if_true, if_false, ite_true, ite_false, decide_eq_true_eq, Bool.false_eq_true, reduceCtorEq, reduceIte, Nat.reduceLeDiff, Nat.reduceEqDiff, e]
  | n + 1, .tup xs, h, k, k6 => by
    obtain ⟨p, _⟩ := D.nice_pure h
    have k' : D.deps xs < n := by simp only [D.dep] at k; omega
    obtain ⟨j, e⟩ := same_seq (r := recF B__law_same n) (a := .tup xs) (xs := xs) (fun k => dIx_tupN) (by simpa [D.pure] using p)
      (fun x hx => same_rec n x (D.nice_tup h hx) (by have := D.dep_tup (n := D.deps xs) (Nat.le_refl _) hx; omega) (by omega)) (D.len_tup h)
    simp only [recF_succ, B__law_same, val_fnF, zsF_eq, fzAt, D.fz, wpE, mgE, List.contains_cons, List.contains_nil, Nat.reduceBEq, Bool.or_false, Bool.or_true, Bool.false_or, Bool.true_or, seqF_eq, andThen_nx, andThen_bk, andThen_ct, andThen_rt, retV_rt, retV_nx, nxF, bkF, ctF, rtF, rnF, rmF, stF, exF, put, parF, agF, ifS, forF_eq, flF_nil, flF_cons, flK_nx, flK_ct, flK_bk, flK_rt, tbF, ttF, andF, orF, notF, andV, orV, ifF, chF, b1, b2, bN, clF_val, aNil, aCons, nmF, ownF, cF, fzF, itF, inF, itOf, rng1, rng2, yesF, dTru, dNot, I.isi_non_tuple, I.isi_non_list, I.isi_non_bool, I.isi_non_int, I.isi_non_str, I.isi_bl_tuple, I.isi_bl_list, I.isi_bl_bool, I.isi_bl_int, I.isi_bl_str, I.isi_int_tuple, I.isi_int_list, I.isi_int_bool, I.isi_int_int, I.isi_int_str, I.isi_str_tuple, I.isi_str_list, I.isi_str_bool, I.isi_str_int, I.isi_str_str, I.isi_tup_tuple, I.isi_tup_list, I.isi_tup_bool, I.isi_tup_int, I.isi_tup_str, I.isi_lst_tuple, I.isi_lst_list, I.isi_lst_bool, I.isi_lst_int, I.isi_lst_str, I.isi_scr_tuple, I.isi_scr_list, I.isi_scr_bool, I.isi_scr_int, I.isi_scr_str, dEq_bl, dNe_bl, dIsN_non, dIsN_bl, dIsN_int, dIsN_str, dIsN_tup, dIsN_lst, dAdd_int, dSub_int, dEq_int, dNe_int, dLt_int, dLe_int, dGt_int, dGe_int, dAddI_int, asB_bl, dIx_tup0, dIx_tup1, fLen, fAbs, fInt, fMax2, fMin2, gTupF, gsCons, gsNil, D.pure, D.pures, Bool.not_true, Bool.not_false, Bool.and_true, Bool.true_and, Bool.and_false, Bool.false_and, Option.bind_some, Option.bind_none, Option.map_some, Option.map_none, bind_ite, map_ite, List.map_cons, List.map_nil, List.replicate, List.cons_append, List.nil_append, List.append_nil, List.getElem?_cons_zero, List.getElem?_cons_succ, List.set_cons_zero, List.set_cons_succ, List.length_cons, List.length_nil, Nat.reduceAdd, Nat.reduceLT, Nat.zero_add, Nat.lt_add_one, if_true, if_false, ite_true, ite_false, decide_eq_true_eq, Bool.false_eq_true, reduceCtorEq, reduceIte, Nat.reduceLeDiff, Nat.reduceEqDiff, decide_true, rg_of (D.len_tup h), e]
  | n + 1, .lst o xs, h, k, k6 => by
    obtain ⟨p, _⟩ := D.nice_pure h
    obtain ⟨l, rfl⟩ := D.len_lst h
    have k' : D.deps xs < n := by simp only [D.dep] at k; omega
    obtain ⟨j, e⟩ := same_seq (r := recF B__law_same n) (a := .lst false xs) (xs := xs) (fun k => dIx_lstN) (by simpa [D.pure] using p)
      (fun x hx => same_rec n x (D.nice_lst h hx) (by have := D.dep_lst (o := false) (n := D.deps xs) (Nat.le_refl _) hx; omega) (by omega)) l
    simp only [recF_succ, B__law_same, val_fnF, zsF_eq, fzAt, D.fz, wpE, mgE, List.contains_cons, List.contains_nil, Nat.reduceBEq, Bool.or_false, Bool.or_true, Bool.false_or, Bool.true_or, seqF_eq, andThen_nx, andThen_bk, andThen_ct, andThen_rt, retV_rt, retV_nx, nxF, bkF, ctF, rtF, rnF, rmF, stF, exF, put, parF, agF, ifS, forF_eq, flF_nil, flF_cons, flK_nx, flK_ct, flK_bk, flK_rt, tbF, ttF, andF, orF, notF, andV, orV, ifF, chF, b1, b2, bN, clF_val, aNil, aCons, nmF, ownF, cF, fzF, itF, inF, itOf, rng1, rng2, yesF, dTru, dNot, I.isi_non_tuple, I.isi_non_list, I.isi_non_bool, I.isi_non_int, I.isi_non_str, I.isi_bl_tuple, I.isi_bl_list, I.isi_bl_bool, I.isi_bl_int, I.isi_bl_str, I.isi_int_tuple, I.isi_int_list, I.isi_int_bool, I.isi_int_int, I.isi_int_str, I.isi_str_tuple, I.isi_str_list, I.isi_str_bool, I.isi_str_int, I.isi_str_str, I.isi_tup_tuple, I.isi_tup_list, I.isi_tup_bool, I.isi_tup_int, I.isi_tup_str, I.isi_lst_tuple, I.isi_lst_list, I.isi_lst_bool, I.isi_lst_int, I.isi_lst_str, I.isi_scr_tuple, I.isi_scr_list, I.isi_scr_bool, I.isi_scr_int, I.isi_scr_str, dEq_bl, dNe_bl, dIsN_non, dIsN_bl, dIsN_int, dIsN_str, dIsN_tup, dIsN_lst, dAdd_int, dSub_int, dEq_int, dNe_int, dLt_int, dLe_int, dGt_int, dGe_int, dAddI_int, asB_bl, dIx_tup0, dIx_tup1, fLen, fAbs, fInt, fMax2, fMin2, gTupF, gsCons, gsNil, D.pure, D.pures, Bool.not_true, Bool.not_false, Bool.and_true, Bool.true_and, Bool.and_false, Bool.false_and, Option.bind_some, Option.bind_none, Option.map_some, Option.map_none, bind_ite, map_ite, List.map_cons, List.map_nil, List.replicate, List.cons_append, List.nil_append, List.append_nil, List.getElem?_cons_zero, List.getElem?_cons_succ, List.set_cons_zero, List.set_cons_succ, List.length_cons, List.length_nil, Nat.reduceAdd, Nat.reduceLT, Nat.zero_add, Nat.lt_add_one, if_true, if_false, ite_true, ite_false, decide_eq_true_eq, Bool.false_eq_true, reduceCtorEq, reduceIte, Nat.reduceLeDiff, Nat.reduceEqDiff, decide_true, rg_of l, e]
  | n + 1, .scr _, h, _, _ => by simp [D.nice] at h
  | n + 1, .raw _, h, _, _ => by simp [D.nice] at h
  | n + 1, .dct _ _ _, h, _, _ => by simp [D.nice] at h
theorem same_ok {d : D} (h : d.nice = true) (k : d.dep < 60) : val F__law_same [d, d] = some (.bl true) := same_rec 60 d h k (Nat.le_refl _)
end
end G33

set_option Elab.async false
set_option linter.all false
set_option maxRecDepth 100000
set_option maxHeartbeats 1000000
namespace G33
open PySem L2 Pz
noncomputable section
/-! matrices of values -/
/-- a multiple of 1/5040: of bounded divisor -/
def Hq (q : Rat) : Prop := ∃ k : Int, q = Rat.divInt k 5040
theorem Hq.den {q : Rat} (h : Hq q) : q.den < 2 ^ 64 := by
  obtain ⟨k, rfl⟩ := h
  rw [Rat.den_divInt, if_neg (by omega)]
  exact Nat.lt_of_le_of_lt (Nat.div_le_self _ _) (by decide)
theorem Hq.add {a b : Rat} (ha : Hq a) (hb : Hq b) : Hq (a + b) := by
  obtain ⟨k, rfl⟩ := ha
  obtain ⟨l, rfl⟩ := hb
  refine ⟨k + l, ?_⟩
  rw [Rat.divInt_eq_div, Rat.divInt_eq_div, Rat.divInt_eq_div, Rat.intCast_add]
  grind
theorem Hq.sub {a b : Rat} (ha : Hq a) (hb : Hq b) : Hq (a - b) := by
  obtain ⟨k, rfl⟩ := ha
  obtain ⟨l, rfl⟩ := hb
  refine ⟨k - l, ?_⟩
  rw [Rat.divInt_eq_div, Rat.divInt_eq_div, Rat.divInt_eq_div, Rat.intCast_sub]
  grind
theorem Hq.zero : Hq 0 := ⟨0, by simp⟩
theorem Hq.of {a : Int} {b : Int} (hb : b ≠ 0) (h : b ∣ 5040) : Hq (Rat.divInt a b) := by
  obtain ⟨c, hc⟩ := h
  refine ⟨a * c, ?_⟩
  rw [Rat.divInt_eq_divInt_iff hb (by omega), hc, Int.mul_assoc, Int.mul_comm c b]
def H2 (t : T) : Prop := ∀ q, t = some q → Hq q
theorem H2.sm {t : T} (h : H2 t) : Sm t := fun q e => (h q e).den
theorem H2.none : H2 none := fun q h => by cases h
theorem H2.some {q : Rat} (h : Hq q) : H2 (some q) := fun r e => by cases e; exact h
theorem H2.add {a b : T} (ha : H2 a) (hb : H2 b) : H2 (tadd a b) := fun q e => by
  cases a <;> cases b <;> simp [tadd] at e
  rw [← e]
  exact (ha _ rfl).add (hb _ rfl)
theorem H2.min {ts : List T} (h : ∀ t ∈ ts, H2 t) : H2 (minL ts) := by
  rcases minL_mem ts with e | e
  · rw [e]; exact H2.none
  · exact h _ e
def rowD (r : List T) : D := .tup (r.map fv)
def mxD (M : List (List T)) : D := .tup (M.map rowD)
theorem pure_row (r : List T) : (rowD r).pure = true := by simpa [rowD, D.pure] using pures_fv r
theorem fz_row (r : List T) : (rowD r).fz = rowD r := by simp [rowD, D.fz, fzs_fv]
theorem pures_row (M : List (List T)) : D.pures (M.map rowD) = true := by
  rw [D.pures_all]; simp [pure_row]
theorem fzs_row (M : List (List T)) : D.fzs (M.map rowD) = M.map rowD := by
  rw [D.fzs_map, List.map_map]; exact List.map_congr_left fun t _ => fz_row t
theorem pure_mx (M : List (List T)) : (mxD M).pure = true := by simpa [mxD, D.pure] using pures_row M
structure Mat (n : Nat) (M : List (List T)) : Prop where
  row : ∀ r ∈ M, r.length = n ∧ ∀ t ∈ r, H2 t
  len : M.length ≤ 1000
  wid : n ≤ 1000
theorem zip_fv (r c : List T) : List.zipWith (fun a b => D.tup [a, b]) (r.map fv) (c.map fv) = (List.zip r c).map fun p => D.tup [fv p.1, fv p.2] := by
  rw [List.zipWith_map, List.zip, List.map_zipWith]
theorem least_sum_eq {r c : List T} (hr : ∀ t ∈ r, H2 t) (hc : ∀ t ∈ c, H2 t) (hl : r.length ≤ 1000) : val F_least_sum [rowD r, rowD c] = some (fv (minL (List.zipWith tadd r c))) := by
  have hz : ∀ p ∈ List.zip r c, H2 p.1 ∧ H2 p.2 := fun p hp => ⟨hr _ (List.of_mem_zip hp).1, hc _ (List.of_mem_zip hp).2⟩
  have e := lcF_map (vs := [2, 3]) (FI := inF fzip (aCons (nmO 0) (aCons (nmO 1) aNil))) (FT := gTupF (gsCons (put 2) (gsCons (put 3) gsNil))) (FE := E_least_sum_1) (env := [some (rowD r), some (rowD c), none, none]) (env' := [some (rowD r), some (rowD c), none, none])
    (fun p : T × T => D.tup [fv p.1, fv p.2]) (fun p => fv (tadd p.1 p.2)) (List.zip r c) (by
      simp only [val_fnF, zsF_eq, fzAt, D.fz, wpE, mgE, List.contains_cons, List.contains_nil, Nat.reduceBEq, Bool.or_false, Bool.or_true, Bool.false_or, Bool.true_or, seqF_eq, andThen_nx, andThen_bk, andThen_ct, andThen_rt, retV_rt, retV_nx, nxF, bkF, ctF, rtF, rnF, rmF, stF, exF, put, parF, agF, ifS, forF_eq, flF_nil, flF_cons, flK_nx, flK_ct, flK_bk, flK_rt, tbF, ttF, andF, orF, notF, andV, orV, ifF, chF, b1, b2, bN, clF_val, aNil, aCons, nmF, ownF, cF, fzF, itF, inF, itOf, rng1, rng2, yesF, dTru, dNot, I.isi_non_tuple, I.isi_non_list, I.isi_non_bool, I.isi_non_int, I.isi_non_str, I.isi_bl_tuple, I.isi_bl_list, I.isi_bl_bool, I.isi_bl_int, I.isi_bl_str, I.isi_int_tuple, I.isi_int_list, I.isi_int_bool, I.isi_int_int, I.isi_int_str, I.isi_str_tuple, I.isi_str_list, I.isi_str_bool, I.isi_str_int, I.isi_str_str, I.isi_tup_tuple, I.isi_tup_list, I.isi_tup_bool, I.isi_tup_int, I.isi_tup_str, I.isi_lst_tuple, I.isi_lst_list, I.isi_lst_bool, I.isi_lst_int, I.isi_lst_str, I.isi_scr_tuple, I.isi_scr_list, I.isi_scr_bool, I.isi_scr_int, I.isi_scr_str, dEq_bl, dNe_bl, dIsN_non, dIsN_bl, dIsN_int, dIsN_str, dIsN_tup, dIsN_lst, dAdd_int, dSub_int, dEq_int, dNe_int, dLt_int, dLe_int, dGt_int, dGe_int, dAddI_int, asB_bl, dIx_tup0, dIx_tup1, fLen, fAbs, fInt, fMax2, fMin2, gTupF, gsCons, gsNil, D.pure, D.pures, Bool.not_true, Bool.not_false, Bool.and_true, Bool.true_and, Bool.and_false, Bool.false_and, Option.bind_some, Option.bind_none, Option.map_some, Option.map_none, bind_ite, map_ite, List.map_cons, List.map_nil, List.replicate, List.cons_append, List.nil_append, List.append_nil, List.getElem?_cons_zero, List.getElem?_cons_succ, List.set_cons_zero, List.set_cons_succ, List.length_cons, List.length_nil, Nat.reduceAdd, Nat.reduceLT, Nat.zero_add, Nat.lt_add_one, if_true, if_false, ite_true, ite_false, decide_eq_true_eq, Bool.false_eq_true, reduceCtorEq, reduceIte, Nat.reduceLeDiff, Nat.reduceEqDiff, pure_row]
      simp only [rowD, fzip, pures_fv, val_fnF, zsF_eq, fzAt, D.fz, wpE, mgE, List.contains_cons, List.contains_nil, Nat.reduceBEq, Bool.or_false, Bool.or_true, Bool.false_or, Bool.true_or, seqF_eq, andThen_nx, andThen_bk, andThen_ct, andThen_rt, retV_rt, retV_nx, nxF, bkF, ctF, rtF, rnF, rmF, stF, exF, put, parF, agF, ifS, forF_eq, flF_nil, flF_cons, flK_nx, flK_ct, flK_bk, flK_rt, tbF, ttF, andF, orF, notF, andV, orV, ifF, chF, b1, b2, bN, clF_val, aNil, aCons, nmF, ownF, cF, fzF, itF, inF, itOf, rng1, rng2, yesF, dTru, dNot, I.isi_non_tuple, I.isi_non_list, I.isi_non_bool, I.isi_non_int, I.isi_non_str, I.isi_bl_tuple, I.isi_bl_list, I.isi_bl_bool, I.isi_bl_int, I.isi_bl_str, I.isi_int_tuple, I.isi_int_list, I.isi_int_bool, I.isi_int_int, I.isi_int_str, I.isi_str_tuple, I.isi_str_list, I.isi_str_bool, I.isi_str_int, I.isi_str_str, I.isi_tup_tuple, I.isi_tup_list, I.isi_tup_bool, I.isi_tup_int, I.isi_tup_str, I.isi_lst_tuple, I.isi_lst_list, I.isi_lst_bool, I.isi_lst_int, I.isi_lst_str, I.isi_scr_tuple, I.isi_scr_list, I.isi_scr_bool, I.isi_scr_int, I.isi_scr_str, dEq_bl, dNe_bl, dIsN_non, dIsN_bl, dIsN_int, dIsN_str, dIsN_tup, dIsN_lst, dAdd_int, dSub_int, dEq_int, dNe_int, dLt_int, dLe_int, dGt_int, dGe_int, dAddI_int, asB_bl, dIx_tup0, dIx_tup1, fLen, fAbs, fInt, fMax2, fMin2, gTupF, gsCons, gsNil, D.pure, D.pures, Bool.not_true, Bool.not_false, Bool.and_true, Bool.true_and, Bool.and_false, Bool.false_and, Option.bind_some, Option.bind_none, Option.map_some, Option.map_none, bind_ite, map_ite, List.map_cons, List.map_nil, List.replicate, List.cons_append, List.nil_append, List.append_nil, List.getElem?_cons_zero, List.getElem?_cons_succ, List.set_cons_zero, List.set_cons_succ, List.length_cons, List.length_nil, Nat.reduceAdd, Nat.reduceLT, Nat.zero_add, Nat.lt_add_one, if_true, if_false, ite_true, ite_false, decide_eq_true_eq, Bool.false_eq_true, reduceCtorEq, reduceIte, Nat.reduceLeDiff, Nat.reduceEqDiff, zip_fv, and_self]) (by simp; omega) (by simp only [okE]; simp)
    fun p hp => ⟨[some (rowD r), some (rowD c), some (fv p.1), some (fv p.2)], [some (rowD r), some (rowD c), some (fv p.1), some (fv p.2)], by simp only [val_fnF, zsF_eq, fzAt, D.fz, wpE, mgE, List.contains_cons, List.contains_nil, Nat.reduceBEq, Bool.or_false, Bool.or_true, Bool.false_or, Bool.true_or, seqF_eq, andThen_nx, andThen_bk, andThen_ct, andThen_rt, retV_rt, retV_nx, nxF, bkF, ctF, rtF, rnF, rmF, stF, exF, put, parF, agF, ifS, forF_eq, flF_nil, flF_cons, flK_nx, flK_ct, flK_bk, flK_rt, tbF, ttF, andF, orF, notF, andV, orV, ifF, chF, b1, b2, bN, clF_val, aNil, aCons, nmF, ownF, cF, fzF, itF, inF, itOf, rng1, rng2, yesF, dTru, dNot, I.isi_non_tuple, I.isi_non_list, I.isi_non_bool, I.isi_non_int, I.isi_non_str, I.isi_bl_tuple, I.isi_bl_list, I.isi_bl_bool, I.isi_bl_int, I.isi_bl_str, I.isi_int_tuple, I.isi_int_list, I.isi_int_bool, I.isi_int_int, I.isi_int_str, I.isi_str_tuple, I.isi_str_list, I.isi_str_bool, I.isi_str_int, I.isi_str_str, I.isi_tup_tuple, I.isi_tup_list, I.isi_tup_bool, I.isi_tup_int, I.isi_tup_str, I.isi_lst_tuple, I.isi_lst_list, I.isi_lst_bool, I.isi_lst_int, I.isi_lst_str, I.isi_scr_tuple, I.isi_scr_list, I.isi_scr_bool, I.isi_scr_int, I.isi_scr_str, dEq_bl, dNe_bl, dIsN_non, dIsN_bl, dIsN_int, dIsN_str, dIsN_tup, dIsN_lst, dAdd_int, dSub_int, dEq_int, dNe_int, dLt_int, dLe_int, dGt_int, dGe_int, dAddI_int, asB_bl, dIx_tup0, dIx_tup1, fLen, fAbs, fInt, fMax2, fMin2, gTupF, gsCons, gsNil, D.pure, D.pures, Bool.not_true, Bool.not_false, Bool.and_true, Bool.true_and, Bool.and_false, Bool.false_and, Option.bind_some, Option.bind_none, Option.map_some, Option.map_none, bind_ite, map_ite, List.map_cons, List.map_nil, List.replicate, List.cons_append, List.nil_append, List.append_nil, List.getElem?_cons_zero, List.getElem?_cons_succ, List.set_cons_zero, List.set_cons_succ, List.length_cons, List.length_nil, Nat.reduceAdd, Nat.reduceLT, Nat.zero_add, Nat.lt_add_one, if_true, if_false, ite_true, ite_false, decide_eq_true_eq, Bool.false_eq_true, reduceCtorEq, reduceIte, Nat.reduceLeDiff, Nat.reduceEqDiff, wpE], by
      simp only [E_least_sum_1, val_fnF, zsF_eq, fzAt, D.fz, wpE, mgE, List.contains_cons, List.contains_nil, Nat.reduceBEq, Bool.or_false, Bool.or_true, Bool.false_or, Bool.true_or, seqF_eq, andThen_nx, andThen_bk, andThen_ct, andThen_rt, retV_rt, retV_nx, nxF, bkF, ctF, rtF, rnF, rmF, stF, exF, put, parF, agF, ifS, forF_eq, flF_nil, flF_cons, flK_nx, flK_ct, flK_bk, flK_rt, tbF, ttF, andF, orF, notF, andV, orV, ifF, chF, b1, b2, bN, clF_val, aNil, aCons, nmF, ownF, cF, fzF, itF, inF, itOf, rng1, rng2, yesF, dTru, dNot, I.isi_non_tuple, I.isi_non_list, I.isi_non_bool, I.isi_non_int, I.isi_non_str, I.isi_bl_tuple, I.isi_bl_list, I.isi_bl_bool, I.isi_bl_int, I.isi_bl_str, I.isi_int_tuple, I.isi_int_list, I.isi_int_bool, I.isi_int_int, I.isi_int_str, I.isi_str_tuple, I.isi_str_list, I.isi_str_bool, I.isi_str_int, I.isi_str_str, I.isi_tup_tuple, I.isi_tup_list, I.isi_tup_bool, I.isi_tup_int, I.isi_tup_str, I.isi_lst_tuple, I.isi_lst_list, I.isi_lst_bool, I.isi_lst_int, I.isi_lst_str, I.isi_scr_tuple, I.isi_scr_list, I.isi_scr_bool, I.isi_scr_int, I.isi_scr_str, dEq_bl, dNe_bl, dIsN_non, dIsN_bl, dIsN_int, dIsN_str, dIsN_tup, dIsN_lst, dAdd_int, dSub_int, dEq_int, dNe_int, dLt_int, dLe_int, dGt_int, dGe_int, dAddI_int, asB_bl, dIx_tup0, dIx_tup1, fLen, fAbs, fInt, fMax2, fMin2, gTupF, gsCons, gsNil, D.pure, D.pures, Bool.not_true, Bool.not_false, Bool.and_true, Bool.true_and, Bool.and_false, Bool.false_and, Option.bind_some, Option.bind_none, Option.map_some, Option.map_none, bind_ite, map_ite, List.map_cons, List.map_nil, List.replicate, List.cons_append, List.nil_append, List.append_nil, List.getElem?_cons_zero, List.getElem?_cons_succ, List.set_cons_zero, List.set_cons_succ, List.length_cons, List.length_nil, Nat.reduceAdd, Nat.reduceLT, Nat.zero_add, Nat.lt_add_one, if_true, if_false, ite_true, ite_false, decide_eq_true_eq, Bool.false_eq_true, reduceCtorEq, reduceIte, Nat.reduceLeDiff, Nat.reduceEqDiff, pure_fv, added_eq (hz p hp).1.sm (hz p hp).2.sm], rfl⟩
  have e2 : (List.zip r c).map (fun p => fv (tadd p.1 p.2)) = (List.zipWith tadd r c).map fv := by
    rw [List.zip, List.map_zipWith, List.map_zipWith]
  rw [e2] at e
  simp only [F_least_sum, val_fnF, zsF_eq, fzAt, D.fz, wpE, mgE, List.contains_cons, List.contains_nil, Nat.reduceBEq, Bool.or_false, Bool.or_true, Bool.false_or, Bool.true_or, seqF_eq, andThen_nx, andThen_bk, andThen_ct, andThen_rt, retV_rt, retV_nx, nxF, bkF, ctF, rtF, rnF, rmF, stF, exF, put, parF, agF, ifS, forF_eq, flF_nil, flF_cons, flK_nx, flK_ct, flK_bk, flK_rt, tbF, ttF, andF, orF, notF, andV, orV, ifF, chF, b1, b2, bN, clF_val, aNil, aCons, nmF, ownF, cF, fzF, itF, inF, itOf, rng1, rng2, yesF, dTru, dNot, I.isi_non_tuple, I.isi_non_list, I.isi_non_bool, I.isi_non_int, I.isi_non_str, I.isi_bl_tuple, I.isi_bl_list, I.isi_bl_bool, I.isi_bl_int, I.isi_bl_str, I.isi_int_tuple, I.isi_int_list, I.isi_int_bool, I.isi_int_int, I.isi_int_str, I.isi_str_tuple, I.isi_str_list, I.isi_str_bool, I.isi_str_int, I.isi_str_str, I.isi_tup_tuple, I.isi_tup_list, I.isi_tup_bool, I.isi_tup_int, I.isi_tup_str, I.isi_lst_tuple, I.isi_lst_list, I.isi_lst_bool, I.isi_lst_int, I.isi_lst_str, I.isi_scr_tuple, I.isi_scr_list, I.isi_scr_bool, I.isi_scr_int, I.isi_scr_str, dEq_bl, dNe_bl, dIsN_non, dIsN_bl, dIsN_int, dIsN_str, dIsN_tup, dIsN_lst, dAdd_int, dSub_int, dEq_int, dNe_int, dLt_int, dLe_int, dGt_int, dGe_int, dAddI_int, asB_bl, dIx_tup0, dIx_tup1, fLen, fAbs, fInt, fMax2, fMin2, gTupF, gsCons, gsNil, D.pure, D.pures, Bool.not_true, Bool.not_false, Bool.and_true, Bool.true_and, Bool.and_false, Bool.false_and, Option.bind_some, Option.bind_none, Option.map_some, Option.map_none, bind_ite, map_ite, List.map_cons, List.map_nil, List.replicate, List.cons_append, List.nil_append, List.append_nil, List.getElem?_cons_zero, List.getElem?_cons_succ, List.set_cons_zero, List.set_cons_succ, List.length_cons, List.length_nil, Nat.reduceAdd, Nat.reduceLT, Nat.zero_add, Nat.lt_add_one, if_true, if_false, ite_true, ite_false, decide_eq_true_eq, Bool.false_eq_true, reduceCtorEq, reduceIte, Nat.reduceLeDiff, Nat.reduceEqDiff, e, least_eq (o := true) (ts := List.zipWith tadd r c) (fun t ht => by
    obtain ⟨i, hi, rfl⟩ := List.getElem_of_mem ht
    rw [List.getElem_zipWith]
    exact (H2.add (hr _ (List.getElem_mem _)) (hc _ (List.getElem_mem _))).sm)]
/-- a column of a matrix -/
def colL (B : List (List T)) (j : Nat) : List T := B.map fun r => r.getD j none
def mmul (p : Nat) (A B : List (List T)) : List (List T) := A.map fun r => (List.range p).map fun j => minL (List.zipWith tadd r (colL B j))
theorem colL_H2 {n : Nat} {B : List (List T)} (h : Mat n B) (j : Nat) : ∀ t ∈ colL B j, H2 t := fun t ht => by
  obtain ⟨r, hr, rfl⟩ := List.mem_map.mp ht
  by_cases hj : j < r.length
  · rw [List.getD_eq_getElem?_getD, List.getElem?_eq_getElem hj]; exact (h.row r hr).2 _ (List.getElem_mem hj)
  · rw [List.getD_eq_getElem?_getD, List.getElem?_eq_none (by omega)]; exact H2.none
theorem zw_H2 {r c : List T} (hr : ∀ t ∈ r, H2 t) (hc : ∀ t ∈ c, H2 t) : ∀ t ∈ List.zipWith tadd r c, H2 t := fun t ht => by
  obtain ⟨i, hi, rfl⟩ := List.getElem_of_mem ht
  rw [List.getElem_zipWith]
  exact H2.add (hr _ (List.getElem_mem _)) (hc _ (List.getElem_mem _))
theorem mmul_Mat {n p : Nat} {A B : List (List T)} (hA : Mat n A) (hB : Mat p B) : Mat p (mmul p A B) := by
  refine ⟨fun r hr => ?_, by simpa [mmul] using hA.len, hB.wid⟩
  obtain ⟨a, ha, rfl⟩ := List.mem_map.mp hr
  refine ⟨by simp, fun t ht => ?_⟩
  obtain ⟨j, _, rfl⟩ := List.mem_map.mp ht
  exact H2.min (zw_H2 (hA.row a ha).2 (colL_H2 hB j))
theorem times_column_eq {n : Nat} {A : List (List T)} {c : List T} (hA : Mat n A) (hc : ∀ t ∈ c, H2 t) : val F_times_column [mxD A, rowD c] = some (rowD (A.map fun r => minL (List.zipWith tadd r c))) := by
  have e := lcF_map (vs := [2]) (FI := itF (nmO 0)) (FT := put 2) (FE := E_times_column_1) (env := [some (mxD A), some (rowD c), none]) (env' := [some (mxD A), some (rowD c), none])
    rowD (fun r => fv (minL (List.zipWith tadd r c))) A (by
      simp only [val_fnF, zsF_eq, fzAt, D.fz, wpE, mgE, List.contains_cons, List.contains_nil, Nat.reduceBEq, Bool.or_false, Bool.or_true, Bool.false_or, Bool.true_or, seqF_eq, andThen_nx, andThen_bk, andThen_ct, andThen_rt, retV_rt, retV_nx, nxF, bkF, ctF, rtF, rnF, rmF, stF, exF, put, parF, agF, ifS, forF_eq, flF_nil, flF_cons, flK_nx, flK_ct, flK_bk, flK_rt, tbF, ttF, andF, orF, notF, andV, orV, ifF, chF, b1, b2, bN, clF_val, aNil, aCons, nmF, ownF, cF, fzF, itF, inF, itOf, rng1, rng2, yesF, dTru, dNot, I.isi_non_tuple, I.isi_non_list, I.isi_non_bool, I.isi_non_int, I.isi_non_str, I.isi_bl_tuple, I.isi_bl_list, I.isi_bl_bool, I.isi_bl_int, I.isi_bl_str, I.isi_int_tuple, I.isi_int_list, I.isi_int_bool, I.isi_int_int, I.isi_int_str, I.isi_str_tuple, I.isi_str_list, I.isi_str_bool, I.isi_str_int, I.isi_str_str, I.isi_tup_tuple, I.isi_tup_list, I.isi_tup_bool, I.isi_tup_int, I.isi_tup_str, I.isi_lst_tuple, I.isi_lst_list, I.isi_lst_bool, I.isi_lst_int, I.isi_lst_str, I.isi_scr_tuple, I.isi_scr_list, I.isi_scr_bool, I.isi_scr_int, I.isi_scr_str, dEq_bl, dNe_bl, dIsN_non, dIsN_bl, dIsN_int, dIsN_str, dIsN_tup, dIsN_lst, dAdd_int, dSub_int, dEq_int, dNe_int, dLt_int, dLe_int, dGt_int, dGe_int, dAddI_int, asB_bl, dIx_tup0, dIx_tup1, fLen, fAbs, fInt, fMax2, fMin2, gTupF, gsCons, gsNil, D.pure, D.pures, Bool.not_true, Bool.not_false, Bool.and_true, Bool.true_and, Bool.and_false, Bool.false_and, Option.bind_some, Option.bind_none, Option.map_some, Option.map_none, bind_ite, map_ite, List.map_cons, List.map_nil, List.replicate, List.cons_append, List.nil_append, List.append_nil, List.getElem?_cons_zero, List.getElem?_cons_succ, List.set_cons_zero, List.set_cons_succ, List.length_cons, List.length_nil, Nat.reduceAdd, Nat.reduceLT, Nat.zero_add, Nat.lt_add_one, if_true, if_false, ite_true, ite_false, decide_eq_true_eq, Bool.false_eq_true, reduceCtorEq, reduceIte, Nat.reduceLeDiff, Nat.reduceEqDiff, pure_mx]
      simp only [mxD, itOf, val_fnF, zsF_eq, fzAt, D.fz, wpE, mgE, List.contains_cons, List.contains_nil, Nat.reduceBEq, Bool.or_false, Bool.or_true, Bool.false_or, Bool.true_or, seqF_eq, andThen_nx, andThen_bk, andThen_ct, andThen_rt, retV_rt, retV_nx, nxF, bkF, ctF, rtF, rnF, rmF, stF, exF, put, parF, agF, ifS, forF_eq, flF_nil, flF_cons, flK_nx, flK_ct, flK_bk, flK_rt, tbF, ttF, andF, orF, notF, andV, orV, ifF, chF, b1, b2, bN, clF_val, aNil, aCons, nmF, ownF, cF, fzF, itF, inF, itOf, rng1, rng2, yesF, dTru, dNot, I.isi_non_tuple, I.isi_non_list, I.isi_non_bool, I.isi_non_int, I.isi_non_str, I.isi_bl_tuple, I.isi_bl_list, I.isi_bl_bool, I.isi_bl_int, I.isi_bl_str, I.isi_int_tuple, I.isi_int_list, I.isi_int_bool, I.isi_int_int, I.isi_int_str, I.isi_str_tuple, I.isi_str_list, I.isi_str_bool, I.isi_str_int, I.isi_str_str, I.isi_tup_tuple, I.isi_tup_list, I.isi_tup_bool, I.isi_tup_int, I.isi_tup_str, I.isi_lst_tuple, I.isi_lst_list, I.isi_lst_bool, I.isi_lst_int, I.isi_lst_str, I.isi_scr_tuple, I.isi_scr_list, I.isi_scr_bool, I.isi_scr_int, I.isi_scr_str, dEq_bl, dNe_bl, dIsN_non, dIsN_bl, dIsN_int, dIsN_str, dIsN_tup, dIsN_lst, dAdd_int, dSub_int, dEq_int, dNe_int, dLt_int, dLe_int, dGt_int, dGe_int, dAddI_int, asB_bl, dIx_tup0, dIx_tup1, fLen, fAbs, fInt, fMax2, fMin2, gTupF, gsCons, gsNil, D.pure, D.pures, Bool.not_true, Bool.not_false, Bool.and_true, Bool.true_and, Bool.and_false, Bool.false_and, Option.bind_some, Option.bind_none, Option.map_some, Option.map_none, bind_ite, map_ite, List.map_cons, List.map_nil, List.replicate, List.cons_append, List.nil_append, List.append_nil, List.getElem?_cons_zero, List.getElem?_cons_succ, List.set_cons_zero, List.set_cons_succ, List.length_cons, List.length_nil, Nat.reduceAdd, Nat.reduceLT, Nat.zero_add, Nat.lt_add_one, if_true, if_false, ite_true, ite_false, decide_eq_true_eq, Bool.false_eq_true, reduceCtorEq, reduceIte, Nat.reduceLeDiff, Nat.reduceEqDiff, fzs_row]) (by have := hA.len; omega) (by simp only [okE]; simp)
    fun r hr => ⟨[some (mxD A), some (rowD c), some (rowD r)], [some (mxD A), some (rowD c), some (rowD r)], by simp only [val_fnF, zsF_eq, fzAt, D.fz, wpE, mgE, List.contains_cons, List.contains_nil, Nat.reduceBEq, Bool.or_false, Bool.or_true, Bool.false_or, Bool.true_or, seqF_eq, andThen_nx, andThen_bk, andThen_ct, andThen_rt, retV_rt, retV_nx, nxF, bkF, ctF, rtF, rnF, rmF, stF, exF, put, parF, agF, ifS, forF_eq, flF_nil, flF_cons, flK_nx, flK_ct, flK_bk, flK_rt, tbF, ttF, andF, orF, notF, andV, orV, ifF, chF, b1, b2, bN, clF_val, aNil, aCons, nmF, ownF, cF, fzF, itF, inF, itOf, rng1, rng2, yesF, dTru, dNot, I.isi_non_tuple, I.isi_non_list, I.isi_non_bool, I.isi_non_int, I.isi_non_str, I.isi_bl_tuple, I.isi_bl_list, I.isi_bl_bool, I.isi_bl_int, I.isi_bl_str, I.isi_int_tuple, I.isi_int_list, I.isi_int_bool, I.isi_int_int, I.isi_int_str, I.isi_str_tuple, I.isi_str_list, I.isi_str_bool, I.isi_str_int, I.isi_str_str, I.isi_tup_tuple, I.isi_tup_list, I.isi_tup_bool, I.isi_tup_int, I.isi_tup_str, I.isi_lst_tuple, I.isi_lst_list, I.isi_lst_bool, I.isi_lst_int, I.isi_lst_str, I.isi_scr_tuple, I.isi_scr_list, I.isi_scr_bool, I.isi_scr_int, I.isi_scr_str, dEq_bl, dNe_bl, dIsN_non, dIsN_bl, dIsN_int, dIsN_str, dIsN_tup, dIsN_lst, dAdd_int, dSub_int, dEq_int, dNe_int, dLt_int, dLe_int, dGt_int, dGe_int, dAddI_int, asB_bl, dIx_tup0, dIx_tup1, fLen, fAbs, fInt, fMax2, fMin2, gTupF, gsCons, gsNil, D.pure, D.pures, Bool.not_true, Bool.not_false, Bool.and_true, Bool.true_and, Bool.and_false, Bool.false_and, Option.bind_some, Option.bind_none, Option.map_some, Option.map_none, bind_ite, map_ite, List.map_cons, List.map_nil, List.replicate, List.cons_append, List.nil_append, List.append_nil, List.getElem?_cons_zero, List.getElem?_cons_succ, List.set_cons_zero, List.set_cons_succ, List.length_cons, List.length_nil, Nat.reduceAdd, Nat.reduceLT, Nat.zero_add, Nat.lt_add_one, if_true, if_false, ite_true, ite_false, decide_eq_true_eq, Bool.false_eq_true, reduceCtorEq, reduceIte, Nat.reduceLeDiff, Nat.reduceEqDiff, wpE], by
      simp only [E_times_column_1, val_fnF, zsF_eq, fzAt, D.fz, wpE, mgE, List.contains_cons, List.contains_nil, Nat.reduceBEq, Bool.or_false, Bool.or_true, Bool.false_or, Bool.true_or, seqF_eq, andThen_nx, andThen_bk, andThen_ct, andThen_rt, retV_rt, retV_nx, nxF, bkF, ctF, rtF, rnF, rmF, stF, exF, put, parF, agF, ifS, forF_eq, flF_nil, flF_cons, flK_nx, flK_ct, flK_bk, flK_rt, tbF, ttF, andF, orF, notF, andV, orV, ifF, chF, b1, b2, bN, clF_val, aNil, aCons, nmF, ownF, cF, fzF, itF, inF, itOf, rng1, rng2, yesF, dTru, dNot, I.isi_non_tuple, I.isi_non_list, I.isi_non_bool, I.isi_non_int, I.isi_non_str, I.isi_bl_tuple, I.isi_bl_list, I.isi_bl_bool, I.isi_bl_int, I.isi_bl_str, I.isi_int_tuple, I.isi_int_list, I.isi_int_bool, I.isi_int_int, I.isi_int_str, I.isi_str_tuple, I.isi_str_list, I.isi_str_bool, I.isi_str_int, I.isi_str_str, I.isi_tup_tuple, I.isi_tup_list, I.isi_tup_bool, I.isi_tup_int, I.isi_tup_str, I.isi_lst_tuple, I.isi_lst_list, I.isi_lst_bool, I.isi_lst_int, I.isi_lst_str, I.isi_scr_tuple, I.isi_scr_list, I.isi_scr_bool, I.isi_scr_int, I.isi_scr_str, dEq_bl, dNe_bl, dIsN_non, dIsN_bl, dIsN_int, dIsN_str, dIsN_tup, dIsN_lst, dAdd_int, dSub_int, dEq_int, dNe_int, dLt_int, dLe_int, dGt_int, dGe_int, dAddI_int, asB_bl, dIx_tup0, dIx_tup1, fLen, fAbs, fInt, fMax2, fMin2, gTupF, gsCons, gsNil, D.pure, D.pures, Bool.not_true, Bool.not_false, Bool.and_true, Bool.true_and, Bool.and_false, Bool.false_and, Option.bind_some, Option.bind_none, Option.map_some, Option.map_none, bind_ite, map_ite, List.map_cons, List.map_nil, List.replicate, List.cons_append, List.nil_append, List.append_nil, List.getElem?_cons_zero, List.getElem?_cons_succ, List.set_cons_zero, List.set_cons_succ, List.length_cons, List.length_nil, Nat.reduceAdd, Nat.reduceLT, Nat.zero_add, Nat.lt_add_one, if_true, if_false, ite_true, ite_false, decide_eq_true_eq, Bool.false_eq_true, reduceCtorEq, reduceIte, Nat.reduceLeDiff, Nat.reduceEqDiff, pure_row, least_sum_eq (hA.row r hr).2 hc (by rw [(hA.row r hr).1]; exact hA.wid)], rfl⟩
  have e2 : A.map (fun r => fv (minL (List.zipWith tadd r c))) = (A.map fun r => minL (List.zipWith tadd r c)).map fv := by simp
  rw [e2] at e
  simp only [F_times_column, val_fnF, zsF_eq, fzAt, D.fz, wpE, mgE, List.contains_cons, List.contains_nil, Nat.reduceBEq, Bool.or_false, Bool.or_true, Bool.false_or, Bool.true_or, seqF_eq, andThen_nx, andThen_bk, andThen_ct, andThen_rt, retV_rt, retV_nx, nxF, bkF, ctF, rtF, rnF, rmF, stF, exF, put, parF, agF, ifS, forF_eq, flF_nil, flF_cons, flK_nx, flK_ct, flK_bk, flK_rt, tbF, ttF, andF, orF, notF, andV, orV, ifF, chF, b1, b2, bN, clF_val, aNil, aCons, nmF, ownF, cF, fzF, itF, inF, itOf, rng1, rng2, yesF, dTru, dNot, I.isi_non_tuple, I.isi_non_list, I.isi_non_bool, I.isi_non_int, I.isi_non_str, I.isi_bl_tuple, I.isi_bl_list, I.isi_bl_bool, I.isi_bl_int, I.isi_bl_str, I.isi_int_tuple, I.isi_int_list, I.isi_int_bool, I.isi_int_int, I.isi_int_str, I.isi_str_tuple, I.isi_str_list, I.isi_str_bool, I.isi_str_int, I.isi_str_str, I.isi_tup_tuple, I.isi_tup_list, I.isi_tup_bool, I.isi_tup_int, I.isi_tup_str, I.isi_lst_tuple, I.isi_lst_list, I.isi_lst_bool, I.isi_lst_int, I.isi_lst_str, I.isi_scr_tuple, I.isi_scr_list, I.isi_scr_bool, I.isi_scr_int, I.isi_scr_str, dEq_bl, dNe_bl, dIsN_non, dIsN_bl, dIsN_int, dIsN_str, dIsN_tup, dIsN_lst, dAdd_int, dSub_int, dEq_int, dNe_int, dLt_int, dLe_int, dGt_int, dGe_int, dAddI_int, asB_bl, dIx_tup0, dIx_tup1, fLen, fAbs, fInt, fMax2, fMin2, gTupF, gsCons, gsNil, D.pure, D.pures, Bool.not_true, Bool.not_false, Bool.and_true, Bool.true_and, Bool.and_false, Bool.false_and, Option.bind_some, Option.bind_none, Option.map_some, Option.map_none, bind_ite, map_ite, List.map_cons, List.map_nil, List.replicate, List.cons_append, List.nil_append, List.append_nil, List.getElem?_cons_zero, List.getElem?_cons_succ, List.set_cons_zero, List.set_cons_succ, List.length_cons, List.length_nil, Nat.reduceAdd, Nat.reduceLT, Nat.zero_add, Nat.lt_add_one, if_true, if_false, ite_true, ite_false, decide_eq_true_eq, Bool.false_eq_true, reduceCtorEq, reduceIte, Nat.reduceLeDiff, Nat.reduceEqDiff, e, fTuple, pures_fv]
  rfl
end
end G33

set_option Elab.async false
set_option linter.all false
set_option maxRecDepth 100000
set_option maxHeartbeats 1000000
namespace G33
open PySem L2 Pz
noncomputable section
/-! greatest and least of fractions -/
def maxQ : List Rat → Rat
  | [] => 0
  | x :: xs => (x :: xs).foldl (fun f x => if f < x then x else f) x
def minQ : List Rat → Rat
  | [] => 0
  | x :: xs => (x :: xs).foldl (fun f x => if x < f then x else f) x
theorem max_fold (z : Rat) : ∀ (l : List Rat) (f : Rat), l.foldl (fun f x => if f < x then x else f) f ≤ z ↔ f ≤ z ∧ ∀ x ∈ l, x ≤ z
  | [], f => by simp
  | x :: xs, f => by
    rw [List.foldl_cons, max_fold z xs]
    simp only [List.mem_cons, forall_eq_or_imp]
    by_cases h : f < x
    · rw [if_pos h]
      constructor
      · rintro ⟨a, b⟩; exact ⟨by grind, a, b⟩
      · rintro ⟨a, b, c⟩; exact ⟨b, c⟩
    · rw [if_neg h]
      constructor
      · rintro ⟨a, b⟩; exact ⟨a, by grind, b⟩
      · rintro ⟨a, b, c⟩; exact ⟨a, c⟩
theorem min_fold (z : Rat) : ∀ (l : List Rat) (f : Rat), z ≤ l.foldl (fun f x => if x < f then x else f) f ↔ z ≤ f ∧ ∀ x ∈ l, z ≤ x
  | [], f => by simp
  | x :: xs, f => by
    rw [List.foldl_cons, min_fold z xs]
    simp only [List.mem_cons, forall_eq_or_imp]
    by_cases h : x < f
    · rw [if_pos h]
      constructor
      · rintro ⟨a, b⟩; exact ⟨by grind, a, b⟩
      · rintro ⟨a, b, c⟩; exact ⟨b, c⟩
    · rw [if_neg h]
      constructor
      · rintro ⟨a, b⟩; exact ⟨a, by grind, b⟩
      · rintro ⟨a, b, c⟩; exact ⟨a, c⟩
theorem maxQ_le {z : Rat} {l : List Rat} (h : l ≠ []) : maxQ l ≤ z ↔ ∀ x ∈ l, x ≤ z := by
  cases l with
  | nil => exact absurd rfl h
  | cons x xs =>
    unfold maxQ
    rw [max_fold]
    simp only [List.mem_cons, forall_eq_or_imp]
    exact ⟨fun h => h.2, fun h => ⟨h.1, h⟩⟩
theorem le_minQ {z : Rat} {l : List Rat} (h : l ≠ []) : z ≤ minQ l ↔ ∀ x ∈ l, z ≤ x := by
  cases l with
  | nil => exact absurd rfl h
  | cons x xs =>
    unfold minQ
    rw [min_fold]
    simp only [List.mem_cons, forall_eq_or_imp]
    exact ⟨fun h => h.2, fun h => ⟨h.1, h⟩⟩
theorem fold_mem {c : Rat → Rat → Bool} : ∀ (l : List Rat) (f : Rat), l.foldl (fun f x => if c f x = true then x else f) f = f ∨ l.foldl (fun f x => if c f x = true then x else f) f ∈ l
  | [], f => .inl rfl
  | x :: xs, f => by
    rw [List.foldl_cons]
    rcases fold_mem (c := c) xs (if c f x = true then x else f) with h | h
    · rw [h]; split
      · exact .inr (List.mem_cons_self ..)
      · exact .inl rfl
    · exact .inr (List.mem_cons_of_mem _ h)
theorem maxQ_mem {l : List Rat} (h : l ≠ []) : maxQ l ∈ l := by
  cases l with
  | nil => exact absurd rfl h
  | cons x xs =>
    have := fold_mem (c := fun f x => decide (f < x)) (x :: xs) x
    simp only [decide_eq_true_eq] at this
    rcases this with e | e
    · simp only [maxQ, e]; exact List.mem_cons_self ..
    · exact e
theorem minQ_mem {l : List Rat} (h : l ≠ []) : minQ l ∈ l := by
  cases l with
  | nil => exact absurd rfl h
  | cons x xs =>
    have := fold_mem (c := fun f x => decide (x < f)) (x :: xs) x
    simp only [decide_eq_true_eq] at this
    rcases this with e | e
    · simp only [minQ, e]; exact List.mem_cons_self ..
    · exact e
theorem minL_minQ {l : List Rat} (h : l ≠ []) : minL (l.map some) = some (minQ l) := by
  refine minL_eq fun z => ?_
  rw [le_minL]
  cases z with
  | none =>
    simp only [List.mem_map, forall_exists_index, and_imp, forall_apply_eq_imp_iff₂]
    obtain ⟨x, hx⟩ := List.exists_mem_of_ne_nil l h
    constructor
    · intro k; have := k x hx; simp [tle, tlt] at this
    · intro k; simp [tle, tlt] at k
  | some z =>
    simp only [List.mem_map, forall_exists_index, and_imp, forall_apply_eq_imp_iff₂, tle, tlt, Bool.not_eq_true', decide_eq_false_iff_not, Rat.not_lt]
    exact (le_minQ h).symm
theorem sgn_gt (x y : Rat) : 0 < sgn (x - y) ↔ y < x := by
  have e : y < x ↔ 0 < (x - y).num := by
    have n : 0 < (x - y).num ↔ 0 < x - y := by
      constructor
      · intro h
        rw [Rat.lt_iff]; simpa using h
      · intro h
        rw [Rat.lt_iff] at h; simpa using h
    rw [n]
    constructor <;> intro h <;> grind
  rw [e]
  unfold sgn
  split <;> split <;> omega
theorem pures_fr (l : List Rat) : D.pures (l.map fr) = true := by
  rw [D.pures_all]; simp [pure_fr]
theorem fzs_fr (l : List Rat) : D.fzs (l.map fr) = l.map fr := by
  rw [D.fzs_map, List.map_map]; exact List.map_congr_left fun q _ => fz_fr q
theorem greatest_eq {o : Bool} {l : List Rat} (hn : l ≠ []) (h : ∀ q ∈ l, q.den < 2 ^ 64) : val F_greatest [.lst o (l.map fr)] = some (fr (maxQ l)) := by
  obtain ⟨x, xs, rfl⟩ := List.exists_cons_of_ne_nil hn
  obtain ⟨_, j, e⟩ := flF_keep (FT := put 2) (FB := L_greatest_1) fr (fun (f : Rat) (j : Option D) => [some (.lst false ((x :: xs).map fr)), some (fr f), j]) (fun f x => if f < x then x else f) (fun f => f.den < 2 ^ 64) (x :: xs) x none (h x (by simp))
    fun s j y hy hs => ⟨by split; exact h y hy; exact hs, some (fr y), by
      have q := compare_eq (a := some y) (b := some s) (fun q e => by cases e; exact h _ hy) (fun q e => by cases e; exact hs)
      have e2 : decide (0 < cmpT (some y) (some s)) = decide (s < y) := by
        simp only [cmpT, sgn_gt]
      simp only [fv_some] at q
      simp only [val_fnF, zsF_eq, fzAt, D.fz, wpE, mgE, List.contains_cons, List.contains_nil, Nat.reduceBEq, Bool.or_false, Bool.or_true, Bool.false_or, Bool.true_or, seqF_eq, andThen_nx, andThen_bk, andThen_ct, andThen_rt, retV_rt, retV_nx, nxF, bkF, ctF, rtF, rnF, rmF, stF, exF, put, parF, agF, ifS, forF_eq, flF_nil, flF_cons, flK_nx, flK_ct, flK_bk, flK_rt, tbF, ttF, andF, orF, notF, andV, orV, ifF, chF, b1, b2, bN, clF_val, aNil, aCons, nmF, ownF, cF, fzF, itF, inF, itOf, rng1, rng2, yesF, dTru, dNot, I.isi_non_tuple, I.isi_non_list, I.isi_non_bool, I.isi_non_int, I.isi_non_str, I.isi_bl_tuple, I.isi_bl_list, I.isi_bl_bool, I.isi_bl_int, I.isi_bl_str, I.isi_int_tuple, I.isi_int_list, I.isi_int_bool, I.isi_int_int, I.isi_int_str, I.isi_str_tuple, I.isi_str_list, I.isi_str_bool, I.isi_str_int, I.isi_str_str, I.isi_tup_tuple, I.isi_tup_list, I.isi_tup_bool, I.isi_tup_int, I.isi_tup_str, I.isi_lst_tuple, I.isi_lst_list, I.isi_lst_bool, I.isi_lst_int, I.isi_lst_str, I.isi_scr_tuple, I.isi_scr_list, I.isi_scr_bool, I.isi_scr_int, I.isi_scr_str, dEq_bl, dNe_bl, dIsN_non, dIsN_bl, dIsN_int, dIsN_str, dIsN_tup, dIsN_lst, dAdd_int, dSub_int, dEq_int, dNe_int, dLt_int, dLe_int, dGt_int, dGe_int, dAddI_int, asB_bl, dIx_tup0, dIx_tup1, fLen, fAbs, fInt, fMax2, fMin2, gTupF, gsCons, gsNil, D.pure, D.pures, Bool.not_true, Bool.not_false, Bool.and_true, Bool.true_and, Bool.and_false, Bool.false_and, Option.bind_some, Option.bind_none, Option.map_some, Option.map_none, bind_ite, map_ite, List.map_cons, List.map_nil, List.replicate, List.cons_append, List.nil_append, List.append_nil, List.getElem?_cons_zero, List.getElem?_cons_succ, List.set_cons_zero, List.set_cons_succ, List.length_cons, List.length_nil, Nat.reduceAdd, Nat.reduceLT, Nat.zero_add, Nat.lt_add_one, if_true, if_false, ite_true, ite_false, decide_eq_true_eq, Bool.false_eq_true, reduceCtorEq, reduceIte, Nat.reduceLeDiff, Nat.reduceEqDiff, L_greatest_1, pure_fr, q, e2]
      by_cases hq : s < y <;> simp only [hq, decide_true, decide_false, val_fnF, zsF_eq, fzAt, D.fz, wpE, mgE, List.contains_cons, List.contains_nil, Nat.reduceBEq, Bool.or_false, Bool.or_true, Bool.false_or, Bool.true_or, seqF_eq, andThen_nx, andThen_bk, andThen_ct, andThen_rt, retV_rt, retV_nx, nxF, bkF, ctF, rtF, rnF, rmF, stF, exF, put, parF, agF, ifS, forF_eq, flF_nil, flF_cons, flK_nx, flK_ct, flK_bk, flK_rt, tbF, ttF, andF, orF, notF, andV, orV, ifF, chF, b1, b2, bN, clF_val, aNil, aCons, nmF, ownF, cF, fzF, itF, inF, itOf, rng1, rng2, yesF, dTru, dNot, I.isi_non_tuple, I.isi_non_list, I.isi_non_bool, I.isi_non_int, I.isi_non_str, I.isi_bl_tuple, I.isi_bl_list, I.isi_bl_bool, I.isi_bl_int, I.isi_bl_str, I.isi_int_tuple, I.isi_int_list, I.isi_int_bool, I.isi_int_int, I.isi_int_str, I.isi_str_tuple, I.isi_str_list, I.isi_str_bool, I.isi_str_int, I.isi_str_str, I.isi_tup_tuple, I.isi_tup_list, I.isi_tup_bool, I.isi_tup_int, I.isi_tup_str, I.isi_lst_tuple, I.isi_lst_list, I.isi_lst_bool, I.isi_lst_int, I.isi_lst_str, I.isi_scr_tuple, I.isi_scr_list, I.isi_scr_bool, I.isi_scr_int, I.isi_scr_str, dEq_bl, dNe_bl, dIsN_non, dIsN_bl, dIsN_int, dIsN_str, dIsN_tup, dIsN_lst, dAdd_int, dSub_int, dEq_int, dNe_int, dLt_int, dLe_int, dGt_int, dGe_int, dAddI_int, asB_bl, dIx_tup0, dIx_tup1, fLen, fAbs, fInt, fMax2, fMin2, gTupF, gsCons, gsNil, D.pure, D.pures, Bool.not_true, Bool.not_false, Bool.and_true, Bool.true_and, Bool.and_false, Bool.false_and, Option.bind_some, Option.bind_none, Option.map_some, Option.map_none, bind_ite, map_ite, List.map_cons, List.map_nil, List.replicate, List.cons_append, List.nil_append, List.append_nil, List.getElem?_cons_zero, List.getElem?_cons_succ, List.set_cons_zero, List.set_cons_succ, List.length_cons, List.length_nil, Nat.reduceAdd, Nat.reduceLT, Nat.zero_add, Nat.lt_add_one, if_true, if_false, ite_true, ite_false, decide_eq_true_eq, Bool.false_eq_true, reduceCtorEq, reduceIte, Nat.reduceLeDiff, Nat.reduceEqDiff, pure_fr]⟩
  have d0 : dIx (.lst o (fr x :: xs.map fr)) (.int 0) = some (fr x) := dIx_lstN (k := 0)
  have fz := fzs_fr (x :: xs)
  simp only [List.map_cons] at e fz ⊢
  simp only [F_greatest, val_fnF, zsF_eq, fzAt, D.fz, wpE, mgE, List.contains_cons, List.contains_nil, Nat.reduceBEq, Bool.or_false, Bool.or_true, Bool.false_or, Bool.true_or, seqF_eq, andThen_nx, andThen_bk, andThen_ct, andThen_rt, retV_rt, retV_nx, nxF, bkF, ctF, rtF, rnF, rmF, stF, exF, put, parF, agF, ifS, forF_eq, flF_nil, flF_cons, flK_nx, flK_ct, flK_bk, flK_rt, tbF, ttF, andF, orF, notF, andV, orV, ifF, chF, b1, b2, bN, clF_val, aNil, aCons, nmF, ownF, cF, fzF, itF, inF, itOf, rng1, rng2, yesF, dTru, dNot, I.isi_non_tuple, I.isi_non_list, I.isi_non_bool, I.isi_non_int, I.isi_non_str, I.isi_bl_tuple, I.isi_bl_list, I.isi_bl_bool, I.isi_bl_int, I.isi_bl_str, I.isi_int_tuple, I.isi_int_list, I.isi_int_bool, I.isi_int_int, I.isi_int_str, I.isi_str_tuple, I.isi_str_list, I.isi_str_bool, I.isi_str_int, I.isi_str_str, I.isi_tup_tuple, I.isi_tup_list, I.isi_tup_bool, I.isi_tup_int, I.isi_tup_str, I.isi_lst_tuple, I.isi_lst_list, I.isi_lst_bool, I.isi_lst_int, I.isi_lst_str, I.isi_scr_tuple, I.isi_scr_list, I.isi_scr_bool, I.isi_scr_int, I.isi_scr_str, dEq_bl, dNe_bl, dIsN_non, dIsN_bl, dIsN_int, dIsN_str, dIsN_tup, dIsN_lst, dAdd_int, dSub_int, dEq_int, dNe_int, dLt_int, dLe_int, dGt_int, dGe_int, dAddI_int, asB_bl, dIx_tup0, dIx_tup1, fLen, fAbs, fInt, fMax2, fMin2, gTupF, gsCons, gsNil, D.pure, D.pures, Bool.not_true, Bool.not_false, Bool.and_true, Bool.true_and, Bool.and_false, Bool.false_and, Option.bind_some, Option.bind_none, Option.map_some, Option.map_none, bind_ite, map_ite, List.map_cons, List.map_nil, List.replicate, List.cons_append, List.nil_append, List.append_nil, List.getElem?_cons_zero, List.getElem?_cons_succ, List.set_cons_zero, List.set_cons_succ, List.length_cons, List.length_nil, Nat.reduceAdd, Nat.reduceLT, Nat.zero_add, Nat.lt_add_one, if_true, if_false, ite_true, ite_false, decide_eq_true_eq, Bool.false_eq_true, reduceCtorEq, reduceIte, Nat.reduceLeDiff, Nat.reduceEqDiff, d0, pure_fr]
  simp only [D.fzs, fz_fr, fzs_fr] at fz e ⊢
  simp only [e, val_fnF, zsF_eq, fzAt, D.fz, wpE, mgE, List.contains_cons, List.contains_nil, Nat.reduceBEq, Bool.or_false, Bool.or_true, Bool.false_or, Bool.true_or, seqF_eq, andThen_nx, andThen_bk, andThen_ct, andThen_rt, retV_rt, retV_nx, nxF, bkF, ctF, rtF, rnF, rmF, stF, exF, put, parF, agF, ifS, forF_eq, flF_nil, flF_cons, flK_nx, flK_ct, flK_bk, flK_rt, tbF, ttF, andF, orF, notF, andV, orV, ifF, chF, b1, b2, bN, clF_val, aNil, aCons, nmF, ownF, cF, fzF, itF, inF, itOf, rng1, rng2, yesF, dTru, dNot, I.isi_non_tuple, I.isi_non_list, I.isi_non_bool, I.isi_non_int, I.isi_non_str, I.isi_bl_tuple, I.isi_bl_list, I.isi_bl_bool, I.isi_bl_int, I.isi_bl_str, I.isi_int_tuple, I.isi_int_list, I.isi_int_bool, I.isi_int_int, I.isi_int_str, I.isi_str_tuple, I.isi_str_list, I.isi_str_bool, I.isi_str_int, I.isi_str_str, I.isi_tup_tuple, I.isi_tup_list, I.isi_tup_bool, I.isi_tup_int, I.isi_tup_str, I.isi_lst_tuple, I.isi_lst_list, I.isi_lst_bool, I.isi_lst_int, I.isi_lst_str, I.isi_scr_tuple, I.isi_scr_list, I.isi_scr_bool, I.isi_scr_int, I.isi_scr_str, dEq_bl, dNe_bl, dIsN_non, dIsN_bl, dIsN_int, dIsN_str, dIsN_tup, dIsN_lst, dAdd_int, dSub_int, dEq_int, dNe_int, dLt_int, dLe_int, dGt_int, dGe_int, dAddI_int, asB_bl, dIx_tup0, dIx_tup1, fLen, fAbs, fInt, fMax2, fMin2, gTupF, gsCons, gsNil, D.pure, D.pures, Bool.not_true, Bool.not_false, Bool.and_true, Bool.true_and, Bool.and_false, Bool.false_and, Option.bind_some, Option.bind_none, Option.map_some, Option.map_none, bind_ite, map_ite, List.map_cons, List.map_nil, List.replicate, List.cons_append, List.nil_append, List.append_nil, List.getElem?_cons_zero, List.getElem?_cons_succ, List.set_cons_zero, List.set_cons_succ, List.length_cons, List.length_nil, Nat.reduceAdd, Nat.reduceLT, Nat.zero_add, Nat.lt_add_one, if_true, if_false, ite_true, ite_false, decide_eq_true_eq, Bool.false_eq_true, reduceCtorEq, reduceIte, Nat.reduceLeDiff, Nat.reduceEqDiff, pure_fr]
  rfl
end
end G33

set_option Elab.async false
set_option linter.all false
set_option maxRecDepth 100000
set_option maxHeartbeats 1000000
namespace G33
open PySem L2 Pz
noncomputable section
/-! points: tuples of fractions -/
def vecD (p : List Rat) : D := .tup (p.map fr)
def somes (p : List Rat) : List T := p.map some
theorem vec_row (p : List Rat) : vecD p = rowD (somes p) := by
  unfold vecD rowD somes; rw [List.map_map]; rfl
theorem pure_vec (p : List Rat) : (vecD p).pure = true := by rw [vec_row]; exact pure_row _
theorem fz_vec (p : List Rat) : (vecD p).fz = vecD p := by rw [vec_row]; exact fz_row _
theorem pures_vec (P : List (List Rat)) : D.pures (P.map vecD) = true := by
  rw [D.pures_all]; simp [pure_vec]
theorem fzs_vec (P : List (List Rat)) : D.fzs (P.map vecD) = P.map vecD := by
  rw [D.fzs_map, List.map_map]; exact List.map_congr_left fun t _ => fz_vec t
def fmD (A : List (List Rat)) : D := .tup (A.map vecD)
theorem fm_mx (A : List (List Rat)) : fmD A = mxD (A.map somes) := by
  unfold fmD mxD; rw [List.map_map]; exact congrArg D.tup (List.map_congr_left fun p _ => vec_row p)
theorem pure_fm (A : List (List Rat)) : (fmD A).pure = true := by rw [fm_mx]; exact pure_mx _
theorem dIx_vec {p : List Rat} {i : Nat} : dIx (vecD p) (.int (i : Int)) = (p[i]?).map fr := by
  unfold vecD; rw [dIx_tupN, List.getElem?_map]
theorem dIx_fm {A : List (List Rat)} {i : Nat} : dIx (fmD A) (.int (i : Int)) = (A[i]?).map vecD := by
  unfold fmD; rw [dIx_tupN, List.getElem?_map]
theorem dIx_pts {o : Bool} {A : List (List Rat)} {i : Nat} : dIx (.lst o (A.map vecD)) (.int (i : Int)) = (A[i]?).map vecD := by
  rw [dIx_lstN, List.getElem?_map]
/-- points of n coordinates -/
structure Pts (n : Nat) (P : List (List Rat)) : Prop where
  row : ∀ p ∈ P, p.length = n ∧ ∀ q ∈ p, Hq q
  len : P.length ≤ 1000
  wid : n ≤ 1000
theorem Pts.mat {n : Nat} {P : List (List Rat)} (h : Pts n P) : Mat n (P.map somes) := ⟨fun r hr => by
  obtain ⟨p, hp, rfl⟩ := List.mem_map.mp hr
  refine ⟨by simpa [somes] using (h.row p hp).1, fun t ht => ?_⟩
  obtain ⟨q, hq, rfl⟩ := List.mem_map.mp ht
  exact H2.some ((h.row p hp).2 q hq), by simpa using h.len, h.wid⟩
theorem at_row {n : Nat} {P : List (List Rat)} (h : Pts n P) {p : List Rat} (hp : p ∈ P) {j : Nat} (hj : j < n) : p[j]? = some (p.getD j 0) := by
  have := (h.row p hp).1
  rw [List.getD_eq_getElem?_getD, List.getElem?_eq_getElem (by omega)]; rfl
theorem at_Hq {n : Nat} {P : List (List Rat)} (h : Pts n P) {p : List Rat} (hp : p ∈ P) {j : Nat} (hj : j < n) : Hq (p.getD j 0) := (h.row p hp).2 _ (List.mem_of_getElem? (at_row h hp hj))
def tr (n : Nat) (P : List (List Rat)) : List (List Rat) := (List.range n).map fun k => P.map fun p => p.getD k 0
theorem tr_Pts {n : Nat} {P : List (List Rat)} (h : Pts n P) : Pts P.length (tr n P) := ⟨fun r hr => by
  obtain ⟨k, hk, rfl⟩ := List.mem_map.mp hr
  have hk : k < n := by simpa using hk
  refine ⟨by simp, fun q hq => ?_⟩
  obtain ⟨p, hp, rfl⟩ := List.mem_map.mp hq
  exact at_Hq h hp hk, by simpa [tr] using h.wid, h.len⟩
theorem as_matrix_ok {n : Nat} {P : List (List Rat)} (h : Pts n P) (h0 : 0 < P.length) (o : Bool) : ∃ o', F_as_matrix [.lst o (P.map vecD)] = some (fmD (tr n P), [some (.lst o' (P.map vecD))]) := by
  have q0 : P[0]? = some P[0] := by simp [h0]
  have l0 := (h.row _ (List.getElem_mem h0)).1
  have d0 : dIx (.lst o (P.map vecD)) (.int 0) = some (vecD P[0]) := by
    have := dIx_pts (o := o) (A := P) (i := 0); rw [q0] at this; exact this
  -- one row
  have er : ∀ (o' : Bool) (k : Nat), k < n → E_as_matrix_2 [some (.lst o' (P.map vecD)), some (.int k), none] = some (vecD (P.map fun p => p.getD k 0), [some (.lst false (P.map vecD)), some (.int k), none]) := fun o' k hk => by
    have e := lcF_map (vs := [2]) (FI := itF (fzF 0)) (FT := put 2) (FE := E_as_matrix_1) (env := [some (.lst o' (P.map vecD)), some (.int k), none]) (env' := [some (.lst false (P.map vecD)), some (.int k), none])
      vecD (fun p => fr (p.getD k 0)) P (by simp only [val_fnF, zsF_eq, fzAt, D.fz, wpE, mgE, List.contains_cons, List.contains_nil, Nat.reduceBEq, Bool.or_false, Bool.or_true, Bool.false_or, Bool.true_or, seqF_eq, andThen_nx, andThen_bk, andThen_ct, andThen_rt, retV_rt, retV_nx, nxF, bkF, ctF, rtF, rnF, rmF, stF, exF, put, parF, agF, ifS, forF_eq, flF_nil, flF_cons, flK_nx, flK_ct, flK_bk, flK_rt, tbF, ttF, andF, orF, notF, andV, orV, ifF, chF, b1, b2, bN, clF_val, aNil, aCons, nmF, ownF, cF, fzF, itF, inF, itOf, rng1, rng2, yesF, dTru, dNot, I.isi_non_tuple, I.isi_non_list, I.isi_non_bool, I.isi_non_int, I.isi_non_str, I.isi_bl_tuple, I.isi_bl_list, I.isi_bl_bool, I.isi_bl_int, I.isi_bl_str, I.isi_int_tuple, I.isi_int_list, I.isi_int_bool, I.isi_int_int, I.isi_int_str, I.isi_str_tuple, I.isi_str_list, I.isi_str_bool, I.isi_str_int, I.isi_str_str, I.isi_tup_tuple, I.isi_tup_list, I.isi_tup_bool, I.isi_tup_int, I.isi_tup_str, I.isi_lst_tuple, I.isi_lst_list, I.isi_lst_bool, I.isi_lst_int, I.isi_lst_str, I.isi_scr_tuple, I.isi_scr_list, I.isi_scr_bool, I.isi_scr_int, I.isi_scr_str, dEq_bl, dNe_bl, dIsN_non, dIsN_bl, dIsN_int, dIsN_str, dIsN_tup, dIsN_lst, dAdd_int, dSub_int, dEq_int, dNe_int, dLt_int, dLe_int, dGt_int, dGe_int, dAddI_int, asB_bl, dIx_tup0, dIx_tup1, fLen, fAbs, fInt, fMax2, fMin2, gTupF, gsCons, gsNil, D.pure, D.pures, Bool.not_true, Bool.not_false, Bool.and_true, Bool.true_and, Bool.and_false, Bool.false_and, Option.bind_some, Option.bind_none, Option.map_some, Option.map_none, bind_ite, map_ite, List.map_cons, List.map_nil, List.replicate, List.cons_append, List.nil_append, List.append_nil, List.getElem?_cons_zero, List.getElem?_cons_succ, List.set_cons_zero, List.set_cons_succ, List.length_cons, List.length_nil, Nat.reduceAdd, Nat.reduceLT, Nat.zero_add, Nat.lt_add_one, if_true, if_false, ite_true, ite_false, decide_eq_true_eq, Bool.false_eq_true, reduceCtorEq, reduceIte, Nat.reduceLeDiff, Nat.reduceEqDiff, fzF, fzs_vec]) (by have := h.len; omega) (by simp [okE])
      fun p hp => ⟨[some (.lst false (P.map vecD)), some (.int k), some (vecD p)], [some (.lst false (P.map vecD)), some (.int k), some (vecD p)], by simp only [val_fnF, zsF_eq, fzAt, D.fz, wpE, mgE, List.contains_cons, List.contains_nil, Nat.reduceBEq, Bool.or_false, Bool.or_true, Bool.false_or, Bool.true_or, seqF_eq, andThen_nx, andThen_bk, andThen_ct, andThen_rt, retV_rt, retV_nx, nxF, bkF, ctF, rtF, rnF, rmF, stF, exF, put, parF, agF, ifS, forF_eq, flF_nil, flF_cons, flK_nx, flK_ct, flK_bk, flK_rt, tbF, ttF, andF, orF, notF, andV, orV, ifF, chF, b1, b2, bN, clF_val, aNil, aCons, nmF, ownF, cF, fzF, itF, inF, itOf, rng1, rng2, yesF, dTru, dNot, I.isi_non_tuple, I.isi_non_list, I.isi_non_bool, I.isi_non_int, I.isi_non_str, I.isi_bl_tuple, I.isi_bl_list, I.isi_bl_bool, I.isi_bl_int, I.isi_bl_str, I.isi_int_tuple, I.isi_int_list, I.isi_int_bool, I.isi_int_int, I.isi_int_str, I.isi_str_tuple, I.isi_str_list, I.isi_str_bool, I.isi_str_int, I.isi_str_str, I.isi_tup_tuple, I.isi_tup_list, I.isi_tup_bool, I.isi_tup_int, I.isi_tup_str, I.isi_lst_tuple, I.isi_lst_list, I.isi_lst_bool, I.isi_lst_int, I.isi_lst_str, I.isi_scr_tuple, I.isi_scr_list, I.isi_scr_bool, I.isi_scr_int, I.isi_scr_str, dEq_bl, dNe_bl, dIsN_non, dIsN_bl, dIsN_int, dIsN_str, dIsN_tup, dIsN_lst, dAdd_int, dSub_int, dEq_int, dNe_int, dLt_int, dLe_int, dGt_int, dGe_int, dAddI_int, asB_bl, dIx_tup0, dIx_tup1, fLen, fAbs, fInt, fMax2, fMin2, gTupF, gsCons, gsNil, D.pure, D.pures, Bool.not_true, Bool.not_false, Bool.and_true, Bool.true_and, Bool.and_false, Bool.false_and, Option.bind_some, Option.bind_none, Option.map_some, Option.map_none, bind_ite, map_ite, List.map_cons, List.map_nil, List.replicate, List.cons_append, List.nil_append, List.append_nil, List.getElem?_cons_zero, List.getElem?_cons_succ, List.set_cons_zero, List.set_cons_succ, List.length_cons, List.length_nil, Nat.reduceAdd, Nat.reduceLT, Nat.zero_add, Nat.lt_add_one, if_true, if_false, ite_true, ite_false, decide_eq_true_eq, Bool.false_eq_true, reduceCtorEq, reduceIte, Nat.reduceLeDiff, Nat.reduceEqDiff], by
        simp only [E_as_matrix_1, val_fnF, zsF_eq, fzAt, D.fz, wpE, mgE, List.contains_cons, List.contains_nil, Nat.reduceBEq, Bool.or_false, Bool.or_true, Bool.false_or, Bool.true_or, seqF_eq, andThen_nx, andThen_bk, andThen_ct, andThen_rt, retV_rt, retV_nx, nxF, bkF, ctF, rtF, rnF, rmF, stF, exF, put, parF, agF, ifS, forF_eq, flF_nil, flF_cons, flK_nx, flK_ct, flK_bk, flK_rt, tbF, ttF, andF, orF, notF, andV, orV, ifF, chF, b1, b2, bN, clF_val, aNil, aCons, nmF, ownF, cF, fzF, itF, inF, itOf, rng1, rng2, yesF, dTru, dNot, I.isi_non_tuple, I.isi_non_list, I.isi_non_bool, I.isi_non_int, I.isi_non_str, I.isi_bl_tuple, I.isi_bl_list, I.isi_bl_bool, I.isi_bl_int, I.isi_bl_str, I.isi_int_tuple, I.isi_int_list, I.isi_int_bool, I.isi_int_int, I.isi_int_str, I.isi_str_tuple, I.isi_str_list, I.isi_str_bool, I.isi_str_int, I.isi_str_str, I.isi_tup_tuple, I.isi_tup_list, I.isi_tup_bool, I.isi_tup_int, I.isi_tup_str, I.isi_lst_tuple, I.isi_lst_list, I.isi_lst_bool, I.isi_lst_int, I.isi_lst_str, I.isi_scr_tuple, I.isi_scr_list, I.isi_scr_bool, I.isi_scr_int, I.isi_scr_str, dEq_bl, dNe_bl, dIsN_non, dIsN_bl, dIsN_int, dIsN_str, dIsN_tup, dIsN_lst, dAdd_int, dSub_int, dEq_int, dNe_int, dLt_int, dLe_int, dGt_int, dGe_int, dAddI_int, asB_bl, dIx_tup0, dIx_tup1, fLen, fAbs, fInt, fMax2, fMin2, gTupF, gsCons, gsNil, D.pure, D.pures, Bool.not_true, Bool.not_false, Bool.and_true, Bool.true_and, Bool.and_false, Bool.false_and, Option.bind_some, Option.bind_none, Option.map_some, Option.map_none, bind_ite, map_ite, List.map_cons, List.map_nil, List.replicate, List.cons_append, List.nil_append, List.append_nil, List.getElem?_cons_zero, List.getElem?_cons_succ, List.set_cons_zero, List.set_cons_succ, List.length_cons, List.length_nil, Nat.reduceAdd, Nat.reduceLT, Nat.zero_add, Nat.lt_add_one, if_true, if_false, ite_true, ite_false, decide_eq_true_eq, Bool.false_eq_true, reduceCtorEq, reduceIte, Nat.reduceLeDiff, Nat.reduceEqDiff, dIx_vec, at_row h hp hk, pure_fr], by simp only [val_fnF, zsF_eq, fzAt, D.fz, wpE, mgE, List.contains_cons, List.contains_nil, Nat.reduceBEq, Bool.or_false, Bool.or_true, Bool.false_or, Bool.true_or, seqF_eq, andThen_nx, andThen_bk, andThen_ct, andThen_rt, retV_rt, retV_nx, nxF, bkF, ctF, rtF, rnF, rmF, stF, exF, put, parF, agF, ifS, forF_eq, flF_nil, flF_cons, flK_nx, flK_ct, flK_bk, flK_rt, tbF, ttF, andF, orF, notF, andV, orV, ifF, chF, b1, b2, bN, clF_val, aNil, aCons, nmF, ownF, cF, fzF, itF, inF, itOf, rng1, rng2, yesF, dTru, dNot, I.isi_non_tuple, I.isi_non_list, I.isi_non_bool, I.isi_non_int, I.isi_non_str, I.isi_bl_tuple, I.isi_bl_list, I.isi_bl_bool, I.isi_bl_int, I.isi_bl_str, I.isi_int_tuple, I.isi_int_list, I.isi_int_bool, I.isi_int_int, I.isi_int_str, I.isi_str_tuple, I.isi_str_list, I.isi_str_bool, I.isi_str_int, I.isi_str_str, I.isi_tup_tuple, I.isi_tup_list, I.isi_tup_bool, I.isi_tup_int, I.isi_tup_str, I.isi_lst_tuple, I.isi_lst_list, I.isi_lst_bool, I.isi_lst_int, I.isi_lst_str, I.isi_scr_tuple, I.isi_scr_list, I.isi_scr_bool, I.isi_scr_int, I.isi_scr_str, dEq_bl, dNe_bl, dIsN_non, dIsN_bl, dIsN_int, dIsN_str, dIsN_tup, dIsN_lst, dAdd_int, dSub_int, dEq_int, dNe_int, dLt_int, dLe_int, dGt_int, dGe_int, dAddI_int, asB_bl, dIx_tup0, dIx_tup1, fLen, fAbs, fInt, fMax2, fMin2, gTupF, gsCons, gsNil, D.pure, D.pures, Bool.not_true, Bool.not_false, Bool.and_true, Bool.true_and, Bool.and_false, Bool.false_and, Option.bind_some, Option.bind_none, Option.map_some, Option.map_none, bind_ite, map_ite, List.map_cons, List.map_nil, List.replicate, List.cons_append, List.nil_append, List.append_nil, List.getElem?_cons_zero, List.getElem?_cons_succ, List.set_cons_zero, List.set_cons_succ, List.length_cons, List.length_nil, Nat.reduceAdd, Nat.reduceLT, Nat.zero_add, Nat.lt_add_one, if_true, if_false, ite_true, ite_false, decide_eq_true_eq, Bool.false_eq_true, reduceCtorEq, reduceIte, Nat.reduceLeDiff, Nat.reduceEqDiff]⟩
    have e2 : P.map (fun p => fr (p.getD k 0)) = (P.map fun p => p.getD k 0).map fr := by simp
    rw [e2] at e
    simp only [E_as_matrix_2, val_fnF, zsF_eq, fzAt, D.fz, wpE, mgE, List.contains_cons, List.contains_nil, Nat.reduceBEq, Bool.or_false, Bool.or_true, Bool.false_or, Bool.true_or, seqF_eq, andThen_nx, andThen_bk, andThen_ct, andThen_rt, retV_rt, retV_nx, nxF, bkF, ctF, rtF, rnF, rmF, stF, exF, put, parF, agF, ifS, forF_eq, flF_nil, flF_cons, flK_nx, flK_ct, flK_bk, flK_rt, tbF, ttF, andF, orF, notF, andV, orV, ifF, chF, b1, b2, bN, clF_val, aNil, aCons, nmF, ownF, cF, fzF, itF, inF, itOf, rng1, rng2, yesF, dTru, dNot, I.isi_non_tuple, I.isi_non_list, I.isi_non_bool, I.isi_non_int, I.isi_non_str, I.isi_bl_tuple, I.isi_bl_list, I.isi_bl_bool, I.isi_bl_int, I.isi_bl_str, I.isi_int_tuple, I.isi_int_list, I.isi_int_bool, I.isi_int_int, I.isi_int_str, I.isi_str_tuple, I.isi_str_list, I.isi_str_bool, I.isi_str_int, I.isi_str_str, I.isi_tup_tuple, I.isi_tup_list, I.isi_tup_bool, I.isi_tup_int, I.isi_tup_str, I.isi_lst_tuple, I.isi_lst_list, I.isi_lst_bool, I.isi_lst_int, I.isi_lst_str, I.isi_scr_tuple, I.isi_scr_list, I.isi_scr_bool, I.isi_scr_int, I.isi_scr_str, dEq_bl, dNe_bl, dIsN_non, dIsN_bl, dIsN_int, dIsN_str, dIsN_tup, dIsN_lst, dAdd_int, dSub_int, dEq_int, dNe_int, dLt_int, dLe_int, dGt_int, dGe_int, dAddI_int, asB_bl, dIx_tup0, dIx_tup1, fLen, fAbs, fInt, fMax2, fMin2, gTupF, gsCons, gsNil, D.pure, D.pures, Bool.not_true, Bool.not_false, Bool.and_true, Bool.true_and, Bool.and_false, Bool.false_and, Option.bind_some, Option.bind_none, Option.map_some, Option.map_none, bind_ite, map_ite, List.map_cons, List.map_nil, List.replicate, List.cons_append, List.nil_append, List.append_nil, List.getElem?_cons_zero, List.getElem?_cons_succ, List.set_cons_zero, List.set_cons_succ, List.length_cons, List.length_nil, Nat.reduceAdd, Nat.reduceLT, Nat.zero_add, Nat.lt_add_one, if_true, if_false, ite_true, ite_false, decide_eq_true_eq, Bool.false_eq_true, reduceCtorEq, reduceIte, Nat.reduceLeDiff, Nat.reduceEqDiff, e, fTuple, pures_fr]
    rfl
  obtain ⟨acc, e, h1, o', d', rfl, rfl, hd'⟩ := lcF_rem (vs := [1]) (FI := inF rng1 (aCons (bN fLen (aCons (b2 dIx (nmF 0) (cF (.int 0))) aNil)) aNil)) (FT := put 1) (FE := E_as_matrix_2) (env := [some (.lst o (P.map vecD)), none, none]) (env' := [some (.lst o (P.map vecD)), none, none])
    (fun k : Nat => D.int (k : Int)) (fun ys acc e => ∃ (o' : Bool) (done : List Nat), e = [some (.lst o' (P.map vecD)), none, none] ∧ acc = done.map (fun k => vecD (P.map fun p => p.getD k 0)) ∧ done ++ ys = List.range n) (List.range n) (by
      simp only [val_fnF, zsF_eq, fzAt, D.fz, wpE, mgE, List.contains_cons, List.contains_nil, Nat.reduceBEq, Bool.or_false, Bool.or_true, Bool.false_or, Bool.true_or, seqF_eq, andThen_nx, andThen_bk, andThen_ct, andThen_rt, retV_rt, retV_nx, nxF, bkF, ctF, rtF, rnF, rmF, stF, exF, put, parF, agF, ifS, forF_eq, flF_nil, flF_cons, flK_nx, flK_ct, flK_bk, flK_rt, tbF, ttF, andF, orF, notF, andV, orV, ifF, chF, b1, b2, bN, clF_val, aNil, aCons, nmF, ownF, cF, fzF, itF, inF, itOf, rng1, rng2, yesF, dTru, dNot, I.isi_non_tuple, I.isi_non_list, I.isi_non_bool, I.isi_non_int, I.isi_non_str, I.isi_bl_tuple, I.isi_bl_list, I.isi_bl_bool, I.isi_bl_int, I.isi_bl_str, I.isi_int_tuple, I.isi_int_list, I.isi_int_bool, I.isi_int_int, I.isi_int_str, I.isi_str_tuple, I.isi_str_list, I.isi_str_bool, I.isi_str_int, I.isi_str_str, I.isi_tup_tuple, I.isi_tup_list, I.isi_tup_bool, I.isi_tup_int, I.isi_tup_str, I.isi_lst_tuple, I.isi_lst_list, I.isi_lst_bool, I.isi_lst_int, I.isi_lst_str, I.isi_scr_tuple, I.isi_scr_list, I.isi_scr_bool, I.isi_scr_int, I.isi_scr_str, dEq_bl, dNe_bl, dIsN_non, dIsN_bl, dIsN_int, dIsN_str, dIsN_tup, dIsN_lst, dAdd_int, dSub_int, dEq_int, dNe_int, dLt_int, dLe_int, dGt_int, dGe_int, dAddI_int, asB_bl, dIx_tup0, dIx_tup1, fLen, fAbs, fInt, fMax2, fMin2, gTupF, gsCons, gsNil, D.pure, D.pures, Bool.not_true, Bool.not_false, Bool.and_true, Bool.true_and, Bool.and_false, Bool.false_and, Option.bind_some, Option.bind_none, Option.map_some, Option.map_none, bind_ite, map_ite, List.map_cons, List.map_nil, List.replicate, List.cons_append, List.nil_append, List.append_nil, List.getElem?_cons_zero, List.getElem?_cons_succ, List.set_cons_zero, List.set_cons_succ, List.length_cons, List.length_nil, Nat.reduceAdd, Nat.reduceLT, Nat.zero_add, Nat.lt_add_one, if_true, if_false, ite_true, ite_false, decide_eq_true_eq, Bool.false_eq_true, reduceCtorEq, reduceIte, Nat.reduceLeDiff, Nat.reduceEqDiff, d0]
      simp only [vecD, val_fnF, zsF_eq, fzAt, D.fz, wpE, mgE, List.contains_cons, List.contains_nil, Nat.reduceBEq, Bool.or_false, Bool.or_true, Bool.false_or, Bool.true_or, seqF_eq, andThen_nx, andThen_bk, andThen_ct, andThen_rt, retV_rt, retV_nx, nxF, bkF, ctF, rtF, rnF, rmF, stF, exF, put, parF, agF, ifS, forF_eq, flF_nil, flF_cons, flK_nx, flK_ct, flK_bk, flK_rt, tbF, ttF, andF, orF, notF, andV, orV, ifF, chF, b1, b2, bN, clF_val, aNil, aCons, nmF, ownF, cF, fzF, itF, inF, itOf, rng1, rng2, yesF, dTru, dNot, I.isi_non_tuple, I.isi_non_list, I.isi_non_bool, I.isi_non_int, I.isi_non_str, I.isi_bl_tuple, I.isi_bl_list, I.isi_bl_bool, I.isi_bl_int, I.isi_bl_str, I.isi_int_tuple, I.isi_int_list, I.isi_int_bool, I.isi_int_int, I.isi_int_str, I.isi_str_tuple, I.isi_str_list, I.isi_str_bool, I.isi_str_int, I.isi_str_str, I.isi_tup_tuple, I.isi_tup_list, I.isi_tup_bool, I.isi_tup_int, I.isi_tup_str, I.isi_lst_tuple, I.isi_lst_list, I.isi_lst_bool, I.isi_lst_int, I.isi_lst_str, I.isi_scr_tuple, I.isi_scr_list, I.isi_scr_bool, I.isi_scr_int, I.isi_scr_str, dEq_bl, dNe_bl, dIsN_non, dIsN_bl, dIsN_int, dIsN_str, dIsN_tup, dIsN_lst, dAdd_int, dSub_int, dEq_int, dNe_int, dLt_int, dLe_int, dGt_int, dGe_int, dAddI_int, asB_bl, dIx_tup0, dIx_tup1, fLen, fAbs, fInt, fMax2, fMin2, gTupF, gsCons, gsNil, D.pure, D.pures, Bool.not_true, Bool.not_false, Bool.and_true, Bool.true_and, Bool.and_false, Bool.false_and, Option.bind_some, Option.bind_none, Option.map_some, Option.map_none, bind_ite, map_ite, List.map_cons, List.map_nil, List.replicate, List.cons_append, List.nil_append, List.append_nil, List.getElem?_cons_zero, List.getElem?_cons_succ, List.set_cons_zero, List.set_cons_succ, List.length_cons, List.length_nil, Nat.reduceAdd, Nat.reduceLT, Nat.zero_add, Nat.lt_add_one, if_true, if_false, ite_true, ite_false, decide_eq_true_eq, Bool.false_eq_true, reduceCtorEq, reduceIte, Nat.reduceLeDiff, Nat.reduceEqDiff, List.length_map, l0, rg_of (show n ≤ 1000000 by have := h.wid; omega), Int.toNat_natCast]) (by have := h.wid; simp; omega) (by simp [okE]) ⟨o, [], by simp only [val_fnF, zsF_eq, fzAt, D.fz, wpE, mgE, List.contains_cons, List.contains_nil, Nat.reduceBEq, Bool.or_false, Bool.or_true, Bool.false_or, Bool.true_or, seqF_eq, andThen_nx, andThen_bk, andThen_ct, andThen_rt, retV_rt, retV_nx, nxF, bkF, ctF, rtF, rnF, rmF, stF, exF, put, parF, agF, ifS, forF_eq, flF_nil, flF_cons, flK_nx, flK_ct, flK_bk, flK_rt, tbF, ttF, andF, orF, notF, andV, orV, ifF, chF, b1, b2, bN, clF_val, aNil, aCons, nmF, ownF, cF, fzF, itF, inF, itOf, rng1, rng2, yesF, dTru, dNot, I.isi_non_tuple, I.isi_non_list, I.isi_non_bool, I.isi_non_int, I.isi_non_str, I.isi_bl_tuple, I.isi_bl_list, I.isi_bl_bool, I.isi_bl_int, I.isi_bl_str, I.isi_int_tuple, I.isi_int_list, I.isi_int_bool, I.isi_int_int, I.isi_int_str, I.isi_str_tuple, I.isi_str_list, I.isi_str_bool, I.isi_str_int, I.isi_str_str, I.isi_tup_tuple, I.isi_tup_list, I.isi_tup_bool, I.isi_tup_int, I.isi_tup_str, I.isi_lst_tuple, I.isi_lst_list, I.isi_lst_bool, I.isi_lst_int, I.isi_lst_str, I.isi_scr_tuple, I.isi_scr_list, I.isi_scr_bool, I.isi_scr_int, I.isi_scr_str, dEq_bl, dNe_bl, dIsN_non, dIsN_bl, dIsN_int, dIsN_str, dIsN_tup, dIsN_lst, dAdd_int, dSub_int, dEq_int, dNe_int, dLt_int, dLe_int, dGt_int, dGe_int, dAddI_int, asB_bl, dIx_tup0, dIx_tup1, fLen, fAbs, fInt, fMax2, fMin2, gTupF, gsCons, gsNil, D.pure, D.pures, Bool.not_true, Bool.not_false, Bool.and_true, Bool.true_and, Bool.and_false, Bool.false_and, Option.bind_some, Option.bind_none, Option.map_some, Option.map_none, bind_ite, map_ite, List.map_cons, List.map_nil, List.replicate, List.cons_append, List.nil_append, List.append_nil, List.getElem?_cons_zero, List.getElem?_cons_succ, List.set_cons_zero, List.set_cons_succ, List.length_cons, List.length_nil, Nat.reduceAdd, Nat.reduceLT, Nat.zero_add, Nat.lt_add_one, if_true, if_false, ite_true, ite_false, decide_eq_true_eq, Bool.false_eq_true, reduceCtorEq, reduceIte, Nat.reduceLeDiff, Nat.reduceEqDiff], rfl, rfl⟩
    fun y zs acc e ⟨o', done, he, ha, hd⟩ => by
      subst he ha
      have hy : y < n := by
        have : y ∈ List.range n := by rw [← hd]; simp
        simpa using this
      refine ⟨_, _, _, by simp only [val_fnF, zsF_eq, fzAt, D.fz, wpE, mgE, List.contains_cons, List.contains_nil, Nat.reduceBEq, Bool.or_false, Bool.or_true, Bool.false_or, Bool.true_or, seqF_eq, andThen_nx, andThen_bk, andThen_ct, andThen_rt, retV_rt, retV_nx, nxF, bkF, ctF, rtF, rnF, rmF, stF, exF, put, parF, agF, ifS, forF_eq, flF_nil, flF_cons, flK_nx, flK_ct, flK_bk, flK_rt, tbF, ttF, andF, orF, notF, andV, orV, ifF, chF, b1, b2, bN, clF_val, aNil, aCons, nmF, ownF, cF, fzF, itF, inF, itOf, rng1, rng2, yesF, dTru, dNot, I.isi_non_tuple, I.isi_non_list, I.isi_non_bool, I.isi_non_int, I.isi_non_str, I.isi_bl_tuple, I.isi_bl_list, I.isi_bl_bool, I.isi_bl_int, I.isi_bl_str, I.isi_int_tuple, I.isi_int_list, I.isi_int_bool, I.isi_int_int, I.isi_int_str, I.isi_str_tuple, I.isi_str_list, I.isi_str_bool, I.isi_str_int, I.isi_str_str, I.isi_tup_tuple, I.isi_tup_list, I.isi_tup_bool, I.isi_tup_int, I.isi_tup_str, I.isi_lst_tuple, I.isi_lst_list, I.isi_lst_bool, I.isi_lst_int, I.isi_lst_str, I.isi_scr_tuple, I.isi_scr_list, I.isi_scr_bool, I.isi_scr_int, I.isi_scr_str, dEq_bl, dNe_bl, dIsN_non, dIsN_bl, dIsN_int, dIsN_str, dIsN_tup, dIsN_lst, dAdd_int, dSub_int, dEq_int, dNe_int, dLt_int, dLe_int, dGt_int, dGe_int, dAddI_int, asB_bl, dIx_tup0, dIx_tup1, fLen, fAbs, fInt, fMax2, fMin2, gTupF, gsCons, gsNil, D.pure, D.pures, Bool.not_true, Bool.not_false, Bool.and_true, Bool.true_and, Bool.and_false, Bool.false_and, Option.bind_some, Option.bind_none, Option.map_some, Option.map_none, bind_ite, map_ite, List.map_cons, List.map_nil, List.replicate, List.cons_append, List.nil_append, List.append_nil, List.getElem?_cons_zero, List.getElem?_cons_succ, List.set_cons_zero, List.set_cons_succ, List.length_cons, List.length_nil, Nat.reduceAdd, Nat.reduceLT, Nat.zero_add, Nat.lt_add_one, if_true, if_false, ite_true, ite_false, decide_eq_true_eq, Bool.false_eq_true, reduceCtorEq, reduceIte, Nat.reduceLeDiff, Nat.reduceEqDiff], er o' y hy, false, done ++ [y], by simp only [val_fnF, zsF_eq, fzAt, D.fz, wpE, mgE, List.contains_cons, List.contains_nil, Nat.reduceBEq, Bool.or_false, Bool.or_true, Bool.false_or, Bool.true_or, seqF_eq, andThen_nx, andThen_bk, andThen_ct, andThen_rt, retV_rt, retV_nx, nxF, bkF, ctF, rtF, rnF, rmF, stF, exF, put, parF, agF, ifS, forF_eq, flF_nil, flF_cons, flK_nx, flK_ct, flK_bk, flK_rt, tbF, ttF, andF, orF, notF, andV, orV, ifF, chF, b1, b2, bN, clF_val, aNil, aCons, nmF, ownF, cF, fzF, itF, inF, itOf, rng1, rng2, yesF, dTru, dNot, I.isi_non_tuple, I.isi_non_list, I.isi_non_bool, I.isi_non_int, I.isi_non_str, I.isi_bl_tuple, I.isi_bl_list, I.isi_bl_bool, I.isi_bl_int, I.isi_bl_str, I.isi_int_tuple, I.isi_int_list, I.isi_int_bool, I.isi_int_int, I.isi_int_str, I.isi_str_tuple, I.isi_str_list, I.isi_str_bool, I.isi_str_int, I.isi_str_str, I.isi_tup_tuple, I.isi_tup_list, I.isi_tup_bool, I.isi_tup_int, I.isi_tup_str, I.isi_lst_tuple, I.isi_lst_list, I.isi_lst_bool, I.isi_lst_int, I.isi_lst_str, I.isi_scr_tuple, I.isi_scr_list, I.isi_scr_bool, I.isi_scr_int, I.isi_scr_str, dEq_bl, dNe_bl, dIsN_non, dIsN_bl, dIsN_int, dIsN_str, dIsN_tup, dIsN_lst, dAdd_int, dSub_int, dEq_int, dNe_int, dLt_int, dLe_int, dGt_int, dGe_int, dAddI_int, asB_bl, dIx_tup0, dIx_tup1, fLen, fAbs, fInt, fMax2, fMin2, gTupF, gsCons, gsNil, D.pure, D.pures, Bool.not_true, Bool.not_false, Bool.and_true, Bool.true_and, Bool.and_false, Bool.false_and, Option.bind_some, Option.bind_none, Option.map_some, Option.map_none, bind_ite, map_ite, List.map_cons, List.map_nil, List.replicate, List.cons_append, List.nil_append, List.append_nil, List.getElem?_cons_zero, List.getElem?_cons_succ, List.set_cons_zero, List.set_cons_succ, List.length_cons, List.length_nil, Nat.reduceAdd, Nat.reduceLT, Nat.zero_add, Nat.lt_add_one, if_true, if_false, ite_true, ite_false, decide_eq_true_eq, Bool.false_eq_true, reduceCtorEq, reduceIte, Nat.reduceLeDiff, Nat.reduceEqDiff], by simp, by simpa using hd⟩
  rw [List.append_nil] at hd'
  subst hd'
  have e3 : (List.range n).map (fun k => vecD (P.map fun p => p.getD k 0)) = (tr n P).map vecD := by simp [tr]
  rw [e3] at h1
  refine ⟨o', ?_⟩
  simp only [F_as_matrix, fnF_eq, val_fnF, zsF_eq, fzAt, D.fz, wpE, mgE, List.contains_cons, List.contains_nil, Nat.reduceBEq, Bool.or_false, Bool.or_true, Bool.false_or, Bool.true_or, seqF_eq, andThen_nx, andThen_bk, andThen_ct, andThen_rt, retV_rt, retV_nx, nxF, bkF, ctF, rtF, rnF, rmF, stF, exF, put, parF, agF, ifS, forF_eq, flF_nil, flF_cons, flK_nx, flK_ct, flK_bk, flK_rt, tbF, ttF, andF, orF, notF, andV, orV, ifF, chF, b1, b2, bN, clF_val, aNil, aCons, nmF, ownF, cF, fzF, itF, inF, itOf, rng1, rng2, yesF, dTru, dNot, I.isi_non_tuple, I.isi_non_list, I.isi_non_bool, I.isi_non_int, I.isi_non_str, I.isi_bl_tuple, I.isi_bl_list, I.isi_bl_bool, I.isi_bl_int, I.isi_bl_str, I.isi_int_tuple, I.isi_int_list, I.isi_int_bool, I.isi_int_int, I.isi_int_str, I.isi_str_tuple, I.isi_str_list, I.isi_str_bool, I.isi_str_int, I.isi_str_str, I.isi_tup_tuple, I.isi_tup_list, I.isi_tup_bool, I.isi_tup_int, I.isi_tup_str, I.isi_lst_tuple, I.isi_lst_list, I.isi_lst_bool, I.isi_lst_int, I.isi_lst_str, I.isi_scr_tuple, I.isi_scr_list, I.isi_scr_bool, I.isi_scr_int, I.isi_scr_str, dEq_bl, dNe_bl, dIsN_non, dIsN_bl, dIsN_int, dIsN_str, dIsN_tup, dIsN_lst, dAdd_int, dSub_int, dEq_int, dNe_int, dLt_int, dLe_int, dGt_int, dGe_int, dAddI_int, asB_bl, dIx_tup0, dIx_tup1, fLen, fAbs, fInt, fMax2, fMin2, gTupF, gsCons, gsNil, D.pure, D.pures, Bool.not_true, Bool.not_false, Bool.and_true, Bool.true_and, Bool.and_false, Bool.false_and, Option.bind_some, Option.bind_none, Option.map_some, Option.map_none, bind_ite, map_ite, List.map_cons, List.map_nil, List.replicate, List.cons_append, List.nil_append, List.append_nil, List.getElem?_cons_zero, List.getElem?_cons_succ, List.set_cons_zero, List.set_cons_succ, List.length_cons, List.length_nil, Nat.reduceAdd, Nat.reduceLT, Nat.zero_add, Nat.lt_add_one, if_true, if_false, ite_true, ite_false, decide_eq_true_eq, Bool.false_eq_true, reduceCtorEq, reduceIte, Nat.reduceLeDiff, Nat.reduceEqDiff, h1, fTuple, pures_vec, fnO_rt, List.take_succ_cons, List.take_zero]
  rfl
/-- how far each point must be moved to lie above -/
def lab (m : Nat) (A : List (List Rat)) (b : List Rat) : List Rat := (List.range m).map fun j => maxQ (List.zipWith (fun x row => x - row.getD j 0) b A)
theorem zip_vec (b : List Rat) (A : List (List Rat)) : List.zipWith (fun a b => D.tup [a, b]) (b.map fr) (A.map vecD) = (List.zip b A).map fun p => D.tup [fr p.1, vecD p.2] := by
  rw [List.zipWith_map, List.zip, List.map_zipWith]
theorem least_above_eq {m n : Nat} {A : List (List Rat)} {b : List Rat} (hA : Pts m A) (hl : A.length = n) (h0 : 0 < n) (hb : ∀ q ∈ b, Hq q) (lb : b.length = n) : val F_least_above [fmD A, vecD b] = some (vecD (lab m A b)) := by
  have q0 : A[0]? = some A[0] := by simp [hl, h0]
  have l0 := (hA.row _ (List.getElem_mem (show 0 < A.length by omega))).1
  have d0 : dIx (fmD A) (.int 0) = some (vecD A[0]) := by
    have := dIx_fm (A := A) (i := 0); rw [q0] at this; exact this
  have hm := hA.wid
  have hz : ∀ p ∈ List.zip b A, Hq p.1 ∧ p.2 ∈ A := fun p hp => ⟨hb _ (List.of_mem_zip hp).1, (List.of_mem_zip hp).2⟩
  obtain ⟨j, e⟩ := flF_append (FT := put 3) (FB := L_least_above_2) (fun i : Nat => D.int (i : Int)) (fun j => fr (maxQ (List.zipWith (fun x row => x - row.getD j 0) b A)))
    (fun (acc : List D) (j : Option D) => [some (fmD A), some (vecD b), some (.lst true acc), j, none, none]) (List.range m) [] none (by simp; omega)
    fun acc j y hy hlt => ⟨some (.int y), by
      have hy : y < m := by simpa using hy
      have e := lcF_map (vs := [4, 5]) (FI := inF fzip (aCons (nmO 1) (aCons (nmO 0) aNil))) (FT := gTupF (gsCons (put 4) (gsCons (put 5) gsNil))) (FE := E_least_above_1) (env := [some (fmD A), some (vecD b), some (.lst true acc), some (.int y), none, none]) (env' := [some (fmD A), some (vecD b), some (.lst true acc), some (.int y), none, none])
        (fun p : Rat × List Rat => D.tup [fr p.1, vecD p.2]) (fun p => fr (p.1 - p.2.getD y 0)) (List.zip b A) (by
          simp only [val_fnF, zsF_eq, fzAt, D.fz, wpE, mgE, List.contains_cons, List.contains_nil, Nat.reduceBEq, Bool.or_false, Bool.or_true, Bool.false_or, Bool.true_or, seqF_eq, andThen_nx, andThen_bk, andThen_ct, andThen_rt, retV_rt, retV_nx, nxF, bkF, ctF, rtF, rnF, rmF, stF, exF, put, parF, agF, ifS, forF_eq, flF_nil, flF_cons, flK_nx, flK_ct, flK_bk, flK_rt, tbF, ttF, andF, orF, notF, andV, orV, ifF, chF, b1, b2, bN, clF_val, aNil, aCons, nmF, ownF, cF, fzF, itF, inF, itOf, rng1, rng2, yesF, dTru, dNot, I.isi_non_tuple, I.isi_non_list, I.isi_non_bool, I.isi_non_int, I.isi_non_str, I.isi_bl_tuple, I.isi_bl_list, I.isi_bl_bool, I.isi_bl_int, I.isi_bl_str, I.isi_int_tuple, I.isi_int_list, I.isi_int_bool, I.isi_int_int, I.isi_int_str, I.isi_str_tuple, I.isi_str_list, I.isi_str_bool, I.isi_str_int, I.isi_str_str, I.isi_tup_tuple, I.isi_tup_list, I.isi_tup_bool, I.isi_tup_int, I.isi_tup_str, I.isi_lst_tuple, I.isi_lst_list, I.isi_lst_bool, I.isi_lst_int, I.isi_lst_str, I.isi_scr_tuple, I.isi_scr_list, I.isi_scr_bool, I.isi_scr_int, I.isi_scr_str, dEq_bl, dNe_bl, dIsN_non, dIsN_bl, dIsN_int, dIsN_str, dIsN_tup, dIsN_lst, dAdd_int, dSub_int, dEq_int, dNe_int, dLt_int, dLe_int, dGt_int, dGe_int, dAddI_int, asB_bl, dIx_tup0, dIx_tup1, fLen, fAbs, fInt, fMax2, fMin2, gTupF, gsCons, gsNil, D.pure, D.pures, Bool.not_true, Bool.not_false, Bool.and_true, Bool.true_and, Bool.and_false, Bool.false_and, Option.bind_some, Option.bind_none, Option.map_some, Option.map_none, bind_ite, map_ite, List.map_cons, List.map_nil, List.replicate, List.cons_append, List.nil_append, List.append_nil, List.getElem?_cons_zero, List.getElem?_cons_succ, List.set_cons_zero, List.set_cons_succ, List.length_cons, List.length_nil, Nat.reduceAdd, Nat.reduceLT, Nat.zero_add, Nat.lt_add_one, if_true, if_false, ite_true, ite_false, decide_eq_true_eq, Bool.false_eq_true, reduceCtorEq, reduceIte, Nat.reduceLeDiff, Nat.reduceEqDiff, pure_fm, pure_vec]
          simp only [vecD, fmD, fzip, pures_fr, pures_vec, val_fnF, zsF_eq, fzAt, D.fz, wpE, mgE, List.contains_cons, List.contains_nil, Nat.reduceBEq, Bool.or_false, Bool.or_true, Bool.false_or, Bool.true_or, seqF_eq, andThen_nx, andThen_bk, andThen_ct, andThen_rt, retV_rt, retV_nx, nxF, bkF, ctF, rtF, rnF, rmF, stF, exF, put, parF, agF, ifS, forF_eq, flF_nil, flF_cons, flK_nx, flK_ct, flK_bk, flK_rt, tbF, ttF, andF, orF, notF, andV, orV, ifF, chF, b1, b2, bN, clF_val, aNil, aCons, nmF, ownF, cF, fzF, itF, inF, itOf, rng1, rng2, yesF, dTru, dNot, I.isi_non_tuple, I.isi_non_list, I.isi_non_bool, I.isi_non_int, I.isi_non_str, I.isi_bl_tuple, I.isi_bl_list, I.isi_bl_bool, I.isi_bl_int, I.isi_bl_str, I.isi_int_tuple, I.isi_int_list, I.isi_int_bool, I.isi_int_int, I.isi_int_str, I.isi_str_tuple, I.isi_str_list, I.isi_str_bool, I.isi_str_int, I.isi_str_str, I.isi_tup_tuple, I.isi_tup_list, I.isi_tup_bool, I.isi_tup_int, I.isi_tup_str, I.isi_lst_tuple, I.isi_lst_list, I.isi_lst_bool, I.isi_lst_int, I.isi_lst_str, I.isi_scr_tuple, I.isi_scr_list, I.isi_scr_bool, I.isi_scr_int, I.isi_scr_str, dEq_bl, dNe_bl, dIsN_non, dIsN_bl, dIsN_int, dIsN_str, dIsN_tup, dIsN_lst, dAdd_int, dSub_int, dEq_int, dNe_int, dLt_int, dLe_int, dGt_int, dGe_int, dAddI_int, asB_bl, dIx_tup0, dIx_tup1, fLen, fAbs, fInt, fMax2, fMin2, gTupF, gsCons, gsNil, D.pure, D.pures, Bool.not_true, Bool.not_false, Bool.and_true, Bool.true_and, Bool.and_false, Bool.false_and, Option.bind_some, Option.bind_none, Option.map_some, Option.map_none, bind_ite, map_ite, List.map_cons, List.map_nil, List.replicate, List.cons_append, List.nil_append, List.append_nil, List.getElem?_cons_zero, List.getElem?_cons_succ, List.set_cons_zero, List.set_cons_succ, List.length_cons, List.length_nil, Nat.reduceAdd, Nat.reduceLT, Nat.zero_add, Nat.lt_add_one, if_true, if_false, ite_true, ite_false, decide_eq_true_eq, Bool.false_eq_true, reduceCtorEq, reduceIte, Nat.reduceLeDiff, Nat.reduceEqDiff, zip_vec, and_self]) (by have := hA.len; simp; omega) (by simp [okE])
        fun p hp => ⟨[some (fmD A), some (vecD b), some (.lst true acc), some (.int y), some (fr p.1), some (vecD p.2)], [some (fmD A), some (vecD b), some (.lst true acc), some (.int y), some (fr p.1), some (vecD p.2)], by simp only [val_fnF, zsF_eq, fzAt, D.fz, wpE, mgE, List.contains_cons, List.contains_nil, Nat.reduceBEq, Bool.or_false, Bool.or_true, Bool.false_or, Bool.true_or, seqF_eq, andThen_nx, andThen_bk, andThen_ct, andThen_rt, retV_rt, retV_nx, nxF, bkF, ctF, rtF, rnF, rmF, stF, exF, put, parF, agF, ifS, forF_eq, flF_nil, flF_cons, flK_nx, flK_ct, flK_bk, flK_rt, tbF, ttF, andF, orF, notF, andV, orV, ifF, chF, b1, b2, bN, clF_val, aNil, aCons, nmF, ownF, cF, fzF, itF, inF, itOf, rng1, rng2, yesF, dTru, dNot, I.isi_non_tuple, I.isi_non_list, I.isi_non_bool, I.isi_non_int, I.isi_non_str, I.isi_bl_tuple, I.isi_bl_list, I.isi_bl_bool, I.isi_bl_int, I.isi_bl_str, I.isi_int_tuple, I.isi_int_list, I.isi_int_bool, I.isi_int_int, I.isi_int_str, I.isi_str_tuple, I.isi_str_list, I.isi_str_bool, I.isi_str_int, I.isi_str_str, I.isi_tup_tuple, I.isi_tup_list, I.isi_tup_bool, I.isi_tup_int, I.isi_tup_str, I.isi_lst_tuple, I.isi_lst_list, I.isi_lst_bool, I.isi_lst_int, I.isi_lst_str, I.isi_scr_tuple, I.isi_scr_list, I.isi_scr_bool, I.isi_scr_int, I.isi_scr_str, dEq_bl, dNe_bl, dIsN_non, dIsN_bl, dIsN_int, dIsN_str, dIsN_tup, dIsN_lst, dAdd_int, dSub_int, dEq_int, dNe_int, dLt_int, dLe_int, dGt_int, dGe_int, dAddI_int, asB_bl, dIx_tup0, dIx_tup1, fLen, fAbs, fInt, fMax2, fMin2, gTupF, gsCons, gsNil, D.pure, D.pures, Bool.not_true, Bool.not_false, Bool.and_true, Bool.true_and, Bool.and_false, Bool.false_and, Option.bind_some, Option.bind_none, Option.map_some, Option.map_none, bind_ite, map_ite, List.map_cons, List.map_nil, List.replicate, List.cons_append, List.nil_append, List.append_nil, List.getElem?_cons_zero, List.getElem?_cons_succ, List.set_cons_zero, List.set_cons_succ, List.length_cons, List.length_nil, Nat.reduceAdd, Nat.reduceLT, Nat.zero_add, Nat.lt_add_one, if_true, if_false, ite_true, ite_false, decide_eq_true_eq, Bool.false_eq_true, reduceCtorEq, reduceIte, Nat.reduceLeDiff, Nat.reduceEqDiff], by
          have hq := at_Hq hA (hz p hp).2 hy
          simp only [E_least_above_1, val_fnF, zsF_eq, fzAt, D.fz, wpE, mgE, List.contains_cons, List.contains_nil, Nat.reduceBEq, Bool.or_false, Bool.or_true, Bool.false_or, Bool.true_or, seqF_eq, andThen_nx, andThen_bk, andThen_ct, andThen_rt, retV_rt, retV_nx, nxF, bkF, ctF, rtF, rnF, rmF, stF, exF, put, parF, agF, ifS, forF_eq, flF_nil, flF_cons, flK_nx, flK_ct, flK_bk, flK_rt, tbF, ttF, andF, orF, notF, andV, orV, ifF, chF, b1, b2, bN, clF_val, aNil, aCons, nmF, ownF, cF, fzF, itF, inF, itOf, rng1, rng2, yesF, dTru, dNot, I.isi_non_tuple, I.isi_non_list, I.isi_non_bool, I.isi_non_int, I.isi_non_str, I.isi_bl_tuple, I.isi_bl_list, I.isi_bl_bool, I.isi_bl_int, I.isi_bl_str, I.isi_int_tuple, I.isi_int_list, I.isi_int_bool, I.isi_int_int, I.isi_int_str, I.isi_str_tuple, I.isi_str_list, I.isi_str_bool, I.isi_str_int, I.isi_str_str, I.isi_tup_tuple, I.isi_tup_list, I.isi_tup_bool, I.isi_tup_int, I.isi_tup_str, I.isi_lst_tuple, I.isi_lst_list, I.isi_lst_bool, I.isi_lst_int, I.isi_lst_str, I.isi_scr_tuple, I.isi_scr_list, I.isi_scr_bool, I.isi_scr_int, I.isi_scr_str, dEq_bl, dNe_bl, dIsN_non, dIsN_bl, dIsN_int, dIsN_str, dIsN_tup, dIsN_lst, dAdd_int, dSub_int, dEq_int, dNe_int, dLt_int, dLe_int, dGt_int, dGe_int, dAddI_int, asB_bl, dIx_tup0, dIx_tup1, fLen, fAbs, fInt, fMax2, fMin2, gTupF, gsCons, gsNil, D.pure, D.pures, Bool.not_true, Bool.not_false, Bool.and_true, Bool.true_and, Bool.and_false, Bool.false_and, Option.bind_some, Option.bind_none, Option.map_some, Option.map_none, bind_ite, map_ite, List.map_cons, List.map_nil, List.replicate, List.cons_append, List.nil_append, List.append_nil, List.getElem?_cons_zero, List.getElem?_cons_succ, List.set_cons_zero, List.set_cons_succ, List.length_cons, List.length_nil, Nat.reduceAdd, Nat.reduceLT, Nat.zero_add, Nat.lt_add_one, if_true, if_false, ite_true, ite_false, decide_eq_true_eq, Bool.false_eq_true, reduceCtorEq, reduceIte, Nat.reduceLeDiff, Nat.reduceEqDiff, pure_fr, dIx_vec, at_row hA (hz p hp).2 hy, minus_eq (hz p hp).1.den hq.den], by simp only [val_fnF, zsF_eq, fzAt, D.fz, wpE, mgE, List.contains_cons, List.contains_nil, Nat.reduceBEq, Bool.or_false, Bool.or_true, Bool.false_or, Bool.true_or, seqF_eq, andThen_nx, andThen_bk, andThen_ct, andThen_rt, retV_rt, retV_nx, nxF, bkF, ctF, rtF, rnF, rmF, stF, exF, put, parF, agF, ifS, forF_eq, flF_nil, flF_cons, flK_nx, flK_ct, flK_bk, flK_rt, tbF, ttF, andF, orF, notF, andV, orV, ifF, chF, b1, b2, bN, clF_val, aNil, aCons, nmF, ownF, cF, fzF, itF, inF, itOf, rng1, rng2, yesF, dTru, dNot, I.isi_non_tuple, I.isi_non_list, I.isi_non_bool, I.isi_non_int, I.isi_non_str, I.isi_bl_tuple, I.isi_bl_list, I.isi_bl_bool, I.isi_bl_int, I.isi_bl_str, I.isi_int_tuple, I.isi_int_list, I.isi_int_bool, I.isi_int_int, I.isi_int_str, I.isi_str_tuple, I.isi_str_list, I.isi_str_bool, I.isi_str_int, I.isi_str_str, I.isi_tup_tuple, I.isi_tup_list, I.isi_tup_bool, I.isi_tup_int, I.isi_tup_str, I.isi_lst_tuple, I.isi_lst_list, I.isi_lst_bool, I.isi_lst_int, I.isi_lst_str, I.isi_scr_tuple, I.isi_scr_list, I.isi_scr_bool, I.isi_scr_int, I.isi_scr_str, dEq_bl, dNe_bl, dIsN_non, dIsN_bl, dIsN_int, dIsN_str, dIsN_tup, dIsN_lst, dAdd_int, dSub_int, dEq_int, dNe_int, dLt_int, dLe_int, dGt_int, dGe_int, dAddI_int, asB_bl, dIx_tup0, dIx_tup1, fLen, fAbs, fInt, fMax2, fMin2, gTupF, gsCons, gsNil, D.pure, D.pures, Bool.not_true, Bool.not_false, Bool.and_true, Bool.true_and, Bool.and_false, Bool.false_and, Option.bind_some, Option.bind_none, Option.map_some, Option.map_none, bind_ite, map_ite, List.map_cons, List.map_nil, List.replicate, List.cons_append, List.nil_append, List.append_nil, List.getElem?_cons_zero, List.getElem?_cons_succ, List.set_cons_zero, List.set_cons_succ, List.length_cons, List.length_nil, Nat.reduceAdd, Nat.reduceLT, Nat.zero_add, Nat.lt_add_one, if_true, if_false, ite_true, ite_false, decide_eq_true_eq, Bool.false_eq_true, reduceCtorEq, reduceIte, Nat.reduceLeDiff, Nat.reduceEqDiff]⟩
      have e2 : (List.zip b A).map (fun p => fr (p.1 - p.2.getD y 0)) = (List.zipWith (fun x row => x - row.getD y 0) b A).map fr := by
        rw [List.zip, List.map_zipWith, List.map_zipWith]
      rw [e2] at e
      have ne : List.zipWith (fun x row => x - row.getD y 0) b A ≠ [] := by
        intro h
        have hn : (List.zipWith (fun x row => x - row.getD y 0) b A).length = n := by simp [lb, hl]
        rw [h] at hn
        simp at hn; omega
      have hd : ∀ q ∈ List.zipWith (fun x row => x - row.getD y 0) b A, q.den < 2 ^ 64 := fun q hq => by
        obtain ⟨i, hi, rfl⟩ := List.getElem_of_mem hq
        rw [List.getElem_zipWith]
        exact ((hb _ (List.getElem_mem _)).sub (at_Hq hA (List.getElem_mem _) hy)).den
      simp only [L_least_above_2, val_fnF, zsF_eq, fzAt, D.fz, wpE, mgE, List.contains_cons, List.contains_nil, Nat.reduceBEq, Bool.or_false, Bool.or_true, Bool.false_or, Bool.true_or, seqF_eq, andThen_nx, andThen_bk, andThen_ct, andThen_rt, retV_rt, retV_nx, nxF, bkF, ctF, rtF, rnF, rmF, stF, exF, put, parF, agF, ifS, forF_eq, flF_nil, flF_cons, flK_nx, flK_ct, flK_bk, flK_rt, tbF, ttF, andF, orF, notF, andV, orV, ifF, chF, b1, b2, bN, clF_val, aNil, aCons, nmF, ownF, cF, fzF, itF, inF, itOf, rng1, rng2, yesF, dTru, dNot, I.isi_non_tuple, I.isi_non_list, I.isi_non_bool, I.isi_non_int, I.isi_non_str, I.isi_bl_tuple, I.isi_bl_list, I.isi_bl_bool, I.isi_bl_int, I.isi_bl_str, I.isi_int_tuple, I.isi_int_list, I.isi_int_bool, I.isi_int_int, I.isi_int_str, I.isi_str_tuple, I.isi_str_list, I.isi_str_bool, I.isi_str_int, I.isi_str_str, I.isi_tup_tuple, I.isi_tup_list, I.isi_tup_bool, I.isi_tup_int, I.isi_tup_str, I.isi_lst_tuple, I.isi_lst_list, I.isi_lst_bool, I.isi_lst_int, I.isi_lst_str, I.isi_scr_tuple, I.isi_scr_list, I.isi_scr_bool, I.isi_scr_int, I.isi_scr_str, dEq_bl, dNe_bl, dIsN_non, dIsN_bl, dIsN_int, dIsN_str, dIsN_tup, dIsN_lst, dAdd_int, dSub_int, dEq_int, dNe_int, dLt_int, dLe_int, dGt_int, dGe_int, dAddI_int, asB_bl, dIx_tup0, dIx_tup1, fLen, fAbs, fInt, fMax2, fMin2, gTupF, gsCons, gsNil, D.pure, D.pures, Bool.not_true, Bool.not_false, Bool.and_true, Bool.true_and, Bool.and_false, Bool.false_and, Option.bind_some, Option.bind_none, Option.map_some, Option.map_none, bind_ite, map_ite, List.map_cons, List.map_nil, List.replicate, List.cons_append, List.nil_append, List.append_nil, List.getElem?_cons_zero, List.getElem?_cons_succ, List.set_cons_zero, List.set_cons_succ, List.length_cons, List.length_nil, Nat.reduceAdd, Nat.reduceLT, Nat.zero_add, Nat.lt_add_one, if_true, if_false, ite_true, ite_false, decide_eq_true_eq, Bool.false_eq_true, reduceCtorEq, reduceIte, Nat.reduceLeDiff, Nat.reduceEqDiff, mtF, isL, e, greatest_eq (o := true) ne hd, mAppend, hlt]⟩
  have e3 : (List.range m).map (fun j => fr (maxQ (List.zipWith (fun x row => x - row.getD j 0) b A))) = (lab m A b).map fr := by simp [lab]
  rw [e3, List.nil_append] at e
  have z : dLst [] = some (.lst true []) := dLst_le (by simp)
  have it : inF rng1 (aCons (bN fLen (aCons (b2 dIx (nmF 0) (cF (.int 0))) aNil)) aNil) [some (fmD A), some (vecD b), some (.lst true []), none, none, none] = some ((List.range m).map (fun i : Nat => D.int (i : Int)), [some (fmD A), some (vecD b), some (.lst true []), none, none, none]) := by
    simp only [val_fnF, zsF_eq, fzAt, D.fz, wpE, mgE, List.contains_cons, List.contains_nil, Nat.reduceBEq, Bool.or_false, Bool.or_true, Bool.false_or, Bool.true_or, seqF_eq, andThen_nx, andThen_bk, andThen_ct, andThen_rt, retV_rt, retV_nx, nxF, bkF, ctF, rtF, rnF, rmF, stF, exF, put, parF, agF, ifS, forF_eq, flF_nil, flF_cons, flK_nx, flK_ct, flK_bk, flK_rt, tbF, ttF, andF, orF, notF, andV, orV, ifF, chF, b1, b2, bN, clF_val, aNil, aCons, nmF, ownF, cF, fzF, itF, inF, itOf, rng1, rng2, yesF, dTru, dNot, I.isi_non_tuple, I.isi_non_list, I.isi_non_bool, I.isi_non_int, I.isi_non_str, I.isi_bl_tuple, I.isi_bl_list, I.isi_bl_bool, I.isi_bl_int, I.isi_bl_str, I.isi_int_tuple, I.isi_int_list, I.isi_int_bool, I.isi_int_int, I.isi_int_str, I.isi_str_tuple, I.isi_str_list, I.isi_str_bool, I.isi_str_int, I.isi_str_str, I.isi_tup_tuple, I.isi_tup_list, I.isi_tup_bool, I.isi_tup_int, I.isi_tup_str, I.isi_lst_tuple, I.isi_lst_list, I.isi_lst_bool, I.isi_lst_int, I.isi_lst_str, I.isi_scr_tuple, I.isi_scr_list, I.isi_scr_bool, I.isi_scr_int, I.isi_scr_str, dEq_bl, dNe_bl, dIsN_non, dIsN_bl, dIsN_int, dIsN_str, dIsN_tup, dIsN_lst, dAdd_int, dSub_int, dEq_int, dNe_int, dLt_int, dLe_int, dGt_int, dGe_int, dAddI_int, asB_bl, dIx_tup0, dIx_tup1, fLen, fAbs, fInt, fMax2, fMin2, gTupF, gsCons, gsNil, D.pure, D.pures, Bool.not_true, Bool.not_false, Bool.and_true, Bool.true_and, Bool.and_false, Bool.false_and, Option.bind_some, Option.bind_none, Option.map_some, Option.map_none, bind_ite, map_ite, List.map_cons, List.map_nil, List.replicate, List.cons_append, List.nil_append, List.append_nil, List.getElem?_cons_zero, List.getElem?_cons_succ, List.set_cons_zero, List.set_cons_succ, List.length_cons, List.length_nil, Nat.reduceAdd, Nat.reduceLT, Nat.zero_add, Nat.lt_add_one, if_true, if_false, ite_true, ite_false, decide_eq_true_eq, Bool.false_eq_true, reduceCtorEq, reduceIte, Nat.reduceLeDiff, Nat.reduceEqDiff, d0]
    simp only [vecD, val_fnF, zsF_eq, fzAt, D.fz, wpE, mgE, List.contains_cons, List.contains_nil, Nat.reduceBEq, Bool.or_false, Bool.or_true, Bool.false_or, Bool.true_or, seqF_eq, andThen_nx, andThen_bk, andThen_ct, andThen_rt, retV_rt, retV_nx, nxF, bkF, ctF, rtF, rnF, rmF, stF, exF, put, parF, agF, ifS, forF_eq, flF_nil, flF_cons, flK_nx, flK_ct, flK_bk, flK_rt, tbF, ttF, andF, orF, notF, andV, orV, ifF, chF, b1, b2, bN, clF_val, aNil, aCons, nmF, ownF, cF, fzF, itF, inF, itOf, rng1, rng2, yesF, dTru, dNot, I.isi_non_tuple, I.isi_non_list, I.isi_non_bool, I.isi_non_int, I.isi_non_str, I.isi_bl_tuple, I.isi_bl_list, I.isi_bl_bool, I.isi_bl_int, I.isi_bl_str, I.isi_int_tuple, I.isi_int_list, I.isi_int_bool, I.isi_int_int, I.isi_int_str, I.isi_str_tuple, I.isi_str_list, I.isi_str_bool, I.isi_str_int, I.isi_str_str, I.isi_tup_tuple, I.isi_tup_list, I.isi_tup_bool, I.isi_tup_int, I.isi_tup_str, I.isi_lst_tuple, I.isi_lst_list, I.isi_lst_bool, I.isi_lst_int, I.isi_lst_str, I.isi_scr_tuple, I.isi_scr_list, I.isi_scr_bool, I.isi_scr_int, I.isi_scr_str, dEq_bl, dNe_bl, dIsN_non, dIsN_bl, dIsN_int, dIsN_str, dIsN_tup, dIsN_lst, dAdd_int, dSub_int, dEq_int, dNe_int, dLt_int, dLe_int, dGt_int, dGe_int, dAddI_int, asB_bl, dIx_tup0, dIx_tup1, fLen, fAbs, fInt, fMax2, fMin2, gTupF, gsCons, gsNil, D.pure, D.pures, Bool.not_true, Bool.not_false, Bool.and_true, Bool.true_and, Bool.and_false, Bool.false_and, Option.bind_some, Option.bind_none, Option.map_some, Option.map_none, bind_ite, map_ite, List.map_cons, List.map_nil, List.replicate, List.cons_append, List.nil_append, List.append_nil, List.getElem?_cons_zero, List.getElem?_cons_succ, List.set_cons_zero, List.set_cons_succ, List.length_cons, List.length_nil, Nat.reduceAdd, Nat.reduceLT, Nat.zero_add, Nat.lt_add_one, if_true, if_false, ite_true, ite_false, decide_eq_true_eq, Bool.false_eq_true, reduceCtorEq, reduceIte, Nat.reduceLeDiff, Nat.reduceEqDiff, List.length_map, l0, rg_of (show m ≤ 1000000 by omega), Int.toNat_natCast]
  simp only [F_least_above, val_fnF, List.length_cons, List.length_nil, Nat.zero_add, Nat.reduceAdd, if_true, seqF_eq, stF, bN, aNil, z, Option.bind_some, Option.map_some, List.map_cons, List.map_nil, List.replicate, List.cons_append, List.nil_append, put, List.length_cons, List.length_nil, Nat.reduceLT, List.set_cons_zero, List.set_cons_succ, andThen_nx, forF_eq, it, e]
  simp only [val_fnF, zsF_eq, fzAt, D.fz, wpE, mgE, List.contains_cons, List.contains_nil, Nat.reduceBEq, Bool.or_false, Bool.or_true, Bool.false_or, Bool.true_or, seqF_eq, andThen_nx, andThen_bk, andThen_ct, andThen_rt, retV_rt, retV_nx, nxF, bkF, ctF, rtF, rnF, rmF, stF, exF, put, parF, agF, ifS, forF_eq, flF_nil, flF_cons, flK_nx, flK_ct, flK_bk, flK_rt, tbF, ttF, andF, orF, notF, andV, orV, ifF, chF, b1, b2, bN, clF_val, aNil, aCons, nmF, ownF, cF, fzF, itF, inF, itOf, rng1, rng2, yesF, dTru, dNot, I.isi_non_tuple, I.isi_non_list, I.isi_non_bool, I.isi_non_int, I.isi_non_str, I.isi_bl_tuple, I.isi_bl_list, I.isi_bl_bool, I.isi_bl_int, I.isi_bl_str, I.isi_int_tuple, I.isi_int_list, I.isi_int_bool, I.isi_int_int, I.isi_int_str, I.isi_str_tuple, I.isi_str_list, I.isi_str_bool, I.isi_str_int, I.isi_str_str, I.isi_tup_tuple, I.isi_tup_list, I.isi_tup_bool, I.isi_tup_int, I.isi_tup_str, I.isi_lst_tuple, I.isi_lst_list, I.isi_lst_bool, I.isi_lst_int, I.isi_lst_str, I.isi_scr_tuple, I.isi_scr_list, I.isi_scr_bool, I.isi_scr_int, I.isi_scr_str, dEq_bl, dNe_bl, dIsN_non, dIsN_bl, dIsN_int, dIsN_str, dIsN_tup, dIsN_lst, dAdd_int, dSub_int, dEq_int, dNe_int, dLt_int, dLe_int, dGt_int, dGe_int, dAddI_int, asB_bl, dIx_tup0, dIx_tup1, fLen, fAbs, fInt, fMax2, fMin2, gTupF, gsCons, gsNil, D.pure, D.pures, Bool.not_true, Bool.not_false, Bool.and_true, Bool.true_and, Bool.and_false, Bool.false_and, Option.bind_some, Option.bind_none, Option.map_some, Option.map_none, bind_ite, map_ite, List.map_cons, List.map_nil, List.replicate, List.cons_append, List.nil_append, List.append_nil, List.getElem?_cons_zero, List.getElem?_cons_succ, List.set_cons_zero, List.set_cons_succ, List.length_cons, List.length_nil, Nat.reduceAdd, Nat.reduceLT, Nat.zero_add, Nat.lt_add_one, if_true, if_false, ite_true, ite_false, decide_eq_true_eq, Bool.false_eq_true, reduceCtorEq, reduceIte, Nat.reduceLeDiff, Nat.reduceEqDiff, fTuple, pures_fr]
  rfl
end
end G33

set_option Elab.async false
set_option linter.all false
set_option maxRecDepth 100000
set_option maxHeartbeats 1000000
namespace G33
open PySem L2 Pz
noncomputable section
def tcol (A : List (List Rat)) (s : List Rat) : List Rat := A.map fun row => minQ (List.zipWith (· + ·) row s)
theorem zw_ne {α β γ : Type} {f : α → β → γ} {a : List α} {b : List β} {n : Nat} (ha : a.length = n) (hb : b.length = n) (h : 0 < n) : List.zipWith f a b ≠ [] := fun e => by
  have hn : (List.zipWith f a b).length = n := by simp [ha, hb]
  rw [e] at hn; simp at hn; omega
theorem zw_somes (a b : List Rat) : List.zipWith tadd (somes a) (somes b) = (List.zipWith (· + ·) a b).map some := by
  unfold somes
  rw [List.zipWith_map, List.map_zipWith]; rfl
theorem somes_H2 {s : List Rat} (h : ∀ q ∈ s, Hq q) : ∀ t ∈ somes s, H2 t := fun t ht => by
  obtain ⟨q, hq, rfl⟩ := List.mem_map.mp ht
  exact H2.some (h q hq)
theorem times_column_fin {m : Nat} {A : List (List Rat)} {s : List Rat} (hA : Pts m A) (h0 : 0 < m) (hs : ∀ q ∈ s, Hq q) (ls : s.length = m) : val F_times_column [fmD A, vecD s] = some (vecD (tcol A s)) := by
  rw [fm_mx, vec_row, times_column_eq hA.mat (somes_H2 hs), vec_row]
  congr 2
  unfold tcol somes
  rw [List.map_map, List.map_map]
  refine List.map_congr_left fun row hr => ?_
  show minL (List.zipWith tadd (somes row) (somes s)) = _
  rw [zw_somes, minL_minQ (zw_ne (hA.row row hr).1 ls h0)]; rfl
theorem zw_Hq {a b : List Rat} {f : Rat → Rat → Rat} (hf : ∀ x y, Hq x → Hq y → Hq (f x y)) (ha : ∀ q ∈ a, Hq q) (hb : ∀ q ∈ b, Hq q) : ∀ q ∈ List.zipWith f a b, Hq q := fun q hq => by
  obtain ⟨i, hi, rfl⟩ := List.getElem_of_mem hq
  rw [List.getElem_zipWith]
  exact hf _ _ (ha _ (List.getElem_mem _)) (hb _ (List.getElem_mem _))
theorem tcol_Hq {m : Nat} {A : List (List Rat)} {s : List Rat} (hA : Pts m A) (h0 : 0 < m) (hs : ∀ q ∈ s, Hq q) (ls : s.length = m) : ∀ q ∈ tcol A s, Hq q := fun q hq => by
  obtain ⟨row, hr, rfl⟩ := List.mem_map.mp hq
  exact zw_Hq (fun _ _ => Hq.add) (hA.row row hr).2 hs _ (minQ_mem (zw_ne (hA.row row hr).1 ls h0))
theorem lab_Hq {m n : Nat} {A : List (List Rat)} {b : List Rat} (hA : Pts m A) (hl : A.length = n) (h0 : 0 < n) (hb : ∀ q ∈ b, Hq q) (lb : b.length = n) : ∀ q ∈ lab m A b, Hq q := fun q hq => by
  obtain ⟨j, hj, rfl⟩ := List.mem_map.mp hq
  have hj : j < m := by simpa using hj
  have := maxQ_mem (zw_ne (f := fun (x : Rat) (row : List Rat) => x - row.getD j 0) lb hl h0)
  obtain ⟨i, hi, e⟩ := List.getElem_of_mem this
  rw [← e, List.getElem_zipWith]
  exact (hb _ (List.getElem_mem _)).sub (at_Hq hA (List.getElem_mem _) hj)
theorem dNe_fr (a b : Rat) : dNe (fr a) (fr b) = some (.bl (!decide (a = b))) := by
  unfold dNe
  rw [if_pos ⟨shp_fr a, shp_fr b⟩]
  by_cases h : a = b
  · subst h; simp [fr, D.py, D.pys, PyData.eqv, PyData.eqvAll]
  · have : ¬ (a.num = b.num ∧ a.den = b.den) := fun k => h (Rat.ext k.1 k.2)
    simp only [fr, D.py, D.pys, PyData.eqv, PyData.eqvAll, h, decide_false]
    by_cases k : a.num = b.num
    · have kd : ¬ (a.den : Int) = b.den := fun e => this ⟨k, by omega⟩
      simp [k, kd]
    · simp [k]
/-- the paper's first word -/
theorem solution_paper_ok {m n : Nat} {A : List (List Rat)} {b : List Rat} (hA : Pts m A) (hl : A.length = n) (h0 : 0 < n) (m0 : 0 < m) (hb : ∀ q ∈ b, Hq q) (lb : b.length = n) :
    ∃ x, val F_solution_paper [fmD A, vecD b] = some (.tup [.str (if tcol A (lab m A b) = b then "yes" else "no"), x]) := by
  have la := least_above_eq hA hl h0 hb lb
  have hx := lab_Hq hA hl h0 hb lb
  have lx : (lab m A b).length = m := by simp [lab]
  have tc := times_column_fin hA m0 hx lx
  have lt : (tcol A (lab m A b)).length = n := by simp [tcol, hl]
  have hn : n ≤ 1000 := by rw [← hl]; exact hA.len
  obtain ⟨s, hs⟩ : ∃ s, s = lab m A b := ⟨_, rfl⟩
  rw [← hs] at la tc lt hx lx ⊢
  obtain ⟨r, hr⟩ : ∃ r, r = tcol A s := ⟨_, rfl⟩
  rw [← hr] at tc lt ⊢
  have e := lcF_filter (vs := [5]) (FI := inF rng1 (aCons (bN fLen (aCons (nmF 1) aNil)) aNil)) (FT := put 5) (FC := I_solution_paper_1) (FE := E_solution_paper_1) (env := [some (fmD A), some (vecD b), some (vecD s), some (vecD r), none, none]) (env' := [some (fmD A), some (vecD b), some (vecD s), some (vecD r), none, none])
    (fun i : Nat => D.int (i : Int)) (fun i => !decide (r.getD i 0 = b.getD i 0)) (fun i : Nat => D.int (i : Int)) (List.range n) (by
      simp only [val_fnF, zsF_eq, fzAt, D.fz, wpE, mgE, List.contains_cons, List.contains_nil, Nat.reduceBEq, Bool.or_false, Bool.or_true, Bool.false_or, Bool.true_or, seqF_eq, andThen_nx, andThen_bk, andThen_ct, andThen_rt, retV_rt, retV_nx, nxF, bkF, ctF, rtF, rnF, rmF, stF, exF, put, parF, agF, ifS, forF_eq, flF_nil, flF_cons, flK_nx, flK_ct, flK_bk, flK_rt, tbF, ttF, andF, orF, notF, andV, orV, ifF, chF, b1, b2, bN, clF_val, aNil, aCons, nmF, ownF, cF, fzF, itF, inF, itOf, rng1, rng2, yesF, dTru, dNot, I.isi_non_tuple, I.isi_non_list, I.isi_non_bool, I.isi_non_int, I.isi_non_str, I.isi_bl_tuple, I.isi_bl_list, I.isi_bl_bool, I.isi_bl_int, I.isi_bl_str, I.isi_int_tuple, I.isi_int_list, I.isi_int_bool, I.isi_int_int, I.isi_int_str, I.isi_str_tuple, I.isi_str_list, I.isi_str_bool, I.isi_str_int, I.isi_str_str, I.isi_tup_tuple, I.isi_tup_list, I.isi_tup_bool, I.isi_tup_int, I.isi_tup_str, I.isi_lst_tuple, I.isi_lst_list, I.isi_lst_bool, I.isi_lst_int, I.isi_lst_str, I.isi_scr_tuple, I.isi_scr_list, I.isi_scr_bool, I.isi_scr_int, I.isi_scr_str, dEq_bl, dNe_bl, dIsN_non, dIsN_bl, dIsN_int, dIsN_str, dIsN_tup, dIsN_lst, dAdd_int, dSub_int, dEq_int, dNe_int, dLt_int, dLe_int, dGt_int, dGe_int, dAddI_int, asB_bl, dIx_tup0, dIx_tup1, fLen, fAbs, fInt, fMax2, fMin2, gTupF, gsCons, gsNil, D.pure, D.pures, Bool.not_true, Bool.not_false, Bool.and_true, Bool.true_and, Bool.and_false, Bool.false_and, Option.bind_some, Option.bind_none, Option.map_some, Option.map_none, bind_ite, map_ite, List.map_cons, List.map_nil, List.replicate, List.cons_append, List.nil_append, List.append_nil, List.getElem?_cons_zero, List.getElem?_cons_succ, List.set_cons_zero, List.set_cons_succ, List.length_cons, List.length_nil, Nat.reduceAdd, Nat.reduceLT, Nat.zero_add, Nat.lt_add_one, if_true, if_false, ite_true, ite_false, decide_eq_true_eq, Bool.false_eq_true, reduceCtorEq, reduceIte, Nat.reduceLeDiff, Nat.reduceEqDiff]
      simp only [vecD, val_fnF, zsF_eq, fzAt, D.fz, wpE, mgE, List.contains_cons, List.contains_nil, Nat.reduceBEq, Bool.or_false, Bool.or_true, Bool.false_or, Bool.true_or, seqF_eq, andThen_nx, andThen_bk, andThen_ct, andThen_rt, retV_rt, retV_nx, nxF, bkF, ctF, rtF, rnF, rmF, stF, exF, put, parF, agF, ifS, forF_eq, flF_nil, flF_cons, flK_nx, flK_ct, flK_bk, flK_rt, tbF, ttF, andF, orF, notF, andV, orV, ifF, chF, b1, b2, bN, clF_val, aNil, aCons, nmF, ownF, cF, fzF, itF, inF, itOf, rng1, rng2, yesF, dTru, dNot, I.isi_non_tuple, I.isi_non_list, I.isi_non_bool, I.isi_non_int, I.isi_non_str, I.isi_bl_tuple, I.isi_bl_list, I.isi_bl_bool, I.isi_bl_int, I.isi_bl_str, I.isi_int_tuple, I.isi_int_list, I.isi_int_bool, I.isi_int_int, I.isi_int_str, I.isi_str_tuple, I.isi_str_list, I.isi_str_bool, I.isi_str_int, I.isi_str_str, I.isi_tup_tuple, I.isi_tup_list, I.isi_tup_bool, I.isi_tup_int, I.isi_tup_str, I.isi_lst_tuple, I.isi_lst_list, I.isi_lst_bool, I.isi_lst_int, I.isi_lst_str, I.isi_scr_tuple, I.isi_scr_list, I.isi_scr_bool, I.isi_scr_int, I.isi_scr_str, dEq_bl, dNe_bl, dIsN_non, dIsN_bl, dIsN_int, dIsN_str, dIsN_tup, dIsN_lst, dAdd_int, dSub_int, dEq_int, dNe_int, dLt_int, dLe_int, dGt_int, dGe_int, dAddI_int, asB_bl, dIx_tup0, dIx_tup1, fLen, fAbs, fInt, fMax2, fMin2, gTupF, gsCons, gsNil, D.pure, D.pures, Bool.not_true, Bool.not_false, Bool.and_true, Bool.true_and, Bool.and_false, Bool.false_and, Option.bind_some, Option.bind_none, Option.map_some, Option.map_none, bind_ite, map_ite, List.map_cons, List.map_nil, List.replicate, List.cons_append, List.nil_append, List.append_nil, List.getElem?_cons_zero, List.getElem?_cons_succ, List.set_cons_zero, List.set_cons_succ, List.length_cons, List.length_nil, Nat.reduceAdd, Nat.reduceLT, Nat.zero_add, Nat.lt_add_one, if_true, if_false, ite_true, ite_false, decide_eq_true_eq, Bool.false_eq_true, reduceCtorEq, reduceIte, Nat.reduceLeDiff, Nat.reduceEqDiff, List.length_map, lb, rg_of (show n ≤ 1000000 by omega), Int.toNat_natCast]) (by simp; omega) (by simp [okE])
    fun i hi => ⟨[some (fmD A), some (vecD b), some (vecD s), some (vecD r), none, some (.int i)], [some (fmD A), some (vecD b), some (vecD s), some (vecD r), none, some (.int i)], by simp only [val_fnF, zsF_eq, fzAt, D.fz, wpE, mgE, List.contains_cons, List.contains_nil, Nat.reduceBEq, Bool.or_false, Bool.or_true, Bool.false_or, Bool.true_or, seqF_eq, andThen_nx, andThen_bk, andThen_ct, andThen_rt, retV_rt, retV_nx, nxF, bkF, ctF, rtF, rnF, rmF, stF, exF, put, parF, agF, ifS, forF_eq, flF_nil, flF_cons, flK_nx, flK_ct, flK_bk, flK_rt, tbF, ttF, andF, orF, notF, andV, orV, ifF, chF, b1, b2, bN, clF_val, aNil, aCons, nmF, ownF, cF, fzF, itF, inF, itOf, rng1, rng2, yesF, dTru, dNot, I.isi_non_tuple, I.isi_non_list, I.isi_non_bool, I.isi_non_int, I.isi_non_str, I.isi_bl_tuple, I.isi_bl_list, I.isi_bl_bool, I.isi_bl_int, I.isi_bl_str, I.isi_int_tuple, I.isi_int_list, I.isi_int_bool, I.isi_int_int, I.isi_int_str, I.isi_str_tuple, I.isi_str_list, I.isi_str_bool, I.isi_str_int, I.isi_str_str, I.isi_tup_tuple, I.isi_tup_list, I.isi_tup_bool, I.isi_tup_int, I.isi_tup_str, I.isi_lst_tuple, I.isi_lst_list, I.isi_lst_bool, I.isi_lst_int, I.isi_lst_str, I.isi_scr_tuple, I.isi_scr_list, I.isi_scr_bool, I.isi_scr_int, I.isi_scr_str, dEq_bl, dNe_bl, dIsN_non, dIsN_bl, dIsN_int, dIsN_str, dIsN_tup, dIsN_lst, dAdd_int, dSub_int, dEq_int, dNe_int, dLt_int, dLe_int, dGt_int, dGe_int, dAddI_int, asB_bl, dIx_tup0, dIx_tup1, fLen, fAbs, fInt, fMax2, fMin2, gTupF, gsCons, gsNil, D.pure, D.pures, Bool.not_true, Bool.not_false, Bool.and_true, Bool.true_and, Bool.and_false, Bool.false_and, Option.bind_some, Option.bind_none, Option.map_some, Option.map_none, bind_ite, map_ite, List.map_cons, List.map_nil, List.replicate, List.cons_append, List.nil_append, List.append_nil, List.getElem?_cons_zero, List.getElem?_cons_succ, List.set_cons_zero, List.set_cons_succ, List.length_cons, List.length_nil, Nat.reduceAdd, Nat.reduceLT, Nat.zero_add, Nat.lt_add_one, if_true, if_false, ite_true, ite_false, decide_eq_true_eq, Bool.false_eq_true, reduceCtorEq, reduceIte, Nat.reduceLeDiff, Nat.reduceEqDiff], by
      have hi : i < n := by simpa using hi
      have q1 : r[i]? = some (r.getD i 0) := by rw [List.getD_eq_getElem?_getD, List.getElem?_eq_getElem (by omega)]; rfl
      have q2 : b[i]? = some (b.getD i 0) := by rw [List.getD_eq_getElem?_getD, List.getElem?_eq_getElem (by omega)]; rfl
      simp only [I_solution_paper_1, val_fnF, zsF_eq, fzAt, D.fz, wpE, mgE, List.contains_cons, List.contains_nil, Nat.reduceBEq, Bool.or_false, Bool.or_true, Bool.false_or, Bool.true_or, seqF_eq, andThen_nx, andThen_bk, andThen_ct, andThen_rt, retV_rt, retV_nx, nxF, bkF, ctF, rtF, rnF, rmF, stF, exF, put, parF, agF, ifS, forF_eq, flF_nil, flF_cons, flK_nx, flK_ct, flK_bk, flK_rt, tbF, ttF, andF, orF, notF, andV, orV, ifF, chF, b1, b2, bN, clF_val, aNil, aCons, nmF, ownF, cF, fzF, itF, inF, itOf, rng1, rng2, yesF, dTru, dNot, I.isi_non_tuple, I.isi_non_list, I.isi_non_bool, I.isi_non_int, I.isi_non_str, I.isi_bl_tuple, I.isi_bl_list, I.isi_bl_bool, I.isi_bl_int, I.isi_bl_str, I.isi_int_tuple, I.isi_int_list, I.isi_int_bool, I.isi_int_int, I.isi_int_str, I.isi_str_tuple, I.isi_str_list, I.isi_str_bool, I.isi_str_int, I.isi_str_str, I.isi_tup_tuple, I.isi_tup_list, I.isi_tup_bool, I.isi_tup_int, I.isi_tup_str, I.isi_lst_tuple, I.isi_lst_list, I.isi_lst_bool, I.isi_lst_int, I.isi_lst_str, I.isi_scr_tuple, I.isi_scr_list, I.isi_scr_bool, I.isi_scr_int, I.isi_scr_str, dEq_bl, dNe_bl, dIsN_non, dIsN_bl, dIsN_int, dIsN_str, dIsN_tup, dIsN_lst, dAdd_int, dSub_int, dEq_int, dNe_int, dLt_int, dLe_int, dGt_int, dGe_int, dAddI_int, asB_bl, dIx_tup0, dIx_tup1, fLen, fAbs, fInt, fMax2, fMin2, gTupF, gsCons, gsNil, D.pure, D.pures, Bool.not_true, Bool.not_false, Bool.and_true, Bool.true_and, Bool.and_false, Bool.false_and, Option.bind_some, Option.bind_none, Option.map_some, Option.map_none, bind_ite, map_ite, List.map_cons, List.map_nil, List.replicate, List.cons_append, List.nil_append, List.append_nil, List.getElem?_cons_zero, List.getElem?_cons_succ, List.set_cons_zero, List.set_cons_succ, List.length_cons, List.length_nil, Nat.reduceAdd, Nat.reduceLT, Nat.zero_add, Nat.lt_add_one, if_true, if_false, ite_true, ite_false, decide_eq_true_eq, Bool.false_eq_true, reduceCtorEq, reduceIte, Nat.reduceLeDiff, Nat.reduceEqDiff, dIx_vec, q1, q2, dNe_fr], fun _ => ⟨[some (fmD A), some (vecD b), some (vecD s), some (vecD r), none, some (.int i)], by simp only [E_solution_paper_1, val_fnF, zsF_eq, fzAt, D.fz, wpE, mgE, List.contains_cons, List.contains_nil, Nat.reduceBEq, Bool.or_false, Bool.or_true, Bool.false_or, Bool.true_or, seqF_eq, andThen_nx, andThen_bk, andThen_ct, andThen_rt, retV_rt, retV_nx, nxF, bkF, ctF, rtF, rnF, rmF, stF, exF, put, parF, agF, ifS, forF_eq, flF_nil, flF_cons, flK_nx, flK_ct, flK_bk, flK_rt, tbF, ttF, andF, orF, notF, andV, orV, ifF, chF, b1, b2, bN, clF_val, aNil, aCons, nmF, ownF, cF, fzF, itF, inF, itOf, rng1, rng2, yesF, dTru, dNot, I.isi_non_tuple, I.isi_non_list, I.isi_non_bool, I.isi_non_int, I.isi_non_str, I.isi_bl_tuple, I.isi_bl_list, I.isi_bl_bool, I.isi_bl_int, I.isi_bl_str, I.isi_int_tuple, I.isi_int_list, I.isi_int_bool, I.isi_int_int, I.isi_int_str, I.isi_str_tuple, I.isi_str_list, I.isi_str_bool, I.isi_str_int, I.isi_str_str, I.isi_tup_tuple, I.isi_tup_list, I.isi_tup_bool, I.isi_tup_int, I.isi_tup_str, I.isi_lst_tuple, I.isi_lst_list, I.isi_lst_bool, I.isi_lst_int, I.isi_lst_str, I.isi_scr_tuple, I.isi_scr_list, I.isi_scr_bool, I.isi_scr_int, I.isi_scr_str, dEq_bl, dNe_bl, dIsN_non, dIsN_bl, dIsN_int, dIsN_str, dIsN_tup, dIsN_lst, dAdd_int, dSub_int, dEq_int, dNe_int, dLt_int, dLe_int, dGt_int, dGe_int, dAddI_int, asB_bl, dIx_tup0, dIx_tup1, fLen, fAbs, fInt, fMax2, fMin2, gTupF, gsCons, gsNil, D.pure, D.pures, Bool.not_true, Bool.not_false, Bool.and_true, Bool.true_and, Bool.and_false, Bool.false_and, Option.bind_some, Option.bind_none, Option.map_some, Option.map_none, bind_ite, map_ite, List.map_cons, List.map_nil, List.replicate, List.cons_append, List.nil_append, List.append_nil, List.getElem?_cons_zero, List.getElem?_cons_succ, List.set_cons_zero, List.set_cons_succ, List.length_cons, List.length_nil, Nat.reduceAdd, Nat.reduceLT, Nat.zero_add, Nat.lt_add_one, if_true, if_false, ite_true, ite_false, decide_eq_true_eq, Bool.false_eq_true, reduceCtorEq, reduceIte, Nat.reduceLeDiff, Nat.reduceEqDiff], by simp only [val_fnF, zsF_eq, fzAt, D.fz, wpE, mgE, List.contains_cons, List.contains_nil, Nat.reduceBEq, Bool.or_false, Bool.or_true, Bool.false_or, Bool.true_or, seqF_eq, andThen_nx, andThen_bk, andThen_ct, andThen_rt, retV_rt, retV_nx, nxF, bkF, ctF, rtF, rnF, rmF, stF, exF, put, parF, agF, ifS, forF_eq, flF_nil, flF_cons, flK_nx, flK_ct, flK_bk, flK_rt, tbF, ttF, andF, orF, notF, andV, orV, ifF, chF, b1, b2, bN, clF_val, aNil, aCons, nmF, ownF, cF, fzF, itF, inF, itOf, rng1, rng2, yesF, dTru, dNot, I.isi_non_tuple, I.isi_non_list, I.isi_non_bool, I.isi_non_int, I.isi_non_str, I.isi_bl_tuple, I.isi_bl_list, I.isi_bl_bool, I.isi_bl_int, I.isi_bl_str, I.isi_int_tuple, I.isi_int_list, I.isi_int_bool, I.isi_int_int, I.isi_int_str, I.isi_str_tuple, I.isi_str_list, I.isi_str_bool, I.isi_str_int, I.isi_str_str, I.isi_tup_tuple, I.isi_tup_list, I.isi_tup_bool, I.isi_tup_int, I.isi_tup_str, I.isi_lst_tuple, I.isi_lst_list, I.isi_lst_bool, I.isi_lst_int, I.isi_lst_str, I.isi_scr_tuple, I.isi_scr_list, I.isi_scr_bool, I.isi_scr_int, I.isi_scr_str, dEq_bl, dNe_bl, dIsN_non, dIsN_bl, dIsN_int, dIsN_str, dIsN_tup, dIsN_lst, dAdd_int, dSub_int, dEq_int, dNe_int, dLt_int, dLe_int, dGt_int, dGe_int, dAddI_int, asB_bl, dIx_tup0, dIx_tup1, fLen, fAbs, fInt, fMax2, fMin2, gTupF, gsCons, gsNil, D.pure, D.pures, Bool.not_true, Bool.not_false, Bool.and_true, Bool.true_and, Bool.and_false, Bool.false_and, Option.bind_some, Option.bind_none, Option.map_some, Option.map_none, bind_ite, map_ite, List.map_cons, List.map_nil, List.replicate, List.cons_append, List.nil_append, List.append_nil, List.getElem?_cons_zero, List.getElem?_cons_succ, List.set_cons_zero, List.set_cons_succ, List.length_cons, List.length_nil, Nat.reduceAdd, Nat.reduceLT, Nat.zero_add, Nat.lt_add_one, if_true, if_false, ite_true, ite_false, decide_eq_true_eq, Bool.false_eq_true, reduceCtorEq, reduceIte, Nat.reduceLeDiff, Nat.reduceEqDiff]⟩, fun _ => by simp only [val_fnF, zsF_eq, fzAt, D.fz, wpE, mgE, List.contains_cons, List.contains_nil, Nat.reduceBEq, Bool.or_false, Bool.or_true, Bool.false_or, Bool.true_or, seqF_eq, andThen_nx, andThen_bk, andThen_ct, andThen_rt, retV_rt, retV_nx, nxF, bkF, ctF, rtF, rnF, rmF, stF, exF, put, parF, agF, ifS, forF_eq, flF_nil, flF_cons, flK_nx, flK_ct, flK_bk, flK_rt, tbF, ttF, andF, orF, notF, andV, orV, ifF, chF, b1, b2, bN, clF_val, aNil, aCons, nmF, ownF, cF, fzF, itF, inF, itOf, rng1, rng2, yesF, dTru, dNot, I.isi_non_tuple, I.isi_non_list, I.isi_non_bool, I.isi_non_int, I.isi_non_str, I.isi_bl_tuple, I.isi_bl_list, I.isi_bl_bool, I.isi_bl_int, I.isi_bl_str, I.isi_int_tuple, I.isi_int_list, I.isi_int_bool, I.isi_int_int, I.isi_int_str, I.isi_str_tuple, I.isi_str_list, I.isi_str_bool, I.isi_str_int, I.isi_str_str, I.isi_tup_tuple, I.isi_tup_list, I.isi_tup_bool, I.isi_tup_int, I.isi_tup_str, I.isi_lst_tuple, I.isi_lst_list, I.isi_lst_bool, I.isi_lst_int, I.isi_lst_str, I.isi_scr_tuple, I.isi_scr_list, I.isi_scr_bool, I.isi_scr_int, I.isi_scr_str, dEq_bl, dNe_bl, dIsN_non, dIsN_bl, dIsN_int, dIsN_str, dIsN_tup, dIsN_lst, dAdd_int, dSub_int, dEq_int, dNe_int, dLt_int, dLe_int, dGt_int, dGe_int, dAddI_int, asB_bl, dIx_tup0, dIx_tup1, fLen, fAbs, fInt, fMax2, fMin2, gTupF, gsCons, gsNil, D.pure, D.pures, Bool.not_true, Bool.not_false, Bool.and_true, Bool.true_and, Bool.and_false, Bool.false_and, Option.bind_some, Option.bind_none, Option.map_some, Option.map_none, bind_ite, map_ite, List.map_cons, List.map_nil, List.replicate, List.cons_append, List.nil_append, List.append_nil, List.getElem?_cons_zero, List.getElem?_cons_succ, List.set_cons_zero, List.set_cons_succ, List.length_cons, List.length_nil, Nat.reduceAdd, Nat.reduceLT, Nat.zero_add, Nat.lt_add_one, if_true, if_false, ite_true, ite_false, decide_eq_true_eq, Bool.false_eq_true, reduceCtorEq, reduceIte, Nat.reduceLeDiff, Nat.reduceEqDiff]⟩
  have key : (List.range n).filter (fun i => !decide (r.getD i 0 = b.getD i 0)) = [] ↔ r = b := by
    rw [List.filter_eq_nil_iff]
    constructor
    · intro h
      refine List.ext_getElem (by omega) fun i h1 h2 => ?_
      have := h i (by simp; omega)
      simp [List.getD_eq_getElem?_getD, List.getElem?_eq_getElem h1, List.getElem?_eq_getElem h2] at this
      exact this
    · intro h i _; subst h; simp
  obtain ⟨w, hw⟩ : ∃ w, w = (List.range n).filter (fun i => !decide (r.getD i 0 = b.getD i 0)) := ⟨_, rfl⟩
  rw [← hw] at e key
  have fzw : D.fzs (w.map fun i : Nat => D.int (i : Int)) = w.map fun i : Nat => D.int (i : Int) := by
    rw [D.fzs_map, List.map_map]; rfl
  have yes2 : dTup [.str "yes", vecD s] = some (.tup [.str "yes", vecD s]) := dTup_le (by simp)
  cases w with
  | nil =>
    have rb := key.mp rfl
    rw [if_pos rb]
    refine ⟨vecD s, ?_⟩
    simp only [List.map_nil] at e
    simp only [F_solution_paper, val_fnF, zsF_eq, fzAt, D.fz, wpE, mgE, List.contains_cons, List.contains_nil, Nat.reduceBEq, Bool.or_false, Bool.or_true, Bool.false_or, Bool.true_or, seqF_eq, andThen_nx, andThen_bk, andThen_ct, andThen_rt, retV_rt, retV_nx, nxF, bkF, ctF, rtF, rnF, rmF, stF, exF, put, parF, agF, ifS, forF_eq, flF_nil, flF_cons, flK_nx, flK_ct, flK_bk, flK_rt, tbF, ttF, andF, orF, notF, andV, orV, ifF, chF, b1, b2, bN, clF_val, aNil, aCons, nmF, ownF, cF, fzF, itF, inF, itOf, rng1, rng2, yesF, dTru, dNot, I.isi_non_tuple, I.isi_non_list, I.isi_non_bool, I.isi_non_int, I.isi_non_str, I.isi_bl_tuple, I.isi_bl_list, I.isi_bl_bool, I.isi_bl_int, I.isi_bl_str, I.isi_int_tuple, I.isi_int_list, I.isi_int_bool, I.isi_int_int, I.isi_int_str, I.isi_str_tuple, I.isi_str_list, I.isi_str_bool, I.isi_str_int, I.isi_str_str, I.isi_tup_tuple, I.isi_tup_list, I.isi_tup_bool, I.isi_tup_int, I.isi_tup_str, I.isi_lst_tuple, I.isi_lst_list, I.isi_lst_bool, I.isi_lst_int, I.isi_lst_str, I.isi_scr_tuple, I.isi_scr_list, I.isi_scr_bool, I.isi_scr_int, I.isi_scr_str, dEq_bl, dNe_bl, dIsN_non, dIsN_bl, dIsN_int, dIsN_str, dIsN_tup, dIsN_lst, dAdd_int, dSub_int, dEq_int, dNe_int, dLt_int, dLe_int, dGt_int, dGe_int, dAddI_int, asB_bl, dIx_tup0, dIx_tup1, fLen, fAbs, fInt, fMax2, fMin2, gTupF, gsCons, gsNil, D.pure, D.pures, Bool.not_true, Bool.not_false, Bool.and_true, Bool.true_and, Bool.and_false, Bool.false_and, Option.bind_some, Option.bind_none, Option.map_some, Option.map_none, bind_ite, map_ite, List.map_cons, List.map_nil, List.replicate, List.cons_append, List.nil_append, List.append_nil, List.getElem?_cons_zero, List.getElem?_cons_succ, List.set_cons_zero, List.set_cons_succ, List.length_cons, List.length_nil, Nat.reduceAdd, Nat.reduceLT, Nat.zero_add, Nat.lt_add_one, if_true, if_false, ite_true, ite_false, decide_eq_true_eq, Bool.false_eq_true, reduceCtorEq, reduceIte, Nat.reduceLeDiff, Nat.reduceEqDiff, pure_fm, pure_vec, la, tc, e, D.fzs, yes2, decide_true]
    rfl
  | cons i w =>
    have rb : ¬ r = b := fun h => by cases key.mpr h
    rw [if_neg rb]
    have no2 : dTup [.str "no", .int (i : Int)] = some (.tup [.str "no", .int (i : Int)]) := dTup_le (by simp)
    have d0 : dIx (.lst false (.int (i : Int) :: w.map fun i : Nat => D.int (i : Int))) (.int 0) = some (.int (i : Int)) := dIx_lstN (k := 0)
    have l1 : ¬ (((w.length + 1 : Nat)) : Int) = 0 := by omega
    refine ⟨.int (i : Int), ?_⟩
    simp only [List.map_cons] at e fzw
    simp only [F_solution_paper, val_fnF, zsF_eq, fzAt, D.fz, wpE, mgE, List.contains_cons, List.contains_nil, Nat.reduceBEq, Bool.or_false, Bool.or_true, Bool.false_or, Bool.true_or, seqF_eq, andThen_nx, andThen_bk, andThen_ct, andThen_rt, retV_rt, retV_nx, nxF, bkF, ctF, rtF, rnF, rmF, stF, exF, put, parF, agF, ifS, forF_eq, flF_nil, flF_cons, flK_nx, flK_ct, flK_bk, flK_rt, tbF, ttF, andF, orF, notF, andV, orV, ifF, chF, b1, b2, bN, clF_val, aNil, aCons, nmF, ownF, cF, fzF, itF, inF, itOf, rng1, rng2, yesF, dTru, dNot, I.isi_non_tuple, I.isi_non_list, I.isi_non_bool, I.isi_non_int, I.isi_non_str, I.isi_bl_tuple, I.isi_bl_list, I.isi_bl_bool, I.isi_bl_int, I.isi_bl_str, I.isi_int_tuple, I.isi_int_list, I.isi_int_bool, I.isi_int_int, I.isi_int_str, I.isi_str_tuple, I.isi_str_list, I.isi_str_bool, I.isi_str_int, I.isi_str_str, I.isi_tup_tuple, I.isi_tup_list, I.isi_tup_bool, I.isi_tup_int, I.isi_tup_str, I.isi_lst_tuple, I.isi_lst_list, I.isi_lst_bool, I.isi_lst_int, I.isi_lst_str, I.isi_scr_tuple, I.isi_scr_list, I.isi_scr_bool, I.isi_scr_int, I.isi_scr_str, dEq_bl, dNe_bl, dIsN_non, dIsN_bl, dIsN_int, dIsN_str, dIsN_tup, dIsN_lst, dAdd_int, dSub_int, dEq_int, dNe_int, dLt_int, dLe_int, dGt_int, dGe_int, dAddI_int, asB_bl, dIx_tup0, dIx_tup1, fLen, fAbs, fInt, fMax2, fMin2, gTupF, gsCons, gsNil, D.pure, D.pures, Bool.not_true, Bool.not_false, Bool.and_true, Bool.true_and, Bool.and_false, Bool.false_and, Option.bind_some, Option.bind_none, Option.map_some, Option.map_none, bind_ite, map_ite, List.map_cons, List.map_nil, List.replicate, List.cons_append, List.nil_append, List.append_nil, List.getElem?_cons_zero, List.getElem?_cons_succ, List.set_cons_zero, List.set_cons_succ, List.length_cons, List.length_nil, Nat.reduceAdd, Nat.reduceLT, Nat.zero_add, Nat.lt_add_one, if_true, if_false, ite_true, ite_false, decide_eq_true_eq, Bool.false_eq_true, reduceCtorEq, reduceIte, Nat.reduceLeDiff, Nat.reduceEqDiff, pure_fm, pure_vec, la, tc, e, fzw, List.length_map, l1, decide_false, d0, no2]
end
end G33

set_option Elab.async false
set_option linter.all false
set_option maxRecDepth 100000
set_option maxHeartbeats 1000000
namespace G33
open PySem L2 Pz
noncomputable section
/-! the nearest point of a hull, in plain numbers -/
def mixv (n : Nat) (t : List Rat) (P : List (List Rat)) : List Rat := (List.range n).map fun k => minQ (List.zipWith (fun t p => t + p.getD k 0) t P)
def labs (P : List (List Rat)) (x : List Rat) : List Rat := P.map fun p => maxQ (List.zipWith (fun x y => x - y) x p)
theorem getD_get {l : List Rat} {i : Nat} (h : i < l.length) : l.getD i 0 = l[i] := by
  rw [List.getD_eq_getElem?_getD, List.getElem?_eq_getElem h]; rfl
theorem lab_tr {n : Nat} {P : List (List Rat)} {x : List Rat} (h : Pts n P) (hx : x.length = n) : lab P.length (tr n P) x = labs P x := by
  refine List.ext_getElem (by simp [lab, labs]) fun j h1 h2 => ?_
  simp [lab] at h1
  simp only [lab, labs, List.getElem_map, List.getElem_range]
  congr 1
  have lp := (h.row _ (List.getElem_mem h1)).1
  refine List.ext_getElem (by simp [tr, hx, lp]) fun k h3 h4 => ?_
  simp [tr, hx] at h3
  have hk : k < n := by omega
  simp only [List.getElem_zipWith, tr, List.getElem_map, List.getElem_range]
  rw [getD_get (by simpa using h1), List.getElem_map, getD_get (by omega)]
theorem tcol_tr {n : Nat} {P : List (List Rat)} {s : List Rat} (hs : s.length = P.length) : tcol (tr n P) s = mixv n s P := by
  unfold tcol tr mixv
  rw [List.map_map]
  refine List.map_congr_left fun k _ => ?_
  show minQ _ = minQ _
  congr 1
  refine List.ext_getElem (by simp [hs]) fun i h1 h2 => ?_
  simp only [List.getElem_zipWith, List.getElem_map]
  exact Rat.add_comm _ _
theorem mix_len {n : Nat} {t : List Rat} {P : List (List Rat)} : (mixv n t P).length = n := by simp [mixv]
theorem mix_at {n k : Nat} {t : List Rat} {P : List (List Rat)} (hk : k < n) : (mixv n t P).getD k 0 = minQ (List.zipWith (fun t p => t + p.getD k 0) t P) := by
  rw [getD_get (by simpa [mixv] using hk)]; simp [mixv]
theorem labs_at {P : List (List Rat)} {x : List Rat} {i : Nat} (hi : i < P.length) : (labs P x).getD i 0 = maxQ (List.zipWith (fun x y => x - y) x P[i]) := by
  rw [getD_get (by simpa [labs] using hi)]; simp [labs]
theorem zwl {α β : Type} {f : α → β → Rat} {a : List α} {b : List β} {Q : Rat → Prop} : (∀ q ∈ List.zipWith f a b, Q q) ↔ ∀ i (h1 : i < a.length) (h2 : i < b.length), Q (f a[i] b[i]) := by
  constructor
  · intro h i h1 h2
    refine h _ ?_
    rw [List.mem_iff_getElem]
    exact ⟨i, by simp; omega, by rw [List.getElem_zipWith]⟩
  · intro h q hq
    obtain ⟨i, hi, rfl⟩ := List.getElem_of_mem hq
    rw [List.getElem_zipWith]
    exact h i _ _
section
variable {n : Nat} {P : List (List Rat)} {x t : List Rat}
/-- below a mixture -/
theorem le_mix (ht : t.length = P.length) (h0 : 0 < P.length) {k : Nat} (hk : k < n) {z : Rat} : z ≤ (mixv n t P).getD k 0 ↔ ∀ i (h : i < P.length), z ≤ t.getD i 0 + P[i].getD k 0 := by
  rw [mix_at hk, le_minQ (zw_ne ht rfl h0), zwl]
  constructor
  · intro h i hi
    have := h i (by omega) hi
    rwa [getD_get (by omega)]
  · intro h i h1 h2
    have := h i h2
    rwa [getD_get (by omega)] at this
theorem labs_le (h : Pts n P) (n0 : 0 < n) (hx : x.length = n) {i : Nat} (hi : i < P.length) {z : Rat} : (labs P x).getD i 0 ≤ z ↔ ∀ k, k < n → x.getD k 0 - P[i].getD k 0 ≤ z := by
  have lp := (h.row _ (List.getElem_mem hi)).1
  rw [labs_at hi, maxQ_le (zw_ne hx lp n0), zwl]
  constructor
  · intro h k hk
    have := h k (by omega) (by omega)
    rwa [getD_get (by omega), getD_get (by omega)]
  · intro h k h1 h2
    have := h k (by omega)
    rwa [getD_get (by omega), getD_get (by omega)] at this
theorem labs_ex (h : Pts n P) (n0 : 0 < n) (hx : x.length = n) {i : Nat} (hi : i < P.length) : ∃ k, k < n ∧ (labs P x).getD i 0 = x.getD k 0 - P[i].getD k 0 := by
  have lp := (h.row _ (List.getElem_mem hi)).1
  have := maxQ_mem (zw_ne (f := fun (x y : Rat) => x - y) hx lp n0)
  obtain ⟨k, hk, e⟩ := List.getElem_of_mem this
  simp only [List.length_zipWith] at hk
  refine ⟨k, by omega, ?_⟩
  rw [labs_at hi, ← e, List.getElem_zipWith, getD_get (by omega), getD_get (by omega)]
theorem labs_len : (labs P x).length = P.length := by simp [labs]
/-- the told point lies above -/
theorem told_above (h : Pts n P) (n0 : 0 < n) (h0 : 0 < P.length) (hx : x.length = n) {k : Nat} (hk : k < n) : x.getD k 0 ≤ (mixv n (labs P x) P).getD k 0 := by
  rw [le_mix labs_len h0 hk]
  intro i hi
  have := (labs_le h n0 hx hi (z := (labs P x).getD i 0)).mp (Rat.le_refl) k hk
  grind
/-- it is the least that does -/
theorem told_least (h : Pts n P) (n0 : 0 < n) (h0 : 0 < P.length) (hx : x.length = n) (ht : t.length = P.length) (ha : ∀ k, k < n → x.getD k 0 ≤ (mixv n t P).getD k 0) {k : Nat} (hk : k < n) : (mixv n (labs P x) P).getD k 0 ≤ (mixv n t P).getD k 0 := by
  rw [le_mix ht h0 hk]
  intro i hi
  have h1 := (le_mix (z := (mixv n (labs P x) P).getD k 0) (labs_len (P := P) (x := x)) h0 hk).mp Rat.le_refl i hi
  have h2 : (labs P x).getD i 0 ≤ t.getD i 0 := by
    rw [labs_le h n0 hx hi]
    intro j hj
    have := (le_mix (z := x.getD j 0) ht h0 hj).mp (ha j hj) i hi
    grind
  grind
/-- and it touches -/
theorem told_touch (h : Pts n P) (n0 : 0 < n) (h0 : 0 < P.length) (hx : x.length = n) : ∃ k, k < n ∧ (mixv n (labs P x) P).getD k 0 = x.getD k 0 := by
  obtain ⟨k, hk, e⟩ := labs_ex h n0 hx h0
  refine ⟨k, hk, ?_⟩
  have h1 := (le_mix (z := (mixv n (labs P x) P).getD k 0) (labs_len (P := P) (x := x)) h0 hk).mp Rat.le_refl 0 h0
  have h2 := told_above h n0 h0 hx hk
  rw [e] at h1
  grind
theorem ext_getD {a b : List Rat} {n : Nat} (ha : a.length = n) (hb : b.length = n) (h : ∀ k, k < n → a.getD k 0 = b.getD k 0) : a = b := by
  refine List.ext_getElem (by omega) fun i h1 h2 => ?_
  have := h i (by omega)
  rwa [getD_get h1, getD_get h2] at this
/-- told again it stays -/
theorem told_twice (h : Pts n P) (n0 : 0 < n) (h0 : 0 < P.length) (hx : x.length = n) : mixv n (labs P (mixv n (labs P x) P)) P = mixv n (labs P x) P := by
  refine ext_getD mix_len mix_len fun k hk => ?_
  have h1 := told_above h n0 h0 (x := mixv n (labs P x) P) mix_len hk
  have h2 := told_least h n0 h0 (x := mixv n (labs P x) P) (t := labs P x) mix_len labs_len (fun k _ => Rat.le_refl) hk
  grind
/-- how far two points are from each other -/
def gap (x y : List Rat) : Rat := maxQ (List.zipWith (fun a b => a - b) x y) - minQ (List.zipWith (fun a b => a - b) x y)
theorem gap_least (h : Pts n P) (n0 : 0 < n) (h0 : 0 < P.length) (hx : x.length = n) (ht : t.length = P.length) : gap x (mixv n (labs P x) P) ≤ gap x (mixv n t P) := by
  have ne : ∀ {y : List Rat}, y.length = n → List.zipWith (fun a b : Rat => a - b) x y ≠ [] := fun hy => zw_ne hx hy n0
  have hm : (mixv n t P).length = n := mix_len
  have hm0 : (mixv n (labs P x) P).length = n := mix_len
  obtain ⟨c, hc⟩ : ∃ c, c = maxQ (List.zipWith (fun a b => a - b) x (mixv n t P)) := ⟨_, rfl⟩
  have c1 : ∀ k, k < n → x.getD k 0 - (mixv n t P).getD k 0 ≤ c := fun k hk => by
    have := (maxQ_le (z := c) (ne hm)).mp (by rw [hc]; exact Rat.le_refl)
    have := zwl.mp this k (by omega) (by omega)
    rwa [getD_get (by omega), getD_get (by omega)]
  -- the mixture moved by c lies above
  have hm2 : ∀ k, k < n → (mixv n (t.map (· + c)) P).getD k 0 = (mixv n t P).getD k 0 + c := fun k hk => by
    have l2 : (t.map (· + c)).length = P.length := by simpa using ht
    have g : ∀ i, i < P.length → (t.map (· + c)).getD i 0 = t.getD i 0 + c := fun i hi => by
      rw [getD_get (by simpa using (by omega : i < t.length)), getD_get (by omega)]; simp
    have a1 : (mixv n (t.map (· + c)) P).getD k 0 - c ≤ (mixv n t P).getD k 0 := by
      rw [le_mix ht h0 hk]
      intro i hi
      have := (le_mix (z := (mixv n (t.map (· + c)) P).getD k 0) l2 h0 hk).mp Rat.le_refl i hi
      rw [g i hi] at this
      grind
    have a2 : (mixv n t P).getD k 0 + c ≤ (mixv n (t.map (· + c)) P).getD k 0 := by
      rw [le_mix l2 h0 hk]
      intro i hi
      have := (le_mix (z := (mixv n t P).getD k 0) ht h0 hk).mp Rat.le_refl i hi
      rw [g i hi]
      grind
    grind
  have low := fun k hk => told_least h n0 h0 hx (t := t.map (· + c)) (by simpa using ht) (fun k hk => by rw [hm2 k hk]; have := c1 k hk; grind) (k := k) hk
  -- the greatest difference to the told point is at most 0
  have u1 : maxQ (List.zipWith (fun a b => a - b) x (mixv n (labs P x) P)) ≤ 0 := by
    rw [maxQ_le (ne hm0), zwl]
    intro k h1 h2
    have := told_above h n0 h0 hx (k := k) (by omega)
    rw [getD_get (by omega), getD_get (by omega)] at this
    grind
  have u2 : minQ (List.zipWith (fun a b => a - b) x (mixv n t P)) - c ≤ minQ (List.zipWith (fun a b => a - b) x (mixv n (labs P x) P)) := by
    rw [le_minQ (ne hm0), zwl]
    intro k h1 h2
    have h3 := (le_minQ (z := minQ (List.zipWith (fun a b => a - b) x (mixv n t P))) (ne hm)).mp Rat.le_refl
    have h3 := zwl.mp h3 k (by omega) (by omega)
    have h4 := low k (by omega)
    rw [hm2 k (by omega)] at h4
    rw [getD_get (by omega), getD_get (by omega)] at h4
    grind
  unfold gap
  rw [← hc]
  grind
theorem gap_shift (n0 : 0 < n) (hx : x.length = n) (s : Rat) : gap x (x.map (· + s)) = 0 := by
  have ne : List.zipWith (fun a b : Rat => a - b) x (x.map (· + s)) ≠ [] := zw_ne hx (by simpa using hx) n0
  have a1 : maxQ (List.zipWith (fun a b => a - b) x (x.map (· + s))) ≤ -s := by
    rw [maxQ_le ne, zwl]
    intro k h1 h2
    rw [List.getElem_map]; grind
  have a2 : -s ≤ minQ (List.zipWith (fun a b => a - b) x (x.map (· + s))) := by
    rw [le_minQ ne, zwl]
    intro k h1 h2
    rw [List.getElem_map]; grind
  have m := minQ_mem ne
  have b := (maxQ_le (z := maxQ (List.zipWith (fun a b => a - b) x (x.map (· + s)))) ne).mp Rat.le_refl _ m
  unfold gap
  grind
end
end
end G33

set_option Elab.async false
set_option linter.all false
set_option maxRecDepth 100000
set_option maxHeartbeats 1000000
namespace G33
open PySem L2 Pz
noncomputable section
section
variable {n : Nat} {P : List (List Rat)} {x t : List Rat}
theorem labs_Hq (h : Pts n P) (n0 : 0 < n) (hx : x.length = n) (hq : ∀ q ∈ x, Hq q) : ∀ q ∈ labs P x, Hq q := fun q hm => by
  obtain ⟨p, hp, rfl⟩ := List.mem_map.mp hm
  exact zw_Hq (fun _ _ => Hq.sub) hq (h.row p hp).2 _ (maxQ_mem (zw_ne hx (h.row p hp).1 n0))
theorem mix_Hq (h : Pts n P) (h0 : 0 < P.length) (ht : t.length = P.length) (hq : ∀ q ∈ t, Hq q) : ∀ q ∈ mixv n t P, Hq q := by
  rw [← tcol_tr ht]
  exact tcol_Hq (tr_Pts h) h0 hq ht
theorem nearest_ok (h : Pts n P) (n0 : 0 < n) (h0 : 0 < P.length) (hx : x.length = n) (hq : ∀ q ∈ x, Hq q) (o : Bool) : val F_nearest [.lst o (P.map vecD), vecD x] = some (vecD (mixv n (labs P x) P)) := by
  obtain ⟨o', e⟩ := as_matrix_ok h h0 o
  have ht := tr_Pts h
  have lt : (tr n P).length = n := by simp [tr]
  have la := least_above_eq ht lt n0 hq hx
  rw [lab_tr h hx] at la
  have tc := times_column_fin ht h0 (labs_Hq h n0 hx hq) labs_len
  rw [tcol_tr labs_len] at tc
  cases hp : (D.lst o (P.map vecD)).pure with
  | true =>
    simp only [D.pure] at hp
    simp only [F_nearest, lcallF, aConsL, val_fnF, zsF_eq, fzAt, D.fz, wpE, mgE, List.contains_cons, List.contains_nil, Nat.reduceBEq, Bool.or_false, Bool.or_true, Bool.false_or, Bool.true_or, seqF_eq, andThen_nx, andThen_bk, andThen_ct, andThen_rt, retV_rt, retV_nx, nxF, bkF, ctF, rtF, rnF, rmF, stF, exF, put, parF, agF, ifS, forF_eq, flF_nil, flF_cons, flK_nx, flK_ct, flK_bk, flK_rt, tbF, ttF, andF, orF, notF, andV, orV, ifF, chF, b1, b2, bN, clF_val, aNil, aCons, nmF, ownF, cF, fzF, itF, inF, itOf, rng1, rng2, yesF, dTru, dNot, I.isi_non_tuple, I.isi_non_list, I.isi_non_bool, I.isi_non_int, I.isi_non_str, I.isi_bl_tuple, I.isi_bl_list, I.isi_bl_bool, I.isi_bl_int, I.isi_bl_str, I.isi_int_tuple, I.isi_int_list, I.isi_int_bool, I.isi_int_int, I.isi_int_str, I.isi_str_tuple, I.isi_str_list, I.isi_str_bool, I.isi_str_int, I.isi_str_str, I.isi_tup_tuple, I.isi_tup_list, I.isi_tup_bool, I.isi_tup_int, I.isi_tup_str, I.isi_lst_tuple, I.isi_lst_list, I.isi_lst_bool, I.isi_lst_int, I.isi_lst_str, I.isi_scr_tuple, I.isi_scr_list, I.isi_scr_bool, I.isi_scr_int, I.isi_scr_str, dEq_bl, dNe_bl, dIsN_non, dIsN_bl, dIsN_int, dIsN_str, dIsN_tup, dIsN_lst, dAdd_int, dSub_int, dEq_int, dNe_int, dLt_int, dLe_int, dGt_int, dGe_int, dAddI_int, asB_bl, dIx_tup0, dIx_tup1, fLen, fAbs, fInt, fMax2, fMin2, gTupF, gsCons, gsNil, D.pure, D.pures, Bool.not_true, Bool.not_false, Bool.and_true, Bool.true_and, Bool.and_false, Bool.false_and, Option.bind_some, Option.bind_none, Option.map_some, Option.map_none, bind_ite, map_ite, List.map_cons, List.map_nil, List.replicate, List.cons_append, List.nil_append, List.append_nil, List.getElem?_cons_zero, List.getElem?_cons_succ, List.set_cons_zero, List.set_cons_succ, List.length_cons, List.length_nil, Nat.reduceAdd, Nat.reduceLT, Nat.zero_add, Nat.lt_add_one, if_true, if_false, ite_true, ite_false, decide_eq_true_eq, Bool.false_eq_true, reduceCtorEq, reduceIte, Nat.reduceLeDiff, Nat.reduceEqDiff, e, giveE, hp, pure_fm, pure_vec, la, tc]
  | false =>
    simp only [D.pure] at hp
    simp only [F_nearest, lcallF, aConsL, val_fnF, zsF_eq, fzAt, D.fz, wpE, mgE, List.contains_cons, List.contains_nil, Nat.reduceBEq, Bool.or_false, Bool.or_true, Bool.false_or, Bool.true_or, seqF_eq, andThen_nx, andThen_bk, andThen_ct, andThen_rt, retV_rt, retV_nx, nxF, bkF, ctF, rtF, rnF, rmF, stF, exF, put, parF, agF, ifS, forF_eq, flF_nil, flF_cons, flK_nx, flK_ct, flK_bk, flK_rt, tbF, ttF, andF, orF, notF, andV, orV, ifF, chF, b1, b2, bN, clF_val, aNil, aCons, nmF, ownF, cF, fzF, itF, inF, itOf, rng1, rng2, yesF, dTru, dNot, I.isi_non_tuple, I.isi_non_list, I.isi_non_bool, I.isi_non_int, I.isi_non_str, I.isi_bl_tuple, I.isi_bl_list, I.isi_bl_bool, I.isi_bl_int, I.isi_bl_str, I.isi_int_tuple, I.isi_int_list, I.isi_int_bool, I.isi_int_int, I.isi_int_str, I.isi_str_tuple, I.isi_str_list, I.isi_str_bool, I.isi_str_int, I.isi_str_str, I.isi_tup_tuple, I.isi_tup_list, I.isi_tup_bool, I.isi_tup_int, I.isi_tup_str, I.isi_lst_tuple, I.isi_lst_list, I.isi_lst_bool, I.isi_lst_int, I.isi_lst_str, I.isi_scr_tuple, I.isi_scr_list, I.isi_scr_bool, I.isi_scr_int, I.isi_scr_str, dEq_bl, dNe_bl, dIsN_non, dIsN_bl, dIsN_int, dIsN_str, dIsN_tup, dIsN_lst, dAdd_int, dSub_int, dEq_int, dNe_int, dLt_int, dLe_int, dGt_int, dGe_int, dAddI_int, asB_bl, dIx_tup0, dIx_tup1, fLen, fAbs, fInt, fMax2, fMin2, gTupF, gsCons, gsNil, D.pure, D.pures, Bool.not_true, Bool.not_false, Bool.and_true, Bool.true_and, Bool.and_false, Bool.false_and, Option.bind_some, Option.bind_none, Option.map_some, Option.map_none, bind_ite, map_ite, List.map_cons, List.map_nil, List.replicate, List.cons_append, List.nil_append, List.append_nil, List.getElem?_cons_zero, List.getElem?_cons_succ, List.set_cons_zero, List.set_cons_succ, List.length_cons, List.length_nil, Nat.reduceAdd, Nat.reduceLT, Nat.zero_add, Nat.lt_add_one, if_true, if_false, ite_true, ite_false, decide_eq_true_eq, Bool.false_eq_true, reduceCtorEq, reduceIte, Nat.reduceLeDiff, Nat.reduceEqDiff, e, giveE, hp, pure_fm, pure_vec, la, tc]
theorem hull_paper_ok (h : Pts n P) (n0 : 0 < n) (h0 : 0 < P.length) (hx : x.length = n) (hq : ∀ q ∈ x, Hq q) (o : Bool) : ∃ y, val F_hull_paper [.lst o (P.map vecD), vecD x] = some (.tup [.str (if mixv n (labs P x) P = x then "yes" else "no"), y]) := by
  obtain ⟨o', e⟩ := as_matrix_ok h h0 o
  have ht := tr_Pts h
  have lt : (tr n P).length = n := by simp [tr]
  obtain ⟨y, sp⟩ := solution_paper_ok ht lt n0 h0 hq hx
  rw [lab_tr h hx, tcol_tr labs_len] at sp
  refine ⟨y, ?_⟩
  cases hp : (D.lst o (P.map vecD)).pure with
  | true =>
    simp only [D.pure] at hp
    simp only [F_hull_paper, lcallF, aConsL, val_fnF, zsF_eq, fzAt, D.fz, wpE, mgE, List.contains_cons, List.contains_nil, Nat.reduceBEq, Bool.or_false, Bool.or_true, Bool.false_or, Bool.true_or, seqF_eq, andThen_nx, andThen_bk, andThen_ct, andThen_rt, retV_rt, retV_nx, nxF, bkF, ctF, rtF, rnF, rmF, stF, exF, put, parF, agF, ifS, forF_eq, flF_nil, flF_cons, flK_nx, flK_ct, flK_bk, flK_rt, tbF, ttF, andF, orF, notF, andV, orV, ifF, chF, b1, b2, bN, clF_val, aNil, aCons, nmF, ownF, cF, fzF, itF, inF, itOf, rng1, rng2, yesF, dTru, dNot, I.isi_non_tuple, I.isi_non_list, I.isi_non_bool, I.isi_non_int, I.isi_non_str, I.isi_bl_tuple, I.isi_bl_list, I.isi_bl_bool, I.isi_bl_int, I.isi_bl_str, I.isi_int_tuple, I.isi_int_list, I.isi_int_bool, I.isi_int_int, I.isi_int_str, I.isi_str_tuple, I.isi_str_list, I.isi_str_bool, I.isi_str_int, I.isi_str_str, I.isi_tup_tuple, I.isi_tup_list, I.isi_tup_bool, I.isi_tup_int, I.isi_tup_str, I.isi_lst_tuple, I.isi_lst_list, I.isi_lst_bool, I.isi_lst_int, I.isi_lst_str, I.isi_scr_tuple, I.isi_scr_list, I.isi_scr_bool, I.isi_scr_int, I.isi_scr_str, dEq_bl, dNe_bl, dIsN_non, dIsN_bl, dIsN_int, dIsN_str, dIsN_tup, dIsN_lst, dAdd_int, dSub_int, dEq_int, dNe_int, dLt_int, dLe_int, dGt_int, dGe_int, dAddI_int, asB_bl, dIx_tup0, dIx_tup1, fLen, fAbs, fInt, fMax2, fMin2, gTupF, gsCons, gsNil, D.pure, D.pures, Bool.not_true, Bool.not_false, Bool.and_true, Bool.true_and, Bool.and_false, Bool.false_and, Option.bind_some, Option.bind_none, Option.map_some, Option.map_none, bind_ite, map_ite, List.map_cons, List.map_nil, List.replicate, List.cons_append, List.nil_append, List.append_nil, List.getElem?_cons_zero, List.getElem?_cons_succ, List.set_cons_zero, List.set_cons_succ, List.length_cons, List.length_nil, Nat.reduceAdd, Nat.reduceLT, Nat.zero_add, Nat.lt_add_one, if_true, if_false, ite_true, ite_false, decide_eq_true_eq, Bool.false_eq_true, reduceCtorEq, reduceIte, Nat.reduceLeDiff, Nat.reduceEqDiff, e, giveE, hp, pure_fm, pure_vec, sp]
  | false =>
    simp only [D.pure] at hp
    simp only [F_hull_paper, lcallF, aConsL, val_fnF, zsF_eq, fzAt, D.fz, wpE, mgE, List.contains_cons, List.contains_nil, Nat.reduceBEq, Bool.or_false, Bool.or_true, Bool.false_or, Bool.true_or, seqF_eq, andThen_nx, andThen_bk, andThen_ct, andThen_rt, retV_rt, retV_nx, nxF, bkF, ctF, rtF, rnF, rmF, stF, exF, put, parF, agF, ifS, forF_eq, flF_nil, flF_cons, flK_nx, flK_ct, flK_bk, flK_rt, tbF, ttF, andF, orF, notF, andV, orV, ifF, chF, b1, b2, bN, clF_val, aNil, aCons, nmF, ownF, cF, fzF, itF, inF, itOf, rng1, rng2, yesF, dTru, dNot, I.isi_non_tuple, I.isi_non_list, I.isi_non_bool, I.isi_non_int, I.isi_non_str, I.isi_bl_tuple, I.isi_bl_list, I.isi_bl_bool, I.isi_bl_int, I.isi_bl_str, I.isi_int_tuple, I.isi_int_list, I.isi_int_bool, I.isi_int_int, I.isi_int_str, I.isi_str_tuple, I.isi_str_list, I.isi_str_bool, I.isi_str_int, I.isi_str_str, I.isi_tup_tuple, I.isi_tup_list, I.isi_tup_bool, I.isi_tup_int, I.isi_tup_str, I.isi_lst_tuple, I.isi_lst_list, I.isi_lst_bool, I.isi_lst_int, I.isi_lst_str, I.isi_scr_tuple, I.isi_scr_list, I.isi_scr_bool, I.isi_scr_int, I.isi_scr_str, dEq_bl, dNe_bl, dIsN_non, dIsN_bl, dIsN_int, dIsN_str, dIsN_tup, dIsN_lst, dAdd_int, dSub_int, dEq_int, dNe_int, dLt_int, dLe_int, dGt_int, dGe_int, dAddI_int, asB_bl, dIx_tup0, dIx_tup1, fLen, fAbs, fInt, fMax2, fMin2, gTupF, gsCons, gsNil, D.pure, D.pures, Bool.not_true, Bool.not_false, Bool.and_true, Bool.true_and, Bool.and_false, Bool.false_and, Option.bind_some, Option.bind_none, Option.map_some, Option.map_none, bind_ite, map_ite, List.map_cons, List.map_nil, List.replicate, List.cons_append, List.nil_append, List.append_nil, List.getElem?_cons_zero, List.getElem?_cons_succ, List.set_cons_zero, List.set_cons_succ, List.length_cons, List.length_nil, Nat.reduceAdd, Nat.reduceLT, Nat.zero_add, Nat.lt_add_one, if_true, if_false, ite_true, ite_false, decide_eq_true_eq, Bool.false_eq_true, reduceCtorEq, reduceIte, Nat.reduceLeDiff, Nat.reduceEqDiff, e, giveE, hp, pure_fm, pure_vec, sp]
theorem zip_fr (a b : List Rat) : List.zipWith (fun a b => D.tup [a, b]) (a.map fr) (b.map fr) = (List.zip a b).map fun p => D.tup [fr p.1, fr p.2] := by
  rw [List.zipWith_map, List.zip, List.map_zipWith]
theorem least_fr {l : List Rat} (hn : l ≠ []) (o : Bool) (h : ∀ q ∈ l, Hq q) : val F_least [.lst o (l.map fr)] = some (fr (minQ l)) := by
  have e := least_eq (o := o) (ts := l.map some) fun t ht => by
    obtain ⟨q, hq, rfl⟩ := List.mem_map.mp ht
    exact (H2.some (h q hq)).sm
  rw [minL_minQ hn, List.map_map] at e
  exact e
theorem distance_eq {y : List Rat} (n0 : 0 < n) (hn : n ≤ 1000) (hx : x.length = n) (hy : y.length = n) (hq : ∀ q ∈ x, Hq q) (hr : ∀ q ∈ y, Hq q) : val F_distance [vecD x, vecD y] = some (fr (gap x y)) := by
  have hz : ∀ p ∈ List.zip x y, Hq p.1 ∧ Hq p.2 := fun p hp => ⟨hq _ (List.of_mem_zip hp).1, hr _ (List.of_mem_zip hp).2⟩
  have e := lcF_map (vs := [3, 4]) (FI := inF fzip (aCons (nmO 0) (aCons (nmO 1) aNil))) (FT := gTupF (gsCons (put 3) (gsCons (put 4) gsNil))) (FE := E_distance_1) (env := [some (vecD x), some (vecD y), none, none, none]) (env' := [some (vecD x), some (vecD y), none, none, none])
    (fun p : Rat × Rat => D.tup [fr p.1, fr p.2]) (fun p => fr (p.1 - p.2)) (List.zip x y) (by
      simp only [val_fnF, zsF_eq, fzAt, D.fz, wpE, mgE, List.contains_cons, List.contains_nil, Nat.reduceBEq, Bool.or_false, Bool.or_true, Bool.false_or, Bool.true_or, seqF_eq, andThen_nx, andThen_bk, andThen_ct, andThen_rt, retV_rt, retV_nx, nxF, bkF, ctF, rtF, rnF, rmF, stF, exF, put, parF, agF, ifS, forF_eq, flF_nil, flF_cons, flK_nx, flK_ct, flK_bk, flK_rt, tbF, ttF, andF, orF, notF, andV, orV, ifF, chF, b1, b2, bN, clF_val, aNil, aCons, nmF, ownF, cF, fzF, itF, inF, itOf, rng1, rng2, yesF, dTru, dNot, I.isi_non_tuple, I.isi_non_list, I.isi_non_bool, I.isi_non_int, I.isi_non_str, I.isi_bl_tuple, I.isi_bl_list, I.isi_bl_bool, I.isi_bl_int, I.isi_bl_str, I.isi_int_tuple, I.isi_int_list, I.isi_int_bool, I.isi_int_int, I.isi_int_str, I.isi_str_tuple, I.isi_str_list, I.isi_str_bool, I.isi_str_int, I.isi_str_str, I.isi_tup_tuple, I.isi_tup_list, I.isi_tup_bool, I.isi_tup_int, I.isi_tup_str, I.isi_lst_tuple, I.isi_lst_list, I.isi_lst_bool, I.isi_lst_int, I.isi_lst_str, I.isi_scr_tuple, I.isi_scr_list, I.isi_scr_bool, I.isi_scr_int, I.isi_scr_str, dEq_bl, dNe_bl, dIsN_non, dIsN_bl, dIsN_int, dIsN_str, dIsN_tup, dIsN_lst, dAdd_int, dSub_int, dEq_int, dNe_int, dLt_int, dLe_int, dGt_int, dGe_int, dAddI_int, asB_bl, dIx_tup0, dIx_tup1, fLen, fAbs, fInt, fMax2, fMin2, gTupF, gsCons, gsNil, D.pure, D.pures, Bool.not_true, Bool.not_false, Bool.and_true, Bool.true_and, Bool.and_false, Bool.false_and, Option.bind_some, Option.bind_none, Option.map_some, Option.map_none, bind_ite, map_ite, List.map_cons, List.map_nil, List.replicate, List.cons_append, List.nil_append, List.append_nil, List.getElem?_cons_zero, List.getElem?_cons_succ, List.set_cons_zero, List.set_cons_succ, List.length_cons, List.length_nil, Nat.reduceAdd, Nat.reduceLT, Nat.zero_add, Nat.lt_add_one, if_true, if_false, ite_true, ite_false, decide_eq_true_eq, Bool.false_eq_true, reduceCtorEq, reduceIte, Nat.reduceLeDiff, Nat.reduceEqDiff, pure_vec]
      simp only [vecD, fzip, pures_fr, val_fnF, zsF_eq, fzAt, D.fz, wpE, mgE, List.contains_cons, List.contains_nil, Nat.reduceBEq, Bool.or_false, Bool.or_true, Bool.false_or, Bool.true_or, seqF_eq, andThen_nx, andThen_bk, andThen_ct, andThen_rt, retV_rt, retV_nx, nxF, bkF, ctF, rtF, rnF, rmF, stF, exF, put, parF, agF, ifS, forF_eq, flF_nil, flF_cons, flK_nx, flK_ct, flK_bk, flK_rt, tbF, ttF, andF, orF, notF, andV, orV, ifF, chF, b1, b2, bN, clF_val, aNil, aCons, nmF, ownF, cF, fzF, itF, inF, itOf, rng1, rng2, yesF, dTru, dNot, I.isi_non_tuple, I.isi_non_list, I.isi_non_bool, I.isi_non_int, I.isi_non_str, I.isi_bl_tuple, I.isi_bl_list, I.isi_bl_bool, I.isi_bl_int, I.isi_bl_str, I.isi_int_tuple, I.isi_int_list, I.isi_int_bool, I.isi_int_int, I.isi_int_str, I.isi_str_tuple, I.isi_str_list, I.isi_str_bool, I.isi_str_int, I.isi_str_str, I.isi_tup_tuple, I.isi_tup_list, I.isi_tup_bool, I.isi_tup_int, I.isi_tup_str, I.isi_lst_tuple, I.isi_lst_list, I.isi_lst_bool, I.isi_lst_int, I.isi_lst_str, I.isi_scr_tuple, I.isi_scr_list, I.isi_scr_bool, I.isi_scr_int, I.isi_scr_str, dEq_bl, dNe_bl, dIsN_non, dIsN_bl, dIsN_int, dIsN_str, dIsN_tup, dIsN_lst, dAdd_int, dSub_int, dEq_int, dNe_int, dLt_int, dLe_int, dGt_int, dGe_int, dAddI_int, asB_bl, dIx_tup0, dIx_tup1, fLen, fAbs, fInt, fMax2, fMin2, gTupF, gsCons, gsNil, D.pure, D.pures, Bool.not_true, Bool.not_false, Bool.and_true, Bool.true_and, Bool.and_false, Bool.false_and, Option.bind_some, Option.bind_none, Option.map_some, Option.map_none, bind_ite, map_ite, List.map_cons, List.map_nil, List.replicate, List.cons_append, List.nil_append, List.append_nil, List.getElem?_cons_zero, List.getElem?_cons_succ, List.set_cons_zero, List.set_cons_succ, List.length_cons, List.length_nil, Nat.reduceAdd, Nat.reduceLT, Nat.zero_add, Nat.lt_add_one, if_true, if_false, ite_true, ite_false, decide_eq_true_eq, Bool.false_eq_true, reduceCtorEq, reduceIte, Nat.reduceLeDiff, Nat.reduceEqDiff, zip_fr, and_self]) (by simp; omega) (by simp [okE])
    fun p hp => ⟨[some (vecD x), some (vecD y), none, some (fr p.1), some (fr p.2)], [some (vecD x), some (vecD y), none, some (fr p.1), some (fr p.2)], by simp only [val_fnF, zsF_eq, fzAt, D.fz, wpE, mgE, List.contains_cons, List.contains_nil, Nat.reduceBEq, Bool.or_false, Bool.or_true, Bool.false_or, Bool.true_or, seqF_eq, andThen_nx, andThen_bk, andThen_ct, andThen_rt, retV_rt, retV_nx, nxF, bkF, ctF, rtF, rnF, rmF, stF, exF, put, parF, agF, ifS, forF_eq, flF_nil, flF_cons, flK_nx, flK_ct, flK_bk, flK_rt, tbF, ttF, andF, orF, notF, andV, orV, ifF, chF, b1, b2, bN, clF_val, aNil, aCons, nmF, ownF, cF, fzF, itF, inF, itOf, rng1, rng2, yesF, dTru, dNot, I.isi_non_tuple, I.isi_non_list, I.isi_non_bool, I.isi_non_int, I.isi_non_str, I.isi_bl_tuple, I.isi_bl_list, I.isi_bl_bool, I.isi_bl_int, I.isi_bl_str, I.isi_int_tuple, I.isi_int_list, I.isi_int_bool, I.isi_int_int, I.isi_int_str, I.isi_str_tuple, I.isi_str_list, I.isi_str_bool, I.isi_str_int, I.isi_str_str, I.isi_tup_tuple, I.isi_tup_list, I.isi_tup_bool, I.isi_tup_int, I.isi_tup_str, I.isi_lst_tuple, I.isi_lst_list, I.isi_lst_bool, I.isi_lst_int, I.isi_lst_str, I.isi_scr_tuple, I.isi_scr_list, I.isi_scr_bool, I.isi_scr_int, I.isi_scr_str, dEq_bl, dNe_bl, dIsN_non, dIsN_bl, dIsN_int, dIsN_str, dIsN_tup, dIsN_lst, dAdd_int, dSub_int, dEq_int, dNe_int, dLt_int, dLe_int, dGt_int, dGe_int, dAddI_int, asB_bl, dIx_tup0, dIx_tup1, fLen, fAbs, fInt, fMax2, fMin2, gTupF, gsCons, gsNil, D.pure, D.pures, Bool.not_true, Bool.not_false, Bool.and_true, Bool.true_and, Bool.and_false, Bool.false_and, Option.bind_some, Option.bind_none, Option.map_some, Option.map_none, bind_ite, map_ite, List.map_cons, List.map_nil, List.replicate, List.cons_append, List.nil_append, List.append_nil, List.getElem?_cons_zero, List.getElem?_cons_succ, List.set_cons_zero, List.set_cons_succ, List.length_cons, List.length_nil, Nat.reduceAdd, Nat.reduceLT, Nat.zero_add, Nat.lt_add_one, if_true, if_false, ite_true, ite_false, decide_eq_true_eq, Bool.false_eq_true, reduceCtorEq, reduceIte, Nat.reduceLeDiff, Nat.reduceEqDiff], by
      simp only [E_distance_1, val_fnF, zsF_eq, fzAt, D.fz, wpE, mgE, List.contains_cons, List.contains_nil, Nat.reduceBEq, Bool.or_false, Bool.or_true, Bool.false_or, Bool.true_or, seqF_eq, andThen_nx, andThen_bk, andThen_ct, andThen_rt, retV_rt, retV_nx, nxF, bkF, ctF, rtF, rnF, rmF, stF, exF, put, parF, agF, ifS, forF_eq, flF_nil, flF_cons, flK_nx, flK_ct, flK_bk, flK_rt, tbF, ttF, andF, orF, notF, andV, orV, ifF, chF, b1, b2, bN, clF_val, aNil, aCons, nmF, ownF, cF, fzF, itF, inF, itOf, rng1, rng2, yesF, dTru, dNot, I.isi_non_tuple, I.isi_non_list, I.isi_non_bool, I.isi_non_int, I.isi_non_str, I.isi_bl_tuple, I.isi_bl_list, I.isi_bl_bool, I.isi_bl_int, I.isi_bl_str, I.isi_int_tuple, I.isi_int_list, I.isi_int_bool, I.isi_int_int, I.isi_int_str, I.isi_str_tuple, I.isi_str_list, I.isi_str_bool, I.isi_str_int, I.isi_str_str, I.isi_tup_tuple, I.isi_tup_list, I.isi_tup_bool, I.isi_tup_int, I.isi_tup_str, I.isi_lst_tuple, I.isi_lst_list, I.isi_lst_bool, I.isi_lst_int, I.isi_lst_str, I.isi_scr_tuple, I.isi_scr_list, I.isi_scr_bool, I.isi_scr_int, I.isi_scr_str, dEq_bl, dNe_bl, dIsN_non, dIsN_bl, dIsN_int, dIsN_str, dIsN_tup, dIsN_lst, dAdd_int, dSub_int, dEq_int, dNe_int, dLt_int, dLe_int, dGt_int, dGe_int, dAddI_int, asB_bl, dIx_tup0, dIx_tup1, fLen, fAbs, fInt, fMax2, fMin2, gTupF, gsCons, gsNil, D.pure, D.pures, Bool.not_true, Bool.not_false, Bool.and_true, Bool.true_and, Bool.and_false, Bool.false_and, Option.bind_some, Option.bind_none, Option.map_some, Option.map_none, bind_ite, map_ite, List.map_cons, List.map_nil, List.replicate, List.cons_append, List.nil_append, List.append_nil, List.getElem?_cons_zero, List.getElem?_cons_succ, List.set_cons_zero, List.set_cons_succ, List.length_cons, List.length_nil, Nat.reduceAdd, Nat.reduceLT, Nat.zero_add, Nat.lt_add_one, if_true, if_false, ite_true, ite_false, decide_eq_true_eq, Bool.false_eq_true, reduceCtorEq, reduceIte, Nat.reduceLeDiff, Nat.reduceEqDiff, pure_fr, minus_eq (hz p hp).1.den (hz p hp).2.den], by simp only [val_fnF, zsF_eq, fzAt, D.fz, wpE, mgE, List.contains_cons, List.contains_nil, Nat.reduceBEq, Bool.or_false, Bool.or_true, Bool.false_or, Bool.true_or, seqF_eq, andThen_nx, andThen_bk, andThen_ct, andThen_rt, retV_rt, retV_nx, nxF, bkF, ctF, rtF, rnF, rmF, stF, exF, put, parF, agF, ifS, forF_eq, flF_nil, flF_cons, flK_nx, flK_ct, flK_bk, flK_rt, tbF, ttF, andF, orF, notF, andV, orV, ifF, chF, b1, b2, bN, clF_val, aNil, aCons, nmF, ownF, cF, fzF, itF, inF, itOf, rng1, rng2, yesF, dTru, dNot, I.isi_non_tuple, I.isi_non_list, I.isi_non_bool, I.isi_non_int, I.isi_non_str, I.isi_bl_tuple, I.isi_bl_list, I.isi_bl_bool, I.isi_bl_int, I.isi_bl_str, I.isi_int_tuple, I.isi_int_list, I.isi_int_bool, I.isi_int_int, I.isi_int_str, I.isi_str_tuple, I.isi_str_list, I.isi_str_bool, I.isi_str_int, I.isi_str_str, I.isi_tup_tuple, I.isi_tup_list, I.isi_tup_bool, I.isi_tup_int, I.isi_tup_str, I.isi_lst_tuple, I.isi_lst_list, I.isi_lst_bool, I.isi_lst_int, I.isi_lst_str, I.isi_scr_tuple, I.isi_scr_list, I.isi_scr_bool, I.isi_scr_int, I.isi_scr_str, dEq_bl, dNe_bl, dIsN_non, dIsN_bl, dIsN_int, dIsN_str, dIsN_tup, dIsN_lst, dAdd_int, dSub_int, dEq_int, dNe_int, dLt_int, dLe_int, dGt_int, dGe_int, dAddI_int, asB_bl, dIx_tup0, dIx_tup1, fLen, fAbs, fInt, fMax2, fMin2, gTupF, gsCons, gsNil, D.pure, D.pures, Bool.not_true, Bool.not_false, Bool.and_true, Bool.true_and, Bool.and_false, Bool.false_and, Option.bind_some, Option.bind_none, Option.map_some, Option.map_none, bind_ite, map_ite, List.map_cons, List.map_nil, List.replicate, List.cons_append, List.nil_append, List.append_nil, List.getElem?_cons_zero, List.getElem?_cons_succ, List.set_cons_zero, List.set_cons_succ, List.length_cons, List.length_nil, Nat.reduceAdd, Nat.reduceLT, Nat.zero_add, Nat.lt_add_one, if_true, if_false, ite_true, ite_false, decide_eq_true_eq, Bool.false_eq_true, reduceCtorEq, reduceIte, Nat.reduceLeDiff, Nat.reduceEqDiff]⟩
  have e2 : (List.zip x y).map (fun p => fr (p.1 - p.2)) = (List.zipWith (fun a b => a - b) x y).map fr := by
    rw [List.zip, List.map_zipWith, List.map_zipWith]
  rw [e2] at e
  have ne : List.zipWith (fun a b : Rat => a - b) x y ≠ [] := zw_ne hx hy n0
  have hd := zw_Hq (f := fun a b => a - b) (fun _ _ => Hq.sub) hq hr
  have g := greatest_eq (o := false) ne fun q h => (hd q h).den
  have l := least_fr ne false hd
  have m := minus_eq (hd _ (maxQ_mem ne)).den (hd _ (minQ_mem ne)).den
  simp only [F_distance, val_fnF, zsF_eq, fzAt, D.fz, wpE, mgE, List.contains_cons, List.contains_nil, Nat.reduceBEq, Bool.or_false, Bool.or_true, Bool.false_or, Bool.true_or, seqF_eq, andThen_nx, andThen_bk, andThen_ct, andThen_rt, retV_rt, retV_nx, nxF, bkF, ctF, rtF, rnF, rmF, stF, exF, put, parF, agF, ifS, forF_eq, flF_nil, flF_cons, flK_nx, flK_ct, flK_bk, flK_rt, tbF, ttF, andF, orF, notF, andV, orV, ifF, chF, b1, b2, bN, clF_val, aNil, aCons, nmF, ownF, cF, fzF, itF, inF, itOf, rng1, rng2, yesF, dTru, dNot, I.isi_non_tuple, I.isi_non_list, I.isi_non_bool, I.isi_non_int, I.isi_non_str, I.isi_bl_tuple, I.isi_bl_list, I.isi_bl_bool, I.isi_bl_int, I.isi_bl_str, I.isi_int_tuple, I.isi_int_list, I.isi_int_bool, I.isi_int_int, I.isi_int_str, I.isi_str_tuple, I.isi_str_list, I.isi_str_bool, I.isi_str_int, I.isi_str_str, I.isi_tup_tuple, I.isi_tup_list, I.isi_tup_bool, I.isi_tup_int, I.isi_tup_str, I.isi_lst_tuple, I.isi_lst_list, I.isi_lst_bool, I.isi_lst_int, I.isi_lst_str, I.isi_scr_tuple, I.isi_scr_list, I.isi_scr_bool, I.isi_scr_int, I.isi_scr_str, dEq_bl, dNe_bl, dIsN_non, dIsN_bl, dIsN_int, dIsN_str, dIsN_tup, dIsN_lst, dAdd_int, dSub_int, dEq_int, dNe_int, dLt_int, dLe_int, dGt_int, dGe_int, dAddI_int, asB_bl, dIx_tup0, dIx_tup1, fLen, fAbs, fInt, fMax2, fMin2, gTupF, gsCons, gsNil, D.pure, D.pures, Bool.not_true, Bool.not_false, Bool.and_true, Bool.true_and, Bool.and_false, Bool.false_and, Option.bind_some, Option.bind_none, Option.map_some, Option.map_none, bind_ite, map_ite, List.map_cons, List.map_nil, List.replicate, List.cons_append, List.nil_append, List.append_nil, List.getElem?_cons_zero, List.getElem?_cons_succ, List.set_cons_zero, List.set_cons_succ, List.length_cons, List.length_nil, Nat.reduceAdd, Nat.reduceLT, Nat.zero_add, Nat.lt_add_one, if_true, if_false, ite_true, ite_false, decide_eq_true_eq, Bool.false_eq_true, reduceCtorEq, reduceIte, Nat.reduceLeDiff, Nat.reduceEqDiff, e, fzs_fr, pures_fr, g, l, m]
  rfl
end
end
end G33

set_option Elab.async false
set_option linter.all false
set_option maxRecDepth 100000
set_option maxHeartbeats 1000000
namespace G33
open PySem L2 Pz
noncomputable section
section
variable {n : Nat} {P : List (List Rat)} {x t : List Rat}
theorem lowest_fr {l : List Rat} (hn : l ≠ []) (o : Bool) (h : ∀ q ∈ l, Hq q) : val F__law_lowest [.lst o (l.map fr)] = some (fr (minQ l)) := by
  have e := llowest_eq (o := o) (ts := l.map some) fun t ht => by
    obtain ⟨q, hq, rfl⟩ := List.mem_map.mp ht
    exact (H2.some (h q hq)).sm
  rw [minL_minQ hn, List.map_map] at e
  exact e
theorem dIx_frs {o : Bool} {l : List Rat} {i : Nat} : dIx (.lst o (l.map fr)) (.int (i : Int)) = (l[i]?).map fr := by
  rw [dIx_lstN, List.getElem?_map]
theorem law_mix_ok (h : Pts n P) (h0 : 0 < P.length) (ht : t.length = P.length) (hq : ∀ q ∈ t, Hq q) (o : Bool) :
    F__law_mix [.lst false (P.map vecD), .lst o (t.map fr)] = some (vecD (mixv n t P), [some (.lst false (P.map vecD)), some (.lst o (t.map fr))]) := by
  have hn := h.wid
  have hp := h.len
  have q0 : P[0]? = some P[0] := by simp [h0]
  have l0 := (h.row _ (List.getElem_mem h0)).1
  have d0 : dIx (.lst false (P.map vecD)) (.int 0) = some (vecD P[0]) := by
    have := dIx_pts (o := false) (A := P) (i := 0); rw [q0] at this; exact this
  obtain ⟨j, e⟩ := flF_append (FT := put 3) (FB := L__law_mix_2) (fun i : Nat => D.int (i : Int)) (fun k => fr (minQ (List.zipWith (fun t p => t + p.getD k 0) t P)))
    (fun (acc : List D) (j : Option D) => [some (.lst false (P.map vecD)), some (.lst o (t.map fr)), some (.lst true acc), j, none]) (List.range n) [] none (by simp; omega)
    fun acc j y hy hlt => ⟨some (.int y), by
      have hy : y < n := by simpa using hy
      have e := lcF_map (vs := [4]) (FI := inF rng1 (aCons (bN fLen (aCons (nmF 0) aNil)) aNil)) (FT := put 4) (FE := E__law_mix_1) (env := [some (.lst false (P.map vecD)), some (.lst o (t.map fr)), some (.lst true acc), some (.int y), none]) (env' := [some (.lst false (P.map vecD)), some (.lst o (t.map fr)), some (.lst true acc), some (.int y), none])
        (fun i : Nat => D.int (i : Int)) (fun i => fr (t.getD i 0 + (P.getD i []).getD y 0)) (List.range P.length) (by
          simp only [val_fnF, zsF_eq, fzAt, D.fz, wpE, mgE, List.contains_cons, List.contains_nil, Nat.reduceBEq, Bool.or_false, Bool.or_true, Bool.false_or, Bool.true_or, seqF_eq, andThen_nx, andThen_bk, andThen_ct, andThen_rt, retV_rt, retV_nx, nxF, bkF, ctF, rtF, rnF, rmF, stF, exF, put, parF, agF, ifS, forF_eq, flF_nil, flF_cons, flK_nx, flK_ct, flK_bk, flK_rt, tbF, ttF, andF, orF, notF, andV, orV, ifF, chF, b1, b2, bN, clF_val, aNil, aCons, nmF, ownF, cF, fzF, itF, inF, itOf, rng1, rng2, yesF, dTru, dNot, I.isi_non_tuple, I.isi_non_list, I.isi_non_bool, I.isi_non_int, I.isi_non_str, I.isi_bl_tuple, I.isi_bl_list, I.isi_bl_bool, I.isi_bl_int, I.isi_bl_str, I.isi_int_tuple, I.isi_int_list, I.isi_int_bool, I.isi_int_int, I.isi_int_str, I.isi_str_tuple, I.isi_str_list, I.isi_str_bool, I.isi_str_int, I.isi_str_str, I.isi_tup_tuple, I.isi_tup_list, I.isi_tup_bool, I.isi_tup_int, I.isi_tup_str, I.isi_lst_tuple, I.isi_lst_list, I.isi_lst_bool, I.isi_lst_int, I.isi_lst_str, I.isi_scr_tuple, I.isi_scr_list, I.isi_scr_bool, I.isi_scr_int, I.isi_scr_str, dEq_bl, dNe_bl, dIsN_non, dIsN_bl, dIsN_int, dIsN_str, dIsN_tup, dIsN_lst, dAdd_int, dSub_int, dEq_int, dNe_int, dLt_int, dLe_int, dGt_int, dGe_int, dAddI_int, asB_bl, dIx_tup0, dIx_tup1, fLen, fAbs, fInt, fMax2, fMin2, gTupF, gsCons, gsNil, D.pure, D.pures, Bool.not_true, Bool.not_false, Bool.and_true, Bool.true_and, Bool.and_false, Bool.false_and, Option.bind_some, Option.bind_none, Option.map_some, Option.map_none, bind_ite, map_ite, List.map_cons, List.map_nil, List.replicate, List.cons_append, List.nil_append, List.append_nil, List.getElem?_cons_zero, List.getElem?_cons_succ, List.set_cons_zero, List.set_cons_succ, List.length_cons, List.length_nil, Nat.reduceAdd, Nat.reduceLT, Nat.zero_add, Nat.lt_add_one, if_true, if_false, ite_true, ite_false, decide_eq_true_eq, Bool.false_eq_true, reduceCtorEq, reduceIte, Nat.reduceLeDiff, Nat.reduceEqDiff, List.length_map, rg_of (show P.length ≤ 1000000 by omega), Int.toNat_natCast]) (by simp; omega) (by simp [okE])
        fun i hi => ⟨[some (.lst false (P.map vecD)), some (.lst o (t.map fr)), some (.lst true acc), some (.int y), some (.int i)], [some (.lst false (P.map vecD)), some (.lst o (t.map fr)), some (.lst true acc), some (.int y), some (.int i)], by simp only [val_fnF, zsF_eq, fzAt, D.fz, wpE, mgE, List.contains_cons, List.contains_nil, Nat.reduceBEq, Bool.or_false, Bool.or_true, Bool.false_or, Bool.true_or, seqF_eq, andThen_nx, andThen_bk, andThen_ct, andThen_rt, retV_rt, retV_nx, nxF, bkF, ctF, rtF, rnF, rmF, stF, exF, put, parF, agF, ifS, forF_eq, flF_nil, flF_cons, flK_nx, flK_ct, flK_bk, flK_rt, tbF, ttF, andF, orF, notF, andV, orV, ifF, chF, b1, b2, bN, clF_val, aNil, aCons, nmF, ownF, cF, fzF, itF, inF, itOf, rng1, rng2, yesF, dTru, dNot, I.isi_non_tuple, I.isi_non_list, I.isi_non_bool, I.isi_non_int, I.isi_non_str, I.isi_bl_tuple, I.isi_bl_list, I.isi_bl_bool, I.isi_bl_int, I.isi_bl_str, I.isi_int_tuple, I.isi_int_list, I.isi_int_bool, I.isi_int_int, I.isi_int_str, I.isi_str_tuple, I.isi_str_list, I.isi_str_bool, I.isi_str_int, I.isi_str_str, I.isi_tup_tuple, I.isi_tup_list, I.isi_tup_bool, I.isi_tup_int, I.isi_tup_str, I.isi_lst_tuple, I.isi_lst_list, I.isi_lst_bool, I.isi_lst_int, I.isi_lst_str, I.isi_scr_tuple, I.isi_scr_list, I.isi_scr_bool, I.isi_scr_int, I.isi_scr_str, dEq_bl, dNe_bl, dIsN_non, dIsN_bl, dIsN_int, dIsN_str, dIsN_tup, dIsN_lst, dAdd_int, dSub_int, dEq_int, dNe_int, dLt_int, dLe_int, dGt_int, dGe_int, dAddI_int, asB_bl, dIx_tup0, dIx_tup1, fLen, fAbs, fInt, fMax2, fMin2, gTupF, gsCons, gsNil, D.pure, D.pures, Bool.not_true, Bool.not_false, Bool.and_true, Bool.true_and, Bool.and_false, Bool.false_and, Option.bind_some, Option.bind_none, Option.map_some, Option.map_none, bind_ite, map_ite, List.map_cons, List.map_nil, List.replicate, List.cons_append, List.nil_append, List.append_nil, List.getElem?_cons_zero, List.getElem?_cons_succ, List.set_cons_zero, List.set_cons_succ, List.length_cons, List.length_nil, Nat.reduceAdd, Nat.reduceLT, Nat.zero_add, Nat.lt_add_one, if_true, if_false, ite_true, ite_false, decide_eq_true_eq, Bool.false_eq_true, reduceCtorEq, reduceIte, Nat.reduceLeDiff, Nat.reduceEqDiff], by
          have hi : i < P.length := by simpa using hi
          have q1 : t[i]? = some (t.getD i 0) := by rw [List.getD_eq_getElem?_getD, List.getElem?_eq_getElem (by omega)]; rfl
          have q2 : P[i]? = some (P.getD i []) := by rw [List.getD_eq_getElem?_getD, List.getElem?_eq_getElem hi]; rfl
          have m2 : P.getD i [] ∈ P := List.mem_of_getElem? q2
          have ht1 : Hq (t.getD i 0) := hq _ (List.mem_of_getElem? q1)
          simp only [E__law_mix_1, val_fnF, zsF_eq, fzAt, D.fz, wpE, mgE, List.contains_cons, List.contains_nil, Nat.reduceBEq, Bool.or_false, Bool.or_true, Bool.false_or, Bool.true_or, seqF_eq, andThen_nx, andThen_bk, andThen_ct, andThen_rt, retV_rt, retV_nx, nxF, bkF, ctF, rtF, rnF, rmF, stF, exF, put, parF, agF, ifS, forF_eq, flF_nil, flF_cons, flK_nx, flK_ct, flK_bk, flK_rt, tbF, ttF, andF, orF, notF, andV, orV, ifF, chF, b1, b2, bN, clF_val, aNil, aCons, nmF, ownF, cF, fzF, itF, inF, itOf, rng1, rng2, yesF, dTru, dNot, I.isi_non_tuple, I.isi_non_list, I.isi_non_bool, I.isi_non_int, I.isi_non_str, I.isi_bl_tuple, I.isi_bl_list, I.isi_bl_bool, I.isi_bl_int, I.isi_bl_str, I.isi_int_tuple, I.isi_int_list, I.isi_int_bool, I.isi_int_int, I.isi_int_str, I.isi_str_tuple, I.isi_str_list, I.isi_str_bool, I.isi_str_int, I.isi_str_str, I.isi_tup_tuple, I.isi_tup_list, I.isi_tup_bool, I.isi_tup_int, I.isi_tup_str, I.isi_lst_tuple, I.isi_lst_list, I.isi_lst_bool, I.isi_lst_int, I.isi_lst_str, I.isi_scr_tuple, I.isi_scr_list, I.isi_scr_bool, I.isi_scr_int, I.isi_scr_str, dEq_bl, dNe_bl, dIsN_non, dIsN_bl, dIsN_int, dIsN_str, dIsN_tup, dIsN_lst, dAdd_int, dSub_int, dEq_int, dNe_int, dLt_int, dLe_int, dGt_int, dGe_int, dAddI_int, asB_bl, dIx_tup0, dIx_tup1, fLen, fAbs, fInt, fMax2, fMin2, gTupF, gsCons, gsNil, D.pure, D.pures, Bool.not_true, Bool.not_false, Bool.and_true, Bool.true_and, Bool.and_false, Bool.false_and, Option.bind_some, Option.bind_none, Option.map_some, Option.map_none, bind_ite, map_ite, List.map_cons, List.map_nil, List.replicate, List.cons_append, List.nil_append, List.append_nil, List.getElem?_cons_zero, List.getElem?_cons_succ, List.set_cons_zero, List.set_cons_succ, List.length_cons, List.length_nil, Nat.reduceAdd, Nat.reduceLT, Nat.zero_add, Nat.lt_add_one, if_true, if_false, ite_true, ite_false, decide_eq_true_eq, Bool.false_eq_true, reduceCtorEq, reduceIte, Nat.reduceLeDiff, Nat.reduceEqDiff, dIx_frs, dIx_pts, dIx_vec, q1, q2, at_row h m2 hy, pure_fr, ladd_eq ht1.den (at_Hq h m2 hy).den], by simp only [val_fnF, zsF_eq, fzAt, D.fz, wpE, mgE, List.contains_cons, List.contains_nil, Nat.reduceBEq, Bool.or_false, Bool.or_true, Bool.false_or, Bool.true_or, seqF_eq, andThen_nx, andThen_bk, andThen_ct, andThen_rt, retV_rt, retV_nx, nxF, bkF, ctF, rtF, rnF, rmF, stF, exF, put, parF, agF, ifS, forF_eq, flF_nil, flF_cons, flK_nx, flK_ct, flK_bk, flK_rt, tbF, ttF, andF, orF, notF, andV, orV, ifF, chF, b1, b2, bN, clF_val, aNil, aCons, nmF, ownF, cF, fzF, itF, inF, itOf, rng1, rng2, yesF, dTru, dNot, I.isi_non_tuple, I.isi_non_list, I.isi_non_bool, I.isi_non_int, I.isi_non_str, I.isi_bl_tuple, I.isi_bl_list, I.isi_bl_bool, I.isi_bl_int, I.isi_bl_str, I.isi_int_tuple, I.isi_int_list, I.isi_int_bool, I.isi_int_int, I.isi_int_str, I.isi_str_tuple, I.isi_str_list, I.isi_str_bool, I.isi_str_int, I.isi_str_str, I.isi_tup_tuple, I.isi_tup_list, I.isi_tup_bool, I.isi_tup_int, I.isi_tup_str, I.isi_lst_tuple, I.isi_lst_list, I.isi_lst_bool, I.isi_lst_int, I.isi_lst_str, I.isi_scr_tuple, I.isi_scr_list, I.isi_scr_bool, I.isi_scr_int, I.isi_scr_str, dEq_bl, dNe_bl, dIsN_non, dIsN_bl, dIsN_int, dIsN_str, dIsN_tup, dIsN_lst, dAdd_int, dSub_int, dEq_int, dNe_int, dLt_int, dLe_int, dGt_int, dGe_int, dAddI_int, asB_bl, dIx_tup0, dIx_tup1, fLen, fAbs, fInt, fMax2, fMin2, gTupF, gsCons, gsNil, D.pure, D.pures, Bool.not_true, Bool.not_false, Bool.and_true, Bool.true_and, Bool.and_false, Bool.false_and, Option.bind_some, Option.bind_none, Option.map_some, Option.map_none, bind_ite, map_ite, List.map_cons, List.map_nil, List.replicate, List.cons_append, List.nil_append, List.append_nil, List.getElem?_cons_zero, List.getElem?_cons_succ, List.set_cons_zero, List.set_cons_succ, List.length_cons, List.length_nil, Nat.reduceAdd, Nat.reduceLT, Nat.zero_add, Nat.lt_add_one, if_true, if_false, ite_true, ite_false, decide_eq_true_eq, Bool.false_eq_true, reduceCtorEq, reduceIte, Nat.reduceLeDiff, Nat.reduceEqDiff]⟩
      have e2 : (List.range P.length).map (fun i => fr (t.getD i 0 + (P.getD i []).getD y 0)) = (List.zipWith (fun t p => t + p.getD y 0) t P).map fr := by
        refine List.ext_getElem (by simp [ht]) fun i h1 h2 => ?_
        simp at h1
        simp only [List.getElem_map, List.getElem_range, List.getElem_zipWith]
        rw [getD_get (by omega), List.getD_eq_getElem?_getD (l := P), List.getElem?_eq_getElem h1]; rfl
      rw [e2] at e
      have hz : ∀ q ∈ List.zipWith (fun (t : Rat) (p : List Rat) => t + p.getD y 0) t P, Hq q := zwl.mpr fun i h1 h2 => (hq _ (List.getElem_mem h1)).add (at_Hq h (List.getElem_mem h2) hy)
      simp only [L__law_mix_2, val_fnF, zsF_eq, fzAt, D.fz, wpE, mgE, List.contains_cons, List.contains_nil, Nat.reduceBEq, Bool.or_false, Bool.or_true, Bool.false_or, Bool.true_or, seqF_eq, andThen_nx, andThen_bk, andThen_ct, andThen_rt, retV_rt, retV_nx, nxF, bkF, ctF, rtF, rnF, rmF, stF, exF, put, parF, agF, ifS, forF_eq, flF_nil, flF_cons, flK_nx, flK_ct, flK_bk, flK_rt, tbF, ttF, andF, orF, notF, andV, orV, ifF, chF, b1, b2, bN, clF_val, aNil, aCons, nmF, ownF, cF, fzF, itF, inF, itOf, rng1, rng2, yesF, dTru, dNot, I.isi_non_tuple, I.isi_non_list, I.isi_non_bool, I.isi_non_int, I.isi_non_str, I.isi_bl_tuple, I.isi_bl_list, I.isi_bl_bool, I.isi_bl_int, I.isi_bl_str, I.isi_int_tuple, I.isi_int_list, I.isi_int_bool, I.isi_int_int, I.isi_int_str, I.isi_str_tuple, I.isi_str_list, I.isi_str_bool, I.isi_str_int, I.isi_str_str, I.isi_tup_tuple, I.isi_tup_list, I.isi_tup_bool, I.isi_tup_int, I.isi_tup_str, I.isi_lst_tuple, I.isi_lst_list, I.isi_lst_bool, I.isi_lst_int, I.isi_lst_str, I.isi_scr_tuple, I.isi_scr_list, I.isi_scr_bool, I.isi_scr_int, I.isi_scr_str, dEq_bl, dNe_bl, dIsN_non, dIsN_bl, dIsN_int, dIsN_str, dIsN_tup, dIsN_lst, dAdd_int, dSub_int, dEq_int, dNe_int, dLt_int, dLe_int, dGt_int, dGe_int, dAddI_int, asB_bl, dIx_tup0, dIx_tup1, fLen, fAbs, fInt, fMax2, fMin2, gTupF, gsCons, gsNil, D.pure, D.pures, Bool.not_true, Bool.not_false, Bool.and_true, Bool.true_and, Bool.and_false, Bool.false_and, Option.bind_some, Option.bind_none, Option.map_some, Option.map_none, bind_ite, map_ite, List.map_cons, List.map_nil, List.replicate, List.cons_append, List.nil_append, List.append_nil, List.getElem?_cons_zero, List.getElem?_cons_succ, List.set_cons_zero, List.set_cons_succ, List.length_cons, List.length_nil, Nat.reduceAdd, Nat.reduceLT, Nat.zero_add, Nat.lt_add_one, if_true, if_false, ite_true, ite_false, decide_eq_true_eq, Bool.false_eq_true, reduceCtorEq, reduceIte, Nat.reduceLeDiff, Nat.reduceEqDiff, mtF, isL, e, lowest_fr (zw_ne ht rfl h0) true hz, mAppend, hlt]⟩
  have e3 : (List.range n).map (fun k => fr (minQ (List.zipWith (fun t p => t + p.getD k 0) t P))) = (mixv n t P).map fr := by simp [mixv]
  rw [e3, List.nil_append] at e
  have z : dLst [] = some (.lst true []) := dLst_le (by simp)
  have it : inF rng1 (aCons (bN fLen (aCons (b2 dIx (nmF 0) (cF (.int 0))) aNil)) aNil) [some (.lst false (P.map vecD)), some (.lst o (t.map fr)), some (.lst true []), none, none] = some ((List.range n).map (fun i : Nat => D.int (i : Int)), [some (.lst false (P.map vecD)), some (.lst o (t.map fr)), some (.lst true []), none, none]) := by
    simp only [val_fnF, zsF_eq, fzAt, D.fz, wpE, mgE, List.contains_cons, List.contains_nil, Nat.reduceBEq, Bool.or_false, Bool.or_true, Bool.false_or, Bool.true_or, seqF_eq, andThen_nx, andThen_bk, andThen_ct, andThen_rt, retV_rt, retV_nx, nxF, bkF, ctF, rtF, rnF, rmF, stF, exF, put, parF, agF, ifS, forF_eq, flF_nil, flF_cons, flK_nx, flK_ct, flK_bk, flK_rt, tbF, ttF, andF, orF, notF, andV, orV, ifF, chF, b1, b2, bN, clF_val, aNil, aCons, nmF, ownF, cF, fzF, itF, inF, itOf, rng1, rng2, yesF, dTru, dNot, I.isi_non_tuple, I.isi_non_list, I.isi_non_bool, I.isi_non_int, I.isi_non_str, I.isi_bl_tuple, I.isi_bl_list, I.isi_bl_bool, I.isi_bl_int, I.isi_bl_str, I.isi_int_tuple, I.isi_int_list, I.isi_int_bool, I.isi_int_int, I.isi_int_str, I.isi_str_tuple, I.isi_str_list, I.isi_str_bool, I.isi_str_int, I.isi_str_str, I.isi_tup_tuple, I.isi_tup_list, I.isi_tup_bool, I.isi_tup_int, I.isi_tup_str, I.isi_lst_tuple, I.isi_lst_list, I.isi_lst_bool, I.isi_lst_int, I.isi_lst_str, I.isi_scr_tuple, I.isi_scr_list, I.isi_scr_bool, I.isi_scr_int, I.isi_scr_str, dEq_bl, dNe_bl, dIsN_non, dIsN_bl, dIsN_int, dIsN_str, dIsN_tup, dIsN_lst, dAdd_int, dSub_int, dEq_int, dNe_int, dLt_int, dLe_int, dGt_int, dGe_int, dAddI_int, asB_bl, dIx_tup0, dIx_tup1, fLen, fAbs, fInt, fMax2, fMin2, gTupF, gsCons, gsNil, D.pure, D.pures, Bool.not_true, Bool.not_false, Bool.and_true, Bool.true_and, Bool.and_false, Bool.false_and, Option.bind_some, Option.bind_none, Option.map_some, Option.map_none, bind_ite, map_ite, List.map_cons, List.map_nil, List.replicate, List.cons_append, List.nil_append, List.append_nil, List.getElem?_cons_zero, List.getElem?_cons_succ, List.set_cons_zero, List.set_cons_succ, List.length_cons, List.length_nil, Nat.reduceAdd, Nat.reduceLT, Nat.zero_add, Nat.lt_add_one, if_true, if_false, ite_true, ite_false, decide_eq_true_eq, Bool.false_eq_true, reduceCtorEq, reduceIte, Nat.reduceLeDiff, Nat.reduceEqDiff, d0]
    simp only [vecD, val_fnF, zsF_eq, fzAt, D.fz, wpE, mgE, List.contains_cons, List.contains_nil, Nat.reduceBEq, Bool.or_false, Bool.or_true, Bool.false_or, Bool.true_or, seqF_eq, andThen_nx, andThen_bk, andThen_ct, andThen_rt, retV_rt, retV_nx, nxF, bkF, ctF, rtF, rnF, rmF, stF, exF, put, parF, agF, ifS, forF_eq, flF_nil, flF_cons, flK_nx, flK_ct, flK_bk, flK_rt, tbF, ttF, andF, orF, notF, andV, orV, ifF, chF, b1, b2, bN, clF_val, aNil, aCons, nmF, ownF, cF, fzF, itF, inF, itOf, rng1, rng2, yesF, dTru, dNot, I.isi_non_tuple, I.isi_non_list, I.isi_non_bool, I.isi_non_int, I.isi_non_str, I.isi_bl_tuple, I.isi_bl_list, I.isi_bl_bool, I.isi_bl_int, I.isi_bl_str, I.isi_int_tuple, I.isi_int_list, I.isi_int_bool, I.isi_int_int, I.isi_int_str, I.isi_str_tuple, I.isi_str_list, I.isi_str_bool, I.isi_str_int, I.isi_str_str, I.isi_tup_tuple, I.isi_tup_list, I.isi_tup_bool, I.isi_tup_int, I.isi_tup_str, I.isi_lst_tuple, I.isi_lst_list, I.isi_lst_bool, I.isi_lst_int, I.isi_lst_str, I.isi_scr_tuple, I.isi_scr_list, I.isi_scr_bool, I.isi_scr_int, I.isi_scr_str, dEq_bl, dNe_bl, dIsN_non, dIsN_bl, dIsN_int, dIsN_str, dIsN_tup, dIsN_lst, dAdd_int, dSub_int, dEq_int, dNe_int, dLt_int, dLe_int, dGt_int, dGe_int, dAddI_int, asB_bl, dIx_tup0, dIx_tup1, fLen, fAbs, fInt, fMax2, fMin2, gTupF, gsCons, gsNil, D.pure, D.pures, Bool.not_true, Bool.not_false, Bool.and_true, Bool.true_and, Bool.and_false, Bool.false_and, Option.bind_some, Option.bind_none, Option.map_some, Option.map_none, bind_ite, map_ite, List.map_cons, List.map_nil, List.replicate, List.cons_append, List.nil_append, List.append_nil, List.getElem?_cons_zero, List.getElem?_cons_succ, List.set_cons_zero, List.set_cons_succ, List.length_cons, List.length_nil, Nat.reduceAdd, Nat.reduceLT, Nat.zero_add, Nat.lt_add_one, if_true, if_false, ite_true, ite_false, decide_eq_true_eq, Bool.false_eq_true, reduceCtorEq, reduceIte, Nat.reduceLeDiff, Nat.reduceEqDiff, List.length_map, l0, rg_of (show n ≤ 1000000 by omega), Int.toNat_natCast]
  simp only [F__law_mix, fnF_eq, List.length_cons, List.length_nil, Nat.zero_add, Nat.reduceAdd, if_true, seqF_eq, stF, bN, aNil, z, Option.bind_some, Option.map_some, List.map_cons, List.map_nil, List.replicate, List.cons_append, List.nil_append, put, List.length_cons, List.length_nil, Nat.reduceLT, List.set_cons_zero, List.set_cons_succ, andThen_nx, forF_eq, it, e]
  simp only [val_fnF, zsF_eq, fzAt, D.fz, wpE, mgE, List.contains_cons, List.contains_nil, Nat.reduceBEq, Bool.or_false, Bool.or_true, Bool.false_or, Bool.true_or, seqF_eq, andThen_nx, andThen_bk, andThen_ct, andThen_rt, retV_rt, retV_nx, nxF, bkF, ctF, rtF, rnF, rmF, stF, exF, put, parF, agF, ifS, forF_eq, flF_nil, flF_cons, flK_nx, flK_ct, flK_bk, flK_rt, tbF, ttF, andF, orF, notF, andV, orV, ifF, chF, b1, b2, bN, clF_val, aNil, aCons, nmF, ownF, cF, fzF, itF, inF, itOf, rng1, rng2, yesF, dTru, dNot, I.isi_non_tuple, I.isi_non_list, I.isi_non_bool, I.isi_non_int, I.isi_non_str, I.isi_bl_tuple, I.isi_bl_list, I.isi_bl_bool, I.isi_bl_int, I.isi_bl_str, I.isi_int_tuple, I.isi_int_list, I.isi_int_bool, I.isi_int_int, I.isi_int_str, I.isi_str_tuple, I.isi_str_list, I.isi_str_bool, I.isi_str_int, I.isi_str_str, I.isi_tup_tuple, I.isi_tup_list, I.isi_tup_bool, I.isi_tup_int, I.isi_tup_str, I.isi_lst_tuple, I.isi_lst_list, I.isi_lst_bool, I.isi_lst_int, I.isi_lst_str, I.isi_scr_tuple, I.isi_scr_list, I.isi_scr_bool, I.isi_scr_int, I.isi_scr_str, dEq_bl, dNe_bl, dIsN_non, dIsN_bl, dIsN_int, dIsN_str, dIsN_tup, dIsN_lst, dAdd_int, dSub_int, dEq_int, dNe_int, dLt_int, dLe_int, dGt_int, dGe_int, dAddI_int, asB_bl, dIx_tup0, dIx_tup1, fLen, fAbs, fInt, fMax2, fMin2, gTupF, gsCons, gsNil, D.pure, D.pures, Bool.not_true, Bool.not_false, Bool.and_true, Bool.true_and, Bool.and_false, Bool.false_and, Option.bind_some, Option.bind_none, Option.map_some, Option.map_none, bind_ite, map_ite, List.map_cons, List.map_nil, List.replicate, List.cons_append, List.nil_append, List.append_nil, List.getElem?_cons_zero, List.getElem?_cons_succ, List.set_cons_zero, List.set_cons_succ, List.length_cons, List.length_nil, Nat.reduceAdd, Nat.reduceLT, Nat.zero_add, Nat.lt_add_one, if_true, if_false, ite_true, ite_false, decide_eq_true_eq, Bool.false_eq_true, reduceCtorEq, reduceIte, Nat.reduceLeDiff, Nat.reduceEqDiff, fTuple, pures_fr, fnO_rt, List.take_succ_cons, List.take_zero]
  rfl
/-- the law's own gap -/
theorem law_gap_eq {y : List Rat} (n0 : 0 < n) (hn : n ≤ 1000) (hx : x.length = n) (hy : y.length = n) (hq : ∀ q ∈ x, Hq q) (hr : ∀ q ∈ y, Hq q) : val F__law_gap [vecD x, vecD y] = some (fr (gap x y)) := by
  have e := lcF_map (vs := [6]) (FI := inF rng1 (aCons (bN fLen (aCons (nmF 0) aNil)) aNil)) (FT := put 6) (FE := E__law_gap_1) (env := [some (vecD x), some (vecD y), none, none, none, none, none]) (env' := [some (vecD x), some (vecD y), none, none, none, none, none])
    (fun i : Nat => D.int (i : Int)) (fun i => fr (x.getD i 0 - y.getD i 0)) (List.range n) (by
      simp only [val_fnF, zsF_eq, fzAt, D.fz, wpE, mgE, List.contains_cons, List.contains_nil, Nat.reduceBEq, Bool.or_false, Bool.or_true, Bool.false_or, Bool.true_or, seqF_eq, andThen_nx, andThen_bk, andThen_ct, andThen_rt, retV_rt, retV_nx, nxF, bkF, ctF, rtF, rnF, rmF, stF, exF, put, parF, agF, ifS, forF_eq, flF_nil, flF_cons, flK_nx, flK_ct, flK_bk, flK_rt, tbF, ttF, andF, orF, notF, andV, orV, ifF, chF, b1, b2, bN, clF_val, aNil, aCons, nmF, ownF, cF, fzF, itF, inF, itOf, rng1, rng2, yesF, dTru, dNot, I.isi_non_tuple, I.isi_non_list, I.isi_non_bool, I.isi_non_int, I.isi_non_str, I.isi_bl_tuple, I.isi_bl_list, I.isi_bl_bool, I.isi_bl_int, I.isi_bl_str, I.isi_int_tuple, I.isi_int_list, I.isi_int_bool, I.isi_int_int, I.isi_int_str, I.isi_str_tuple, I.isi_str_list, I.isi_str_bool, I.isi_str_int, I.isi_str_str, I.isi_tup_tuple, I.isi_tup_list, I.isi_tup_bool, I.isi_tup_int, I.isi_tup_str, I.isi_lst_tuple, I.isi_lst_list, I.isi_lst_bool, I.isi_lst_int, I.isi_lst_str, I.isi_scr_tuple, I.isi_scr_list, I.isi_scr_bool, I.isi_scr_int, I.isi_scr_str, dEq_bl, dNe_bl, dIsN_non, dIsN_bl, dIsN_int, dIsN_str, dIsN_tup, dIsN_lst, dAdd_int, dSub_int, dEq_int, dNe_int, dLt_int, dLe_int, dGt_int, dGe_int, dAddI_int, asB_bl, dIx_tup0, dIx_tup1, fLen, fAbs, fInt, fMax2, fMin2, gTupF, gsCons, gsNil, D.pure, D.pures, Bool.not_true, Bool.not_false, Bool.and_true, Bool.true_and, Bool.and_false, Bool.false_and, Option.bind_some, Option.bind_none, Option.map_some, Option.map_none, bind_ite, map_ite, List.map_cons, List.map_nil, List.replicate, List.cons_append, List.nil_append, List.append_nil, List.getElem?_cons_zero, List.getElem?_cons_succ, List.set_cons_zero, List.set_cons_succ, List.length_cons, List.length_nil, Nat.reduceAdd, Nat.reduceLT, Nat.zero_add, Nat.lt_add_one, if_true, if_false, ite_true, ite_false, decide_eq_true_eq, Bool.false_eq_true, reduceCtorEq, reduceIte, Nat.reduceLeDiff, Nat.reduceEqDiff]
      simp only [vecD, val_fnF, zsF_eq, fzAt, D.fz, wpE, mgE, List.contains_cons, List.contains_nil, Nat.reduceBEq, Bool.or_false, Bool.or_true, Bool.false_or, Bool.true_or, seqF_eq, andThen_nx, andThen_bk, andThen_ct, andThen_rt, retV_rt, retV_nx, nxF, bkF, ctF, rtF, rnF, rmF, stF, exF, put, parF, agF, ifS, forF_eq, flF_nil, flF_cons, flK_nx, flK_ct, flK_bk, flK_rt, tbF, ttF, andF, orF, notF, andV, orV, ifF, chF, b1, b2, bN, clF_val, aNil, aCons, nmF, ownF, cF, fzF, itF, inF, itOf, rng1, rng2, yesF, dTru, dNot, I.isi_non_tuple, I.isi_non_list, I.isi_non_bool, I.isi_non_int, I.isi_non_str, I.isi_bl_tuple, I.isi_bl_list, I.isi_bl_bool, I.isi_bl_int, I.isi_bl_str, I.isi_int_tuple, I.isi_int_list, I.isi_int_bool, I.isi_int_int, I.isi_int_str, I.isi_str_tuple, I.isi_str_list, I.isi_str_bool, I.isi_str_int, I.isi_str_str, I.isi_tup_tuple, I.isi_tup_list, I.isi_tup_bool, I.isi_tup_int, I.isi_tup_str, I.isi_lst_tuple, I.isi_lst_list, I.isi_lst_bool, I.isi_lst_int, I.isi_lst_str, I.isi_scr_tuple, I.isi_scr_list, I.isi_scr_bool, I.isi_scr_int, I.isi_scr_str, dEq_bl, dNe_bl, dIsN_non, dIsN_bl, dIsN_int, dIsN_str, dIsN_tup, dIsN_lst, dAdd_int, dSub_int, dEq_int, dNe_int, dLt_int, dLe_int, dGt_int, dGe_int, dAddI_int, asB_bl, dIx_tup0, dIx_tup1, fLen, fAbs, fInt, fMax2, fMin2, gTupF, gsCons, gsNil, D.pure, D.pures, Bool.not_true, Bool.not_false, Bool.and_true, Bool.true_and, Bool.and_false, Bool.false_and, Option.bind_some, Option.bind_none, Option.map_some, Option.map_none, bind_ite, map_ite, List.map_cons, List.map_nil, List.replicate, List.cons_append, List.nil_append, List.append_nil, List.getElem?_cons_zero, List.getElem?_cons_succ, List.set_cons_zero, List.set_cons_succ, List.length_cons, List.length_nil, Nat.reduceAdd, Nat.reduceLT, Nat.zero_add, Nat.lt_add_one, if_true, if_false, ite_true, ite_false, decide_eq_true_eq, Bool.false_eq_true, reduceCtorEq, reduceIte, Nat.reduceLeDiff, Nat.reduceEqDiff, List.length_map, hx, rg_of (show n ≤ 1000000 by omega), Int.toNat_natCast]) (by simp; omega) (by simp [okE])
    fun i hi => ⟨[some (vecD x), some (vecD y), none, none, none, none, some (.int i)], [some (vecD x), some (vecD y), none, none, none, none, some (.int i)], by simp only [val_fnF, zsF_eq, fzAt, D.fz, wpE, mgE, List.contains_cons, List.contains_nil, Nat.reduceBEq, Bool.or_false, Bool.or_true, Bool.false_or, Bool.true_or, seqF_eq, andThen_nx, andThen_bk, andThen_ct, andThen_rt, retV_rt, retV_nx, nxF, bkF, ctF, rtF, rnF, rmF, stF, exF, put, parF, agF, ifS, forF_eq, flF_nil, flF_cons, flK_nx, flK_ct, flK_bk, flK_rt, tbF, ttF, andF, orF, notF, andV, orV, ifF, chF, b1, b2, bN, clF_val, aNil, aCons, nmF, ownF, cF, fzF, itF, inF, itOf, rng1, rng2, yesF, dTru, dNot, I.isi_non_tuple, I.isi_non_list, I.isi_non_bool, I.isi_non_int, I.isi_non_str, I.isi_bl_tuple, I.isi_bl_list, I.isi_bl_bool, I.isi_bl_int, I.isi_bl_str, I.isi_int_tuple, I.isi_int_list, I.isi_int_bool, I.isi_int_int, I.isi_int_str, I.isi_str_tuple, I.isi_str_list, I.isi_str_bool, I.isi_str_int, I.isi_str_str, I.isi_tup_tuple, I.isi_tup_list, I.isi_tup_bool, I.isi_tup_int, I.isi_tup_str, I.isi_lst_tuple, I.isi_lst_list, I.isi_lst_bool, I.isi_lst_int, I.isi_lst_str, I.isi_scr_tuple, I.isi_scr_list, I.isi_scr_bool, I.isi_scr_int, I.isi_scr_str, dEq_bl, dNe_bl, dIsN_non, dIsN_bl, dIsN_int, dIsN_str, dIsN_tup, dIsN_lst, dAdd_int, dSub_int, dEq_int, dNe_int, dLt_int, dLe_int, dGt_int, dGe_int, dAddI_int, asB_bl, dIx_tup0, dIx_tup1, fLen, fAbs, fInt, fMax2, fMin2, gTupF, gsCons, gsNil, D.pure, D.pures, Bool.not_true, Bool.not_false, Bool.and_true, Bool.true_and, Bool.and_false, Bool.false_and, Option.bind_some, Option.bind_none, Option.map_some, Option.map_none, bind_ite, map_ite, List.map_cons, List.map_nil, List.replicate, List.cons_append, List.nil_append, List.append_nil, List.getElem?_cons_zero, List.getElem?_cons_succ, List.set_cons_zero, List.set_cons_succ, List.length_cons, List.length_nil, Nat.reduceAdd, Nat.reduceLT, Nat.zero_add, Nat.lt_add_one, if_true, if_false, ite_true, ite_false, decide_eq_true_eq, Bool.false_eq_true, reduceCtorEq, reduceIte, Nat.reduceLeDiff, Nat.reduceEqDiff], by
      have hi : i < n := by simpa using hi
      have q1 : x[i]? = some (x.getD i 0) := by rw [List.getD_eq_getElem?_getD, List.getElem?_eq_getElem (by omega)]; rfl
      have q2 : y[i]? = some (y.getD i 0) := by rw [List.getD_eq_getElem?_getD, List.getElem?_eq_getElem (by omega)]; rfl
      simp only [E__law_gap_1, val_fnF, zsF_eq, fzAt, D.fz, wpE, mgE, List.contains_cons, List.contains_nil, Nat.reduceBEq, Bool.or_false, Bool.or_true, Bool.false_or, Bool.true_or, seqF_eq, andThen_nx, andThen_bk, andThen_ct, andThen_rt, retV_rt, retV_nx, nxF, bkF, ctF, rtF, rnF, rmF, stF, exF, put, parF, agF, ifS, forF_eq, flF_nil, flF_cons, flK_nx, flK_ct, flK_bk, flK_rt, tbF, ttF, andF, orF, notF, andV, orV, ifF, chF, b1, b2, bN, clF_val, aNil, aCons, nmF, ownF, cF, fzF, itF, inF, itOf, rng1, rng2, yesF, dTru, dNot, I.isi_non_tuple, I.isi_non_list, I.isi_non_bool, I.isi_non_int, I.isi_non_str, I.isi_bl_tuple, I.isi_bl_list, I.isi_bl_bool, I.isi_bl_int, I.isi_bl_str, I.isi_int_tuple, I.isi_int_list, I.isi_int_bool, I.isi_int_int, I.isi_int_str, I.isi_str_tuple, I.isi_str_list, I.isi_str_bool, I.isi_str_int, I.isi_str_str, I.isi_tup_tuple, I.isi_tup_list, I.isi_tup_bool, I.isi_tup_int, I.isi_tup_str, I.isi_lst_tuple, I.isi_lst_list, I.isi_lst_bool, I.isi_lst_int, I.isi_lst_str, I.isi_scr_tuple, I.isi_scr_list, I.isi_scr_bool, I.isi_scr_int, I.isi_scr_str, dEq_bl, dNe_bl, dIsN_non, dIsN_bl, dIsN_int, dIsN_str, dIsN_tup, dIsN_lst, dAdd_int, dSub_int, dEq_int, dNe_int, dLt_int, dLe_int, dGt_int, dGe_int, dAddI_int, asB_bl, dIx_tup0, dIx_tup1, fLen, fAbs, fInt, fMax2, fMin2, gTupF, gsCons, gsNil, D.pure, D.pures, Bool.not_true, Bool.not_false, Bool.and_true, Bool.true_and, Bool.and_false, Bool.false_and, Option.bind_some, Option.bind_none, Option.map_some, Option.map_none, bind_ite, map_ite, List.map_cons, List.map_nil, List.replicate, List.cons_append, List.nil_append, List.append_nil, List.getElem?_cons_zero, List.getElem?_cons_succ, List.set_cons_zero, List.set_cons_succ, List.length_cons, List.length_nil, Nat.reduceAdd, Nat.reduceLT, Nat.zero_add, Nat.lt_add_one, if_true, if_false, ite_true, ite_false, decide_eq_true_eq, Bool.false_eq_true, reduceCtorEq, reduceIte, Nat.reduceLeDiff, Nat.reduceEqDiff, dIx_vec, q1, q2, pure_fr, lsub_eq (hq _ (List.mem_of_getElem? q1)).den (hr _ (List.mem_of_getElem? q2)).den], by simp only [val_fnF, zsF_eq, fzAt, D.fz, wpE, mgE, List.contains_cons, List.contains_nil, Nat.reduceBEq, Bool.or_false, Bool.or_true, Bool.false_or, Bool.true_or, seqF_eq, andThen_nx, andThen_bk, andThen_ct, andThen_rt, retV_rt, retV_nx, nxF, bkF, ctF, rtF, rnF, rmF, stF, exF, put, parF, agF, ifS, forF_eq, flF_nil, flF_cons, flK_nx, flK_ct, flK_bk, flK_rt, tbF, ttF, andF, orF, notF, andV, orV, ifF, chF, b1, b2, bN, clF_val, aNil, aCons, nmF, ownF, cF, fzF, itF, inF, itOf, rng1, rng2, yesF, dTru, dNot, I.isi_non_tuple, I.isi_non_list, I.isi_non_bool, I.isi_non_int, I.isi_non_str, I.isi_bl_tuple, I.isi_bl_list, I.isi_bl_bool, I.isi_bl_int, I.isi_bl_str, I.isi_int_tuple, I.isi_int_list, I.isi_int_bool, I.isi_int_int, I.isi_int_str, I.isi_str_tuple, I.isi_str_list, I.isi_str_bool, I.isi_str_int, I.isi_str_str, I.isi_tup_tuple, I.isi_tup_list, I.isi_tup_bool, I.isi_tup_int, I.isi_tup_str, I.isi_lst_tuple, I.isi_lst_list, I.isi_lst_bool, I.isi_lst_int, I.isi_lst_str, I.isi_scr_tuple, I.isi_scr_list, I.isi_scr_bool, I.isi_scr_int, I.isi_scr_str, dEq_bl, dNe_bl, dIsN_non, dIsN_bl, dIsN_int, dIsN_str, dIsN_tup, dIsN_lst, dAdd_int, dSub_int, dEq_int, dNe_int, dLt_int, dLe_int, dGt_int, dGe_int, dAddI_int, asB_bl, dIx_tup0, dIx_tup1, fLen, fAbs, fInt, fMax2, fMin2, gTupF, gsCons, gsNil, D.pure, D.pures, Bool.not_true, Bool.not_false, Bool.and_true, Bool.true_and, Bool.and_false, Bool.false_and, Option.bind_some, Option.bind_none, Option.map_some, Option.map_none, bind_ite, map_ite, List.map_cons, List.map_nil, List.replicate, List.cons_append, List.nil_append, List.append_nil, List.getElem?_cons_zero, List.getElem?_cons_succ, List.set_cons_zero, List.set_cons_succ, List.length_cons, List.length_nil, Nat.reduceAdd, Nat.reduceLT, Nat.zero_add, Nat.lt_add_one, if_true, if_false, ite_true, ite_false, decide_eq_true_eq, Bool.false_eq_true, reduceCtorEq, reduceIte, Nat.reduceLeDiff, Nat.reduceEqDiff]⟩
  have e2 : (List.range n).map (fun i => fr (x.getD i 0 - y.getD i 0)) = (List.zipWith (fun a b => a - b) x y).map fr := by
    refine List.ext_getElem (by simp [hx, hy]) fun i h1 h2 => ?_
    simp at h1
    simp only [List.getElem_map, List.getElem_range, List.getElem_zipWith]
    rw [getD_get (by omega), getD_get (by omega)]
  rw [e2] at e
  have ne : List.zipWith (fun a b : Rat => a - b) x y ≠ [] := zw_ne hx hy n0
  have hd := zw_Hq (f := fun a b => a - b) (fun _ _ => Hq.sub) hq hr
  obtain ⟨l, hl⟩ : ∃ l, l = List.zipWith (fun a b : Rat => a - b) x y := ⟨_, rfl⟩
  unfold gap
  rw [← hl] at e ne hd ⊢
  obtain ⟨a, as, rfl⟩ := List.exists_cons_of_ne_nil ne
  have d0 : dIx (.lst false (fr a :: as.map fr)) (.int 0) = some (fr a) := dIx_lstN (k := 0)
  obtain ⟨⟨i1, i2⟩, j, e5⟩ := flF_keep (FT := put 5) (FB := L__law_gap_2) fr (fun (s : Rat × Rat) (j : Option D) => [some (vecD x), some (vecD y), some (.lst false ((a :: as).map fr)), some (fr s.1), some (fr s.2), j, none])
    (fun s q => (if s.1 < q then q else s.1, if q < s.2 then q else s.2)) (fun s => Hq s.1 ∧ Hq s.2) (a :: as) (a, a) none ⟨hd a (by simp), hd a (by simp)⟩
    fun s j q hm hs => ⟨⟨by show Hq (if _ then _ else _); split; exact hd q hm; exact hs.1, by show Hq (if _ then _ else _); split; exact hd q hm; exact hs.2⟩, some (fr q), by
      simp only [L__law_gap_2, val_fnF, zsF_eq, fzAt, D.fz, wpE, mgE, List.contains_cons, List.contains_nil, Nat.reduceBEq, Bool.or_false, Bool.or_true, Bool.false_or, Bool.true_or, seqF_eq, andThen_nx, andThen_bk, andThen_ct, andThen_rt, retV_rt, retV_nx, nxF, bkF, ctF, rtF, rnF, rmF, stF, exF, put, parF, agF, ifS, forF_eq, flF_nil, flF_cons, flK_nx, flK_ct, flK_bk, flK_rt, tbF, ttF, andF, orF, notF, andV, orV, ifF, chF, b1, b2, bN, clF_val, aNil, aCons, nmF, ownF, cF, fzF, itF, inF, itOf, rng1, rng2, yesF, dTru, dNot, I.isi_non_tuple, I.isi_non_list, I.isi_non_bool, I.isi_non_int, I.isi_non_str, I.isi_bl_tuple, I.isi_bl_list, I.isi_bl_bool, I.isi_bl_int, I.isi_bl_str, I.isi_int_tuple, I.isi_int_list, I.isi_int_bool, I.isi_int_int, I.isi_int_str, I.isi_str_tuple, I.isi_str_list, I.isi_str_bool, I.isi_str_int, I.isi_str_str, I.isi_tup_tuple, I.isi_tup_list, I.isi_tup_bool, I.isi_tup_int, I.isi_tup_str, I.isi_lst_tuple, I.isi_lst_list, I.isi_lst_bool, I.isi_lst_int, I.isi_lst_str, I.isi_scr_tuple, I.isi_scr_list, I.isi_scr_bool, I.isi_scr_int, I.isi_scr_str, dEq_bl, dNe_bl, dIsN_non, dIsN_bl, dIsN_int, dIsN_str, dIsN_tup, dIsN_lst, dAdd_int, dSub_int, dEq_int, dNe_int, dLt_int, dLe_int, dGt_int, dGe_int, dAddI_int, asB_bl, dIx_tup0, dIx_tup1, fLen, fAbs, fInt, fMax2, fMin2, gTupF, gsCons, gsNil, D.pure, D.pures, Bool.not_true, Bool.not_false, Bool.and_true, Bool.true_and, Bool.and_false, Bool.false_and, Option.bind_some, Option.bind_none, Option.map_some, Option.map_none, bind_ite, map_ite, List.map_cons, List.map_nil, List.replicate, List.cons_append, List.nil_append, List.append_nil, List.getElem?_cons_zero, List.getElem?_cons_succ, List.set_cons_zero, List.set_cons_succ, List.length_cons, List.length_nil, Nat.reduceAdd, Nat.reduceLT, Nat.zero_add, Nat.lt_add_one, if_true, if_false, ite_true, ite_false, decide_eq_true_eq, Bool.false_eq_true, reduceCtorEq, reduceIte, Nat.reduceLeDiff, Nat.reduceEqDiff, pure_fr, lless_eq hs.1.den (hd q hm).den, lless_eq (hd q hm).den hs.2.den]
      by_cases h1 : s.1 < q <;> by_cases h2 : q < s.2 <;> simp only [h1, h2, decide_true, decide_false, val_fnF, zsF_eq, fzAt, D.fz, wpE, mgE, List.contains_cons, List.contains_nil, Nat.reduceBEq, Bool.or_false, Bool.or_true, Bool.false_or, Bool.true_or, seqF_eq, andThen_nx, andThen_bk, andThen_ct, andThen_rt, retV_rt, retV_nx, nxF, bkF, ctF, rtF, rnF, rmF, stF, exF, put, parF, agF, ifS, forF_eq, flF_nil, flF_cons, flK_nx, flK_ct, flK_bk, flK_rt, tbF, ttF, andF, orF, notF, andV, orV, ifF, chF, b1, b2, bN, clF_val, aNil, aCons, nmF, ownF, cF, fzF, itF, inF, itOf, rng1, rng2, yesF, dTru, dNot, I.isi_non_tuple, I.isi_non_list, I.isi_non_bool, I.isi_non_int, I.isi_non_str, I.isi_bl_tuple, I.isi_bl_list, I.isi_bl_bool, I.isi_bl_int, I.isi_bl_str, I.isi_int_tuple, I.isi_int_list, I.isi_int_bool, I.isi_int_int, I.isi_int_str, I.isi_str_tuple, I.isi_str_list, I.isi_str_bool, I.isi_str_int, I.isi_str_str, I.isi_tup_tuple, I.isi_tup_list, I.isi_tup_bool, I.isi_tup_int, I.isi_tup_str, I.isi_lst_tuple, I.isi_lst_list, I.isi_lst_bool, I.isi_lst_int, I.isi_lst_str, I.isi_scr_tuple, I.isi_scr_list, I.isi_scr_bool, I.isi_scr_int, I.isi_scr_str, dEq_bl, dNe_bl, dIsN_non, dIsN_bl, dIsN_int, dIsN_str, dIsN_tup, dIsN_lst, dAdd_int, dSub_int, dEq_int, dNe_int, dLt_int, dLe_int, dGt_int, dGe_int, dAddI_int, asB_bl, dIx_tup0, dIx_tup1, fLen, fAbs, fInt, fMax2, fMin2, gTupF, gsCons, gsNil, D.pure, D.pures, Bool.not_true, Bool.not_false, Bool.and_true, Bool.true_and, Bool.and_false, Bool.false_and, Option.bind_some, Option.bind_none, Option.map_some, Option.map_none, bind_ite, map_ite, List.map_cons, List.map_nil, List.replicate, List.cons_append, List.nil_append, List.append_nil, List.getElem?_cons_zero, List.getElem?_cons_succ, List.set_cons_zero, List.set_cons_succ, List.length_cons, List.length_nil, Nat.reduceAdd, Nat.reduceLT, Nat.zero_add, Nat.lt_add_one, if_true, if_false, ite_true, ite_false, decide_eq_true_eq, Bool.false_eq_true, reduceCtorEq, reduceIte, Nat.reduceLeDiff, Nat.reduceEqDiff, pure_fr]⟩
  have fo : ∀ (l : List Rat) (f g : Rat), l.foldl (fun (s : Rat × Rat) q => (if s.1 < q then q else s.1, if q < s.2 then q else s.2)) (f, g) = (l.foldl (fun f x => if f < x then x else f) f, l.foldl (fun f x => if x < f then x else f) g) := fun l => by
    induction l with
    | nil => intro f g; rfl
    | cons x l ih => intro f g; simp only [List.foldl_cons, ih]
  rw [fo] at e5 i1 i2
  have em : (a :: as).foldl (fun f x => if f < x then x else f) a = maxQ (a :: as) := rfl
  have en : (a :: as).foldl (fun f x => if x < f then x else f) a = minQ (a :: as) := rfl
  rw [em] at e5 i1
  rw [en] at e5 i2
  have m := lsub_eq i1.den i2.den
  have fz : D.fzs (fr a :: as.map fr) = fr a :: as.map fr := fzs_fr (a :: as)
  have pu : D.pures (fr a :: as.map fr) = true := pures_fr (a :: as)
  simp only [List.map_cons] at e e5
  simp only at m
  simp only [F__law_gap, val_fnF, zsF_eq, fzAt, D.fz, wpE, mgE, List.contains_cons, List.contains_nil, Nat.reduceBEq, Bool.or_false, Bool.or_true, Bool.false_or, Bool.true_or, seqF_eq, andThen_nx, andThen_bk, andThen_ct, andThen_rt, retV_rt, retV_nx, nxF, bkF, ctF, rtF, rnF, rmF, stF, exF, put, parF, agF, ifS, forF_eq, flF_nil, flF_cons, flK_nx, flK_ct, flK_bk, flK_rt, tbF, ttF, andF, orF, notF, andV, orV, ifF, chF, b1, b2, bN, clF_val, aNil, aCons, nmF, ownF, cF, fzF, itF, inF, itOf, rng1, rng2, yesF, dTru, dNot, I.isi_non_tuple, I.isi_non_list, I.isi_non_bool, I.isi_non_int, I.isi_non_str, I.isi_bl_tuple, I.isi_bl_list, I.isi_bl_bool, I.isi_bl_int, I.isi_bl_str, I.isi_int_tuple, I.isi_int_list, I.isi_int_bool, I.isi_int_int, I.isi_int_str, I.isi_str_tuple, I.isi_str_list, I.isi_str_bool, I.isi_str_int, I.isi_str_str, I.isi_tup_tuple, I.isi_tup_list, I.isi_tup_bool, I.isi_tup_int, I.isi_tup_str, I.isi_lst_tuple, I.isi_lst_list, I.isi_lst_bool, I.isi_lst_int, I.isi_lst_str, I.isi_scr_tuple, I.isi_scr_list, I.isi_scr_bool, I.isi_scr_int, I.isi_scr_str, dEq_bl, dNe_bl, dIsN_non, dIsN_bl, dIsN_int, dIsN_str, dIsN_tup, dIsN_lst, dAdd_int, dSub_int, dEq_int, dNe_int, dLt_int, dLe_int, dGt_int, dGe_int, dAddI_int, asB_bl, dIx_tup0, dIx_tup1, fLen, fAbs, fInt, fMax2, fMin2, gTupF, gsCons, gsNil, D.pure, D.pures, Bool.not_true, Bool.not_false, Bool.and_true, Bool.true_and, Bool.and_false, Bool.false_and, Option.bind_some, Option.bind_none, Option.map_some, Option.map_none, bind_ite, map_ite, List.map_cons, List.map_nil, List.replicate, List.cons_append, List.nil_append, List.append_nil, List.getElem?_cons_zero, List.getElem?_cons_succ, List.set_cons_zero, List.set_cons_succ, List.length_cons, List.length_nil, Nat.reduceAdd, Nat.reduceLT, Nat.zero_add, Nat.lt_add_one, if_true, if_false, ite_true, ite_false, decide_eq_true_eq, Bool.false_eq_true, reduceCtorEq, reduceIte, Nat.reduceLeDiff, Nat.reduceEqDiff, e, fz, d0, pure_fr, pures_fr, e5, m]
end
end
end G33

set_option Elab.async false
set_option linter.all false
set_option maxRecDepth 100000
set_option maxHeartbeats 1000000
namespace G33
open PySem L2 Pz
noncomputable section
theorem div3 {r1 r2 : Int} (h1 : 0 ≤ r1 ∧ r1 < 3) (h2 : 0 ≤ r2 ∧ r2 < 2) : (1 + r1 * r2 ∣ 5040) ∧ 0 < 1 + r1 * r2 ∧ 1 + r1 * r2 < 4 := by
  have a : r1 = 0 ∨ r1 = 1 ∨ r1 = 2 := by omega
  have b : r2 = 0 ∨ r2 = 1 := by omega
  rcases a with rfl | rfl | rfl <;> rcases b with rfl | rfl
  · exact ⟨⟨5040, by decide⟩, by decide, by decide⟩
  · exact ⟨⟨5040, by decide⟩, by decide, by decide⟩
  · exact ⟨⟨5040, by decide⟩, by decide, by decide⟩
  · exact ⟨⟨2520, by decide⟩, by decide, by decide⟩
  · exact ⟨⟨5040, by decide⟩, by decide, by decide⟩
  · exact ⟨⟨1680, by decide⟩, by decide, by decide⟩
theorem small9000 {b : Int} (h : 0 < b ∧ b < 4) : b.natAbs < 2 ^ 9000 := Nat.lt_of_lt_of_le (show b.natAbs < 2 ^ 2 by omega) (Nat.pow_le_pow_right (by omega) (by omega))
theorem some_ok {p : D} (hp : Pl p) : ∃ q p', F__law_some [p] = some (fr q, [some p']) ∧ Pl p' ∧ Hq q := by
  obtain ⟨r1, p1, e1, hp1, a1, a2⟩ := draw_ok hp (m := 25) (by omega) (by omega)
  obtain ⟨r2, p2, e2, hp2, b1', b2'⟩ := draw_ok hp1 (m := 3) (by omega) (by omega)
  obtain ⟨r3, p3, e3, hp3, c1, c2⟩ := draw_ok hp2 (m := 2) (by omega) (by omega)
  obtain ⟨d1, d2, d3⟩ := div3 (r1 := r2) (r2 := r3) ⟨b1', b2'⟩ ⟨c1, c2⟩
  have q1 := lendE (k := 0) (e := [some p]) (FE := cF (.int 25)) e1 hp rfl rfl
  have q2 := lendE (k := 0) (e := [some p1]) (FE := cF (.int 3)) e2 hp1 rfl rfl
  have q3 := lendE (k := 0) (e := [some p2]) (FE := cF (.int 2)) e3 hp2 rfl rfl
  simp only [List.set_cons_zero] at q1 q2 q3
  have m := lfrac_eq (a := r1 - 12) (b := 1 + r2 * r3) (by omega) (small9000 ⟨d2, d3⟩)
  refine ⟨_, p3, ?_, hp3, Hq.of (a := r1 - 12) (b := 1 + r2 * r3) (by omega) d1⟩
  simp only [F__law_some, fnF_eq, val_fnF, zsF_eq, fzAt, D.fz, wpE, mgE, List.contains_cons, List.contains_nil, Nat.reduceBEq, Bool.or_false, Bool.or_true, Bool.false_or, Bool.true_or, seqF_eq, andThen_nx, andThen_bk, andThen_ct, andThen_rt, retV_rt, retV_nx, nxF, bkF, ctF, rtF, rnF, rmF, stF, exF, put, parF, agF, ifS, forF_eq, flF_nil, flF_cons, flK_nx, flK_ct, flK_bk, flK_rt, tbF, ttF, andF, orF, notF, andV, orV, ifF, chF, b1, b2, bN, clF_val, aNil, aCons, nmF, ownF, cF, fzF, itF, inF, itOf, rng1, rng2, yesF, dTru, dNot, I.isi_non_tuple, I.isi_non_list, I.isi_non_bool, I.isi_non_int, I.isi_non_str, I.isi_bl_tuple, I.isi_bl_list, I.isi_bl_bool, I.isi_bl_int, I.isi_bl_str, I.isi_int_tuple, I.isi_int_list, I.isi_int_bool, I.isi_int_int, I.isi_int_str, I.isi_str_tuple, I.isi_str_list, I.isi_str_bool, I.isi_str_int, I.isi_str_str, I.isi_tup_tuple, I.isi_tup_list, I.isi_tup_bool, I.isi_tup_int, I.isi_tup_str, I.isi_lst_tuple, I.isi_lst_list, I.isi_lst_bool, I.isi_lst_int, I.isi_lst_str, I.isi_scr_tuple, I.isi_scr_list, I.isi_scr_bool, I.isi_scr_int, I.isi_scr_str, dEq_bl, dNe_bl, dIsN_non, dIsN_bl, dIsN_int, dIsN_str, dIsN_tup, dIsN_lst, dAdd_int, dSub_int, dEq_int, dNe_int, dLt_int, dLe_int, dGt_int, dGe_int, dAddI_int, asB_bl, dIx_tup0, dIx_tup1, fLen, fAbs, fInt, fMax2, fMin2, gTupF, gsCons, gsNil, D.pure, D.pures, Bool.not_true, Bool.not_false, Bool.and_true, Bool.true_and, Bool.and_false, Bool.false_and, Option.bind_some, Option.bind_none, Option.map_some, Option.map_none, bind_ite, map_ite, List.map_cons, List.map_nil, List.replicate, List.cons_append, List.nil_append, List.append_nil, List.getElem?_cons_zero, List.getElem?_cons_succ, List.set_cons_zero, List.set_cons_succ, List.length_cons, List.length_nil, Nat.reduceAdd, Nat.reduceLT, Nat.zero_add, Nat.lt_add_one, if_true, if_false, ite_true, ite_false, decide_eq_true_eq, Bool.false_eq_true, reduceCtorEq, reduceIte, Nat.reduceLeDiff, Nat.reduceEqDiff, q1, q2, q3, dMul, mulOk_r (show r3.natAbs < 2 ^ 64 by omega), m, fnO_rt, List.take_succ_cons, List.take_zero]
/-! a drawn cloud of points -/
def pairD (x : Int × Bool) : D := .tup [.int x.1, .int (1 + (if x.2 then 1 else 0))]
theorem pure_pair (x : Int × Bool) : (pairD x).pure = true := by simp [pairD, D.pure, D.pures]
theorem fz_pair (x : Int × Bool) : (pairD x).fz = pairD x := by simp [pairD, D.fz, D.fzs]
theorem pures_pair (l : List (Int × Bool)) : D.pures (l.map pairD) = true := by rw [D.pures_all]; simp [pure_pair]
theorem fzs_pair (l : List (Int × Bool)) : D.fzs (l.map pairD) = l.map pairD := by
  rw [D.fzs_map, List.map_map]; exact List.map_congr_left fun t _ => fz_pair t
def rawD (l : List (Int × Bool)) : D := .tup (l.map pairD)
theorem pure_raw (l : List (Int × Bool)) : (rawD l).pure = true := by simpa [rawD, D.pure] using pures_pair l
theorem fz_raw (l : List (Int × Bool)) : (rawD l).fz = rawD l := by simp [rawD, D.fz, fzs_pair]
theorem fzs_raw (l : List (List (Int × Bool))) : D.fzs (l.map rawD) = l.map rawD := by
  rw [D.fzs_map, List.map_map]; exact List.map_congr_left fun t _ => fz_raw t
def valP (x : Int × Bool) : Rat := Rat.divInt x.1 (1 + (if x.2 then 1 else 0))
theorem valP_ok (x : Int × Bool) : val F__law_frac [.int x.1, .int (1 + (if x.2 then 1 else 0))] = some (fr (valP x)) ∧ Hq (valP x) := by
  obtain ⟨a, b⟩ := x
  cases b
  · exact ⟨lfrac_eq (by simp) (small9000 (by simp)), Hq.of (by simp) (by simp)⟩
  · exact ⟨lfrac_eq (by simp) (small9000 (by simp)), Hq.of (by simp) ⟨2520, by simp⟩⟩
theorem fInt_bl' {b : Bool} : fInt [.bl b] = some (.int (if b then 1 else 0)) := by cases b <;> rfl
theorem cloud_row {p m f i : D} {n : Nat} (hn : n ≤ 1000) (hp : Pl p) : ∃ (p' : D) (l : List (Int × Bool)), lcF [5] (inF rng1 (aCons (nmO 1) aNil)) (put 5) yesF E__law_cloud_1 [some p, some (.int n), some m, some f, some i, none, none, none] = some (.lst true (l.map pairD), [some p', some (.int n), some m, some f, some i, none, none, none]) ∧ Pl p' ∧ l.length = n := by
  obtain ⟨acc, e, h1, p', l, rfl, rfl, hp', hl⟩ := lcF_rem (vs := [5]) (FI := inF rng1 (aCons (nmO 1) aNil)) (FT := put 5) (FE := E__law_cloud_1) (env := [some p, some (.int n), some m, some f, some i, none, none, none]) (env' := [some p, some (.int n), some m, some f, some i, none, none, none])
    (fun i : Nat => D.int (i : Int)) (fun ys acc e => ∃ (p' : D) (l : List (Int × Bool)), e = [some p', some (.int n), some m, some f, some i, none, none, none] ∧ acc = l.map pairD ∧ Pl p' ∧ l.length + ys.length = n) (List.range n) (by
      simp only [val_fnF, zsF_eq, fzAt, D.fz, wpE, mgE, List.contains_cons, List.contains_nil, Nat.reduceBEq, Bool.or_false, Bool.or_true, Bool.false_or, Bool.true_or, seqF_eq, andThen_nx, andThen_bk, andThen_ct, andThen_rt, retV_rt, retV_nx, nxF, bkF, ctF, rtF, rnF, rmF, stF, exF, put, parF, agF, ifS, forF_eq, flF_nil, flF_cons, flK_nx, flK_ct, flK_bk, flK_rt, tbF, ttF, andF, orF, notF, andV, orV, ifF, chF, b1, b2, bN, clF_val, aNil, aCons, nmF, ownF, cF, fzF, itF, inF, itOf, rng1, rng2, yesF, dTru, dNot, I.isi_non_tuple, I.isi_non_list, I.isi_non_bool, I.isi_non_int, I.isi_non_str, I.isi_bl_tuple, I.isi_bl_list, I.isi_bl_bool, I.isi_bl_int, I.isi_bl_str, I.isi_int_tuple, I.isi_int_list, I.isi_int_bool, I.isi_int_int, I.isi_int_str, I.isi_str_tuple, I.isi_str_list, I.isi_str_bool, I.isi_str_int, I.isi_str_str, I.isi_tup_tuple, I.isi_tup_list, I.isi_tup_bool, I.isi_tup_int, I.isi_tup_str, I.isi_lst_tuple, I.isi_lst_list, I.isi_lst_bool, I.isi_lst_int, I.isi_lst_str, I.isi_scr_tuple, I.isi_scr_list, I.isi_scr_bool, I.isi_scr_int, I.isi_scr_str, dEq_bl, dNe_bl, dIsN_non, dIsN_bl, dIsN_int, dIsN_str, dIsN_tup, dIsN_lst, dAdd_int, dSub_int, dEq_int, dNe_int, dLt_int, dLe_int, dGt_int, dGe_int, dAddI_int, asB_bl, dIx_tup0, dIx_tup1, fLen, fAbs, fInt, fMax2, fMin2, gTupF, gsCons, gsNil, D.pure, D.pures, Bool.not_true, Bool.not_false, Bool.and_true, Bool.true_and, Bool.and_false, Bool.false_and, Option.bind_some, Option.bind_none, Option.map_some, Option.map_none, bind_ite, map_ite, List.map_cons, List.map_nil, List.replicate, List.cons_append, List.nil_append, List.append_nil, List.getElem?_cons_zero, List.getElem?_cons_succ, List.set_cons_zero, List.set_cons_succ, List.length_cons, List.length_nil, Nat.reduceAdd, Nat.reduceLT, Nat.zero_add, Nat.lt_add_one, if_true, if_false, ite_true, ite_false, decide_eq_true_eq, Bool.false_eq_true, reduceCtorEq, reduceIte, Nat.reduceLeDiff, Nat.reduceEqDiff, rg_of (show n ≤ 1000000 by omega), Int.toNat_natCast]) (by simp; omega) (by simp [okE]) ⟨p, [], by simp only [val_fnF, zsF_eq, fzAt, D.fz, wpE, mgE, List.contains_cons, List.contains_nil, Nat.reduceBEq, Bool.or_false, Bool.or_true, Bool.false_or, Bool.true_or, seqF_eq, andThen_nx, andThen_bk, andThen_ct, andThen_rt, retV_rt, retV_nx, nxF, bkF, ctF, rtF, rnF, rmF, stF, exF, put, parF, agF, ifS, forF_eq, flF_nil, flF_cons, flK_nx, flK_ct, flK_bk, flK_rt, tbF, ttF, andF, orF, notF, andV, orV, ifF, chF, b1, b2, bN, clF_val, aNil, aCons, nmF, ownF, cF, fzF, itF, inF, itOf, rng1, rng2, yesF, dTru, dNot, I.isi_non_tuple, I.isi_non_list, I.isi_non_bool, I.isi_non_int, I.isi_non_str, I.isi_bl_tuple, I.isi_bl_list, I.isi_bl_bool, I.isi_bl_int, I.isi_bl_str, I.isi_int_tuple, I.isi_int_list, I.isi_int_bool, I.isi_int_int, I.isi_int_str, I.isi_str_tuple, I.isi_str_list, I.isi_str_bool, I.isi_str_int, I.isi_str_str, I.isi_tup_tuple, I.isi_tup_list, I.isi_tup_bool, I.isi_tup_int, I.isi_tup_str, I.isi_lst_tuple, I.isi_lst_list, I.isi_lst_bool, I.isi_lst_int, I.isi_lst_str, I.isi_scr_tuple, I.isi_scr_list, I.isi_scr_bool, I.isi_scr_int, I.isi_scr_str, dEq_bl, dNe_bl, dIsN_non, dIsN_bl, dIsN_int, dIsN_str, dIsN_tup, dIsN_lst, dAdd_int, dSub_int, dEq_int, dNe_int, dLt_int, dLe_int, dGt_int, dGe_int, dAddI_int, asB_bl, dIx_tup0, dIx_tup1, fLen, fAbs, fInt, fMax2, fMin2, gTupF, gsCons, gsNil, D.pure, D.pures, Bool.not_true, Bool.not_false, Bool.and_true, Bool.true_and, Bool.and_false, Bool.false_and, Option.bind_some, Option.bind_none, Option.map_some, Option.map_none, bind_ite, map_ite, List.map_cons, List.map_nil, List.replicate, List.cons_append, List.nil_append, List.append_nil, List.getElem?_cons_zero, List.getElem?_cons_succ, List.set_cons_zero, List.set_cons_succ, List.length_cons, List.length_nil, Nat.reduceAdd, Nat.reduceLT, Nat.zero_add, Nat.lt_add_one, if_true, if_false, ite_true, ite_false, decide_eq_true_eq, Bool.false_eq_true, reduceCtorEq, reduceIte, Nat.reduceLeDiff, Nat.reduceEqDiff], rfl, hp, by simp⟩
    fun y zs acc e ⟨p', l, he, ha, hp', hl⟩ => by
      subst he ha
      obtain ⟨r1, p1, e1, hp1, a1, a2⟩ := draw_ok hp' (m := 9) (by omega) (by omega)
      obtain ⟨r2, p2, e2, hp2, c1, c2⟩ := draw_ok hp1 (m := 5) (by omega) (by omega)
      have q1 := lendE (k := 0) (e := [some p', some (.int n), some m, some f, some i, some (.int y), none, none]) (FE := cF (.int 9)) e1 hp' rfl rfl
      have q2 := lendE (k := 0) (e := [some p1, some (.int n), some m, some f, some i, some (.int y), none, none]) (FE := cF (.int 5)) e2 hp1 rfl rfl
      simp only [List.set_cons_zero] at q1 q2
      have tt : dTup [.int (r1 - 4), .int (1 + (if decide (r2 = 0) = true then 1 else 0))] = some (pairD (r1 - 4, decide (r2 = 0))) := dTup_le (by simp)
      refine ⟨[some p', some (.int n), some m, some f, some i, some (.int y), none, none], pairD (r1 - 4, decide (r2 = 0)), [some p2, some (.int n), some m, some f, some i, some (.int y), none, none], by simp only [val_fnF, zsF_eq, fzAt, D.fz, wpE, mgE, List.contains_cons, List.contains_nil, Nat.reduceBEq, Bool.or_false, Bool.or_true, Bool.false_or, Bool.true_or, seqF_eq, andThen_nx, andThen_bk, andThen_ct, andThen_rt, retV_rt, retV_nx, nxF, bkF, ctF, rtF, rnF, rmF, stF, exF, put, parF, agF, ifS, forF_eq, flF_nil, flF_cons, flK_nx, flK_ct, flK_bk, flK_rt, tbF, ttF, andF, orF, notF, andV, orV, ifF, chF, b1, b2, bN, clF_val, aNil, aCons, nmF, ownF, cF, fzF, itF, inF, itOf, rng1, rng2, yesF, dTru, dNot, I.isi_non_tuple, I.isi_non_list, I.isi_non_bool, I.isi_non_int, I.isi_non_str, I.isi_bl_tuple, I.isi_bl_list, I.isi_bl_bool, I.isi_bl_int, I.isi_bl_str, I.isi_int_tuple, I.isi_int_list, I.isi_int_bool, I.isi_int_int, I.isi_int_str, I.isi_str_tuple, I.isi_str_list, I.isi_str_bool, I.isi_str_int, I.isi_str_str, I.isi_tup_tuple, I.isi_tup_list, I.isi_tup_bool, I.isi_tup_int, I.isi_tup_str, I.isi_lst_tuple, I.isi_lst_list, I.isi_lst_bool, I.isi_lst_int, I.isi_lst_str, I.isi_scr_tuple, I.isi_scr_list, I.isi_scr_bool, I.isi_scr_int, I.isi_scr_str, dEq_bl, dNe_bl, dIsN_non, dIsN_bl, dIsN_int, dIsN_str, dIsN_tup, dIsN_lst, dAdd_int, dSub_int, dEq_int, dNe_int, dLt_int, dLe_int, dGt_int, dGe_int, dAddI_int, asB_bl, dIx_tup0, dIx_tup1, fLen, fAbs, fInt, fMax2, fMin2, gTupF, gsCons, gsNil, D.pure, D.pures, Bool.not_true, Bool.not_false, Bool.and_true, Bool.true_and, Bool.and_false, Bool.false_and, Option.bind_some, Option.bind_none, Option.map_some, Option.map_none, bind_ite, map_ite, List.map_cons, List.map_nil, List.replicate, List.cons_append, List.nil_append, List.append_nil, List.getElem?_cons_zero, List.getElem?_cons_succ, List.set_cons_zero, List.set_cons_succ, List.length_cons, List.length_nil, Nat.reduceAdd, Nat.reduceLT, Nat.zero_add, Nat.lt_add_one, if_true, if_false, ite_true, ite_false, decide_eq_true_eq, Bool.false_eq_true, reduceCtorEq, reduceIte, Nat.reduceLeDiff, Nat.reduceEqDiff], ?_, p2, l ++ [(r1 - 4, decide (r2 = 0))], by simp only [val_fnF, zsF_eq, fzAt, D.fz, wpE, mgE, List.contains_cons, List.contains_nil, Nat.reduceBEq, Bool.or_false, Bool.or_true, Bool.false_or, Bool.true_or, seqF_eq, andThen_nx, andThen_bk, andThen_ct, andThen_rt, retV_rt, retV_nx, nxF, bkF, ctF, rtF, rnF, rmF, stF, exF, put, parF, agF, ifS, forF_eq, flF_nil, flF_cons, flK_nx, flK_ct, flK_bk, flK_rt, tbF, ttF, andF, orF, notF, andV, orV, ifF, chF, b1, b2, bN, clF_val, aNil, aCons, nmF, ownF, cF, fzF, itF, inF, itOf, rng1, rng2, yesF, dTru, dNot, I.isi_non_tuple, I.isi_non_list, I.isi_non_bool, I.isi_non_int, I.isi_non_str, I.isi_bl_tuple, I.isi_bl_list, I.isi_bl_bool, I.isi_bl_int, I.isi_bl_str, I.isi_int_tuple, I.isi_int_list, I.isi_int_bool, I.isi_int_int, I.isi_int_str, I.isi_str_tuple, I.isi_str_list, I.isi_str_bool, I.isi_str_int, I.isi_str_str, I.isi_tup_tuple, I.isi_tup_list, I.isi_tup_bool, I.isi_tup_int, I.isi_tup_str, I.isi_lst_tuple, I.isi_lst_list, I.isi_lst_bool, I.isi_lst_int, I.isi_lst_str, I.isi_scr_tuple, I.isi_scr_list, I.isi_scr_bool, I.isi_scr_int, I.isi_scr_str, dEq_bl, dNe_bl, dIsN_non, dIsN_bl, dIsN_int, dIsN_str, dIsN_tup, dIsN_lst, dAdd_int, dSub_int, dEq_int, dNe_int, dLt_int, dLe_int, dGt_int, dGe_int, dAddI_int, asB_bl, dIx_tup0, dIx_tup1, fLen, fAbs, fInt, fMax2, fMin2, gTupF, gsCons, gsNil, D.pure, D.pures, Bool.not_true, Bool.not_false, Bool.and_true, Bool.true_and, Bool.and_false, Bool.false_and, Option.bind_some, Option.bind_none, Option.map_some, Option.map_none, bind_ite, map_ite, List.map_cons, List.map_nil, List.replicate, List.cons_append, List.nil_append, List.append_nil, List.getElem?_cons_zero, List.getElem?_cons_succ, List.set_cons_zero, List.set_cons_succ, List.length_cons, List.length_nil, Nat.reduceAdd, Nat.reduceLT, Nat.zero_add, Nat.lt_add_one, if_true, if_false, ite_true, ite_false, decide_eq_true_eq, Bool.false_eq_true, reduceCtorEq, reduceIte, Nat.reduceLeDiff, Nat.reduceEqDiff], by simp, hp2, by simp at hl ⊢; omega⟩
      simp only [decide_eq_true_eq] at tt
      simp only [E__law_cloud_1, val_fnF, zsF_eq, fzAt, D.fz, wpE, mgE, List.contains_cons, List.contains_nil, Nat.reduceBEq, Bool.or_false, Bool.or_true, Bool.false_or, Bool.true_or, seqF_eq, andThen_nx, andThen_bk, andThen_ct, andThen_rt, retV_rt, retV_nx, nxF, bkF, ctF, rtF, rnF, rmF, stF, exF, put, parF, agF, ifS, forF_eq, flF_nil, flF_cons, flK_nx, flK_ct, flK_bk, flK_rt, tbF, ttF, andF, orF, notF, andV, orV, ifF, chF, b1, b2, bN, clF_val, aNil, aCons, nmF, ownF, cF, fzF, itF, inF, itOf, rng1, rng2, yesF, dTru, dNot, I.isi_non_tuple, I.isi_non_list, I.isi_non_bool, I.isi_non_int, I.isi_non_str, I.isi_bl_tuple, I.isi_bl_list, I.isi_bl_bool, I.isi_bl_int, I.isi_bl_str, I.isi_int_tuple, I.isi_int_list, I.isi_int_bool, I.isi_int_int, I.isi_int_str, I.isi_str_tuple, I.isi_str_list, I.isi_str_bool, I.isi_str_int, I.isi_str_str, I.isi_tup_tuple, I.isi_tup_list, I.isi_tup_bool, I.isi_tup_int, I.isi_tup_str, I.isi_lst_tuple, I.isi_lst_list, I.isi_lst_bool, I.isi_lst_int, I.isi_lst_str, I.isi_scr_tuple, I.isi_scr_list, I.isi_scr_bool, I.isi_scr_int, I.isi_scr_str, dEq_bl, dNe_bl, dIsN_non, dIsN_bl, dIsN_int, dIsN_str, dIsN_tup, dIsN_lst, dAdd_int, dSub_int, dEq_int, dNe_int, dLt_int, dLe_int, dGt_int, dGe_int, dAddI_int, asB_bl, dIx_tup0, dIx_tup1, fLen, fAbs, fInt, fMax2, fMin2, gTupF, gsCons, gsNil, D.pure, D.pures, Bool.not_true, Bool.not_false, Bool.and_true, Bool.true_and, Bool.and_false, Bool.false_and, Option.bind_some, Option.bind_none, Option.map_some, Option.map_none, bind_ite, map_ite, List.map_cons, List.map_nil, List.replicate, List.cons_append, List.nil_append, List.append_nil, List.getElem?_cons_zero, List.getElem?_cons_succ, List.set_cons_zero, List.set_cons_succ, List.length_cons, List.length_nil, Nat.reduceAdd, Nat.reduceLT, Nat.zero_add, Nat.lt_add_one, if_true, if_false, ite_true, ite_false, decide_eq_true_eq, Bool.false_eq_true, reduceCtorEq, reduceIte, Nat.reduceLeDiff, Nat.reduceEqDiff, q1, q2, fInt_bl', tt]
  refine ⟨p', l, ?_, hp', by simpa using hl⟩
  rw [h1]
  simp only [val_fnF, zsF_eq, fzAt, D.fz, wpE, mgE, List.contains_cons, List.contains_nil, Nat.reduceBEq, Bool.or_false, Bool.or_true, Bool.false_or, Bool.true_or, seqF_eq, andThen_nx, andThen_bk, andThen_ct, andThen_rt, retV_rt, retV_nx, nxF, bkF, ctF, rtF, rnF, rmF, stF, exF, put, parF, agF, ifS, forF_eq, flF_nil, flF_cons, flK_nx, flK_ct, flK_bk, flK_rt, tbF, ttF, andF, orF, notF, andV, orV, ifF, chF, b1, b2, bN, clF_val, aNil, aCons, nmF, ownF, cF, fzF, itF, inF, itOf, rng1, rng2, yesF, dTru, dNot, I.isi_non_tuple, I.isi_non_list, I.isi_non_bool, I.isi_non_int, I.isi_non_str, I.isi_bl_tuple, I.isi_bl_list, I.isi_bl_bool, I.isi_bl_int, I.isi_bl_str, I.isi_int_tuple, I.isi_int_list, I.isi_int_bool, I.isi_int_int, I.isi_int_str, I.isi_str_tuple, I.isi_str_list, I.isi_str_bool, I.isi_str_int, I.isi_str_str, I.isi_tup_tuple, I.isi_tup_list, I.isi_tup_bool, I.isi_tup_int, I.isi_tup_str, I.isi_lst_tuple, I.isi_lst_list, I.isi_lst_bool, I.isi_lst_int, I.isi_lst_str, I.isi_scr_tuple, I.isi_scr_list, I.isi_scr_bool, I.isi_scr_int, I.isi_scr_str, dEq_bl, dNe_bl, dIsN_non, dIsN_bl, dIsN_int, dIsN_str, dIsN_tup, dIsN_lst, dAdd_int, dSub_int, dEq_int, dNe_int, dLt_int, dLe_int, dGt_int, dGe_int, dAddI_int, asB_bl, dIx_tup0, dIx_tup1, fLen, fAbs, fInt, fMax2, fMin2, gTupF, gsCons, gsNil, D.pure, D.pures, Bool.not_true, Bool.not_false, Bool.and_true, Bool.true_and, Bool.and_false, Bool.false_and, Option.bind_some, Option.bind_none, Option.map_some, Option.map_none, bind_ite, map_ite, List.map_cons, List.map_nil, List.replicate, List.cons_append, List.nil_append, List.append_nil, List.getElem?_cons_zero, List.getElem?_cons_succ, List.set_cons_zero, List.set_cons_succ, List.length_cons, List.length_nil, Nat.reduceAdd, Nat.reduceLT, Nat.zero_add, Nat.lt_add_one, if_true, if_false, ite_true, ite_false, decide_eq_true_eq, Bool.false_eq_true, reduceCtorEq, reduceIte, Nat.reduceLeDiff, Nat.reduceEqDiff]
theorem cloud_ok {p : D} {n : Nat} (hn : n ≤ 1000) (hp : Pl p) : ∃ (P : List (List Rat)) (p' : D), F__law_cloud [p, .int n, .int 5] = some (.lst true (P.map vecD), [some p', some (.int n), some (.int 5)]) ∧ Pl p' ∧ Pts n P ∧ 0 < P.length ∧ P.length ≤ 5 := by
  obtain ⟨r, p1, e1, hp1, r0, r1⟩ := draw_ok hp (m := 5) (by omega) (by omega)
  obtain ⟨k, rfl⟩ : ∃ j : Nat, r = j := ⟨r.toNat, by omega⟩
  have z : dLst [] = some (.lst true []) := dLst_le (by simp)
  have q1 := lendE (k := 0) (e := [some p, some (.int n), some (.int 5), some (.lst true []), none, none, none, none]) (FE := nmO 2) e1 hp rfl (by simp only [val_fnF, zsF_eq, fzAt, D.fz, wpE, mgE, List.contains_cons, List.contains_nil, Nat.reduceBEq, Bool.or_false, Bool.or_true, Bool.false_or, Bool.true_or, seqF_eq, andThen_nx, andThen_bk, andThen_ct, andThen_rt, retV_rt, retV_nx, nxF, bkF, ctF, rtF, rnF, rmF, stF, exF, put, parF, agF, ifS, forF_eq, flF_nil, flF_cons, flK_nx, flK_ct, flK_bk, flK_rt, tbF, ttF, andF, orF, notF, andV, orV, ifF, chF, b1, b2, bN, clF_val, aNil, aCons, nmF, ownF, cF, fzF, itF, inF, itOf, rng1, rng2, yesF, dTru, dNot, I.isi_non_tuple, I.isi_non_list, I.isi_non_bool, I.isi_non_int, I.isi_non_str, I.isi_bl_tuple, I.isi_bl_list, I.isi_bl_bool, I.isi_bl_int, I.isi_bl_str, I.isi_int_tuple, I.isi_int_list, I.isi_int_bool, I.isi_int_int, I.isi_int_str, I.isi_str_tuple, I.isi_str_list, I.isi_str_bool, I.isi_str_int, I.isi_str_str, I.isi_tup_tuple, I.isi_tup_list, I.isi_tup_bool, I.isi_tup_int, I.isi_tup_str, I.isi_lst_tuple, I.isi_lst_list, I.isi_lst_bool, I.isi_lst_int, I.isi_lst_str, I.isi_scr_tuple, I.isi_scr_list, I.isi_scr_bool, I.isi_scr_int, I.isi_scr_str, dEq_bl, dNe_bl, dIsN_non, dIsN_bl, dIsN_int, dIsN_str, dIsN_tup, dIsN_lst, dAdd_int, dSub_int, dEq_int, dNe_int, dLt_int, dLe_int, dGt_int, dGe_int, dAddI_int, asB_bl, dIx_tup0, dIx_tup1, fLen, fAbs, fInt, fMax2, fMin2, gTupF, gsCons, gsNil, D.pure, D.pures, Bool.not_true, Bool.not_false, Bool.and_true, Bool.true_and, Bool.and_false, Bool.false_and, Option.bind_some, Option.bind_none, Option.map_some, Option.map_none, bind_ite, map_ite, List.map_cons, List.map_nil, List.replicate, List.cons_append, List.nil_append, List.append_nil, List.getElem?_cons_zero, List.getElem?_cons_succ, List.set_cons_zero, List.set_cons_succ, List.length_cons, List.length_nil, Nat.reduceAdd, Nat.reduceLT, Nat.zero_add, Nat.lt_add_one, if_true, if_false, ite_true, ite_false, decide_eq_true_eq, Bool.false_eq_true, reduceCtorEq, reduceIte, Nat.reduceLeDiff, Nat.reduceEqDiff])
  simp only [List.set_cons_zero] at q1
  have ek : (1 : Int) + (k : Int) = ((1 + k : Nat) : Int) := by omega
  obtain ⟨e, h1, p', R, i, rfl, hp', hR, hl⟩ := flF_rel (FT := put 4) (FB := L__law_cloud_2) (fun i : Nat => D.int (i : Int))
    (fun ys e => ∃ (p' : D) (R : List (List (Int × Bool))) (i : Option D), e = [some p', some (.int n), some (.int 5), some (.lst true (R.map rawD)), i, none, none, none] ∧ Pl p' ∧ (∀ l ∈ R, l.length = n) ∧ R.length + ys.length = 1 + k) (List.range (1 + k))
    [some p1, some (.int n), some (.int 5), some (.lst true []), none, none, none, none] ⟨p1, [], none, rfl, hp1, by simp, by simp⟩
    fun y zs e ⟨p', R, i, he, hp', hR, hl⟩ => by
      subst he
      simp only [List.length_cons] at hl
      obtain ⟨p2, l, q, hp2, ll⟩ := cloud_row (m := .int 5) (f := .lst true (R.map rawD)) (i := .int y) hn hp'
      have ft : fTuple [.lst true (l.map pairD)] = some (rawD l) := by
        simp only [fTuple, rawD]; rw [if_pos (pures_pair l)]
      refine ⟨_, ?_, p2, R ++ [l], some (.int y), rfl, hp2, fun l' h' => ?_, by simp; omega⟩
      · simp only [L__law_cloud_2, val_fnF, zsF_eq, fzAt, D.fz, wpE, mgE, List.contains_cons, List.contains_nil, Nat.reduceBEq, Bool.or_false, Bool.or_true, Bool.false_or, Bool.true_or, seqF_eq, andThen_nx, andThen_bk, andThen_ct, andThen_rt, retV_rt, retV_nx, nxF, bkF, ctF, rtF, rnF, rmF, stF, exF, put, parF, agF, ifS, forF_eq, flF_nil, flF_cons, flK_nx, flK_ct, flK_bk, flK_rt, tbF, ttF, andF, orF, notF, andV, orV, ifF, chF, b1, b2, bN, clF_val, aNil, aCons, nmF, ownF, cF, fzF, itF, inF, itOf, rng1, rng2, yesF, dTru, dNot, I.isi_non_tuple, I.isi_non_list, I.isi_non_bool, I.isi_non_int, I.isi_non_str, I.isi_bl_tuple, I.isi_bl_list, I.isi_bl_bool, I.isi_bl_int, I.isi_bl_str, I.isi_int_tuple, I.isi_int_list, I.isi_int_bool, I.isi_int_int, I.isi_int_str, I.isi_str_tuple, I.isi_str_list, I.isi_str_bool, I.isi_str_int, I.isi_str_str, I.isi_tup_tuple, I.isi_tup_list, I.isi_tup_bool, I.isi_tup_int, I.isi_tup_str, I.isi_lst_tuple, I.isi_lst_list, I.isi_lst_bool, I.isi_lst_int, I.isi_lst_str, I.isi_scr_tuple, I.isi_scr_list, I.isi_scr_bool, I.isi_scr_int, I.isi_scr_str, dEq_bl, dNe_bl, dIsN_non, dIsN_bl, dIsN_int, dIsN_str, dIsN_tup, dIsN_lst, dAdd_int, dSub_int, dEq_int, dNe_int, dLt_int, dLe_int, dGt_int, dGe_int, dAddI_int, asB_bl, dIx_tup0, dIx_tup1, fLen, fAbs, fInt, fMax2, fMin2, gTupF, gsCons, gsNil, D.pure, D.pures, Bool.not_true, Bool.not_false, Bool.and_true, Bool.true_and, Bool.and_false, Bool.false_and, Option.bind_some, Option.bind_none, Option.map_some, Option.map_none, bind_ite, map_ite, List.map_cons, List.map_nil, List.replicate, List.cons_append, List.nil_append, List.append_nil, List.getElem?_cons_zero, List.getElem?_cons_succ, List.set_cons_zero, List.set_cons_succ, List.length_cons, List.length_nil, Nat.reduceAdd, Nat.reduceLT, Nat.zero_add, Nat.lt_add_one, if_true, if_false, ite_true, ite_false, decide_eq_true_eq, Bool.false_eq_true, reduceCtorEq, reduceIte, Nat.reduceLeDiff, Nat.reduceEqDiff, mtF, isL, q, ft, mAppend, show lineLt (R.map rawD).length = true from tst_of (by simp; omega), List.map_append]
      · rcases List.mem_append.mp h' with w | w
        · exact hR l' w
        · rw [List.mem_singleton.mp w]; exact ll
  have hl' : R.length = 1 + k := by simpa using hl
  have er : ∀ l ∈ R, E__law_cloud_4 [some p', some (.int n), some (.int 5), some (.lst false (R.map rawD)), i, none, some (rawD l), none] = some (vecD (l.map valP), [some p', some (.int n), some (.int 5), some (.lst false (R.map rawD)), i, none, some (rawD l), none]) := fun l hlR => by
    have e := lcF_map (vs := [7]) (FI := itF (nmO 6)) (FT := put 7) (FE := E__law_cloud_3) (env := [some p', some (.int n), some (.int 5), some (.lst false (R.map rawD)), i, none, some (rawD l), none]) (env' := [some p', some (.int n), some (.int 5), some (.lst false (R.map rawD)), i, none, some (rawD l), none])
      pairD (fun x => fr (valP x)) l (by
        simp only [val_fnF, zsF_eq, fzAt, D.fz, wpE, mgE, List.contains_cons, List.contains_nil, Nat.reduceBEq, Bool.or_false, Bool.or_true, Bool.false_or, Bool.true_or, seqF_eq, andThen_nx, andThen_bk, andThen_ct, andThen_rt, retV_rt, retV_nx, nxF, bkF, ctF, rtF, rnF, rmF, stF, exF, put, parF, agF, ifS, forF_eq, flF_nil, flF_cons, flK_nx, flK_ct, flK_bk, flK_rt, tbF, ttF, andF, orF, notF, andV, orV, ifF, chF, b1, b2, bN, clF_val, aNil, aCons, nmF, ownF, cF, fzF, itF, inF, itOf, rng1, rng2, yesF, dTru, dNot, I.isi_non_tuple, I.isi_non_list, I.isi_non_bool, I.isi_non_int, I.isi_non_str, I.isi_bl_tuple, I.isi_bl_list, I.isi_bl_bool, I.isi_bl_int, I.isi_bl_str, I.isi_int_tuple, I.isi_int_list, I.isi_int_bool, I.isi_int_int, I.isi_int_str, I.isi_str_tuple, I.isi_str_list, I.isi_str_bool, I.isi_str_int, I.isi_str_str, I.isi_tup_tuple, I.isi_tup_list, I.isi_tup_bool, I.isi_tup_int, I.isi_tup_str, I.isi_lst_tuple, I.isi_lst_list, I.isi_lst_bool, I.isi_lst_int, I.isi_lst_str, I.isi_scr_tuple, I.isi_scr_list, I.isi_scr_bool, I.isi_scr_int, I.isi_scr_str, dEq_bl, dNe_bl, dIsN_non, dIsN_bl, dIsN_int, dIsN_str, dIsN_tup, dIsN_lst, dAdd_int, dSub_int, dEq_int, dNe_int, dLt_int, dLe_int, dGt_int, dGe_int, dAddI_int, asB_bl, dIx_tup0, dIx_tup1, fLen, fAbs, fInt, fMax2, fMin2, gTupF, gsCons, gsNil, D.pure, D.pures, Bool.not_true, Bool.not_false, Bool.and_true, Bool.true_and, Bool.and_false, Bool.false_and, Option.bind_some, Option.bind_none, Option.map_some, Option.map_none, bind_ite, map_ite, List.map_cons, List.map_nil, List.replicate, List.cons_append, List.nil_append, List.append_nil, List.getElem?_cons_zero, List.getElem?_cons_succ, List.set_cons_zero, List.set_cons_succ, List.length_cons, List.length_nil, Nat.reduceAdd, Nat.reduceLT, Nat.zero_add, Nat.lt_add_one, if_true, if_false, ite_true, ite_false, decide_eq_true_eq, Bool.false_eq_true, reduceCtorEq, reduceIte, Nat.reduceLeDiff, Nat.reduceEqDiff, pure_raw]
        simp only [rawD, fzs_pair, val_fnF, zsF_eq, fzAt, D.fz, wpE, mgE, List.contains_cons, List.contains_nil, Nat.reduceBEq, Bool.or_false, Bool.or_true, Bool.false_or, Bool.true_or, seqF_eq, andThen_nx, andThen_bk, andThen_ct, andThen_rt, retV_rt, retV_nx, nxF, bkF, ctF, rtF, rnF, rmF, stF, exF, put, parF, agF, ifS, forF_eq, flF_nil, flF_cons, flK_nx, flK_ct, flK_bk, flK_rt, tbF, ttF, andF, orF, notF, andV, orV, ifF, chF, b1, b2, bN, clF_val, aNil, aCons, nmF, ownF, cF, fzF, itF, inF, itOf, rng1, rng2, yesF, dTru, dNot, I.isi_non_tuple, I.isi_non_list, I.isi_non_bool, I.isi_non_int, I.isi_non_str, I.isi_bl_tuple, I.isi_bl_list, I.isi_bl_bool, I.isi_bl_int, I.isi_bl_str, I.isi_int_tuple, I.isi_int_list, I.isi_int_bool, I.isi_int_int, I.isi_int_str, I.isi_str_tuple, I.isi_str_list, I.isi_str_bool, I.isi_str_int, I.isi_str_str, I.isi_tup_tuple, I.isi_tup_list, I.isi_tup_bool, I.isi_tup_int, I.isi_tup_str, I.isi_lst_tuple, I.isi_lst_list, I.isi_lst_bool, I.isi_lst_int, I.isi_lst_str, I.isi_scr_tuple, I.isi_scr_list, I.isi_scr_bool, I.isi_scr_int, I.isi_scr_str, dEq_bl, dNe_bl, dIsN_non, dIsN_bl, dIsN_int, dIsN_str, dIsN_tup, dIsN_lst, dAdd_int, dSub_int, dEq_int, dNe_int, dLt_int, dLe_int, dGt_int, dGe_int, dAddI_int, asB_bl, dIx_tup0, dIx_tup1, fLen, fAbs, fInt, fMax2, fMin2, gTupF, gsCons, gsNil, D.pure, D.pures, Bool.not_true, Bool.not_false, Bool.and_true, Bool.true_and, Bool.and_false, Bool.false_and, Option.bind_some, Option.bind_none, Option.map_some, Option.map_none, bind_ite, map_ite, List.map_cons, List.map_nil, List.replicate, List.cons_append, List.nil_append, List.append_nil, List.getElem?_cons_zero, List.getElem?_cons_succ, List.set_cons_zero, List.set_cons_succ, List.length_cons, List.length_nil, Nat.reduceAdd, Nat.reduceLT, Nat.zero_add, Nat.lt_add_one, if_true, if_false, ite_true, ite_false, decide_eq_true_eq, Bool.false_eq_true, reduceCtorEq, reduceIte, Nat.reduceLeDiff, Nat.reduceEqDiff]) (by rw [hR l hlR]; omega) (by cases i <;> simp [okE])
      fun x hx => ⟨[some p', some (.int n), some (.int 5), some (.lst false (R.map rawD)), i, none, some (rawD l), some (pairD x)], [some p', some (.int n), some (.int 5), some (.lst false (R.map rawD)), i, none, some (rawD l), some (pairD x)], by simp only [val_fnF, zsF_eq, fzAt, D.fz, wpE, mgE, List.contains_cons, List.contains_nil, Nat.reduceBEq, Bool.or_false, Bool.or_true, Bool.false_or, Bool.true_or, seqF_eq, andThen_nx, andThen_bk, andThen_ct, andThen_rt, retV_rt, retV_nx, nxF, bkF, ctF, rtF, rnF, rmF, stF, exF, put, parF, agF, ifS, forF_eq, flF_nil, flF_cons, flK_nx, flK_ct, flK_bk, flK_rt, tbF, ttF, andF, orF, notF, andV, orV, ifF, chF, b1, b2, bN, clF_val, aNil, aCons, nmF, ownF, cF, fzF, itF, inF, itOf, rng1, rng2, yesF, dTru, dNot, I.isi_non_tuple, I.isi_non_list, I.isi_non_bool, I.isi_non_int, I.isi_non_str, I.isi_bl_tuple, I.isi_bl_list, I.isi_bl_bool, I.isi_bl_int, I.isi_bl_str, I.isi_int_tuple, I.isi_int_list, I.isi_int_bool, I.isi_int_int, I.isi_int_str, I.isi_str_tuple, I.isi_str_list, I.isi_str_bool, I.isi_str_int, I.isi_str_str, I.isi_tup_tuple, I.isi_tup_list, I.isi_tup_bool, I.isi_tup_int, I.isi_tup_str, I.isi_lst_tuple, I.isi_lst_list, I.isi_lst_bool, I.isi_lst_int, I.isi_lst_str, I.isi_scr_tuple, I.isi_scr_list, I.isi_scr_bool, I.isi_scr_int, I.isi_scr_str, dEq_bl, dNe_bl, dIsN_non, dIsN_bl, dIsN_int, dIsN_str, dIsN_tup, dIsN_lst, dAdd_int, dSub_int, dEq_int, dNe_int, dLt_int, dLe_int, dGt_int, dGe_int, dAddI_int, asB_bl, dIx_tup0, dIx_tup1, fLen, fAbs, fInt, fMax2, fMin2, gTupF, gsCons, gsNil, D.pure, D.pures, Bool.not_true, Bool.not_false, Bool.and_true, Bool.true_and, Bool.and_false, Bool.false_and, Option.bind_some, Option.bind_none, Option.map_some, Option.map_none, bind_ite, map_ite, List.map_cons, List.map_nil, List.replicate, List.cons_append, List.nil_append, List.append_nil, List.getElem?_cons_zero, List.getElem?_cons_succ, List.set_cons_zero, List.set_cons_succ, List.length_cons, List.length_nil, Nat.reduceAdd, Nat.reduceLT, Nat.zero_add, Nat.lt_add_one, if_true, if_false, ite_true, ite_false, decide_eq_true_eq, Bool.false_eq_true, reduceCtorEq, reduceIte, Nat.reduceLeDiff, Nat.reduceEqDiff], by
        have d0 : dIx (pairD x) (.int 0) = some (.int x.1) := dIx_tup0
        have d1 : dIx (pairD x) (.int 1) = some (.int (1 + (if x.2 then 1 else 0))) := dIx_tup1
        simp only [E__law_cloud_3, val_fnF, zsF_eq, fzAt, D.fz, wpE, mgE, List.contains_cons, List.contains_nil, Nat.reduceBEq, Bool.or_false, Bool.or_true, Bool.false_or, Bool.true_or, seqF_eq, andThen_nx, andThen_bk, andThen_ct, andThen_rt, retV_rt, retV_nx, nxF, bkF, ctF, rtF, rnF, rmF, stF, exF, put, parF, agF, ifS, forF_eq, flF_nil, flF_cons, flK_nx, flK_ct, flK_bk, flK_rt, tbF, ttF, andF, orF, notF, andV, orV, ifF, chF, b1, b2, bN, clF_val, aNil, aCons, nmF, ownF, cF, fzF, itF, inF, itOf, rng1, rng2, yesF, dTru, dNot, I.isi_non_tuple, I.isi_non_list, I.isi_non_bool, I.isi_non_int, I.isi_non_str, I.isi_bl_tuple, I.isi_bl_list, I.isi_bl_bool, I.isi_bl_int, I.isi_bl_str, I.isi_int_tuple, I.isi_int_list, I.isi_int_bool, I.isi_int_int, I.isi_int_str, I.isi_str_tuple, I.isi_str_list, I.isi_str_bool, I.isi_str_int, I.isi_str_str, I.isi_tup_tuple, I.isi_tup_list, I.isi_tup_bool, I.isi_tup_int, I.isi_tup_str, I.isi_lst_tuple, I.isi_lst_list, I.isi_lst_bool, I.isi_lst_int, I.isi_lst_str, I.isi_scr_tuple, I.isi_scr_list, I.isi_scr_bool, I.isi_scr_int, I.isi_scr_str, dEq_bl, dNe_bl, dIsN_non, dIsN_bl, dIsN_int, dIsN_str, dIsN_tup, dIsN_lst, dAdd_int, dSub_int, dEq_int, dNe_int, dLt_int, dLe_int, dGt_int, dGe_int, dAddI_int, asB_bl, dIx_tup0, dIx_tup1, fLen, fAbs, fInt, fMax2, fMin2, gTupF, gsCons, gsNil, D.pure, D.pures, Bool.not_true, Bool.not_false, Bool.and_true, Bool.true_and, Bool.and_false, Bool.false_and, Option.bind_some, Option.bind_none, Option.map_some, Option.map_none, bind_ite, map_ite, List.map_cons, List.map_nil, List.replicate, List.cons_append, List.nil_append, List.append_nil, List.getElem?_cons_zero, List.getElem?_cons_succ, List.set_cons_zero, List.set_cons_succ, List.length_cons, List.length_nil, Nat.reduceAdd, Nat.reduceLT, Nat.zero_add, Nat.lt_add_one, if_true, if_false, ite_true, ite_false, decide_eq_true_eq, Bool.false_eq_true, reduceCtorEq, reduceIte, Nat.reduceLeDiff, Nat.reduceEqDiff, d0, d1, (valP_ok x).1], by simp only [val_fnF, zsF_eq, fzAt, D.fz, wpE, mgE, List.contains_cons, List.contains_nil, Nat.reduceBEq, Bool.or_false, Bool.or_true, Bool.false_or, Bool.true_or, seqF_eq, andThen_nx, andThen_bk, andThen_ct, andThen_rt, retV_rt, retV_nx, nxF, bkF, ctF, rtF, rnF, rmF, stF, exF, put, parF, agF, ifS, forF_eq, flF_nil, flF_cons, flK_nx, flK_ct, flK_bk, flK_rt, tbF, ttF, andF, orF, notF, andV, orV, ifF, chF, b1, b2, bN, clF_val, aNil, aCons, nmF, ownF, cF, fzF, itF, inF, itOf, rng1, rng2, yesF, dTru, dNot, I.isi_non_tuple, I.isi_non_list, I.isi_non_bool, I.isi_non_int, I.isi_non_str, I.isi_bl_tuple, I.isi_bl_list, I.isi_bl_bool, I.isi_bl_int, I.isi_bl_str, I.isi_int_tuple, I.isi_int_list, I.isi_int_bool, I.isi_int_int, I.isi_int_str, I.isi_str_tuple, I.isi_str_list, I.isi_str_bool, I.isi_str_int, I.isi_str_str, I.isi_tup_tuple, I.isi_tup_list, I.isi_tup_bool, I.isi_tup_int, I.isi_tup_str, I.isi_lst_tuple, I.isi_lst_list, I.isi_lst_bool, I.isi_lst_int, I.isi_lst_str, I.isi_scr_tuple, I.isi_scr_list, I.isi_scr_bool, I.isi_scr_int, I.isi_scr_str, dEq_bl, dNe_bl, dIsN_non, dIsN_bl, dIsN_int, dIsN_str, dIsN_tup, dIsN_lst, dAdd_int, dSub_int, dEq_int, dNe_int, dLt_int, dLe_int, dGt_int, dGe_int, dAddI_int, asB_bl, dIx_tup0, dIx_tup1, fLen, fAbs, fInt, fMax2, fMin2, gTupF, gsCons, gsNil, D.pure, D.pures, Bool.not_true, Bool.not_false, Bool.and_true, Bool.true_and, Bool.and_false, Bool.false_and, Option.bind_some, Option.bind_none, Option.map_some, Option.map_none, bind_ite, map_ite, List.map_cons, List.map_nil, List.replicate, List.cons_append, List.nil_append, List.append_nil, List.getElem?_cons_zero, List.getElem?_cons_succ, List.set_cons_zero, List.set_cons_succ, List.length_cons, List.length_nil, Nat.reduceAdd, Nat.reduceLT, Nat.zero_add, Nat.lt_add_one, if_true, if_false, ite_true, ite_false, decide_eq_true_eq, Bool.false_eq_true, reduceCtorEq, reduceIte, Nat.reduceLeDiff, Nat.reduceEqDiff]⟩
    have e2 : l.map (fun x => fr (valP x)) = (l.map valP).map fr := by simp
    rw [e2] at e
    simp only [E__law_cloud_4, val_fnF, zsF_eq, fzAt, D.fz, wpE, mgE, List.contains_cons, List.contains_nil, Nat.reduceBEq, Bool.or_false, Bool.or_true, Bool.false_or, Bool.true_or, seqF_eq, andThen_nx, andThen_bk, andThen_ct, andThen_rt, retV_rt, retV_nx, nxF, bkF, ctF, rtF, rnF, rmF, stF, exF, put, parF, agF, ifS, forF_eq, flF_nil, flF_cons, flK_nx, flK_ct, flK_bk, flK_rt, tbF, ttF, andF, orF, notF, andV, orV, ifF, chF, b1, b2, bN, clF_val, aNil, aCons, nmF, ownF, cF, fzF, itF, inF, itOf, rng1, rng2, yesF, dTru, dNot, I.isi_non_tuple, I.isi_non_list, I.isi_non_bool, I.isi_non_int, I.isi_non_str, I.isi_bl_tuple, I.isi_bl_list, I.isi_bl_bool, I.isi_bl_int, I.isi_bl_str, I.isi_int_tuple, I.isi_int_list, I.isi_int_bool, I.isi_int_int, I.isi_int_str, I.isi_str_tuple, I.isi_str_list, I.isi_str_bool, I.isi_str_int, I.isi_str_str, I.isi_tup_tuple, I.isi_tup_list, I.isi_tup_bool, I.isi_tup_int, I.isi_tup_str, I.isi_lst_tuple, I.isi_lst_list, I.isi_lst_bool, I.isi_lst_int, I.isi_lst_str, I.isi_scr_tuple, I.isi_scr_list, I.isi_scr_bool, I.isi_scr_int, I.isi_scr_str, dEq_bl, dNe_bl, dIsN_non, dIsN_bl, dIsN_int, dIsN_str, dIsN_tup, dIsN_lst, dAdd_int, dSub_int, dEq_int, dNe_int, dLt_int, dLe_int, dGt_int, dGe_int, dAddI_int, asB_bl, dIx_tup0, dIx_tup1, fLen, fAbs, fInt, fMax2, fMin2, gTupF, gsCons, gsNil, D.pure, D.pures, Bool.not_true, Bool.not_false, Bool.and_true, Bool.true_and, Bool.and_false, Bool.false_and, Option.bind_some, Option.bind_none, Option.map_some, Option.map_none, bind_ite, map_ite, List.map_cons, List.map_nil, List.replicate, List.cons_append, List.nil_append, List.append_nil, List.getElem?_cons_zero, List.getElem?_cons_succ, List.set_cons_zero, List.set_cons_succ, List.length_cons, List.length_nil, Nat.reduceAdd, Nat.reduceLT, Nat.zero_add, Nat.lt_add_one, if_true, if_false, ite_true, ite_false, decide_eq_true_eq, Bool.false_eq_true, reduceCtorEq, reduceIte, Nat.reduceLeDiff, Nat.reduceEqDiff, e, fTuple, pures_fr]
    rfl
  have e4 := lcF_map (vs := [6]) (FI := itF (fzF 3)) (FT := put 6) (FE := E__law_cloud_4) (env := [some p', some (.int n), some (.int 5), some (.lst true (R.map rawD)), i, none, none, none]) (env' := [some p', some (.int n), some (.int 5), some (.lst false (R.map rawD)), i, none, none, none])
    rawD (fun l => vecD (l.map valP)) R (by simp only [val_fnF, zsF_eq, fzAt, D.fz, wpE, mgE, List.contains_cons, List.contains_nil, Nat.reduceBEq, Bool.or_false, Bool.or_true, Bool.false_or, Bool.true_or, seqF_eq, andThen_nx, andThen_bk, andThen_ct, andThen_rt, retV_rt, retV_nx, nxF, bkF, ctF, rtF, rnF, rmF, stF, exF, put, parF, agF, ifS, forF_eq, flF_nil, flF_cons, flK_nx, flK_ct, flK_bk, flK_rt, tbF, ttF, andF, orF, notF, andV, orV, ifF, chF, b1, b2, bN, clF_val, aNil, aCons, nmF, ownF, cF, fzF, itF, inF, itOf, rng1, rng2, yesF, dTru, dNot, I.isi_non_tuple, I.isi_non_list, I.isi_non_bool, I.isi_non_int, I.isi_non_str, I.isi_bl_tuple, I.isi_bl_list, I.isi_bl_bool, I.isi_bl_int, I.isi_bl_str, I.isi_int_tuple, I.isi_int_list, I.isi_int_bool, I.isi_int_int, I.isi_int_str, I.isi_str_tuple, I.isi_str_list, I.isi_str_bool, I.isi_str_int, I.isi_str_str, I.isi_tup_tuple, I.isi_tup_list, I.isi_tup_bool, I.isi_tup_int, I.isi_tup_str, I.isi_lst_tuple, I.isi_lst_list, I.isi_lst_bool, I.isi_lst_int, I.isi_lst_str, I.isi_scr_tuple, I.isi_scr_list, I.isi_scr_bool, I.isi_scr_int, I.isi_scr_str, dEq_bl, dNe_bl, dIsN_non, dIsN_bl, dIsN_int, dIsN_str, dIsN_tup, dIsN_lst, dAdd_int, dSub_int, dEq_int, dNe_int, dLt_int, dLe_int, dGt_int, dGe_int, dAddI_int, asB_bl, dIx_tup0, dIx_tup1, fLen, fAbs, fInt, fMax2, fMin2, gTupF, gsCons, gsNil, D.pure, D.pures, Bool.not_true, Bool.not_false, Bool.and_true, Bool.true_and, Bool.and_false, Bool.false_and, Option.bind_some, Option.bind_none, Option.map_some, Option.map_none, bind_ite, map_ite, List.map_cons, List.map_nil, List.replicate, List.cons_append, List.nil_append, List.append_nil, List.getElem?_cons_zero, List.getElem?_cons_succ, List.set_cons_zero, List.set_cons_succ, List.length_cons, List.length_nil, Nat.reduceAdd, Nat.reduceLT, Nat.zero_add, Nat.lt_add_one, if_true, if_false, ite_true, ite_false, decide_eq_true_eq, Bool.false_eq_true, reduceCtorEq, reduceIte, Nat.reduceLeDiff, Nat.reduceEqDiff, fzF, fzs_raw]) (by omega) (by cases i <;> simp [okE])
    fun l hlR => ⟨[some p', some (.int n), some (.int 5), some (.lst false (R.map rawD)), i, none, some (rawD l), none], [some p', some (.int n), some (.int 5), some (.lst false (R.map rawD)), i, none, some (rawD l), none], by simp only [val_fnF, zsF_eq, fzAt, D.fz, wpE, mgE, List.contains_cons, List.contains_nil, Nat.reduceBEq, Bool.or_false, Bool.or_true, Bool.false_or, Bool.true_or, seqF_eq, andThen_nx, andThen_bk, andThen_ct, andThen_rt, retV_rt, retV_nx, nxF, bkF, ctF, rtF, rnF, rmF, stF, exF, put, parF, agF, ifS, forF_eq, flF_nil, flF_cons, flK_nx, flK_ct, flK_bk, flK_rt, tbF, ttF, andF, orF, notF, andV, orV, ifF, chF, b1, b2, bN, clF_val, aNil, aCons, nmF, ownF, cF, fzF, itF, inF, itOf, rng1, rng2, yesF, dTru, dNot, I.isi_non_tuple, I.isi_non_list, I.isi_non_bool, I.isi_non_int, I.isi_non_str, I.isi_bl_tuple, I.isi_bl_list, I.isi_bl_bool, I.isi_bl_int, I.isi_bl_str, I.isi_int_tuple, I.isi_int_list, I.isi_int_bool, I.isi_int_int, I.isi_int_str, I.isi_str_tuple, I.isi_str_list, I.isi_str_bool, I.isi_str_int, I.isi_str_str, I.isi_tup_tuple, I.isi_tup_list, I.isi_tup_bool, I.isi_tup_int, I.isi_tup_str, I.isi_lst_tuple, I.isi_lst_list, I.isi_lst_bool, I.isi_lst_int, I.isi_lst_str, I.isi_scr_tuple, I.isi_scr_list, I.isi_scr_bool, I.isi_scr_int, I.isi_scr_str, dEq_bl, dNe_bl, dIsN_non, dIsN_bl, dIsN_int, dIsN_str, dIsN_tup, dIsN_lst, dAdd_int, dSub_int, dEq_int, dNe_int, dLt_int, dLe_int, dGt_int, dGe_int, dAddI_int, asB_bl, dIx_tup0, dIx_tup1, fLen, fAbs, fInt, fMax2, fMin2, gTupF, gsCons, gsNil, D.pure, D.pures, Bool.not_true, Bool.not_false, Bool.and_true, Bool.true_and, Bool.and_false, Bool.false_and, Option.bind_some, Option.bind_none, Option.map_some, Option.map_none, bind_ite, map_ite, List.map_cons, List.map_nil, List.replicate, List.cons_append, List.nil_append, List.append_nil, List.getElem?_cons_zero, List.getElem?_cons_succ, List.set_cons_zero, List.set_cons_succ, List.length_cons, List.length_nil, Nat.reduceAdd, Nat.reduceLT, Nat.zero_add, Nat.lt_add_one, if_true, if_false, ite_true, ite_false, decide_eq_true_eq, Bool.false_eq_true, reduceCtorEq, reduceIte, Nat.reduceLeDiff, Nat.reduceEqDiff], er l hlR, by simp only [val_fnF, zsF_eq, fzAt, D.fz, wpE, mgE, List.contains_cons, List.contains_nil, Nat.reduceBEq, Bool.or_false, Bool.or_true, Bool.false_or, Bool.true_or, seqF_eq, andThen_nx, andThen_bk, andThen_ct, andThen_rt, retV_rt, retV_nx, nxF, bkF, ctF, rtF, rnF, rmF, stF, exF, put, parF, agF, ifS, forF_eq, flF_nil, flF_cons, flK_nx, flK_ct, flK_bk, flK_rt, tbF, ttF, andF, orF, notF, andV, orV, ifF, chF, b1, b2, bN, clF_val, aNil, aCons, nmF, ownF, cF, fzF, itF, inF, itOf, rng1, rng2, yesF, dTru, dNot, I.isi_non_tuple, I.isi_non_list, I.isi_non_bool, I.isi_non_int, I.isi_non_str, I.isi_bl_tuple, I.isi_bl_list, I.isi_bl_bool, I.isi_bl_int, I.isi_bl_str, I.isi_int_tuple, I.isi_int_list, I.isi_int_bool, I.isi_int_int, I.isi_int_str, I.isi_str_tuple, I.isi_str_list, I.isi_str_bool, I.isi_str_int, I.isi_str_str, I.isi_tup_tuple, I.isi_tup_list, I.isi_tup_bool, I.isi_tup_int, I.isi_tup_str, I.isi_lst_tuple, I.isi_lst_list, I.isi_lst_bool, I.isi_lst_int, I.isi_lst_str, I.isi_scr_tuple, I.isi_scr_list, I.isi_scr_bool, I.isi_scr_int, I.isi_scr_str, dEq_bl, dNe_bl, dIsN_non, dIsN_bl, dIsN_int, dIsN_str, dIsN_tup, dIsN_lst, dAdd_int, dSub_int, dEq_int, dNe_int, dLt_int, dLe_int, dGt_int, dGe_int, dAddI_int, asB_bl, dIx_tup0, dIx_tup1, fLen, fAbs, fInt, fMax2, fMin2, gTupF, gsCons, gsNil, D.pure, D.pures, Bool.not_true, Bool.not_false, Bool.and_true, Bool.true_and, Bool.and_false, Bool.false_and, Option.bind_some, Option.bind_none, Option.map_some, Option.map_none, bind_ite, map_ite, List.map_cons, List.map_nil, List.replicate, List.cons_append, List.nil_append, List.append_nil, List.getElem?_cons_zero, List.getElem?_cons_succ, List.set_cons_zero, List.set_cons_succ, List.length_cons, List.length_nil, Nat.reduceAdd, Nat.reduceLT, Nat.zero_add, Nat.lt_add_one, if_true, if_false, ite_true, ite_false, decide_eq_true_eq, Bool.false_eq_true, reduceCtorEq, reduceIte, Nat.reduceLeDiff, Nat.reduceEqDiff]⟩
  have e5 : R.map (fun l => vecD (l.map valP)) = (R.map fun l => l.map valP).map vecD := by simp
  rw [e5] at e4
  refine ⟨R.map fun l => l.map valP, p', ?_, hp', ⟨fun r hr => ?_, by simp; omega, hn⟩, by simp; omega, by simp; omega⟩
  · simp only [F__law_cloud, fnF_eq, val_fnF, zsF_eq, fzAt, D.fz, wpE, mgE, List.contains_cons, List.contains_nil, Nat.reduceBEq, Bool.or_false, Bool.or_true, Bool.false_or, Bool.true_or, seqF_eq, andThen_nx, andThen_bk, andThen_ct, andThen_rt, retV_rt, retV_nx, nxF, bkF, ctF, rtF, rnF, rmF, stF, exF, put, parF, agF, ifS, forF_eq, flF_nil, flF_cons, flK_nx, flK_ct, flK_bk, flK_rt, tbF, ttF, andF, orF, notF, andV, orV, ifF, chF, b1, b2, bN, clF_val, aNil, aCons, nmF, ownF, cF, fzF, itF, inF, itOf, rng1, rng2, yesF, dTru, dNot, I.isi_non_tuple, I.isi_non_list, I.isi_non_bool, I.isi_non_int, I.isi_non_str, I.isi_bl_tuple, I.isi_bl_list, I.isi_bl_bool, I.isi_bl_int, I.isi_bl_str, I.isi_int_tuple, I.isi_int_list, I.isi_int_bool, I.isi_int_int, I.isi_int_str, I.isi_str_tuple, I.isi_str_list, I.isi_str_bool, I.isi_str_int, I.isi_str_str, I.isi_tup_tuple, I.isi_tup_list, I.isi_tup_bool, I.isi_tup_int, I.isi_tup_str, I.isi_lst_tuple, I.isi_lst_list, I.isi_lst_bool, I.isi_lst_int, I.isi_lst_str, I.isi_scr_tuple, I.isi_scr_list, I.isi_scr_bool, I.isi_scr_int, I.isi_scr_str, dEq_bl, dNe_bl, dIsN_non, dIsN_bl, dIsN_int, dIsN_str, dIsN_tup, dIsN_lst, dAdd_int, dSub_int, dEq_int, dNe_int, dLt_int, dLe_int, dGt_int, dGe_int, dAddI_int, asB_bl, dIx_tup0, dIx_tup1, fLen, fAbs, fInt, fMax2, fMin2, gTupF, gsCons, gsNil, D.pure, D.pures, Bool.not_true, Bool.not_false, Bool.and_true, Bool.true_and, Bool.and_false, Bool.false_and, Option.bind_some, Option.bind_none, Option.map_some, Option.map_none, bind_ite, map_ite, List.map_cons, List.map_nil, List.replicate, List.cons_append, List.nil_append, List.append_nil, List.getElem?_cons_zero, List.getElem?_cons_succ, List.set_cons_zero, List.set_cons_succ, List.length_cons, List.length_nil, Nat.reduceAdd, Nat.reduceLT, Nat.zero_add, Nat.lt_add_one, if_true, if_false, ite_true, ite_false, decide_eq_true_eq, Bool.false_eq_true, reduceCtorEq, reduceIte, Nat.reduceLeDiff, Nat.reduceEqDiff, z, q1, ek, rg_of (show 1 + k ≤ 1000000 by omega), Int.toNat_natCast, h1, e4, fnO_rt, List.take_succ_cons, List.take_zero]
  · obtain ⟨l, hlR, rfl⟩ := List.mem_map.mp hr
    refine ⟨by simpa using hR l hlR, fun q hq => ?_⟩
    obtain ⟨x, _, rfl⟩ := List.mem_map.mp hq
    exact (valP_ok x).2
end
end G33

set_option Elab.async false
set_option linter.all false
set_option maxRecDepth 100000
set_option maxHeartbeats 1000000
namespace G33
open PySem L2 Pz
noncomputable section
abbrev EV (a0 a1 a2 a3 a4 a5 a6 a7 a8 a9 a10 a11 a12 a13 a14 a15 a16 a17 a18 a19 : Option D) : En := [a0, a1, a2, a3, a4, a5, a6, a7, a8, a9, a10, a11, a12, a13, a14, a15, a16, a17, a18, a19]
theorem wl_vec {v : List Rat} (h : v.length ≤ 1000) : Wl 1000 2 (vecD v) := Wl.tup (h := 1) (fun x hx => by
  obtain ⟨q, _, rfl⟩ := List.mem_map.mp hx
  refine ⟨by simp [fr, D.nice, D.nices], by simp [fr, D.dep, D.deps], ?_⟩
  simp [fr, D.wid, D.wids]) (by simpa using h) (by omega)
theorem same_vec {v : List Rat} (h : v.length ≤ 1000) : val F__law_same [vecD v, vecD v] = some (.bl true) := same_ok (wl_vec h).nice (by have := (wl_vec h).dep; omega)
theorem same_fr (q : Rat) : val F__law_same [fr q, fr q] = some (.bl true) := same_ok (by simp [fr, D.nice, D.nices]) (by simp [fr, D.dep, D.deps])
section
variable {s p : D} {n : Nat} {P : List (List Rat)} {x : List Rat}
abbrev ki (k : Option Nat) : Option D := k.map fun k : Nat => D.int (k : Int)
/-- one shift -/
theorem shift_loop {v : List Rat} {a5 o9 : Option D} {o8 : Option Nat} (hx : x.length = n) (hv : v.length = n) (n0 : 0 < n) (hn : n ≤ 1000) (hq : ∀ q ∈ x, Hq q) (hr : ∀ q ∈ v, Hq q) :
    ∃ j8 j9, flF (put 8) L_law_2 ((List.range n).map fun i : Nat => D.int (i : Int)) (EV (some s) (some p) (some (.int n)) (some (.lst false (P.map vecD))) (some (vecD x)) a5 (some (vecD v)) (some (fr (x.getD 0 0 - v.getD 0 0))) (ki o8) o9 none none none none none none none none none none) =
      some (.nx, EV (some s) (some p) (some (.int n)) (some (.lst false (P.map vecD))) (some (vecD x)) a5 (some (vecD v)) (some (fr (maxQ (List.zipWith (fun a b => a - b) x v)))) (ki j8) j9 none none none none none none none none none none) := by
  have g : ∀ k, k < n → Hq (x.getD k 0) ∧ Hq (v.getD k 0) := fun k hk => ⟨by rw [getD_get (by omega)]; exact hq _ (List.getElem_mem _), by rw [getD_get (by omega)]; exact hr _ (List.getElem_mem _)⟩
  obtain ⟨_, ⟨j8, j9⟩, e⟩ := flF_keep (FT := put 8) (FB := L_law_2) (fun i : Nat => D.int (i : Int)) (fun (f : Rat) (j : Option Nat × Option D) => EV (some s) (some p) (some (.int n)) (some (.lst false (P.map vecD))) (some (vecD x)) a5 (some (vecD v)) (some (fr f)) (ki j.1) j.2 none none none none none none none none none none)
    (fun f k => if f < x.getD k 0 - v.getD k 0 then x.getD k 0 - v.getD k 0 else f) (fun f => Hq f) (List.range n) (x.getD 0 0 - v.getD 0 0) (o8, o9) ((g 0 n0).1.sub (g 0 n0).2)
    fun f j k hk hf => by
      have hk : k < n := by simpa using hk
      have hg := (g k hk).1.sub (g k hk).2
      refine ⟨by show Hq (if _ then _ else _); split; exact hg; exact hf, (some k, some (fr (x.getD k 0 - v.getD k 0))), ?_⟩
      have q1 : x[k]? = some (x.getD k 0) := by rw [List.getD_eq_getElem?_getD, List.getElem?_eq_getElem (by omega)]; rfl
      have q2 : v[k]? = some (v.getD k 0) := by rw [List.getD_eq_getElem?_getD, List.getElem?_eq_getElem (by omega)]; rfl
      simp only [L_law_2, val_fnF, zsF_eq, fzAt, D.fz, wpE, mgE, List.contains_cons, List.contains_nil, Nat.reduceBEq, Bool.or_false, Bool.or_true, Bool.false_or, Bool.true_or, seqF_eq, andThen_nx, andThen_bk, andThen_ct, andThen_rt, retV_rt, retV_nx, nxF, bkF, ctF, rtF, rnF, rmF, stF, exF, put, parF, agF, ifS, forF_eq, flF_nil, flF_cons, flK_nx, flK_ct, flK_bk, flK_rt, tbF, ttF, andF, orF, notF, andV, orV, ifF, chF, b1, b2, bN, clF_val, aNil, aCons, nmF, ownF, cF, fzF, itF, inF, itOf, rng1, rng2, yesF, dTru, dNot, I.isi_non_tuple, I.isi_non_list, I.isi_non_bool, I.isi_non_int, I.isi_non_str, I.isi_bl_tuple, I.isi_bl_list, I.isi_bl_bool, I.isi_bl_int, I.isi_bl_str, I.isi_int_tuple, I.isi_int_list, I.isi_int_bool, I.isi_int_int, I.isi_int_str, I.isi_str_tuple, I.isi_str_list, I.isi_str_bool, I.isi_str_int, I.isi_str_str, I.isi_tup_tuple, I.isi_tup_list, I.isi_tup_bool, I.isi_tup_int, I.isi_tup_str, I.isi_lst_tuple, I.isi_lst_list, I.isi_lst_bool, I.isi_lst_int, I.isi_lst_str, I.isi_scr_tuple, I.isi_scr_list, I.isi_scr_bool, I.isi_scr_int, I.isi_scr_str, dEq_bl, dNe_bl, dIsN_non, dIsN_bl, dIsN_int, dIsN_str, dIsN_tup, dIsN_lst, dAdd_int, dSub_int, dEq_int, dNe_int, dLt_int, dLe_int, dGt_int, dGe_int, dAddI_int, asB_bl, dIx_tup0, dIx_tup1, fLen, fAbs, fInt, fMax2, fMin2, gTupF, gsCons, gsNil, D.pure, D.pures, Bool.not_true, Bool.not_false, Bool.and_true, Bool.true_and, Bool.and_false, Bool.false_and, Option.bind_some, Option.bind_none, Option.map_some, Option.map_none, bind_ite, map_ite, List.map_cons, List.map_nil, List.replicate, List.cons_append, List.nil_append, List.append_nil, List.getElem?_cons_zero, List.getElem?_cons_succ, List.set_cons_zero, List.set_cons_succ, List.length_cons, List.length_nil, Nat.reduceAdd, Nat.reduceLT, Nat.zero_add, Nat.lt_add_one, if_true, if_false, ite_true, ite_false, decide_eq_true_eq, Bool.false_eq_true, reduceCtorEq, reduceIte, Nat.reduceLeDiff, Nat.reduceEqDiff, ki, dIx_vec, q1, q2, pure_fr, lsub_eq (g k hk).1.den (g k hk).2.den, lless_eq hf.den hg.den]
      by_cases h1 : f < x.getD k 0 - v.getD k 0 <;> simp only [h1, decide_true, decide_false, val_fnF, zsF_eq, fzAt, D.fz, wpE, mgE, List.contains_cons, List.contains_nil, Nat.reduceBEq, Bool.or_false, Bool.or_true, Bool.false_or, Bool.true_or, seqF_eq, andThen_nx, andThen_bk, andThen_ct, andThen_rt, retV_rt, retV_nx, nxF, bkF, ctF, rtF, rnF, rmF, stF, exF, put, parF, agF, ifS, forF_eq, flF_nil, flF_cons, flK_nx, flK_ct, flK_bk, flK_rt, tbF, ttF, andF, orF, notF, andV, orV, ifF, chF, b1, b2, bN, clF_val, aNil, aCons, nmF, ownF, cF, fzF, itF, inF, itOf, rng1, rng2, yesF, dTru, dNot, I.isi_non_tuple, I.isi_non_list, I.isi_non_bool, I.isi_non_int, I.isi_non_str, I.isi_bl_tuple, I.isi_bl_list, I.isi_bl_bool, I.isi_bl_int, I.isi_bl_str, I.isi_int_tuple, I.isi_int_list, I.isi_int_bool, I.isi_int_int, I.isi_int_str, I.isi_str_tuple, I.isi_str_list, I.isi_str_bool, I.isi_str_int, I.isi_str_str, I.isi_tup_tuple, I.isi_tup_list, I.isi_tup_bool, I.isi_tup_int, I.isi_tup_str, I.isi_lst_tuple, I.isi_lst_list, I.isi_lst_bool, I.isi_lst_int, I.isi_lst_str, I.isi_scr_tuple, I.isi_scr_list, I.isi_scr_bool, I.isi_scr_int, I.isi_scr_str, dEq_bl, dNe_bl, dIsN_non, dIsN_bl, dIsN_int, dIsN_str, dIsN_tup, dIsN_lst, dAdd_int, dSub_int, dEq_int, dNe_int, dLt_int, dLe_int, dGt_int, dGe_int, dAddI_int, asB_bl, dIx_tup0, dIx_tup1, fLen, fAbs, fInt, fMax2, fMin2, gTupF, gsCons, gsNil, D.pure, D.pures, Bool.not_true, Bool.not_false, Bool.and_true, Bool.true_and, Bool.and_false, Bool.false_and, Option.bind_some, Option.bind_none, Option.map_some, Option.map_none, bind_ite, map_ite, List.map_cons, List.map_nil, List.replicate, List.cons_append, List.nil_append, List.append_nil, List.getElem?_cons_zero, List.getElem?_cons_succ, List.set_cons_zero, List.set_cons_succ, List.length_cons, List.length_nil, Nat.reduceAdd, Nat.reduceLT, Nat.zero_add, Nat.lt_add_one, if_true, if_false, ite_true, ite_false, decide_eq_true_eq, Bool.false_eq_true, reduceCtorEq, reduceIte, Nat.reduceLeDiff, Nat.reduceEqDiff, pure_fr]
  refine ⟨j8, j9, ?_⟩
  rw [e]
  have el : List.zipWith (fun a b => a - b) x v = (List.range n).map fun k => x.getD k 0 - v.getD k 0 := by
    refine List.ext_getElem (by simp [hx, hv]) fun i h1 h2 => ?_
    simp [hx, hv] at h1
    simp only [List.getElem_zipWith, List.getElem_map, List.getElem_range]
    rw [getD_get (by omega), getD_get (by omega)]
  have em : (List.range n).foldl (fun f k => if f < x.getD k 0 - v.getD k 0 then x.getD k 0 - v.getD k 0 else f) (x.getD 0 0 - v.getD 0 0) = maxQ (List.zipWith (fun a b => a - b) x v) := by
    rw [el]
    obtain ⟨m, rfl⟩ : ∃ m, n = m + 1 := ⟨n - 1, by omega⟩
    rw [show List.range (m + 1) = 0 :: (List.range m).map (· + 1) from List.range_succ_eq_map]
    rw [List.map_cons]
    unfold maxQ
    simp only [List.foldl_cons, List.foldl_map]
  rw [em]
theorem shifts_ok (h : Pts n P) (hx : x.length = n) (n0 : 0 < n) (hq : ∀ q ∈ x, Hq q) :
    ∃ (v b : Option D) (k : Option Nat) (o : Option D), S_law_6 (EV (some s) (some p) (some (.int n)) (some (.lst false (P.map vecD))) (some (vecD x)) (some (.lst true [])) none none none none none none none none none none none none none none) =
      S_law_7 (EV (some s) (some p) (some (.int n)) (some (.lst false (P.map vecD))) (some (vecD x)) (some (.lst true ((labs P x).map fr))) v b (ki k) o none none none none none none none none none none) := by
  have hn := h.wid
  have hp := h.len
  obtain ⟨⟨v, b, k, o⟩, e⟩ := flF_append (FT := put 6) (FB := L_law_3) vecD (fun v => fr (maxQ (List.zipWith (fun a b => a - b) x v))) (fun (acc : List D) (j : Option D × Option D × Option Nat × Option D) => EV (some s) (some p) (some (.int n)) (some (.lst false (P.map vecD))) (some (vecD x)) (some (.lst true acc)) j.1 j.2.1 (ki j.2.2.1) j.2.2.2 none none none none none none none none none none)
    P [] (none, none, none, none) (by simp; omega)
    fun acc j v hv hl => by
      have lv := (h.row v hv).1
      have gq : Hq (x.getD 0 0) ∧ Hq (v.getD 0 0) := ⟨by rw [getD_get (by omega)]; exact hq _ (List.getElem_mem _), by rw [getD_get (by omega)]; exact (h.row v hv).2 _ (List.getElem_mem _)⟩
      have q1 : x[0]? = some (x.getD 0 0) := by rw [List.getD_eq_getElem?_getD, List.getElem?_eq_getElem (by omega)]; rfl
      have q2 : v[0]? = some (v.getD 0 0) := by rw [List.getD_eq_getElem?_getD, List.getElem?_eq_getElem (by omega)]; rfl
      have d1 : dIx (vecD x) (.int 0) = some (fr (x.getD 0 0)) := by have := dIx_vec (p := x) (i := 0); rw [q1] at this; exact this
      have d2 : dIx (vecD v) (.int 0) = some (fr (v.getD 0 0)) := by have := dIx_vec (p := v) (i := 0); rw [q2] at this; exact this
      obtain ⟨j8, j9, el⟩ := shift_loop (s := s) (p := p) (P := P) (a5 := some (.lst true acc)) (o8 := j.2.2.1) (o9 := j.2.2.2) hx lv n0 hn hq (h.row v hv).2
      simp only [EV, ki] at el
      refine ⟨(some (vecD v), some (fr (maxQ (List.zipWith (fun a b => a - b) x v))), j8, j9), ?_⟩
      simp only [L_law_3, EV, ki, val_fnF, zsF_eq, fzAt, D.fz, wpE, mgE, List.contains_cons, List.contains_nil, Nat.reduceBEq, Bool.or_false, Bool.or_true, Bool.false_or, Bool.true_or, seqF_eq, andThen_nx, andThen_bk, andThen_ct, andThen_rt, retV_rt, retV_nx, nxF, bkF, ctF, rtF, rnF, rmF, stF, exF, put, parF, agF, ifS, forF_eq, flF_nil, flF_cons, flK_nx, flK_ct, flK_bk, flK_rt, tbF, ttF, andF, orF, notF, andV, orV, ifF, chF, b1, b2, bN, clF_val, aNil, aCons, nmF, ownF, cF, fzF, itF, inF, itOf, rng1, rng2, yesF, dTru, dNot, I.isi_non_tuple, I.isi_non_list, I.isi_non_bool, I.isi_non_int, I.isi_non_str, I.isi_bl_tuple, I.isi_bl_list, I.isi_bl_bool, I.isi_bl_int, I.isi_bl_str, I.isi_int_tuple, I.isi_int_list, I.isi_int_bool, I.isi_int_int, I.isi_int_str, I.isi_str_tuple, I.isi_str_list, I.isi_str_bool, I.isi_str_int, I.isi_str_str, I.isi_tup_tuple, I.isi_tup_list, I.isi_tup_bool, I.isi_tup_int, I.isi_tup_str, I.isi_lst_tuple, I.isi_lst_list, I.isi_lst_bool, I.isi_lst_int, I.isi_lst_str, I.isi_scr_tuple, I.isi_scr_list, I.isi_scr_bool, I.isi_scr_int, I.isi_scr_str, dEq_bl, dNe_bl, dIsN_non, dIsN_bl, dIsN_int, dIsN_str, dIsN_tup, dIsN_lst, dAdd_int, dSub_int, dEq_int, dNe_int, dLt_int, dLe_int, dGt_int, dGe_int, dAddI_int, asB_bl, dIx_tup0, dIx_tup1, fLen, fAbs, fInt, fMax2, fMin2, gTupF, gsCons, gsNil, D.pure, D.pures, Bool.not_true, Bool.not_false, Bool.and_true, Bool.true_and, Bool.and_false, Bool.false_and, Option.bind_some, Option.bind_none, Option.map_some, Option.map_none, bind_ite, map_ite, List.map_cons, List.map_nil, List.replicate, List.cons_append, List.nil_append, List.append_nil, List.getElem?_cons_zero, List.getElem?_cons_succ, List.set_cons_zero, List.set_cons_succ, List.length_cons, List.length_nil, Nat.reduceAdd, Nat.reduceLT, Nat.zero_add, Nat.lt_add_one, if_true, if_false, ite_true, ite_false, decide_eq_true_eq, Bool.false_eq_true, reduceCtorEq, reduceIte, Nat.reduceLeDiff, Nat.reduceEqDiff, d1, d2, pure_fr, lsub_eq gq.1.den gq.2.den, rg_of (show n ≤ 1000000 by omega), Int.toNat_natCast, el, mtF, isL, mAppend, hl]
  refine ⟨v, b, k, o, ?_⟩
  have e2 : P.map (fun v => fr (maxQ (List.zipWith (fun a b => a - b) x v))) = (labs P x).map fr := by simp [labs]
  rw [e2, List.nil_append] at e
  simp only [EV, ki, Option.map_none] at e ⊢
  simp only [S_law_6, val_fnF, zsF_eq, fzAt, D.fz, wpE, mgE, List.contains_cons, List.contains_nil, Nat.reduceBEq, Bool.or_false, Bool.or_true, Bool.false_or, Bool.true_or, seqF_eq, andThen_nx, andThen_bk, andThen_ct, andThen_rt, retV_rt, retV_nx, nxF, bkF, ctF, rtF, rnF, rmF, stF, exF, put, parF, agF, ifS, forF_eq, flF_nil, flF_cons, flK_nx, flK_ct, flK_bk, flK_rt, tbF, ttF, andF, orF, notF, andV, orV, ifF, chF, b1, b2, bN, clF_val, aNil, aCons, nmF, ownF, cF, fzF, itF, inF, itOf, rng1, rng2, yesF, dTru, dNot, I.isi_non_tuple, I.isi_non_list, I.isi_non_bool, I.isi_non_int, I.isi_non_str, I.isi_bl_tuple, I.isi_bl_list, I.isi_bl_bool, I.isi_bl_int, I.isi_bl_str, I.isi_int_tuple, I.isi_int_list, I.isi_int_bool, I.isi_int_int, I.isi_int_str, I.isi_str_tuple, I.isi_str_list, I.isi_str_bool, I.isi_str_int, I.isi_str_str, I.isi_tup_tuple, I.isi_tup_list, I.isi_tup_bool, I.isi_tup_int, I.isi_tup_str, I.isi_lst_tuple, I.isi_lst_list, I.isi_lst_bool, I.isi_lst_int, I.isi_lst_str, I.isi_scr_tuple, I.isi_scr_list, I.isi_scr_bool, I.isi_scr_int, I.isi_scr_str, dEq_bl, dNe_bl, dIsN_non, dIsN_bl, dIsN_int, dIsN_str, dIsN_tup, dIsN_lst, dAdd_int, dSub_int, dEq_int, dNe_int, dLt_int, dLe_int, dGt_int, dGe_int, dAddI_int, asB_bl, dIx_tup0, dIx_tup1, fLen, fAbs, fInt, fMax2, fMin2, gTupF, gsCons, gsNil, D.pure, D.pures, Bool.not_true, Bool.not_false, Bool.and_true, Bool.true_and, Bool.and_false, Bool.false_and, Option.bind_some, Option.bind_none, Option.map_some, Option.map_none, bind_ite, map_ite, List.map_cons, List.map_nil, List.replicate, List.cons_append, List.nil_append, List.append_nil, List.getElem?_cons_zero, List.getElem?_cons_succ, List.set_cons_zero, List.set_cons_succ, List.length_cons, List.length_nil, Nat.reduceAdd, Nat.reduceLT, Nat.zero_add, Nat.lt_add_one, if_true, if_false, ite_true, ite_false, decide_eq_true_eq, Bool.false_eq_true, reduceCtorEq, reduceIte, Nat.reduceLeDiff, Nat.reduceEqDiff, pures_vec, fzs_vec, e]
end
end
end G33

set_option Elab.async false
set_option linter.all false
set_option maxRecDepth 100000
set_option maxHeartbeats 1000000
namespace G33
open PySem L2 Pz
noncomputable section
theorem eqv_fr (a b : Rat) : PyData.eqv (fr a).py (fr b).py = decide (a = b) := by
  have h := dNe_fr a b
  unfold dNe at h
  rw [if_pos ⟨shp_fr a, shp_fr b⟩] at h
  simpa using h
theorem eqvAll_fr : ∀ a b : List Rat, PyData.eqvAll (D.pys (a.map fr)) (D.pys (b.map fr)) = decide (a = b)
  | [], [] => by simp [D.pys, PyData.eqvAll]
  | [], y :: b => by simp [D.pys, PyData.eqvAll]
  | x :: a, [] => by simp [D.pys, PyData.eqvAll]
  | x :: a, y :: b => by
    simp only [List.map_cons, D.pys, PyData.eqvAll, eqv_fr, eqvAll_fr a b, List.cons.injEq]
    by_cases h1 : x = y <;> by_cases h2 : a = b <;> simp [h1, h2]
theorem dEq_vec {a b : List Rat} (ha : a.length ≤ 1000) (hb : b.length ≤ 1000) : dEq (vecD a) (vecD b) = some (.bl (decide (a = b))) := by
  unfold dEq
  rw [if_pos ⟨D.nice_shp (wl_vec ha).nice (by have := (wl_vec ha).dep; omega), D.nice_shp (wl_vec hb).nice (by have := (wl_vec hb).dep; omega)⟩]
  simp only [vecD, D.py, PyData.eqv, eqvAll_fr]
theorem shp_yes : shp (.str "yes") = true := by decide +kernel
theorem shp_no : shp (.str "no") = true := by decide +kernel
theorem yes_eq : dEq (.str "yes") (.str "yes") = some (.bl true) := by
  unfold dEq; rw [if_pos ⟨shp_yes, shp_yes⟩]; simp [D.py, PyData.eqv]
theorem no_eq : dEq (.str "no") (.str "yes") = some (.bl false) := by
  unfold dEq; rw [if_pos ⟨shp_no, shp_yes⟩]
  have : PyData.eqv (D.str "no").py (D.str "yes").py = false := by decide +kernel
  rw [this]
theorem yes_ne : dNe (.str "yes") (.str "yes") = some (.bl false) := by
  unfold dNe; rw [if_pos ⟨shp_yes, shp_yes⟩]; simp [D.py, PyData.eqv]
theorem word_eq {c : Prop} [Decidable c] : dEq (.str (if c then "yes" else "no")) (.str "yes") = some (.bl (decide c)) := by
  by_cases h : c
  · simp only [h, if_true, yes_eq, decide_true]
  · simp only [h, if_false, no_eq, decide_false]
section
variable {s p : D} {n : Nat} {P : List (List Rat)} {x : List Rat}
theorem step7 {v b k o : Option D} (h : Pts n P) (n0 : 0 < n) (h0 : 0 < P.length) (hx : x.length = n) (hq : ∀ q ∈ x, Hq q) :
    S_law_7 (EV (some s) (some p) (some (.int n)) (some (.lst false (P.map vecD))) (some (vecD x)) (some (.lst true ((labs P x).map fr))) v b k o none none none none none none none none none none) =
      S_law_10 (EV (some s) (some p) (some (.int n)) (some (.lst false (P.map vecD))) (some (vecD x)) (some (.lst true ((labs P x).map fr))) v b k o (some (vecD (mixv n (labs P x) P))) (some (vecD (mixv n (labs P x) P))) none none none none none none none none) := by
  have hn := h.wid
  have lq := labs_Hq h n0 hx hq
  have mx := law_mix_ok h h0 labs_len lq true
  have nr := nearest_ok h n0 h0 hx hq true
  have mq := mix_Hq h h0 labs_len lq
  obtain ⟨y, hp⟩ := hull_paper_ok (x := mixv n (labs P x) P) h n0 h0 mix_len mq true
  rw [if_pos (told_twice h n0 h0 hx)] at hp
  have fl : fList [.lst false (P.map vecD)] = some (.lst true (P.map vecD)) := by
    simp only [fList]; rw [if_pos (pures_vec P)]
  have sm := same_vec (v := mixv n (labs P x) P) (by rw [mix_len]; exact hn)
  have d0 : dIx (.tup [.str "yes", y]) (.int 0) = some (.str "yes") := dIx_tup0
  have e7 : S_law_7 (EV (some s) (some p) (some (.int n)) (some (.lst false (P.map vecD))) (some (vecD x)) (some (.lst true ((labs P x).map fr))) v b k o none none none none none none none none none none) =
      S_law_8 (EV (some s) (some p) (some (.int n)) (some (.lst false (P.map vecD))) (some (vecD x)) (some (.lst true ((labs P x).map fr))) v b k o (some (vecD (mixv n (labs P x) P))) none none none none none none none none none) := by
    simp only [S_law_7, EV, lcallF, aConsL, val_fnF, zsF_eq, fzAt, D.fz, wpE, mgE, List.contains_cons, List.contains_nil, Nat.reduceBEq, Bool.or_false, Bool.or_true, Bool.false_or, Bool.true_or, seqF_eq, andThen_nx, andThen_bk, andThen_ct, andThen_rt, retV_rt, retV_nx, nxF, bkF, ctF, rtF, rnF, rmF, stF, exF, put, parF, agF, ifS, forF_eq, flF_nil, flF_cons, flK_nx, flK_ct, flK_bk, flK_rt, tbF, ttF, andF, orF, notF, andV, orV, ifF, chF, b1, b2, bN, clF_val, aNil, aCons, nmF, ownF, cF, fzF, itF, inF, itOf, rng1, rng2, yesF, dTru, dNot, I.isi_non_tuple, I.isi_non_list, I.isi_non_bool, I.isi_non_int, I.isi_non_str, I.isi_bl_tuple, I.isi_bl_list, I.isi_bl_bool, I.isi_bl_int, I.isi_bl_str, I.isi_int_tuple, I.isi_int_list, I.isi_int_bool, I.isi_int_int, I.isi_int_str, I.isi_str_tuple, I.isi_str_list, I.isi_str_bool, I.isi_str_int, I.isi_str_str, I.isi_tup_tuple, I.isi_tup_list, I.isi_tup_bool, I.isi_tup_int, I.isi_tup_str, I.isi_lst_tuple, I.isi_lst_list, I.isi_lst_bool, I.isi_lst_int, I.isi_lst_str, I.isi_scr_tuple, I.isi_scr_list, I.isi_scr_bool, I.isi_scr_int, I.isi_scr_str, dEq_bl, dNe_bl, dIsN_non, dIsN_bl, dIsN_int, dIsN_str, dIsN_tup, dIsN_lst, dAdd_int, dSub_int, dEq_int, dNe_int, dLt_int, dLe_int, dGt_int, dGe_int, dAddI_int, asB_bl, dIx_tup0, dIx_tup1, fLen, fAbs, fInt, fMax2, fMin2, gTupF, gsCons, gsNil, D.pure, D.pures, Bool.not_true, Bool.not_false, Bool.and_true, Bool.true_and, Bool.and_false, Bool.false_and, Option.bind_some, Option.bind_none, Option.map_some, Option.map_none, bind_ite, map_ite, List.map_cons, List.map_nil, List.replicate, List.cons_append, List.nil_append, List.append_nil, List.getElem?_cons_zero, List.getElem?_cons_succ, List.set_cons_zero, List.set_cons_succ, List.length_cons, List.length_nil, Nat.reduceAdd, Nat.reduceLT, Nat.zero_add, Nat.lt_add_one, if_true, if_false, ite_true, ite_false, decide_eq_true_eq, Bool.false_eq_true, reduceCtorEq, reduceIte, Nat.reduceLeDiff, Nat.reduceEqDiff, pures_vec, mx, giveE]
  rw [e7]
  simp only [S_law_8, S_law_9, EV, val_fnF, zsF_eq, fzAt, D.fz, wpE, mgE, List.contains_cons, List.contains_nil, Nat.reduceBEq, Bool.or_false, Bool.or_true, Bool.false_or, Bool.true_or, seqF_eq, andThen_nx, andThen_bk, andThen_ct, andThen_rt, retV_rt, retV_nx, nxF, bkF, ctF, rtF, rnF, rmF, stF, exF, put, parF, agF, ifS, forF_eq, flF_nil, flF_cons, flK_nx, flK_ct, flK_bk, flK_rt, tbF, ttF, andF, orF, notF, andV, orV, ifF, chF, b1, b2, bN, clF_val, aNil, aCons, nmF, ownF, cF, fzF, itF, inF, itOf, rng1, rng2, yesF, dTru, dNot, I.isi_non_tuple, I.isi_non_list, I.isi_non_bool, I.isi_non_int, I.isi_non_str, I.isi_bl_tuple, I.isi_bl_list, I.isi_bl_bool, I.isi_bl_int, I.isi_bl_str, I.isi_int_tuple, I.isi_int_list, I.isi_int_bool, I.isi_int_int, I.isi_int_str, I.isi_str_tuple, I.isi_str_list, I.isi_str_bool, I.isi_str_int, I.isi_str_str, I.isi_tup_tuple, I.isi_tup_list, I.isi_tup_bool, I.isi_tup_int, I.isi_tup_str, I.isi_lst_tuple, I.isi_lst_list, I.isi_lst_bool, I.isi_lst_int, I.isi_lst_str, I.isi_scr_tuple, I.isi_scr_list, I.isi_scr_bool, I.isi_scr_int, I.isi_scr_str, dEq_bl, dNe_bl, dIsN_non, dIsN_bl, dIsN_int, dIsN_str, dIsN_tup, dIsN_lst, dAdd_int, dSub_int, dEq_int, dNe_int, dLt_int, dLe_int, dGt_int, dGe_int, dAddI_int, asB_bl, dIx_tup0, dIx_tup1, fLen, fAbs, fInt, fMax2, fMin2, gTupF, gsCons, gsNil, D.pure, D.pures, Bool.not_true, Bool.not_false, Bool.and_true, Bool.true_and, Bool.and_false, Bool.false_and, Option.bind_some, Option.bind_none, Option.map_some, Option.map_none, bind_ite, map_ite, List.map_cons, List.map_nil, List.replicate, List.cons_append, List.nil_append, List.append_nil, List.getElem?_cons_zero, List.getElem?_cons_succ, List.set_cons_zero, List.set_cons_succ, List.length_cons, List.length_nil, Nat.reduceAdd, Nat.reduceLT, Nat.zero_add, Nat.lt_add_one, if_true, if_false, ite_true, ite_false, decide_eq_true_eq, Bool.false_eq_true, reduceCtorEq, reduceIte, Nat.reduceLeDiff, Nat.reduceEqDiff, fl, pure_vec, nr, hp, d0, yes_ne, sm]
end
end
end G33

set_option Elab.async false
set_option linter.all false
set_option maxRecDepth 100000
set_option maxHeartbeats 1000000
namespace G33
open PySem L2 Pz
noncomputable section
theorem rng_env' {FA : En → Option (List D × En)} {n : Nat} {env : En} (h : FA env = some ([.int (n : Int)], env)) (hn : n ≤ 1000000) : inF rng1 FA env = some ((List.range n).map (fun i : Nat => D.int (i : Int)), env) := by
  simp only [val_fnF, zsF_eq, fzAt, D.fz, wpE, mgE, List.contains_cons, List.contains_nil, Nat.reduceBEq, Bool.or_false, Bool.or_true, Bool.false_or, Bool.true_or, seqF_eq, andThen_nx, andThen_bk, andThen_ct, andThen_rt, retV_rt, retV_nx, nxF, bkF, ctF, rtF, rnF, rmF, stF, exF, put, parF, agF, ifS, forF_eq, flF_nil, flF_cons, flK_nx, flK_ct, flK_bk, flK_rt, tbF, ttF, andF, orF, notF, andV, orV, ifF, chF, b1, b2, bN, clF_val, aNil, aCons, nmF, ownF, cF, fzF, itF, inF, itOf, rng1, rng2, yesF, dTru, dNot, I.isi_non_tuple, I.isi_non_list, I.isi_non_bool, I.isi_non_int, I.isi_non_str, I.isi_bl_tuple, I.isi_bl_list, I.isi_bl_bool, I.isi_bl_int, I.isi_bl_str, I.isi_int_tuple, I.isi_int_list, I.isi_int_bool, I.isi_int_int, I.isi_int_str, I.isi_str_tuple, I.isi_str_list, I.isi_str_bool, I.isi_str_int, I.isi_str_str, I.isi_tup_tuple, I.isi_tup_list, I.isi_tup_bool, I.isi_tup_int, I.isi_tup_str, I.isi_lst_tuple, I.isi_lst_list, I.isi_lst_bool, I.isi_lst_int, I.isi_lst_str, I.isi_scr_tuple, I.isi_scr_list, I.isi_scr_bool, I.isi_scr_int, I.isi_scr_str, dEq_bl, dNe_bl, dIsN_non, dIsN_bl, dIsN_int, dIsN_str, dIsN_tup, dIsN_lst, dAdd_int, dSub_int, dEq_int, dNe_int, dLt_int, dLe_int, dGt_int, dGe_int, dAddI_int, asB_bl, dIx_tup0, dIx_tup1, fLen, fAbs, fInt, fMax2, fMin2, gTupF, gsCons, gsNil, D.pure, D.pures, Bool.not_true, Bool.not_false, Bool.and_true, Bool.true_and, Bool.and_false, Bool.false_and, Option.bind_some, Option.bind_none, Option.map_some, Option.map_none, bind_ite, map_ite, List.map_cons, List.map_nil, List.replicate, List.cons_append, List.nil_append, List.append_nil, List.getElem?_cons_zero, List.getElem?_cons_succ, List.set_cons_zero, List.set_cons_succ, List.length_cons, List.length_nil, Nat.reduceAdd, Nat.reduceLT, Nat.zero_add, Nat.lt_add_one, if_true, if_false, ite_true, ite_false, decide_eq_true_eq, Bool.false_eq_true, reduceCtorEq, reduceIte, Nat.reduceLeDiff, Nat.reduceEqDiff, h, rg_of hn, Int.toNat_natCast]
/-- the list of the coordinates that are less -/
theorem less_list {u w : List Rat} {n iu iw : Nat} {env : En} (hl : env.length = 20) (iu8 : iu ≠ 8) (iw8 : iw ≠ 8) (h2 : env[2]? = some (some (.int (n : Int)))) (hu : env[iu]? = some (some (vecD u))) (hw : env[iw]? = some (some (vecD w)))
    (lu : u.length = n) (lw : w.length = n) (hn : n ≤ 1000) (qu : ∀ q ∈ u, Hq q) (qw : ∀ q ∈ w, Hq q) (hk : okE [8] 0 env = true) {FC : En → Option (Bool × En)} (hF : FC = (ttF (clF F__law_less (aCons (ownF (b2 dIx (nmF iu) (nmF 8))) (aCons (ownF (b2 dIx (nmF iw) (nmF 8))) aNil)))))
    {FE : En → Option (D × En)} (hE : FE = nmO 8) :
    lcF [8] (inF rng1 (aCons (nmO 2) aNil)) (put 8) FC FE env = some (.lst true (((List.range n).filter fun k => decide (u.getD k 0 < w.getD k 0)).map fun k : Nat => D.int (k : Int)), mgE [8] 0 env (wpE [8] env)) := by
  subst hF hE
  refine lcF_filter (vs := [8]) (env' := env) (fun k : Nat => D.int (k : Int)) (fun k => decide (u.getD k 0 < w.getD k 0)) (fun k : Nat => D.int (k : Int)) (List.range n) ?_ (by simp; omega) hk fun k hk => ?_
  · exact rng_env' (by simp only [aCons, ownF, nmF, h2, aNil, Option.bind_some, Option.map_some, D.pure, if_true]) (by omega)
  · have hk : k < n := by simpa using hk
    have q1 : u[k]? = some (u.getD k 0) := by rw [List.getD_eq_getElem?_getD, List.getElem?_eq_getElem (by omega)]; rfl
    have q2 : w[k]? = some (w.getD k 0) := by rw [List.getD_eq_getElem?_getD, List.getElem?_eq_getElem (by omega)]; rfl
    have g8 : ((wpE [8] env).set 8 (some (.int (k : Int))))[8]? = some (some (.int (k : Int))) := by
      rw [List.getElem?_set_self (by rw [wpE_length]; omega)]
    have gu : ((wpE [8] env).set 8 (some (.int (k : Int))))[iu]? = some (some (vecD u)) := by
      rw [List.getElem?_set_ne (fun h => iu8 h.symm)]
      simp only [wpE]
      rw [List.getElem?_set_ne (fun h => iu8 h.symm), hu]
    have gw : ((wpE [8] env).set 8 (some (.int (k : Int))))[iw]? = some (some (vecD w)) := by
      rw [List.getElem?_set_ne (fun h => iw8 h.symm)]
      simp only [wpE]
      rw [List.getElem?_set_ne (fun h => iw8 h.symm), hw]
    have back : wpE [8] ((wpE [8] env).set 8 (some (.int (k : Int)))) = wpE [8] env := by simp only [wpE, List.set_set]
    refine ⟨(wpE [8] env).set 8 (some (.int (k : Int))), (wpE [8] env).set 8 (some (.int (k : Int))), by unfold put; rw [if_pos (by rw [wpE_length]; omega)], ?_, fun _ => ⟨_, ?_, back⟩, fun _ => back⟩
    · simp only [ttF, clF_val, aCons, ownF, Pz.b2, nmF, g8, gu, gw, aNil, Option.bind_some, Option.map_some, dIx_vec, q1, q2, pure_fr, if_true, lless_eq (qu _ (List.mem_of_getElem? q1)).den (qw _ (List.mem_of_getElem? q2)).den, dTru]
    · simp only [ownF, nmF, g8, Option.bind_some, Option.map_some, D.pure, if_true]
theorem none_len {n : Nat} {u w : List Rat} (h : ∀ k, k < n → ¬ u.getD k 0 < w.getD k 0) : (List.range n).filter (fun k => decide (u.getD k 0 < w.getD k 0)) = [] := by
  rw [List.filter_eq_nil_iff]
  intro k hk
  simpa using h k (by simpa using hk)
end
end G33

set_option Elab.async false
set_option linter.all false
set_option maxRecDepth 100000
set_option maxHeartbeats 1000000
namespace G33
open PySem L2 Pz
noncomputable section
section
variable {s p : D} {n : Nat} {P : List (List Rat)} {x : List Rat}
theorem Hq.int (z : Int) : Hq (z : Rat) := ⟨z * 5040, by
  rw [Rat.divInt_eq_div, Rat.intCast_mul]
  grind⟩
theorem tup_int (z : Int) : dTup [.int z, .int 1] = some (fr (z : Rat)) := by
  rw [dTup_le (by simp)]; simp [fr]
theorem gap_Hq {x y : List Rat} {n : Nat} (n0 : 0 < n) (hx : x.length = n) (hy : y.length = n) (hq : ∀ q ∈ x, Hq q) (hr : ∀ q ∈ y, Hq q) : Hq (gap x y) := by
  have ne : List.zipWith (fun a b : Rat => a - b) x y ≠ [] := zw_ne hx hy n0
  have hd := zw_Hq (f := fun a b => a - b) (fun _ _ => Hq.sub) hq hr
  exact (hd _ (maxQ_mem ne)).sub (hd _ (minQ_mem ne))
theorem step10 {v b o sh d10 : Option D} {k : Option Nat} (h : Pts n P) (n0 : 0 < n) (h0 : 0 < P.length) (hx : x.length = n) (hq : ∀ q ∈ x, Hq q) :
    S_law_10 (EV (some s) (some p) (some (.int n)) (some (.lst false (P.map vecD))) (some (vecD x)) sh v b (ki k) o d10 (some (vecD (mixv n (labs P x) P))) none none none none none none none none) =
      S_law_14 (EV (some s) (some p) (some (.int n)) (some (.lst false (P.map vecD))) (some (vecD x)) sh v b (ki k) o d10 (some (vecD (mixv n (labs P x) P))) (some (fr (gap x (mixv n (labs P x) P)))) none none none none none none none) := by
  have hn := h.wid
  have lq := labs_Hq h n0 hx hq
  have mq := mix_Hq h h0 labs_len lq
  have ok : okE [8] 0 (EV (some s) (some p) (some (.int n)) (some (.lst false (P.map vecD))) (some (vecD x)) sh v b (ki k) o d10 (some (vecD (mixv n (labs P x) P))) none none none none none none none none) = true := by
    cases k <;> cases sh <;> cases v <;> cases b <;> cases o <;> cases d10 <;> rfl
  have ll := less_list (u := mixv n (labs P x) P) (w := x) (iu := 11) (iw := 4) (n := n) (env := EV (some s) (some p) (some (.int n)) (some (.lst false (P.map vecD))) (some (vecD x)) sh v b (ki k) o d10 (some (vecD (mixv n (labs P x) P))) none none none none none none none none) rfl (by decide) (by decide) rfl rfl rfl mix_len hx hn mq hq ok (FC := I_law_4) rfl (FE := E_law_4) rfl
  rw [none_len (fun k hk => by have := told_above h n0 h0 hx hk; rw [Rat.not_lt]; exact this)] at ll
  simp only [EV, ki, wpE, mgE, val_fnF, zsF_eq, fzAt, D.fz, wpE, mgE, List.contains_cons, List.contains_nil, Nat.reduceBEq, Bool.or_false, Bool.or_true, Bool.false_or, Bool.true_or, seqF_eq, andThen_nx, andThen_bk, andThen_ct, andThen_rt, retV_rt, retV_nx, nxF, bkF, ctF, rtF, rnF, rmF, stF, exF, put, parF, agF, ifS, forF_eq, flF_nil, flF_cons, flK_nx, flK_ct, flK_bk, flK_rt, tbF, ttF, andF, orF, notF, andV, orV, ifF, chF, b1, b2, bN, clF_val, aNil, aCons, nmF, ownF, cF, fzF, itF, inF, itOf, rng1, rng2, yesF, dTru, dNot, I.isi_non_tuple, I.isi_non_list, I.isi_non_bool, I.isi_non_int, I.isi_non_str, I.isi_bl_tuple, I.isi_bl_list, I.isi_bl_bool, I.isi_bl_int, I.isi_bl_str, I.isi_int_tuple, I.isi_int_list, I.isi_int_bool, I.isi_int_int, I.isi_int_str, I.isi_str_tuple, I.isi_str_list, I.isi_str_bool, I.isi_str_int, I.isi_str_str, I.isi_tup_tuple, I.isi_tup_list, I.isi_tup_bool, I.isi_tup_int, I.isi_tup_str, I.isi_lst_tuple, I.isi_lst_list, I.isi_lst_bool, I.isi_lst_int, I.isi_lst_str, I.isi_scr_tuple, I.isi_scr_list, I.isi_scr_bool, I.isi_scr_int, I.isi_scr_str, dEq_bl, dNe_bl, dIsN_non, dIsN_bl, dIsN_int, dIsN_str, dIsN_tup, dIsN_lst, dAdd_int, dSub_int, dEq_int, dNe_int, dLt_int, dLe_int, dGt_int, dGe_int, dAddI_int, asB_bl, dIx_tup0, dIx_tup1, fLen, fAbs, fInt, fMax2, fMin2, gTupF, gsCons, gsNil, D.pure, D.pures, Bool.not_true, Bool.not_false, Bool.and_true, Bool.true_and, Bool.and_false, Bool.false_and, Option.bind_some, Option.bind_none, Option.map_some, Option.map_none, bind_ite, map_ite, List.map_cons, List.map_nil, List.replicate, List.cons_append, List.nil_append, List.append_nil, List.getElem?_cons_zero, List.getElem?_cons_succ, List.set_cons_zero, List.set_cons_succ, List.length_cons, List.length_nil, Nat.reduceAdd, Nat.reduceLT, Nat.zero_add, Nat.lt_add_one, if_true, if_false, ite_true, ite_false, decide_eq_true_eq, Bool.false_eq_true, reduceCtorEq, reduceIte, Nat.reduceLeDiff, Nat.reduceEqDiff] at ll
  have e10 : S_law_10 (EV (some s) (some p) (some (.int n)) (some (.lst false (P.map vecD))) (some (vecD x)) sh v b (ki k) o d10 (some (vecD (mixv n (labs P x) P))) none none none none none none none none) =
      S_law_11 (EV (some s) (some p) (some (.int n)) (some (.lst false (P.map vecD))) (some (vecD x)) sh v b (ki k) o d10 (some (vecD (mixv n (labs P x) P))) none none none none none none none none) := by
    simp only [S_law_10, EV, ki, val_fnF, zsF_eq, fzAt, D.fz, wpE, mgE, List.contains_cons, List.contains_nil, Nat.reduceBEq, Bool.or_false, Bool.or_true, Bool.false_or, Bool.true_or, seqF_eq, andThen_nx, andThen_bk, andThen_ct, andThen_rt, retV_rt, retV_nx, nxF, bkF, ctF, rtF, rnF, rmF, stF, exF, put, parF, agF, ifS, forF_eq, flF_nil, flF_cons, flK_nx, flK_ct, flK_bk, flK_rt, tbF, ttF, andF, orF, notF, andV, orV, ifF, chF, b1, b2, bN, clF_val, aNil, aCons, nmF, ownF, cF, fzF, itF, inF, itOf, rng1, rng2, yesF, dTru, dNot, I.isi_non_tuple, I.isi_non_list, I.isi_non_bool, I.isi_non_int, I.isi_non_str, I.isi_bl_tuple, I.isi_bl_list, I.isi_bl_bool, I.isi_bl_int, I.isi_bl_str, I.isi_int_tuple, I.isi_int_list, I.isi_int_bool, I.isi_int_int, I.isi_int_str, I.isi_str_tuple, I.isi_str_list, I.isi_str_bool, I.isi_str_int, I.isi_str_str, I.isi_tup_tuple, I.isi_tup_list, I.isi_tup_bool, I.isi_tup_int, I.isi_tup_str, I.isi_lst_tuple, I.isi_lst_list, I.isi_lst_bool, I.isi_lst_int, I.isi_lst_str, I.isi_scr_tuple, I.isi_scr_list, I.isi_scr_bool, I.isi_scr_int, I.isi_scr_str, dEq_bl, dNe_bl, dIsN_non, dIsN_bl, dIsN_int, dIsN_str, dIsN_tup, dIsN_lst, dAdd_int, dSub_int, dEq_int, dNe_int, dLt_int, dLe_int, dGt_int, dGe_int, dAddI_int, asB_bl, dIx_tup0, dIx_tup1, fLen, fAbs, fInt, fMax2, fMin2, gTupF, gsCons, gsNil, D.pure, D.pures, Bool.not_true, Bool.not_false, Bool.and_true, Bool.true_and, Bool.and_false, Bool.false_and, Option.bind_some, Option.bind_none, Option.map_some, Option.map_none, bind_ite, map_ite, List.map_cons, List.map_nil, List.replicate, List.cons_append, List.nil_append, List.append_nil, List.getElem?_cons_zero, List.getElem?_cons_succ, List.set_cons_zero, List.set_cons_succ, List.length_cons, List.length_nil, Nat.reduceAdd, Nat.reduceLT, Nat.zero_add, Nat.lt_add_one, if_true, if_false, ite_true, ite_false, decide_eq_true_eq, Bool.false_eq_true, reduceCtorEq, reduceIte, Nat.reduceLeDiff, Nat.reduceEqDiff, ll]
    simp
  rw [e10]
  obtain ⟨y, hp⟩ := hull_paper_ok h n0 h0 hx hq true
  have fl : fList [.lst false (P.map vecD)] = some (.lst true (P.map vecD)) := by
    simp only [fList]; rw [if_pos (pures_vec P)]
  have d0 : dIx (.tup [.str (if mixv n (labs P x) P = x then "yes" else "no"), y]) (.int 0) = some (.str (if mixv n (labs P x) P = x then "yes" else "no")) := dIx_tup0
  have e11 : S_law_11 (EV (some s) (some p) (some (.int n)) (some (.lst false (P.map vecD))) (some (vecD x)) sh v b (ki k) o d10 (some (vecD (mixv n (labs P x) P))) none none none none none none none none) =
      S_law_12 (EV (some s) (some p) (some (.int n)) (some (.lst false (P.map vecD))) (some (vecD x)) sh v b (ki k) o d10 (some (vecD (mixv n (labs P x) P))) none none none none none none none none) := by
    simp only [S_law_11, EV, val_fnF, zsF_eq, fzAt, D.fz, wpE, mgE, List.contains_cons, List.contains_nil, Nat.reduceBEq, Bool.or_false, Bool.or_true, Bool.false_or, Bool.true_or, seqF_eq, andThen_nx, andThen_bk, andThen_ct, andThen_rt, retV_rt, retV_nx, nxF, bkF, ctF, rtF, rnF, rmF, stF, exF, put, parF, agF, ifS, forF_eq, flF_nil, flF_cons, flK_nx, flK_ct, flK_bk, flK_rt, tbF, ttF, andF, orF, notF, andV, orV, ifF, chF, b1, b2, bN, clF_val, aNil, aCons, nmF, ownF, cF, fzF, itF, inF, itOf, rng1, rng2, yesF, dTru, dNot, I.isi_non_tuple, I.isi_non_list, I.isi_non_bool, I.isi_non_int, I.isi_non_str, I.isi_bl_tuple, I.isi_bl_list, I.isi_bl_bool, I.isi_bl_int, I.isi_bl_str, I.isi_int_tuple, I.isi_int_list, I.isi_int_bool, I.isi_int_int, I.isi_int_str, I.isi_str_tuple, I.isi_str_list, I.isi_str_bool, I.isi_str_int, I.isi_str_str, I.isi_tup_tuple, I.isi_tup_list, I.isi_tup_bool, I.isi_tup_int, I.isi_tup_str, I.isi_lst_tuple, I.isi_lst_list, I.isi_lst_bool, I.isi_lst_int, I.isi_lst_str, I.isi_scr_tuple, I.isi_scr_list, I.isi_scr_bool, I.isi_scr_int, I.isi_scr_str, dEq_bl, dNe_bl, dIsN_non, dIsN_bl, dIsN_int, dIsN_str, dIsN_tup, dIsN_lst, dAdd_int, dSub_int, dEq_int, dNe_int, dLt_int, dLe_int, dGt_int, dGe_int, dAddI_int, asB_bl, dIx_tup0, dIx_tup1, fLen, fAbs, fInt, fMax2, fMin2, gTupF, gsCons, gsNil, D.pure, D.pures, Bool.not_true, Bool.not_false, Bool.and_true, Bool.true_and, Bool.and_false, Bool.false_and, Option.bind_some, Option.bind_none, Option.map_some, Option.map_none, bind_ite, map_ite, List.map_cons, List.map_nil, List.replicate, List.cons_append, List.nil_append, List.append_nil, List.getElem?_cons_zero, List.getElem?_cons_succ, List.set_cons_zero, List.set_cons_succ, List.length_cons, List.length_nil, Nat.reduceAdd, Nat.reduceLT, Nat.zero_add, Nat.lt_add_one, if_true, if_false, ite_true, ite_false, decide_eq_true_eq, Bool.false_eq_true, reduceCtorEq, reduceIte, Nat.reduceLeDiff, Nat.reduceEqDiff, fl, pure_vec, hp, d0, word_eq, dEq_vec (a := mixv n (labs P x) P) (b := x) (by rw [mix_len]; exact hn) (by omega), dNe_bl]
    simp
  rw [e11]
  have g := law_gap_eq n0 hn hx (y := mixv n (labs P x) P) mix_len hq mq
  have dd := distance_eq n0 hn hx (y := mixv n (labs P x) P) mix_len hq mq
  simp only [S_law_12, S_law_13, EV, val_fnF, zsF_eq, fzAt, D.fz, wpE, mgE, List.contains_cons, List.contains_nil, Nat.reduceBEq, Bool.or_false, Bool.or_true, Bool.false_or, Bool.true_or, seqF_eq, andThen_nx, andThen_bk, andThen_ct, andThen_rt, retV_rt, retV_nx, nxF, bkF, ctF, rtF, rnF, rmF, stF, exF, put, parF, agF, ifS, forF_eq, flF_nil, flF_cons, flK_nx, flK_ct, flK_bk, flK_rt, tbF, ttF, andF, orF, notF, andV, orV, ifF, chF, b1, b2, bN, clF_val, aNil, aCons, nmF, ownF, cF, fzF, itF, inF, itOf, rng1, rng2, yesF, dTru, dNot, I.isi_non_tuple, I.isi_non_list, I.isi_non_bool, I.isi_non_int, I.isi_non_str, I.isi_bl_tuple, I.isi_bl_list, I.isi_bl_bool, I.isi_bl_int, I.isi_bl_str, I.isi_int_tuple, I.isi_int_list, I.isi_int_bool, I.isi_int_int, I.isi_int_str, I.isi_str_tuple, I.isi_str_list, I.isi_str_bool, I.isi_str_int, I.isi_str_str, I.isi_tup_tuple, I.isi_tup_list, I.isi_tup_bool, I.isi_tup_int, I.isi_tup_str, I.isi_lst_tuple, I.isi_lst_list, I.isi_lst_bool, I.isi_lst_int, I.isi_lst_str, I.isi_scr_tuple, I.isi_scr_list, I.isi_scr_bool, I.isi_scr_int, I.isi_scr_str, dEq_bl, dNe_bl, dIsN_non, dIsN_bl, dIsN_int, dIsN_str, dIsN_tup, dIsN_lst, dAdd_int, dSub_int, dEq_int, dNe_int, dLt_int, dLe_int, dGt_int, dGe_int, dAddI_int, asB_bl, dIx_tup0, dIx_tup1, fLen, fAbs, fInt, fMax2, fMin2, gTupF, gsCons, gsNil, D.pure, D.pures, Bool.not_true, Bool.not_false, Bool.and_true, Bool.true_and, Bool.and_false, Bool.false_and, Option.bind_some, Option.bind_none, Option.map_some, Option.map_none, bind_ite, map_ite, List.map_cons, List.map_nil, List.replicate, List.cons_append, List.nil_append, List.append_nil, List.getElem?_cons_zero, List.getElem?_cons_succ, List.set_cons_zero, List.set_cons_succ, List.length_cons, List.length_nil, Nat.reduceAdd, Nat.reduceLT, Nat.zero_add, Nat.lt_add_one, if_true, if_false, ite_true, ite_false, decide_eq_true_eq, Bool.false_eq_true, reduceCtorEq, reduceIte, Nat.reduceLeDiff, Nat.reduceEqDiff, pure_vec, g, dd, pure_fr, same_fr]
/-- the moved shifts -/
theorem moved_ok {v b o d10 d13 d14 d15 d16 : Option D} {k : Option Nat} (h0 : (labs P x).length = P.length) (hp : P.length ≤ 1000) (lq : ∀ q ∈ labs P x, Hq q) (hpl : Pl p) (ob : Bool) :
    ∃ (p' : D) (m : List Rat), lcF [18] (itF (fzF 5)) (put 18) yesF E_law_6 (EV (some s) (some p) (some (.int n)) (some (.lst false (P.map vecD))) (some (vecD x)) (some (.lst ob ((labs P x).map fr))) v b (ki k) o d10 (some (vecD (mixv n (labs P x) P))) (some (fr (gap x (mixv n (labs P x) P)))) d13 d14 d15 d16 none none none) =
      some (.lst true (m.map fr), EV (some s) (some p') (some (.int n)) (some (.lst false (P.map vecD))) (some (vecD x)) (some (.lst false ((labs P x).map fr))) v b (ki k) o d10 (some (vecD (mixv n (labs P x) P))) (some (fr (gap x (mixv n (labs P x) P)))) d13 d14 d15 d16 none none none) ∧ Pl p' ∧ m.length = P.length ∧ ∀ q ∈ m, Hq q := by
  obtain ⟨acc, e, h1, p', l, rfl, rfl, hp', hl, hq'⟩ := lcF_rem (vs := [18]) (FI := itF (fzF 5)) (FT := put 18) (FE := E_law_6)
    (env := EV (some s) (some p) (some (.int n)) (some (.lst false (P.map vecD))) (some (vecD x)) (some (.lst ob ((labs P x).map fr))) v b (ki k) o d10 (some (vecD (mixv n (labs P x) P))) (some (fr (gap x (mixv n (labs P x) P)))) d13 d14 d15 d16 none none none)
    (env' := EV (some s) (some p) (some (.int n)) (some (.lst false (P.map vecD))) (some (vecD x)) (some (.lst false ((labs P x).map fr))) v b (ki k) o d10 (some (vecD (mixv n (labs P x) P))) (some (fr (gap x (mixv n (labs P x) P)))) d13 d14 d15 d16 none none none)
    fr (fun ys acc e => ∃ (p' : D) (l : List Rat), e = EV (some s) (some p') (some (.int n)) (some (.lst false (P.map vecD))) (some (vecD x)) (some (.lst false ((labs P x).map fr))) v b (ki k) o d10 (some (vecD (mixv n (labs P x) P))) (some (fr (gap x (mixv n (labs P x) P)))) d13 d14 d15 d16 none none none ∧ acc = l.map fr ∧ Pl p' ∧ (l.length + ys.length = P.length ∧ (∀ q ∈ ys, Hq q)) ∧ ∀ q ∈ l, Hq q)
    (labs P x) (by simp only [EV, ki, val_fnF, zsF_eq, fzAt, D.fz, wpE, mgE, List.contains_cons, List.contains_nil, Nat.reduceBEq, Bool.or_false, Bool.or_true, Bool.false_or, Bool.true_or, seqF_eq, andThen_nx, andThen_bk, andThen_ct, andThen_rt, retV_rt, retV_nx, nxF, bkF, ctF, rtF, rnF, rmF, stF, exF, put, parF, agF, ifS, forF_eq, flF_nil, flF_cons, flK_nx, flK_ct, flK_bk, flK_rt, tbF, ttF, andF, orF, notF, andV, orV, ifF, chF, b1, b2, bN, clF_val, aNil, aCons, nmF, ownF, cF, fzF, itF, inF, itOf, rng1, rng2, yesF, dTru, dNot, I.isi_non_tuple, I.isi_non_list, I.isi_non_bool, I.isi_non_int, I.isi_non_str, I.isi_bl_tuple, I.isi_bl_list, I.isi_bl_bool, I.isi_bl_int, I.isi_bl_str, I.isi_int_tuple, I.isi_int_list, I.isi_int_bool, I.isi_int_int, I.isi_int_str, I.isi_str_tuple, I.isi_str_list, I.isi_str_bool, I.isi_str_int, I.isi_str_str, I.isi_tup_tuple, I.isi_tup_list, I.isi_tup_bool, I.isi_tup_int, I.isi_tup_str, I.isi_lst_tuple, I.isi_lst_list, I.isi_lst_bool, I.isi_lst_int, I.isi_lst_str, I.isi_scr_tuple, I.isi_scr_list, I.isi_scr_bool, I.isi_scr_int, I.isi_scr_str, dEq_bl, dNe_bl, dIsN_non, dIsN_bl, dIsN_int, dIsN_str, dIsN_tup, dIsN_lst, dAdd_int, dSub_int, dEq_int, dNe_int, dLt_int, dLe_int, dGt_int, dGe_int, dAddI_int, asB_bl, dIx_tup0, dIx_tup1, fLen, fAbs, fInt, fMax2, fMin2, gTupF, gsCons, gsNil, D.pure, D.pures, Bool.not_true, Bool.not_false, Bool.and_true, Bool.true_and, Bool.and_false, Bool.false_and, Option.bind_some, Option.bind_none, Option.map_some, Option.map_none, bind_ite, map_ite, List.map_cons, List.map_nil, List.replicate, List.cons_append, List.nil_append, List.append_nil, List.getElem?_cons_zero, List.getElem?_cons_succ, List.set_cons_zero, List.set_cons_succ, List.length_cons, List.length_nil, Nat.reduceAdd, Nat.reduceLT, Nat.zero_add, Nat.lt_add_one, if_true, if_false, ite_true, ite_false, decide_eq_true_eq, Bool.false_eq_true, reduceCtorEq, reduceIte, Nat.reduceLeDiff, Nat.reduceEqDiff, fzs_fr]) (by omega) (by cases k <;> cases v <;> cases b <;> cases o <;> cases d10 <;> cases d13 <;> cases d14 <;> cases d15 <;> cases d16 <;> rfl) ⟨p, [], by simp only [EV, ki, val_fnF, zsF_eq, fzAt, D.fz, wpE, mgE, List.contains_cons, List.contains_nil, Nat.reduceBEq, Bool.or_false, Bool.or_true, Bool.false_or, Bool.true_or, seqF_eq, andThen_nx, andThen_bk, andThen_ct, andThen_rt, retV_rt, retV_nx, nxF, bkF, ctF, rtF, rnF, rmF, stF, exF, put, parF, agF, ifS, forF_eq, flF_nil, flF_cons, flK_nx, flK_ct, flK_bk, flK_rt, tbF, ttF, andF, orF, notF, andV, orV, ifF, chF, b1, b2, bN, clF_val, aNil, aCons, nmF, ownF, cF, fzF, itF, inF, itOf, rng1, rng2, yesF, dTru, dNot, I.isi_non_tuple, I.isi_non_list, I.isi_non_bool, I.isi_non_int, I.isi_non_str, I.isi_bl_tuple, I.isi_bl_list, I.isi_bl_bool, I.isi_bl_int, I.isi_bl_str, I.isi_int_tuple, I.isi_int_list, I.isi_int_bool, I.isi_int_int, I.isi_int_str, I.isi_str_tuple, I.isi_str_list, I.isi_str_bool, I.isi_str_int, I.isi_str_str, I.isi_tup_tuple, I.isi_tup_list, I.isi_tup_bool, I.isi_tup_int, I.isi_tup_str, I.isi_lst_tuple, I.isi_lst_list, I.isi_lst_bool, I.isi_lst_int, I.isi_lst_str, I.isi_scr_tuple, I.isi_scr_list, I.isi_scr_bool, I.isi_scr_int, I.isi_scr_str, dEq_bl, dNe_bl, dIsN_non, dIsN_bl, dIsN_int, dIsN_str, dIsN_tup, dIsN_lst, dAdd_int, dSub_int, dEq_int, dNe_int, dLt_int, dLe_int, dGt_int, dGe_int, dAddI_int, asB_bl, dIx_tup0, dIx_tup1, fLen, fAbs, fInt, fMax2, fMin2, gTupF, gsCons, gsNil, D.pure, D.pures, Bool.not_true, Bool.not_false, Bool.and_true, Bool.true_and, Bool.and_false, Bool.false_and, Option.bind_some, Option.bind_none, Option.map_some, Option.map_none, bind_ite, map_ite, List.map_cons, List.map_nil, List.replicate, List.cons_append, List.nil_append, List.append_nil, List.getElem?_cons_zero, List.getElem?_cons_succ, List.set_cons_zero, List.set_cons_succ, List.length_cons, List.length_nil, Nat.reduceAdd, Nat.reduceLT, Nat.zero_add, Nat.lt_add_one, if_true, if_false, ite_true, ite_false, decide_eq_true_eq, Bool.false_eq_true, reduceCtorEq, reduceIte, Nat.reduceLeDiff, Nat.reduceEqDiff], rfl, hpl, by simpa using ⟨h0, lq⟩, by simp⟩
    fun y zs acc e ⟨p', l, he, ha, hp', ⟨hl, hy⟩, hq'⟩ => by
      subst he ha
      obtain ⟨r1, p1, e1, hp1, a1, a2⟩ := draw_ok hp' (m := 7) (by omega) (by omega)
      have q1 := lendE (k := 1) (e := EV (some s) (some p') (some (.int n)) (some (.lst false (P.map vecD))) (some (vecD x)) (some (.lst false ((labs P x).map fr))) v b (ki k) o d10 (some (vecD (mixv n (labs P x) P))) (some (fr (gap x (mixv n (labs P x) P)))) d13 d14 d15 d16 none (some (fr y)) none) (FE := cF (.int 7)) e1 hp' rfl rfl
      simp only [EV, ki, List.set_cons_zero, List.set_cons_succ] at q1
      have tt := tup_int (r1 - 3)
      have hz := Hq.int (r1 - 3)
      have hy' := hy y (by simp)
      refine ⟨EV (some s) (some p') (some (.int n)) (some (.lst false (P.map vecD))) (some (vecD x)) (some (.lst false ((labs P x).map fr))) v b (ki k) o d10 (some (vecD (mixv n (labs P x) P))) (some (fr (gap x (mixv n (labs P x) P)))) d13 d14 d15 d16 none (some (fr y)) none,
        fr (y + ((r1 - 3 : Int) : Rat)), EV (some s) (some p1) (some (.int n)) (some (.lst false (P.map vecD))) (some (vecD x)) (some (.lst false ((labs P x).map fr))) v b (ki k) o d10 (some (vecD (mixv n (labs P x) P))) (some (fr (gap x (mixv n (labs P x) P)))) d13 d14 d15 d16 none (some (fr y)) none,
        by simp only [EV, ki, val_fnF, zsF_eq, fzAt, D.fz, wpE, mgE, List.contains_cons, List.contains_nil, Nat.reduceBEq, Bool.or_false, Bool.or_true, Bool.false_or, Bool.true_or, seqF_eq, andThen_nx, andThen_bk, andThen_ct, andThen_rt, retV_rt, retV_nx, nxF, bkF, ctF, rtF, rnF, rmF, stF, exF, put, parF, agF, ifS, forF_eq, flF_nil, flF_cons, flK_nx, flK_ct, flK_bk, flK_rt, tbF, ttF, andF, orF, notF, andV, orV, ifF, chF, b1, b2, bN, clF_val, aNil, aCons, nmF, ownF, cF, fzF, itF, inF, itOf, rng1, rng2, yesF, dTru, dNot, I.isi_non_tuple, I.isi_non_list, I.isi_non_bool, I.isi_non_int, I.isi_non_str, I.isi_bl_tuple, I.isi_bl_list, I.isi_bl_bool, I.isi_bl_int, I.isi_bl_str, I.isi_int_tuple, I.isi_int_list, I.isi_int_bool, I.isi_int_int, I.isi_int_str, I.isi_str_tuple, I.isi_str_list, I.isi_str_bool, I.isi_str_int, I.isi_str_str, I.isi_tup_tuple, I.isi_tup_list, I.isi_tup_bool, I.isi_tup_int, I.isi_tup_str, I.isi_lst_tuple, I.isi_lst_list, I.isi_lst_bool, I.isi_lst_int, I.isi_lst_str, I.isi_scr_tuple, I.isi_scr_list, I.isi_scr_bool, I.isi_scr_int, I.isi_scr_str, dEq_bl, dNe_bl, dIsN_non, dIsN_bl, dIsN_int, dIsN_str, dIsN_tup, dIsN_lst, dAdd_int, dSub_int, dEq_int, dNe_int, dLt_int, dLe_int, dGt_int, dGe_int, dAddI_int, asB_bl, dIx_tup0, dIx_tup1, fLen, fAbs, fInt, fMax2, fMin2, gTupF, gsCons, gsNil, D.pure, D.pures, Bool.not_true, Bool.not_false, Bool.and_true, Bool.true_and, Bool.and_false, Bool.false_and, Option.bind_some, Option.bind_none, Option.map_some, Option.map_none, bind_ite, map_ite, List.map_cons, List.map_nil, List.replicate, List.cons_append, List.nil_append, List.append_nil, List.getElem?_cons_zero, List.getElem?_cons_succ, List.set_cons_zero, List.set_cons_succ, List.length_cons, List.length_nil, Nat.reduceAdd, Nat.reduceLT, Nat.zero_add, Nat.lt_add_one, if_true, if_false, ite_true, ite_false, decide_eq_true_eq, Bool.false_eq_true, reduceCtorEq, reduceIte, Nat.reduceLeDiff, Nat.reduceEqDiff], ?_, p1, l ++ [y + ((r1 - 3 : Int) : Rat)], by simp only [EV, ki, val_fnF, zsF_eq, fzAt, D.fz, wpE, mgE, List.contains_cons, List.contains_nil, Nat.reduceBEq, Bool.or_false, Bool.or_true, Bool.false_or, Bool.true_or, seqF_eq, andThen_nx, andThen_bk, andThen_ct, andThen_rt, retV_rt, retV_nx, nxF, bkF, ctF, rtF, rnF, rmF, stF, exF, put, parF, agF, ifS, forF_eq, flF_nil, flF_cons, flK_nx, flK_ct, flK_bk, flK_rt, tbF, ttF, andF, orF, notF, andV, orV, ifF, chF, b1, b2, bN, clF_val, aNil, aCons, nmF, ownF, cF, fzF, itF, inF, itOf, rng1, rng2, yesF, dTru, dNot, I.isi_non_tuple, I.isi_non_list, I.isi_non_bool, I.isi_non_int, I.isi_non_str, I.isi_bl_tuple, I.isi_bl_list, I.isi_bl_bool, I.isi_bl_int, I.isi_bl_str, I.isi_int_tuple, I.isi_int_list, I.isi_int_bool, I.isi_int_int, I.isi_int_str, I.isi_str_tuple, I.isi_str_list, I.isi_str_bool, I.isi_str_int, I.isi_str_str, I.isi_tup_tuple, I.isi_tup_list, I.isi_tup_bool, I.isi_tup_int, I.isi_tup_str, I.isi_lst_tuple, I.isi_lst_list, I.isi_lst_bool, I.isi_lst_int, I.isi_lst_str, I.isi_scr_tuple, I.isi_scr_list, I.isi_scr_bool, I.isi_scr_int, I.isi_scr_str, dEq_bl, dNe_bl, dIsN_non, dIsN_bl, dIsN_int, dIsN_str, dIsN_tup, dIsN_lst, dAdd_int, dSub_int, dEq_int, dNe_int, dLt_int, dLe_int, dGt_int, dGe_int, dAddI_int, asB_bl, dIx_tup0, dIx_tup1, fLen, fAbs, fInt, fMax2, fMin2, gTupF, gsCons, gsNil, D.pure, D.pures, Bool.not_true, Bool.not_false, Bool.and_true, Bool.true_and, Bool.and_false, Bool.false_and, Option.bind_some, Option.bind_none, Option.map_some, Option.map_none, bind_ite, map_ite, List.map_cons, List.map_nil, List.replicate, List.cons_append, List.nil_append, List.append_nil, List.getElem?_cons_zero, List.getElem?_cons_succ, List.set_cons_zero, List.set_cons_succ, List.length_cons, List.length_nil, Nat.reduceAdd, Nat.reduceLT, Nat.zero_add, Nat.lt_add_one, if_true, if_false, ite_true, ite_false, decide_eq_true_eq, Bool.false_eq_true, reduceCtorEq, reduceIte, Nat.reduceLeDiff, Nat.reduceEqDiff], by simp, hp1, ⟨by simp at hl ⊢; omega, fun q hq => hy q (by simp [hq])⟩, ?_⟩
      · simp only [E_law_6, EV, ki, val_fnF, zsF_eq, fzAt, D.fz, wpE, mgE, List.contains_cons, List.contains_nil, Nat.reduceBEq, Bool.or_false, Bool.or_true, Bool.false_or, Bool.true_or, seqF_eq, andThen_nx, andThen_bk, andThen_ct, andThen_rt, retV_rt, retV_nx, nxF, bkF, ctF, rtF, rnF, rmF, stF, exF, put, parF, agF, ifS, forF_eq, flF_nil, flF_cons, flK_nx, flK_ct, flK_bk, flK_rt, tbF, ttF, andF, orF, notF, andV, orV, ifF, chF, b1, b2, bN, clF_val, aNil, aCons, nmF, ownF, cF, fzF, itF, inF, itOf, rng1, rng2, yesF, dTru, dNot, I.isi_non_tuple, I.isi_non_list, I.isi_non_bool, I.isi_non_int, I.isi_non_str, I.isi_bl_tuple, I.isi_bl_list, I.isi_bl_bool, I.isi_bl_int, I.isi_bl_str, I.isi_int_tuple, I.isi_int_list, I.isi_int_bool, I.isi_int_int, I.isi_int_str, I.isi_str_tuple, I.isi_str_list, I.isi_str_bool, I.isi_str_int, I.isi_str_str, I.isi_tup_tuple, I.isi_tup_list, I.isi_tup_bool, I.isi_tup_int, I.isi_tup_str, I.isi_lst_tuple, I.isi_lst_list, I.isi_lst_bool, I.isi_lst_int, I.isi_lst_str, I.isi_scr_tuple, I.isi_scr_list, I.isi_scr_bool, I.isi_scr_int, I.isi_scr_str, dEq_bl, dNe_bl, dIsN_non, dIsN_bl, dIsN_int, dIsN_str, dIsN_tup, dIsN_lst, dAdd_int, dSub_int, dEq_int, dNe_int, dLt_int, dLe_int, dGt_int, dGe_int, dAddI_int, asB_bl, dIx_tup0, dIx_tup1, fLen, fAbs, fInt, fMax2, fMin2, gTupF, gsCons, gsNil, D.pure, D.pures, Bool.not_true, Bool.not_false, Bool.and_true, Bool.true_and, Bool.and_false, Bool.false_and, Option.bind_some, Option.bind_none, Option.map_some, Option.map_none, bind_ite, map_ite, List.map_cons, List.map_nil, List.replicate, List.cons_append, List.nil_append, List.append_nil, List.getElem?_cons_zero, List.getElem?_cons_succ, List.set_cons_zero, List.set_cons_succ, List.length_cons, List.length_nil, Nat.reduceAdd, Nat.reduceLT, Nat.zero_add, Nat.lt_add_one, if_true, if_false, ite_true, ite_false, decide_eq_true_eq, Bool.false_eq_true, reduceCtorEq, reduceIte, Nat.reduceLeDiff, Nat.reduceEqDiff, q1, tt, pure_fr, ladd_eq hy'.den hz.den]
      · intro q hq
        rcases List.mem_append.mp hq with w | w
        · exact hq' q w
        · rw [List.mem_singleton.mp w]; exact hy'.add hz
  refine ⟨p', l, ?_, hp', by simpa using hl.1, hq'⟩
  rw [h1]
  simp only [EV, ki, val_fnF, zsF_eq, fzAt, D.fz, wpE, mgE, List.contains_cons, List.contains_nil, Nat.reduceBEq, Bool.or_false, Bool.or_true, Bool.false_or, Bool.true_or, seqF_eq, andThen_nx, andThen_bk, andThen_ct, andThen_rt, retV_rt, retV_nx, nxF, bkF, ctF, rtF, rnF, rmF, stF, exF, put, parF, agF, ifS, forF_eq, flF_nil, flF_cons, flK_nx, flK_ct, flK_bk, flK_rt, tbF, ttF, andF, orF, notF, andV, orV, ifF, chF, b1, b2, bN, clF_val, aNil, aCons, nmF, ownF, cF, fzF, itF, inF, itOf, rng1, rng2, yesF, dTru, dNot, I.isi_non_tuple, I.isi_non_list, I.isi_non_bool, I.isi_non_int, I.isi_non_str, I.isi_bl_tuple, I.isi_bl_list, I.isi_bl_bool, I.isi_bl_int, I.isi_bl_str, I.isi_int_tuple, I.isi_int_list, I.isi_int_bool, I.isi_int_int, I.isi_int_str, I.isi_str_tuple, I.isi_str_list, I.isi_str_bool, I.isi_str_int, I.isi_str_str, I.isi_tup_tuple, I.isi_tup_list, I.isi_tup_bool, I.isi_tup_int, I.isi_tup_str, I.isi_lst_tuple, I.isi_lst_list, I.isi_lst_bool, I.isi_lst_int, I.isi_lst_str, I.isi_scr_tuple, I.isi_scr_list, I.isi_scr_bool, I.isi_scr_int, I.isi_scr_str, dEq_bl, dNe_bl, dIsN_non, dIsN_bl, dIsN_int, dIsN_str, dIsN_tup, dIsN_lst, dAdd_int, dSub_int, dEq_int, dNe_int, dLt_int, dLe_int, dGt_int, dGe_int, dAddI_int, asB_bl, dIx_tup0, dIx_tup1, fLen, fAbs, fInt, fMax2, fMin2, gTupF, gsCons, gsNil, D.pure, D.pures, Bool.not_true, Bool.not_false, Bool.and_true, Bool.true_and, Bool.and_false, Bool.false_and, Option.bind_some, Option.bind_none, Option.map_some, Option.map_none, bind_ite, map_ite, List.map_cons, List.map_nil, List.replicate, List.cons_append, List.nil_append, List.append_nil, List.getElem?_cons_zero, List.getElem?_cons_succ, List.set_cons_zero, List.set_cons_succ, List.length_cons, List.length_nil, Nat.reduceAdd, Nat.reduceLT, Nat.zero_add, Nat.lt_add_one, if_true, if_false, ite_true, ite_false, decide_eq_true_eq, Bool.false_eq_true, reduceCtorEq, reduceIte, Nat.reduceLeDiff, Nat.reduceEqDiff]
end
end
end G33

set_option Elab.async false
set_option linter.all false
set_option maxRecDepth 100000
set_option maxHeartbeats 2000000
namespace G33
open PySem L2 Pz
noncomputable section
section
variable {s p : D} {n : Nat} {P : List (List Rat)} {x : List Rat}
theorem turn_ok {v b o d10 d13 d14 d15 d16 : Option D} {k : Option Nat} (h : Pts n P) (n0 : 0 < n) (h0 : 0 < P.length) (hx : x.length = n) (hq : ∀ q ∈ x, Hq q) (hpl : Pl p) (ob : Bool) :
    ∃ p' d14' d15' d16', L_law_11 (EV (some s) (some p) (some (.int n)) (some (.lst false (P.map vecD))) (some (vecD x)) (some (.lst ob ((labs P x).map fr))) v b (ki k) o d10 (some (vecD (mixv n (labs P x) P))) (some (fr (gap x (mixv n (labs P x) P)))) d13 d14 d15 d16 none none none) =
      some (.nx, EV (some s) (some p') (some (.int n)) (some (.lst false (P.map vecD))) (some (vecD x)) (some (.lst false ((labs P x).map fr))) v b (ki k) o d10 (some (vecD (mixv n (labs P x) P))) (some (fr (gap x (mixv n (labs P x) P)))) d13 d14' d15' d16' none none none) ∧ Pl p' := by
  have hn := h.wid
  have lq := labs_Hq h n0 hx hq
  have tq := mix_Hq h h0 labs_len lq
  obtain ⟨p', m, q, hp', hm, mq⟩ := moved_ok (s := s) (p := p) (n := n) (v := v) (b := b) (o := o) (d10 := d10) (d13 := d13) (d14 := d14) (d15 := d15) (d16 := d16) (k := k) labs_len h.len lq hpl ob
  have lm := law_mix_ok h h0 hm mq false
  have lm' : val F__law_mix [.lst false (P.map vecD), .lst false (m.map fr)] = some (vecD (mixv n m P)) := by simp only [val, lm, Option.map_some]
  have yq := mix_Hq h h0 hm mq
  have g := law_gap_eq n0 hn hx (y := mixv n m P) mix_len hq yq
  have dd := distance_eq n0 hn hx (y := mixv n m P) mix_len hq yq
  have gl := gap_least h n0 h0 hx hm
  have gn : ¬ gap x (mixv n m P) < gap x (mixv n (labs P x) P) := by rw [Rat.not_lt]; exact gl
  have l1 := lless_eq (gap_Hq n0 hx (y := mixv n m P) mix_len hq yq).den (gap_Hq n0 hx (y := mixv n (labs P x) P) mix_len hq tq).den
  rw [decide_eq_false gn] at l1
  have okA : okE [8] 0 (EV (some s) (some p') (some (.int n)) (some (.lst false (P.map vecD))) (some (vecD x)) (some (.lst false ((labs P x).map fr))) v b (ki k) o d10 (some (vecD (mixv n (labs P x) P))) (some (fr (gap x (mixv n (labs P x) P)))) d13 (some (.lst false (m.map fr))) (some (vecD (mixv n m P))) d16 none none none) = true := by
    cases k <;> cases v <;> cases b <;> cases o <;> cases d10 <;> cases d13 <;> cases d16 <;> rfl
  have ll := less_list (u := mixv n m P) (w := x) (iu := 15) (iw := 4) (n := n) (env := EV (some s) (some p') (some (.int n)) (some (.lst false (P.map vecD))) (some (vecD x)) (some (.lst false ((labs P x).map fr))) v b (ki k) o d10 (some (vecD (mixv n (labs P x) P))) (some (fr (gap x (mixv n (labs P x) P)))) d13 (some (.lst false (m.map fr))) (some (vecD (mixv n m P))) d16 none none none) rfl (by decide) (by decide) rfl rfl rfl mix_len hx hn yq hq okA (FC := I_law_7) rfl (FE := E_law_7) rfl
  obtain ⟨c, hc⟩ : ∃ c : Bool, c = decide (((((List.range n).filter fun k => decide ((mixv n m P).getD k 0 < x.getD k 0)).length : Nat) : Int) = 0) := ⟨_, rfl⟩
  have okB : okE [8] 0 (EV (some s) (some p') (some (.int n)) (some (.lst false (P.map vecD))) (some (vecD x)) (some (.lst false ((labs P x).map fr))) v b (ki k) o d10 (some (vecD (mixv n (labs P x) P))) (some (fr (gap x (mixv n (labs P x) P)))) d13 (some (.lst false (m.map fr))) (some (vecD (mixv n m P))) (some (.bl c)) none none none) = true := by
    cases k <;> cases v <;> cases b <;> cases o <;> cases d10 <;> cases d13 <;> rfl
  have l2 := less_list (u := mixv n m P) (w := mixv n (labs P x) P) (iu := 15) (iw := 11) (n := n) (env := EV (some s) (some p') (some (.int n)) (some (.lst false (P.map vecD))) (some (vecD x)) (some (.lst false ((labs P x).map fr))) v b (ki k) o d10 (some (vecD (mixv n (labs P x) P))) (some (fr (gap x (mixv n (labs P x) P)))) d13 (some (.lst false (m.map fr))) (some (vecD (mixv n m P))) (some (.bl c)) none none none) rfl (by decide) (by decide) rfl rfl rfl mix_len mix_len hn yq tq okB (FC := I_law_9) rfl (FE := E_law_9) rfl
  simp only [EV, ki, wpE, mgE, val_fnF, zsF_eq, fzAt, D.fz, wpE, mgE, List.contains_cons, List.contains_nil, Nat.reduceBEq, Bool.or_false, Bool.or_true, Bool.false_or, Bool.true_or, seqF_eq, andThen_nx, andThen_bk, andThen_ct, andThen_rt, retV_rt, retV_nx, nxF, bkF, ctF, rtF, rnF, rmF, stF, exF, put, parF, agF, ifS, forF_eq, flF_nil, flF_cons, flK_nx, flK_ct, flK_bk, flK_rt, tbF, ttF, andF, orF, notF, andV, orV, ifF, chF, b1, b2, bN, clF_val, aNil, aCons, nmF, ownF, cF, fzF, itF, inF, itOf, rng1, rng2, yesF, dTru, dNot, I.isi_non_tuple, I.isi_non_list, I.isi_non_bool, I.isi_non_int, I.isi_non_str, I.isi_bl_tuple, I.isi_bl_list, I.isi_bl_bool, I.isi_bl_int, I.isi_bl_str, I.isi_int_tuple, I.isi_int_list, I.isi_int_bool, I.isi_int_int, I.isi_int_str, I.isi_str_tuple, I.isi_str_list, I.isi_str_bool, I.isi_str_int, I.isi_str_str, I.isi_tup_tuple, I.isi_tup_list, I.isi_tup_bool, I.isi_tup_int, I.isi_tup_str, I.isi_lst_tuple, I.isi_lst_list, I.isi_lst_bool, I.isi_lst_int, I.isi_lst_str, I.isi_scr_tuple, I.isi_scr_list, I.isi_scr_bool, I.isi_scr_int, I.isi_scr_str, dEq_bl, dNe_bl, dIsN_non, dIsN_bl, dIsN_int, dIsN_str, dIsN_tup, dIsN_lst, dAdd_int, dSub_int, dEq_int, dNe_int, dLt_int, dLe_int, dGt_int, dGe_int, dAddI_int, asB_bl, dIx_tup0, dIx_tup1, fLen, fAbs, fInt, fMax2, fMin2, gTupF, gsCons, gsNil, D.pure, D.pures, Bool.not_true, Bool.not_false, Bool.and_true, Bool.true_and, Bool.and_false, Bool.false_and, Option.bind_some, Option.bind_none, Option.map_some, Option.map_none, bind_ite, map_ite, List.map_cons, List.map_nil, List.replicate, List.cons_append, List.nil_append, List.append_nil, List.getElem?_cons_zero, List.getElem?_cons_succ, List.set_cons_zero, List.set_cons_succ, List.length_cons, List.length_nil, Nat.reduceAdd, Nat.reduceLT, Nat.zero_add, Nat.lt_add_one, if_true, if_false, ite_true, ite_false, decide_eq_true_eq, Bool.false_eq_true, reduceCtorEq, reduceIte, Nat.reduceLeDiff, Nat.reduceEqDiff] at q ll l2
  refine ⟨p', some (.lst false (m.map fr)), some (vecD (mixv n m P)), some (.bl c), ?_, hp'⟩
  simp only [L_law_11, EV, ki, val_fnF, zsF_eq, fzAt, D.fz, wpE, mgE, List.contains_cons, List.contains_nil, Nat.reduceBEq, Bool.or_false, Bool.or_true, Bool.false_or, Bool.true_or, seqF_eq, andThen_nx, andThen_bk, andThen_ct, andThen_rt, retV_rt, retV_nx, nxF, bkF, ctF, rtF, rnF, rmF, stF, exF, put, parF, agF, ifS, forF_eq, flF_nil, flF_cons, flK_nx, flK_ct, flK_bk, flK_rt, tbF, ttF, andF, orF, notF, andV, orV, ifF, chF, b1, b2, bN, clF_val, aNil, aCons, nmF, ownF, cF, fzF, itF, inF, itOf, rng1, rng2, yesF, dTru, dNot, I.isi_non_tuple, I.isi_non_list, I.isi_non_bool, I.isi_non_int, I.isi_non_str, I.isi_bl_tuple, I.isi_bl_list, I.isi_bl_bool, I.isi_bl_int, I.isi_bl_str, I.isi_int_tuple, I.isi_int_list, I.isi_int_bool, I.isi_int_int, I.isi_int_str, I.isi_str_tuple, I.isi_str_list, I.isi_str_bool, I.isi_str_int, I.isi_str_str, I.isi_tup_tuple, I.isi_tup_list, I.isi_tup_bool, I.isi_tup_int, I.isi_tup_str, I.isi_lst_tuple, I.isi_lst_list, I.isi_lst_bool, I.isi_lst_int, I.isi_lst_str, I.isi_scr_tuple, I.isi_scr_list, I.isi_scr_bool, I.isi_scr_int, I.isi_scr_str, dEq_bl, dNe_bl, dIsN_non, dIsN_bl, dIsN_int, dIsN_str, dIsN_tup, dIsN_lst, dAdd_int, dSub_int, dEq_int, dNe_int, dLt_int, dLe_int, dGt_int, dGe_int, dAddI_int, asB_bl, dIx_tup0, dIx_tup1, fLen, fAbs, fInt, fMax2, fMin2, gTupF, gsCons, gsNil, D.pure, D.pures, Bool.not_true, Bool.not_false, Bool.and_true, Bool.true_and, Bool.and_false, Bool.false_and, Option.bind_some, Option.bind_none, Option.map_some, Option.map_none, bind_ite, map_ite, List.map_cons, List.map_nil, List.replicate, List.cons_append, List.nil_append, List.append_nil, List.getElem?_cons_zero, List.getElem?_cons_succ, List.set_cons_zero, List.set_cons_succ, List.length_cons, List.length_nil, Nat.reduceAdd, Nat.reduceLT, Nat.zero_add, Nat.lt_add_one, if_true, if_false, ite_true, ite_false, decide_eq_true_eq, Bool.false_eq_true, reduceCtorEq, reduceIte, Nat.reduceLeDiff, Nat.reduceEqDiff, q, fzs_fr, pures_fr, pures_vec, lm', pure_vec, g, dd, pure_fr, same_fr, l1, ll, List.length_map, ← hc]
  cases c with
  | false => simp only [val_fnF, zsF_eq, fzAt, D.fz, wpE, mgE, List.contains_cons, List.contains_nil, Nat.reduceBEq, Bool.or_false, Bool.or_true, Bool.false_or, Bool.true_or, seqF_eq, andThen_nx, andThen_bk, andThen_ct, andThen_rt, retV_rt, retV_nx, nxF, bkF, ctF, rtF, rnF, rmF, stF, exF, put, parF, agF, ifS, forF_eq, flF_nil, flF_cons, flK_nx, flK_ct, flK_bk, flK_rt, tbF, ttF, andF, orF, notF, andV, orV, ifF, chF, b1, b2, bN, clF_val, aNil, aCons, nmF, ownF, cF, fzF, itF, inF, itOf, rng1, rng2, yesF, dTru, dNot, I.isi_non_tuple, I.isi_non_list, I.isi_non_bool, I.isi_non_int, I.isi_non_str, I.isi_bl_tuple, I.isi_bl_list, I.isi_bl_bool, I.isi_bl_int, I.isi_bl_str, I.isi_int_tuple, I.isi_int_list, I.isi_int_bool, I.isi_int_int, I.isi_int_str, I.isi_str_tuple, I.isi_str_list, I.isi_str_bool, I.isi_str_int, I.isi_str_str, I.isi_tup_tuple, I.isi_tup_list, I.isi_tup_bool, I.isi_tup_int, I.isi_tup_str, I.isi_lst_tuple, I.isi_lst_list, I.isi_lst_bool, I.isi_lst_int, I.isi_lst_str, I.isi_scr_tuple, I.isi_scr_list, I.isi_scr_bool, I.isi_scr_int, I.isi_scr_str, dEq_bl, dNe_bl, dIsN_non, dIsN_bl, dIsN_int, dIsN_str, dIsN_tup, dIsN_lst, dAdd_int, dSub_int, dEq_int, dNe_int, dLt_int, dLe_int, dGt_int, dGe_int, dAddI_int, asB_bl, dIx_tup0, dIx_tup1, fLen, fAbs, fInt, fMax2, fMin2, gTupF, gsCons, gsNil, D.pure, D.pures, Bool.not_true, Bool.not_false, Bool.and_true, Bool.true_and, Bool.and_false, Bool.false_and, Option.bind_some, Option.bind_none, Option.map_some, Option.map_none, bind_ite, map_ite, List.map_cons, List.map_nil, List.replicate, List.cons_append, List.nil_append, List.append_nil, List.getElem?_cons_zero, List.getElem?_cons_succ, List.set_cons_zero, List.set_cons_succ, List.length_cons, List.length_nil, Nat.reduceAdd, Nat.reduceLT, Nat.zero_add, Nat.lt_add_one, if_true, if_false, ite_true, ite_false, decide_eq_true_eq, Bool.false_eq_true, reduceCtorEq, reduceIte, Nat.reduceLeDiff, Nat.reduceEqDiff]
  | true =>
    have hc' := of_decide_eq_true hc.symm
    have e : (List.range n).filter (fun k => decide ((mixv n m P).getD k 0 < x.getD k 0)) = [] := by
      refine List.length_eq_zero_iff.mp ?_
      omega
    rw [List.filter_eq_nil_iff] at e
    have low := fun k (hk : k < n) => told_least h n0 h0 hx hm (fun k hk => by
      have := e k (by simpa using hk)
      rw [decide_eq_true_eq, Rat.not_lt] at this
      exact this) hk
    rw [none_len (fun k hk => by have := low k hk; rw [Rat.not_lt]; exact this)] at l2
    simp only [val_fnF, zsF_eq, fzAt, D.fz, wpE, mgE, List.contains_cons, List.contains_nil, Nat.reduceBEq, Bool.or_false, Bool.or_true, Bool.false_or, Bool.true_or, seqF_eq, andThen_nx, andThen_bk, andThen_ct, andThen_rt, retV_rt, retV_nx, nxF, bkF, ctF, rtF, rnF, rmF, stF, exF, put, parF, agF, ifS, forF_eq, flF_nil, flF_cons, flK_nx, flK_ct, flK_bk, flK_rt, tbF, ttF, andF, orF, notF, andV, orV, ifF, chF, b1, b2, bN, clF_val, aNil, aCons, nmF, ownF, cF, fzF, itF, inF, itOf, rng1, rng2, yesF, dTru, dNot, I.isi_non_tuple, I.isi_non_list, I.isi_non_bool, I.isi_non_int, I.isi_non_str, I.isi_bl_tuple, I.isi_bl_list, I.isi_bl_bool, I.isi_bl_int, I.isi_bl_str, I.isi_int_tuple, I.isi_int_list, I.isi_int_bool, I.isi_int_int, I.isi_int_str, I.isi_str_tuple, I.isi_str_list, I.isi_str_bool, I.isi_str_int, I.isi_str_str, I.isi_tup_tuple, I.isi_tup_list, I.isi_tup_bool, I.isi_tup_int, I.isi_tup_str, I.isi_lst_tuple, I.isi_lst_list, I.isi_lst_bool, I.isi_lst_int, I.isi_lst_str, I.isi_scr_tuple, I.isi_scr_list, I.isi_scr_bool, I.isi_scr_int, I.isi_scr_str, dEq_bl, dNe_bl, dIsN_non, dIsN_bl, dIsN_int, dIsN_str, dIsN_tup, dIsN_lst, dAdd_int, dSub_int, dEq_int, dNe_int, dLt_int, dLe_int, dGt_int, dGe_int, dAddI_int, asB_bl, dIx_tup0, dIx_tup1, fLen, fAbs, fInt, fMax2, fMin2, gTupF, gsCons, gsNil, D.pure, D.pures, Bool.not_true, Bool.not_false, Bool.and_true, Bool.true_and, Bool.and_false, Bool.false_and, Option.bind_some, Option.bind_none, Option.map_some, Option.map_none, bind_ite, map_ite, List.map_cons, List.map_nil, List.replicate, List.cons_append, List.nil_append, List.append_nil, List.getElem?_cons_zero, List.getElem?_cons_succ, List.set_cons_zero, List.set_cons_succ, List.length_cons, List.length_nil, Nat.reduceAdd, Nat.reduceLT, Nat.zero_add, Nat.lt_add_one, if_true, if_false, ite_true, ite_false, decide_eq_true_eq, Bool.false_eq_true, reduceCtorEq, reduceIte, Nat.reduceLeDiff, Nat.reduceEqDiff] at l2
    simp only [val_fnF, zsF_eq, fzAt, D.fz, wpE, mgE, List.contains_cons, List.contains_nil, Nat.reduceBEq, Bool.or_false, Bool.or_true, Bool.false_or, Bool.true_or, seqF_eq, andThen_nx, andThen_bk, andThen_ct, andThen_rt, retV_rt, retV_nx, nxF, bkF, ctF, rtF, rnF, rmF, stF, exF, put, parF, agF, ifS, forF_eq, flF_nil, flF_cons, flK_nx, flK_ct, flK_bk, flK_rt, tbF, ttF, andF, orF, notF, andV, orV, ifF, chF, b1, b2, bN, clF_val, aNil, aCons, nmF, ownF, cF, fzF, itF, inF, itOf, rng1, rng2, yesF, dTru, dNot, I.isi_non_tuple, I.isi_non_list, I.isi_non_bool, I.isi_non_int, I.isi_non_str, I.isi_bl_tuple, I.isi_bl_list, I.isi_bl_bool, I.isi_bl_int, I.isi_bl_str, I.isi_int_tuple, I.isi_int_list, I.isi_int_bool, I.isi_int_int, I.isi_int_str, I.isi_str_tuple, I.isi_str_list, I.isi_str_bool, I.isi_str_int, I.isi_str_str, I.isi_tup_tuple, I.isi_tup_list, I.isi_tup_bool, I.isi_tup_int, I.isi_tup_str, I.isi_lst_tuple, I.isi_lst_list, I.isi_lst_bool, I.isi_lst_int, I.isi_lst_str, I.isi_scr_tuple, I.isi_scr_list, I.isi_scr_bool, I.isi_scr_int, I.isi_scr_str, dEq_bl, dNe_bl, dIsN_non, dIsN_bl, dIsN_int, dIsN_str, dIsN_tup, dIsN_lst, dAdd_int, dSub_int, dEq_int, dNe_int, dLt_int, dLe_int, dGt_int, dGe_int, dAddI_int, asB_bl, dIx_tup0, dIx_tup1, fLen, fAbs, fInt, fMax2, fMin2, gTupF, gsCons, gsNil, D.pure, D.pures, Bool.not_true, Bool.not_false, Bool.and_true, Bool.true_and, Bool.and_false, Bool.false_and, Option.bind_some, Option.bind_none, Option.map_some, Option.map_none, bind_ite, map_ite, List.map_cons, List.map_nil, List.replicate, List.cons_append, List.nil_append, List.append_nil, List.getElem?_cons_zero, List.getElem?_cons_succ, List.set_cons_zero, List.set_cons_succ, List.length_cons, List.length_nil, Nat.reduceAdd, Nat.reduceLT, Nat.zero_add, Nat.lt_add_one, if_true, if_false, ite_true, ite_false, decide_eq_true_eq, Bool.false_eq_true, reduceCtorEq, reduceIte, Nat.reduceLeDiff, Nat.reduceEqDiff, l2]
    simp
theorem turns_ok {v b o d10 : Option D} {k : Option Nat} (h : Pts n P) (n0 : 0 < n) (h0 : 0 < P.length) (hx : x.length = n) (hq : ∀ q ∈ x, Hq q) (hpl : Pl p) :
    ∃ p' ob d13 d14 d15 d16, Pl p' ∧ S_law_14 (EV (some s) (some p) (some (.int n)) (some (.lst false (P.map vecD))) (some (vecD x)) (some (.lst true ((labs P x).map fr))) v b (ki k) o d10 (some (vecD (mixv n (labs P x) P))) (some (fr (gap x (mixv n (labs P x) P)))) none none none none none none none) =
      S_law_15 (EV (some s) (some p') (some (.int n)) (some (.lst false (P.map vecD))) (some (vecD x)) (some (.lst ob ((labs P x).map fr))) v b (ki k) o d10 (some (vecD (mixv n (labs P x) P))) (some (fr (gap x (mixv n (labs P x) P)))) d13 d14 d15 d16 none none none) := by
  obtain ⟨e, h1, p', ob, d13, d14, d15, d16, rfl, hp'⟩ := flF_rel (FT := put 13) (FB := L_law_11) (fun i : Nat => D.int (i : Int))
    (fun ys e => ∃ (p' : D) (ob : Bool) (d13 d14 d15 d16 : Option D), e = EV (some s) (some p') (some (.int n)) (some (.lst false (P.map vecD))) (some (vecD x)) (some (.lst ob ((labs P x).map fr))) v b (ki k) o d10 (some (vecD (mixv n (labs P x) P))) (some (fr (gap x (mixv n (labs P x) P)))) d13 d14 d15 d16 none none none ∧ Pl p') (List.range (6 : Int).toNat)
    (EV (some s) (some p) (some (.int n)) (some (.lst false (P.map vecD))) (some (vecD x)) (some (.lst true ((labs P x).map fr))) v b (ki k) o d10 (some (vecD (mixv n (labs P x) P))) (some (fr (gap x (mixv n (labs P x) P)))) none none none none none none none) ⟨p, true, none, none, none, none, rfl, hpl⟩
    fun y zs e ⟨p', ob, d13, d14, d15, d16, he, hp'⟩ => by
      subst he
      obtain ⟨p2, e14, e15, e16, q, hp2⟩ := turn_ok (s := s) (v := v) (b := b) (o := o) (d10 := d10) (d13 := some (.int y)) (d14 := d14) (d15 := d15) (d16 := d16) (k := k) h n0 h0 hx hq hp' ob
      refine ⟨_, ?_, p2, false, some (.int y), e14, e15, e16, rfl, hp2⟩
      simp only [EV, ki] at q
      simp only [EV, ki, val_fnF, zsF_eq, fzAt, D.fz, wpE, mgE, List.contains_cons, List.contains_nil, Nat.reduceBEq, Bool.or_false, Bool.or_true, Bool.false_or, Bool.true_or, seqF_eq, andThen_nx, andThen_bk, andThen_ct, andThen_rt, retV_rt, retV_nx, nxF, bkF, ctF, rtF, rnF, rmF, stF, exF, put, parF, agF, ifS, forF_eq, flF_nil, flF_cons, flK_nx, flK_ct, flK_bk, flK_rt, tbF, ttF, andF, orF, notF, andV, orV, ifF, chF, b1, b2, bN, clF_val, aNil, aCons, nmF, ownF, cF, fzF, itF, inF, itOf, rng1, rng2, yesF, dTru, dNot, I.isi_non_tuple, I.isi_non_list, I.isi_non_bool, I.isi_non_int, I.isi_non_str, I.isi_bl_tuple, I.isi_bl_list, I.isi_bl_bool, I.isi_bl_int, I.isi_bl_str, I.isi_int_tuple, I.isi_int_list, I.isi_int_bool, I.isi_int_int, I.isi_int_str, I.isi_str_tuple, I.isi_str_list, I.isi_str_bool, I.isi_str_int, I.isi_str_str, I.isi_tup_tuple, I.isi_tup_list, I.isi_tup_bool, I.isi_tup_int, I.isi_tup_str, I.isi_lst_tuple, I.isi_lst_list, I.isi_lst_bool, I.isi_lst_int, I.isi_lst_str, I.isi_scr_tuple, I.isi_scr_list, I.isi_scr_bool, I.isi_scr_int, I.isi_scr_str, dEq_bl, dNe_bl, dIsN_non, dIsN_bl, dIsN_int, dIsN_str, dIsN_tup, dIsN_lst, dAdd_int, dSub_int, dEq_int, dNe_int, dLt_int, dLe_int, dGt_int, dGe_int, dAddI_int, asB_bl, dIx_tup0, dIx_tup1, fLen, fAbs, fInt, fMax2, fMin2, gTupF, gsCons, gsNil, D.pure, D.pures, Bool.not_true, Bool.not_false, Bool.and_true, Bool.true_and, Bool.and_false, Bool.false_and, Option.bind_some, Option.bind_none, Option.map_some, Option.map_none, bind_ite, map_ite, List.map_cons, List.map_nil, List.replicate, List.cons_append, List.nil_append, List.append_nil, List.getElem?_cons_zero, List.getElem?_cons_succ, List.set_cons_zero, List.set_cons_succ, List.length_cons, List.length_nil, Nat.reduceAdd, Nat.reduceLT, Nat.zero_add, Nat.lt_add_one, if_true, if_false, ite_true, ite_false, decide_eq_true_eq, Bool.false_eq_true, reduceCtorEq, reduceIte, Nat.reduceLeDiff, Nat.reduceEqDiff, q]
  refine ⟨p', ob, d13, d14, d15, d16, hp', ?_⟩
  have r6 : rgOk 6 = true := tst_of (by omega)
  simp only [EV, ki] at h1
  simp only [S_law_14, EV, ki, val_fnF, zsF_eq, fzAt, D.fz, wpE, mgE, List.contains_cons, List.contains_nil, Nat.reduceBEq, Bool.or_false, Bool.or_true, Bool.false_or, Bool.true_or, seqF_eq, andThen_nx, andThen_bk, andThen_ct, andThen_rt, retV_rt, retV_nx, nxF, bkF, ctF, rtF, rnF, rmF, stF, exF, put, parF, agF, ifS, forF_eq, flF_nil, flF_cons, flK_nx, flK_ct, flK_bk, flK_rt, tbF, ttF, andF, orF, notF, andV, orV, ifF, chF, b1, b2, bN, clF_val, aNil, aCons, nmF, ownF, cF, fzF, itF, inF, itOf, rng1, rng2, yesF, dTru, dNot, I.isi_non_tuple, I.isi_non_list, I.isi_non_bool, I.isi_non_int, I.isi_non_str, I.isi_bl_tuple, I.isi_bl_list, I.isi_bl_bool, I.isi_bl_int, I.isi_bl_str, I.isi_int_tuple, I.isi_int_list, I.isi_int_bool, I.isi_int_int, I.isi_int_str, I.isi_str_tuple, I.isi_str_list, I.isi_str_bool, I.isi_str_int, I.isi_str_str, I.isi_tup_tuple, I.isi_tup_list, I.isi_tup_bool, I.isi_tup_int, I.isi_tup_str, I.isi_lst_tuple, I.isi_lst_list, I.isi_lst_bool, I.isi_lst_int, I.isi_lst_str, I.isi_scr_tuple, I.isi_scr_list, I.isi_scr_bool, I.isi_scr_int, I.isi_scr_str, dEq_bl, dNe_bl, dIsN_non, dIsN_bl, dIsN_int, dIsN_str, dIsN_tup, dIsN_lst, dAdd_int, dSub_int, dEq_int, dNe_int, dLt_int, dLe_int, dGt_int, dGe_int, dAddI_int, asB_bl, dIx_tup0, dIx_tup1, fLen, fAbs, fInt, fMax2, fMin2, gTupF, gsCons, gsNil, D.pure, D.pures, Bool.not_true, Bool.not_false, Bool.and_true, Bool.true_and, Bool.and_false, Bool.false_and, Option.bind_some, Option.bind_none, Option.map_some, Option.map_none, bind_ite, map_ite, List.map_cons, List.map_nil, List.replicate, List.cons_append, List.nil_append, List.append_nil, List.getElem?_cons_zero, List.getElem?_cons_succ, List.set_cons_zero, List.set_cons_succ, List.length_cons, List.length_nil, Nat.reduceAdd, Nat.reduceLT, Nat.zero_add, Nat.lt_add_one, if_true, if_false, ite_true, ite_false, decide_eq_true_eq, Bool.false_eq_true, reduceCtorEq, reduceIte, Nat.reduceLeDiff, Nat.reduceEqDiff, r6, h1]
theorem lend1 {d d' : D} {e : En} {q : Rat} {k : Nat} (h : F__law_some [d] = some (fr q, [some d'])) (hd : Pl d) (hk : e[k]? = some (some d)) :
    lcallF [some k] F__law_some (aConsL k aNil) e = some (fr q, (e.set k none).set k (some d')) := by
  have := hd.np
  simp only [lcallF, aConsL, hk, aNil, Option.bind_some, Option.map_some, h, giveE, this, Bool.false_eq_true, if_false]
theorem step15 {v b o d10 d13 d14 d15 d16 sh d11 d12 pts : Option D} {k : Option Nat} (n0 : 0 < n) (hn : n ≤ 1000) (hx : x.length = n) (hq : ∀ q ∈ x, Hq q) (hpl : Pl p) :
    ∃ e, S_law_15 (EV (some s) (some p) (some (.int n)) pts (some (vecD x)) sh v b (ki k) o d10 d11 d12 d13 d14 d15 d16 none none none) = some (.rt (.bl true), e) := by
  obtain ⟨st, p', e1, hp', hs⟩ := some_ok hpl
  have q := lend1 (e := EV (some s) (some p) (some (.int n)) pts (some (vecD x)) sh v b (ki k) o d10 d11 d12 d13 d14 d15 d16 none none none) (k := 1) e1 hpl rfl
  have e := lcF_map (vs := [19]) (FI := itF (nmO 4)) (FT := put 19) (FE := E_law_12) (env := EV (some s) (some p') (some (.int n)) pts (some (vecD x)) sh v b (ki k) o d10 d11 d12 d13 d14 d15 d16 (some (fr st)) none none)
    (env' := EV (some s) (some p') (some (.int n)) pts (some (vecD x)) sh v b (ki k) o d10 d11 d12 d13 d14 d15 d16 (some (fr st)) none none)
    fr (fun q => fr (q + st)) x (by
      simp only [EV, val_fnF, zsF_eq, fzAt, D.fz, wpE, mgE, List.contains_cons, List.contains_nil, Nat.reduceBEq, Bool.or_false, Bool.or_true, Bool.false_or, Bool.true_or, seqF_eq, andThen_nx, andThen_bk, andThen_ct, andThen_rt, retV_rt, retV_nx, nxF, bkF, ctF, rtF, rnF, rmF, stF, exF, put, parF, agF, ifS, forF_eq, flF_nil, flF_cons, flK_nx, flK_ct, flK_bk, flK_rt, tbF, ttF, andF, orF, notF, andV, orV, ifF, chF, b1, b2, bN, clF_val, aNil, aCons, nmF, ownF, cF, fzF, itF, inF, itOf, rng1, rng2, yesF, dTru, dNot, I.isi_non_tuple, I.isi_non_list, I.isi_non_bool, I.isi_non_int, I.isi_non_str, I.isi_bl_tuple, I.isi_bl_list, I.isi_bl_bool, I.isi_bl_int, I.isi_bl_str, I.isi_int_tuple, I.isi_int_list, I.isi_int_bool, I.isi_int_int, I.isi_int_str, I.isi_str_tuple, I.isi_str_list, I.isi_str_bool, I.isi_str_int, I.isi_str_str, I.isi_tup_tuple, I.isi_tup_list, I.isi_tup_bool, I.isi_tup_int, I.isi_tup_str, I.isi_lst_tuple, I.isi_lst_list, I.isi_lst_bool, I.isi_lst_int, I.isi_lst_str, I.isi_scr_tuple, I.isi_scr_list, I.isi_scr_bool, I.isi_scr_int, I.isi_scr_str, dEq_bl, dNe_bl, dIsN_non, dIsN_bl, dIsN_int, dIsN_str, dIsN_tup, dIsN_lst, dAdd_int, dSub_int, dEq_int, dNe_int, dLt_int, dLe_int, dGt_int, dGe_int, dAddI_int, asB_bl, dIx_tup0, dIx_tup1, fLen, fAbs, fInt, fMax2, fMin2, gTupF, gsCons, gsNil, D.pure, D.pures, Bool.not_true, Bool.not_false, Bool.and_true, Bool.true_and, Bool.and_false, Bool.false_and, Option.bind_some, Option.bind_none, Option.map_some, Option.map_none, bind_ite, map_ite, List.map_cons, List.map_nil, List.replicate, List.cons_append, List.nil_append, List.append_nil, List.getElem?_cons_zero, List.getElem?_cons_succ, List.set_cons_zero, List.set_cons_succ, List.length_cons, List.length_nil, Nat.reduceAdd, Nat.reduceLT, Nat.zero_add, Nat.lt_add_one, if_true, if_false, ite_true, ite_false, decide_eq_true_eq, Bool.false_eq_true, reduceCtorEq, reduceIte, Nat.reduceLeDiff, Nat.reduceEqDiff, pure_vec]
      simp only [vecD, val_fnF, zsF_eq, fzAt, D.fz, wpE, mgE, List.contains_cons, List.contains_nil, Nat.reduceBEq, Bool.or_false, Bool.or_true, Bool.false_or, Bool.true_or, seqF_eq, andThen_nx, andThen_bk, andThen_ct, andThen_rt, retV_rt, retV_nx, nxF, bkF, ctF, rtF, rnF, rmF, stF, exF, put, parF, agF, ifS, forF_eq, flF_nil, flF_cons, flK_nx, flK_ct, flK_bk, flK_rt, tbF, ttF, andF, orF, notF, andV, orV, ifF, chF, b1, b2, bN, clF_val, aNil, aCons, nmF, ownF, cF, fzF, itF, inF, itOf, rng1, rng2, yesF, dTru, dNot, I.isi_non_tuple, I.isi_non_list, I.isi_non_bool, I.isi_non_int, I.isi_non_str, I.isi_bl_tuple, I.isi_bl_list, I.isi_bl_bool, I.isi_bl_int, I.isi_bl_str, I.isi_int_tuple, I.isi_int_list, I.isi_int_bool, I.isi_int_int, I.isi_int_str, I.isi_str_tuple, I.isi_str_list, I.isi_str_bool, I.isi_str_int, I.isi_str_str, I.isi_tup_tuple, I.isi_tup_list, I.isi_tup_bool, I.isi_tup_int, I.isi_tup_str, I.isi_lst_tuple, I.isi_lst_list, I.isi_lst_bool, I.isi_lst_int, I.isi_lst_str, I.isi_scr_tuple, I.isi_scr_list, I.isi_scr_bool, I.isi_scr_int, I.isi_scr_str, dEq_bl, dNe_bl, dIsN_non, dIsN_bl, dIsN_int, dIsN_str, dIsN_tup, dIsN_lst, dAdd_int, dSub_int, dEq_int, dNe_int, dLt_int, dLe_int, dGt_int, dGe_int, dAddI_int, asB_bl, dIx_tup0, dIx_tup1, fLen, fAbs, fInt, fMax2, fMin2, gTupF, gsCons, gsNil, D.pure, D.pures, Bool.not_true, Bool.not_false, Bool.and_true, Bool.true_and, Bool.and_false, Bool.false_and, Option.bind_some, Option.bind_none, Option.map_some, Option.map_none, bind_ite, map_ite, List.map_cons, List.map_nil, List.replicate, List.cons_append, List.nil_append, List.append_nil, List.getElem?_cons_zero, List.getElem?_cons_succ, List.set_cons_zero, List.set_cons_succ, List.length_cons, List.length_nil, Nat.reduceAdd, Nat.reduceLT, Nat.zero_add, Nat.lt_add_one, if_true, if_false, ite_true, ite_false, decide_eq_true_eq, Bool.false_eq_true, reduceCtorEq, reduceIte, Nat.reduceLeDiff, Nat.reduceEqDiff, fzs_fr]) (by omega) (by cases k <;> cases v <;> cases b <;> cases o <;> cases d10 <;> cases d11 <;> cases d12 <;> cases d13 <;> cases d14 <;> cases d15 <;> cases d16 <;> cases sh <;> cases pts <;> rfl)
    fun y hy => ⟨EV (some s) (some p') (some (.int n)) pts (some (vecD x)) sh v b (ki k) o d10 d11 d12 d13 d14 d15 d16 (some (fr st)) none (some (fr y)), EV (some s) (some p') (some (.int n)) pts (some (vecD x)) sh v b (ki k) o d10 d11 d12 d13 d14 d15 d16 (some (fr st)) none (some (fr y)),
      by simp only [EV, ki, val_fnF, zsF_eq, fzAt, D.fz, wpE, mgE, List.contains_cons, List.contains_nil, Nat.reduceBEq, Bool.or_false, Bool.or_true, Bool.false_or, Bool.true_or, seqF_eq, andThen_nx, andThen_bk, andThen_ct, andThen_rt, retV_rt, retV_nx, nxF, bkF, ctF, rtF, rnF, rmF, stF, exF, put, parF, agF, ifS, forF_eq, flF_nil, flF_cons, flK_nx, flK_ct, flK_bk, flK_rt, tbF, ttF, andF, orF, notF, andV, orV, ifF, chF, b1, b2, bN, clF_val, aNil, aCons, nmF, ownF, cF, fzF, itF, inF, itOf, rng1, rng2, yesF, dTru, dNot, I.isi_non_tuple, I.isi_non_list, I.isi_non_bool, I.isi_non_int, I.isi_non_str, I.isi_bl_tuple, I.isi_bl_list, I.isi_bl_bool, I.isi_bl_int, I.isi_bl_str, I.isi_int_tuple, I.isi_int_list, I.isi_int_bool, I.isi_int_int, I.isi_int_str, I.isi_str_tuple, I.isi_str_list, I.isi_str_bool, I.isi_str_int, I.isi_str_str, I.isi_tup_tuple, I.isi_tup_list, I.isi_tup_bool, I.isi_tup_int, I.isi_tup_str, I.isi_lst_tuple, I.isi_lst_list, I.isi_lst_bool, I.isi_lst_int, I.isi_lst_str, I.isi_scr_tuple, I.isi_scr_list, I.isi_scr_bool, I.isi_scr_int, I.isi_scr_str, dEq_bl, dNe_bl, dIsN_non, dIsN_bl, dIsN_int, dIsN_str, dIsN_tup, dIsN_lst, dAdd_int, dSub_int, dEq_int, dNe_int, dLt_int, dLe_int, dGt_int, dGe_int, dAddI_int, asB_bl, dIx_tup0, dIx_tup1, fLen, fAbs, fInt, fMax2, fMin2, gTupF, gsCons, gsNil, D.pure, D.pures, Bool.not_true, Bool.not_false, Bool.and_true, Bool.true_and, Bool.and_false, Bool.false_and, Option.bind_some, Option.bind_none, Option.map_some, Option.map_none, bind_ite, map_ite, List.map_cons, List.map_nil, List.replicate, List.cons_append, List.nil_append, List.append_nil, List.getElem?_cons_zero, List.getElem?_cons_succ, List.set_cons_zero, List.set_cons_succ, List.length_cons, List.length_nil, Nat.reduceAdd, Nat.reduceLT, Nat.zero_add, Nat.lt_add_one, if_true, if_false, ite_true, ite_false, decide_eq_true_eq, Bool.false_eq_true, reduceCtorEq, reduceIte, Nat.reduceLeDiff, Nat.reduceEqDiff], by simp only [E_law_12, EV, ki, val_fnF, zsF_eq, fzAt, D.fz, wpE, mgE, List.contains_cons, List.contains_nil, Nat.reduceBEq, Bool.or_false, Bool.or_true, Bool.false_or, Bool.true_or, seqF_eq, andThen_nx, andThen_bk, andThen_ct, andThen_rt, retV_rt, retV_nx, nxF, bkF, ctF, rtF, rnF, rmF, stF, exF, put, parF, agF, ifS, forF_eq, flF_nil, flF_cons, flK_nx, flK_ct, flK_bk, flK_rt, tbF, ttF, andF, orF, notF, andV, orV, ifF, chF, b1, b2, bN, clF_val, aNil, aCons, nmF, ownF, cF, fzF, itF, inF, itOf, rng1, rng2, yesF, dTru, dNot, I.isi_non_tuple, I.isi_non_list, I.isi_non_bool, I.isi_non_int, I.isi_non_str, I.isi_bl_tuple, I.isi_bl_list, I.isi_bl_bool, I.isi_bl_int, I.isi_bl_str, I.isi_int_tuple, I.isi_int_list, I.isi_int_bool, I.isi_int_int, I.isi_int_str, I.isi_str_tuple, I.isi_str_list, I.isi_str_bool, I.isi_str_int, I.isi_str_str, I.isi_tup_tuple, I.isi_tup_list, I.isi_tup_bool, I.isi_tup_int, I.isi_tup_str, I.isi_lst_tuple, I.isi_lst_list, I.isi_lst_bool, I.isi_lst_int, I.isi_lst_str, I.isi_scr_tuple, I.isi_scr_list, I.isi_scr_bool, I.isi_scr_int, I.isi_scr_str, dEq_bl, dNe_bl, dIsN_non, dIsN_bl, dIsN_int, dIsN_str, dIsN_tup, dIsN_lst, dAdd_int, dSub_int, dEq_int, dNe_int, dLt_int, dLe_int, dGt_int, dGe_int, dAddI_int, asB_bl, dIx_tup0, dIx_tup1, fLen, fAbs, fInt, fMax2, fMin2, gTupF, gsCons, gsNil, D.pure, D.pures, Bool.not_true, Bool.not_false, Bool.and_true, Bool.true_and, Bool.and_false, Bool.false_and, Option.bind_some, Option.bind_none, Option.map_some, Option.map_none, bind_ite, map_ite, List.map_cons, List.map_nil, List.replicate, List.cons_append, List.nil_append, List.append_nil, List.getElem?_cons_zero, List.getElem?_cons_succ, List.set_cons_zero, List.set_cons_succ, List.length_cons, List.length_nil, Nat.reduceAdd, Nat.reduceLT, Nat.zero_add, Nat.lt_add_one, if_true, if_false, ite_true, ite_false, decide_eq_true_eq, Bool.false_eq_true, reduceCtorEq, reduceIte, Nat.reduceLeDiff, Nat.reduceEqDiff, pure_fr, ladd_eq (hq y hy).den hs.den], by simp only [EV, ki, val_fnF, zsF_eq, fzAt, D.fz, wpE, mgE, List.contains_cons, List.contains_nil, Nat.reduceBEq, Bool.or_false, Bool.or_true, Bool.false_or, Bool.true_or, seqF_eq, andThen_nx, andThen_bk, andThen_ct, andThen_rt, retV_rt, retV_nx, nxF, bkF, ctF, rtF, rnF, rmF, stF, exF, put, parF, agF, ifS, forF_eq, flF_nil, flF_cons, flK_nx, flK_ct, flK_bk, flK_rt, tbF, ttF, andF, orF, notF, andV, orV, ifF, chF, b1, b2, bN, clF_val, aNil, aCons, nmF, ownF, cF, fzF, itF, inF, itOf, rng1, rng2, yesF, dTru, dNot, I.isi_non_tuple, I.isi_non_list, I.isi_non_bool, I.isi_non_int, I.isi_non_str, I.isi_bl_tuple, I.isi_bl_list, I.isi_bl_bool, I.isi_bl_int, I.isi_bl_str, I.isi_int_tuple, I.isi_int_list, I.isi_int_bool, I.isi_int_int, I.isi_int_str, I.isi_str_tuple, I.isi_str_list, I.isi_str_bool, I.isi_str_int, I.isi_str_str, I.isi_tup_tuple, I.isi_tup_list, I.isi_tup_bool, I.isi_tup_int, I.isi_tup_str, I.isi_lst_tuple, I.isi_lst_list, I.isi_lst_bool, I.isi_lst_int, I.isi_lst_str, I.isi_scr_tuple, I.isi_scr_list, I.isi_scr_bool, I.isi_scr_int, I.isi_scr_str, dEq_bl, dNe_bl, dIsN_non, dIsN_bl, dIsN_int, dIsN_str, dIsN_tup, dIsN_lst, dAdd_int, dSub_int, dEq_int, dNe_int, dLt_int, dLe_int, dGt_int, dGe_int, dAddI_int, asB_bl, dIx_tup0, dIx_tup1, fLen, fAbs, fInt, fMax2, fMin2, gTupF, gsCons, gsNil, D.pure, D.pures, Bool.not_true, Bool.not_false, Bool.and_true, Bool.true_and, Bool.and_false, Bool.false_and, Option.bind_some, Option.bind_none, Option.map_some, Option.map_none, bind_ite, map_ite, List.map_cons, List.map_nil, List.replicate, List.cons_append, List.nil_append, List.append_nil, List.getElem?_cons_zero, List.getElem?_cons_succ, List.set_cons_zero, List.set_cons_succ, List.length_cons, List.length_nil, Nat.reduceAdd, Nat.reduceLT, Nat.zero_add, Nat.lt_add_one, if_true, if_false, ite_true, ite_false, decide_eq_true_eq, Bool.false_eq_true, reduceCtorEq, reduceIte, Nat.reduceLeDiff, Nat.reduceEqDiff]⟩
  have e2 : x.map (fun q => fr (q + st)) = (x.map (· + st)).map fr := by simp
  rw [e2] at e
  have hx2 : (x.map (· + st)).length = n := by simpa using hx
  have hq2 : ∀ q ∈ x.map (· + st), Hq q := fun q h => by
    obtain ⟨z, hz, rfl⟩ := List.mem_map.mp h
    exact (hq z hz).add hs
  have dd := distance_eq n0 hn hx hx2 hq hq2
  rw [gap_shift n0 hx st] at dd
  have tt : dTup [.int 0, .int 1] = some (fr 0) := dTup_le (by simp)
  have ft : fTuple [.lst true ((x.map (· + st)).map fr)] = some (vecD (x.map (· + st))) := by
    simp only [fTuple, vecD]; rw [if_pos (pures_fr _)]
  simp only [EV, ki, List.set_cons_zero, List.set_cons_succ] at q
  simp only [EV, ki, val_fnF, zsF_eq, fzAt, D.fz, wpE, mgE, List.contains_cons, List.contains_nil, Nat.reduceBEq, Bool.or_false, Bool.or_true, Bool.false_or, Bool.true_or, seqF_eq, andThen_nx, andThen_bk, andThen_ct, andThen_rt, retV_rt, retV_nx, nxF, bkF, ctF, rtF, rnF, rmF, stF, exF, put, parF, agF, ifS, forF_eq, flF_nil, flF_cons, flK_nx, flK_ct, flK_bk, flK_rt, tbF, ttF, andF, orF, notF, andV, orV, ifF, chF, b1, b2, bN, clF_val, aNil, aCons, nmF, ownF, cF, fzF, itF, inF, itOf, rng1, rng2, yesF, dTru, dNot, I.isi_non_tuple, I.isi_non_list, I.isi_non_bool, I.isi_non_int, I.isi_non_str, I.isi_bl_tuple, I.isi_bl_list, I.isi_bl_bool, I.isi_bl_int, I.isi_bl_str, I.isi_int_tuple, I.isi_int_list, I.isi_int_bool, I.isi_int_int, I.isi_int_str, I.isi_str_tuple, I.isi_str_list, I.isi_str_bool, I.isi_str_int, I.isi_str_str, I.isi_tup_tuple, I.isi_tup_list, I.isi_tup_bool, I.isi_tup_int, I.isi_tup_str, I.isi_lst_tuple, I.isi_lst_list, I.isi_lst_bool, I.isi_lst_int, I.isi_lst_str, I.isi_scr_tuple, I.isi_scr_list, I.isi_scr_bool, I.isi_scr_int, I.isi_scr_str, dEq_bl, dNe_bl, dIsN_non, dIsN_bl, dIsN_int, dIsN_str, dIsN_tup, dIsN_lst, dAdd_int, dSub_int, dEq_int, dNe_int, dLt_int, dLe_int, dGt_int, dGe_int, dAddI_int, asB_bl, dIx_tup0, dIx_tup1, fLen, fAbs, fInt, fMax2, fMin2, gTupF, gsCons, gsNil, D.pure, D.pures, Bool.not_true, Bool.not_false, Bool.and_true, Bool.true_and, Bool.and_false, Bool.false_and, Option.bind_some, Option.bind_none, Option.map_some, Option.map_none, bind_ite, map_ite, List.map_cons, List.map_nil, List.replicate, List.cons_append, List.nil_append, List.append_nil, List.getElem?_cons_zero, List.getElem?_cons_succ, List.set_cons_zero, List.set_cons_succ, List.length_cons, List.length_nil, Nat.reduceAdd, Nat.reduceLT, Nat.zero_add, Nat.lt_add_one, if_true, if_false, ite_true, ite_false, decide_eq_true_eq, Bool.false_eq_true, reduceCtorEq, reduceIte, Nat.reduceLeDiff, Nat.reduceEqDiff] at e
  simp only [S_law_15, S_law_16, EV, ki, val_fnF, zsF_eq, fzAt, D.fz, wpE, mgE, List.contains_cons, List.contains_nil, Nat.reduceBEq, Bool.or_false, Bool.or_true, Bool.false_or, Bool.true_or, seqF_eq, andThen_nx, andThen_bk, andThen_ct, andThen_rt, retV_rt, retV_nx, nxF, bkF, ctF, rtF, rnF, rmF, stF, exF, put, parF, agF, ifS, forF_eq, flF_nil, flF_cons, flK_nx, flK_ct, flK_bk, flK_rt, tbF, ttF, andF, orF, notF, andV, orV, ifF, chF, b1, b2, bN, clF_val, aNil, aCons, nmF, ownF, cF, fzF, itF, inF, itOf, rng1, rng2, yesF, dTru, dNot, I.isi_non_tuple, I.isi_non_list, I.isi_non_bool, I.isi_non_int, I.isi_non_str, I.isi_bl_tuple, I.isi_bl_list, I.isi_bl_bool, I.isi_bl_int, I.isi_bl_str, I.isi_int_tuple, I.isi_int_list, I.isi_int_bool, I.isi_int_int, I.isi_int_str, I.isi_str_tuple, I.isi_str_list, I.isi_str_bool, I.isi_str_int, I.isi_str_str, I.isi_tup_tuple, I.isi_tup_list, I.isi_tup_bool, I.isi_tup_int, I.isi_tup_str, I.isi_lst_tuple, I.isi_lst_list, I.isi_lst_bool, I.isi_lst_int, I.isi_lst_str, I.isi_scr_tuple, I.isi_scr_list, I.isi_scr_bool, I.isi_scr_int, I.isi_scr_str, dEq_bl, dNe_bl, dIsN_non, dIsN_bl, dIsN_int, dIsN_str, dIsN_tup, dIsN_lst, dAdd_int, dSub_int, dEq_int, dNe_int, dLt_int, dLe_int, dGt_int, dGe_int, dAddI_int, asB_bl, dIx_tup0, dIx_tup1, fLen, fAbs, fInt, fMax2, fMin2, gTupF, gsCons, gsNil, D.pure, D.pures, Bool.not_true, Bool.not_false, Bool.and_true, Bool.true_and, Bool.and_false, Bool.false_and, Option.bind_some, Option.bind_none, Option.map_some, Option.map_none, bind_ite, map_ite, List.map_cons, List.map_nil, List.replicate, List.cons_append, List.nil_append, List.append_nil, List.getElem?_cons_zero, List.getElem?_cons_succ, List.set_cons_zero, List.set_cons_succ, List.length_cons, List.length_nil, Nat.reduceAdd, Nat.reduceLT, Nat.zero_add, Nat.lt_add_one, if_true, if_false, ite_true, ite_false, decide_eq_true_eq, Bool.false_eq_true, reduceCtorEq, reduceIte, Nat.reduceLeDiff, Nat.reduceEqDiff, q, e, ft, pure_vec, dd, tt, same_fr]
  exact ⟨_, rfl⟩
end
theorem law_ok (ns : List Int) : ∃ env, F_law [.scr ns] = some (.bl true, env) := by
  obtain ⟨p0, q0, hp0⟩ := pool_ok ns
  suffices h : ∃ e, S_law_2 (EV (some (.scr ns)) (some p0) none none none none none none none none none none none none none none none none none none) = some (.rt (.bl true), e) by
    obtain ⟨e, h⟩ := h
    simp only [EV] at h
    simp only [F_law, fnF_eq, val_fnF, zsF_eq, fzAt, D.fz, wpE, mgE, List.contains_cons, List.contains_nil, Nat.reduceBEq, Bool.or_false, Bool.or_true, Bool.false_or, Bool.true_or, seqF_eq, andThen_nx, andThen_bk, andThen_ct, andThen_rt, retV_rt, retV_nx, nxF, bkF, ctF, rtF, rnF, rmF, stF, exF, put, parF, agF, ifS, forF_eq, flF_nil, flF_cons, flK_nx, flK_ct, flK_bk, flK_rt, tbF, ttF, andF, orF, notF, andV, orV, ifF, chF, b1, b2, bN, clF_val, aNil, aCons, nmF, ownF, cF, fzF, itF, inF, itOf, rng1, rng2, yesF, dTru, dNot, I.isi_non_tuple, I.isi_non_list, I.isi_non_bool, I.isi_non_int, I.isi_non_str, I.isi_bl_tuple, I.isi_bl_list, I.isi_bl_bool, I.isi_bl_int, I.isi_bl_str, I.isi_int_tuple, I.isi_int_list, I.isi_int_bool, I.isi_int_int, I.isi_int_str, I.isi_str_tuple, I.isi_str_list, I.isi_str_bool, I.isi_str_int, I.isi_str_str, I.isi_tup_tuple, I.isi_tup_list, I.isi_tup_bool, I.isi_tup_int, I.isi_tup_str, I.isi_lst_tuple, I.isi_lst_list, I.isi_lst_bool, I.isi_lst_int, I.isi_lst_str, I.isi_scr_tuple, I.isi_scr_list, I.isi_scr_bool, I.isi_scr_int, I.isi_scr_str, dEq_bl, dNe_bl, dIsN_non, dIsN_bl, dIsN_int, dIsN_str, dIsN_tup, dIsN_lst, dAdd_int, dSub_int, dEq_int, dNe_int, dLt_int, dLe_int, dGt_int, dGe_int, dAddI_int, asB_bl, dIx_tup0, dIx_tup1, fLen, fAbs, fInt, fMax2, fMin2, gTupF, gsCons, gsNil, D.pure, D.pures, Bool.not_true, Bool.not_false, Bool.and_true, Bool.true_and, Bool.and_false, Bool.false_and, Option.bind_some, Option.bind_none, Option.map_some, Option.map_none, bind_ite, map_ite, List.map_cons, List.map_nil, List.replicate, List.cons_append, List.nil_append, List.append_nil, List.getElem?_cons_zero, List.getElem?_cons_succ, List.set_cons_zero, List.set_cons_succ, List.length_cons, List.length_nil, Nat.reduceAdd, Nat.reduceLT, Nat.zero_add, Nat.lt_add_one, if_true, if_false, ite_true, ite_false, decide_eq_true_eq, Bool.false_eq_true, reduceCtorEq, reduceIte, Nat.reduceLeDiff, Nat.reduceEqDiff, q0, h, fnO_rt]
    exact ⟨_, rfl⟩
  obtain ⟨r, p1, e1, hp1, r0, r1⟩ := draw_ok hp0 (m := 4) (by omega) (by omega)
  obtain ⟨n, hn⟩ : ∃ n : Nat, 1 + r = (n : Int) := ⟨(1 + r).toNat, by omega⟩
  have n0 : 0 < n := by omega
  have n5 : n ≤ 4 := by omega
  have q1 := lendE (k := 1) (e := EV (some (.scr ns)) (some p0) none none none none none none none none none none none none none none none none none none) (FE := cF (.int 4)) e1 hp0 rfl rfl
  obtain ⟨P, p2, e2, hp2, hP, P0, P5⟩ := cloud_ok (n := n) (by omega) hp1
  have q2 : lcallF [some 1, none, none] F__law_cloud (aConsL 1 (aCons (nmO 2) (aCons (cF (.int 5)) aNil))) (EV (some (.scr ns)) (some p1) (some (.int n)) none none none none none none none none none none none none none none none none none) = some (.lst true (P.map vecD), EV (some (.scr ns)) (some p2) (some (.int n)) none none none none none none none none none none none none none none none none none) := by
    have := hp1.np
    simp only [EV, lcallF, aConsL, val_fnF, zsF_eq, fzAt, D.fz, wpE, mgE, List.contains_cons, List.contains_nil, Nat.reduceBEq, Bool.or_false, Bool.or_true, Bool.false_or, Bool.true_or, seqF_eq, andThen_nx, andThen_bk, andThen_ct, andThen_rt, retV_rt, retV_nx, nxF, bkF, ctF, rtF, rnF, rmF, stF, exF, put, parF, agF, ifS, forF_eq, flF_nil, flF_cons, flK_nx, flK_ct, flK_bk, flK_rt, tbF, ttF, andF, orF, notF, andV, orV, ifF, chF, b1, b2, bN, clF_val, aNil, aCons, nmF, ownF, cF, fzF, itF, inF, itOf, rng1, rng2, yesF, dTru, dNot, I.isi_non_tuple, I.isi_non_list, I.isi_non_bool, I.isi_non_int, I.isi_non_str, I.isi_bl_tuple, I.isi_bl_list, I.isi_bl_bool, I.isi_bl_int, I.isi_bl_str, I.isi_int_tuple, I.isi_int_list, I.isi_int_bool, I.isi_int_int, I.isi_int_str, I.isi_str_tuple, I.isi_str_list, I.isi_str_bool, I.isi_str_int, I.isi_str_str, I.isi_tup_tuple, I.isi_tup_list, I.isi_tup_bool, I.isi_tup_int, I.isi_tup_str, I.isi_lst_tuple, I.isi_lst_list, I.isi_lst_bool, I.isi_lst_int, I.isi_lst_str, I.isi_scr_tuple, I.isi_scr_list, I.isi_scr_bool, I.isi_scr_int, I.isi_scr_str, dEq_bl, dNe_bl, dIsN_non, dIsN_bl, dIsN_int, dIsN_str, dIsN_tup, dIsN_lst, dAdd_int, dSub_int, dEq_int, dNe_int, dLt_int, dLe_int, dGt_int, dGe_int, dAddI_int, asB_bl, dIx_tup0, dIx_tup1, fLen, fAbs, fInt, fMax2, fMin2, gTupF, gsCons, gsNil, D.pure, D.pures, Bool.not_true, Bool.not_false, Bool.and_true, Bool.true_and, Bool.and_false, Bool.false_and, Option.bind_some, Option.bind_none, Option.map_some, Option.map_none, bind_ite, map_ite, List.map_cons, List.map_nil, List.replicate, List.cons_append, List.nil_append, List.append_nil, List.getElem?_cons_zero, List.getElem?_cons_succ, List.set_cons_zero, List.set_cons_succ, List.length_cons, List.length_nil, Nat.reduceAdd, Nat.reduceLT, Nat.zero_add, Nat.lt_add_one, if_true, if_false, ite_true, ite_false, decide_eq_true_eq, Bool.false_eq_true, reduceCtorEq, reduceIte, Nat.reduceLeDiff, Nat.reduceEqDiff, e2, giveE, this]
  simp only [EV, List.set_cons_zero, List.set_cons_succ] at q1 q2
  obtain ⟨acc, e, h4, p3, x, rfl, rfl, hp3, hx, hq⟩ := lcF_rem (vs := [8]) (FI := inF rng1 (aCons (nmO 2) aNil)) (FT := put 8) (FE := E_law_1)
    (env := EV (some (.scr ns)) (some p2) (some (.int n)) (some (.lst false (P.map vecD))) none none none none none none none none none none none none none none none none)
    (env' := EV (some (.scr ns)) (some p2) (some (.int n)) (some (.lst false (P.map vecD))) none none none none none none none none none none none none none none none none)
    (fun i : Nat => D.int (i : Int)) (fun ys acc e => ∃ (p' : D) (l : List Rat), e = EV (some (.scr ns)) (some p') (some (.int n)) (some (.lst false (P.map vecD))) none none none none none none none none none none none none none none none none ∧ acc = l.map fr ∧ Pl p' ∧ l.length + ys.length = n ∧ ∀ q ∈ l, Hq q)
    (List.range n) (by simp only [EV, val_fnF, zsF_eq, fzAt, D.fz, wpE, mgE, List.contains_cons, List.contains_nil, Nat.reduceBEq, Bool.or_false, Bool.or_true, Bool.false_or, Bool.true_or, seqF_eq, andThen_nx, andThen_bk, andThen_ct, andThen_rt, retV_rt, retV_nx, nxF, bkF, ctF, rtF, rnF, rmF, stF, exF, put, parF, agF, ifS, forF_eq, flF_nil, flF_cons, flK_nx, flK_ct, flK_bk, flK_rt, tbF, ttF, andF, orF, notF, andV, orV, ifF, chF, b1, b2, bN, clF_val, aNil, aCons, nmF, ownF, cF, fzF, itF, inF, itOf, rng1, rng2, yesF, dTru, dNot, I.isi_non_tuple, I.isi_non_list, I.isi_non_bool, I.isi_non_int, I.isi_non_str, I.isi_bl_tuple, I.isi_bl_list, I.isi_bl_bool, I.isi_bl_int, I.isi_bl_str, I.isi_int_tuple, I.isi_int_list, I.isi_int_bool, I.isi_int_int, I.isi_int_str, I.isi_str_tuple, I.isi_str_list, I.isi_str_bool, I.isi_str_int, I.isi_str_str, I.isi_tup_tuple, I.isi_tup_list, I.isi_tup_bool, I.isi_tup_int, I.isi_tup_str, I.isi_lst_tuple, I.isi_lst_list, I.isi_lst_bool, I.isi_lst_int, I.isi_lst_str, I.isi_scr_tuple, I.isi_scr_list, I.isi_scr_bool, I.isi_scr_int, I.isi_scr_str, dEq_bl, dNe_bl, dIsN_non, dIsN_bl, dIsN_int, dIsN_str, dIsN_tup, dIsN_lst, dAdd_int, dSub_int, dEq_int, dNe_int, dLt_int, dLe_int, dGt_int, dGe_int, dAddI_int, asB_bl, dIx_tup0, dIx_tup1, fLen, fAbs, fInt, fMax2, fMin2, gTupF, gsCons, gsNil, D.pure, D.pures, Bool.not_true, Bool.not_false, Bool.and_true, Bool.true_and, Bool.and_false, Bool.false_and, Option.bind_some, Option.bind_none, Option.map_some, Option.map_none, bind_ite, map_ite, List.map_cons, List.map_nil, List.replicate, List.cons_append, List.nil_append, List.append_nil, List.getElem?_cons_zero, List.getElem?_cons_succ, List.set_cons_zero, List.set_cons_succ, List.length_cons, List.length_nil, Nat.reduceAdd, Nat.reduceLT, Nat.zero_add, Nat.lt_add_one, if_true, if_false, ite_true, ite_false, decide_eq_true_eq, Bool.false_eq_true, reduceCtorEq, reduceIte, Nat.reduceLeDiff, Nat.reduceEqDiff, rg_of (show n ≤ 1000000 by omega), Int.toNat_natCast]) (by simp; omega) rfl ⟨p2, [], by simp only [EV, val_fnF, zsF_eq, fzAt, D.fz, wpE, mgE, List.contains_cons, List.contains_nil, Nat.reduceBEq, Bool.or_false, Bool.or_true, Bool.false_or, Bool.true_or, seqF_eq, andThen_nx, andThen_bk, andThen_ct, andThen_rt, retV_rt, retV_nx, nxF, bkF, ctF, rtF, rnF, rmF, stF, exF, put, parF, agF, ifS, forF_eq, flF_nil, flF_cons, flK_nx, flK_ct, flK_bk, flK_rt, tbF, ttF, andF, orF, notF, andV, orV, ifF, chF, b1, b2, bN, clF_val, aNil, aCons, nmF, ownF, cF, fzF, itF, inF, itOf, rng1, rng2, yesF, dTru, dNot, I.isi_non_tuple, I.isi_non_list, I.isi_non_bool, I.isi_non_int, I.isi_non_str, I.isi_bl_tuple, I.isi_bl_list, I.isi_bl_bool, I.isi_bl_int, I.isi_bl_str, I.isi_int_tuple, I.isi_int_list, I.isi_int_bool, I.isi_int_int, I.isi_int_str, I.isi_str_tuple, I.isi_str_list, I.isi_str_bool, I.isi_str_int, I.isi_str_str, I.isi_tup_tuple, I.isi_tup_list, I.isi_tup_bool, I.isi_tup_int, I.isi_tup_str, I.isi_lst_tuple, I.isi_lst_list, I.isi_lst_bool, I.isi_lst_int, I.isi_lst_str, I.isi_scr_tuple, I.isi_scr_list, I.isi_scr_bool, I.isi_scr_int, I.isi_scr_str, dEq_bl, dNe_bl, dIsN_non, dIsN_bl, dIsN_int, dIsN_str, dIsN_tup, dIsN_lst, dAdd_int, dSub_int, dEq_int, dNe_int, dLt_int, dLe_int, dGt_int, dGe_int, dAddI_int, asB_bl, dIx_tup0, dIx_tup1, fLen, fAbs, fInt, fMax2, fMin2, gTupF, gsCons, gsNil, D.pure, D.pures, Bool.not_true, Bool.not_false, Bool.and_true, Bool.true_and, Bool.and_false, Bool.false_and, Option.bind_some, Option.bind_none, Option.map_some, Option.map_none, bind_ite, map_ite, List.map_cons, List.map_nil, List.replicate, List.cons_append, List.nil_append, List.append_nil, List.getElem?_cons_zero, List.getElem?_cons_succ, List.set_cons_zero, List.set_cons_succ, List.length_cons, List.length_nil, Nat.reduceAdd, Nat.reduceLT, Nat.zero_add, Nat.lt_add_one, if_true, if_false, ite_true, ite_false, decide_eq_true_eq, Bool.false_eq_true, reduceCtorEq, reduceIte, Nat.reduceLeDiff, Nat.reduceEqDiff], rfl, hp2, by simp, by simp⟩
    fun y zs acc e ⟨p', l, he, ha, hp', hl, hq'⟩ => by
      subst he ha
      obtain ⟨st, p1, e1, hp1, hs⟩ := some_ok hp'
      have q := lend1 (e := EV (some (.scr ns)) (some p') (some (.int n)) (some (.lst false (P.map vecD))) none none none none (some (.int y)) none none none none none none none none none none none) (k := 1) e1 hp' rfl
      simp only [EV, List.set_cons_zero, List.set_cons_succ] at q
      refine ⟨EV (some (.scr ns)) (some p') (some (.int n)) (some (.lst false (P.map vecD))) none none none none (some (.int y)) none none none none none none none none none none none, fr st,
        EV (some (.scr ns)) (some p1) (some (.int n)) (some (.lst false (P.map vecD))) none none none none (some (.int y)) none none none none none none none none none none none, by simp only [EV, val_fnF, zsF_eq, fzAt, D.fz, wpE, mgE, List.contains_cons, List.contains_nil, Nat.reduceBEq, Bool.or_false, Bool.or_true, Bool.false_or, Bool.true_or, seqF_eq, andThen_nx, andThen_bk, andThen_ct, andThen_rt, retV_rt, retV_nx, nxF, bkF, ctF, rtF, rnF, rmF, stF, exF, put, parF, agF, ifS, forF_eq, flF_nil, flF_cons, flK_nx, flK_ct, flK_bk, flK_rt, tbF, ttF, andF, orF, notF, andV, orV, ifF, chF, b1, b2, bN, clF_val, aNil, aCons, nmF, ownF, cF, fzF, itF, inF, itOf, rng1, rng2, yesF, dTru, dNot, I.isi_non_tuple, I.isi_non_list, I.isi_non_bool, I.isi_non_int, I.isi_non_str, I.isi_bl_tuple, I.isi_bl_list, I.isi_bl_bool, I.isi_bl_int, I.isi_bl_str, I.isi_int_tuple, I.isi_int_list, I.isi_int_bool, I.isi_int_int, I.isi_int_str, I.isi_str_tuple, I.isi_str_list, I.isi_str_bool, I.isi_str_int, I.isi_str_str, I.isi_tup_tuple, I.isi_tup_list, I.isi_tup_bool, I.isi_tup_int, I.isi_tup_str, I.isi_lst_tuple, I.isi_lst_list, I.isi_lst_bool, I.isi_lst_int, I.isi_lst_str, I.isi_scr_tuple, I.isi_scr_list, I.isi_scr_bool, I.isi_scr_int, I.isi_scr_str, dEq_bl, dNe_bl, dIsN_non, dIsN_bl, dIsN_int, dIsN_str, dIsN_tup, dIsN_lst, dAdd_int, dSub_int, dEq_int, dNe_int, dLt_int, dLe_int, dGt_int, dGe_int, dAddI_int, asB_bl, dIx_tup0, dIx_tup1, fLen, fAbs, fInt, fMax2, fMin2, gTupF, gsCons, gsNil, D.pure, D.pures, Bool.not_true, Bool.not_false, Bool.and_true, Bool.true_and, Bool.and_false, Bool.false_and, Option.bind_some, Option.bind_none, Option.map_some, Option.map_none, bind_ite, map_ite, List.map_cons, List.map_nil, List.replicate, List.cons_append, List.nil_append, List.append_nil, List.getElem?_cons_zero, List.getElem?_cons_succ, List.set_cons_zero, List.set_cons_succ, List.length_cons, List.length_nil, Nat.reduceAdd, Nat.reduceLT, Nat.zero_add, Nat.lt_add_one, if_true, if_false, ite_true, ite_false, decide_eq_true_eq, Bool.false_eq_true, reduceCtorEq, reduceIte, Nat.reduceLeDiff, Nat.reduceEqDiff], ?_, p1, l ++ [st], by simp only [EV, val_fnF, zsF_eq, fzAt, D.fz, wpE, mgE, List.contains_cons, List.contains_nil, Nat.reduceBEq, Bool.or_false, Bool.or_true, Bool.false_or, Bool.true_or, seqF_eq, andThen_nx, andThen_bk, andThen_ct, andThen_rt, retV_rt, retV_nx, nxF, bkF, ctF, rtF, rnF, rmF, stF, exF, put, parF, agF, ifS, forF_eq, flF_nil, flF_cons, flK_nx, flK_ct, flK_bk, flK_rt, tbF, ttF, andF, orF, notF, andV, orV, ifF, chF, b1, b2, bN, clF_val, aNil, aCons, nmF, ownF, cF, fzF, itF, inF, itOf, rng1, rng2, yesF, dTru, dNot, I.isi_non_tuple, I.isi_non_list, I.isi_non_bool, I.isi_non_int, I.isi_non_str, I.isi_bl_tuple, I.isi_bl_list, I.isi_bl_bool, I.isi_bl_int, I.isi_bl_str, I.isi_int_tuple, I.isi_int_list, I.isi_int_bool, I.isi_int_int, I.isi_int_str, I.isi_str_tuple, I.isi_str_list, I.isi_str_bool, I.isi_str_int, I.isi_str_str, I.isi_tup_tuple, I.isi_tup_list, I.isi_tup_bool, I.isi_tup_int, I.isi_tup_str, I.isi_lst_tuple, I.isi_lst_list, I.isi_lst_bool, I.isi_lst_int, I.isi_lst_str, I.isi_scr_tuple, I.isi_scr_list, I.isi_scr_bool, I.isi_scr_int, I.isi_scr_str, dEq_bl, dNe_bl, dIsN_non, dIsN_bl, dIsN_int, dIsN_str, dIsN_tup, dIsN_lst, dAdd_int, dSub_int, dEq_int, dNe_int, dLt_int, dLe_int, dGt_int, dGe_int, dAddI_int, asB_bl, dIx_tup0, dIx_tup1, fLen, fAbs, fInt, fMax2, fMin2, gTupF, gsCons, gsNil, D.pure, D.pures, Bool.not_true, Bool.not_false, Bool.and_true, Bool.true_and, Bool.and_false, Bool.false_and, Option.bind_some, Option.bind_none, Option.map_some, Option.map_none, bind_ite, map_ite, List.map_cons, List.map_nil, List.replicate, List.cons_append, List.nil_append, List.append_nil, List.getElem?_cons_zero, List.getElem?_cons_succ, List.set_cons_zero, List.set_cons_succ, List.length_cons, List.length_nil, Nat.reduceAdd, Nat.reduceLT, Nat.zero_add, Nat.lt_add_one, if_true, if_false, ite_true, ite_false, decide_eq_true_eq, Bool.false_eq_true, reduceCtorEq, reduceIte, Nat.reduceLeDiff, Nat.reduceEqDiff], by simp, hp1, by simp at hl ⊢; omega, ?_⟩
      · simp only [E_law_1, EV, q]
      · intro q hq
        rcases List.mem_append.mp hq with w | w
        · exact hq' q w
        · rw [List.mem_singleton.mp w]; exact hs
  have hx : x.length = n := by simpa using hx
  simp only [EV, val_fnF, zsF_eq, fzAt, D.fz, wpE, mgE, List.contains_cons, List.contains_nil, Nat.reduceBEq, Bool.or_false, Bool.or_true, Bool.false_or, Bool.true_or, seqF_eq, andThen_nx, andThen_bk, andThen_ct, andThen_rt, retV_rt, retV_nx, nxF, bkF, ctF, rtF, rnF, rmF, stF, exF, put, parF, agF, ifS, forF_eq, flF_nil, flF_cons, flK_nx, flK_ct, flK_bk, flK_rt, tbF, ttF, andF, orF, notF, andV, orV, ifF, chF, b1, b2, bN, clF_val, aNil, aCons, nmF, ownF, cF, fzF, itF, inF, itOf, rng1, rng2, yesF, dTru, dNot, I.isi_non_tuple, I.isi_non_list, I.isi_non_bool, I.isi_non_int, I.isi_non_str, I.isi_bl_tuple, I.isi_bl_list, I.isi_bl_bool, I.isi_bl_int, I.isi_bl_str, I.isi_int_tuple, I.isi_int_list, I.isi_int_bool, I.isi_int_int, I.isi_int_str, I.isi_str_tuple, I.isi_str_list, I.isi_str_bool, I.isi_str_int, I.isi_str_str, I.isi_tup_tuple, I.isi_tup_list, I.isi_tup_bool, I.isi_tup_int, I.isi_tup_str, I.isi_lst_tuple, I.isi_lst_list, I.isi_lst_bool, I.isi_lst_int, I.isi_lst_str, I.isi_scr_tuple, I.isi_scr_list, I.isi_scr_bool, I.isi_scr_int, I.isi_scr_str, dEq_bl, dNe_bl, dIsN_non, dIsN_bl, dIsN_int, dIsN_str, dIsN_tup, dIsN_lst, dAdd_int, dSub_int, dEq_int, dNe_int, dLt_int, dLe_int, dGt_int, dGe_int, dAddI_int, asB_bl, dIx_tup0, dIx_tup1, fLen, fAbs, fInt, fMax2, fMin2, gTupF, gsCons, gsNil, D.pure, D.pures, Bool.not_true, Bool.not_false, Bool.and_true, Bool.true_and, Bool.and_false, Bool.false_and, Option.bind_some, Option.bind_none, Option.map_some, Option.map_none, bind_ite, map_ite, List.map_cons, List.map_nil, List.replicate, List.cons_append, List.nil_append, List.append_nil, List.getElem?_cons_zero, List.getElem?_cons_succ, List.set_cons_zero, List.set_cons_succ, List.length_cons, List.length_nil, Nat.reduceAdd, Nat.reduceLT, Nat.zero_add, Nat.lt_add_one, if_true, if_false, ite_true, ite_false, decide_eq_true_eq, Bool.false_eq_true, reduceCtorEq, reduceIte, Nat.reduceLeDiff, Nat.reduceEqDiff] at h4
  have ft : fTuple [.lst true (x.map fr)] = some (vecD x) := by
    simp only [fTuple, vecD]; rw [if_pos (pures_fr _)]
  have z : dLst [] = some (.lst true []) := dLst_le (by simp)
  have e5 : S_law_2 (EV (some (.scr ns)) (some p0) none none none none none none none none none none none none none none none none none none) = S_law_6 (EV (some (.scr ns)) (some p3) (some (.int n)) (some (.lst false (P.map vecD))) (some (vecD x)) (some (.lst true [])) none none none none none none none none none none none none none none) := by
    simp only [S_law_2, S_law_3, S_law_4, S_law_5, EV, val_fnF, zsF_eq, fzAt, D.fz, wpE, mgE, List.contains_cons, List.contains_nil, Nat.reduceBEq, Bool.or_false, Bool.or_true, Bool.false_or, Bool.true_or, seqF_eq, andThen_nx, andThen_bk, andThen_ct, andThen_rt, retV_rt, retV_nx, nxF, bkF, ctF, rtF, rnF, rmF, stF, exF, put, parF, agF, ifS, forF_eq, flF_nil, flF_cons, flK_nx, flK_ct, flK_bk, flK_rt, tbF, ttF, andF, orF, notF, andV, orV, ifF, chF, b1, b2, bN, clF_val, aNil, aCons, nmF, ownF, cF, fzF, itF, inF, itOf, rng1, rng2, yesF, dTru, dNot, I.isi_non_tuple, I.isi_non_list, I.isi_non_bool, I.isi_non_int, I.isi_non_str, I.isi_bl_tuple, I.isi_bl_list, I.isi_bl_bool, I.isi_bl_int, I.isi_bl_str, I.isi_int_tuple, I.isi_int_list, I.isi_int_bool, I.isi_int_int, I.isi_int_str, I.isi_str_tuple, I.isi_str_list, I.isi_str_bool, I.isi_str_int, I.isi_str_str, I.isi_tup_tuple, I.isi_tup_list, I.isi_tup_bool, I.isi_tup_int, I.isi_tup_str, I.isi_lst_tuple, I.isi_lst_list, I.isi_lst_bool, I.isi_lst_int, I.isi_lst_str, I.isi_scr_tuple, I.isi_scr_list, I.isi_scr_bool, I.isi_scr_int, I.isi_scr_str, dEq_bl, dNe_bl, dIsN_non, dIsN_bl, dIsN_int, dIsN_str, dIsN_tup, dIsN_lst, dAdd_int, dSub_int, dEq_int, dNe_int, dLt_int, dLe_int, dGt_int, dGe_int, dAddI_int, asB_bl, dIx_tup0, dIx_tup1, fLen, fAbs, fInt, fMax2, fMin2, gTupF, gsCons, gsNil, D.pure, D.pures, Bool.not_true, Bool.not_false, Bool.and_true, Bool.true_and, Bool.and_false, Bool.false_and, Option.bind_some, Option.bind_none, Option.map_some, Option.map_none, bind_ite, map_ite, List.map_cons, List.map_nil, List.replicate, List.cons_append, List.nil_append, List.append_nil, List.getElem?_cons_zero, List.getElem?_cons_succ, List.set_cons_zero, List.set_cons_succ, List.length_cons, List.length_nil, Nat.reduceAdd, Nat.reduceLT, Nat.zero_add, Nat.lt_add_one, if_true, if_false, ite_true, ite_false, decide_eq_true_eq, Bool.false_eq_true, reduceCtorEq, reduceIte, Nat.reduceLeDiff, Nat.reduceEqDiff, q1, hn, q2, fzs_vec, h4, ft, z]
  obtain ⟨v, b, k, o, e6⟩ := shifts_ok (s := .scr ns) (p := p3) hP hx n0 hq
  have e7 := step7 (s := .scr ns) (p := p3) (v := v) (b := b) (k := ki k) (o := o) hP n0 P0 hx hq
  have e10 := step10 (s := .scr ns) (p := p3) (v := v) (b := b) (k := k) (o := o) (sh := some (.lst true ((labs P x).map fr))) (d10 := some (vecD (mixv n (labs P x) P))) hP n0 P0 hx hq
  obtain ⟨p4, ob, d13, d14, d15, d16, hp4, e14⟩ := turns_ok (s := .scr ns) (p := p3) (v := v) (b := b) (k := k) (o := o) (d10 := some (vecD (mixv n (labs P x) P))) hP n0 P0 hx hq hp3
  rw [e5, e6, e7, e10, e14]
  exact step15 n0 (by omega) hx hq hp4
end
end G33

set_option Elab.async false
set_option linter.all false
set_option maxRecDepth 100000
set_option maxHeartbeats 4000000
namespace G33
open PySem L2 Pz
noncomputable section
abbrev tp (i : Nat) : Stmt := PySem.Challenge.pw_leastplus_k33_whole_nearest_points.main.body.getD i (.Pass ⟨0, 0, 0, 0⟩)
structure Txt (K : PySem.W.Frag) (mg : Str → Option Value) : Prop where
  b_abs : mg "abs" = none
  b_bool : mg "bool" = none
  b_int : mg "int" = none
  b_isinstance : mg "isinstance" = none
  b_len : mg "len" = none
  b_list : mg "list" = none
  b_range : mg "range" = none
  b_str : mg "str" = none
  b_tuple : mg "tuple" = none
  b_zip : mg "zip" = none
  e_INFINITE : ∃ v u, mg "INFINITE" = some u ∧ RelV v u ∧ ∀ G H, Rp K G H g_INFINITE v []
end
end G33
namespace G33
open PySem L2 Pz
noncomputable section
section
variable {P : Program} {w : World} {K : PySem.W.Frag} {mg : Str → Option Value} {base : Heap}
theorem sc_common_divisor : FnScope ["a", "b"] ["a", "b"] (defScope (tp 5)) := ⟨rfl, rfl, rfl, by decide +kernel, rfl, by decide +kernel, by decide +kernel⟩
theorem cal_common_divisor {f : Addr} {fd : FuncData} (T : Txt K mg) (F : Fun K "common_divisor" "common_divisor" (tp 5) f fd) (hm : mg "common_divisor" = some (.ref f)) (hb : Binds K fd ["a", "b"] []) : Cal P w K mg base "common_divisor" 1 ["a", "b"] F_common_divisor := by
  refine cal_mk arity_fnF (fnV F sc_common_divisor 0 rfl (W := [0, 1]) fun cdv A outer s H E hr => ?_) hm F.kp hb
  exact bv_W (bv_cons (sv_par (i := 0) (j := 1) rfl sc_common_divisor.nd rfl rfl (by decide) rfl rfl (av_cons (ev_callB call_abs on_abs (by rfl) T.b_abs (by decide +kernel) (av_cons (ev_look (pv 0)) av_nil)) (av_cons (ev_callB call_abs on_abs (by rfl) T.b_abs (by decide +kernel) (av_cons (ev_look (pv 1)) av_nil)) av_nil)) (by rfl)) (bv_cons (sv_while (FT := C_common_divisor_1) (F := L_common_divisor_1) PySem.PassesOwn.never (tv_cmp op_gt o2_gt (ev_look (pv 1)) ev_int (nomark _)) (bv_one (sv_par (i := 0) (j := 1) rfl sc_common_divisor.nd rfl rfl (by decide) rfl rfl (av_cons (ev_name (pv 1)) (av_cons (ev_bin op_modN o2_mod (ev_look (pv 0)) (ev_look (pv 1))) av_nil)) (by rfl)))) (bv_one (sv_ret (ev_name (pv 0)))))) (by decide)
theorem sc_sign : FnScope ["x"] ["x"] (defScope (tp 9)) := ⟨rfl, rfl, rfl, by decide +kernel, rfl, by decide +kernel, by decide +kernel⟩
theorem cal_sign {f : Addr} {fd : FuncData} (T : Txt K mg) (F : Fun K "sign" "sign" (tp 9) f fd) (hm : mg "sign" = some (.ref f)) (hb : Binds K fd ["x"] []) : Cal P w K mg base "sign" 1 ["x"] F_sign := by
  refine cal_mk arity_fnF (fnV F sc_sign 0 rfl (W := []) fun cdv A outer s H E hr => ?_) hm F.kp hb
  exact bv_W (bv_one (sv_ret (ev_bin op_sub o2_sub (ev_callTy call_int1 on_int (by rfl) T.b_int (by decide +kernel) (av_cons (ev_cmp op_gt o2_gt (ev_sub (ev_look (pv 0)) ev_int (fun _ _ => rfl)) ev_int (nomark _)) av_nil)) (ev_callTy call_int1 on_int (by rfl) T.b_int (by decide +kernel) (av_cons (ev_cmp (opr_lt hr.units0) o2_lt (ev_sub (ev_look (pv 0)) ev_int (fun _ _ => rfl)) ev_int (nomark _)) av_nil))))) (by decide)
theorem sc_as_matrix : FnScope ["points", "k", "point"] ["points"] (defScope (tp 21)) := ⟨rfl, rfl, rfl, by decide +kernel, rfl, by decide +kernel, by decide +kernel⟩
theorem cal_as_matrix {f : Addr} {fd : FuncData} (T : Txt K mg) (F : Fun K "as_matrix" "as_matrix" (tp 21) f fd) (hm : mg "as_matrix" = some (.ref f)) (hb : Binds K fd ["points"] []) : Cal P w K mg base "as_matrix" 1 ["points"] F_as_matrix := by
  refine cal_mk arity_fnF (fnV F sc_as_matrix 2 rfl (W := []) fun cdv A outer s H E hr => ?_) hm F.kp hb
  exact bv_W (bv_one (sv_ret (ev_callTy call_tuple_of on_tuple (by rfl) T.b_tuple (by decide +kernel) (av_cons (ev_lc (own := [("k", 1)]) rfl sc_as_matrix.nd (iv_range1 (by rfl) T.b_range (av_cons (ev_callB call_len on_len (by rfl) T.b_len PySem.boot_len (av_cons (ev_sub (ev_look (pv 0)) ev_int (fun _ _ => rfl)) av_nil)) av_nil)) (blkOk_by (N := ["points", "k", "point"]) (sc := defScope (tp 21)) (by decide +kernel)) (fun _ _ _ _ _ => (gv_name sc_as_matrix.nd rfl (by first | exact .inl rfl | exact .inr rfl))) (fun _ _ _ _ _ => cv_nil) (fun _ _ _ _ _ => (ev_callTy call_tuple_of on_tuple (by rfl) T.b_tuple (by decide +kernel) (av_cons (ev_lc (own := [("point", 2)]) rfl sc_as_matrix.nd (iv_seq (ev_share (pv 0))) (blkOk_by (N := ["points", "k", "point"]) (sc := (fsc [(".0", .local), ("k", .cell), ("tuple", .globalImplicit), ("points", .cell)])) (by decide +kernel)) (fun _ _ _ _ _ => (gv_name sc_as_matrix.nd rfl (by first | exact .inl rfl | exact .inr rfl))) (fun _ _ _ _ _ => cv_nil) (fun _ _ _ _ _ => (ev_own (ev_sub (ev_look (pv 2)) (ev_look (pv 1)) (fun _ _ => rfl)))) (by decide)) av_nil))) (by decide)) av_nil)))) (by decide)
theorem sc__law_pool : FnScope ["script", "salt", "cell"] ["script"] (defScope (tp 28)) := ⟨rfl, rfl, rfl, by decide +kernel, rfl, by decide +kernel, by decide +kernel⟩
theorem cal__law_pool {f : Addr} {fd : FuncData} (T : Txt K mg) (F : Fun K "_law_pool" "_law_pool" (tp 28) f fd) (hm : mg "_law_pool" = some (.ref f)) (hb : Binds K fd ["script"] []) : Cal P w K mg base "_law_pool" 1 ["script"] F__law_pool := by
  refine cal_mk arity_fnF (fnV F sc__law_pool 2 rfl (W := [1, 2]) fun cdv A outer s H E hr => ?_) hm F.kp hb
  exact bv_W (bv_cons (sv_set (i := 1) sc__law_pool.nd rfl (by first | exact .inl rfl | exact .inr rfl) ev_int) (bv_cons (sv_for (FB := L__law_pool_1) PySem.PassesOwn.never rfl (iv_seq (ev_slice (ev_look (pv 0)) ov_none (ov_some ev_int))) (gv_name sc__law_pool.nd rfl (by first | exact .inl rfl | exact .inr rfl)) (bv_one (sv_set (i := 1) sc__law_pool.nd rfl (by first | exact .inl rfl | exact .inr rfl) (ev_bin op_modN o2_mod (ev_callTy call_int1 on_int (by rfl) T.b_int (by decide +kernel) (av_cons (ev_bin opr_add o2_add (ev_bin op_mulZ o2_mul (ev_look (pv 1)) ev_int) (ev_look (pv 2))) av_nil)) ev_int)))) (bv_one (sv_ret (ev_lst (av_cons (ev_callTy call_list_of on_list (by rfl) T.b_list (by decide +kernel) (av_cons (ev_look (pv 0)) av_nil)) (av_cons ev_int (av_cons ev_int (av_cons ev_int (av_cons (ev_name (pv 1)) av_nil)))))))))) (by decide)
theorem sc__law_spread : FnScope ["cell", "mixed", "total", "k"] ["cell"] (defScope (tp 29)) := ⟨rfl, rfl, rfl, by decide +kernel, rfl, by decide +kernel, by decide +kernel⟩
theorem cal__law_spread {f : Addr} {fd : FuncData} (T : Txt K mg) (F : Fun K "_law_spread" "_law_spread" (tp 29) f fd) (hm : mg "_law_spread" = some (.ref f)) (hb : Binds K fd ["cell"] []) : Cal P w K mg base "_law_spread" 1 ["cell"] F__law_spread := by
  refine cal_mk arity_fnF (fnV F sc__law_spread 3 rfl (W := [1, 2, 3]) fun cdv A outer s H E hr => ?_) hm F.kp hb
  exact bv_W (bv_cons (sv_set (i := 1) sc__law_spread.nd rfl (by first | exact .inl rfl | exact .inr rfl) (ev_bin op_modN o2_mod (ev_callTy call_int1 on_int (by rfl) T.b_int (by decide +kernel) (av_cons (ev_look (pv 0)) av_nil)) ev_int)) (bv_cons (sv_set (i := 2) sc__law_spread.nd rfl (by first | exact .inl rfl | exact .inr rfl) ev_int) (bv_cons (sv_for (FB := L__law_spread_1) PySem.PassesOwn.never rfl (iv_range1 (by rfl) T.b_range (av_cons ev_int av_nil)) (gv_name sc__law_spread.nd rfl (by first | exact .inl rfl | exact .inr rfl)) (bv_cons (sv_set (i := 1) sc__law_spread.nd rfl (by first | exact .inl rfl | exact .inr rfl) (ev_bin op_modN o2_mod (ev_callTy call_int1 on_int (by rfl) T.b_int (by decide +kernel) (av_cons (ev_bin opr_add o2_add (ev_bin opr_add o2_add (ev_bin op_mulZ o2_mul (ev_look (pv 1)) ev_int) ev_int) (ev_look (pv 3))) av_nil)) ev_int)) (bv_one (sv_set (i := 2) sc__law_spread.nd rfl (by first | exact .inl rfl | exact .inr rfl) (ev_bin opr_add o2_add (ev_bin op_mulZ o2_mul (ev_look (pv 2)) ev_int) (ev_look (pv 1))))))) (bv_one (sv_ret (ev_name (pv 2))))))) (by decide)
theorem sc__law_gcd : FnScope ["a", "b", "c"] ["a", "b"] (defScope (tp 31)) := ⟨rfl, rfl, rfl, by decide +kernel, rfl, by decide +kernel, by decide +kernel⟩
theorem cal__law_gcd {f : Addr} {fd : FuncData} (T : Txt K mg) (F : Fun K "_law_gcd" "_law_gcd" (tp 31) f fd) (hm : mg "_law_gcd" = some (.ref f)) (hb : Binds K fd ["a", "b"] []) : Cal P w K mg base "_law_gcd" 1 ["a", "b"] F__law_gcd := by
  refine cal_mk arity_fnF (fnV F sc__law_gcd 1 rfl (W := [0, 1, 2]) fun cdv A outer s H E hr => ?_) hm F.kp hb
  exact bv_W (bv_cons (sv_set (i := 0) sc__law_gcd.nd rfl (by first | exact .inl rfl | exact .inr rfl) (ev_callB call_abs on_abs (by rfl) T.b_abs (by decide +kernel) (av_cons (ev_look (pv 0)) av_nil))) (bv_cons (sv_set (i := 1) sc__law_gcd.nd rfl (by first | exact .inl rfl | exact .inr rfl) (ev_callB call_abs on_abs (by rfl) T.b_abs (by decide +kernel) (av_cons (ev_look (pv 1)) av_nil))) (bv_cons (sv_while (FT := C__law_gcd_1) (F := L__law_gcd_1) PySem.PassesOwn.never (tv_cmp op_gt o2_gt (ev_look (pv 1)) ev_int (nomark _)) (bv_cons (sv_set (i := 2) sc__law_gcd.nd rfl (by first | exact .inl rfl | exact .inr rfl) (ev_bin op_modN o2_mod (ev_look (pv 0)) (ev_look (pv 1)))) (bv_cons (sv_set (i := 0) sc__law_gcd.nd rfl (by first | exact .inl rfl | exact .inr rfl) (ev_name (pv 1))) (bv_one (sv_set (i := 1) sc__law_gcd.nd rfl (by first | exact .inl rfl | exact .inr rfl) (ev_name (pv 2))))))) (bv_one (sv_ret (ev_name (pv 0))))))) (by decide)
theorem sc__law_less : FnScope ["x", "y"] ["x", "y"] (defScope (tp 36)) := ⟨rfl, rfl, rfl, by decide +kernel, rfl, by decide +kernel, by decide +kernel⟩
theorem cal__law_less {f : Addr} {fd : FuncData} (T : Txt K mg) (F : Fun K "_law_less" "_law_less" (tp 36) f fd) (hm : mg "_law_less" = some (.ref f)) (hb : Binds K fd ["x", "y"] []) : Cal P w K mg base "_law_less" 1 ["x", "y"] F__law_less := by
  refine cal_mk arity_fnF (fnV F sc__law_less 0 rfl (W := []) fun cdv A outer s H E hr => ?_) hm F.kp hb
  exact bv_W (bv_one (sv_ret (ev_cmp (opr_lt hr.units0) o2_lt (ev_bin op_mulZ o2_mul (ev_sub (ev_look (pv 0)) ev_int (fun _ _ => rfl)) (ev_sub (ev_look (pv 1)) ev_int (fun _ _ => rfl))) (ev_bin op_mulZ o2_mul (ev_sub (ev_look (pv 1)) ev_int (fun _ _ => rfl)) (ev_sub (ev_look (pv 0)) ev_int (fun _ _ => rfl))) (nomark _)))) (by decide)
theorem sc_fraction : FnScope ["a", "b", "divisor"] ["a", "b"] (defScope (tp 6)) := ⟨rfl, rfl, rfl, by decide +kernel, rfl, by decide +kernel, by decide +kernel⟩
theorem cal_fraction {f : Addr} {fd : FuncData} (T : Txt K mg) (F : Fun K "fraction" "fraction" (tp 6) f fd) (hm : mg "fraction" = some (.ref f)) (hb : Binds K fd ["a", "b"] []) (c_common_divisor : Cal P w K mg base "common_divisor" 1 ["a", "b"] F_common_divisor) : Cal P w K mg base "fraction" 2 ["a", "b"] F_fraction := by
  refine cal_mk arity_fnF (fnV F sc_fraction 1 rfl (W := [2]) fun cdv A outer s H E hr => ?_) hm F.kp hb
  exact bv_W (bv_cons (sv_if (tv_cmp (op_eqD hr.units) o2_eq (ev_look (pv 1)) ev_int (nomark _)) (bv_one sv_never) bv_nil) (bv_cons (sv_set (i := 2) sc_fraction.nd rfl (by first | exact .inl rfl | exact .inr rfl) (ev_def c_common_divisor (hr.mono (by decide)) (by rfl) (av_cons (ev_name (pv 0)) (av_cons (ev_name (pv 1)) av_nil)))) (bv_cons (sv_if (tv_cmp (opr_lt hr.units0) o2_lt (ev_look (pv 1)) ev_int (nomark _)) (bv_one (sv_set (i := 2) sc_fraction.nd rfl (by first | exact .inl rfl | exact .inr rfl) (ev_un un_neg o1_neg (ev_look (pv 2))))) bv_nil) (bv_one (sv_ret (ev_tup (av_cons (ev_bin op_fdivX o2_div (ev_look (pv 0)) (ev_look (pv 2))) (av_cons (ev_bin op_fdivX o2_div (ev_look (pv 1)) (ev_look (pv 2))) av_nil)))))))) (by decide)
theorem sc__law_draw : FnScope ["pool", "many", "cell", "mixed", "value"] ["pool", "many"] (defScope (tp 30)) := ⟨rfl, rfl, rfl, by decide +kernel, rfl, by decide +kernel, by decide +kernel⟩
theorem cal__law_draw {f : Addr} {fd : FuncData} (T : Txt K mg) (F : Fun K "_law_draw" "_law_draw" (tp 30) f fd) (hm : mg "_law_draw" = some (.ref f)) (hb : Binds K fd ["pool", "many"] []) (c__law_spread : Cal P w K mg base "_law_spread" 1 ["cell"] F__law_spread) : Cal P w K mg base "_law_draw" 2 ["pool", "many"] F__law_draw := by
  refine cal_mk arity_fnF (fnV F sc__law_draw 3 rfl (W := [2, 3, 4]) fun cdv A outer s H E hr => ?_) hm F.kp hb
  exact bv_W (bv_cons (sv_if (tv_w (wv_and (tv_cmp op_le o2_le (ev_sub (ev_look (pv 0)) ev_int (fun _ _ => rfl)) ev_int (nomark _)) (wv_and1 (tv_cmp (opr_lt hr.units0) o2_lt (ev_sub (ev_look (pv 0)) ev_int (fun _ _ => rfl)) (ev_callB call_len on_len (by rfl) T.b_len PySem.boot_len (av_cons (ev_sub (ev_look (pv 0)) ev_int (fun _ _ => rfl)) av_nil)) (nomark _))))) (bv_cons (sv_set (i := 2) sc__law_draw.nd rfl (by first | exact .inl rfl | exact .inr rfl) (ev_own (ev_sub (ev_sub (ev_look (pv 0)) ev_int (fun _ _ => rfl)) (ev_sub (ev_look (pv 0)) ev_int (fun _ _ => rfl)) (fun _ _ => rfl)))) (bv_cons (sv_asg (ev_bin opr_add o2_add (ev_sub (ev_look (pv 0)) ev_int (fun _ _ => rfl)) ev_int) (gv_item (pv 0) ev_int)) (bv_cons (sv_asg (ev_name (pv 2)) (gv_item (pv 0) ev_int)) (bv_one (sv_if (tv_cmp (opr_lt hr.units0) o2_lt (ev_look (pv 2)) ev_int (nomark _)) (bv_one (sv_asg (ev_def c__law_spread (hr.mono (by decide)) (by rfl) (av_cons (ev_name (pv 2)) av_nil)) (gv_item (pv 0) ev_int))) bv_nil))))) bv_nil) (bv_cons (sv_asg (ev_bin opr_add o2_add (ev_sub (ev_look (pv 0)) ev_int (fun _ _ => rfl)) ev_int) (gv_item (pv 0) ev_int)) (bv_cons (sv_if (tv_cmp op_le o2_le (ev_sub (ev_look (pv 0)) ev_int (fun _ _ => rfl)) ev_int (nomark _)) (bv_cons (sv_set (i := 3) sc__law_draw.nd rfl (by first | exact .inl rfl | exact .inr rfl) (ev_bin op_modN o2_mod (ev_callTy call_int1 on_int (by rfl) T.b_int (by decide +kernel) (av_cons (ev_bin opr_add o2_add (ev_bin opr_add o2_add (ev_bin op_mulZ o2_mul (ev_sub (ev_look (pv 0)) ev_int (fun _ _ => rfl)) ev_int) (ev_bin op_mulZ o2_mul (ev_sub (ev_look (pv 0)) ev_int (fun _ _ => rfl)) ev_int)) ev_int) av_nil)) ev_int)) (bv_cons (sv_set (i := 3) sc__law_draw.nd rfl (by first | exact .inl rfl | exact .inr rfl) (ev_bin op_modN o2_mod (ev_callTy call_int1 on_int (by rfl) T.b_int (by decide +kernel) (av_cons (ev_bin opr_add o2_add (ev_bin op_mulZ o2_mul (ev_look (pv 3)) ev_int) (ev_sub (ev_look (pv 0)) ev_int (fun _ _ => rfl))) av_nil)) ev_int)) (bv_one (sv_ret (ev_bin op_modN o2_mod (ev_bin op_fdivX o2_div (ev_look (pv 3)) ev_int) (ev_look (pv 1))))))) bv_nil) (bv_cons (sv_set (i := 4) sc__law_draw.nd rfl (by first | exact .inl rfl | exact .inr rfl) (ev_bin op_modN o2_mod (ev_callTy call_int1 on_int (by rfl) T.b_int (by decide +kernel) (av_cons (ev_sub (ev_look (pv 0)) ev_int (fun _ _ => rfl)) av_nil)) (ev_look (pv 1)))) (bv_cons (sv_asg (ev_bin op_fdivX o2_div (ev_sub (ev_look (pv 0)) ev_int (fun _ _ => rfl)) (ev_look (pv 1))) (gv_item (pv 0) ev_int)) (bv_one (sv_ret (ev_name (pv 4))))))))) (by decide)
theorem sc__law_frac : FnScope ["a", "b", "found"] ["a", "b"] (defScope (tp 32)) := ⟨rfl, rfl, rfl, by decide +kernel, rfl, by decide +kernel, by decide +kernel⟩
theorem cal__law_frac {f : Addr} {fd : FuncData} (T : Txt K mg) (F : Fun K "_law_frac" "_law_frac" (tp 32) f fd) (hm : mg "_law_frac" = some (.ref f)) (hb : Binds K fd ["a", "b"] []) (c__law_gcd : Cal P w K mg base "_law_gcd" 1 ["a", "b"] F__law_gcd) : Cal P w K mg base "_law_frac" 2 ["a", "b"] F__law_frac := by
  refine cal_mk arity_fnF (fnV F sc__law_frac 1 rfl (W := [2]) fun cdv A outer s H E hr => ?_) hm F.kp hb
  exact bv_W (bv_cons (sv_set (i := 2) sc__law_frac.nd rfl (by first | exact .inl rfl | exact .inr rfl) (ev_def c__law_gcd (hr.mono (by decide)) (by rfl) (av_cons (ev_name (pv 0)) (av_cons (ev_name (pv 1)) av_nil)))) (bv_one (sv_ret (ev_if (tv_cmp op_gt o2_gt (ev_look (pv 1)) ev_int (nomark _)) (ev_tup (av_cons (ev_bin op_fdivX o2_div (ev_look (pv 0)) (ev_look (pv 2))) (av_cons (ev_bin op_fdivX o2_div (ev_look (pv 1)) (ev_look (pv 2))) av_nil))) (ev_tup (av_cons (ev_bin op_fdivX o2_div (ev_un un_neg o1_neg (ev_look (pv 0))) (ev_look (pv 2))) (av_cons (ev_bin op_fdivX o2_div (ev_un un_neg o1_neg (ev_look (pv 1))) (ev_look (pv 2))) av_nil))))))) (by decide)
theorem sc__law_smaller : FnScope ["x", "y"] ["x", "y"] (defScope (tp 41)) := ⟨rfl, rfl, rfl, by decide +kernel, rfl, by decide +kernel, by decide +kernel⟩
theorem cal__law_smaller {f : Addr} {fd : FuncData} (T : Txt K mg) (F : Fun K "_law_smaller" "_law_smaller" (tp 41) f fd) (hm : mg "_law_smaller" = some (.ref f)) (hb : Binds K fd ["x", "y"] []) (c__law_less : Cal P w K mg base "_law_less" 1 ["x", "y"] F__law_less) : Cal P w K mg base "_law_smaller" 2 ["x", "y"] F__law_smaller := by
  refine cal_mk arity_fnF (fnV F sc__law_smaller 0 rfl (W := []) fun cdv A outer s H E hr => ?_) hm F.kp hb
  exact bv_W (bv_cons (sv_if (tv_w (wv_or (tv_cmp (op_eqD hr.units) o2_eq (ev_look (pv 0)) (ev_tup av_nil) (nomark _)) (wv_or1 (tv_cmp (op_eqD hr.units) o2_eq (ev_look (pv 1)) (ev_tup av_nil) (nomark _))))) (bv_one (sv_ret (ev_and (ev_cmp (op_eqD hr.units) o2_eq (ev_look (pv 1)) (ev_tup av_nil) (nomark _)) (ev_one (ev_cmp (op_neD hr.units) o2_ne (ev_look (pv 0)) (ev_tup av_nil) (nomark _)))))) bv_nil) (bv_one (sv_ret (ev_def c__law_less (hr.mono (by decide)) (by rfl) (av_cons (ev_name (pv 0)) (av_cons (ev_name (pv 1)) av_nil)))))) (by decide)
theorem sc_plus : FnScope ["x", "y"] ["x", "y"] (defScope (tp 7)) := ⟨rfl, rfl, rfl, by decide +kernel, rfl, by decide +kernel, by decide +kernel⟩
theorem cal_plus {f : Addr} {fd : FuncData} (T : Txt K mg) (F : Fun K "plus" "plus" (tp 7) f fd) (hm : mg "plus" = some (.ref f)) (hb : Binds K fd ["x", "y"] []) (c_fraction : Cal P w K mg base "fraction" 2 ["a", "b"] F_fraction) : Cal P w K mg base "plus" 3 ["x", "y"] F_plus := by
  refine cal_mk arity_fnF (fnV F sc_plus 0 rfl (W := []) fun cdv A outer s H E hr => ?_) hm F.kp hb
  exact bv_W (bv_one (sv_ret (ev_def c_fraction (hr.mono (by decide)) (by rfl) (av_cons (ev_bin opr_add o2_add (ev_bin op_mulZ o2_mul (ev_sub (ev_look (pv 0)) ev_int (fun _ _ => rfl)) (ev_sub (ev_look (pv 1)) ev_int (fun _ _ => rfl))) (ev_bin op_mulZ o2_mul (ev_sub (ev_look (pv 1)) ev_int (fun _ _ => rfl)) (ev_sub (ev_look (pv 0)) ev_int (fun _ _ => rfl)))) (av_cons (ev_bin op_mulZ o2_mul (ev_sub (ev_look (pv 0)) ev_int (fun _ _ => rfl)) (ev_sub (ev_look (pv 1)) ev_int (fun _ _ => rfl))) av_nil))))) (by decide)
theorem sc_minus : FnScope ["x", "y"] ["x", "y"] (defScope (tp 8)) := ⟨rfl, rfl, rfl, by decide +kernel, rfl, by decide +kernel, by decide +kernel⟩
theorem cal_minus {f : Addr} {fd : FuncData} (T : Txt K mg) (F : Fun K "minus" "minus" (tp 8) f fd) (hm : mg "minus" = some (.ref f)) (hb : Binds K fd ["x", "y"] []) (c_fraction : Cal P w K mg base "fraction" 2 ["a", "b"] F_fraction) : Cal P w K mg base "minus" 3 ["x", "y"] F_minus := by
  refine cal_mk arity_fnF (fnV F sc_minus 0 rfl (W := []) fun cdv A outer s H E hr => ?_) hm F.kp hb
  exact bv_W (bv_one (sv_ret (ev_def c_fraction (hr.mono (by decide)) (by rfl) (av_cons (ev_bin op_sub o2_sub (ev_bin op_mulZ o2_mul (ev_sub (ev_look (pv 0)) ev_int (fun _ _ => rfl)) (ev_sub (ev_look (pv 1)) ev_int (fun _ _ => rfl))) (ev_bin op_mulZ o2_mul (ev_sub (ev_look (pv 1)) ev_int (fun _ _ => rfl)) (ev_sub (ev_look (pv 0)) ev_int (fun _ _ => rfl)))) (av_cons (ev_bin op_mulZ o2_mul (ev_sub (ev_look (pv 0)) ev_int (fun _ _ => rfl)) (ev_sub (ev_look (pv 1)) ev_int (fun _ _ => rfl))) av_nil))))) (by decide)
theorem sc__law_add : FnScope ["x", "y"] ["x", "y"] (defScope (tp 33)) := ⟨rfl, rfl, rfl, by decide +kernel, rfl, by decide +kernel, by decide +kernel⟩
theorem cal__law_add {f : Addr} {fd : FuncData} (T : Txt K mg) (F : Fun K "_law_add" "_law_add" (tp 33) f fd) (hm : mg "_law_add" = some (.ref f)) (hb : Binds K fd ["x", "y"] []) (c__law_frac : Cal P w K mg base "_law_frac" 2 ["a", "b"] F__law_frac) : Cal P w K mg base "_law_add" 3 ["x", "y"] F__law_add := by
  refine cal_mk arity_fnF (fnV F sc__law_add 0 rfl (W := []) fun cdv A outer s H E hr => ?_) hm F.kp hb
  exact bv_W (bv_one (sv_ret (ev_def c__law_frac (hr.mono (by decide)) (by rfl) (av_cons (ev_bin opr_add o2_add (ev_bin op_mulZ o2_mul (ev_sub (ev_look (pv 0)) ev_int (fun _ _ => rfl)) (ev_sub (ev_look (pv 1)) ev_int (fun _ _ => rfl))) (ev_bin op_mulZ o2_mul (ev_sub (ev_look (pv 1)) ev_int (fun _ _ => rfl)) (ev_sub (ev_look (pv 0)) ev_int (fun _ _ => rfl)))) (av_cons (ev_bin op_mulZ o2_mul (ev_sub (ev_look (pv 0)) ev_int (fun _ _ => rfl)) (ev_sub (ev_look (pv 1)) ev_int (fun _ _ => rfl))) av_nil))))) (by decide)
theorem sc__law_sub : FnScope ["x", "y"] ["x", "y"] (defScope (tp 34)) := ⟨rfl, rfl, rfl, by decide +kernel, rfl, by decide +kernel, by decide +kernel⟩
theorem cal__law_sub {f : Addr} {fd : FuncData} (T : Txt K mg) (F : Fun K "_law_sub" "_law_sub" (tp 34) f fd) (hm : mg "_law_sub" = some (.ref f)) (hb : Binds K fd ["x", "y"] []) (c__law_frac : Cal P w K mg base "_law_frac" 2 ["a", "b"] F__law_frac) : Cal P w K mg base "_law_sub" 3 ["x", "y"] F__law_sub := by
  refine cal_mk arity_fnF (fnV F sc__law_sub 0 rfl (W := []) fun cdv A outer s H E hr => ?_) hm F.kp hb
  exact bv_W (bv_one (sv_ret (ev_def c__law_frac (hr.mono (by decide)) (by rfl) (av_cons (ev_bin op_sub o2_sub (ev_bin op_mulZ o2_mul (ev_sub (ev_look (pv 0)) ev_int (fun _ _ => rfl)) (ev_sub (ev_look (pv 1)) ev_int (fun _ _ => rfl))) (ev_bin op_mulZ o2_mul (ev_sub (ev_look (pv 1)) ev_int (fun _ _ => rfl)) (ev_sub (ev_look (pv 0)) ev_int (fun _ _ => rfl)))) (av_cons (ev_bin op_mulZ o2_mul (ev_sub (ev_look (pv 0)) ev_int (fun _ _ => rfl)) (ev_sub (ev_look (pv 1)) ev_int (fun _ _ => rfl))) av_nil))))) (by decide)
theorem sc__law_some : FnScope ["pool"] ["pool"] (defScope (tp 38)) := ⟨rfl, rfl, rfl, by decide +kernel, rfl, by decide +kernel, by decide +kernel⟩
theorem cal__law_some {f : Addr} {fd : FuncData} (T : Txt K mg) (F : Fun K "_law_some" "_law_some" (tp 38) f fd) (hm : mg "_law_some" = some (.ref f)) (hb : Binds K fd ["pool"] []) (c__law_draw : Cal P w K mg base "_law_draw" 2 ["pool", "many"] F__law_draw) (c__law_frac : Cal P w K mg base "_law_frac" 2 ["a", "b"] F__law_frac) : Cal P w K mg base "_law_some" 3 ["pool"] F__law_some := by
  refine cal_mk arity_fnF (fnV F sc__law_some 0 rfl (W := []) fun cdv A outer s H E hr => ?_) hm F.kp hb
  exact bv_W (bv_one (sv_ret (ev_def c__law_frac (hr.mono (by decide)) (by rfl) (av_cons (ev_bin op_sub o2_sub (ev_defL (lens := [some 0, none]) c__law_draw (hr.mono (by decide)) (by rfl) (lv_lend (pv 0) (lv_cons ev_int lv_nil))) ev_int) (av_cons (ev_bin opr_add o2_add ev_int (ev_bin op_mulZ o2_mul (ev_defL (lens := [some 0, none]) c__law_draw (hr.mono (by decide)) (by rfl) (lv_lend (pv 0) (lv_cons ev_int lv_nil))) (ev_defL (lens := [some 0, none]) c__law_draw (hr.mono (by decide)) (by rfl) (lv_lend (pv 0) (lv_cons ev_int lv_nil))))) av_nil))))) (by decide)
theorem sc__law_lowest : FnScope ["values", "found", "x"] ["values"] (defScope (tp 42)) := ⟨rfl, rfl, rfl, by decide +kernel, rfl, by decide +kernel, by decide +kernel⟩
theorem cal__law_lowest {f : Addr} {fd : FuncData} (T : Txt K mg) (F : Fun K "_law_lowest" "_law_lowest" (tp 42) f fd) (hm : mg "_law_lowest" = some (.ref f)) (hb : Binds K fd ["values"] []) (c__law_smaller : Cal P w K mg base "_law_smaller" 2 ["x", "y"] F__law_smaller) : Cal P w K mg base "_law_lowest" 3 ["values"] F__law_lowest := by
  refine cal_mk arity_fnF (fnV F sc__law_lowest 2 rfl (W := [1, 2]) fun cdv A outer s H E hr => ?_) hm F.kp hb
  exact bv_W (bv_cons (sv_set (i := 1) sc__law_lowest.nd rfl (by first | exact .inl rfl | exact .inr rfl) (ev_tup av_nil)) (bv_cons (sv_for (FB := L__law_lowest_1) PySem.PassesOwn.never rfl (iv_seq (ev_share (pv 0))) (gv_name sc__law_lowest.nd rfl (by first | exact .inl rfl | exact .inr rfl)) (bv_one (sv_set (i := 1) sc__law_lowest.nd rfl (by first | exact .inl rfl | exact .inr rfl) (ev_if (tv_tru (ev_def c__law_smaller (hr.mono (by decide)) (by rfl) (av_cons (ev_name (pv 2)) (av_cons (ev_name (pv 1)) av_nil)))) (ev_name (pv 2)) (ev_name (pv 1)))))) (bv_one (sv_ret (ev_name (pv 1)))))) (by decide)
theorem sc__law_cloud : FnScope ["pool", "n", "most", "found", "i", "k", "point", "a"] ["pool", "n", "most"] (defScope (tp 48)) := ⟨rfl, rfl, rfl, by decide +kernel, rfl, by decide +kernel, by decide +kernel⟩
theorem cal__law_cloud {f : Addr} {fd : FuncData} (T : Txt K mg) (F : Fun K "_law_cloud" "_law_cloud" (tp 48) f fd) (hm : mg "_law_cloud" = some (.ref f)) (hb : Binds K fd ["pool", "n", "most"] []) (c__law_draw : Cal P w K mg base "_law_draw" 2 ["pool", "many"] F__law_draw) (c__law_frac : Cal P w K mg base "_law_frac" 2 ["a", "b"] F__law_frac) : Cal P w K mg base "_law_cloud" 3 ["pool", "n", "most"] F__law_cloud := by
  refine cal_mk arity_fnF (fnV F sc__law_cloud 5 rfl (W := [3, 4]) fun cdv A outer s H E hr => ?_) hm F.kp hb
  exact bv_W (bv_cons (sv_set (i := 3) sc__law_cloud.nd rfl (by first | exact .inl rfl | exact .inr rfl) (ev_lst av_nil)) (bv_cons (sv_for (FB := L__law_cloud_2) PySem.PassesOwn.never rfl (iv_range1 (by rfl) T.b_range (av_cons (ev_bin opr_add o2_add ev_int (ev_defL (lens := [some 0, none]) c__law_draw (hr.mono (by decide)) (by rfl) (lv_lend (pv 0) (lv_cons (ev_name (pv 2)) lv_nil)))) av_nil)) (gv_name sc__law_cloud.nd rfl (by first | exact .inl rfl | exact .inr rfl)) (bv_one (sv_expr (ev_mt PySem.F.slot_list_append PySem.F.type_list_append mt_append mut_append (pv 3) (av_cons (ev_callTy call_tuple_of on_tuple (by rfl) T.b_tuple (by decide +kernel) (av_cons (ev_lc (own := [("k", 5)]) rfl sc__law_cloud.nd (iv_range1 (by rfl) T.b_range (av_cons (ev_name (pv 1)) av_nil)) (blkOk_by (N := ["pool", "n", "most", "found", "i", "k", "point", "a"]) (sc := defScope (tp 48)) (by decide +kernel)) (fun _ _ _ _ _ => (gv_name sc__law_cloud.nd rfl (by first | exact .inl rfl | exact .inr rfl))) (fun _ _ _ _ _ => cv_nil) (fun _ _ _ _ _ => (ev_tup (av_cons (ev_bin op_sub o2_sub (ev_defL (lens := [some 0, none]) c__law_draw (hr.mono (by decide)) (by rfl) (lv_lend (pv 0) (lv_cons ev_int lv_nil))) ev_int) (av_cons (ev_bin opr_add o2_add ev_int (ev_callTy call_int1 on_int (by rfl) T.b_int (by decide +kernel) (av_cons (ev_cmp (op_eqD hr.units) o2_eq (ev_defL (lens := [some 0, none]) c__law_draw (hr.mono (by decide)) (by rfl) (lv_lend (pv 0) (lv_cons ev_int lv_nil))) ev_int (nomark _)) av_nil))) av_nil)))) (by decide)) av_nil)) av_nil))))) (bv_one (sv_ret (ev_lc (own := [("point", 6)]) rfl sc__law_cloud.nd (iv_seq (ev_share (pv 3))) (blkOk_by (N := ["pool", "n", "most", "found", "i", "k", "point", "a"]) (sc := defScope (tp 48)) (by decide +kernel)) (fun _ _ _ _ _ => (gv_name sc__law_cloud.nd rfl (by first | exact .inl rfl | exact .inr rfl))) (fun _ _ _ _ _ => cv_nil) (fun _ _ _ _ _ => (ev_callTy call_tuple_of on_tuple (by rfl) T.b_tuple (by decide +kernel) (av_cons (ev_lc (own := [("a", 7)]) rfl sc__law_cloud.nd (iv_seq (ev_name (pv 6))) (blkOk_by (N := ["pool", "n", "most", "found", "i", "k", "point", "a"]) (sc := (fsc [(".0", .local), ("point", .local), ("tuple", .globalImplicit)])) (by decide +kernel)) (fun _ _ _ _ _ => (gv_name sc__law_cloud.nd rfl (by first | exact .inl rfl | exact .inr rfl))) (fun _ _ _ _ _ => cv_nil) (fun _ _ _ _ _ => (ev_def c__law_frac (hr.mono (by decide)) (by rfl) (av_cons (ev_own (ev_sub (ev_look (pv 7)) ev_int (fun _ _ => rfl))) (av_cons (ev_own (ev_sub (ev_look (pv 7)) ev_int (fun _ _ => rfl))) av_nil)))) (by decide)) av_nil))) (by decide)))))) (by decide)
theorem sc_compare : FnScope ["x", "y"] ["x", "y"] (defScope (tp 10)) := ⟨rfl, rfl, rfl, by decide +kernel, rfl, by decide +kernel, by decide +kernel⟩
theorem cal_compare {f : Addr} {fd : FuncData} (T : Txt K mg) (F : Fun K "compare" "compare" (tp 10) f fd) (hm : mg "compare" = some (.ref f)) (hb : Binds K fd ["x", "y"] []) (c_minus : Cal P w K mg base "minus" 3 ["x", "y"] F_minus) (c_sign : Cal P w K mg base "sign" 1 ["x"] F_sign) : Cal P w K mg base "compare" 4 ["x", "y"] F_compare := by
  refine cal_mk arity_fnF (fnV F sc_compare 0 rfl (W := []) fun cdv A outer s H E hr => ?_) hm F.kp hb
  exact bv_W (bv_cons (sv_if (tv_w (wv_or (tv_cmp (op_eqD hr.units) o2_eq (ev_look (pv 0)) (ev_globX (by rfl) T.e_INFINITE) (nomark _)) (wv_or1 (tv_cmp (op_eqD hr.units) o2_eq (ev_look (pv 1)) (ev_globX (by rfl) T.e_INFINITE) (nomark _))))) (bv_one (sv_ret (ev_bin op_sub o2_sub (ev_callTy call_int1 on_int (by rfl) T.b_int (by decide +kernel) (av_cons (ev_cmp (op_eqD hr.units) o2_eq (ev_look (pv 0)) (ev_globX (by rfl) T.e_INFINITE) (nomark _)) av_nil)) (ev_callTy call_int1 on_int (by rfl) T.b_int (by decide +kernel) (av_cons (ev_cmp (op_eqD hr.units) o2_eq (ev_look (pv 1)) (ev_globX (by rfl) T.e_INFINITE) (nomark _)) av_nil))))) bv_nil) (bv_one (sv_ret (ev_def c_sign (hr.mono (by decide)) (by rfl) (av_cons (ev_def c_minus (hr.mono (by decide)) (by rfl) (av_cons (ev_name (pv 0)) (av_cons (ev_name (pv 1)) av_nil))) av_nil))))) (by decide)
theorem sc_added : FnScope ["x", "y"] ["x", "y"] (defScope (tp 13)) := ⟨rfl, rfl, rfl, by decide +kernel, rfl, by decide +kernel, by decide +kernel⟩
theorem cal_added {f : Addr} {fd : FuncData} (T : Txt K mg) (F : Fun K "added" "added" (tp 13) f fd) (hm : mg "added" = some (.ref f)) (hb : Binds K fd ["x", "y"] []) (c_plus : Cal P w K mg base "plus" 3 ["x", "y"] F_plus) : Cal P w K mg base "added" 4 ["x", "y"] F_added := by
  refine cal_mk arity_fnF (fnV F sc_added 0 rfl (W := []) fun cdv A outer s H E hr => ?_) hm F.kp hb
  exact bv_W (bv_one (sv_ret (ev_if (tv_w (wv_or (tv_cmp (op_eqD hr.units) o2_eq (ev_look (pv 0)) (ev_globX (by rfl) T.e_INFINITE) (nomark _)) (wv_or1 (tv_cmp (op_eqD hr.units) o2_eq (ev_look (pv 1)) (ev_globX (by rfl) T.e_INFINITE) (nomark _))))) (ev_globX (by rfl) T.e_INFINITE) (ev_def c_plus (hr.mono (by decide)) (by rfl) (av_cons (ev_name (pv 0)) (av_cons (ev_name (pv 1)) av_nil)))))) (by decide)
theorem sc__law_mix : FnScope ["points", "shifts", "found", "k", "i"] ["points", "shifts"] (defScope (tp 49)) := ⟨rfl, rfl, rfl, by decide +kernel, rfl, by decide +kernel, by decide +kernel⟩
theorem cal__law_mix {f : Addr} {fd : FuncData} (T : Txt K mg) (F : Fun K "_law_mix" "_law_mix" (tp 49) f fd) (hm : mg "_law_mix" = some (.ref f)) (hb : Binds K fd ["points", "shifts"] []) (c__law_add : Cal P w K mg base "_law_add" 3 ["x", "y"] F__law_add) (c__law_lowest : Cal P w K mg base "_law_lowest" 3 ["values"] F__law_lowest) : Cal P w K mg base "_law_mix" 4 ["points", "shifts"] F__law_mix := by
  refine cal_mk arity_fnF (fnV F sc__law_mix 3 rfl (W := [2, 3]) fun cdv A outer s H E hr => ?_) hm F.kp hb
  exact bv_W (bv_cons (sv_set (i := 2) sc__law_mix.nd rfl (by first | exact .inl rfl | exact .inr rfl) (ev_lst av_nil)) (bv_cons (sv_for (FB := L__law_mix_2) PySem.PassesOwn.never rfl (iv_range1 (by rfl) T.b_range (av_cons (ev_callB call_len on_len (by rfl) T.b_len PySem.boot_len (av_cons (ev_sub (ev_look (pv 0)) ev_int (fun _ _ => rfl)) av_nil)) av_nil)) (gv_name sc__law_mix.nd rfl (by first | exact .inl rfl | exact .inr rfl)) (bv_one (sv_expr (ev_mt PySem.F.slot_list_append PySem.F.type_list_append mt_append mut_append (pv 2) (av_cons (ev_def c__law_lowest (hr.mono (by decide)) (by rfl) (av_cons (ev_lc (own := [("i", 4)]) rfl sc__law_mix.nd (iv_range1 (by rfl) T.b_range (av_cons (ev_callB call_len on_len (by rfl) T.b_len PySem.boot_len (av_cons (ev_look (pv 0)) av_nil)) av_nil)) (blkOk_by (N := ["points", "shifts", "found", "k", "i"]) (sc := defScope (tp 49)) (by decide +kernel)) (fun _ _ _ _ _ => (gv_name sc__law_mix.nd rfl (by first | exact .inl rfl | exact .inr rfl))) (fun _ _ _ _ _ => cv_nil) (fun _ _ _ _ _ => (ev_def c__law_add (hr.mono (by decide)) (by rfl) (av_cons (ev_own (ev_sub (ev_look (pv 1)) (ev_look (pv 4)) (fun _ _ => rfl))) (av_cons (ev_own (ev_sub (ev_sub (ev_look (pv 0)) (ev_look (pv 4)) (fun _ _ => rfl)) (ev_look (pv 3)) (fun _ _ => rfl))) av_nil)))) (by decide)) av_nil)) av_nil))))) (bv_one (sv_ret (ev_callTy call_tuple_of on_tuple (by rfl) T.b_tuple (by decide +kernel) (av_cons (ev_look (pv 2)) av_nil)))))) (by decide)
theorem sc__law_gap : FnScope ["x", "y", "rows", "high", "low", "one", "k"] ["x", "y"] (defScope (tp 50)) := ⟨rfl, rfl, rfl, by decide +kernel, rfl, by decide +kernel, by decide +kernel⟩
theorem cal__law_gap {f : Addr} {fd : FuncData} (T : Txt K mg) (F : Fun K "_law_gap" "_law_gap" (tp 50) f fd) (hm : mg "_law_gap" = some (.ref f)) (hb : Binds K fd ["x", "y"] []) (c__law_sub : Cal P w K mg base "_law_sub" 3 ["x", "y"] F__law_sub) (c__law_less : Cal P w K mg base "_law_less" 1 ["x", "y"] F__law_less) : Cal P w K mg base "_law_gap" 4 ["x", "y"] F__law_gap := by
  refine cal_mk arity_fnF (fnV F sc__law_gap 5 rfl (W := [2, 3, 4, 5]) fun cdv A outer s H E hr => ?_) hm F.kp hb
  exact bv_W (bv_cons (sv_frz 2 (sv_setLc (own := [("k", 6)]) (i := 2) rfl sc__law_gap.nd rfl rfl (sw_true rfl rfl rfl (by decide +kernel)) (iv_range1 (by rfl) T.b_range (av_cons (ev_callB call_len on_len (by rfl) T.b_len PySem.boot_len (av_cons (ev_look (pv 0)) av_nil)) av_nil)) (blkOk_by (N := ["x", "y", "rows", "high", "low", "one", "k"]) (sc := defScope (tp 50)) (by decide +kernel)) (fun _ _ _ _ _ => (gv_name sc__law_gap.nd rfl (by first | exact .inl rfl | exact .inr rfl))) (fun _ _ _ _ _ => cv_nil) (fun _ _ _ _ _ => (ev_def c__law_sub (hr.mono (by decide)) (by rfl) (av_cons (ev_own (ev_sub (ev_look (pv 0)) (ev_look (pv 6)) (fun _ _ => rfl))) (av_cons (ev_own (ev_sub (ev_look (pv 1)) (ev_look (pv 6)) (fun _ _ => rfl))) av_nil)))) (by decide))) (bv_cons (sv_set (i := 3) sc__law_gap.nd rfl (by first | exact .inl rfl | exact .inr rfl) (ev_own (ev_sub (ev_look (pv 2)) ev_int (fun _ _ => rfl)))) (bv_cons (sv_set (i := 4) sc__law_gap.nd rfl (by first | exact .inl rfl | exact .inr rfl) (ev_own (ev_sub (ev_look (pv 2)) ev_int (fun _ _ => rfl)))) (bv_cons (sv_for (FB := L__law_gap_2) PySem.PassesOwn.never rfl (iv_seq (ev_name (pv 2))) (gv_name sc__law_gap.nd rfl (by first | exact .inl rfl | exact .inr rfl)) (bv_cons (sv_set (i := 3) sc__law_gap.nd rfl (by first | exact .inl rfl | exact .inr rfl) (ev_if (tv_tru (ev_def c__law_less (hr.mono (by decide)) (by rfl) (av_cons (ev_name (pv 3)) (av_cons (ev_name (pv 5)) av_nil)))) (ev_name (pv 5)) (ev_name (pv 3)))) (bv_one (sv_set (i := 4) sc__law_gap.nd rfl (by first | exact .inl rfl | exact .inr rfl) (ev_if (tv_tru (ev_def c__law_less (hr.mono (by decide)) (by rfl) (av_cons (ev_name (pv 5)) (av_cons (ev_name (pv 4)) av_nil)))) (ev_name (pv 5)) (ev_name (pv 4))))))) (bv_one (sv_ret (ev_def c__law_sub (hr.mono (by decide)) (by rfl) (av_cons (ev_name (pv 3)) (av_cons (ev_name (pv 4)) av_nil))))))))) (by decide)
theorem sc_least : FnScope ["values", "found", "x"] ["values"] (defScope (tp 11)) := ⟨rfl, rfl, rfl, by decide +kernel, rfl, by decide +kernel, by decide +kernel⟩
theorem cal_least {f : Addr} {fd : FuncData} (T : Txt K mg) (F : Fun K "least" "least" (tp 11) f fd) (hm : mg "least" = some (.ref f)) (hb : Binds K fd ["values"] []) (c_compare : Cal P w K mg base "compare" 4 ["x", "y"] F_compare) : Cal P w K mg base "least" 5 ["values"] F_least := by
  refine cal_mk arity_fnF (fnV F sc_least 2 rfl (W := [1, 2]) fun cdv A outer s H E hr => ?_) hm F.kp hb
  exact bv_W (bv_cons (sv_set (i := 1) sc_least.nd rfl (by first | exact .inl rfl | exact .inr rfl) (ev_globX (by rfl) T.e_INFINITE)) (bv_cons (sv_for (FB := L_least_1) PySem.PassesOwn.never rfl (iv_seq (ev_share (pv 0))) (gv_name sc_least.nd rfl (by first | exact .inl rfl | exact .inr rfl)) (bv_one (sv_set (i := 1) sc_least.nd rfl (by first | exact .inl rfl | exact .inr rfl) (ev_if (tv_cmp (opr_lt hr.units0) o2_lt (ev_def c_compare (hr.mono (by decide)) (by rfl) (av_cons (ev_name (pv 2)) (av_cons (ev_name (pv 1)) av_nil))) ev_int (nomark _)) (ev_name (pv 2)) (ev_name (pv 1)))))) (bv_one (sv_ret (ev_name (pv 1)))))) (by decide)
theorem sc_greatest : FnScope ["fractions", "found", "x"] ["fractions"] (defScope (tp 12)) := ⟨rfl, rfl, rfl, by decide +kernel, rfl, by decide +kernel, by decide +kernel⟩
theorem cal_greatest {f : Addr} {fd : FuncData} (T : Txt K mg) (F : Fun K "greatest" "greatest" (tp 12) f fd) (hm : mg "greatest" = some (.ref f)) (hb : Binds K fd ["fractions"] []) (c_compare : Cal P w K mg base "compare" 4 ["x", "y"] F_compare) : Cal P w K mg base "greatest" 5 ["fractions"] F_greatest := by
  refine cal_mk arity_fnF (fnV F sc_greatest 2 rfl (W := [1, 2]) fun cdv A outer s H E hr => ?_) hm F.kp hb
  exact bv_W (bv_cons (sv_set (i := 1) sc_greatest.nd rfl (by first | exact .inl rfl | exact .inr rfl) (ev_own (ev_sub (ev_look (pv 0)) ev_int (fun _ _ => rfl)))) (bv_cons (sv_for (FB := L_greatest_1) PySem.PassesOwn.never rfl (iv_seq (ev_share (pv 0))) (gv_name sc_greatest.nd rfl (by first | exact .inl rfl | exact .inr rfl)) (bv_one (sv_set (i := 1) sc_greatest.nd rfl (by first | exact .inl rfl | exact .inr rfl) (ev_if (tv_cmp op_gt o2_gt (ev_def c_compare (hr.mono (by decide)) (by rfl) (av_cons (ev_name (pv 2)) (av_cons (ev_name (pv 1)) av_nil))) ev_int (nomark _)) (ev_name (pv 2)) (ev_name (pv 1)))))) (bv_one (sv_ret (ev_name (pv 1)))))) (by decide)
theorem sc_least_sum : FnScope ["row", "column", "x", "y"] ["row", "column"] (defScope (tp 15)) := ⟨rfl, rfl, rfl, by decide +kernel, rfl, by decide +kernel, by decide +kernel⟩
theorem cal_least_sum {f : Addr} {fd : FuncData} (T : Txt K mg) (F : Fun K "least_sum" "least_sum" (tp 15) f fd) (hm : mg "least_sum" = some (.ref f)) (hb : Binds K fd ["row", "column"] []) (c_added : Cal P w K mg base "added" 4 ["x", "y"] F_added) (c_least : Cal P w K mg base "least" 5 ["values"] F_least) : Cal P w K mg base "least_sum" 6 ["row", "column"] F_least_sum := by
  refine cal_mk arity_fnF (fnV F sc_least_sum 2 rfl (W := []) fun cdv A outer s H E hr => ?_) hm F.kp hb
  exact bv_W (bv_one (sv_ret (ev_def c_least (hr.mono (by decide)) (by rfl) (av_cons (ev_lc (own := [("x", 2), ("y", 3)]) rfl sc_least_sum.nd (iv_zip (by rfl) T.b_zip (av_cons (ev_name (pv 0)) (av_cons (ev_name (pv 1)) av_nil))) (blkOk_by (N := ["row", "column", "x", "y"]) (sc := defScope (tp 15)) (by decide +kernel)) (fun _ _ _ _ _ => (gv_tup rfl (gvs_cons (gv_name sc_least_sum.nd rfl (by first | exact .inl rfl | exact .inr rfl)) (gvs_cons (gv_name sc_least_sum.nd rfl (by first | exact .inl rfl | exact .inr rfl)) gvs_nil)) (fun _ _ _ h => gs_len2 h))) (fun _ _ _ _ _ => cv_nil) (fun _ _ _ _ _ => (ev_def c_added (hr.mono (by decide)) (by rfl) (av_cons (ev_name (pv 2)) (av_cons (ev_name (pv 3)) av_nil)))) (by decide)) av_nil)))) (by decide)
theorem sc_least_above : FnScope ["A", "b", "found", "j", "x", "row"] ["A", "b"] (defScope (tp 18)) := ⟨rfl, rfl, rfl, by decide +kernel, rfl, by decide +kernel, by decide +kernel⟩
theorem cal_least_above {f : Addr} {fd : FuncData} (T : Txt K mg) (F : Fun K "least_above" "least_above" (tp 18) f fd) (hm : mg "least_above" = some (.ref f)) (hb : Binds K fd ["A", "b"] []) (c_minus : Cal P w K mg base "minus" 3 ["x", "y"] F_minus) (c_greatest : Cal P w K mg base "greatest" 5 ["fractions"] F_greatest) : Cal P w K mg base "least_above" 6 ["A", "b"] F_least_above := by
  refine cal_mk arity_fnF (fnV F sc_least_above 4 rfl (W := [2, 3]) fun cdv A outer s H E hr => ?_) hm F.kp hb
  exact bv_W (bv_cons (sv_set (i := 2) sc_least_above.nd rfl (by first | exact .inl rfl | exact .inr rfl) (ev_lst av_nil)) (bv_cons (sv_for (FB := L_least_above_2) PySem.PassesOwn.never rfl (iv_range1 (by rfl) T.b_range (av_cons (ev_callB call_len on_len (by rfl) T.b_len PySem.boot_len (av_cons (ev_sub (ev_look (pv 0)) ev_int (fun _ _ => rfl)) av_nil)) av_nil)) (gv_name sc_least_above.nd rfl (by first | exact .inl rfl | exact .inr rfl)) (bv_one (sv_expr (ev_mt PySem.F.slot_list_append PySem.F.type_list_append mt_append mut_append (pv 2) (av_cons (ev_def c_greatest (hr.mono (by decide)) (by rfl) (av_cons (ev_lc (own := [("x", 4), ("row", 5)]) rfl sc_least_above.nd (iv_zip (by rfl) T.b_zip (av_cons (ev_name (pv 1)) (av_cons (ev_name (pv 0)) av_nil))) (blkOk_by (N := ["A", "b", "found", "j", "x", "row"]) (sc := defScope (tp 18)) (by decide +kernel)) (fun _ _ _ _ _ => (gv_tup rfl (gvs_cons (gv_name sc_least_above.nd rfl (by first | exact .inl rfl | exact .inr rfl)) (gvs_cons (gv_name sc_least_above.nd rfl (by first | exact .inl rfl | exact .inr rfl)) gvs_nil)) (fun _ _ _ h => gs_len2 h))) (fun _ _ _ _ _ => cv_nil) (fun _ _ _ _ _ => (ev_def c_minus (hr.mono (by decide)) (by rfl) (av_cons (ev_name (pv 4)) (av_cons (ev_own (ev_sub (ev_look (pv 5)) (ev_look (pv 3)) (fun _ _ => rfl))) av_nil)))) (by decide)) av_nil)) av_nil))))) (bv_one (sv_ret (ev_callTy call_tuple_of on_tuple (by rfl) T.b_tuple (by decide +kernel) (av_cons (ev_look (pv 2)) av_nil)))))) (by decide)
theorem sc_distance : FnScope ["x", "y", "differences", "a", "b"] ["x", "y"] (defScope (tp 24)) := ⟨rfl, rfl, rfl, by decide +kernel, rfl, by decide +kernel, by decide +kernel⟩
theorem cal_distance {f : Addr} {fd : FuncData} (T : Txt K mg) (F : Fun K "distance" "distance" (tp 24) f fd) (hm : mg "distance" = some (.ref f)) (hb : Binds K fd ["x", "y"] []) (c_minus : Cal P w K mg base "minus" 3 ["x", "y"] F_minus) (c_least : Cal P w K mg base "least" 5 ["values"] F_least) (c_greatest : Cal P w K mg base "greatest" 5 ["fractions"] F_greatest) : Cal P w K mg base "distance" 6 ["x", "y"] F_distance := by
  refine cal_mk arity_fnF (fnV F sc_distance 3 rfl (W := [2]) fun cdv A outer s H E hr => ?_) hm F.kp hb
  exact bv_W (bv_cons (sv_frz 2 (sv_setLc (own := [("a", 3), ("b", 4)]) (i := 2) rfl sc_distance.nd rfl rfl (sw_true rfl rfl rfl (by decide +kernel)) (iv_zip (by rfl) T.b_zip (av_cons (ev_name (pv 0)) (av_cons (ev_name (pv 1)) av_nil))) (blkOk_by (N := ["x", "y", "differences", "a", "b"]) (sc := defScope (tp 24)) (by decide +kernel)) (fun _ _ _ _ _ => (gv_tup rfl (gvs_cons (gv_name sc_distance.nd rfl (by first | exact .inl rfl | exact .inr rfl)) (gvs_cons (gv_name sc_distance.nd rfl (by first | exact .inl rfl | exact .inr rfl)) gvs_nil)) (fun _ _ _ h => gs_len2 h))) (fun _ _ _ _ _ => cv_nil) (fun _ _ _ _ _ => (ev_def c_minus (hr.mono (by decide)) (by rfl) (av_cons (ev_name (pv 3)) (av_cons (ev_name (pv 4)) av_nil)))) (by decide))) (bv_one (sv_ret (ev_def c_minus (hr.mono (by decide)) (by rfl) (av_cons (ev_def c_greatest (hr.mono (by decide)) (by rfl) (av_cons (ev_name (pv 2)) av_nil)) (av_cons (ev_def c_least (hr.mono (by decide)) (by rfl) (av_cons (ev_name (pv 2)) av_nil)) av_nil)))))) (by decide)
theorem sc_times_column : FnScope ["A", "x", "row"] ["A", "x"] (defScope (tp 16)) := ⟨rfl, rfl, rfl, by decide +kernel, rfl, by decide +kernel, by decide +kernel⟩
theorem cal_times_column {f : Addr} {fd : FuncData} (T : Txt K mg) (F : Fun K "times_column" "times_column" (tp 16) f fd) (hm : mg "times_column" = some (.ref f)) (hb : Binds K fd ["A", "x"] []) (c_least_sum : Cal P w K mg base "least_sum" 6 ["row", "column"] F_least_sum) : Cal P w K mg base "times_column" 7 ["A", "x"] F_times_column := by
  refine cal_mk arity_fnF (fnV F sc_times_column 1 rfl (W := []) fun cdv A outer s H E hr => ?_) hm F.kp hb
  exact bv_W (bv_one (sv_ret (ev_callTy call_tuple_of on_tuple (by rfl) T.b_tuple (by decide +kernel) (av_cons (ev_lc (own := [("row", 2)]) rfl sc_times_column.nd (iv_seq (ev_name (pv 0))) (blkOk_by (N := ["A", "x", "row"]) (sc := defScope (tp 16)) (by decide +kernel)) (fun _ _ _ _ _ => (gv_name sc_times_column.nd rfl (by first | exact .inl rfl | exact .inr rfl))) (fun _ _ _ _ _ => cv_nil) (fun _ _ _ _ _ => (ev_def c_least_sum (hr.mono (by decide)) (by rfl) (av_cons (ev_name (pv 2)) (av_cons (ev_name (pv 1)) av_nil)))) (by decide)) av_nil)))) (by decide)
theorem sc_solution_paper : FnScope ["A", "b", "x", "reached", "wrong", "i"] ["A", "b"] (defScope (tp 19)) := ⟨rfl, rfl, rfl, by decide +kernel, rfl, by decide +kernel, by decide +kernel⟩
theorem cal_solution_paper {f : Addr} {fd : FuncData} (T : Txt K mg) (F : Fun K "solution_paper" "solution_paper" (tp 19) f fd) (hm : mg "solution_paper" = some (.ref f)) (hb : Binds K fd ["A", "b"] []) (c_least_above : Cal P w K mg base "least_above" 6 ["A", "b"] F_least_above) (c_times_column : Cal P w K mg base "times_column" 7 ["A", "x"] F_times_column) : Cal P w K mg base "solution_paper" 8 ["A", "b"] F_solution_paper := by
  refine cal_mk arity_fnF (fnV F sc_solution_paper 4 rfl (W := [2, 3, 4]) fun cdv A outer s H E hr => ?_) hm F.kp hb
  exact bv_W (bv_cons (sv_set (i := 2) sc_solution_paper.nd rfl (by first | exact .inl rfl | exact .inr rfl) (ev_def c_least_above (hr.mono (by decide)) (by rfl) (av_cons (ev_name (pv 0)) (av_cons (ev_name (pv 1)) av_nil)))) (bv_cons (sv_set (i := 3) sc_solution_paper.nd rfl (by first | exact .inl rfl | exact .inr rfl) (ev_def c_times_column (hr.mono (by decide)) (by rfl) (av_cons (ev_name (pv 0)) (av_cons (ev_name (pv 2)) av_nil)))) (bv_cons (sv_frz 4 (sv_setLc (own := [("i", 5)]) (i := 4) rfl sc_solution_paper.nd rfl rfl (sw_true rfl rfl rfl (by decide +kernel)) (iv_range1 (by rfl) T.b_range (av_cons (ev_callB call_len on_len (by rfl) T.b_len PySem.boot_len (av_cons (ev_look (pv 1)) av_nil)) av_nil)) (blkOk_by (N := ["A", "b", "x", "reached", "wrong", "i"]) (sc := defScope (tp 19)) (by decide +kernel)) (fun _ _ _ _ _ => (gv_name sc_solution_paper.nd rfl (by first | exact .inl rfl | exact .inr rfl))) (fun _ _ _ _ _ => (cv_one (tv_cmp (op_neD hr.units) o2_ne (ev_sub (ev_look (pv 3)) (ev_look (pv 5)) (fun _ _ => rfl)) (ev_sub (ev_look (pv 1)) (ev_look (pv 5)) (fun _ _ => rfl)) (nomark _)))) (fun _ _ _ _ _ => (ev_name (pv 5))) (by decide))) (bv_one (sv_ret (ev_if (tv_cmp (op_eqD hr.units) o2_eq (ev_callB call_len on_len (by rfl) T.b_len PySem.boot_len (av_cons (ev_look (pv 4)) av_nil)) ev_int (nomark _)) (ev_tup (av_cons ev_str (av_cons (ev_name (pv 2)) av_nil))) (ev_tup (av_cons ev_str (av_cons (ev_own (ev_sub (ev_look (pv 4)) ev_int (fun _ _ => rfl))) av_nil))))))))) (by decide)
theorem sc_nearest : FnScope ["points", "x", "A"] ["points", "x"] (defScope (tp 23)) := ⟨rfl, rfl, rfl, by decide +kernel, rfl, by decide +kernel, by decide +kernel⟩
theorem cal_nearest {f : Addr} {fd : FuncData} (T : Txt K mg) (F : Fun K "nearest" "nearest" (tp 23) f fd) (hm : mg "nearest" = some (.ref f)) (hb : Binds K fd ["points", "x"] []) (c_as_matrix : Cal P w K mg base "as_matrix" 1 ["points"] F_as_matrix) (c_least_above : Cal P w K mg base "least_above" 6 ["A", "b"] F_least_above) (c_times_column : Cal P w K mg base "times_column" 7 ["A", "x"] F_times_column) : Cal P w K mg base "nearest" 8 ["points", "x"] F_nearest := by
  refine cal_mk arity_fnF (fnV F sc_nearest 1 rfl (W := [2]) fun cdv A outer s H E hr => ?_) hm F.kp hb
  exact bv_W (bv_cons (sv_set (i := 2) sc_nearest.nd rfl (by first | exact .inl rfl | exact .inr rfl) (ev_defL (lens := [some 0]) c_as_matrix (hr.mono (by decide)) (by rfl) (lv_lend (pv 0) lv_nil))) (bv_one (sv_ret (ev_def c_times_column (hr.mono (by decide)) (by rfl) (av_cons (ev_name (pv 2)) (av_cons (ev_def c_least_above (hr.mono (by decide)) (by rfl) (av_cons (ev_name (pv 2)) (av_cons (ev_name (pv 1)) av_nil))) av_nil)))))) (by decide)
theorem sc_hull_paper : FnScope ["points", "x"] ["points", "x"] (defScope (tp 22)) := ⟨rfl, rfl, rfl, by decide +kernel, rfl, by decide +kernel, by decide +kernel⟩
theorem cal_hull_paper {f : Addr} {fd : FuncData} (T : Txt K mg) (F : Fun K "hull_paper" "hull_paper" (tp 22) f fd) (hm : mg "hull_paper" = some (.ref f)) (hb : Binds K fd ["points", "x"] []) (c_as_matrix : Cal P w K mg base "as_matrix" 1 ["points"] F_as_matrix) (c_solution_paper : Cal P w K mg base "solution_paper" 8 ["A", "b"] F_solution_paper) : Cal P w K mg base "hull_paper" 9 ["points", "x"] F_hull_paper := by
  refine cal_mk arity_fnF (fnV F sc_hull_paper 0 rfl (W := []) fun cdv A outer s H E hr => ?_) hm F.kp hb
  exact bv_W (bv_one (sv_ret (ev_def c_solution_paper (hr.mono (by decide)) (by rfl) (av_cons (ev_defL (lens := [some 0]) c_as_matrix (hr.mono (by decide)) (by rfl) (lv_lend (pv 0) lv_nil)) (av_cons (ev_name (pv 1)) av_nil))))) (by decide)
theorem sc__law_same : FnScope ["actual", "due", "k"] ["actual", "due"] (defScope (tp 26)) := ⟨rfl, rfl, rfl, by decide +kernel, rfl, by decide +kernel, by decide +kernel⟩
theorem calr__law_same {f : Addr} {fd : FuncData} (T : Txt K mg) (F : Fun K "_law_same" "_law_same" (tp 26) f fd) (hm : mg "_law_same" = some (.ref f)) (hb : Binds K fd ["actual", "due"] []) (d : Nat) : Cal P w K mg base "_law_same" (0 + d) ["actual", "due"] (recF B__law_same d) := by
  induction d with
  | zero => exact cal_none hm F.kp hb
  | succ d c__law_same =>
    refine cal_mk (k := 0 + d + 1) (F := B__law_same (recF B__law_same d)) arity_fnF (fnV F sc__law_same 1 rfl (W := [2]) fun cdv A outer s H E hr => ?_) hm F.kp hb
    exact bv_W (bv_cons (sv_if (tv_w (wv_or (tv_tru (ev_callB call_isi on_isi (by rfl) T.b_isinstance (by decide +kernel) (av_cons (ev_look (pv 1)) (av_cons (ev_ty (by rfl) T.b_tuple (by decide +kernel)) av_nil)))) (wv_or1 (tv_tru (ev_callB call_isi on_isi (by rfl) T.b_isinstance (by decide +kernel) (av_cons (ev_look (pv 1)) (av_cons (ev_ty (by rfl) T.b_list (by decide +kernel)) av_nil))))))) (bv_cons (sv_if (tv_w (wv_or (tv_cmp (op_neD hr.units) o2_ne (ev_callB call_isi on_isi (by rfl) T.b_isinstance (by decide +kernel) (av_cons (ev_look (pv 1)) (av_cons (ev_ty (by rfl) T.b_tuple (by decide +kernel)) av_nil))) (ev_callB call_isi on_isi (by rfl) T.b_isinstance (by decide +kernel) (av_cons (ev_look (pv 0)) (av_cons (ev_ty (by rfl) T.b_tuple (by decide +kernel)) av_nil))) (nomark _)) (wv_or1 (tv_cmp (op_neD hr.units) o2_ne (ev_callB call_isi on_isi (by rfl) T.b_isinstance (by decide +kernel) (av_cons (ev_look (pv 1)) (av_cons (ev_ty (by rfl) T.b_list (by decide +kernel)) av_nil))) (ev_callB call_isi on_isi (by rfl) T.b_isinstance (by decide +kernel) (av_cons (ev_look (pv 0)) (av_cons (ev_ty (by rfl) T.b_list (by decide +kernel)) av_nil))) (nomark _))))) (bv_one (sv_ret ev_bl)) bv_nil) (bv_cons (sv_if (tv_cmp (op_neD hr.units) o2_ne (ev_callB call_len on_len (by rfl) T.b_len PySem.boot_len (av_cons (ev_look (pv 0)) av_nil)) (ev_callB call_len on_len (by rfl) T.b_len PySem.boot_len (av_cons (ev_look (pv 1)) av_nil)) (nomark _)) (bv_one (sv_ret ev_bl)) bv_nil) (bv_cons (sv_for (FB := (L__law_same_1 (recF B__law_same d))) PySem.PassesOwn.never rfl (iv_range1 (by rfl) T.b_range (av_cons (ev_callB call_len on_len (by rfl) T.b_len PySem.boot_len (av_cons (ev_look (pv 1)) av_nil)) av_nil)) (gv_name sc__law_same.nd rfl (by first | exact .inl rfl | exact .inr rfl)) (bv_one (sv_if (tv_not (tv_tru (ev_def c__law_same (hr.mono (by omega)) (by rfl) (av_cons (ev_own (ev_sub (ev_look (pv 0)) (ev_look (pv 2)) (fun _ _ => rfl))) (av_cons (ev_own (ev_sub (ev_look (pv 1)) (ev_look (pv 2)) (fun _ _ => rfl))) av_nil))))) (bv_one (sv_ret ev_bl)) bv_nil))) (bv_one (sv_ret ev_bl))))) bv_nil) (bv_cons (sv_if (tv_cmp op_isN o2_isN (ev_look (pv 1)) ev_non (nomark _)) (bv_one (sv_ret (ev_cmp op_isN o2_isN (ev_look (pv 0)) ev_non (nomark _)))) bv_nil) (bv_cons (sv_if (tv_tru (ev_callB call_isi on_isi (by rfl) T.b_isinstance (by decide +kernel) (av_cons (ev_look (pv 1)) (av_cons (ev_ty (by rfl) T.b_bool (by decide +kernel)) av_nil)))) (bv_one (sv_ret (ev_and (ev_callB call_isi on_isi (by rfl) T.b_isinstance (by decide +kernel) (av_cons (ev_look (pv 0)) (av_cons (ev_ty (by rfl) T.b_bool (by decide +kernel)) av_nil))) (ev_one (ev_cmp (op_eqD hr.units) o2_eq (ev_look (pv 0)) (ev_look (pv 1)) (nomark _)))))) bv_nil) (bv_cons (sv_if (tv_tru (ev_callB call_isi on_isi (by rfl) T.b_isinstance (by decide +kernel) (av_cons (ev_look (pv 1)) (av_cons (ev_ty (by rfl) T.b_int (by decide +kernel)) av_nil)))) (bv_one (sv_ret (ev_and (ev_callB call_isi on_isi (by rfl) T.b_isinstance (by decide +kernel) (av_cons (ev_look (pv 0)) (av_cons (ev_ty (by rfl) T.b_int (by decide +kernel)) av_nil))) (ev_and (ev_not (ev_callB call_isi on_isi (by rfl) T.b_isinstance (by decide +kernel) (av_cons (ev_look (pv 0)) (av_cons (ev_ty (by rfl) T.b_bool (by decide +kernel)) av_nil)))) (ev_one (ev_cmp (op_eqD hr.units) o2_eq (ev_look (pv 0)) (ev_look (pv 1)) (nomark _))))))) bv_nil) (bv_one (sv_ret (ev_and (ev_callB call_isi on_isi (by rfl) T.b_isinstance (by decide +kernel) (av_cons (ev_look (pv 0)) (av_cons (ev_ty (by rfl) T.b_str (by decide +kernel)) av_nil))) (ev_one (ev_cmp (op_eqD hr.units) o2_eq (ev_look (pv 0)) (ev_look (pv 1)) (nomark _)))))))))) (by decide)
theorem cal__law_same {f : Addr} {fd : FuncData} (T : Txt K mg) (F : Fun K "_law_same" "_law_same" (tp 26) f fd) (hm : mg "_law_same" = some (.ref f)) (hb : Binds K fd ["actual", "due"] []) : Cal P w K mg base "_law_same" 60 ["actual", "due"] F__law_same := calr__law_same T F hm hb 60
theorem sc_law : FnScope ["script", "pool", "n", "points", "x", "shifts", "v", "best", "k", "one", "due", "told", "near", "turn", "moved", "y", "above", "step", "t", "a"] ["script"] (defScope (tp 51)) := ⟨rfl, rfl, rfl, by decide +kernel, rfl, by decide +kernel, by decide +kernel⟩
theorem cal_law {f : Addr} {fd : FuncData} (T : Txt K mg) (F : Fun K "law" "law" (tp 51) f fd) (hm : mg "law" = some (.ref f)) (hb : Binds K fd ["script"] []) (c__law_pool : Cal P w K mg base "_law_pool" 1 ["script"] F__law_pool) (c__law_draw : Cal P w K mg base "_law_draw" 2 ["pool", "many"] F__law_draw) (c__law_cloud : Cal P w K mg base "_law_cloud" 3 ["pool", "n", "most"] F__law_cloud) (c__law_some : Cal P w K mg base "_law_some" 3 ["pool"] F__law_some) (c__law_sub : Cal P w K mg base "_law_sub" 3 ["x", "y"] F__law_sub) (c__law_less : Cal P w K mg base "_law_less" 1 ["x", "y"] F__law_less) (c__law_mix : Cal P w K mg base "_law_mix" 4 ["points", "shifts"] F__law_mix) (c_nearest : Cal P w K mg base "nearest" 8 ["points", "x"] F_nearest) (c__law_same : Cal P w K mg base "_law_same" 60 ["actual", "due"] F__law_same) (c_hull_paper : Cal P w K mg base "hull_paper" 9 ["points", "x"] F_hull_paper) (c__law_gap : Cal P w K mg base "_law_gap" 4 ["x", "y"] F__law_gap) (c_distance : Cal P w K mg base "distance" 6 ["x", "y"] F_distance) (c__law_add : Cal P w K mg base "_law_add" 3 ["x", "y"] F__law_add) : Cal P w K mg base "law" 61 ["script"] F_law := by
  refine cal_mk arity_fnF (fnV F sc_law 19 rfl (W := [1, 2, 3, 4, 5, 6, 7, 8, 9, 10, 11, 12, 13, 14, 15, 16, 17]) fun cdv A outer s H E hr => ?_) hm F.kp hb
  exact bv_W (bv_cons (sv_set (i := 1) sc_law.nd rfl (by first | exact .inl rfl | exact .inr rfl) (ev_def c__law_pool (hr.mono (by decide)) (by rfl) (av_cons (ev_name (pv 0)) av_nil))) (bv_cons (sv_set (i := 2) sc_law.nd rfl (by first | exact .inl rfl | exact .inr rfl) (ev_bin opr_add o2_add ev_int (ev_defL (lens := [some 1, none]) c__law_draw (hr.mono (by decide)) (by rfl) (lv_lend (pv 1) (lv_cons ev_int lv_nil))))) (bv_cons (sv_frz 3 (sv_set (i := 3) sc_law.nd rfl (by first | exact .inl rfl | exact .inr rfl) (ev_defL (lens := [some 1, none, none]) c__law_cloud (hr.mono (by decide)) (by rfl) (lv_lend (pv 1) (lv_cons (ev_name (pv 2)) (lv_cons ev_int lv_nil)))))) (bv_cons (sv_set (i := 4) sc_law.nd rfl (by first | exact .inl rfl | exact .inr rfl) (ev_callTy call_tuple_of on_tuple (by rfl) T.b_tuple (by decide +kernel) (av_cons (ev_lc (own := [("k", 8)]) rfl sc_law.nd (iv_range1 (by rfl) T.b_range (av_cons (ev_name (pv 2)) av_nil)) (blkOk_by (N := ["script", "pool", "n", "points", "x", "shifts", "v", "best", "k", "one", "due", "told", "near", "turn", "moved", "y", "above", "step", "t", "a"]) (sc := defScope (tp 51)) (by decide +kernel)) (fun _ _ _ _ _ => (gv_name sc_law.nd rfl (by first | exact .inl rfl | exact .inr rfl))) (fun _ _ _ _ _ => cv_nil) (fun _ _ _ _ _ => (ev_defL (lens := [some 1]) c__law_some (hr.mono (by decide)) (by rfl) (lv_lend (pv 1) lv_nil))) (by decide)) av_nil))) (bv_cons (sv_set (i := 5) sc_law.nd rfl (by first | exact .inl rfl | exact .inr rfl) (ev_lst av_nil)) (bv_cons (sv_for (FB := L_law_3) PySem.PassesOwn.never rfl (iv_seq (ev_name (pv 3))) (gv_name sc_law.nd rfl (by first | exact .inl rfl | exact .inr rfl)) (bv_cons (sv_set (i := 7) sc_law.nd rfl (by first | exact .inl rfl | exact .inr rfl) (ev_def c__law_sub (hr.mono (by decide)) (by rfl) (av_cons (ev_own (ev_sub (ev_look (pv 4)) ev_int (fun _ _ => rfl))) (av_cons (ev_own (ev_sub (ev_look (pv 6)) ev_int (fun _ _ => rfl))) av_nil)))) (bv_cons (sv_for (FB := L_law_2) PySem.PassesOwn.never rfl (iv_range1 (by rfl) T.b_range (av_cons (ev_name (pv 2)) av_nil)) (gv_name sc_law.nd rfl (by first | exact .inl rfl | exact .inr rfl)) (bv_cons (sv_set (i := 9) sc_law.nd rfl (by first | exact .inl rfl | exact .inr rfl) (ev_def c__law_sub (hr.mono (by decide)) (by rfl) (av_cons (ev_own (ev_sub (ev_look (pv 4)) (ev_look (pv 8)) (fun _ _ => rfl))) (av_cons (ev_own (ev_sub (ev_look (pv 6)) (ev_look (pv 8)) (fun _ _ => rfl))) av_nil)))) (bv_one (sv_set (i := 7) sc_law.nd rfl (by first | exact .inl rfl | exact .inr rfl) (ev_if (tv_tru (ev_def c__law_less (hr.mono (by decide)) (by rfl) (av_cons (ev_name (pv 7)) (av_cons (ev_name (pv 9)) av_nil)))) (ev_name (pv 9)) (ev_name (pv 7))))))) (bv_one (sv_expr (ev_mt PySem.F.slot_list_append PySem.F.type_list_append mt_append mut_append (pv 5) (av_cons (ev_name (pv 7)) av_nil))))))) (bv_cons (sv_set (i := 10) sc_law.nd rfl (by first | exact .inl rfl | exact .inr rfl) (ev_defL (lens := [none, some 5]) c__law_mix (hr.mono (by decide)) (by rfl) (lv_cons (ev_name (pv 3)) (lv_lend (pv 5) lv_nil)))) (bv_cons (sv_set (i := 11) sc_law.nd rfl (by first | exact .inl rfl | exact .inr rfl) (ev_def c_nearest (hr.mono (by decide)) (by rfl) (av_cons (ev_callTy call_list_of on_list (by rfl) T.b_list (by decide +kernel) (av_cons (ev_look (pv 3)) av_nil)) (av_cons (ev_name (pv 4)) av_nil)))) (bv_cons (sv_if (tv_w (wv_or (tv_not (tv_tru (ev_def c__law_same (hr.mono (by decide)) (by rfl) (av_cons (ev_name (pv 11)) (av_cons (ev_name (pv 10)) av_nil))))) (wv_or1 (tv_cmp (op_neD hr.units) o2_ne (ev_sub (ev_def c_hull_paper (hr.mono (by decide)) (by rfl) (av_cons (ev_callTy call_list_of on_list (by rfl) T.b_list (by decide +kernel) (av_cons (ev_look (pv 3)) av_nil)) (av_cons (ev_name (pv 11)) av_nil))) ev_int (fun _ _ => rfl)) ev_str (nomark _))))) (bv_one (sv_ret ev_bl)) bv_nil) (bv_cons (sv_if (tv_cmp op_gt o2_gt (ev_callB call_len on_len (by rfl) T.b_len PySem.boot_len (av_cons (ev_lc (own := [("k", 8)]) rfl sc_law.nd (iv_range1 (by rfl) T.b_range (av_cons (ev_name (pv 2)) av_nil)) (blkOk_by (N := ["script", "pool", "n", "points", "x", "shifts", "v", "best", "k", "one", "due", "told", "near", "turn", "moved", "y", "above", "step", "t", "a"]) (sc := defScope (tp 51)) (by decide +kernel)) (fun _ _ _ _ _ => (gv_name sc_law.nd rfl (by first | exact .inl rfl | exact .inr rfl))) (fun _ _ _ _ _ => (cv_one (tv_tru (ev_def c__law_less (hr.mono (by decide)) (by rfl) (av_cons (ev_own (ev_sub (ev_look (pv 11)) (ev_look (pv 8)) (fun _ _ => rfl))) (av_cons (ev_own (ev_sub (ev_look (pv 4)) (ev_look (pv 8)) (fun _ _ => rfl))) av_nil)))))) (fun _ _ _ _ _ => (ev_name (pv 8))) (by decide)) av_nil)) ev_int (nomark _)) (bv_one (sv_ret ev_bl)) bv_nil) (bv_cons (sv_if (tv_cmp (op_neD hr.units) o2_ne (ev_cmp (op_eqD hr.units) o2_eq (ev_look (pv 11)) (ev_look (pv 4)) (nomark _)) (ev_cmp (op_eqD hr.units) o2_eq (ev_sub (ev_def c_hull_paper (hr.mono (by decide)) (by rfl) (av_cons (ev_callTy call_list_of on_list (by rfl) T.b_list (by decide +kernel) (av_cons (ev_look (pv 3)) av_nil)) (av_cons (ev_name (pv 4)) av_nil))) ev_int (fun _ _ => rfl)) ev_str (nomark _)) (nomark _)) (bv_one (sv_ret ev_bl)) bv_nil) (bv_cons (sv_set (i := 12) sc_law.nd rfl (by first | exact .inl rfl | exact .inr rfl) (ev_def c__law_gap (hr.mono (by decide)) (by rfl) (av_cons (ev_name (pv 4)) (av_cons (ev_name (pv 11)) av_nil)))) (bv_cons (sv_if (tv_not (tv_tru (ev_def c__law_same (hr.mono (by decide)) (by rfl) (av_cons (ev_def c_distance (hr.mono (by decide)) (by rfl) (av_cons (ev_name (pv 4)) (av_cons (ev_name (pv 11)) av_nil))) (av_cons (ev_name (pv 12)) av_nil))))) (bv_one (sv_ret ev_bl)) bv_nil) (bv_cons (sv_for (FB := L_law_11) PySem.PassesOwn.never rfl (iv_range1 (by rfl) T.b_range (av_cons ev_int av_nil)) (gv_name sc_law.nd rfl (by first | exact .inl rfl | exact .inr rfl)) (bv_cons (sv_frz 14 (sv_setLc (own := [("t", 18)]) (i := 14) rfl sc_law.nd rfl rfl (sw_true rfl rfl rfl (by decide +kernel)) (iv_seq (ev_share (pv 5))) (blkOk_by (N := ["script", "pool", "n", "points", "x", "shifts", "v", "best", "k", "one", "due", "told", "near", "turn", "moved", "y", "above", "step", "t", "a"]) (sc := defScope (tp 51)) (by decide +kernel)) (fun _ _ _ _ _ => (gv_name sc_law.nd rfl (by first | exact .inl rfl | exact .inr rfl))) (fun _ _ _ _ _ => cv_nil) (fun _ _ _ _ _ => (ev_def c__law_add (hr.mono (by decide)) (by rfl) (av_cons (ev_name (pv 18)) (av_cons (ev_tup (av_cons (ev_bin op_sub o2_sub (ev_defL (lens := [some 1, none]) c__law_draw (hr.mono (by decide)) (by rfl) (lv_lend (pv 1) (lv_cons ev_int lv_nil))) ev_int) (av_cons ev_int av_nil))) av_nil)))) (by decide))) (bv_cons (sv_set (i := 15) sc_law.nd rfl (by first | exact .inl rfl | exact .inr rfl) (ev_def c__law_mix (hr.mono (by decide)) (by rfl) (av_cons (ev_name (pv 3)) (av_cons (ev_name (pv 14)) av_nil)))) (bv_cons (sv_if (tv_w (wv_or (tv_not (tv_tru (ev_def c__law_same (hr.mono (by decide)) (by rfl) (av_cons (ev_def c_distance (hr.mono (by decide)) (by rfl) (av_cons (ev_name (pv 4)) (av_cons (ev_name (pv 15)) av_nil))) (av_cons (ev_def c__law_gap (hr.mono (by decide)) (by rfl) (av_cons (ev_name (pv 4)) (av_cons (ev_name (pv 15)) av_nil))) av_nil))))) (wv_or1 (tv_tru (ev_def c__law_less (hr.mono (by decide)) (by rfl) (av_cons (ev_def c__law_gap (hr.mono (by decide)) (by rfl) (av_cons (ev_name (pv 4)) (av_cons (ev_name (pv 15)) av_nil))) (av_cons (ev_name (pv 12)) av_nil))))))) (bv_one (sv_ret ev_bl)) bv_nil) (bv_cons (sv_set (i := 16) sc_law.nd rfl (by first | exact .inl rfl | exact .inr rfl) (ev_cmp (op_eqD hr.units) o2_eq (ev_callB call_len on_len (by rfl) T.b_len PySem.boot_len (av_cons (ev_lc (own := [("k", 8)]) rfl sc_law.nd (iv_range1 (by rfl) T.b_range (av_cons (ev_name (pv 2)) av_nil)) (blkOk_by (N := ["script", "pool", "n", "points", "x", "shifts", "v", "best", "k", "one", "due", "told", "near", "turn", "moved", "y", "above", "step", "t", "a"]) (sc := defScope (tp 51)) (by decide +kernel)) (fun _ _ _ _ _ => (gv_name sc_law.nd rfl (by first | exact .inl rfl | exact .inr rfl))) (fun _ _ _ _ _ => (cv_one (tv_tru (ev_def c__law_less (hr.mono (by decide)) (by rfl) (av_cons (ev_own (ev_sub (ev_look (pv 15)) (ev_look (pv 8)) (fun _ _ => rfl))) (av_cons (ev_own (ev_sub (ev_look (pv 4)) (ev_look (pv 8)) (fun _ _ => rfl))) av_nil)))))) (fun _ _ _ _ _ => (ev_name (pv 8))) (by decide)) av_nil)) ev_int (nomark _))) (bv_one (sv_if (tv_w (wv_and (tv_tru (ev_look (pv 16))) (wv_and1 (tv_cmp op_gt o2_gt (ev_callB call_len on_len (by rfl) T.b_len PySem.boot_len (av_cons (ev_lc (own := [("k", 8)]) rfl sc_law.nd (iv_range1 (by rfl) T.b_range (av_cons (ev_name (pv 2)) av_nil)) (blkOk_by (N := ["script", "pool", "n", "points", "x", "shifts", "v", "best", "k", "one", "due", "told", "near", "turn", "moved", "y", "above", "step", "t", "a"]) (sc := defScope (tp 51)) (by decide +kernel)) (fun _ _ _ _ _ => (gv_name sc_law.nd rfl (by first | exact .inl rfl | exact .inr rfl))) (fun _ _ _ _ _ => (cv_one (tv_tru (ev_def c__law_less (hr.mono (by decide)) (by rfl) (av_cons (ev_own (ev_sub (ev_look (pv 15)) (ev_look (pv 8)) (fun _ _ => rfl))) (av_cons (ev_own (ev_sub (ev_look (pv 11)) (ev_look (pv 8)) (fun _ _ => rfl))) av_nil)))))) (fun _ _ _ _ _ => (ev_name (pv 8))) (by decide)) av_nil)) ev_int (nomark _))))) (bv_one (sv_ret ev_bl)) bv_nil))))))) (bv_cons (sv_set (i := 17) sc_law.nd rfl (by first | exact .inl rfl | exact .inr rfl) (ev_defL (lens := [some 1]) c__law_some (hr.mono (by decide)) (by rfl) (lv_lend (pv 1) lv_nil))) (bv_one (sv_ret (ev_def c__law_same (hr.mono (by decide)) (by rfl) (av_cons (ev_def c_distance (hr.mono (by decide)) (by rfl) (av_cons (ev_name (pv 4)) (av_cons (ev_callTy call_tuple_of on_tuple (by rfl) T.b_tuple (by decide +kernel) (av_cons (ev_lc (own := [("a", 19)]) rfl sc_law.nd (iv_seq (ev_name (pv 4))) (blkOk_by (N := ["script", "pool", "n", "points", "x", "shifts", "v", "best", "k", "one", "due", "told", "near", "turn", "moved", "y", "above", "step", "t", "a"]) (sc := defScope (tp 51)) (by decide +kernel)) (fun _ _ _ _ _ => (gv_name sc_law.nd rfl (by first | exact .inl rfl | exact .inr rfl))) (fun _ _ _ _ _ => cv_nil) (fun _ _ _ _ _ => (ev_def c__law_add (hr.mono (by decide)) (by rfl) (av_cons (ev_name (pv 19)) (av_cons (ev_name (pv 17)) av_nil)))) (by decide)) av_nil)) av_nil))) (av_cons (ev_tup (av_cons ev_int (av_cons ev_int av_nil))) av_nil)))))))))))))))))))) (by decide)
end
theorem law_of {l : PySem.W.OpenLaw} {w : World} {K : PySem.W.Frag} {h : Heap} {mg : Str → Option Value} {fa : Addr} (X : K.In h) (G : h.Ns mainGlobals mg) (hfa : mg "law" = some (.ref fa))
    {f0 f1 f2 f3 f4 f5 f6 f7 f8 f9 f10 f11 f12 f13 f14 f15 f16 f17 f18 f19 f20 f21 f22 f23 f24 f25 f26 f27 f28 f29 f30 f31 f32 : Addr} {od0 an0 od1 an1 od2 an2 od3 an3 od4 an4 od5 an5 od6 an6 od7 an7 od8 an8 od9 an9 od10 an10 od11 an11 od12 an12 od13 an13 od14 an14 od15 an15 od16 an16 od17 an17 od18 an18 od19 an19 od20 an20 od21 an21 od22 an22 od23 an23 od24 an24 od25 an25 od26 an26 od27 an27 od28 an28 od29 an29 od30 an30 od31 an31 od32 an32 : Option Addr} {sl0 sl1 sl2 sl3 sl4 sl5 sl6 sl7 sl8 sl9 sl10 sl11 sl12 sl13 sl14 sl15 sl16 sl17 sl18 sl19 sl20 sl21 sl22 sl23 sl24 sl25 sl26 sl27 sl28 sl29 sl30 sl31 sl32 : Array (Option Value)} {oc0 kV0 dc0 pm0 cd0 ct0 oc1 kV1 dc1 pm1 cd1 ct1 oc2 kV2 dc2 pm2 cd2 ct2 oc3 kV3 dc3 pm3 cd3 ct3 oc4 kV4 dc4 pm4 cd4 ct4 oc5 kV5 dc5 pm5 cd5 ct5 oc6 kV6 dc6 pm6 cd6 ct6 oc7 kV7 dc7 pm7 cd7 ct7 oc8 kV8 dc8 pm8 cd8 ct8 oc9 kV9 dc9 pm9 cd9 ct9 oc10 kV10 dc10 pm10 cd10 ct10 oc11 kV11 dc11 pm11 cd11 ct11 oc12 kV12 dc12 pm12 cd12 ct12 oc13 kV13 dc13 pm13 cd13 ct13 oc14 kV14 dc14 pm14 cd14 ct14 oc15 kV15 dc15 pm15 cd15 ct15 oc16 kV16 dc16 pm16 cd16 ct16 oc17 kV17 dc17 pm17 cd17 ct17 oc18 kV18 dc18 pm18 cd18 ct18 oc19 kV19 dc19 pm19 cd19 ct19 oc20 kV20 dc20 pm20 cd20 ct20 oc21 kV21 dc21 pm21 cd21 ct21 oc22 kV22 dc22 pm22 cd22 ct22 oc23 kV23 dc23 pm23 cd23 ct23 oc24 kV24 dc24 pm24 cd24 ct24 oc25 kV25 dc25 pm25 cd25 ct25 oc26 kV26 dc26 pm26 cd26 ct26 oc27 kV27 dc27 pm27 cd27 ct27 oc28 kV28 dc28 pm28 cd28 ct28 oc29 kV29 dc29 pm29 cd29 ct29 oc30 kV30 dc30 pm30 cd30 ct30 oc31 kV31 dc31 pm31 cd31 ct31 oc32 kV32 dc32 pm32 cd32 ct32 : Value}
    (a0 : PySem.W.nsIn K mainGlobals "common_divisor" = some (some (.ref f0))) (l0 : K.lookup f0 = some ⟨oc0, od0, .func (PySem.W.fnOf "common_divisor" "common_divisor" (defArgs (tp 5)) (defBody (tp 5)) (defScope (tp 5)) .none kV0 dc0 pm0 an0 cd0 ct0), sl0⟩) (c0 : PySem.W.codeIn K cd0 "common_divisor" = true) (k0 : PySem.W.keepIn K (.ref f0) = true)
    (a1 : PySem.W.nsIn K mainGlobals "sign" = some (some (.ref f1))) (l1 : K.lookup f1 = some ⟨oc1, od1, .func (PySem.W.fnOf "sign" "sign" (defArgs (tp 9)) (defBody (tp 9)) (defScope (tp 9)) .none kV1 dc1 pm1 an1 cd1 ct1), sl1⟩) (c1 : PySem.W.codeIn K cd1 "sign" = true) (k1 : PySem.W.keepIn K (.ref f1) = true)
    (a2 : PySem.W.nsIn K mainGlobals "as_matrix" = some (some (.ref f2))) (l2 : K.lookup f2 = some ⟨oc2, od2, .func (PySem.W.fnOf "as_matrix" "as_matrix" (defArgs (tp 21)) (defBody (tp 21)) (defScope (tp 21)) .none kV2 dc2 pm2 an2 cd2 ct2), sl2⟩) (c2 : PySem.W.codeIn K cd2 "as_matrix" = true) (k2 : PySem.W.keepIn K (.ref f2) = true)
    (a3 : PySem.W.nsIn K mainGlobals "_law_pool" = some (some (.ref f3))) (l3 : K.lookup f3 = some ⟨oc3, od3, .func (PySem.W.fnOf "_law_pool" "_law_pool" (defArgs (tp 28)) (defBody (tp 28)) (defScope (tp 28)) .none kV3 dc3 pm3 an3 cd3 ct3), sl3⟩) (c3 : PySem.W.codeIn K cd3 "_law_pool" = true) (k3 : PySem.W.keepIn K (.ref f3) = true)
    (a4 : PySem.W.nsIn K mainGlobals "_law_spread" = some (some (.ref f4))) (l4 : K.lookup f4 = some ⟨oc4, od4, .func (PySem.W.fnOf "_law_spread" "_law_spread" (defArgs (tp 29)) (defBody (tp 29)) (defScope (tp 29)) .none kV4 dc4 pm4 an4 cd4 ct4), sl4⟩) (c4 : PySem.W.codeIn K cd4 "_law_spread" = true) (k4 : PySem.W.keepIn K (.ref f4) = true)
    (a5 : PySem.W.nsIn K mainGlobals "_law_gcd" = some (some (.ref f5))) (l5 : K.lookup f5 = some ⟨oc5, od5, .func (PySem.W.fnOf "_law_gcd" "_law_gcd" (defArgs (tp 31)) (defBody (tp 31)) (defScope (tp 31)) .none kV5 dc5 pm5 an5 cd5 ct5), sl5⟩) (c5 : PySem.W.codeIn K cd5 "_law_gcd" = true) (k5 : PySem.W.keepIn K (.ref f5) = true)
    (a6 : PySem.W.nsIn K mainGlobals "_law_less" = some (some (.ref f6))) (l6 : K.lookup f6 = some ⟨oc6, od6, .func (PySem.W.fnOf "_law_less" "_law_less" (defArgs (tp 36)) (defBody (tp 36)) (defScope (tp 36)) .none kV6 dc6 pm6 an6 cd6 ct6), sl6⟩) (c6 : PySem.W.codeIn K cd6 "_law_less" = true) (k6 : PySem.W.keepIn K (.ref f6) = true)
    (a7 : PySem.W.nsIn K mainGlobals "fraction" = some (some (.ref f7))) (l7 : K.lookup f7 = some ⟨oc7, od7, .func (PySem.W.fnOf "fraction" "fraction" (defArgs (tp 6)) (defBody (tp 6)) (defScope (tp 6)) .none kV7 dc7 pm7 an7 cd7 ct7), sl7⟩) (c7 : PySem.W.codeIn K cd7 "fraction" = true) (k7 : PySem.W.keepIn K (.ref f7) = true)
    (a8 : PySem.W.nsIn K mainGlobals "_law_draw" = some (some (.ref f8))) (l8 : K.lookup f8 = some ⟨oc8, od8, .func (PySem.W.fnOf "_law_draw" "_law_draw" (defArgs (tp 30)) (defBody (tp 30)) (defScope (tp 30)) .none kV8 dc8 pm8 an8 cd8 ct8), sl8⟩) (c8 : PySem.W.codeIn K cd8 "_law_draw" = true) (k8 : PySem.W.keepIn K (.ref f8) = true)
    (a9 : PySem.W.nsIn K mainGlobals "_law_frac" = some (some (.ref f9))) (l9 : K.lookup f9 = some ⟨oc9, od9, .func (PySem.W.fnOf "_law_frac" "_law_frac" (defArgs (tp 32)) (defBody (tp 32)) (defScope (tp 32)) .none kV9 dc9 pm9 an9 cd9 ct9), sl9⟩) (c9 : PySem.W.codeIn K cd9 "_law_frac" = true) (k9 : PySem.W.keepIn K (.ref f9) = true)
    (a10 : PySem.W.nsIn K mainGlobals "_law_smaller" = some (some (.ref f10))) (l10 : K.lookup f10 = some ⟨oc10, od10, .func (PySem.W.fnOf "_law_smaller" "_law_smaller" (defArgs (tp 41)) (defBody (tp 41)) (defScope (tp 41)) .none kV10 dc10 pm10 an10 cd10 ct10), sl10⟩) (c10 : PySem.W.codeIn K cd10 "_law_smaller" = true) (k10 : PySem.W.keepIn K (.ref f10) = true)
    (a11 : PySem.W.nsIn K mainGlobals "plus" = some (some (.ref f11))) (l11 : K.lookup f11 = some ⟨oc11, od11, .func (PySem.W.fnOf "plus" "plus" (defArgs (tp 7)) (defBody (tp 7)) (defScope (tp 7)) .none kV11 dc11 pm11 an11 cd11 ct11), sl11⟩) (c11 : PySem.W.codeIn K cd11 "plus" = true) (k11 : PySem.W.keepIn K (.ref f11) = true)
    (a12 : PySem.W.nsIn K mainGlobals "minus" = some (some (.ref f12))) (l12 : K.lookup f12 = some ⟨oc12, od12, .func (PySem.W.fnOf "minus" "minus" (defArgs (tp 8)) (defBody (tp 8)) (defScope (tp 8)) .none kV12 dc12 pm12 an12 cd12 ct12), sl12⟩) (c12 : PySem.W.codeIn K cd12 "minus" = true) (k12 : PySem.W.keepIn K (.ref f12) = true)
    (a13 : PySem.W.nsIn K mainGlobals "_law_add" = some (some (.ref f13))) (l13 : K.lookup f13 = some ⟨oc13, od13, .func (PySem.W.fnOf "_law_add" "_law_add" (defArgs (tp 33)) (defBody (tp 33)) (defScope (tp 33)) .none kV13 dc13 pm13 an13 cd13 ct13), sl13⟩) (c13 : PySem.W.codeIn K cd13 "_law_add" = true) (k13 : PySem.W.keepIn K (.ref f13) = true)
    (a14 : PySem.W.nsIn K mainGlobals "_law_sub" = some (some (.ref f14))) (l14 : K.lookup f14 = some ⟨oc14, od14, .func (PySem.W.fnOf "_law_sub" "_law_sub" (defArgs (tp 34)) (defBody (tp 34)) (defScope (tp 34)) .none kV14 dc14 pm14 an14 cd14 ct14), sl14⟩) (c14 : PySem.W.codeIn K cd14 "_law_sub" = true) (k14 : PySem.W.keepIn K (.ref f14) = true)
    (a15 : PySem.W.nsIn K mainGlobals "_law_some" = some (some (.ref f15))) (l15 : K.lookup f15 = some ⟨oc15, od15, .func (PySem.W.fnOf "_law_some" "_law_some" (defArgs (tp 38)) (defBody (tp 38)) (defScope (tp 38)) .none kV15 dc15 pm15 an15 cd15 ct15), sl15⟩) (c15 : PySem.W.codeIn K cd15 "_law_some" = true) (k15 : PySem.W.keepIn K (.ref f15) = true)
    (a16 : PySem.W.nsIn K mainGlobals "_law_lowest" = some (some (.ref f16))) (l16 : K.lookup f16 = some ⟨oc16, od16, .func (PySem.W.fnOf "_law_lowest" "_law_lowest" (defArgs (tp 42)) (defBody (tp 42)) (defScope (tp 42)) .none kV16 dc16 pm16 an16 cd16 ct16), sl16⟩) (c16 : PySem.W.codeIn K cd16 "_law_lowest" = true) (k16 : PySem.W.keepIn K (.ref f16) = true)
    (a17 : PySem.W.nsIn K mainGlobals "_law_cloud" = some (some (.ref f17))) (l17 : K.lookup f17 = some ⟨oc17, od17, .func (PySem.W.fnOf "_law_cloud" "_law_cloud" (defArgs (tp 48)) (defBody (tp 48)) (defScope (tp 48)) .none kV17 dc17 pm17 an17 cd17 ct17), sl17⟩) (c17 : PySem.W.codeIn K cd17 "_law_cloud" = true) (k17 : PySem.W.keepIn K (.ref f17) = true)
    (a18 : PySem.W.nsIn K mainGlobals "compare" = some (some (.ref f18))) (l18 : K.lookup f18 = some ⟨oc18, od18, .func (PySem.W.fnOf "compare" "compare" (defArgs (tp 10)) (defBody (tp 10)) (defScope (tp 10)) .none kV18 dc18 pm18 an18 cd18 ct18), sl18⟩) (c18 : PySem.W.codeIn K cd18 "compare" = true) (k18 : PySem.W.keepIn K (.ref f18) = true)
    (a19 : PySem.W.nsIn K mainGlobals "added" = some (some (.ref f19))) (l19 : K.lookup f19 = some ⟨oc19, od19, .func (PySem.W.fnOf "added" "added" (defArgs (tp 13)) (defBody (tp 13)) (defScope (tp 13)) .none kV19 dc19 pm19 an19 cd19 ct19), sl19⟩) (c19 : PySem.W.codeIn K cd19 "added" = true) (k19 : PySem.W.keepIn K (.ref f19) = true)
    (a20 : PySem.W.nsIn K mainGlobals "_law_mix" = some (some (.ref f20))) (l20 : K.lookup f20 = some ⟨oc20, od20, .func (PySem.W.fnOf "_law_mix" "_law_mix" (defArgs (tp 49)) (defBody (tp 49)) (defScope (tp 49)) .none kV20 dc20 pm20 an20 cd20 ct20), sl20⟩) (c20 : PySem.W.codeIn K cd20 "_law_mix" = true) (k20 : PySem.W.keepIn K (.ref f20) = true)
    (a21 : PySem.W.nsIn K mainGlobals "_law_gap" = some (some (.ref f21))) (l21 : K.lookup f21 = some ⟨oc21, od21, .func (PySem.W.fnOf "_law_gap" "_law_gap" (defArgs (tp 50)) (defBody (tp 50)) (defScope (tp 50)) .none kV21 dc21 pm21 an21 cd21 ct21), sl21⟩) (c21 : PySem.W.codeIn K cd21 "_law_gap" = true) (k21 : PySem.W.keepIn K (.ref f21) = true)
    (a22 : PySem.W.nsIn K mainGlobals "least" = some (some (.ref f22))) (l22 : K.lookup f22 = some ⟨oc22, od22, .func (PySem.W.fnOf "least" "least" (defArgs (tp 11)) (defBody (tp 11)) (defScope (tp 11)) .none kV22 dc22 pm22 an22 cd22 ct22), sl22⟩) (c22 : PySem.W.codeIn K cd22 "least" = true) (k22 : PySem.W.keepIn K (.ref f22) = true)
    (a23 : PySem.W.nsIn K mainGlobals "greatest" = some (some (.ref f23))) (l23 : K.lookup f23 = some ⟨oc23, od23, .func (PySem.W.fnOf "greatest" "greatest" (defArgs (tp 12)) (defBody (tp 12)) (defScope (tp 12)) .none kV23 dc23 pm23 an23 cd23 ct23), sl23⟩) (c23 : PySem.W.codeIn K cd23 "greatest" = true) (k23 : PySem.W.keepIn K (.ref f23) = true)
    (a24 : PySem.W.nsIn K mainGlobals "least_sum" = some (some (.ref f24))) (l24 : K.lookup f24 = some ⟨oc24, od24, .func (PySem.W.fnOf "least_sum" "least_sum" (defArgs (tp 15)) (defBody (tp 15)) (defScope (tp 15)) .none kV24 dc24 pm24 an24 cd24 ct24), sl24⟩) (c24 : PySem.W.codeIn K cd24 "least_sum" = true) (k24 : PySem.W.keepIn K (.ref f24) = true)
    (a25 : PySem.W.nsIn K mainGlobals "least_above" = some (some (.ref f25))) (l25 : K.lookup f25 = some ⟨oc25, od25, .func (PySem.W.fnOf "least_above" "least_above" (defArgs (tp 18)) (defBody (tp 18)) (defScope (tp 18)) .none kV25 dc25 pm25 an25 cd25 ct25), sl25⟩) (c25 : PySem.W.codeIn K cd25 "least_above" = true) (k25 : PySem.W.keepIn K (.ref f25) = true)
    (a26 : PySem.W.nsIn K mainGlobals "distance" = some (some (.ref f26))) (l26 : K.lookup f26 = some ⟨oc26, od26, .func (PySem.W.fnOf "distance" "distance" (defArgs (tp 24)) (defBody (tp 24)) (defScope (tp 24)) .none kV26 dc26 pm26 an26 cd26 ct26), sl26⟩) (c26 : PySem.W.codeIn K cd26 "distance" = true) (k26 : PySem.W.keepIn K (.ref f26) = true)
    (a27 : PySem.W.nsIn K mainGlobals "times_column" = some (some (.ref f27))) (l27 : K.lookup f27 = some ⟨oc27, od27, .func (PySem.W.fnOf "times_column" "times_column" (defArgs (tp 16)) (defBody (tp 16)) (defScope (tp 16)) .none kV27 dc27 pm27 an27 cd27 ct27), sl27⟩) (c27 : PySem.W.codeIn K cd27 "times_column" = true) (k27 : PySem.W.keepIn K (.ref f27) = true)
    (a28 : PySem.W.nsIn K mainGlobals "solution_paper" = some (some (.ref f28))) (l28 : K.lookup f28 = some ⟨oc28, od28, .func (PySem.W.fnOf "solution_paper" "solution_paper" (defArgs (tp 19)) (defBody (tp 19)) (defScope (tp 19)) .none kV28 dc28 pm28 an28 cd28 ct28), sl28⟩) (c28 : PySem.W.codeIn K cd28 "solution_paper" = true) (k28 : PySem.W.keepIn K (.ref f28) = true)
    (a29 : PySem.W.nsIn K mainGlobals "nearest" = some (some (.ref f29))) (l29 : K.lookup f29 = some ⟨oc29, od29, .func (PySem.W.fnOf "nearest" "nearest" (defArgs (tp 23)) (defBody (tp 23)) (defScope (tp 23)) .none kV29 dc29 pm29 an29 cd29 ct29), sl29⟩) (c29 : PySem.W.codeIn K cd29 "nearest" = true) (k29 : PySem.W.keepIn K (.ref f29) = true)
    (a30 : PySem.W.nsIn K mainGlobals "hull_paper" = some (some (.ref f30))) (l30 : K.lookup f30 = some ⟨oc30, od30, .func (PySem.W.fnOf "hull_paper" "hull_paper" (defArgs (tp 22)) (defBody (tp 22)) (defScope (tp 22)) .none kV30 dc30 pm30 an30 cd30 ct30), sl30⟩) (c30 : PySem.W.codeIn K cd30 "hull_paper" = true) (k30 : PySem.W.keepIn K (.ref f30) = true)
    (a31 : PySem.W.nsIn K mainGlobals "_law_same" = some (some (.ref f31))) (l31 : K.lookup f31 = some ⟨oc31, od31, .func (PySem.W.fnOf "_law_same" "_law_same" (defArgs (tp 26)) (defBody (tp 26)) (defScope (tp 26)) .none kV31 dc31 pm31 an31 cd31 ct31), sl31⟩) (c31 : PySem.W.codeIn K cd31 "_law_same" = true) (k31 : PySem.W.keepIn K (.ref f31) = true)
    (a32 : PySem.W.nsIn K mainGlobals "law" = some (some (.ref f32))) (l32 : K.lookup f32 = some ⟨oc32, od32, .func (PySem.W.fnOf "law" "law" (defArgs (tp 51)) (defBody (tp 51)) (defScope (tp 51)) .none kV32 dc32 pm32 an32 cd32 ct32), sl32⟩) (c32 : PySem.W.codeIn K cd32 "law" = true) (k32 : PySem.W.keepIn K (.ref f32) = true)
    (z_abs : PySem.W.nsIn K mainGlobals "abs" = some none)
    (z_bool : PySem.W.nsIn K mainGlobals "bool" = some none)
    (z_int : PySem.W.nsIn K mainGlobals "int" = some none)
    (z_isinstance : PySem.W.nsIn K mainGlobals "isinstance" = some none)
    (z_len : PySem.W.nsIn K mainGlobals "len" = some none)
    (z_list : PySem.W.nsIn K mainGlobals "list" = some none)
    (z_range : PySem.W.nsIn K mainGlobals "range" = some none)
    (z_str : PySem.W.nsIn K mainGlobals "str" = some none)
    (z_tuple : PySem.W.nsIn K mainGlobals "tuple" = some none)
    (z_zip : PySem.W.nsIn K mainGlobals "zip" = some none)
    {ga_INFINITE : Addr} {gd_INFINITE : Option Addr} {gn_INFINITE : Nat} {gs_INFINITE : Array (Option Value)} (ya_INFINITE : PySem.W.nsIn K mainGlobals "INFINITE" = some (some (.ref ga_INFINITE))) (yl_INFINITE : K.lookup ga_INFINITE = some ⟨.type "tuple", gd_INFINITE, .seq #[] gn_INFINITE, gs_INFINITE⟩)
    : ∃ fd : FuncData, (∀ (s : Shared) (v : Value), BindsTo s fd ⟨[v], []⟩ [("script", v)]) ∧ ∀ base : Heap, K.In base → base.Ns mainGlobals mg → FnOk l.prog w K mg base CX0 61 fa fd ["script"] (spF K 1 F_law) := by
  have e := hfa.symm.trans (PySem.W.mg_of X G a32)
  cases e
  have T : Txt K mg := ⟨PySem.W.mg_none_of X G z_abs, PySem.W.mg_none_of X G z_bool, PySem.W.mg_none_of X G z_int, PySem.W.mg_none_of X G z_isinstance, PySem.W.mg_none_of X G z_len, PySem.W.mg_none_of X G z_list, PySem.W.mg_none_of X G z_range, PySem.W.mg_none_of X G z_str, PySem.W.mg_none_of X G z_tuple, PySem.W.mg_none_of X G z_zip, ⟨.ref _, _, PySem.W.mg_of X G ya_INFINITE, rfl, rp_ktup0 yl_INFINITE rfl rfl⟩⟩
  have F0 := fun_mk (st := (tp 5)) l0 c0 k0
  have b0 := F0.binds (ps := ["a", "b"]) fun _ _ _ _ _ _ us hl => match us, hl with | [_, _], _ => rfl
  have F1 := fun_mk (st := (tp 9)) l1 c1 k1
  have b1 := F1.binds (ps := ["x"]) fun _ _ _ _ _ _ us hl => match us, hl with | [_], _ => rfl
  have F2 := fun_mk (st := (tp 21)) l2 c2 k2
  have b2 := F2.binds (ps := ["points"]) fun _ _ _ _ _ _ us hl => match us, hl with | [_], _ => rfl
  have F3 := fun_mk (st := (tp 28)) l3 c3 k3
  have b3 := F3.binds (ps := ["script"]) fun _ _ _ _ _ _ us hl => match us, hl with | [_], _ => rfl
  have F4 := fun_mk (st := (tp 29)) l4 c4 k4
  have b4 := F4.binds (ps := ["cell"]) fun _ _ _ _ _ _ us hl => match us, hl with | [_], _ => rfl
  have F5 := fun_mk (st := (tp 31)) l5 c5 k5
  have b5 := F5.binds (ps := ["a", "b"]) fun _ _ _ _ _ _ us hl => match us, hl with | [_, _], _ => rfl
  have F6 := fun_mk (st := (tp 36)) l6 c6 k6
  have b6 := F6.binds (ps := ["x", "y"]) fun _ _ _ _ _ _ us hl => match us, hl with | [_, _], _ => rfl
  have F7 := fun_mk (st := (tp 6)) l7 c7 k7
  have b7 := F7.binds (ps := ["a", "b"]) fun _ _ _ _ _ _ us hl => match us, hl with | [_, _], _ => rfl
  have F8 := fun_mk (st := (tp 30)) l8 c8 k8
  have b8 := F8.binds (ps := ["pool", "many"]) fun _ _ _ _ _ _ us hl => match us, hl with | [_, _], _ => rfl
  have F9 := fun_mk (st := (tp 32)) l9 c9 k9
  have b9 := F9.binds (ps := ["a", "b"]) fun _ _ _ _ _ _ us hl => match us, hl with | [_, _], _ => rfl
  have F10 := fun_mk (st := (tp 41)) l10 c10 k10
  have b10 := F10.binds (ps := ["x", "y"]) fun _ _ _ _ _ _ us hl => match us, hl with | [_, _], _ => rfl
  have F11 := fun_mk (st := (tp 7)) l11 c11 k11
  have b11 := F11.binds (ps := ["x", "y"]) fun _ _ _ _ _ _ us hl => match us, hl with | [_, _], _ => rfl
  have F12 := fun_mk (st := (tp 8)) l12 c12 k12
  have b12 := F12.binds (ps := ["x", "y"]) fun _ _ _ _ _ _ us hl => match us, hl with | [_, _], _ => rfl
  have F13 := fun_mk (st := (tp 33)) l13 c13 k13
  have b13 := F13.binds (ps := ["x", "y"]) fun _ _ _ _ _ _ us hl => match us, hl with | [_, _], _ => rfl
  have F14 := fun_mk (st := (tp 34)) l14 c14 k14
  have b14 := F14.binds (ps := ["x", "y"]) fun _ _ _ _ _ _ us hl => match us, hl with | [_, _], _ => rfl
  have F15 := fun_mk (st := (tp 38)) l15 c15 k15
  have b15 := F15.binds (ps := ["pool"]) fun _ _ _ _ _ _ us hl => match us, hl with | [_], _ => rfl
  have F16 := fun_mk (st := (tp 42)) l16 c16 k16
  have b16 := F16.binds (ps := ["values"]) fun _ _ _ _ _ _ us hl => match us, hl with | [_], _ => rfl
  have F17 := fun_mk (st := (tp 48)) l17 c17 k17
  have b17 := F17.binds (ps := ["pool", "n", "most"]) fun _ _ _ _ _ _ us hl => match us, hl with | [_, _, _], _ => rfl
  have F18 := fun_mk (st := (tp 10)) l18 c18 k18
  have b18 := F18.binds (ps := ["x", "y"]) fun _ _ _ _ _ _ us hl => match us, hl with | [_, _], _ => rfl
  have F19 := fun_mk (st := (tp 13)) l19 c19 k19
  have b19 := F19.binds (ps := ["x", "y"]) fun _ _ _ _ _ _ us hl => match us, hl with | [_, _], _ => rfl
  have F20 := fun_mk (st := (tp 49)) l20 c20 k20
  have b20 := F20.binds (ps := ["points", "shifts"]) fun _ _ _ _ _ _ us hl => match us, hl with | [_, _], _ => rfl
  have F21 := fun_mk (st := (tp 50)) l21 c21 k21
  have b21 := F21.binds (ps := ["x", "y"]) fun _ _ _ _ _ _ us hl => match us, hl with | [_, _], _ => rfl
  have F22 := fun_mk (st := (tp 11)) l22 c22 k22
  have b22 := F22.binds (ps := ["values"]) fun _ _ _ _ _ _ us hl => match us, hl with | [_], _ => rfl
  have F23 := fun_mk (st := (tp 12)) l23 c23 k23
  have b23 := F23.binds (ps := ["fractions"]) fun _ _ _ _ _ _ us hl => match us, hl with | [_], _ => rfl
  have F24 := fun_mk (st := (tp 15)) l24 c24 k24
  have b24 := F24.binds (ps := ["row", "column"]) fun _ _ _ _ _ _ us hl => match us, hl with | [_, _], _ => rfl
  have F25 := fun_mk (st := (tp 18)) l25 c25 k25
  have b25 := F25.binds (ps := ["A", "b"]) fun _ _ _ _ _ _ us hl => match us, hl with | [_, _], _ => rfl
  have F26 := fun_mk (st := (tp 24)) l26 c26 k26
  have b26 := F26.binds (ps := ["x", "y"]) fun _ _ _ _ _ _ us hl => match us, hl with | [_, _], _ => rfl
  have F27 := fun_mk (st := (tp 16)) l27 c27 k27
  have b27 := F27.binds (ps := ["A", "x"]) fun _ _ _ _ _ _ us hl => match us, hl with | [_, _], _ => rfl
  have F28 := fun_mk (st := (tp 19)) l28 c28 k28
  have b28 := F28.binds (ps := ["A", "b"]) fun _ _ _ _ _ _ us hl => match us, hl with | [_, _], _ => rfl
  have F29 := fun_mk (st := (tp 23)) l29 c29 k29
  have b29 := F29.binds (ps := ["points", "x"]) fun _ _ _ _ _ _ us hl => match us, hl with | [_, _], _ => rfl
  have F30 := fun_mk (st := (tp 22)) l30 c30 k30
  have b30 := F30.binds (ps := ["points", "x"]) fun _ _ _ _ _ _ us hl => match us, hl with | [_, _], _ => rfl
  have F31 := fun_mk (st := (tp 26)) l31 c31 k31
  have b31 := F31.binds (ps := ["actual", "due"]) fun _ _ _ _ _ _ us hl => match us, hl with | [_, _], _ => rfl
  have F32 := fun_mk (st := (tp 51)) l32 c32 k32
  have b32 := F32.binds (ps := ["script"]) fun _ _ _ _ _ _ us hl => match us, hl with | [_], _ => rfl
  refine ⟨PySem.W.fnOf "law" "law" (defArgs (tp 51)) (defBody (tp 51)) (defScope (tp 51)) .none kV32 dc32 pm32 an32 cd32 ct32, fun s v => .of_eq rfl, fun base _ _ => ?_⟩
  have q_common_divisor := cal_common_divisor (P := l.prog) (w := w) (base := base) T F0 (PySem.W.mg_of X G a0) b0 
  have q_sign := cal_sign (P := l.prog) (w := w) (base := base) T F1 (PySem.W.mg_of X G a1) b1 
  have q_as_matrix := cal_as_matrix (P := l.prog) (w := w) (base := base) T F2 (PySem.W.mg_of X G a2) b2 
  have q__law_pool := cal__law_pool (P := l.prog) (w := w) (base := base) T F3 (PySem.W.mg_of X G a3) b3 
  have q__law_spread := cal__law_spread (P := l.prog) (w := w) (base := base) T F4 (PySem.W.mg_of X G a4) b4 
  have q__law_gcd := cal__law_gcd (P := l.prog) (w := w) (base := base) T F5 (PySem.W.mg_of X G a5) b5 
  have q__law_less := cal__law_less (P := l.prog) (w := w) (base := base) T F6 (PySem.W.mg_of X G a6) b6 
  have q_fraction := cal_fraction (P := l.prog) (w := w) (base := base) T F7 (PySem.W.mg_of X G a7) b7 q_common_divisor
  have q__law_draw := cal__law_draw (P := l.prog) (w := w) (base := base) T F8 (PySem.W.mg_of X G a8) b8 q__law_spread
  have q__law_frac := cal__law_frac (P := l.prog) (w := w) (base := base) T F9 (PySem.W.mg_of X G a9) b9 q__law_gcd
  have q__law_smaller := cal__law_smaller (P := l.prog) (w := w) (base := base) T F10 (PySem.W.mg_of X G a10) b10 q__law_less
  have q_plus := cal_plus (P := l.prog) (w := w) (base := base) T F11 (PySem.W.mg_of X G a11) b11 q_fraction
  have q_minus := cal_minus (P := l.prog) (w := w) (base := base) T F12 (PySem.W.mg_of X G a12) b12 q_fraction
  have q__law_add := cal__law_add (P := l.prog) (w := w) (base := base) T F13 (PySem.W.mg_of X G a13) b13 q__law_frac
  have q__law_sub := cal__law_sub (P := l.prog) (w := w) (base := base) T F14 (PySem.W.mg_of X G a14) b14 q__law_frac
  have q__law_some := cal__law_some (P := l.prog) (w := w) (base := base) T F15 (PySem.W.mg_of X G a15) b15 q__law_draw q__law_frac
  have q__law_lowest := cal__law_lowest (P := l.prog) (w := w) (base := base) T F16 (PySem.W.mg_of X G a16) b16 q__law_smaller
  have q__law_cloud := cal__law_cloud (P := l.prog) (w := w) (base := base) T F17 (PySem.W.mg_of X G a17) b17 q__law_draw q__law_frac
  have q_compare := cal_compare (P := l.prog) (w := w) (base := base) T F18 (PySem.W.mg_of X G a18) b18 q_minus q_sign
  have q_added := cal_added (P := l.prog) (w := w) (base := base) T F19 (PySem.W.mg_of X G a19) b19 q_plus
  have q__law_mix := cal__law_mix (P := l.prog) (w := w) (base := base) T F20 (PySem.W.mg_of X G a20) b20 q__law_add q__law_lowest
  have q__law_gap := cal__law_gap (P := l.prog) (w := w) (base := base) T F21 (PySem.W.mg_of X G a21) b21 q__law_sub q__law_less
  have q_least := cal_least (P := l.prog) (w := w) (base := base) T F22 (PySem.W.mg_of X G a22) b22 q_compare
  have q_greatest := cal_greatest (P := l.prog) (w := w) (base := base) T F23 (PySem.W.mg_of X G a23) b23 q_compare
  have q_least_sum := cal_least_sum (P := l.prog) (w := w) (base := base) T F24 (PySem.W.mg_of X G a24) b24 q_added q_least
  have q_least_above := cal_least_above (P := l.prog) (w := w) (base := base) T F25 (PySem.W.mg_of X G a25) b25 q_minus q_greatest
  have q_distance := cal_distance (P := l.prog) (w := w) (base := base) T F26 (PySem.W.mg_of X G a26) b26 q_minus q_least q_greatest
  have q_times_column := cal_times_column (P := l.prog) (w := w) (base := base) T F27 (PySem.W.mg_of X G a27) b27 q_least_sum
  have q_solution_paper := cal_solution_paper (P := l.prog) (w := w) (base := base) T F28 (PySem.W.mg_of X G a28) b28 q_least_above q_times_column
  have q_nearest := cal_nearest (P := l.prog) (w := w) (base := base) T F29 (PySem.W.mg_of X G a29) b29 q_as_matrix q_least_above q_times_column
  have q_hull_paper := cal_hull_paper (P := l.prog) (w := w) (base := base) T F30 (PySem.W.mg_of X G a30) b30 q_as_matrix q_solution_paper
  have q__law_same := cal__law_same (P := l.prog) (w := w) (base := base) T F31 (PySem.W.mg_of X G a31) b31 
  refine fnV F32 sc_law 19 rfl (W := [1, 2, 3, 4, 5, 6, 7, 8, 9, 10, 11, 12, 13, 14, 15, 16, 17]) fun cdv A outer s H E hr => ?_
  exact bv_W (bv_cons (sv_set (i := 1) sc_law.nd rfl (by first | exact .inl rfl | exact .inr rfl) (ev_def q__law_pool (hr.mono (by decide)) (by rfl) (av_cons (ev_name (pv 0)) av_nil))) (bv_cons (sv_set (i := 2) sc_law.nd rfl (by first | exact .inl rfl | exact .inr rfl) (ev_bin opr_add o2_add ev_int (ev_defL (lens := [some 1, none]) q__law_draw (hr.mono (by decide)) (by rfl) (lv_lend (pv 1) (lv_cons ev_int lv_nil))))) (bv_cons (sv_frz 3 (sv_set (i := 3) sc_law.nd rfl (by first | exact .inl rfl | exact .inr rfl) (ev_defL (lens := [some 1, none, none]) q__law_cloud (hr.mono (by decide)) (by rfl) (lv_lend (pv 1) (lv_cons (ev_name (pv 2)) (lv_cons ev_int lv_nil)))))) (bv_cons (sv_set (i := 4) sc_law.nd rfl (by first | exact .inl rfl | exact .inr rfl) (ev_callTy call_tuple_of on_tuple (by rfl) T.b_tuple (by decide +kernel) (av_cons (ev_lc (own := [("k", 8)]) rfl sc_law.nd (iv_range1 (by rfl) T.b_range (av_cons (ev_name (pv 2)) av_nil)) (blkOk_by (N := ["script", "pool", "n", "points", "x", "shifts", "v", "best", "k", "one", "due", "told", "near", "turn", "moved", "y", "above", "step", "t", "a"]) (sc := defScope (tp 51)) (by decide +kernel)) (fun _ _ _ _ _ => (gv_name sc_law.nd rfl (by first | exact .inl rfl | exact .inr rfl))) (fun _ _ _ _ _ => cv_nil) (fun _ _ _ _ _ => (ev_defL (lens := [some 1]) q__law_some (hr.mono (by decide)) (by rfl) (lv_lend (pv 1) lv_nil))) (by decide)) av_nil))) (bv_cons (sv_set (i := 5) sc_law.nd rfl (by first | exact .inl rfl | exact .inr rfl) (ev_lst av_nil)) (bv_cons (sv_for (FB := L_law_3) PySem.PassesOwn.never rfl (iv_seq (ev_name (pv 3))) (gv_name sc_law.nd rfl (by first | exact .inl rfl | exact .inr rfl)) (bv_cons (sv_set (i := 7) sc_law.nd rfl (by first | exact .inl rfl | exact .inr rfl) (ev_def q__law_sub (hr.mono (by decide)) (by rfl) (av_cons (ev_own (ev_sub (ev_look (pv 4)) ev_int (fun _ _ => rfl))) (av_cons (ev_own (ev_sub (ev_look (pv 6)) ev_int (fun _ _ => rfl))) av_nil)))) (bv_cons (sv_for (FB := L_law_2) PySem.PassesOwn.never rfl (iv_range1 (by rfl) T.b_range (av_cons (ev_name (pv 2)) av_nil)) (gv_name sc_law.nd rfl (by first | exact .inl rfl | exact .inr rfl)) (bv_cons (sv_set (i := 9) sc_law.nd rfl (by first | exact .inl rfl | exact .inr rfl) (ev_def q__law_sub (hr.mono (by decide)) (by rfl) (av_cons (ev_own (ev_sub (ev_look (pv 4)) (ev_look (pv 8)) (fun _ _ => rfl))) (av_cons (ev_own (ev_sub (ev_look (pv 6)) (ev_look (pv 8)) (fun _ _ => rfl))) av_nil)))) (bv_one (sv_set (i := 7) sc_law.nd rfl (by first | exact .inl rfl | exact .inr rfl) (ev_if (tv_tru (ev_def q__law_less (hr.mono (by decide)) (by rfl) (av_cons (ev_name (pv 7)) (av_cons (ev_name (pv 9)) av_nil)))) (ev_name (pv 9)) (ev_name (pv 7))))))) (bv_one (sv_expr (ev_mt PySem.F.slot_list_append PySem.F.type_list_append mt_append mut_append (pv 5) (av_cons (ev_name (pv 7)) av_nil))))))) (bv_cons (sv_set (i := 10) sc_law.nd rfl (by first | exact .inl rfl | exact .inr rfl) (ev_defL (lens := [none, some 5]) q__law_mix (hr.mono (by decide)) (by rfl) (lv_cons (ev_name (pv 3)) (lv_lend (pv 5) lv_nil)))) (bv_cons (sv_set (i := 11) sc_law.nd rfl (by first | exact .inl rfl | exact .inr rfl) (ev_def q_nearest (hr.mono (by decide)) (by rfl) (av_cons (ev_callTy call_list_of on_list (by rfl) T.b_list (by decide +kernel) (av_cons (ev_look (pv 3)) av_nil)) (av_cons (ev_name (pv 4)) av_nil)))) (bv_cons (sv_if (tv_w (wv_or (tv_not (tv_tru (ev_def q__law_same (hr.mono (by decide)) (by rfl) (av_cons (ev_name (pv 11)) (av_cons (ev_name (pv 10)) av_nil))))) (wv_or1 (tv_cmp (op_neD hr.units) o2_ne (ev_sub (ev_def q_hull_paper (hr.mono (by decide)) (by rfl) (av_cons (ev_callTy call_list_of on_list (by rfl) T.b_list (by decide +kernel) (av_cons (ev_look (pv 3)) av_nil)) (av_cons (ev_name (pv 11)) av_nil))) ev_int (fun _ _ => rfl)) ev_str (nomark _))))) (bv_one (sv_ret ev_bl)) bv_nil) (bv_cons (sv_if (tv_cmp op_gt o2_gt (ev_callB call_len on_len (by rfl) T.b_len PySem.boot_len (av_cons (ev_lc (own := [("k", 8)]) rfl sc_law.nd (iv_range1 (by rfl) T.b_range (av_cons (ev_name (pv 2)) av_nil)) (blkOk_by (N := ["script", "pool", "n", "points", "x", "shifts", "v", "best", "k", "one", "due", "told", "near", "turn", "moved", "y", "above", "step", "t", "a"]) (sc := defScope (tp 51)) (by decide +kernel)) (fun _ _ _ _ _ => (gv_name sc_law.nd rfl (by first | exact .inl rfl | exact .inr rfl))) (fun _ _ _ _ _ => (cv_one (tv_tru (ev_def q__law_less (hr.mono (by decide)) (by rfl) (av_cons (ev_own (ev_sub (ev_look (pv 11)) (ev_look (pv 8)) (fun _ _ => rfl))) (av_cons (ev_own (ev_sub (ev_look (pv 4)) (ev_look (pv 8)) (fun _ _ => rfl))) av_nil)))))) (fun _ _ _ _ _ => (ev_name (pv 8))) (by decide)) av_nil)) ev_int (nomark _)) (bv_one (sv_ret ev_bl)) bv_nil) (bv_cons (sv_if (tv_cmp (op_neD hr.units) o2_ne (ev_cmp (op_eqD hr.units) o2_eq (ev_look (pv 11)) (ev_look (pv 4)) (nomark _)) (ev_cmp (op_eqD hr.units) o2_eq (ev_sub (ev_def q_hull_paper (hr.mono (by decide)) (by rfl) (av_cons (ev_callTy call_list_of on_list (by rfl) T.b_list (by decide +kernel) (av_cons (ev_look (pv 3)) av_nil)) (av_cons (ev_name (pv 4)) av_nil))) ev_int (fun _ _ => rfl)) ev_str (nomark _)) (nomark _)) (bv_one (sv_ret ev_bl)) bv_nil) (bv_cons (sv_set (i := 12) sc_law.nd rfl (by first | exact .inl rfl | exact .inr rfl) (ev_def q__law_gap (hr.mono (by decide)) (by rfl) (av_cons (ev_name (pv 4)) (av_cons (ev_name (pv 11)) av_nil)))) (bv_cons (sv_if (tv_not (tv_tru (ev_def q__law_same (hr.mono (by decide)) (by rfl) (av_cons (ev_def q_distance (hr.mono (by decide)) (by rfl) (av_cons (ev_name (pv 4)) (av_cons (ev_name (pv 11)) av_nil))) (av_cons (ev_name (pv 12)) av_nil))))) (bv_one (sv_ret ev_bl)) bv_nil) (bv_cons (sv_for (FB := L_law_11) PySem.PassesOwn.never rfl (iv_range1 (by rfl) T.b_range (av_cons ev_int av_nil)) (gv_name sc_law.nd rfl (by first | exact .inl rfl | exact .inr rfl)) (bv_cons (sv_frz 14 (sv_setLc (own := [("t", 18)]) (i := 14) rfl sc_law.nd rfl rfl (sw_true rfl rfl rfl (by decide +kernel)) (iv_seq (ev_share (pv 5))) (blkOk_by (N := ["script", "pool", "n", "points", "x", "shifts", "v", "best", "k", "one", "due", "told", "near", "turn", "moved", "y", "above", "step", "t", "a"]) (sc := defScope (tp 51)) (by decide +kernel)) (fun _ _ _ _ _ => (gv_name sc_law.nd rfl (by first | exact .inl rfl | exact .inr rfl))) (fun _ _ _ _ _ => cv_nil) (fun _ _ _ _ _ => (ev_def q__law_add (hr.mono (by decide)) (by rfl) (av_cons (ev_name (pv 18)) (av_cons (ev_tup (av_cons (ev_bin op_sub o2_sub (ev_defL (lens := [some 1, none]) q__law_draw (hr.mono (by decide)) (by rfl) (lv_lend (pv 1) (lv_cons ev_int lv_nil))) ev_int) (av_cons ev_int av_nil))) av_nil)))) (by decide))) (bv_cons (sv_set (i := 15) sc_law.nd rfl (by first | exact .inl rfl | exact .inr rfl) (ev_def q__law_mix (hr.mono (by decide)) (by rfl) (av_cons (ev_name (pv 3)) (av_cons (ev_name (pv 14)) av_nil)))) (bv_cons (sv_if (tv_w (wv_or (tv_not (tv_tru (ev_def q__law_same (hr.mono (by decide)) (by rfl) (av_cons (ev_def q_distance (hr.mono (by decide)) (by rfl) (av_cons (ev_name (pv 4)) (av_cons (ev_name (pv 15)) av_nil))) (av_cons (ev_def q__law_gap (hr.mono (by decide)) (by rfl) (av_cons (ev_name (pv 4)) (av_cons (ev_name (pv 15)) av_nil))) av_nil))))) (wv_or1 (tv_tru (ev_def q__law_less (hr.mono (by decide)) (by rfl) (av_cons (ev_def q__law_gap (hr.mono (by decide)) (by rfl) (av_cons (ev_name (pv 4)) (av_cons (ev_name (pv 15)) av_nil))) (av_cons (ev_name (pv 12)) av_nil))))))) (bv_one (sv_ret ev_bl)) bv_nil) (bv_cons (sv_set (i := 16) sc_law.nd rfl (by first | exact .inl rfl | exact .inr rfl) (ev_cmp (op_eqD hr.units) o2_eq (ev_callB call_len on_len (by rfl) T.b_len PySem.boot_len (av_cons (ev_lc (own := [("k", 8)]) rfl sc_law.nd (iv_range1 (by rfl) T.b_range (av_cons (ev_name (pv 2)) av_nil)) (blkOk_by (N := ["script", "pool", "n", "points", "x", "shifts", "v", "best", "k", "one", "due", "told", "near", "turn", "moved", "y", "above", "step", "t", "a"]) (sc := defScope (tp 51)) (by decide +kernel)) (fun _ _ _ _ _ => (gv_name sc_law.nd rfl (by first | exact .inl rfl | exact .inr rfl))) (fun _ _ _ _ _ => (cv_one (tv_tru (ev_def q__law_less (hr.mono (by decide)) (by rfl) (av_cons (ev_own (ev_sub (ev_look (pv 15)) (ev_look (pv 8)) (fun _ _ => rfl))) (av_cons (ev_own (ev_sub (ev_look (pv 4)) (ev_look (pv 8)) (fun _ _ => rfl))) av_nil)))))) (fun _ _ _ _ _ => (ev_name (pv 8))) (by decide)) av_nil)) ev_int (nomark _))) (bv_one (sv_if (tv_w (wv_and (tv_tru (ev_look (pv 16))) (wv_and1 (tv_cmp op_gt o2_gt (ev_callB call_len on_len (by rfl) T.b_len PySem.boot_len (av_cons (ev_lc (own := [("k", 8)]) rfl sc_law.nd (iv_range1 (by rfl) T.b_range (av_cons (ev_name (pv 2)) av_nil)) (blkOk_by (N := ["script", "pool", "n", "points", "x", "shifts", "v", "best", "k", "one", "due", "told", "near", "turn", "moved", "y", "above", "step", "t", "a"]) (sc := defScope (tp 51)) (by decide +kernel)) (fun _ _ _ _ _ => (gv_name sc_law.nd rfl (by first | exact .inl rfl | exact .inr rfl))) (fun _ _ _ _ _ => (cv_one (tv_tru (ev_def q__law_less (hr.mono (by decide)) (by rfl) (av_cons (ev_own (ev_sub (ev_look (pv 15)) (ev_look (pv 8)) (fun _ _ => rfl))) (av_cons (ev_own (ev_sub (ev_look (pv 11)) (ev_look (pv 8)) (fun _ _ => rfl))) av_nil)))))) (fun _ _ _ _ _ => (ev_name (pv 8))) (by decide)) av_nil)) ev_int (nomark _))))) (bv_one (sv_ret ev_bl)) bv_nil))))))) (bv_cons (sv_set (i := 17) sc_law.nd rfl (by first | exact .inl rfl | exact .inr rfl) (ev_defL (lens := [some 1]) q__law_some (hr.mono (by decide)) (by rfl) (lv_lend (pv 1) lv_nil))) (bv_one (sv_ret (ev_def q__law_same (hr.mono (by decide)) (by rfl) (av_cons (ev_def q_distance (hr.mono (by decide)) (by rfl) (av_cons (ev_name (pv 4)) (av_cons (ev_callTy call_tuple_of on_tuple (by rfl) T.b_tuple (by decide +kernel) (av_cons (ev_lc (own := [("a", 19)]) rfl sc_law.nd (iv_seq (ev_name (pv 4))) (blkOk_by (N := ["script", "pool", "n", "points", "x", "shifts", "v", "best", "k", "one", "due", "told", "near", "turn", "moved", "y", "above", "step", "t", "a"]) (sc := defScope (tp 51)) (by decide +kernel)) (fun _ _ _ _ _ => (gv_name sc_law.nd rfl (by first | exact .inl rfl | exact .inr rfl))) (fun _ _ _ _ _ => cv_nil) (fun _ _ _ _ _ => (ev_def q__law_add (hr.mono (by decide)) (by rfl) (av_cons (ev_name (pv 19)) (av_cons (ev_name (pv 17)) av_nil)))) (by decide)) av_nil)) av_nil))) (av_cons (ev_tup (av_cons ev_int (av_cons ev_int av_nil))) av_nil)))))))))))))))))))) (by decide)
theorem walk {l : PySem.W.OpenLaw} {q : Program} {loose : List Str} {XP : (Str → Option Value) → Heap → Prop} {YP : World → Heap → Prop} {d : DefRec} {K : Params → PySem.W.Frag} (hn : l.most = some 63) (hdf : d.params.defaults = [])
    (hY : ∀ (w : World) (h : Heap), YP w h → (K w.params).In h)
    (F : ∀ (w : World) (mg : Str → Option Value) (fa : Addr) (h : Heap), (K w.params).In h → h.Ns mainGlobals mg → mg d.name = some (.ref fa) →
      ∃ fd : FuncData, (∀ (s : Shared) (u : Value), BindsTo s fd ⟨[u], []⟩ [("script", u)]) ∧ ∀ base : Heap, (K w.params).In base → base.Ns mainGlobals mg → FnOk l.prog w (K w.params) mg base CX0 61 fa fd ["script"] (spF (K w.params) 1 F_law))
    (law : ∀ ns : List Int, ns.length ≤ 63 → (∀ z ∈ ns, Builtin.Int.intBits z ≤ 1048576) → ∃ env, F_law [.scr ns] = some (.bl true, env)) :
    PySem.W.WalkO q loose XP YP l.row.toRowW d [] (fun f vs => PySem.call f vs) :=
  L2.walk_ofB (n := 63) (k := 61) (x := "script") (CX := fun _ => CX0) (sp := fun w => spF (K w.params) 1 F_law) hn (by decide) hdf ⟨rfl, by decide, by decide⟩ hY F (fun _ _ a ns hl hb _ hS => (law ns hl hb).elim fun _ h => law_end hS h) fun _ _ _ _ _ z => z
end
end G33


set_option Elab.async false
set_option maxRecDepth 100000
open PySem PySem.W PyProof.Rows in
set_option maxRecDepth 100000 in
set_option maxHeartbeats 0 in
theorem PySem.Challenge.cw_leastplus_k33_whole_nearest_points_holds : PySem.Challenge.rw_leastplus_k33_whole_nearest_points.Holds := by
  w_on; o_law; k_head; (case hw => w_witness2)
  k_fill
  refine G33.walk (l := PySem.Challenge.rw_leastplus_k33_whole_nearest_points) rfl rfl (fun w h Y => PySem.W.kIn_of Y) ?F (fun ns _ _ => G33.law_ok ns)
  case F =>
    intro w mg fa h KX G hmg
    refine' G33.law_of KX G hmg ?a0 ?l0 ?c0 ?k0 ?a1 ?l1 ?c1 ?k1 ?a2 ?l2 ?c2 ?k2 ?a3 ?l3 ?c3 ?k3 ?a4 ?l4 ?c4 ?k4 ?a5 ?l5 ?c5 ?k5 ?a6 ?l6 ?c6 ?k6 ?a7 ?l7 ?c7 ?k7 ?a8 ?l8 ?c8 ?k8 ?a9 ?l9 ?c9 ?k9 ?a10 ?l10 ?c10 ?k10 ?a11 ?l11 ?c11 ?k11 ?a12 ?l12 ?c12 ?k12 ?a13 ?l13 ?c13 ?k13 ?a14 ?l14 ?c14 ?k14 ?a15 ?l15 ?c15 ?k15 ?a16 ?l16 ?c16 ?k16 ?a17 ?l17 ?c17 ?k17 ?a18 ?l18 ?c18 ?k18 ?a19 ?l19 ?c19 ?k19 ?a20 ?l20 ?c20 ?k20 ?a21 ?l21 ?c21 ?k21 ?a22 ?l22 ?c22 ?k22 ?a23 ?l23 ?c23 ?k23 ?a24 ?l24 ?c24 ?k24 ?a25 ?l25 ?c25 ?k25 ?a26 ?l26 ?c26 ?k26 ?a27 ?l27 ?c27 ?k27 ?a28 ?l28 ?c28 ?k28 ?a29 ?l29 ?c29 ?k29 ?a30 ?l30 ?c30 ?k30 ?a31 ?l31 ?c31 ?k31 ?a32 ?l32 ?c32 ?k32 ?z_abs ?z_bool ?z_int ?z_isinstance ?z_len ?z_list ?z_range ?z_str ?z_tuple ?z_zip ?ya_INFINITE ?yl_INFINITE
    (case a0 => k_is)
    (case l0 => k_is)
    (case c0 => k_is)
    (case k0 => k_is)
    (case a1 => k_is)
    (case l1 => k_is)
    (case c1 => k_is)
    (case k1 => k_is)
    (case a2 => k_is)
    (case l2 => k_is)
    (case c2 => k_is)
    (case k2 => k_is)
    (case a3 => k_is)
    (case l3 => k_is)
    (case c3 => k_is)
    (case k3 => k_is)
    (case a4 => k_is)
    (case l4 => k_is)
    (case c4 => k_is)
    (case k4 => k_is)
    (case a5 => k_is)
    (case l5 => k_is)
    (case c5 => k_is)
    (case k5 => k_is)
    (case a6 => k_is)
    (case l6 => k_is)
    (case c6 => k_is)
    (case k6 => k_is)
    (case a7 => k_is)
    (case l7 => k_is)
    (case c7 => k_is)
    (case k7 => k_is)
    (case a8 => k_is)
    (case l8 => k_is)
    (case c8 => k_is)
    (case k8 => k_is)
    (case a9 => k_is)
    (case l9 => k_is)
    (case c9 => k_is)
    (case k9 => k_is)
    (case a10 => k_is)
    (case l10 => k_is)
    (case c10 => k_is)
    (case k10 => k_is)
    (case a11 => k_is)
    (case l11 => k_is)
    (case c11 => k_is)
    (case k11 => k_is)
    (case a12 => k_is)
    (case l12 => k_is)
    (case c12 => k_is)
    (case k12 => k_is)
    (case a13 => k_is)
    (case l13 => k_is)
    (case c13 => k_is)
    (case k13 => k_is)
    (case a14 => k_is)
    (case l14 => k_is)
    (case c14 => k_is)
    (case k14 => k_is)
    (case a15 => k_is)
    (case l15 => k_is)
    (case c15 => k_is)
    (case k15 => k_is)
    (case a16 => k_is)
    (case l16 => k_is)
    (case c16 => k_is)
    (case k16 => k_is)
    (case a17 => k_is)
    (case l17 => k_is)
    (case c17 => k_is)
    (case k17 => k_is)
    (case a18 => k_is)
    (case l18 => k_is)
    (case c18 => k_is)
    (case k18 => k_is)
    (case a19 => k_is)
    (case l19 => k_is)
    (case c19 => k_is)
    (case k19 => k_is)
    (case a20 => k_is)
    (case l20 => k_is)
    (case c20 => k_is)
    (case k20 => k_is)
    (case a21 => k_is)
    (case l21 => k_is)
    (case c21 => k_is)
    (case k21 => k_is)
    (case a22 => k_is)
    (case l22 => k_is)
    (case c22 => k_is)
    (case k22 => k_is)
    (case a23 => k_is)
    (case l23 => k_is)
    (case c23 => k_is)
    (case k23 => k_is)
    (case a24 => k_is)
    (case l24 => k_is)
    (case c24 => k_is)
    (case k24 => k_is)
    (case a25 => k_is)
    (case l25 => k_is)
    (case c25 => k_is)
    (case k25 => k_is)
    (case a26 => k_is)
    (case l26 => k_is)
    (case c26 => k_is)
    (case k26 => k_is)
    (case a27 => k_is)
    (case l27 => k_is)
    (case c27 => k_is)
    (case k27 => k_is)
    (case a28 => k_is)
    (case l28 => k_is)
    (case c28 => k_is)
    (case k28 => k_is)
    (case a29 => k_is)
    (case l29 => k_is)
    (case c29 => k_is)
    (case k29 => k_is)
    (case a30 => k_is)
    (case l30 => k_is)
    (case c30 => k_is)
    (case k30 => k_is)
    (case a31 => k_is)
    (case l31 => k_is)
    (case c31 => k_is)
    (case k31 => k_is)
    (case a32 => k_is)
    (case l32 => k_is)
    (case c32 => k_is)
    (case k32 => k_is)
    (case z_abs => k_is)
    (case z_bool => k_is)
    (case z_int => k_is)
    (case z_isinstance => k_is)
    (case z_len => k_is)
    (case z_list => k_is)
    (case z_range => k_is)
    (case z_str => k_is)
    (case z_tuple => k_is)
    (case z_zip => k_is)
    (case ya_INFINITE => k_is)
    (case yl_INFINITE => k_is)
