import PyProof.Rows.All
import Wide.All
import OpenK.AllK
import Wide.FinOn
import HandS.ForMost
import KE.KDictKeyed
import KE.SortData
import KE.SortKeyHeap
import KE.KDictSum
import HandS.Small
import HandS.SortKw
import HandS.More
import KE.KEqNest
import HandS.Deep
import HandS.ExcInit
import HandS.WordsExc
import HandS.ExcField
import HandS.FStr
import KE.KExcSuper
import KE.KDictDisplayH
import HandS.Style
import PySem.Challenge.RW_copperline_k77_calls_joined
set_option Elab.async false
set_option linter.all false
set_option maxRecDepth 100000
set_option maxHeartbeats 4000000
/-! Cp1: frozen data and owned cells over the hand layer: Sep G H M (G: what never changes any more, M: what is owned and may change), D (data as a tree), Rep (a value stands for such a tree). -/
namespace Cp
open PySem L2

/-! ### the heap in two parts -/
structure Sep (G H : Hp) (M : List (Addr × HO)) : Prop where
  sub : Same G H
  own : ∀ e ∈ M, H e.1 = some e.2 ∧ G e.1 = none
  nd : (M.map (·.1)).Nodup

theorem Sep.nil {H : Hp} : Sep H H [] := ⟨Same.refl H, (fun _ h => absurd h List.not_mem_nil), List.nodup_nil⟩
theorem Sep.at {G H : Hp} {M : List (Addr × HO)} (S : Sep G H M) {k : Nat} {a : Addr} {o : HO} (h : M[k]? = some (a, o)) : H a = some o :=
  (S.own (a, o) (List.mem_of_getElem? h)).1
theorem Sep.out {G H : Hp} {M : List (Addr × HO)} (S : Sep G H M) {k : Nat} {a : Addr} {o : HO} (h : M[k]? = some (a, o)) : G a = none :=
  (S.own (a, o) (List.mem_of_getElem? h)).2
theorem Sep.drop {G H : Hp} {M : List (Addr × HO)} {e : Addr × HO} (S : Sep G H (e :: M)) : Sep G H M :=
  ⟨S.sub, fun x hx => S.own x (List.mem_cons_of_mem _ hx), (List.nodup_cons.mp S.nd).2⟩
theorem Sep.swap {G H : Hp} {M : List (Addr × HO)} {e f : Addr × HO} (S : Sep G H (e :: f :: M)) : Sep G H (f :: e :: M) := by
  refine ⟨S.sub, fun x hx => S.own x ?_, ?_⟩
  · simp only [List.mem_cons] at hx ⊢
    rcases hx with h | h | h
    · exact .inr (.inl h)
    · exact .inl h
    · exact .inr (.inr h)
  · exact ((List.Perm.swap f e M).map (·.1)).nodup_iff.mp S.nd
theorem Sep.perm {G H : Hp} {M N : List (Addr × HO)} (S : Sep G H M) (p : M.Perm N) : Sep G H N :=
  ⟨S.sub, fun x hx => S.own x (p.mem_iff.mpr hx), (p.map (·.1)).nodup_iff.mp S.nd⟩
theorem perm_pull {α : Type} : ∀ (M : List α) (k : Nat) (e : α), M[k]? = some e → M.Perm (e :: M.eraseIdx k)
  | [], _, _, h => by simp at h
  | x :: M, 0, e, h => by
    have : x = e := by simpa using h
    subst this
    exact List.Perm.refl _
  | x :: M, k + 1, e, h => by
    have h' : M[k]? = some e := by simpa using h
    exact ((perm_pull M k e h').cons x).trans (List.Perm.swap e x _)
theorem Sep.pull {G H : Hp} {M : List (Addr × HO)} (S : Sep G H M) (k : Nat) {e : Addr × HO} (h : M[k]? = some e) : Sep G H (e :: M.eraseIdx k) := S.perm (perm_pull M k e h)
theorem Sep.keep {G H : Hp} {M N : List (Addr × HO)} (S : Sep G H (N ++ M)) : Sep G H M := by
  induction N with
  | nil => exact S
  | cons e N ih => exact ih S.drop

theorem same_tr {H H1 H2 : Hp} (b : Same H1 H2) (a : Same H H1) : Same H H2 := a.trans b
theorem Same.upd {H : Hp} {p : Addr} {o : HO} (h : H p = none) : Same H (upd H p o) := fun b x e => by
  rw [upd_ne (ne_of_none e h)]
  exact e
/-- a new object that is frozen at once -/
theorem Sep.newG {G H : Hp} {M : List (Addr × HO)} (S : Sep G H M) {p : Addr} {o : HO} (h : H p = none) : Sep (upd G p o) (upd H p o) M := by
  refine ⟨fun b x e => ?_, fun e he => ?_, S.nd⟩
  · by_cases q : b = p
    · subst q
      rw [upd_same] at e ⊢
      exact e
    · rw [upd_ne q] at e ⊢
      exact S.sub b x e
  · have h1 := S.own e he
    have q : e.1 ≠ p := ne_of_none h1.1 h
    rw [upd_ne q, upd_ne q]
    exact h1
theorem Sep.freshG {G H : Hp} {M : List (Addr × HO)} (S : Sep G H M) {p : Addr} (h : H p = none) : G p = none := S.sub.free h
/-- a new object that is owned -/
theorem Sep.newM {G H : Hp} {M : List (Addr × HO)} (S : Sep G H M) {p : Addr} {o : HO} (h : H p = none) : Sep G (upd H p o) ((p, o) :: M) := by
  refine ⟨S.sub.trans (Same.upd h), fun e he => ?_, ?_⟩
  · rcases List.mem_cons.mp he with rfl | he
    · exact ⟨upd_same, S.freshG h⟩
    · have h1 := S.own e he
      rw [upd_ne (ne_of_none h1.1 h)]
      exact h1
  · rw [List.map_cons]
    refine List.nodup_cons.mpr ⟨fun hm => ?_, S.nd⟩
    obtain ⟨e, he, q⟩ := List.mem_map.mp hm
    have h1 := (S.own e he).1
    rw [q, h] at h1
    cases h1
/-- an owned object at the head is frozen -/
theorem Sep.freeze {G H : Hp} {M : List (Addr × HO)} {p : Addr} {o : HO} (S : Sep G H ((p, o) :: M)) : Sep (upd G p o) H M ∧ Same G (upd G p o) := by
  have h0 := S.own (p, o) (List.mem_cons_self ..)
  refine ⟨⟨fun b x e => ?_, fun e he => ?_, (List.nodup_cons.mp S.nd).2⟩, Same.upd h0.2⟩
  · by_cases q : b = p
    · subst q
      rw [upd_same] at e
      rw [← e]
      exact h0.1
    · rw [upd_ne q] at e
      exact S.sub b x e
  · have h1 := S.own e (List.mem_cons_of_mem _ he)
    have q : e.1 ≠ p := fun z => (List.nodup_cons.mp S.nd).1 (by
      show p ∈ _
      rw [← z]
      exact List.mem_map.mpr ⟨e, he, rfl⟩)
    rw [upd_ne q]
    exact h1
/-- the k-th owned object changes -/
theorem Sep.set {G H : Hp} : ∀ {M : List (Addr × HO)} (S : Sep G H M) {k : Nat} {a : Addr} {o : HO} (o' : HO), M[k]? = some (a, o) → Sep G (upd H a o') (M.set k (a, o')) := by
  intro M S k a o o' h
  have hk : k < M.length := (List.getElem?_eq_some_iff.mp h).1
  have hg := S.out h
  have hmap : (M.set k (a, o')).map (·.1) = M.map (·.1) := by
    rw [List.map_set]
    show (M.map (·.1)).set k a = _
    have : (M.map (·.1))[k]? = some a := by rw [List.getElem?_map, h]; rfl
    obtain ⟨hk2, e⟩ := List.getElem?_eq_some_iff.mp this
    rw [← e]
    exact List.set_getElem_self hk2
  refine ⟨fun b x e => ?_, fun e he => ?_, by rw [hmap]; exact S.nd⟩
  · have q : b ≠ a := fun z => by rw [z, hg] at e; cases e
    rw [upd_ne q]
    exact S.sub b x e
  · obtain ⟨j, hj, hje⟩ := List.mem_iff_getElem.mp he
    rw [List.length_set] at hj
    by_cases q : j = k
    · subst q
      rw [List.getElem_set_self] at hje
      subst hje
      exact ⟨upd_same, hg⟩
    · rw [List.getElem_set_ne (fun z => q z.symm)] at hje
      have hm : e ∈ M := hje ▸ List.getElem_mem hj
      have h1 := S.own e hm
      have hne : e.1 ≠ a := fun z => by
        have e1 : (M.map (·.1))[j]? = some a := by
          rw [List.getElem?_map, List.getElem?_eq_getElem hj, hje, ← z]; rfl
        have e2 : (M.map (·.1))[k]? = some a := by rw [List.getElem?_map, h]; rfl
        have hjl : j < (M.map (·.1)).length := by rw [List.length_map]; exact hj
        exact q ((List.getElem?_inj hjl S.nd).mp (e1.trans e2.symm))
      rw [upd_ne hne]
      exact h1

/-! ### data as trees -/
inductive D where
  | non | bl (b : Bool) | int (i : Int) | str (x : Str)
  | lst (ds : List D) | tup (ds : List D)
  | ins (c : Nat) (ns : List Str) (ds : List D)
  /-- the object at an address, whatever it holds -/
  | loc (a : Addr)
  /-- a dict that is never changed: its keys, what stands there -/
  | dic (ks : List Key) (ds : List D)

def D.isNon : D → Bool
  | .non => true
  | _ => false
section
variable (K : PySem.W.Frag) (cl : Nat → Addr)
mutual
def Rep (G : Hp) : V → D → Prop
  | x, .non => x = .non
  | x, .bl b => x = .bl b
  | x, .int i => x = .int i
  | x, .str s => x = .str s
  | x, .lst ds => ∃ a vs, x = .ref a ∧ SqL K G a vs ∧ Reps G vs ds
  | x, .tup ds => ∃ a vs, x = .ref a ∧ SqT K G a vs ∧ Reps G vs ds
  | x, .ins c ns ds => ∃ a dx vs, x = .ref a ∧ G a = some (.ins (cl c) dx (ns.zip vs)) ∧ ns.length = vs.length ∧ Reps G vs ds
  | x, .loc a => x = .ref a
  | x, .dic ks ds => ∃ a kws, x = .ref a ∧ G a = some (.dK kws) ∧ kws.map (·.1) = ks ∧ Reps G (kws.map (·.2)) ds
def Reps (G : Hp) : List V → List D → Prop
  | vs, [] => vs = []
  | vs, d :: ds => ∃ v ws, vs = v :: ws ∧ Rep G v d ∧ Reps G ws ds
end
end
section
variable {K : PySem.W.Frag} {cl : Nat → Addr} {G G' : Hp}
theorem Same.seqT {K : PySem.W.Frag} {H H' : Hp} {a : Addr} {xs : List V} (e : Same H H') (h : SqT K H a xs) : SqT K H' a xs := by
  rcases h with (h | ⟨o, h⟩) | h
  · exact .inl (.inl (e _ _ h))
  · exact .inl (.inr ⟨o, e _ _ h⟩)
  · exact .inr h
mutual
theorem Rep.mono (s : Same G G') : ∀ {x : V} {d : D}, Rep K cl G x d → Rep K cl G' x d
  | _, .non, h => by simp only [Rep] at h ⊢; exact h
  | _, .bl _, h => by simp only [Rep] at h ⊢; exact h
  | _, .int _, h => by simp only [Rep] at h ⊢; exact h
  | _, .str _, h => by simp only [Rep] at h ⊢; exact h
  | _, .loc _, h => by simp only [Rep] at h ⊢; exact h
  | _, .dic ks ds, h => by
    simp only [Rep] at h ⊢
    obtain ⟨a, kws, e, q, l, r⟩ := h
    exact ⟨a, kws, e, s _ _ q, l, Reps.mono s r⟩
  | _, .lst ds, h => by
    simp only [Rep] at h ⊢
    obtain ⟨a, vs, e, q, r⟩ := h
    exact ⟨a, vs, e, s.seq q, Reps.mono s r⟩
  | _, .tup ds, h => by
    simp only [Rep] at h ⊢
    obtain ⟨a, vs, e, q, r⟩ := h
    exact ⟨a, vs, e, Same.seqT s q, Reps.mono s r⟩
  | _, .ins c ns ds, h => by
    simp only [Rep] at h ⊢
    obtain ⟨a, dx, vs, e, q, l, r⟩ := h
    exact ⟨a, dx, vs, e, s _ _ q, l, Reps.mono s r⟩
theorem Reps.mono (s : Same G G') : ∀ {vs : List V} {ds : List D}, Reps K cl G vs ds → Reps K cl G' vs ds
  | _, [], h => by simp only [Reps] at h ⊢; exact h
  | _, d :: ds, h => by
    simp only [Reps] at h ⊢
    obtain ⟨v, ws, e, q, r⟩ := h
    exact ⟨v, ws, e, Rep.mono s q, Reps.mono s r⟩
end
theorem Reps.nil : Reps K cl G [] [] := by simp only [Reps]
theorem Reps.cons {v : V} {vs : List V} {d : D} {ds : List D} (h : Rep K cl G v d) (t : Reps K cl G vs ds) : Reps K cl G (v :: vs) (d :: ds) := by
  simp only [Reps]
  exact ⟨v, vs, rfl, h, t⟩
theorem Reps.uncons {vs : List V} {d : D} {ds : List D} (h : Reps K cl G vs (d :: ds)) : ∃ v ws, vs = v :: ws ∧ Rep K cl G v d ∧ Reps K cl G ws ds := by
  simp only [Reps] at h
  exact h
theorem Reps.length : ∀ {vs : List V} {ds : List D}, Reps K cl G vs ds → vs.length = ds.length
  | _, [], h => by simp only [Reps] at h; rw [h]; rfl
  | _, d :: ds, h => by
    obtain ⟨v, ws, rfl, _, r⟩ := h.uncons
    rw [List.length_cons, List.length_cons, r.length]
theorem Reps.get : ∀ {vs : List V} {ds : List D} {i : Nat} {v : V}, Reps K cl G vs ds → vs[i]? = some v → ∃ d, ds[i]? = some d ∧ Rep K cl G v d
  | vs, [], i, v, h, e => by simp only [Reps] at h; rw [h] at e; simp at e
  | vs, d :: ds, 0, v, h, e => by
    obtain ⟨w, ws, rfl, q, r⟩ := h.uncons
    have : w = v := by simpa using e
    exact ⟨d, rfl, this ▸ q⟩
  | vs, d :: ds, i + 1, v, h, e => by
    obtain ⟨w, ws, rfl, q, r⟩ := h.uncons
    obtain ⟨d', e', q'⟩ := r.get (i := i) (v := v) (by simpa using e)
    exact ⟨d', by simpa using e', q'⟩
theorem Reps.getD : ∀ {vs : List V} {ds : List D} {i : Nat} {d : D}, Reps K cl G vs ds → ds[i]? = some d → ∃ v, vs[i]? = some v ∧ Rep K cl G v d
  | vs, [], i, d, h, e => by simp at e
  | vs, c :: ds, 0, d, h, e => by
    obtain ⟨w, ws, rfl, q, r⟩ := h.uncons
    have : c = d := by simpa using e
    exact ⟨w, rfl, this ▸ q⟩
  | vs, c :: ds, i + 1, d, h, e => by
    obtain ⟨w, ws, rfl, q, r⟩ := h.uncons
    obtain ⟨v', e', q'⟩ := r.getD (i := i) (d := d) (by simpa using e)
    exact ⟨v', by simpa using e', q'⟩
theorem Reps.append : ∀ {vs : List V} {ds : List D} {us : List V} {es : List D}, Reps K cl G vs ds → Reps K cl G us es → Reps K cl G (vs ++ us) (ds ++ es)
  | vs, [], us, es, h, t => by
    simp only [Reps] at h
    rw [h]
    exact t
  | vs, d :: ds, us, es, h, t => by
    obtain ⟨w, ws, rfl, q, r⟩ := h.uncons
    exact Reps.cons q (r.append t)
theorem Reps.one {v : V} {d : D} (h : Rep K cl G v d) : Reps K cl G [v] [d] := Reps.cons h Reps.nil
theorem Reps.take : ∀ {vs : List V} {ds : List D} (n : Nat), Reps K cl G vs ds → Reps K cl G (vs.take n) (ds.take n)
  | _, _, 0, _ => Reps.nil
  | vs, [], n + 1, h => by
    simp only [Reps] at h
    rw [h]
    exact Reps.nil
  | vs, d :: ds, n + 1, h => by
    obtain ⟨w, ws, rfl, q, r⟩ := h.uncons
    exact Reps.cons q (r.take n)
theorem Reps.drop : ∀ {vs : List V} {ds : List D} (n : Nat), Reps K cl G vs ds → Reps K cl G (vs.drop n) (ds.drop n)
  | _, _, 0, h => h
  | vs, [], n + 1, h => by
    simp only [Reps] at h
    rw [h]
    exact Reps.nil
  | vs, d :: ds, n + 1, h => by
    obtain ⟨w, ws, rfl, q, r⟩ := h.uncons
    exact r.drop n
theorem Reps.set : ∀ {vs : List V} {ds : List D} (n : Nat) {v : V} {d : D}, Reps K cl G vs ds → Rep K cl G v d → Reps K cl G (vs.set n v) (ds.set n d)
  | vs, [], n, v, d, h, q => by
    simp only [Reps] at h
    rw [h]
    exact Reps.nil
  | vs, c :: ds, 0, v, d, h, q => by
    obtain ⟨w, ws, rfl, q', r⟩ := h.uncons
    exact Reps.cons q r
  | vs, c :: ds, n + 1, v, d, h, q => by
    obtain ⟨w, ws, rfl, q', r⟩ := h.uncons
    exact Reps.cons q' (r.set n q)
theorem Reps.map {α : Type} {f : α → V} {g : α → D} : ∀ {xs : List α}, (∀ x ∈ xs, Rep K cl G (f x) (g x)) → Reps K cl G (xs.map f) (xs.map g)
  | [], _ => Reps.nil
  | x :: xs, h => Reps.cons (h x (List.mem_cons_self ..)) (Reps.map fun y hy => h y (List.mem_cons_of_mem _ hy))
theorem Reps.ints {xs : List Int} : Reps K cl G (xs.map V.int) (xs.map D.int) := Reps.map fun x _ => by simp only [Rep]

theorem Rep.non : Rep K cl G .non .non := by simp only [Rep]
theorem Rep.bl {b : Bool} : Rep K cl G (.bl b) (.bl b) := by simp only [Rep]
theorem Rep.int {i : Int} : Rep K cl G (.int i) (.int i) := by simp only [Rep]
theorem Rep.str {x : Str} : Rep K cl G (.str x) (.str x) := by simp only [Rep]
theorem Rep.tup {a : Addr} {vs : List V} {ds : List D} (h : SqT K G a vs) (r : Reps K cl G vs ds) : Rep K cl G (.ref a) (.tup ds) := by
  simp only [Rep]
  exact ⟨a, vs, rfl, h, r⟩
theorem Rep.lst {a : Addr} {vs : List V} {ds : List D} (h : SqL K G a vs) (r : Reps K cl G vs ds) : Rep K cl G (.ref a) (.lst ds) := by
  simp only [Rep]
  exact ⟨a, vs, rfl, h, r⟩
theorem Rep.ins {a dx : Addr} {c : Nat} {ns : List Str} {vs : List V} {ds : List D} (h : G a = some (.ins (cl c) dx (ns.zip vs))) (l : ns.length = vs.length) (r : Reps K cl G vs ds) : Rep K cl G (.ref a) (.ins c ns ds) := by
  simp only [Rep]
  exact ⟨a, dx, vs, rfl, h, l, r⟩
theorem Rep.loc {a : Addr} : Rep K cl G (.ref a) (.loc a) := by simp only [Rep]
theorem Rep.dic {a : Addr} {kws : List (Key × V)} {ks : List Key} {ds : List D} (h : G a = some (.dK kws)) (l : kws.map (·.1) = ks) (r : Reps K cl G (kws.map (·.2)) ds) : Rep K cl G (.ref a) (.dic ks ds) := by
  simp only [Rep]
  exact ⟨a, kws, rfl, h, l, r⟩
theorem Rep.of_dic {x : V} {ks : List Key} {ds : List D} (h : Rep K cl G x (.dic ks ds)) : ∃ a kws, x = .ref a ∧ G a = some (.dK kws) ∧ kws.map (·.1) = ks ∧ Reps K cl G (kws.map (·.2)) ds := by simpa only [Rep] using h
theorem Rep.of_loc {x : V} {a : Addr} (h : Rep K cl G x (.loc a)) : x = .ref a := by simpa only [Rep] using h
theorem Rep.of_non {x : V} (h : Rep K cl G x .non) : x = .non := by simpa only [Rep] using h
theorem Rep.of_bl {x : V} {b : Bool} (h : Rep K cl G x (.bl b)) : x = .bl b := by simpa only [Rep] using h
theorem Rep.of_int {x : V} {i : Int} (h : Rep K cl G x (.int i)) : x = .int i := by simpa only [Rep] using h
theorem Rep.of_str {x : V} {s : Str} (h : Rep K cl G x (.str s)) : x = .str s := by simpa only [Rep] using h
theorem Rep.of_tup {x : V} {ds : List D} (h : Rep K cl G x (.tup ds)) : ∃ a vs, x = .ref a ∧ SqT K G a vs ∧ Reps K cl G vs ds := by simpa only [Rep] using h
theorem Rep.of_lst {x : V} {ds : List D} (h : Rep K cl G x (.lst ds)) : ∃ a vs, x = .ref a ∧ SqL K G a vs ∧ Reps K cl G vs ds := by simpa only [Rep] using h
theorem Rep.of_ins {x : V} {c : Nat} {ns : List Str} {ds : List D} (h : Rep K cl G x (.ins c ns ds)) : ∃ a dx vs, x = .ref a ∧ G a = some (.ins (cl c) dx (ns.zip vs)) ∧ ns.length = vs.length ∧ Reps K cl G vs ds := by simpa only [Rep] using h
/-- None is told from all else -/
theorem Rep.isNon {x : V} {d : D} (h : Rep K cl G x d) : decide (x = .non) = d.isNon := by
  cases d with
  | non => rw [h.of_non]; rfl
  | bl b => rw [h.of_bl]; rfl
  | int i => rw [h.of_int]; rfl
  | str s => rw [h.of_str]; rfl
  | loc a => rw [h.of_loc]; rfl
  | dic ks ds => obtain ⟨a, kws, rfl, _⟩ := h.of_dic; rfl
  | lst ds => obtain ⟨a, vs, rfl, _⟩ := h.of_lst; rfl
  | tup ds => obtain ⟨a, vs, rfl, _⟩ := h.of_tup; rfl
  | ins c ns ds => obtain ⟨a, dx, vs, rfl, _⟩ := h.of_ins; rfl

/-! ### data that are compared -/
def D.py : D → PyData
  | .non => .none
  | .bl b => .bool b
  | .int i => .int i
  | .str s => .str s
  | .lst ds => .list (ds.map D.py)
  | .tup ds => .tuple (ds.map D.py)
  | .ins _ _ _ => .none
  | .loc _ => .none
  | .dic _ _ => .none
end
end Cp
/-! Cp2: what an expression evaluates to, as data: EvX p te σ G M d M' (p: nothing changes), EvT, EvA; what statements do: s_*. -/
namespace Cp
open PySem L2

abbrev ML := List (Addr × HO)
/-- (a, o) stands in M -/
inductive At : ML → Addr → HO → Prop where
  | hd {a : Addr} {o : HO} {M : ML} : At ((a, o) :: M) a o
  | tl {a : Addr} {o : HO} {e : Addr × HO} {M : ML} : At M a o → At (e :: M) a o
/-- the same with another object there -/
inductive Ch : ML → Addr → HO → HO → ML → Prop where
  | hd {a : Addr} {o o' : HO} {M : ML} : Ch ((a, o) :: M) a o o' ((a, o') :: M)
  | tl {a : Addr} {o o' : HO} {e : Addr × HO} {M M' : ML} : Ch M a o o' M' → Ch (e :: M) a o o' (e :: M')
theorem At.ix {M : ML} {a : Addr} {o : HO} (h : At M a o) : ∃ k : Nat, M[k]? = some (a, o) := by
  induction h with
  | hd => exact ⟨0, rfl⟩
  | tl _ ih =>
    obtain ⟨k, e⟩ := ih
    exact ⟨k + 1, by simpa using e⟩
theorem Ch.ix {M M' : ML} {a : Addr} {o o' : HO} (h : Ch M a o o' M') : ∃ k : Nat, M[k]? = some (a, o) ∧ M' = M.set k (a, o') := by
  induction h with
  | hd => exact ⟨0, rfl, rfl⟩
  | tl _ ih =>
    obtain ⟨k, e, r⟩ := ih
    exact ⟨k + 1, by simpa using e, by rw [r]; rfl⟩
theorem Ch.at {M M' : ML} {a : Addr} {o o' : HO} (h : Ch M a o o' M') : At M a o := by
  induction h with
  | hd => exact .hd
  | tl _ ih => exact .tl ih
theorem At.ch {M : ML} {a : Addr} {o : HO} (h : At M a o) (o' : HO) : ∃ M', Ch M a o o' M' := by
  induction h with
  | hd => exact ⟨_, .hd⟩
  | tl _ ih => obtain ⟨M', c⟩ := ih; exact ⟨_, .tl c⟩
theorem Sep.look {G H : Hp} {M : ML} {a : Addr} {o : HO} (S : Sep G H M) (h : At M a o) : H a = some o := by
  obtain ⟨k, e⟩ := h.ix
  exact S.at e
theorem Sep.ch {G H : Hp} {M M' : ML} {a : Addr} {o o' : HO} (S : Sep G H M) (h : Ch M a o o' M') : Sep G (upd H a o') M' := by
  obtain ⟨k, e, r⟩ := h.ix
  rw [r]
  exact S.set o' e

section
structure Go (p : Bool) (M M' : ML) (G1 H1 G2 H2 : Hp) : Prop where
  same : Same G1 G2
  sep : Sep G2 H2 M'
  eq : p = true → G2 = G1 ∧ H2 = H1 ∧ M' = M
variable (K : PySem.W.Frag) (cl : Nat → Addr)
def EvX (p : Bool) (te : TE) (σ : St) (G : Hp) (M : ML) (d : D) (M' : ML) : Prop :=
  ∀ G1 H1, Same G G1 → Sep G1 H1 M → ∀ Q : VK, (∀ v G2 H2, Go p M M' G1 H1 G2 H2 → Rep K cl G2 v d → Q v H2) → te σ H1 Q
def EvT (_K : PySem.W.Frag) (_cl : Nat → Addr) (p : Bool) (tt : TT) (σ : St) (G : Hp) (M : ML) (b : Bool) (M' : ML) : Prop :=
  ∀ G1 H1, Same G G1 → Sep G1 H1 M → ∀ Q : Bool → Hp → Prop, (∀ G2 H2, Go p M M' G1 H1 G2 H2 → Q b H2) → tt σ H1 Q
def EvA (p : Bool) (ta : TA) (σ : St) (G : Hp) (M : ML) (ds : List D) (M' : ML) : Prop :=
  ∀ G1 H1, Same G G1 → Sep G1 H1 M → ∀ Q : List V → Hp → Prop, (∀ vs G2 H2, Go p M M' G1 H1 G2 H2 → Reps K cl G2 vs ds → Q vs H2) → ta σ H1 Q
/-- with any word of what comes out -/
def EvG (te : TE) (σ : St) (G : Hp) (M : ML) (F : V → Hp → ML → Prop) : Prop :=
  ∀ G1 H1, Same G G1 → Sep G1 H1 M → ∀ Q : VK, (∀ v G2 H2 M2, Same G1 G2 → Sep G2 H2 M2 → F v G2 M2 → Q v H2) → te σ H1 Q
/-- an operation on two data (M as it is) -/
def Op2 (p : Bool) (r : R2) (M : ML) (x y z : D) : Prop :=
  ∀ G1 H1, Sep G1 H1 M → ∀ u v, Rep K cl G1 u x → Rep K cl G1 v y → ∀ Q : VK, (∀ w G2 H2, Go p M M G1 H1 G2 H2 → Rep K cl G2 w z → Q w H2) → r u v H1 Q
def Op1 (p : Bool) (r : V → Hp → VK → Prop) (M : ML) (x z : D) : Prop :=
  ∀ G1 H1, Sep G1 H1 M → ∀ u, Rep K cl G1 u x → ∀ Q : VK, (∀ w G2 H2, Go p M M G1 H1 G2 H2 → Rep K cl G2 w z → Q w H2) → r u H1 Q
def OpN (p : Bool) (r : List V → Hp → VK → Prop) (M : ML) (xs : List D) (z : D) (M' : ML) : Prop :=
  ∀ G1 H1, Sep G1 H1 M → ∀ us, Reps K cl G1 us xs → ∀ Q : VK, (∀ w G2 H2, Go p M M' G1 H1 G2 H2 → Rep K cl G2 w z → Q w H2) → r us H1 Q
end
section
variable {K : PySem.W.Frag} {cl : Nat → Addr} {p q r : Bool} {M M1 M2 M3 M4 : ML} {G G1 G2 G3 H H1 H2 H3 : Hp} {σ : St} {ta tb te : TE} {tx : TA} {tt tu : TT} {d d1 d2 d3 : D} {ds : List D}

theorem Go.refl (S : Sep G H M) : Go true M M G H G H := ⟨Same.refl _, S, fun _ => ⟨rfl, rfl, rfl⟩⟩
theorem Go.trans (a : Go p M1 M2 G1 H1 G2 H2) (b : Go q M2 M3 G2 H2 G3 H3) : Go (p && q) M1 M3 G1 H1 G3 H3 :=
  ⟨a.same.trans b.same, b.sep, fun h => by
    obtain ⟨h1, h2⟩ := Bool.and_eq_true_iff.mp h
    obtain ⟨rfl, rfl, rfl⟩ := a.eq h1
    exact b.eq h2⟩
theorem Go.weak (a : Go p M1 M2 G1 H1 G2 H2) : Go false M1 M2 G1 H1 G2 H2 := ⟨a.same, a.sep, fun h => nomatch h⟩
theorem Go.of (s : Same G1 G2) (S : Sep G2 H2 M2) : Go false M1 M2 G1 H1 G2 H2 := ⟨s, S, fun h => nomatch h⟩

/-! ### expressions -/
theorem ev_var {i : Nat} {v : V} (h : σ[i]? = some (some v)) (hr : Rep K cl G v d) : EvX K cl true (tVar i) σ G M d M := fun G1 H1 s S Q k => ⟨v, h, k v G1 H1 (Go.refl S) (hr.mono s)⟩
theorem ev_int {i : Int} : EvX K cl true (tC (.int i)) σ G M (.int i) M := fun G1 H1 s S Q k => k _ G1 H1 (Go.refl S) Rep.int
theorem ev_str {x : Str} : EvX K cl true (tC (.str x)) σ G M (.str x) M := fun G1 H1 s S Q k => k _ G1 H1 (Go.refl S) Rep.str
theorem ev_bl {b : Bool} : EvX K cl true (tC (.bl b)) σ G M (.bl b) M := fun G1 H1 s S Q k => k _ G1 H1 (Go.refl S) Rep.bl
theorem ev_non : EvX K cl true (tC .non) σ G M .non M := fun G1 H1 s S Q k => k _ G1 H1 (Go.refl S) Rep.non
theorem ev_ref {a : Addr} : EvX K cl true (tC (.ref a)) σ G M (.loc a) M := fun G1 H1 s S Q k => k _ G1 H1 (Go.refl S) Rep.loc
theorem ev_op {rr : R2} (ha : EvX K cl p ta σ G M d1 M1) (hb : EvX K cl q tb σ G M1 d2 M2) (ho : Op2 K cl r rr M2 d1 d2 d3) : EvX K cl (p && q && r) (tOp rr ta tb) σ G M d3 M2 := fun G1 H1 s S Q k =>
  ha G1 H1 s S _ fun x G2 H2 g2 rx => hb G2 H2 (s.trans g2.same) g2.sep _ fun y G3 H3 g3 ry => ho G3 H3 g3.sep x y (rx.mono g3.same) ry Q fun w G4 H4 g4 rw' => k w G4 H4 ((g2.trans g3).trans g4) rw'
theorem ev_un {rr : V → Hp → VK → Prop} (ha : EvX K cl p ta σ G M d1 M1) (ho : Op1 K cl r rr M1 d1 d2) : EvX K cl (p && r) (tUn rr ta) σ G M d2 M1 := fun G1 H1 s S Q k =>
  ha G1 H1 s S _ fun x G2 H2 g2 rx => ho G2 H2 g2.sep x rx Q fun w G4 H4 g4 rw' => k w G4 H4 (g2.trans g4) rw'
theorem ea_nil : EvA K cl true tNil σ G M [] M := fun G1 H1 s S Q k => k [] G1 H1 (Go.refl S) Reps.nil
theorem ea_cons {tr : TA} (ha : EvX K cl p ta σ G M d M1) (hr : EvA K cl q tr σ G M1 ds M2) : EvA K cl (p && q) (tCons ta tr) σ G M (d :: ds) M2 := fun G1 H1 s S Q k =>
  ha G1 H1 s S _ fun x G2 H2 g2 rx => hr G2 H2 (s.trans g2.same) g2.sep _ fun xs G3 H3 g3 rxs => k _ G3 H3 (g2.trans g3) (Reps.cons (rx.mono g3.same) rxs)
theorem ev_cb {rr : List V → Hp → VK → Prop} (ha : EvA K cl p tx σ G M ds M1) (ho : OpN K cl q rr M1 ds d M2) : EvX K cl (p && q) (tCB rr tx) σ G M d M2 := fun G1 H1 s S Q k =>
  ha G1 H1 s S _ fun xs G2 H2 g2 rx => ho G2 H2 g2.sep xs rx Q fun w G4 H4 g4 rw' => k w G4 H4 (g2.trans g4) rw'
/-- a field of frozen data -/
theorem zip_lookup {K : PySem.W.Frag} {cl : Nat → Addr} {G : Hp} {f : Str} {d : D} : ∀ {ns : List Str} {vs : List V} {ds : List D}, Reps K cl G vs ds → (ns.zip ds).lookup f = some d → ∃ v, (ns.zip vs).lookup f = some v ∧ Rep K cl G v d
  | [], vs, ds, _, h => by simp at h
  | n :: ns, vs, [], _, h => by simp at h
  | n :: ns, vs, c :: ds, r, h => by
    obtain ⟨v, ws, rfl, rv, rr⟩ := r.uncons
    rw [List.zip_cons_cons, List.lookup_cons] at h
    rw [List.zip_cons_cons, List.lookup_cons]
    by_cases e : (f == n) = true
    · rw [e] at h ⊢
      cases h
      exact ⟨v, rfl, rv⟩
    · have e' : (f == n) = false := by simpa using e
      rw [e'] at h ⊢
      exact zip_lookup rr h
theorem ev_fld {c : Nat} {ns : List Str} {f : Str} (ha : EvX K cl p ta σ G M (.ins c ns ds) M1) (hc : Cls K (cl c)) (hn : NoAttr K (cl c) f) (hl : (ns.zip ds).lookup f = some d) : EvX K cl p (tFld K ta f) σ G M d M1 := fun G1 H1 s S Q k =>
  ha G1 H1 s S _ fun x G2 H2 g2 rx => by
    obtain ⟨a, dx, vs, e, ea, l, rs⟩ := rx.of_ins
    obtain ⟨v, lv, rv⟩ := zip_lookup rs hl
    exact ⟨a, cl c, dx, _, v, e, g2.sep.sub _ _ ea, hc, hn, lv, k v G2 H2 g2 rv⟩
/-- a field of an owned instance -/
theorem ev_fldM {a C dx : Addr} {fs : List (Str × V)} {f : Str} {v : V} (ha : EvX K cl p ta σ G M (.loc a) M1) (hm : At M1 a (.ins C dx fs)) (hc : Cls K C) (hn : NoAttr K C f) (hl : fs.lookup f = some v) (hv : Rep K cl G v d) : EvX K cl p (tFld K ta f) σ G M d M1 := fun G1 H1 s S Q k =>
  ha G1 H1 s S _ fun x G2 H2 g2 rx => ⟨a, C, dx, fs, v, rx.of_loc, g2.sep.look hm, hc, hn, hl, k v G2 H2 g2 (hv.mono (s.trans g2.same))⟩
/-- a tuple; a list that is never changed -/
theorem ev_tup (ha : EvA K cl p tx σ G M ds M1) (hl : ds.length ≤ 100000) : EvX K cl false (tTup tx) σ G M (.tup ds) M1 := fun G1 H1 s S Q k =>
  ha G1 H1 s S _ fun xs G2 H2 g2 rx => ⟨by rw [rx.length]; exact Nat.le_trans hl (by decide), fun u hu => by
    have n := g2.sep.freshG hu
    have S' := g2.sep.newG (o := .tup xs) hu
    exact k (.ref u) _ _ (Go.of (g2.same.trans (Same.upd n)) S') (Rep.tup (.inl (.inl upd_same)) (rx.mono (Same.upd n)))⟩
theorem ev_lst (ha : EvA K cl p tx σ G M ds M1) (hl : ds.length ≤ 100000) : EvX K cl false (tLst tx) σ G M (.lst ds) M1 := fun G1 H1 s S Q k =>
  ha G1 H1 s S _ fun xs G2 H2 g2 rx => ⟨by rw [rx.length]; exact Nat.le_trans hl (by decide), fun u hu => by
    have n := g2.sep.freshG hu
    have S' := g2.sep.newG (o := .lst xs) hu
    exact k (.ref u) _ _ (Go.of (g2.same.trans (Same.upd n)) S') (Rep.lst (.inl (.inl upd_same)) (rx.mono (Same.upd n)))⟩
/-- a new list that is owned -/
theorem eg_lst {F : V → Hp → ML → Prop} (ha : EvA K cl p tx σ G M ds M1) (hl : ds.length ≤ 100000) (hF : ∀ u vs G', Same G G' → Reps K cl G' vs ds → F (.ref u) G' ((u, .lst vs) :: M1)) : EvG (tLst tx) σ G M F := fun G1 H1 s S Q k =>
  ha G1 H1 s S _ fun xs G2 H2 g2 rx => ⟨by rw [rx.length]; exact Nat.le_trans hl (by decide), fun u hu =>
    k (.ref u) G2 _ _ g2.same (g2.sep.newM hu) (hF u xs G2 (s.trans g2.same) rx)⟩
theorem EvX.g {F : V → Hp → ML → Prop} (h : EvX K cl p te σ G M d M1) (hF : ∀ v G', Same G G' → Rep K cl G' v d → F v G' M1) : EvG te σ G M F := fun G1 H1 s S Q k =>
  h G1 H1 s S Q fun v G2 H2 g2 rv => k v G2 H2 M1 g2.same g2.sep (hF v G2 (s.trans g2.same) rv)
theorem EvX.mono (s : Same G G1) (h : EvX K cl p te σ G M d M1) : EvX K cl p te σ G1 M d M1 := fun G2 H2 s2 S Q k => h G2 H2 (s.trans s2) S Q k
theorem EvX.is {e : D} (h : EvX K cl p te σ G M d M1) (hd : d = e) : EvX K cl p te σ G M e M1 := hd ▸ h
theorem EvT.is {b c : Bool} (h : EvT K cl p tt σ G M b M1) (hd : b = c) : EvT K cl p tt σ G M c M1 := hd ▸ h

/-! ### tests -/
theorem et_test {b : Bool} (h : EvX K cl p te σ G M (.bl b) M1) : EvT K cl p (tTest te) σ G M b M1 := fun G1 H1 s S Q k => h G1 H1 s S _ fun x G2 H2 g2 rx => ⟨b, rx.of_bl, k G2 H2 g2⟩
theorem et_B {b : Bool} (h : EvX K cl p te σ G M (.bl b) M1) : EvT K cl p (tB te) σ G M b M1 := fun G1 H1 s S Q k => h G1 H1 s S _ fun x G2 H2 g2 rx => ⟨b, rx.of_bl, k G2 H2 g2⟩
theorem et_not {b : Bool} (h : EvT K cl p tt σ G M b M1) : EvT K cl p (tNot tt) σ G M (!b) M1 := fun G1 H1 s S Q k => h G1 H1 s S _ fun G2 H2 g2 => k G2 H2 g2
theorem et_and {a b : Bool} (h1 : EvT K cl p tt σ G M a M) (h2 : a = true → EvT K cl q tu σ G M b M) : EvT K cl (p && q) (tAnd tt tu) σ G M (a && b) M := fun G1 H1 s S Q k => h1 G1 H1 s S _ fun G2 H2 g2 => by
  cases a with
  | true =>
    show tu σ H2 Q
    exact h2 rfl G2 H2 (s.trans g2.same) g2.sep Q fun G3 H3 g3 => k G3 H3 (g2.trans g3)
  | false =>
    show Q false H2
    exact k G2 H2 ⟨g2.same, g2.sep, fun h => g2.eq (Bool.and_eq_true_iff.mp h).1⟩
theorem et_or {a b : Bool} (h1 : EvT K cl p tt σ G M a M) (h2 : a = false → EvT K cl q tu σ G M b M) : EvT K cl (p && q) (tOr tt tu) σ G M (a || b) M := fun G1 H1 s S Q k => h1 G1 H1 s S _ fun G2 H2 g2 => by
  cases a with
  | false =>
    show tu σ H2 Q
    exact h2 rfl G2 H2 (s.trans g2.same) g2.sep Q fun G3 H3 g3 => k G3 H3 (g2.trans g3)
  | true =>
    show Q true H2
    exact k G2 H2 ⟨g2.same, g2.sep, fun h => g2.eq (Bool.and_eq_true_iff.mp h).1⟩
theorem ev_andV {a b : Bool} (h1 : EvX K cl p ta σ G M (.bl a) M) (h2 : a = true → EvX K cl q tb σ G M (.bl b) M) : EvX K cl (p && q) (tAndV ta tb) σ G M (.bl (a && b)) M := fun G1 H1 s S Q k => h1 G1 H1 s S _ fun x G2 H2 g2 rx => ⟨a, rx.of_bl, by
  cases a with
  | true =>
    show tb σ H2 Q
    exact h2 rfl G2 H2 (s.trans g2.same) g2.sep Q fun v G3 H3 g3 rv => k v G3 H3 (g2.trans g3) rv
  | false =>
    show Q (.bl false) H2
    exact k _ G2 H2 ⟨g2.same, g2.sep, fun h => g2.eq (Bool.and_eq_true_iff.mp h).1⟩ Rep.bl⟩
theorem ev_orV {a b : Bool} (h1 : EvX K cl p ta σ G M (.bl a) M) (h2 : a = false → EvX K cl q tb σ G M (.bl b) M) : EvX K cl (p && q) (tOrV ta tb) σ G M (.bl (a || b)) M := fun G1 H1 s S Q k => h1 G1 H1 s S _ fun x G2 H2 g2 rx => ⟨a, rx.of_bl, by
  cases a with
  | false =>
    show tb σ H2 Q
    exact h2 rfl G2 H2 (s.trans g2.same) g2.sep Q fun v G3 H3 g3 rv => k v G3 H3 (g2.trans g3) rv
  | true =>
    show Q (.bl true) H2
    exact k _ G2 H2 ⟨g2.same, g2.sep, fun h => g2.eq (Bool.and_eq_true_iff.mp h).1⟩ Rep.bl⟩
theorem ev_notV {a : Bool} (h1 : EvX K cl p ta σ G M (.bl a) M1) : EvX K cl p (tNotV ta) σ G M (.bl (!a)) M1 := fun G1 H1 s S Q k => h1 G1 H1 s S _ fun x G2 H2 g2 rx => ⟨a, rx.of_bl, k _ G2 H2 g2 Rep.bl⟩
theorem ev_if {b : Bool} (h : EvT K cl p tt σ G M b M1) (h1 : b = true → EvX K cl q ta σ G M1 d1 M2) (h2 : b = false → EvX K cl q tb σ G M1 d2 M2) : EvX K cl (p && q) (tIf tt ta tb) σ G M (if b then d1 else d2) M2 := fun G1 H1 s S Q k => h G1 H1 s S _ fun G2 H2 g2 => by
  cases b with
  | true =>
    show ta σ H2 Q
    exact h1 rfl G2 H2 (s.trans g2.same) g2.sep Q fun v G3 H3 g3 rv => k v G3 H3 (g2.trans g3) rv
  | false =>
    show tb σ H2 Q
    exact h2 rfl G2 H2 (s.trans g2.same) g2.sep Q fun v G3 H3 g3 rv => k v G3 H3 (g2.trans g3) rv

/-! ### operations -/
theorem op2_val {rr : R2} {x y z : D} (h : ∀ G1 H1, Sep G1 H1 M → ∀ u v, Rep K cl G1 u x → Rep K cl G1 v y → ∃ w, Rep K cl G1 w z ∧ ∀ Q : VK, Q w H1 → rr u v H1 Q) : Op2 K cl true rr M x y z := fun G1 H1 S u v ru rv Q k => by
  obtain ⟨w, rw', hw⟩ := h G1 H1 S u v ru rv
  exact hw Q (k w G1 H1 (Go.refl S) rw')
theorem o_I0 {g : Int → Int → V} {i j : Int} {z : D} (hz : ∀ G, Rep K cl G (g i j) z) : Op2 K cl true (rI0 g) M (.int i) (.int j) z := op2_val fun G1 H1 S u v ru rv => ⟨g i j, hz G1, fun Q q => ⟨i, j, ru.of_int, rv.of_int, q⟩⟩
theorem o_I {C : Int → Int → Prop} {g : Int → Int → V} {i j : Int} {z : D} (hz : ∀ G, Rep K cl G (g i j) z) (hc : C i j) : Op2 K cl true (rI C g) M (.int i) (.int j) z := op2_val fun G1 H1 S u v ru rv => ⟨g i j, hz G1, fun Q q => ⟨i, j, ru.of_int, rv.of_int, hc, q⟩⟩
theorem o1_U {g : Int → V} {i : Int} {z : D} (hz : ∀ G, Rep K cl G (g i) z) : Op1 K cl true (rU g) M (.int i) z := fun G1 H1 S u ru Q k => ⟨i, ru.of_int, k _ G1 H1 (Go.refl S) (hz G1)⟩
/-- one of two rules -/
def orR (a b : R2) : R2 := fun x y H Q => a x y H Q ∨ b x y H Q
theorem o_l {a b : R2} {x y z : D} (h : Op2 K cl p a M x y z) : Op2 K cl p (orR a b) M x y z := fun G1 H1 S u v ru rv Q k => .inl (h G1 H1 S u v ru rv Q k)
theorem o_r {a b : R2} {x y z : D} (h : Op2 K cl p b M x y z) : Op2 K cl p (orR a b) M x y z := fun G1 H1 S u v ru rv Q k => .inr (h G1 H1 S u v ru rv Q k)
theorem op_or {X : Cx} {f : Value → Value → Sem Value} {a b : R2} (h1 : OpR X f a) (h2 : OpR X f b) : OpR X f (orR a b) := fun pins s σ H x y u v Q I rx ry h => h.elim (h1 pins s σ H x y u v Q I rx ry) (h2 pins s σ H x y u v Q I rx ry)

abbrev rAddI : R2 := rI0 fun i j => .int (i + j)
abbrev rAddS : R2 := fun x y H Q => ∃ i j, x = .str i ∧ y = .str j ∧ i.length + j.length ≤ sizeLine ∧ Q (.str (i ++ j)) H
/-- list + list, wherever they stand -/
def rCatA (K : PySem.W.Frag) : R2 := fun x y H Q => ∃ a b xs ys, x = .ref a ∧ y = .ref b ∧ SqL K H a xs ∧ SqL K H b ys ∧ xs.length + ys.length ≤ sizeLine ∧ ∀ l, H l = none → Q (.ref l) (upd H l (.lst (xs ++ ys)))
theorem op_catA {X : Cx} : OpR X (binaryOp .Add) (rCatA X.K) := by
  rintro pins s σ H x y v u Q I rx ry ⟨a, b, xs, ys, rfl, rfl, sa, sb, hz, q⟩
  cases rx
  cases ry
  obtain ⟨is1, r1, ⟨⟨c1, dd1, dt1, sl1⟩, n1, e1, k1, _, t1⟩, z1⟩ := I.list sa
  obtain ⟨is2, r2, ⟨⟨c2, dd2, dt2, sl2⟩, n2, e2, k2, _, t2⟩, z2⟩ := I.list sb
  simp only at k1 t1 k2 t2
  subst k1 t1 k2 t2
  have l1 := r1.length
  have l2 := r2.length
  refine PySem.concat_meets ⟨_, e1, rfl⟩ ⟨_, e2, rfl⟩ PySem.noFill_list_add PySem.seq_list_add PySem.F.slot_list_add PySem.F.entry_list_add (PySem.F.args_list_add_2 _ _) (PyProof.Rows.list_addW a b is1.toArray is2.toArray n1 n2 dd1 dd2 sl1 sl2 (by simp only [List.size_toArray]; omega)) ⟨e1, e2, ?_⟩
  have ee : is1.toArray ++ is2.toArray = (is1 ++ is2).toArray := by simp
  rw [ee]
  exact ⟨.ref _, _, I.lnew (t' := s.toks) (r1.append r2) (by rw [List.length_append]; exact hz), rfl, q _ I.fresh⟩
/-- a + b -/
def rAdd (K : PySem.W.Frag) : R2 := orR rAddI (orR rAddS (orR (rCatA K) (rCatT K)))
theorem op_addA {X : Cx} : OpR X (binaryOp .Add) (rAdd X.K) := op_or op_add (op_or op_add_str (op_or op_catA op_catT))
theorem o_catL {xs ys : List D} (h : xs.length + ys.length ≤ 100000) : Op2 K cl false (rAdd K) M (.lst xs) (.lst ys) (.lst (xs ++ ys)) := fun G1 H1 S u v ru rv Q k => by
  obtain ⟨a, us, rfl, sa, ra⟩ := ru.of_lst
  obtain ⟨b, vs, rfl, sb, rb⟩ := rv.of_lst
  refine .inr (.inr (.inl ⟨a, b, us, vs, rfl, rfl, S.sub.seq sa, S.sub.seq sb, ?_, fun l hl => ?_⟩))
  · rw [ra.length, rb.length]
    exact Nat.le_trans h (by decide)
  · have n := S.freshG hl
    exact k _ _ _ (Go.of (Same.upd n) (S.newG hl)) (Rep.lst (.inl (.inl upd_same)) ((ra.append rb).mono (Same.upd n)))
theorem o_add_int {i j : Int} : Op2 K cl true (rAdd K) M (.int i) (.int j) (.int (i + j)) := o_l (o_I0 fun _ => Rep.int)
theorem o_add_str {x y : Str} (h : x.length + y.length ≤ 100000) : Op2 K cl true (rAdd K) M (.str x) (.str y) (.str (x ++ y)) := o_r (o_l (op2_val fun G1 H1 S u v ru rv => ⟨_, Rep.str, fun Q q => ⟨x, y, ru.of_str, rv.of_str, Nat.le_trans h (by decide), q⟩⟩))
abbrev rSubI : R2 := rI0 fun i j => .int (i - j)
abbrev rMulI : R2 := rI CMul fun i j => .int (i * j)
abbrev rDivI : R2 := rI CDiv fun i j => .int (i / j)
abbrev rModI : R2 := rI (fun _ j => 0 < j) fun i j => .int (i % j)
abbrev rLtI : R2 := rI0 fun i j => .bl (decide (i < j))
abbrev rLeI : R2 := rI0 fun i j => .bl (decide (i ≤ j))
abbrev rGtI : R2 := rI0 fun i j => .bl (decide (j < i))
abbrev rGeI : R2 := rI0 fun i j => .bl (decide (j ≤ i))
abbrev rNegI : V → Hp → VK → Prop := rU fun i => .int (-i)
theorem o1_neg {i : Int} : Op1 K cl true rNegI M (.int i) (.int (-i)) := o1_U fun _ => Rep.int
theorem o_sub {i j : Int} : Op2 K cl true rSubI M (.int i) (.int j) (.int (i - j)) := o_I0 fun _ => Rep.int
theorem o_mul {i j : Int} (h : CMul i j) : Op2 K cl true rMulI M (.int i) (.int j) (.int (i * j)) := o_I (fun _ => Rep.int) h
theorem o_div {i j : Int} (h : CDiv i j) : Op2 K cl true rDivI M (.int i) (.int j) (.int (i / j)) := o_I (fun _ => Rep.int) h
theorem o_mod {i j : Int} (h : 0 < j) : Op2 K cl true rModI M (.int i) (.int j) (.int (i % j)) := o_I (fun _ => Rep.int) h
theorem o_lt {i j : Int} : Op2 K cl true rLtI M (.int i) (.int j) (.bl (decide (i < j))) := o_I0 fun _ => Rep.bl
theorem o_le {i j : Int} : Op2 K cl true rLeI M (.int i) (.int j) (.bl (decide (i ≤ j))) := o_I0 fun _ => Rep.bl
theorem o_gt {i j : Int} : Op2 K cl true rGtI M (.int i) (.int j) (.bl (decide (j < i))) := o_I0 fun _ => Rep.bl
theorem o_ge {i j : Int} : Op2 K cl true rGeI M (.int i) (.int j) (.bl (decide (j ≤ i))) := o_I0 fun _ => Rep.bl
abbrev rIsN : R2 := fun x y H Q => y = .non ∧ Q (.bl (decide (x = .non))) H
abbrev rNotN : R2 := fun x y H Q => y = .non ∧ Q (.bl (!decide (x = .non))) H
theorem o_isN {x : D} : Op2 K cl true rIsN M x .non (.bl x.isNon) := op2_val fun G1 H1 S u v ru rv => ⟨_, Rep.bl, fun Q q => ⟨rv.of_non, by rw [ru.isNon]; exact q⟩⟩
theorem o_notN {x : D} : Op2 K cl true rNotN M x .non (.bl (!x.isNon)) := op2_val fun G1 H1 S u v ru rv => ⟨_, Rep.bl, fun Q q => ⟨rv.of_non, by rw [ru.isNon]; exact q⟩⟩
/-! #### == of scalars -/
def D.scal : D → D → Option Bool
  | .int i, .int j => some (decide (i = j))
  | .str i, .str j => some (decide (i = j))
  | .bl i, .bl j => some (decide (i = j))
  | _, _ => none
theorem scal_rep {G : Hp} {x y : D} {u v : V} {b : Bool} (h : D.scal x y = some b) (ru : Rep K cl G u x) (rv : Rep K cl G v y) : scal u v = true ∧ decide (u = v) = b := by
  cases x <;> cases y <;> first | (simp [D.scal] at h; done) | skip
  · rw [ru.of_bl, rv.of_bl]; refine ⟨rfl, ?_⟩; have := Option.some.inj h; rw [← this]; simp
  · rw [ru.of_int, rv.of_int]; refine ⟨rfl, ?_⟩; have := Option.some.inj h; rw [← this]; simp
  · rw [ru.of_str, rv.of_str]; refine ⟨rfl, ?_⟩; have := Option.some.inj h; rw [← this]; simp
/-- a == b, a != b -/
def rEqA (K : PySem.W.Frag) : R2 := orR rEq (rEqD K)
def rNeA (K : PySem.W.Frag) : R2 := orR rNe (rNeD K)
theorem op_eqA {X : Cx} (hu : X.A.units + 64 < cLine) : OpR X (compareOp .Eq) (rEqA X.K) := op_or op_eq (op_eqD hu)
theorem op_neA {X : Cx} (hu : X.A.units + 64 < cLine) : OpR X (compareOp .NotEq) (rNeA X.K) := op_or op_ne (op_neD hu)
theorem o_eq {x y : D} {b : Bool} (h : D.scal x y = some b) : Op2 K cl true (rEqA K) M x y (.bl b) := o_l (op2_val fun G1 H1 S u v ru rv => ⟨_, Rep.bl, fun Q q => by
  obtain ⟨h1, h2⟩ := scal_rep h ru rv
  exact ⟨h1, by rw [h2]; exact q⟩⟩)
theorem o_ne {x y : D} {b : Bool} (h : D.scal x y = some b) : Op2 K cl true (rNeA K) M x y (.bl (!b)) := o_l (op2_val fun G1 H1 S u v ru rv => ⟨_, Rep.bl, fun Q q => by
  obtain ⟨h1, h2⟩ := scal_rep h ru rv
  exact ⟨h1, by rw [h2]; exact q⟩⟩)
/-! #### items -/
theorem Reps.atI {G : Hp} {vs : List V} {ds : List D} {i : Int} {d : D} (r : Reps K cl G vs ds) (h : atI ds i = some d) : ∃ v, atI vs i = some v ∧ Rep K cl G v d := by
  obtain ⟨j, h1, h2, h3, h4, h5⟩ := atI_get h
  obtain ⟨v, hv, rv⟩ := r.getD h2
  refine ⟨v, ?_, rv⟩
  unfold L2.atI at h ⊢
  rw [r.length]
  cases e : ixN ds.length i with
  | none => rw [e] at h; cases h
  | some k =>
    obtain ⟨e1, _⟩ := ixN_seq e
    rw [h1] at e1
    cases e1
    exact hv
theorem o_ixT {i : Int} (h : atI ds i = some d) : Op2 K cl true (rIx K) M (.tup ds) (.int i) d := op2_val fun G1 H1 S u v ru rv => by
  obtain ⟨a, vs, e, sq, rs⟩ := ru.of_tup
  obtain ⟨w, hw, rw'⟩ := rs.atI h
  exact ⟨w, rw', fun Q q => .inr (.inl ⟨a, vs, i, w, e, rv.of_int, Same.seqT S.sub sq, hw, q⟩)⟩
theorem o_ixL {i : Int} (h : atI ds i = some d) : Op2 K cl true (rIx K) M (.lst ds) (.int i) d := op2_val fun G1 H1 S u v ru rv => by
  obtain ⟨a, vs, e, sq, rs⟩ := ru.of_lst
  obtain ⟨w, hw, rw'⟩ := rs.atI h
  exact ⟨w, rw', fun Q q => .inl ⟨a, vs, i, w, e, rv.of_int, S.sub.seq sq, hw, q⟩⟩
end
end Cp
/-! Cp3: calls of defs and built-ins as data; statements. -/
namespace Cp
open PySem L2

section
variable (K : PySem.W.Frag) (cl : Nat → Addr)
/-- a def that changes nothing: from data to a datum -/
def PSp (R : List D → D → Prop) : Sp := fun vs H Q _ => ∃ ds d G M, R ds d ∧ Sep G H M ∧ Reps K cl G vs ds ∧ ∀ v G' H', Same G G' → Sep G' H' M → Rep K cl G' v d → Q v H'
/-- any def: a word over the frozen part and the owned part -/
def GSp (R : List V → Hp → ML → (V → Hp → ML → Prop) → Prop) : Sp := fun vs H Q _ => ∃ G M, Sep G H M ∧ R vs G M fun v G' M' => Same G G' → ∀ H', Sep G' H' M' → Q v H'
/-- an __init__ that stores data: the fields' names, from the arguments to the fields -/
def ISp (c : Nat) (ns : List Str) (R : List D → List D → Prop) : Sp := fun vs H Q _ => ∃ x dx us ds es G M, vs = .ref x :: us ∧ R ds es ∧ Sep G H ((x, .ins (cl c) dx (List.zip [] [])) :: M) ∧ Reps K cl G us ds ∧
  ∀ ws G' H', Same G G' → Sep G' H' ((x, .ins (cl c) dx (ns.zip ws)) :: M) → ns.length = ws.length → Reps K cl G' ws es → Q .non H'
end
section
variable {K : PySem.W.Frag} {cl : Nat → Addr} {p q r : Bool} {M M1 M2 M3 M4 : ML} {G G1 G2 G3 H H1 H2 H3 : Hp} {σ : St} {ta tb te : TE} {tx : TA} {tt tu : TT} {d d1 d2 d3 : D} {ds es : List D}

theorem ev_call {R : List D → D → Prop} {E : XK} (ha : EvA K cl p tx σ G M ds M1) (hR : R ds d) : EvX K cl false (tCall (PSp K cl R) [] E tx) σ G M d M1 := fun G1 H1 s S Q k =>
  ha G1 H1 s S _ fun xs G2 H2 g2 rx => ⟨ds, d, G2, M1, hR, g2.sep, by rw [List.append_nil]; exact rx, fun v G' H' s' S' rv => k v G' H' (Go.of (g2.same.trans s') S') rv⟩
theorem zip_none {ns : List Str} {f : Str} : ∀ {vs : List V}, ns.contains f = false → (ns.zip vs).lookup f = none := by
  induction ns with
  | nil => intro vs _; rfl
  | cons n ns ih =>
    intro vs h
    cases vs with
    | nil => rfl
    | cons v vs =>
      rw [List.contains_cons, Bool.or_eq_false_iff] at h
      rw [List.zip_cons_cons, List.lookup_cons, h.1]
      exact ih h.2
theorem ev_meth {R : List D → D → Prop} {E : XK} {c : Nat} {m : Str} {ns : List Str} {fs : List D} (he : EvX K cl p ta σ G M (.ins c ns fs) M1) (ha : EvA K cl q tx σ G M1 ds M2) (hm : ns.contains m = false) (hR : R (.ins c ns fs :: ds) d) :
    EvX K cl false (tMeth (cl c) m (PSp K cl R) [] E ta tx) σ G M d M2 := fun G1 H1 s S Q k =>
  he G1 H1 s S _ fun x G2 H2 g2 rx => by
    obtain ⟨a, dx, vs, e, ea, l, rs⟩ := rx.of_ins
    exact ⟨a, dx, _, e, g2.sep.sub _ _ ea, zip_none hm, ha G2 H2 (s.trans g2.same) g2.sep _ fun xs G3 H3 g3 rxs =>
      ⟨_, d, G3, M2, hR, g3.sep, by rw [List.append_nil]; exact Reps.cons (rx.mono g3.same) rxs, fun v G' H' s' S' rv => k v G' H' (Go.of ((g2.same.trans g3.same).trans s') S') rv⟩⟩
theorem ev_make {R : List D → List D → Prop} {E : XK} {c : Nat} {ns : List Str} (ha : EvA K cl p tx σ G M ds M1) (hR : R ds es) : EvX K cl false (tMake (cl c) (ISp K cl c ns R) [] E tx) σ G M (.ins c ns es) M1 := fun G1 H1 s S Q k =>
  ha G1 H1 s S _ fun xs G2 H2 g2 rx => fun x dx nx ndx ne => by
    have nxG := g2.sep.freshG nx
    have ndG := g2.sep.freshG ndx
    have S1 : Sep (upd G2 dx (.own x)) (upd H2 dx (.own x)) M1 := g2.sep.newG ndx
    have nx' : upd H2 dx (.own x) x = none := by rw [upd_ne ne.symm]; exact nx
    have S2 := S1.newM (o := .ins (cl c) dx []) nx'
    refine ⟨x, dx, xs, ds, es, _, M1, by rw [List.append_nil], hR, S2, rx.mono (Same.upd ndG), fun ws G' H' s' S' hl rs => ⟨rfl, ?_⟩⟩
    obtain ⟨S3, s3⟩ := S'.freeze
    exact k (.ref x) _ H' (Go.of (((g2.same.trans (Same.upd ndG)).trans s').trans s3) S3) (Rep.ins upd_same hl (rs.mono s3))
/-- the new instance is owned -/
theorem eg_make {R : List D → List D → Prop} {E : XK} {c : Nat} {ns : List Str} {F : V → Hp → ML → Prop} (ha : EvA K cl p tx σ G M ds M1) (hR : R ds es)
    (hF : ∀ x dx ws G', Same G G' → ns.length = ws.length → Reps K cl G' ws es → F (.ref x) G' ((x, .ins (cl c) dx (ns.zip ws)) :: M1)) : EvG (tMake (cl c) (ISp K cl c ns R) [] E tx) σ G M F := fun G1 H1 s S Q k =>
  ha G1 H1 s S _ fun xs G2 H2 g2 rx => fun x dx nx ndx ne => by
    have ndG := g2.sep.freshG ndx
    have S1 : Sep (upd G2 dx (.own x)) (upd H2 dx (.own x)) M1 := g2.sep.newG ndx
    have nx' : upd H2 dx (.own x) x = none := by rw [upd_ne ne.symm]; exact nx
    have S2 := S1.newM (o := .ins (cl c) dx []) nx'
    refine ⟨x, dx, xs, ds, es, _, M1, by rw [List.append_nil], hR, S2, rx.mono (Same.upd ndG), fun ws G' H' s' S' hl rs => ⟨rfl, ?_⟩⟩
    have s1 := (g2.same.trans (Same.upd ndG)).trans s'
    exact k (.ref x) G' H' _ s1 S' (hF x dx ws G' (s.trans s1) hl rs)
/-- a def of the general kind -/
theorem eg_call {R : List V → Hp → ML → (V → Hp → ML → Prop) → Prop} {E : XK} {F : V → Hp → ML → Prop} (ha : EvA K cl p tx σ G M ds M1)
    (hR : ∀ vs G' (T : V → Hp → ML → Prop), Same G G' → Reps K cl G' vs ds → (∀ v G'' M'', Same G' G'' → F v G'' M'' → T v G'' M'') → R vs G' M1 T) : EvG (tCall (GSp R) [] E tx) σ G M F := fun G1 H1 s S Q k =>
  ha G1 H1 s S _ fun xs G2 H2 g2 rx => ⟨G2, M1, g2.sep, by
    rw [List.append_nil]
    refine hR xs G2 _ (s.trans g2.same) rx fun v G'' M'' s'' hF sm H' S' => k v G'' H' M'' (g2.same.trans sm) S' hF⟩
/-- .. whose answer is a datum, and M' known ahead -/
theorem ev_callG {R : List V → Hp → ML → (V → Hp → ML → Prop) → Prop} {E : XK} (ha : EvA K cl p tx σ G M ds M1)
    (hR : ∀ vs G' (T : V → Hp → ML → Prop), Same G G' → Reps K cl G' vs ds → (∀ v G'', Same G' G'' → Rep K cl G'' v d → T v G'' M2) → R vs G' M1 T) : EvX K cl false (tCall (GSp R) [] E tx) σ G M d M2 := fun G1 H1 s S Q k =>
  ha G1 H1 s S _ fun xs G2 H2 g2 rx => ⟨G2, M1, g2.sep, by
    rw [List.append_nil]
    exact hR xs G2 _ (s.trans g2.same) rx fun v G'' s'' rv sm H' S' => k v G'' H' (Go.of (g2.same.trans s'') S') rv⟩

theorem num_len {n : Int} (h0 : 0 ≤ n) (h : n < 10000000000) : (Str.ofString (toString n)).length ≤ 10 := PyProof.Rows.toString_length_le h0 (by decide) (by omega)
theorem num_log {n : Int} (h0 : 0 ≤ n) (h : n < 10000000000) : n.natAbs.log2 < 1920 := by
  have : n.natAbs < 2 ^ 1920 := Nat.lt_of_lt_of_le (show n.natAbs < 2 ^ 40 by omega) (Nat.pow_le_pow_right (by decide) (by decide))
  by_cases e : n.natAbs = 0
  · rw [e]; decide
  · exact (Nat.log2_lt e).mpr this
theorem app_len {x y : Str} {a b c : Nat} (hx : x.length ≤ a) (hy : y.length ≤ b) (h : a + b ≤ c) : (x ++ y).length ≤ c := by
  rw [PySem.Str.length_append]
  omega
theorem Ch.perm {a : Addr} {o o' : HO} (h : Ch M a o o' M1) : ∃ M0, M.Perm ((a, o) :: M0) ∧ M1.Perm ((a, o') :: M0) := by
  induction h with
  | hd => exact ⟨_, List.Perm.refl _, List.Perm.refl _⟩
  | @tl a o o' e M M' _ ih =>
    obtain ⟨M0, p1, p2⟩ := ih
    exact ⟨e :: M0, (p1.cons e).trans (List.Perm.swap (a, o) e M0), (p2.cons e).trans (List.Perm.swap (a, o') e M0)⟩
/-- the k-th place of a change, over one arrangement -/
theorem Ch.perm_to {a : Addr} {o o' : HO} {M0 : ML} (h : Ch M a o o' M1) (p : M.Perm ((a, o) :: M0)) : M1.Perm ((a, o') :: M0) := by
  obtain ⟨M9, p1, p2⟩ := h.perm
  have : ((a, o) :: M9).Perm ((a, o) :: M0) := p1.symm.trans p
  exact p2.trans ((List.perm_cons (a, o)).mp this |>.cons _)
theorem ev_ixM {a : Addr} {vs : List V} {i : Int} {v : V} (ha : EvX K cl p ta σ G M (.loc a) M1) (hb : EvX K cl q tb σ G M1 (.int i) M2) (hm : At M2 a (.lst vs)) (hi : atI vs i = some v) (hv : Rep K cl G v d) : EvX K cl (p && q) (tOp (rIx K) ta tb) σ G M d M2 := fun G1 H1 s S Q k =>
  ha G1 H1 s S _ fun x G2 H2 g2 rx => hb G2 H2 (s.trans g2.same) g2.sep _ fun y G3 H3 g3 ry => .inl ⟨a, vs, i, v, rx.of_loc, ry.of_int, .inl (.inl (g3.sep.look hm)), hi, k v G3 H3 (g2.trans g3) (hv.mono ((s.trans g2.same).trans g3.same))⟩
theorem atI_getD {α : Type} {xs : List α} {i : Int} (x : α) (h0 : 0 ≤ i) (h1 : i < xs.length) : atI xs i = some (xs.getD i.toNat x) := by
  obtain ⟨n, rfl⟩ := Int.eq_ofNat_of_zero_le h0
  have hn : n < xs.length := by omega
  rw [atI_nat (j := n) (v := xs[n]) (by simp [hn])]
  simp [hn]
theorem eg_nil : EvG (tLst tNil) σ G M fun v G' M' => ∃ u, v = .ref u ∧ M' = (u, .lst []) :: M := fun G1 H1 s S Q k =>
  ⟨Nat.zero_le _, fun u hu => k (.ref u) G1 _ _ (Same.refl _) (S.newM hu) ⟨u, rfl, rfl⟩⟩
/-! ### built-ins -/
theorem on_val {rr : List V → Hp → VK → Prop} {xs : List D} {z : D} (h : ∀ G1 H1, Sep G1 H1 M → ∀ us, Reps K cl G1 us xs → ∃ w, Rep K cl G1 w z ∧ ∀ Q : VK, Q w H1 → rr us H1 Q) : OpN K cl true rr M xs z M := fun G1 H1 S us ru Q k => by
  obtain ⟨w, rw', hw⟩ := h G1 H1 S us ru
  exact hw Q (k w G1 H1 (Go.refl S) rw')
theorem reps1 {us : List V} (h : Reps K cl G us [d]) : ∃ u, us = [u] ∧ Rep K cl G u d := by
  obtain ⟨u, ws, rfl, hu, hw⟩ := h.uncons
  simp only [Reps] at hw
  subst hw
  exact ⟨u, rfl, hu⟩
theorem reps2 {us : List V} (h : Reps K cl G us [d1, d2]) : ∃ u v, us = [u, v] ∧ Rep K cl G u d1 ∧ Rep K cl G v d2 := by
  obtain ⟨u, ws, rfl, hu, hw⟩ := h.uncons
  obtain ⟨v, rfl, hv⟩ := reps1 hw
  exact ⟨u, v, rfl, hu, hv⟩
abbrev rLenA (K : PySem.W.Frag) : List V → Hp → VK → Prop := fun xs H Q => ∃ x n, xs = [x] ∧ LenV K x H n ∧ Q (.int n) H
abbrev rStrI : List V → Hp → VK → Prop := fun xs H Q => ∃ i, xs = [.int i] ∧ i.natAbs.log2 < 1920 ∧ Q (.str (toString i)) H
abbrev rInt1 : List V → Hp → VK → Prop := fun xs H Q => (∃ i, xs = [.int i] ∧ Q (.int i) H) ∨ ∃ k, xs = [.bl k] ∧ Q (.int (if k then 1 else 0)) H
abbrev rMin2 : List V → Hp → VK → Prop := fun xs H Q => ∃ i j, xs = [.int i, .int j] ∧ Q (.int (if j < i then j else i)) H
abbrev rMax2 : List V → Hp → VK → Prop := fun xs H Q => ∃ i j, xs = [.int i, .int j] ∧ Q (.int (if j > i then j else i)) H
abbrev rTupA (K : PySem.W.Frag) : List V → Hp → VK → Prop := fun xs H Q => ∃ p ys, xs = [.ref p] ∧ ((SqL K H p ys ∧ ∀ l, H l = none → Q (.ref l) (upd H l (.tup ys))) ∨ (SqT K H p ys ∧ Q (.ref p) H))
abbrev rListA (K : PySem.W.Frag) : List V → Hp → VK → Prop := fun xs H Q => ∃ p ys, xs = [.ref p] ∧ (SqL K H p ys ∨ SqT K H p ys) ∧ ∀ l, H l = none → Q (.ref l) (upd H l (.lst ys))
theorem on_int {i : Int} : OpN K cl true rInt1 M [.int i] (.int i) M := on_val fun G1 H1 S us ru => by
  obtain ⟨u, rfl, hu⟩ := reps1 ru
  exact ⟨_, Rep.int, fun Q q => .inl ⟨i, by rw [hu.of_int], q⟩⟩
theorem on_intB {b : Bool} : OpN K cl true rInt1 M [.bl b] (.int (if b then 1 else 0)) M := on_val fun G1 H1 S us ru => by
  obtain ⟨u, rfl, hu⟩ := reps1 ru
  exact ⟨_, Rep.int, fun Q q => .inr ⟨b, by rw [hu.of_bl], q⟩⟩
theorem on_str {i : Int} (h : i.natAbs.log2 < 1920) : OpN K cl true rStrI M [.int i] (.str (toString i)) M := on_val fun G1 H1 S us ru => by
  obtain ⟨u, rfl, hu⟩ := reps1 ru
  exact ⟨_, Rep.str, fun Q q => ⟨i, by rw [hu.of_int], h, q⟩⟩
theorem on_min {i j : Int} : OpN K cl true rMin2 M [.int i, .int j] (.int (if j < i then j else i)) M := on_val fun G1 H1 S us ru => by
  obtain ⟨u, v, rfl, hu, hv⟩ := reps2 ru
  exact ⟨_, Rep.int, fun Q q => ⟨i, j, by rw [hu.of_int, hv.of_int], q⟩⟩
theorem on_max {i j : Int} : OpN K cl true rMax2 M [.int i, .int j] (.int (if j > i then j else i)) M := on_val fun G1 H1 S us ru => by
  obtain ⟨u, v, rfl, hu, hv⟩ := reps2 ru
  exact ⟨_, Rep.int, fun Q q => ⟨i, j, by rw [hu.of_int, hv.of_int], q⟩⟩
theorem on_lenS {x : Str} (h : x.length ≤ 100000) : OpN K cl true (rLenA K) M [.str x] (.int x.length) M := on_val fun G1 H1 S us ru => by
  obtain ⟨u, rfl, hu⟩ := reps1 ru
  refine ⟨_, Rep.int, fun Q q => ⟨.str x, x.length, by rw [hu.of_str], ⟨Nat.le_trans h (by decide), rfl⟩, q⟩⟩
theorem on_lenL : OpN K cl true (rLenA K) M [.lst ds] (.int ds.length) M := on_val fun G1 H1 S us ru => by
  obtain ⟨u, rfl, hu⟩ := reps1 ru
  obtain ⟨a, vs, rfl, sq, rs⟩ := hu.of_lst
  refine ⟨_, Rep.int, fun Q q => ⟨.ref a, ds.length, rfl, .inl ⟨vs, S.sub.seq sq, rs.length.symm⟩, q⟩⟩
theorem on_lenT : OpN K cl true (rLenA K) M [.tup ds] (.int ds.length) M := on_val fun G1 H1 S us ru => by
  obtain ⟨u, rfl, hu⟩ := reps1 ru
  obtain ⟨a, vs, rfl, sq, rs⟩ := hu.of_tup
  refine ⟨_, Rep.int, fun Q q => ⟨.ref a, ds.length, rfl, .inr ⟨vs, Same.seqT S.sub sq, rs.length.symm⟩, q⟩⟩
theorem on_lenM {a : Addr} {vs : List V} (h : At M a (.lst vs)) : OpN K cl true (rLenA K) M [.loc a] (.int vs.length) M := on_val fun G1 H1 S us ru => by
  obtain ⟨u, rfl, hu⟩ := reps1 ru
  refine ⟨_, Rep.int, fun Q q => ⟨.ref a, vs.length, by rw [hu.of_loc], .inl ⟨vs, .inl (.inl (S.look h)), rfl⟩, q⟩⟩
theorem on_tupL : OpN K cl false (rTupA K) M [.lst ds] (.tup ds) M := fun G1 H1 S us ru Q k => by
  obtain ⟨u, rfl, hu⟩ := reps1 ru
  obtain ⟨a, vs, rfl, sq, rs⟩ := hu.of_lst
  exact ⟨a, vs, rfl, .inl ⟨S.sub.seq sq, fun l hl => k _ _ _ (Go.of (Same.upd (S.freshG hl)) (S.newG hl)) (Rep.tup (.inl (.inl upd_same)) (rs.mono (Same.upd (S.freshG hl))))⟩⟩
theorem on_tupT : OpN K cl true (rTupA K) M [.tup ds] (.tup ds) M := on_val fun G1 H1 S us ru => by
  obtain ⟨u, rfl, hu⟩ := reps1 ru
  obtain ⟨a, vs, rfl, sq, rs⟩ := hu.of_tup
  exact ⟨_, hu, fun Q q => ⟨a, vs, rfl, .inr ⟨Same.seqT S.sub sq, q⟩⟩⟩
/-- an owned list's items, as they stand -/
theorem on_tupM {a : Addr} {vs : List V} (h : At M a (.lst vs)) (hr : Reps K cl G vs ds) : ∀ G1 H1, Same G G1 → Sep G1 H1 M → ∀ Q : VK, (∀ w G2 H2, Go false M M G1 H1 G2 H2 → Rep K cl G2 w (.tup ds) → Q w H2) → rTupA K [.ref a] H1 Q := fun G1 H1 s S Q k =>
  ⟨a, vs, rfl, .inl ⟨.inl (.inl (S.look h)), fun l hl => k _ _ _ (Go.of (Same.upd (S.freshG hl)) (S.newG hl)) (Rep.tup (.inl (.inl upd_same)) ((hr.mono s).mono (Same.upd (S.freshG hl))))⟩⟩
theorem ev_tupM {a : Addr} {vs : List V} (ha : EvX K cl p ta σ G M (.loc a) M1) (h : At M1 a (.lst vs)) (hr : Reps K cl G vs ds) : EvX K cl false (tCB (rTupA K) (tCons ta tNil)) σ G M (.tup ds) M1 := fun G1 H1 s S Q k =>
  ha G1 H1 s S _ fun x G2 H2 g2 rx => by
    rw [rx.of_loc]
    exact on_tupM h hr G2 H2 (s.trans g2.same) g2.sep Q fun w G3 H3 g3 rw' => k w G3 H3 (Go.of (g2.same.trans g3.same) g3.sep) rw'
/-- s.startswith(t) -/
abbrev rStarts : V → List V → Hp → VK → Prop := fun x xs H Q => ∃ a b, x = .str a ∧ xs = [.str b] ∧ Q (.bl (Txt.startswith a b)) H
theorem ev_starts {x y : Str} (ha : EvX K cl p ta σ G M (.str x) M1) (hb : EvX K cl q tb σ G M1 (.str y) M2) : EvX K cl (p && q) (tM1 rStarts ta tb) σ G M (.bl (Txt.startswith x y)) M2 := fun G1 H1 s S Q k =>
  ha G1 H1 s S _ fun u G2 H2 g2 ru => ⟨⟨x, ru.of_str⟩, hb G2 H2 (s.trans g2.same) g2.sep _ fun v G3 H3 g3 rv => ⟨x, y, ru.of_str, by rw [rv.of_str], k _ G3 H3 (g2.trans g3) Rep.bl⟩⟩
/-! slices -/
def EvO (p : Bool) (K : PySem.W.Frag) (cl : Nat → Addr) (to : TO) (σ : St) (G : Hp) (M : ML) (o : Option Int) : Prop :=
  ∀ G1 H1, Same G G1 → Sep G1 H1 M → ∀ Q : Option Int → Hp → Prop, (∀ G2 H2, Go p M M G1 H1 G2 H2 → Q o H2) → to σ H1 Q
theorem eo_none : EvO true K cl tNoPart σ G M none := fun G1 H1 s S Q k => k G1 H1 (Go.refl S)
theorem eo_some {i : Int} (h : EvX K cl p te σ G M (.int i) M) : EvO p K cl (tPart te) σ G M (some i) := fun G1 H1 s S Q k => h G1 H1 s S _ fun x G2 H2 g2 rx => ⟨i, rx.of_int, k G2 H2 g2⟩
abbrev SlK := V → Option Int → Option Int → Hp → VK → Prop
def orS (a b : SlK) : SlK := fun x l u H Q => a x l u H Q ∨ b x l u H Q
theorem sl_or {X : Cx} {a b : SlK} (h1 : SlR X a) (h2 : SlR X b) : SlR X (orS a b) := fun pins s σ H x v vl vu lo hi sl Q I rx hs pl pu h => h.elim (h1 pins s σ H x v vl vu lo hi sl Q I rx hs pl pu) (h2 pins s σ H x v vl vu lo hi sl Q I rx hs pl pu)
/-- xs[lo:hi] of a list or a text -/
def rSlA (K : PySem.W.Frag) : SlK := orS (rSlL K) rSlS
theorem sl_any {X : Cx} : SlR X (rSlA X.K) := sl_or sl_list sl_str
theorem ev_slS {x : Str} {tl th : TO} {lo hi : Option Int} (ha : EvX K cl p ta σ G M (.str x) M1) (hl : EvO q K cl tl σ G M1 lo) (hh : EvO r K cl th σ G M1 hi) (hx : x.length ≤ 100000) : EvX K cl (p && q && r) (tSl (rSlA K) ta tl th) σ G M (.str (cutS x lo hi)) M1 := fun G1 H1 s S Q k =>
  ha G1 H1 s S _ fun u G2 H2 g2 ru => hl G2 H2 (s.trans g2.same) g2.sep _ fun G3 H3 g3 => hh G3 H3 ((s.trans g2.same).trans g3.same) g3.sep _ fun G4 H4 g4 =>
    .inr ⟨x, ru.of_str, Nat.le_trans hx (by decide), k _ G4 H4 ((g2.trans g3).trans g4) Rep.str⟩
def cutD (xs : List D) (lo hi : Option Int) : List D := (xs.drop (HT.sIx xs.length 0 lo)).take (HT.sIx xs.length xs.length hi - HT.sIx xs.length 0 lo)
theorem Reps.cut {vs : List V} {lo hi : Option Int} (h : Reps K cl G vs ds) : Reps K cl G (cutV vs lo hi) (cutD ds lo hi) := by
  unfold cutV cutD
  rw [h.length]
  exact (h.drop _).take _
theorem ev_slL {tl th : TO} {lo hi : Option Int} (ha : EvX K cl p ta σ G M (.lst ds) M1) (hl : EvO q K cl tl σ G M1 lo) (hh : EvO r K cl th σ G M1 hi) : EvX K cl false (tSl (rSlA K) ta tl th) σ G M (.lst (cutD ds lo hi)) M1 := fun G1 H1 s S Q k =>
  ha G1 H1 s S _ fun u G2 H2 g2 ru => hl G2 H2 (s.trans g2.same) g2.sep _ fun G3 H3 g3 => hh G3 H3 ((s.trans g2.same).trans g3.same) g3.sep _ fun G4 H4 g4 => by
    obtain ⟨a, vs, e, sq, rs⟩ := ru.of_lst
    have s4 : Same G2 G4 := g3.same.trans g4.same
    refine .inl ⟨a, vs, e, (s4.trans g4.sep.sub).seq sq, fun l hl => ?_⟩
    have n := g4.sep.freshG hl
    exact k _ _ _ (Go.of ((g2.same.trans s4).trans (Same.upd n)) (g4.sep.newG hl)) (Rep.lst (.inl (.inl upd_same)) ((rs.mono (s4.trans (Same.upd n))).cut))

/-! ### statements -/
variable {nx : St → Hp → Prop} {rt : VK} {bk ct : St → Hp → Prop} {t u : TS}
theorem s_seq (h : t ⟨u ⟨nx, rt, bk, ct⟩, rt, bk, ct⟩ σ H) : tSeq t u ⟨nx, rt, bk, ct⟩ σ H := h
theorem s_asg {i : Nat} (S : Sep G H M) (h : EvX K cl p te σ G M d M1) (k : ∀ v G' H', Go p M M1 G H G' H' → Rep K cl G' v d → nx (σ.set i (some v)) H') : tAsg te (gName i) ⟨nx, rt, bk, ct⟩ σ H :=
  h G H (Same.refl _) S _ fun v G2 H2 g rv => k v G2 H2 g rv
theorem s_asgG {i : Nat} {F : V → Hp → ML → Prop} (S : Sep G H M) (h : EvG te σ G M F) (k : ∀ v G' H' M', Same G G' → Sep G' H' M' → F v G' M' → nx (σ.set i (some v)) H') : tAsg te (gName i) ⟨nx, rt, bk, ct⟩ σ H :=
  h G H (Same.refl _) S _ fun v G2 H2 M2 s S2 f => k v G2 H2 M2 s S2 f
theorem s_ret (S : Sep G H M) (h : EvX K cl p te σ G M d M1) (k : ∀ v G' H', Go p M M1 G H G' H' → Rep K cl G' v d → rt v H') : tRet te ⟨nx, rt, bk, ct⟩ σ H :=
  h G H (Same.refl _) S _ fun v G2 H2 g rv => k v G2 H2 g rv
theorem s_retG {F : V → Hp → ML → Prop} (S : Sep G H M) (h : EvG te σ G M F) (k : ∀ v G' H' M', Same G G' → Sep G' H' M' → F v G' M' → rt v H') : tRet te ⟨nx, rt, bk, ct⟩ σ H :=
  h G H (Same.refl _) S _ fun v G2 H2 M2 s S2 f => k v G2 H2 M2 s S2 f
theorem s_drop (S : Sep G H M) (h : EvX K cl p te σ G M d M1) (k : ∀ v G' H', Go p M M1 G H G' H' → Rep K cl G' v d → nx σ H') : tDrop te ⟨nx, rt, bk, ct⟩ σ H :=
  h G H (Same.refl _) S _ fun v G2 H2 g rv => k v G2 H2 g rv
theorem s_if {b : Bool} (S : Sep G H M) (h : EvT K cl p tt σ G M b M1) (h1 : ∀ G' H', Go p M M1 G H G' H' → b = true → t ⟨nx, rt, bk, ct⟩ σ H') (h2 : ∀ G' H', Go p M M1 G H G' H' → b = false → u ⟨nx, rt, bk, ct⟩ σ H') : tIfS tt t u ⟨nx, rt, bk, ct⟩ σ H :=
  h G H (Same.refl _) S _ fun G2 H2 g => by
    cases b with
    | true => exact h1 G2 H2 g rfl
    | false => exact h2 G2 H2 g rfl
/-- both ways meet again -/
theorem s_ifJ {b : Bool} (J : St → Hp → ML → Prop) (S : Sep G H M) (h : EvT K cl p tt σ G M b M1)
    (h1 : (∀ σ' G' H' M', Same G G' → Sep G' H' M' → J σ' G' M' → nx σ' H') → ∀ G' H', Go p M M1 G H G' H' → b = true → t ⟨nx, rt, bk, ct⟩ σ H')
    (h2 : (∀ σ' G' H' M', Same G G' → Sep G' H' M' → J σ' G' M' → nx σ' H') → ∀ G' H', Go p M M1 G H G' H' → b = false → u ⟨nx, rt, bk, ct⟩ σ H')
    (k : ∀ σ' G' H' M', Same G G' → Sep G' H' M' → J σ' G' M' → nx σ' H') : tIfS tt t u ⟨nx, rt, bk, ct⟩ σ H := s_if S h (h1 k) (h2 k)
theorem s_next (h : nx σ H) : tNext ⟨nx, rt, bk, ct⟩ σ H := h
theorem s_break (h : bk σ H) : tBreak ⟨nx, rt, bk, ct⟩ σ H := h
theorem s_cont (h : ct σ H) : tCont ⟨nx, rt, bk, ct⟩ σ H := h
theorem s_retN (h : rt .non H) : tRetN ⟨nx, rt, bk, ct⟩ σ H := h
/-- self.f = e, self owned -/
theorem s_fld {a C dx : Addr} {fs : List (Str × V)} {f : Str} {tv : TE} {M' : V → ML} (S : Sep G H M) (hv : EvX K cl p tv σ G M d M1) (ha : EvX K cl q ta σ G M1 (.loc a) M2) (hm : ∀ v, Ch M2 a (.ins C dx fs) (.ins C dx (putF f v fs)) (M' v)) (hc : Cls K C) (hn : NoAttr K C f) (hl : fs.length < 1000)
    (k : ∀ v G' H', Same G G' → Sep G' H' (M' v) → Rep K cl G' v d → nx σ H') : sFld K ta tv f ⟨nx, rt, bk, ct⟩ σ H :=
  hv G H (Same.refl _) S _ fun v G2 H2 g2 rv => ha G2 H2 g2.same g2.sep _ fun x G3 H3 g3 rx =>
    ⟨a, C, dx, fs, rx.of_loc, g3.sep.look (hm v).at, hc, hn, hl, k v G3 _ (g2.same.trans g3.same) (g3.sep.ch (hm v)) (rv.mono g3.same)⟩
theorem putF_zip_new {f : Str} {v : V} : ∀ {ns : List Str} {vs : List V}, ns.length = vs.length → ns.contains f = false → putF f v (ns.zip vs) = (ns ++ [f]).zip (vs ++ [v])
  | [], [], _, _ => rfl
  | [], _ :: _, h, _ => by simp at h
  | _ :: _, [], h, _ => by simp at h
  | n :: ns, w :: vs, h, hc => by
    rw [List.contains_cons, Bool.or_eq_false_iff] at hc
    have hne : ¬ n = f := fun e => by rw [e] at hc; simp at hc
    rw [List.zip_cons_cons]
    show (if n = f then _ else _) = _
    rw [if_neg hne, putF_zip_new (Nat.succ.inj h) hc.2]
    rfl
theorem putF_zip_set {f : Str} {v : V} : ∀ {ns : List Str} {vs : List V} {i : Nat}, ns.length = vs.length → ns.findIdx? (· == f) = some i → putF f v (ns.zip vs) = ns.zip (vs.set i v)
  | [], [], i, _, h => by simp at h
  | [], _ :: _, _, h, _ => by simp at h
  | _ :: _, [], _, h, _ => by simp at h
  | n :: ns, w :: vs, i, h, hc => by
    rw [List.zip_cons_cons]
    rw [List.findIdx?_cons] at hc
    by_cases e : n = f
    · have e' : (n == f) = true := by simp [e]
      rw [e'] at hc
      simp at hc
      subst hc
      show (if n = f then _ else _) = _
      rw [if_pos e]
      rfl
    · have e' : (n == f) = false := by simp [e]
      rw [e'] at hc
      simp at hc
      obtain ⟨j, hj, rfl⟩ := hc
      show (if n = f then _ else _) = _
      rw [if_neg e, putF_zip_set (Nat.succ.inj h) hj]
      rfl
/-- self.f = e: a field that is not there yet -/
theorem s_fldN {a C dx : Addr} {ns : List Str} {vs : List V} {f : Str} {tv : TE} {M' : V → ML} (S : Sep G H M) (hv : EvX K cl p tv σ G M d M1) (ha : EvX K cl q ta σ G M1 (.loc a) M2) (hm : ∀ v, Ch M2 a (.ins C dx (ns.zip vs)) (.ins C dx ((ns ++ [f]).zip (vs ++ [v]))) (M' v)) (hc : Cls K C) (hn : NoAttr K C f)
    (hl : ns.length = vs.length) (hx : ns.contains f = false) (hk : ns.length < 1000) (k : ∀ v G' H', Same G G' → Sep G' H' (M' v) → Rep K cl G' v d → nx σ H') : sFld K ta tv f ⟨nx, rt, bk, ct⟩ σ H :=
  s_fld (fs := ns.zip vs) S hv ha (fun v => by rw [putF_zip_new hl hx]; exact hm v) hc hn (by rw [List.length_zip]; omega) k
/-- .. a field that is there -/
theorem s_fldU {a C dx : Addr} {ns : List Str} {vs : List V} {f : Str} {tv : TE} {i : Nat} {M' : V → ML} (S : Sep G H M) (hv : EvX K cl p tv σ G M d M1) (ha : EvX K cl q ta σ G M1 (.loc a) M2) (hx : ns.findIdx? (· == f) = some i) (hm : ∀ v, Ch M2 a (.ins C dx (ns.zip vs)) (.ins C dx (ns.zip (vs.set i v))) (M' v)) (hc : Cls K C) (hn : NoAttr K C f)
    (hl : ns.length = vs.length) (hk : ns.length < 1000) (k : ∀ v G' H', Same G G' → Sep G' H' (M' v) → Rep K cl G' v d → nx σ H') : sFld K ta tv f ⟨nx, rt, bk, ct⟩ σ H :=
  s_fld (fs := ns.zip vs) S hv ha (fun v => by rw [putF_zip_set hl hx]; exact hm v) hc hn (by rw [List.length_zip]; omega) k
/-- xs.append(e), xs owned -/
theorem s_app {a : Addr} {us vs : List V} {M' : V → ML} (S : Sep G H M) (ha : EvX K cl p ta σ G M (.loc a) M1) (hm0 : At M1 a (.lst us)) (he : EvX K cl q te σ G M1 d M2) (hm : ∀ v, Ch M2 a (.lst vs) (.lst (vs ++ [v])) (M' v)) (hl : vs.length < 10000000)
    (k : ∀ v G' H', Same G G' → Sep G' H' (M' v) → Rep K cl G' v d → nx σ H') : tDrop (tBM K "list" rAppend ta (tCons te tNil)) ⟨nx, rt, bk, ct⟩ σ H :=
  ha G H (Same.refl _) S _ fun x G2 H2 g2 rx => ⟨by
    rw [rx.of_loc]
    exact .inl ⟨rfl, us, .inl (.inl (g2.sep.look hm0))⟩, he G2 H2 g2.same g2.sep _ fun v G3 H3 g3 rv =>
    ⟨a, vs, v, rx.of_loc, rfl, g3.sep.look (hm v).at, Nat.lt_of_lt_of_le hl (by decide), k v G3 _ (g2.same.trans g3.same) (g3.sep.ch (hm v)) rv⟩⟩
/-- xs[i] = e, xs owned -/
theorem s_set {ti : TE} {a : Addr} {vs : List V} {i : Int} {j : Nat} {M' : V → ML} (S : Sep G H M) (he : EvX K cl p te σ G M d M1) (ha : EvX K cl q ta σ G M1 (.loc a) M2) (hi : EvX K cl r ti σ G M2 (.int i) M3) (hm : ∀ v, Ch M3 a (.lst vs) (.lst (vs.set j v)) (M' v)) (hj : ixN vs.length i = some j)
    (k : ∀ v G' H', Same G G' → Sep G' H' (M' v) → Rep K cl G' v d → nx σ H') : tAsg te (gSub ta ti rSetL) ⟨nx, rt, bk, ct⟩ σ H :=
  he G H (Same.refl _) S _ fun v G2 H2 g2 rv => ha G2 H2 g2.same g2.sep _ fun x G3 H3 g3 rx => hi G3 H3 (g2.same.trans g3.same) g3.sep _ fun y G4 H4 g4 ry =>
    ⟨a, vs, i, j, rx.of_loc, ry.of_int, g4.sep.look (hm v).at, hj, k v G4 _ ((g2.same.trans g3.same).trans g4.same) (g4.sep.ch (hm v)) (rv.mono (g3.same.trans g4.same))⟩
/-! loops -/
/-- list or tuple -/
def iSeq (K : PySem.W.Frag) (tl : TE) : TI := fun σ H R => iList K tl σ H R ∨ iTup K tl σ H R
theorem pi_seq {X : Cx} {tg l : Expr} {tl : TE} (hl : PE X l tl) : PI X tg l (iSeq X.K tl) := ⟨fun pins s σ H R I h => by
  rcases h with h | h
  · exact (pi_list hl).run pins s σ H R I h
  · exact (pi_tup hl).run pins s σ H R I h⟩
/-- what stands between two turns -/
def Nx (G : Hp) (J : Nat → St → Hp → ML → Prop) (i : Nat) : St → Hp → Prop := fun σ H => ∃ G' M', Same G G' ∧ Sep G' H M' ∧ J i σ G' M'
theorem s_forL {tl : TE} {g : TG} {tb : TS} (J : Nat → St → Hp → ML → Prop) (S : Sep G H M) (h : EvX K cl p tl σ G M (.lst ds) M1) (h0 : ∀ G' H', Go p M M1 G H G' H' → J 0 σ G' M1)
    (hs : ∀ G2, Same G G2 → ∀ i x d σ' G' H' M', ds[i]? = some d → Same G2 G' → Sep G' H' M' → Rep K cl G' x d → J i σ' G' M' → g x σ' H' fun σ2 H2 => tb ⟨Nx G2 J (i + 1), rt, nx, Nx G2 J (i + 1)⟩ σ2 H2)
    (hd : ∀ σ' G' H' M', Same G G' → Sep G' H' M' → J ds.length σ' G' M' → nx σ' H') : tFor (iSeq K tl) g tb ⟨nx, rt, bk, ct⟩ σ H :=
  .inl (h G H (Same.refl _) S _ fun x G2 H2 g2 rx => by
    obtain ⟨a, vs, e, sq, rs⟩ := rx.of_lst
    refine ⟨a, e, ⟨vs, g2.sep.sub.seq sq⟩, for_list (xs := vs) (Nx G2 J) ⟨G2, M1, Same.refl _, g2.sep, h0 G2 H2 g2⟩ ?_ ?_ ?_⟩
    · rintro i σ' H' hi ⟨G', M', s', S', j⟩
      exact (s'.trans S'.sub).seq sq
    · rintro i y σ' H' hy ⟨G', M', s', S', j⟩
      obtain ⟨d, hd', rd⟩ := rs.get hy
      exact hs G2 g2.same i y d σ' G' H' M' hd' s' S' (rd.mono s') j
    · rintro σ' H' ⟨G', M', s', S', j⟩
      rw [rs.length] at j
      exact hd σ' G' H' M' (g2.same.trans s') S' j)
theorem s_forT {tl : TE} {g : TG} {tb : TS} (J : Nat → St → Hp → ML → Prop) (S : Sep G H M) (h : EvX K cl p tl σ G M (.tup ds) M1) (h0 : ∀ G' H', Go p M M1 G H G' H' → J 0 σ G' M1)
    (hs : ∀ G2, Same G G2 → ∀ i x d σ' G' H' M', ds[i]? = some d → Same G2 G' → Sep G' H' M' → Rep K cl G' x d → J i σ' G' M' → g x σ' H' fun σ2 H2 => tb ⟨Nx G2 J (i + 1), rt, nx, Nx G2 J (i + 1)⟩ σ2 H2)
    (hd : ∀ σ' G' H' M', Same G G' → Sep G' H' M' → J ds.length σ' G' M' → nx σ' H') : tFor (iSeq K tl) g tb ⟨nx, rt, bk, ct⟩ σ H :=
  .inr (h G H (Same.refl _) S _ fun x G2 H2 g2 rx => by
    obtain ⟨a, vs, e, sq, rs⟩ := rx.of_tup
    refine ⟨a, e, ⟨vs, Same.seqT g2.sep.sub sq⟩, for_tup (xs := vs) (Nx G2 J) ⟨G2, M1, Same.refl _, g2.sep, h0 G2 H2 g2⟩ ?_ ?_ ?_⟩
    · rintro i σ' H' hi ⟨G', M', s', S', j⟩
      exact Same.seqT (s'.trans S'.sub) sq
    · rintro i y σ' H' hy ⟨G', M', s', S', j⟩
      obtain ⟨d, hd', rd⟩ := rs.get hy
      exact hs G2 g2.same i y d σ' G' H' M' hd' s' S' (rd.mono s') j
    · rintro σ' H' ⟨G', M', s', S', j⟩
      rw [rs.length] at j
      exact hd σ' G' H' M' (g2.same.trans s') S' j)
theorem s_forR1 {g : TG} {tb : TS} {n : Int} (J : Nat → St → Hp → ML → Prop) (S : Sep G H M) (h : EvA K cl p tx σ G M [.int n] M1) (hn : -1000000000000 ≤ n ∧ n ≤ 1000000000000) (h0 : ∀ G' H', Go p M M1 G H G' H' → J 0 σ G' M1)
    (hs : ∀ G2, Same G G2 → ∀ (i : Nat) σ' G' H' M', (i : Int) < n → Same G2 G' → Sep G' H' M' → J i σ' G' M' → g (.int (i : Int)) σ' H' fun σ2 H2 => tb ⟨Nx G2 J (i + 1), rt, nx, Nx G2 J (i + 1)⟩ σ2 H2)
    (hd : ∀ σ' G' H' M', Same G G' → Sep G' H' M' → J n.toNat σ' G' M' → nx σ' H') : tFor (iRng1 tx) g tb ⟨nx, rt, bk, ct⟩ σ H :=
  h G H (Same.refl _) S _ fun xs G2 H2 g2 rx => by
    obtain ⟨u, rfl, hu⟩ := reps1 rx
    refine ⟨n, by rw [hu.of_int], by omega, by omega, for_range (lo := 0) (n := n.toNat) (Nx G2 J) ⟨G2, M1, Same.refl _, g2.sep, h0 G2 H2 g2⟩ ?_ ?_⟩
    · rintro i σ' H' hi ⟨G', M', s', S', j⟩
      rw [Int.zero_add]
      exact hs G2 g2.same i σ' G' H' M' (by omega) s' S' j
    · rintro σ' H' ⟨G', M', s', S', j⟩
      exact hd σ' G' H' M' (g2.same.trans s') S' j
theorem s_forR2 {g : TG} {tb : TS} {lo n : Int} (J : Nat → St → Hp → ML → Prop) (S : Sep G H M) (h : EvA K cl p tx σ G M [.int lo, .int n] M1) (hn : -1000000000000000 ≤ lo ∧ lo ≤ 1000000000000000 ∧ -1000000000000000 ≤ n ∧ n ≤ 1000000000000000) (h0 : ∀ G' H', Go p M M1 G H G' H' → J 0 σ G' M1)
    (hs : ∀ G2, Same G G2 → ∀ (i : Nat) σ' G' H' M', lo + (i : Int) < n → Same G2 G' → Sep G' H' M' → J i σ' G' M' → g (.int (lo + (i : Int))) σ' H' fun σ2 H2 => tb ⟨Nx G2 J (i + 1), rt, nx, Nx G2 J (i + 1)⟩ σ2 H2)
    (hd : ∀ σ' G' H' M', Same G G' → Sep G' H' M' → J (n - lo).toNat σ' G' M' → nx σ' H') : tFor (iRng2 tx) g tb ⟨nx, rt, bk, ct⟩ σ H :=
  h G H (Same.refl _) S _ fun xs G2 H2 g2 rx => by
    obtain ⟨u, v, rfl, hu, hv⟩ := reps2 rx
    refine ⟨lo, n, by rw [hu.of_int, hv.of_int], ⟨by omega, by omega, by omega, by omega⟩, for_range (lo := lo) (n := (n - lo).toNat) (Nx G2 J) ⟨G2, M1, Same.refl _, g2.sep, h0 G2 H2 g2⟩ ?_ ?_⟩
    · rintro i σ' H' hi ⟨G', M', s', S', j⟩
      exact hs G2 g2.same i σ' G' H' M' (by omega) s' S' j
    · rintro σ' H' ⟨G', M', s', S', j⟩
      exact hd σ' G' H' M' (g2.same.trans s') S' j
theorem op1_dummy : True := trivial
theorem s_gname {i : Nat} {v : V} {Q : St → Hp → Prop} (h : Q (σ.set i (some v)) H) : gName i v σ H Q := h
end
end Cp
/-! Cp4: truth of values, items of owned lists, comprehensions, while, == of data, tuples taken apart. -/
namespace Cp
open PySem L2

section
variable {K : PySem.W.Frag} {cl : Nat → Addr} {p q r : Bool} {M M1 M2 M3 M4 : ML} {G G1 G2 G3 H H1 H2 H3 : Hp} {σ : St} {ta tb te : TE} {tx : TA} {tt tu : TT} {d d1 d2 d3 : D} {ds es : List D}

theorem reps3 {us : List V} {d1 d2 d3 : D} (h : Reps K cl G us [d1, d2, d3]) : ∃ u1 u2 u3, us = [u1, u2, u3] ∧ Rep K cl G u1 d1 ∧ Rep K cl G u2 d2 ∧ Rep K cl G u3 d3 := by
  obtain ⟨u1, ws, rfl, h1, hw⟩ := h.uncons
  obtain ⟨u2, u3, rfl, h2, h3⟩ := reps2 hw
  exact ⟨u1, u2, u3, rfl, h1, h2, h3⟩
theorem reps4 {us : List V} {d1 d2 d3 d4 : D} (h : Reps K cl G us [d1, d2, d3, d4]) : ∃ u1 u2 u3 u4, us = [u1, u2, u3, u4] ∧ Rep K cl G u1 d1 ∧ Rep K cl G u2 d2 ∧ Rep K cl G u3 d3 ∧ Rep K cl G u4 d4 := by
  obtain ⟨u1, ws, rfl, h1, hw⟩ := h.uncons
  obtain ⟨u2, u3, u4, rfl, h2, h3, h4⟩ := reps3 hw
  exact ⟨u1, u2, u3, u4, rfl, h1, h2, h3, h4⟩
theorem reps5 {us : List V} {d1 d2 d3 d4 d5 : D} (h : Reps K cl G us [d1, d2, d3, d4, d5]) : ∃ u1 u2 u3 u4 u5, us = [u1, u2, u3, u4, u5] ∧ Rep K cl G u1 d1 ∧ Rep K cl G u2 d2 ∧ Rep K cl G u3 d3 ∧ Rep K cl G u4 d4 ∧ Rep K cl G u5 d5 := by
  obtain ⟨u1, ws, rfl, h1, hw⟩ := h.uncons
  obtain ⟨u2, u3, u4, u5, rfl, h2, h3, h4, h5⟩ := reps4 hw
  exact ⟨u1, u2, u3, u4, u5, rfl, h1, h2, h3, h4, h5⟩
theorem reps6 {us : List V} {d1 d2 d3 d4 d5 d6 : D} (h : Reps K cl G us [d1, d2, d3, d4, d5, d6]) : ∃ u1 u2 u3 u4 u5 u6, us = [u1, u2, u3, u4, u5, u6] ∧ Rep K cl G u1 d1 ∧ Rep K cl G u2 d2 ∧ Rep K cl G u3 d3 ∧ Rep K cl G u4 d4 ∧ Rep K cl G u5 d5 ∧ Rep K cl G u6 d6 := by
  obtain ⟨u1, ws, rfl, h1, hw⟩ := h.uncons
  obtain ⟨u2, u3, u4, u5, u6, rfl, h2, h3, h4, h5, h6⟩ := reps5 hw
  exact ⟨u1, u2, u3, u4, u5, u6, rfl, h1, h2, h3, h4, h5, h6⟩
theorem reps7 {us : List V} {d1 d2 d3 d4 d5 d6 d7 : D} (h : Reps K cl G us [d1, d2, d3, d4, d5, d6, d7]) : ∃ u1 u2 u3 u4 u5 u6 u7, us = [u1, u2, u3, u4, u5, u6, u7] ∧ Rep K cl G u1 d1 ∧ Rep K cl G u2 d2 ∧ Rep K cl G u3 d3 ∧ Rep K cl G u4 d4 ∧ Rep K cl G u5 d5 ∧ Rep K cl G u6 d6 ∧ Rep K cl G u7 d7 := by
  obtain ⟨u1, ws, rfl, h1, hw⟩ := h.uncons
  obtain ⟨u2, u3, u4, u5, u6, u7, rfl, h2, h3, h4, h5, h6, h7⟩ := reps6 hw
  exact ⟨u1, u2, u3, u4, u5, u6, u7, rfl, h1, h2, h3, h4, h5, h6, h7⟩
theorem reps8 {us : List V} {d1 d2 d3 d4 d5 d6 d7 d8 : D} (h : Reps K cl G us [d1, d2, d3, d4, d5, d6, d7, d8]) : ∃ u1 u2 u3 u4 u5 u6 u7 u8, us = [u1, u2, u3, u4, u5, u6, u7, u8] ∧ Rep K cl G u1 d1 ∧ Rep K cl G u2 d2 ∧ Rep K cl G u3 d3 ∧ Rep K cl G u4 d4 ∧ Rep K cl G u5 d5 ∧ Rep K cl G u6 d6 ∧ Rep K cl G u7 d7 ∧ Rep K cl G u8 d8 := by
  obtain ⟨u1, ws, rfl, h1, hw⟩ := h.uncons
  obtain ⟨u2, u3, u4, u5, u6, u7, u8, rfl, h2, h3, h4, h5, h6, h7, h8⟩ := reps7 hw
  exact ⟨u1, u2, u3, u4, u5, u6, u7, u8, rfl, h1, h2, h3, h4, h5, h6, h7, h8⟩
theorem reps9 {us : List V} {d1 d2 d3 d4 d5 d6 d7 d8 d9 : D} (h : Reps K cl G us [d1, d2, d3, d4, d5, d6, d7, d8, d9]) : ∃ u1 u2 u3 u4 u5 u6 u7 u8 u9, us = [u1, u2, u3, u4, u5, u6, u7, u8, u9] ∧ Rep K cl G u1 d1 ∧ Rep K cl G u2 d2 ∧ Rep K cl G u3 d3 ∧ Rep K cl G u4 d4 ∧ Rep K cl G u5 d5 ∧ Rep K cl G u6 d6 ∧ Rep K cl G u7 d7 ∧ Rep K cl G u8 d8 ∧ Rep K cl G u9 d9 := by
  obtain ⟨u1, ws, rfl, h1, hw⟩ := h.uncons
  obtain ⟨u2, u3, u4, u5, u6, u7, u8, u9, rfl, h2, h3, h4, h5, h6, h7, h8, h9⟩ := reps8 hw
  exact ⟨u1, u2, u3, u4, u5, u6, u7, u8, u9, rfl, h1, h2, h3, h4, h5, h6, h7, h8, h9⟩
theorem reps10 {us : List V} {d1 d2 d3 d4 d5 d6 d7 d8 d9 d10 : D} (h : Reps K cl G us [d1, d2, d3, d4, d5, d6, d7, d8, d9, d10]) : ∃ u1 u2 u3 u4 u5 u6 u7 u8 u9 u10, us = [u1, u2, u3, u4, u5, u6, u7, u8, u9, u10] ∧ Rep K cl G u1 d1 ∧ Rep K cl G u2 d2 ∧ Rep K cl G u3 d3 ∧ Rep K cl G u4 d4 ∧ Rep K cl G u5 d5 ∧ Rep K cl G u6 d6 ∧ Rep K cl G u7 d7 ∧ Rep K cl G u8 d8 ∧ Rep K cl G u9 d9 ∧ Rep K cl G u10 d10 := by
  obtain ⟨u1, ws, rfl, h1, hw⟩ := h.uncons
  obtain ⟨u2, u3, u4, u5, u6, u7, u8, u9, u10, rfl, h2, h3, h4, h5, h6, h7, h8, h9, h10⟩ := reps9 hw
  exact ⟨u1, u2, u3, u4, u5, u6, u7, u8, u9, u10, rfl, h1, h2, h3, h4, h5, h6, h7, h8, h9, h10⟩
/-! ### truth -/
def tTr (K : PySem.W.Frag) (ta : TE) : TT := fun σ H Q => ta σ H fun x H' => ∃ k, TruV K x H' k ∧ Q k H'
theorem pt_tr {X : Cx} {a : Expr} (ha : PE X a ta) (he : ∀ whole, isTrue a X.env whole = (do let v ← whole; standAt a.pos; holding [v] (truthy v)) := by intro _; rfl) : PT X a (tTr X.K ta) := pt_truth ha he
def D.tru : D → Option Bool
  | .non => some false
  | .bl b => some b
  | .int i => some (i != 0)
  | .lst ds => some (!ds.isEmpty)
  | .tup ds => some (!ds.isEmpty)
  | _ => none
theorem Reps.isEmpty {vs : List V} (h : Reps K cl G vs ds) : vs.isEmpty = ds.isEmpty := by
  cases ds with
  | nil => simp only [Reps] at h; rw [h]; rfl
  | cons d ds => obtain ⟨v, ws, rfl, _, _⟩ := h.uncons; rfl
theorem et_tr {b : Bool} (h : EvX K cl p ta σ G M d M1) (hb : d.tru = some b) : EvT K cl p (tTr K ta) σ G M b M1 := fun G1 H1 s S Q k => h G1 H1 s S _ fun x G2 H2 g2 rx => by
  refine ⟨b, ?_, k G2 H2 g2⟩
  cases d with
  | non => rw [rx.of_non]; exact (Option.some.inj hb).symm
  | bl c => rw [rx.of_bl]; exact (Option.some.inj hb).symm
  | int i => rw [rx.of_int]; exact (Option.some.inj hb).symm
  | str s => cases hb
  | lst ds => obtain ⟨a, vs, rfl, sq, rs⟩ := rx.of_lst; exact .inl ⟨vs, g2.sep.sub.seq sq, by rw [rs.isEmpty]; exact (Option.some.inj hb).symm⟩
  | tup ds => obtain ⟨a, vs, rfl, sq, rs⟩ := rx.of_tup; exact .inr (.inl ⟨vs, Same.seqT g2.sep.sub sq, by rw [rs.isEmpty]; exact (Option.some.inj hb).symm⟩)
  | ins c ns ds => cases hb
  | loc a => cases hb
  | dic ks ds => cases hb
theorem et_trM {a : Addr} {vs : List V} (h : EvX K cl p ta σ G M (.loc a) M1) (hm : At M1 a (.lst vs)) : EvT K cl p (tTr K ta) σ G M (!vs.isEmpty) M1 := fun G1 H1 s S Q k => h G1 H1 s S _ fun x G2 H2 g2 rx => by
  rw [rx.of_loc]
  exact ⟨_, .inl ⟨vs, .inl (.inl (g2.sep.look hm)), rfl⟩, k G2 H2 g2⟩

/-! ### an item of an owned list, told by its data -/
theorem ev_ixMD {a : Addr} {vs : List V} {i : Int} (ha : EvX K cl p ta σ G M (.loc a) M1) (hb : EvX K cl q tb σ G M1 (.int i) M2) (hm : At M2 a (.lst vs)) (hr : Reps K cl G vs ds) (hi : atI ds i = some d) : EvX K cl (p && q) (tOp (rIx K) ta tb) σ G M d M2 := by
  obtain ⟨v, hv, rv⟩ := hr.atI hi
  exact ev_ixM ha hb hm hv rv
theorem atI_last' {α : Type} {xs : List α} {x : α} (h : xs.getLast? = some x) : atI xs (-1) = some x := by
  have hne : xs ≠ [] := fun e => by rw [e] at h; cases h
  have e1 : xs.getLast hne = x := by
    rw [List.getLast?_eq_some_getLast hne] at h
    exact Option.some.inj h
  have e2 := List.dropLast_concat_getLast hne
  rw [e1] at e2
  rw [← e2]
  exact atI_last _ _

/-! ### tuples taken apart -/
def gNames : List Nat → TGs
  | [] => gNil
  | i :: is => gCons (gName i) (gNames is)
def setAll : St → List Nat → List V → St
  | σ, i :: is, v :: vs => setAll (σ.set i (some v)) is vs
  | σ, _, _ => σ
theorem g_names {Q : St → Hp → Prop} : ∀ {is : List Nat} {vs : List V} {σ : St}, vs.length = is.length → Q (setAll σ is vs) H → gNames is vs σ H Q
  | [], [], σ, _, h => ⟨rfl, h⟩
  | i :: is, v :: vs, σ, hl, h => ⟨v, vs, rfl, g_names (Nat.succ.inj hl) h⟩
theorem g_tup {x : V} {is : List Nat} {n : Nat} {Q : St → Hp → Prop} (S : Sep G H M) (rx : Rep K cl G x (.tup ds)) (hn : ds.length = n) (hi : is.length = n) (k : ∀ vs, Reps K cl G vs ds → Q (setAll σ is vs) H) : gTup K n (gNames is) x σ H Q := by
  obtain ⟨a, vs, e, sq, rs⟩ := rx.of_tup
  exact ⟨a, vs, e, Same.seqT S.sub sq, by rw [rs.length, hn], g_names (by rw [rs.length, hn, hi]) (k vs rs)⟩
theorem s_asgT {is : List Nat} {n : Nat} {nx : St → Hp → Prop} {rt : VK} {bk ct : St → Hp → Prop} (S : Sep G H M) (h : EvX K cl p te σ G M (.tup ds) M1) (hn : ds.length = n) (hi : is.length = n) (k : ∀ vs G' H', Go p M M1 G H G' H' → Reps K cl G' vs ds → nx (setAll σ is vs) H') :
    tAsg te (gTup K n (gNames is)) ⟨nx, rt, bk, ct⟩ σ H := h G H (Same.refl _) S _ fun x G2 H2 g2 rx => g_tup g2.sep rx hn hi fun vs rs => k vs G2 H2 g2 rs

/-! ### a list that is made and then given away -/
theorem s_retF {i : Nat} {u : Addr} {vs : List V} {nx : St → Hp → Prop} {rt : VK} {bk ct : St → Hp → Prop} (S : Sep G H ((u, .lst vs) :: M)) (hi : σ[i]? = some (some (.ref u))) (hr : Reps K cl G vs ds) (k : ∀ G', Same G G' → Sep G' H M → Rep K cl G' (.ref u) (.lst ds) → rt (.ref u) H) : tRet (tVar i) ⟨nx, rt, bk, ct⟩ σ H := by
  obtain ⟨S', s'⟩ := S.freeze
  exact ⟨.ref u, hi, k _ s' S' (Rep.lst (.inl (.inl upd_same)) (hr.mono s'))⟩

/-! ### while -/
theorem s_while {tb : TS} {nx : St → Hp → Prop} {rt : VK} {bk ct : St → Hp → Prop} (J : Nat → St → Hp → ML → Prop) (m0 : Nat) (S : Sep G H M) (h0 : J m0 σ G M)
    (hs : ∀ m σ' G' H' M', Same G G' → Sep G' H' M' → J m σ' G' M' → ∃ b p M1, EvT K cl p tt σ' G' M' b M1 ∧ (b = true → ∀ G2 H2, Go p M' M1 G' H' G2 H2 → tb ⟨fun σ H => ∃ m', m' < m ∧ Nx G (fun _ => J m') 0 σ H, rt, nx, fun σ H => ∃ m', m' < m ∧ Nx G (fun _ => J m') 0 σ H⟩ σ' H2) ∧
      (b = false → ∀ G2 H2, Go p M' M1 G' H' G2 H2 → nx σ' H2)) : tWhile tt tb ⟨nx, rt, bk, ct⟩ σ H := by
  refine ⟨fun m σ H => Nx G (fun _ => J m) 0 σ H, ⟨m0, G, M, Same.refl _, S, h0⟩, ?_⟩
  rintro m σ' H' ⟨G', M', s', S', j⟩
  obtain ⟨b, p, M1, ht, h1, h2⟩ := hs m σ' G' H' M' s' S' j
  refine ht G' H' (Same.refl _) S' _ fun G2 H2 g2 => ?_
  cases b with
  | true => exact ⟨_, fun σ2 H2 h => h, h1 rfl G2 H2 g2⟩
  | false => exact h2 rfl G2 H2 g2

theorem wh_turn {b : Bool} {C : Bool → Bool → ML → Prop} (h : EvT K cl p tt σ G M b M1) (hC : C b p M1) : ∃ b p M1, EvT K cl p tt σ G M b M1 ∧ C b p M1 := ⟨b, p, M1, h, hC⟩
/-! ### comprehensions over frozen lists and tuples -/
/-- one turn of a comprehension: the target, the test, the element -/
def LcT (K : PySem.W.Frag) (cl : Nat → Addr) (g : TG) (tt : TT) (te : TE) (vs : List Nat) (σ : St) (G : Hp) (M : ML) (x : V) (keep : Bool) (y : D) : Prop :=
  ∃ σ2 p q, wipe σ2 vs = wipe σ vs ∧ (∀ H (Kk : St → Hp → Prop), Sep G H M → Kk σ2 H → g x (wipe σ vs) H Kk) ∧ EvT K cl p tt σ2 G M keep M ∧ (keep = true → EvX K cl q te σ2 G M y M)
theorem ev_lc {tl : TE} {g : TG} {vs : List Nat} {f : D → D} {keep : D → Bool} (h : EvX K cl p tl σ G M d1 M1) (hd : d1 = .lst ds ∨ d1 = .tup ds) (hl : ds.length ≤ 10000000)
    (hs : ∀ G1 e x d, Same G G1 → d ∈ ds → Rep K cl G1 x d → LcT K cl g tt te vs σ G1 (e :: M1) x (keep d) (f d)) : EvX K cl false (tLc (iSeq K tl) g tt te vs) σ G M (.lst ((ds.filter keep).map f)) M1 := fun G1 H1 s S Q k => by
  have main : ∀ G2 H2 (us : List V) (Dl : Addr), Same G G2 → Same G1 G2 → Sep G2 H2 M1 → Reps K cl G2 us ds → H2 Dl = none → ∀ (Pv : Nat → Hp → Prop), (Pv = fun i H => ∃ G' acc, Same G2 G' ∧ Sep G' H ((Dl, .lst acc) :: M1) ∧ Reps K cl G' acc (((ds.take i).filter keep).map f)) →
      Pv 0 (upd H2 Dl (.lst [])) ∧ (∀ i x H, us[i]? = some x → Pv i H → g x (wipe σ vs) H fun σ2 H2 => wipe σ2 vs = wipe σ vs ∧ tt σ2 H2 fun b H3 =>
        if b = true then te σ2 H3 fun y H4 => ∃ acc, H4 Dl = some (.lst acc) ∧ acc.length < sizeLine ∧ Pv (i + 1) (upd H4 Dl (.lst (acc ++ [y]))) else Pv (i + 1) H3) ∧ (∀ H, Pv us.length H → Q (.ref Dl) H) := by
    rintro G2 H2 us Dl s2 s12 S2 rs hD Pv rfl
    refine ⟨⟨G2, [], Same.refl _, S2.newM hD, Reps.nil⟩, ?_, ?_⟩
    · rintro i x H hx ⟨G', acc, s', S', ra⟩
      obtain ⟨d, hdi, rd⟩ := rs.get hx
      have hmem : d ∈ ds := List.mem_of_getElem? hdi
      obtain ⟨σ2, p', q', hw, hg, ht, he⟩ := hs G' (Dl, .lst acc) x d (s2.trans s') hmem (rd.mono s')
      refine hg H _ S' ⟨hw, ht G' H (Same.refl _) S' _ fun G3 H3 g3 => ?_⟩
      have e1 : ds.take (i + 1) = ds.take i ++ [d] := by rw [List.take_add_one, hdi]; rfl
      have hal : acc.length ≤ ds.length := by
        rw [ra.length, List.length_map]
        exact Nat.le_trans (List.length_filter_le _ _) (by rw [List.length_take]; omega)
      cases hk : keep d with
      | true =>
        rw [if_pos rfl]
        refine he hk G3 H3 g3.same g3.sep _ fun y G4 H4 g4 ry => ?_
        have sA := g3.same.trans g4.same
        refine ⟨acc, g4.sep.look .hd, Nat.lt_of_le_of_lt (Nat.le_trans hal hl) (by decide), G4, acc ++ [y], s'.trans sA, g4.sep.ch .hd, ?_⟩
        rw [e1, List.filter_append, List.map_append]
        refine Reps.append (ra.mono sA) ?_
        rw [List.filter_cons, if_pos hk]
        exact Reps.one ry
      | false =>
        rw [if_neg (by decide)]
        refine ⟨G3, acc, s'.trans g3.same, g3.sep, ?_⟩
        rw [e1, List.filter_append, List.map_append, List.filter_cons, if_neg (by rw [hk]; decide)]
        show Reps K cl G3 acc (_ ++ [])
        rw [List.append_nil]
        exact ra.mono g3.same
    · rintro H ⟨G', acc, s', S', ra⟩
      rw [rs.length, List.take_length] at ra
      obtain ⟨S3, s3⟩ := S'.freeze
      exact k (.ref Dl) _ H (Go.of ((s12.trans s').trans s3) S3) (Rep.lst (.inl (.inl upd_same)) (ra.mono s3))
  rcases hd with rfl | rfl
  · refine .inl (h G1 H1 s S _ fun x G2 H2 g2 rx => ?_)
    obtain ⟨a, us, e, sq, rs⟩ := rx.of_lst
    refine ⟨a, e, ⟨us, g2.sep.sub.seq sq⟩, fun Dl hD => ?_⟩
    obtain ⟨h0, ht, hd⟩ := main G2 H2 us Dl (s.trans g2.same) g2.same g2.sep rs hD _ rfl
    refine lc_list (xs := us) _ h0 ?_ ht hd
    rintro i H hi ⟨G', acc, s', S', ra⟩
    exact (s'.trans S'.sub).seq sq
  · refine .inr (h G1 H1 s S _ fun x G2 H2 g2 rx => ?_)
    obtain ⟨a, us, e, sq, rs⟩ := rx.of_tup
    refine ⟨a, e, ⟨us, Same.seqT g2.sep.sub sq⟩, fun Dl hD => ?_⟩
    obtain ⟨h0, ht, hd⟩ := main G2 H2 us Dl (s.trans g2.same) g2.same g2.sep rs hD _ rfl
    refine lc_tup (xs := us) _ h0 ?_ ht hd
    rintro i H hi ⟨G', acc, s', S', ra⟩
    exact Same.seqT (s'.trans S'.sub) sq
theorem lcT1 {vs : List Nat} {x : V} {keep : Bool} {y : D} {j : Nat} (hw : wipe ((wipe σ vs).set j (some x)) vs = wipe σ vs) (ht : EvT K cl p tt ((wipe σ vs).set j (some x)) G M keep M) (he : keep = true → EvX K cl q te ((wipe σ vs).set j (some x)) G M y M) : LcT K cl (gName j) tt te vs σ G M x keep y :=
  ⟨_, p, q, hw, fun H Kk _ h => h, ht, he⟩
theorem lcTt {vs : List Nat} {x : V} {keep : Bool} {y : D} {is : List Nat} {n : Nat} (rx : Rep K cl G x (.tup ds)) (hn : ds.length = n) (hi : is.length = n) (k : ∀ xs, Reps K cl G xs ds → wipe (setAll (wipe σ vs) is xs) vs = wipe σ vs ∧ ∃ p q, EvT K cl p tt (setAll (wipe σ vs) is xs) G M keep M ∧ (keep = true → EvX K cl q te (setAll (wipe σ vs) is xs) G M y M)) : LcT K cl (gTup K n (gNames is)) tt te vs σ G M x keep y := by
  obtain ⟨a, us, e, sq, rs⟩ := rx.of_tup
  obtain ⟨hw, p, q, ht, he⟩ := k us rs
  exact ⟨_, p, q, hw, fun H Kk S h => ⟨a, us, e, Same.seqT S.sub sq, by rw [rs.length, hn], g_names (by rw [rs.length, hn, hi]) h⟩, ht, he⟩
theorem lc_pair {vs : List Nat} {keep : Bool} {y : D} {σ2 : St} (hw : wipe σ2 vs = wipe σ vs) (ht : EvT K cl p tt σ2 G M keep M) (he : keep = true → EvX K cl q te σ2 G M y M) : wipe σ2 vs = wipe σ vs ∧ ∃ p q, EvT K cl p tt σ2 G M keep M ∧ (keep = true → EvX K cl q te σ2 G M y M) := ⟨hw, p, q, ht, he⟩
theorem et_yes : EvT K cl true tYes σ G M true M := fun G1 H1 s S Q k => k G1 H1 (Go.refl S)

/-! ### == of data -/
mutual
def D.isDat : D → Bool
  | .lst ds => D.areDat ds
  | .tup ds => D.areDat ds
  | .ins _ _ _ => false
  | .loc _ => false
  | .dic _ _ => false
  | .str x => x.cps.all (· < 0x110000)
  | _ => true
def D.areDat : List D → Bool
  | [] => true
  | d :: ds => d.isDat && D.areDat ds
end
mutual
def D.dep : D → Nat
  | .lst ds => D.deps ds + 1
  | .tup ds => D.deps ds + 1
  | _ => 0
def D.deps : List D → Nat
  | [] => 0
  | d :: ds => max d.dep (D.deps ds)
end
mutual
def D.pyd : D → PyData
  | .non => .none
  | .bl b => .bool b
  | .int i => .int i
  | .str s => .str s
  | .lst ds => .list (D.pyds ds)
  | .tup ds => .tuple (D.pyds ds)
  | _ => .none
def D.pyds : List D → List PyData
  | [] => []
  | d :: ds => d.pyd :: D.pyds ds
end
mutual
theorem Rep.dp : ∀ {v : V} {d : D}, Rep K cl G v d → d.isDat = true → Dp K G v d.pyd
  | _, .non, h, _ => by rw [h.of_non]; simp only [D.pyd]; exact .non
  | _, .bl b, h, _ => by rw [h.of_bl]; simp only [D.pyd]; exact .bl b
  | _, .int i, h, _ => by rw [h.of_int]; simp only [D.pyd]; exact .int i
  | _, .str x, h, _ => by rw [h.of_str]; simp only [D.pyd]; exact .str x
  | _, .lst ds, h, e => by
    obtain ⟨a, vs, rfl, sq, rs⟩ := h.of_lst
    simp only [D.pyd]
    exact .lst sq (Reps.dps rs (by simpa only [D.isDat] using e))
  | _, .tup ds, h, e => by
    obtain ⟨a, vs, rfl, sq, rs⟩ := h.of_tup
    simp only [D.pyd]
    exact .tup sq (Reps.dps rs (by simpa only [D.isDat] using e))
  | _, .ins _ _ _, _, e => by simp [D.isDat] at e
  | _, .loc _, _, e => by simp [D.isDat] at e
  | _, .dic _ _, _, e => by simp [D.isDat] at e
theorem Reps.dps : ∀ {vs : List V} {ds : List D}, Reps K cl G vs ds → D.areDat ds = true → DpAll K G vs (D.pyds ds)
  | _, [], h, _ => by simp only [Reps] at h; rw [h]; simp only [D.pyds]; exact .nil
  | _, d :: ds, h, e => by
    obtain ⟨v, ws, rfl, rv, rs⟩ := h.uncons
    simp only [D.areDat, Bool.and_eq_true] at e
    simp only [D.pyds]
    exact .cons (rv.dp e.1) (rs.dps e.2)
end
mutual
theorem lay_pyd : ∀ {d : D}, d.isDat = true → PyData.canLay0 d.pyd = true
  | .non, _ => by simp [D.pyd, PyData.canLay0]
  | .bl _, _ => by simp [D.pyd, PyData.canLay0]
  | .int _, _ => by simp [D.pyd, PyData.canLay0]
  | .str x, h => by simp only [D.isDat] at h; simp only [D.pyd, PyData.canLay0]; exact h
  | .lst ds, h => by simp only [D.isDat] at h; simp only [D.pyd, PyData.canLay0]; exact lay_pyds h
  | .tup ds, h => by simp only [D.isDat] at h; simp only [D.pyd, PyData.canLay0]; exact lay_pyds h
  | .ins _ _ _, h => by simp [D.isDat] at h
  | .loc _, h => by simp [D.isDat] at h
  | .dic _ _, h => by simp [D.isDat] at h
theorem lay_pyds : ∀ {ds : List D}, D.areDat ds = true → PyData.canLayAll0 (D.pyds ds) = true
  | [], _ => by simp [D.pyds, PyData.canLayAll0]
  | d :: ds, h => by
    simp only [D.areDat, Bool.and_eq_true] at h
    simp only [D.pyds, PyData.canLayAll0, Bool.and_eq_true]
    exact ⟨lay_pyd h.1, lay_pyds h.2⟩
end
mutual
theorem dep_pyd : ∀ {d : D}, PyData.depth d.pyd = d.dep
  | .non => by simp [D.pyd, PyData.depth, D.dep]
  | .bl _ => by simp [D.pyd, PyData.depth, D.dep]
  | .int _ => by simp [D.pyd, PyData.depth, D.dep]
  | .str _ => by simp [D.pyd, PyData.depth, D.dep]
  | .lst ds => by simp only [D.pyd, PyData.depth, D.dep]; rw [dep_pyds]
  | .tup ds => by simp only [D.pyd, PyData.depth, D.dep]; rw [dep_pyds]
  | .ins _ _ _ => by simp [D.pyd, PyData.depth, D.dep]
  | .loc _ => by simp [D.pyd, PyData.depth, D.dep]
  | .dic _ _ => by simp [D.pyd, PyData.depth, D.dep]
theorem dep_pyds : ∀ {ds : List D}, PyData.depthAll (D.pyds ds) = D.deps ds
  | [] => by simp [D.pyds, PyData.depthAll, D.deps]
  | d :: ds => by simp only [D.pyds, PyData.depthAll, D.deps]; rw [dep_pyd, dep_pyds]
end
theorem shaped_of (h : d.isDat = true) (hd : d.dep ≤ 64) : SeqAt.shaped d.pyd = true := by
  unfold SeqAt.shaped
  rw [lay_pyd h, dep_pyd, decide_eq_true hd]
  rfl
/-! == tells data as trees -/
mutual
def D.eqb : D → D → Bool
  | .non, .non => true
  | .bl a, .bl b => a == b
  | .bl a, .int j => (if a then 1 else 0) == j
  | .int i, .bl b => i == (if b then 1 else 0)
  | .int i, .int j => i == j
  | .str x, .str y => x == y
  | .lst xs, .lst ys => D.eqbs xs ys
  | .tup xs, .tup ys => D.eqbs xs ys
  | _, _ => false
def D.eqbs : List D → List D → Bool
  | [], [] => true
  | x :: xs, y :: ys => D.eqb x y && D.eqbs xs ys
  | _, _ => false
end
mutual
theorem eqv_eqb : ∀ (x y : D), x.isDat = true → y.isDat = true → PyData.eqv x.pyd y.pyd = D.eqb x y
  | .lst xs, y, hx, hy => by
    cases y with
    | lst ys => simp only [D.pyd, PyData.eqv, D.eqb]; exact eqvs_eqbs xs ys (by simpa only [D.isDat] using hx) (by simpa only [D.isDat] using hy)
    | ins _ _ _ => simp [D.isDat] at hy
    | loc _ => simp [D.isDat] at hy
    | dic _ _ => simp [D.isDat] at hy
    | _ => simp [D.pyd, PyData.eqv, D.eqb]
  | .tup xs, y, hx, hy => by
    cases y with
    | tup ys => simp only [D.pyd, PyData.eqv, D.eqb]; exact eqvs_eqbs xs ys (by simpa only [D.isDat] using hx) (by simpa only [D.isDat] using hy)
    | ins _ _ _ => simp [D.isDat] at hy
    | loc _ => simp [D.isDat] at hy
    | dic _ _ => simp [D.isDat] at hy
    | _ => simp [D.pyd, PyData.eqv, D.eqb]
  | .non, y, _, hy => by
    cases y with
    | ins _ _ _ => simp [D.isDat] at hy
    | loc _ => simp [D.isDat] at hy
    | dic _ _ => simp [D.isDat] at hy
    | _ => simp [D.pyd, PyData.eqv, D.eqb]
  | .bl b, y, _, hy => by
    cases y with
    | ins _ _ _ => simp [D.isDat] at hy
    | loc _ => simp [D.isDat] at hy
    | dic _ _ => simp [D.isDat] at hy
    | _ => simp [D.pyd, PyData.eqv, D.eqb]
  | .int i, y, _, hy => by
    cases y with
    | ins _ _ _ => simp [D.isDat] at hy
    | loc _ => simp [D.isDat] at hy
    | dic _ _ => simp [D.isDat] at hy
    | _ => simp [D.pyd, PyData.eqv, D.eqb]
  | .str s, y, _, hy => by
    cases y with
    | ins _ _ _ => simp [D.isDat] at hy
    | loc _ => simp [D.isDat] at hy
    | dic _ _ => simp [D.isDat] at hy
    | _ => simp [D.pyd, PyData.eqv, D.eqb]
  | .ins _ _ _, _, h, _ => by simp [D.isDat] at h
  | .loc _, _, h, _ => by simp [D.isDat] at h
  | .dic _ _, _, h, _ => by simp [D.isDat] at h
theorem eqvs_eqbs : ∀ (xs ys : List D), D.areDat xs = true → D.areDat ys = true → PyData.eqvAll (D.pyds xs) (D.pyds ys) = D.eqbs xs ys
  | [], [], _, _ => by simp [D.pyds, PyData.eqvAll, D.eqbs]
  | [], _ :: _, _, _ => by simp [D.pyds, PyData.eqvAll, D.eqbs]
  | _ :: _, [], _, _ => by simp [D.pyds, PyData.eqvAll, D.eqbs]
  | x :: xs, y :: ys, hx, hy => by
    simp only [D.areDat, Bool.and_eq_true] at hx hy
    simp only [D.pyds, PyData.eqvAll, D.eqbs]
    rw [eqv_eqb x y hx.1 hy.1, eqvs_eqbs xs ys hx.2 hy.2]
end
mutual
theorem D.eqb_refl : ∀ {x : D}, x.isDat = true → D.eqb x x = true
  | .non, _ => by simp [D.eqb]
  | .bl _, _ => by simp [D.eqb]
  | .int _, _ => by simp [D.eqb]
  | .str _, _ => by simp [D.eqb]
  | .lst ds, h => by simp only [D.eqb]; exact D.eqbs_refl (by simpa only [D.isDat] using h)
  | .tup ds, h => by simp only [D.eqb]; exact D.eqbs_refl (by simpa only [D.isDat] using h)
  | .ins _ _ _, h => by simp [D.isDat] at h
  | .loc _, h => by simp [D.isDat] at h
  | .dic _ _, h => by simp [D.isDat] at h
theorem D.eqbs_refl : ∀ {xs : List D}, D.areDat xs = true → D.eqbs xs xs = true
  | [], _ => by simp [D.eqbs]
  | x :: xs, h => by
    simp only [D.areDat, Bool.and_eq_true] at h
    simp only [D.eqbs, Bool.and_eq_true]
    exact ⟨D.eqb_refl h.1, D.eqbs_refl h.2⟩
end
theorem o_eqD {x y : D} (hx : x.isDat = true) (hy : y.isDat = true) (dx : x.dep ≤ 64) (dy : y.dep ≤ 64) : Op2 K cl true (rEqA K) M x y (.bl (D.eqb x y)) := o_r (op2_val fun G1 H1 S u v ru rv => ⟨_, Rep.bl, fun Q q => ⟨x.pyd, y.pyd, (ru.mono S.sub).dp hx, (rv.mono S.sub).dp hy, shaped_of hx dx, shaped_of hy dy, by rw [eqv_eqb x y hx hy]; exact q⟩⟩)
theorem o_neD {x y : D} (hx : x.isDat = true) (hy : y.isDat = true) (dx : x.dep ≤ 64) (dy : y.dep ≤ 64) : Op2 K cl true (rNeA K) M x y (.bl (!D.eqb x y)) := o_r (op2_val fun G1 H1 S u v ru rv => ⟨_, Rep.bl, fun Q q => ⟨x.pyd, y.pyd, (ru.mono S.sub).dp hx, (rv.mono S.sub).dp hy, shaped_of hx dx, shaped_of hy dy, by rw [eqv_eqb x y hx hy]; exact q⟩⟩)
theorem D.areDat_mem : ∀ {ds : List D}, (∀ d ∈ ds, d.isDat = true) → D.areDat ds = true
  | [], _ => by simp [D.areDat]
  | d :: ds, h => by
    simp only [D.areDat, Bool.and_eq_true]
    exact ⟨h d (List.mem_cons_self ..), D.areDat_mem fun x hx => h x (List.mem_cons_of_mem _ hx)⟩
theorem D.deps_mem {n : Nat} : ∀ {ds : List D}, (∀ d ∈ ds, d.dep ≤ n) → D.deps ds ≤ n
  | [], _ => by simp [D.deps]
  | d :: ds, h => by
    simp only [D.deps]
    exact Nat.max_le.mpr ⟨h d (List.mem_cons_self ..), D.deps_mem fun x hx => h x (List.mem_cons_of_mem _ hx)⟩
end
end Cp
/-! Cp5: dicts whose keys are nested tuples (nD), as owned cells; the world that hashes (Wo). -/
namespace Cp
open PySem L2

/-- the program and the world of the run -/
class Wo where
  p : Program
  w : World

/-! ### keys -/
mutual
def keyD : NestedKey → D
  | .none => .non
  | .num i => .int i
  | .text x => .str x
  | .tup ks => .tup (keyDs ks)
def keyDs : List NestedKey → List D
  | [] => []
  | k :: ks => keyD k :: keyDs ks
end
section
variable {X : Cx} {pins : List (Addr × Obj)} {σ : St} {H : Hp} {s : Shared} {cl : Nat → Addr}
mutual
theorem nested_is (I : Inv X pins σ H s) : ∀ (k : NestedKey) (v : V) (u : Value), Rep X.K cl H v (keyD k) → RelV v u → NestedIs s.heap k u
  | .none, v, u, r, q => by
    simp only [keyD] at r
    rw [r.of_non] at q
    obtain rfl : u = Value.none := q
    exact .none
  | .num i, v, u, r, q => by
    simp only [keyD] at r
    rw [r.of_int] at q
    obtain ⟨t, rfl⟩ := q
    exact .int i t
  | .text x, v, u, r, q => by
    simp only [keyD] at r
    rw [r.of_str] at q
    obtain ⟨t, rfl⟩ := q
    exact .text x t
  | .tup ks, v, u, r, q => by
    simp only [keyD] at r
    obtain ⟨a, vs, rfl, sq, rs⟩ := r.of_tup
    obtain rfl : u = Value.ref a := q
    obtain ⟨its, rv, ⟨o, ho, hc, n, hd⟩, z⟩ := I.tuple sq
    exact .tup ho hc hd (nested_are I ks vs its rs rv)
theorem nested_are (I : Inv X pins σ H s) : ∀ (ks : List NestedKey) (vs : List V) (us : List Value), Reps X.K cl H vs (keyDs ks) → Vals vs us → NestedAll s.heap ks us
  | [], vs, us, r, q => by
    simp only [keyDs, Reps] at r
    subst r
    cases q
    exact .nil
  | k :: ks, vs, us, r, q => by
    simp only [keyDs] at r
    obtain ⟨v, ws, rfl, r1, r2⟩ := r.uncons
    cases q with
    | cons q1 q2 => exact .cons (nested_is I k v _ r1 q1) (nested_are I ks ws _ r2 q2)
end
end

/-! ### the object -/
abbrev NKV := List (NestedKey × Addr × V)
abbrev NRel : NKV → List (NestedKey × Addr × Value) → Prop := Paired fun p q => p.1 = q.1 ∧ p.2.1 = q.2.1 ∧ RelV p.2.2 q.2.2
section
variable [Wo]
def nIs (a : Addr) (ep : Nat) (kvs : NKV) (h : Heap) : Prop :=
  (a == sysModules) = false ∧ kvs.length ≤ sizeLine ∧ ∃ xs, NRel kvs xs ∧ (xs.map (·.1)).Nodup ∧ ∃ o es, h.get? a = some o ∧ o.ExactDict ∧ o.data = .dict es ep ∧ es.toList = xs.map (entryOfKey (nestedKind Wo.p Wo.w))
/-- a dict with tuples as keys: its epoch, its entries -/
def nD (a : Addr) (ep : Nat) (kvs : NKV) : HO := .ext (nIs a ep kvs)
end
theorem nD_mut [Wo] {a : Addr} {ep : Nat} {kvs : NKV} : Mut (some (nD a ep kvs)) := True.intro
theorem nD_ok [Wo] {P : Program} {w : World} {H : Hp} {h : Heap} {a : Addr} {ep : Nat} {kvs : NKV} (x : nIs a ep kvs h) : ObjOk P w H h a (nD a ep kvs) := by
  refine ⟨x, ?_, fun h1 h2 y k => ?_⟩
  · obtain ⟨_, _, _, _, _, o, _, e, _⟩ := x
    exact ⟨o, e⟩
  · obtain ⟨y1, y2, xs, y3, y4, o, es, y5, y6⟩ := y
    exact ⟨y1, y2, xs, y3, y4, o, es, k o y5, y6⟩
/-- every key is there -/
def NKeys (K : PySem.W.Frag) (cl : Nat → Addr) (H : Hp) (kvs : NKV) : Prop := ∀ e ∈ kvs, Rep K cl H (.ref e.2.1) (keyD e.1) ∧ e.1.depth ≤ 8
theorem NRel.keys {K : PySem.W.Frag} {cl : Nat → Addr} {H : Hp} {kvs : NKV} {xs : List (NestedKey × Addr × Value)} (r : NRel kvs xs) (n : NKeys K cl H kvs) : ∀ x ∈ xs, Rep K cl H (.ref x.2.1) (keyD x.1) ∧ x.1.depth ≤ 8 := by
  induction r with
  | nil => intro x hx; exact nomatch hx
  | @cons p q ps qs hq t ih =>
    intro x hx
    rcases List.mem_cons.mp hx with e | hx
    · rw [e, ← hq.1, ← hq.2.1]
      exact n p (List.mem_cons_self ..)
    · exact ih (fun e he => n e (List.mem_cons_of_mem _ he)) x hx

def valN (kvs : NKV) (k : NestedKey) : Option V := (kvs.find? fun x => decide (x.1 = k)).map (·.2.2)
def putN (kvs : NKV) (k : NestedKey) (b : Addr) (v : V) : NKV := if (valN kvs k).isSome then kvs.map (fun x => if x.1 = k then (x.1, x.2.1, v) else x) else kvs ++ [(k, b, v)]
def dropN (kvs : NKV) (k : NestedKey) : NKV := kvs.filter fun x => decide (x.1 ≠ k)
theorem NRel.val {kvs : NKV} {xs : List (NestedKey × Addr × Value)} (r : NRel kvs xs) (k : NestedKey) : RelO (valN kvs k) ((atKey xs k).map (·.2)) := by
  induction r with
  | nil => exact True.intro
  | @cons p q ps qs hq t ih =>
    unfold valN atKey
    rw [List.find?_cons, List.find?_cons, ← hq.1]
    by_cases e : p.1 = k
    · rw [decide_eq_true e]
      exact hq.2.2
    · rw [decide_eq_false e]
      exact ih
theorem NRel.isSome {kvs : NKV} {xs : List (NestedKey × Addr × Value)} (r : NRel kvs xs) (k : NestedKey) : (atKey xs k).isSome = (valN kvs k).isSome := by
  have h := (r.val k).isSome_eq
  rw [Option.isSome_map] at h
  exact h.symm
theorem NRel.put {kvs : NKV} {xs : List (NestedKey × Addr × Value)} (r : NRel kvs xs) (k : NestedKey) (b : Addr) {v : V} {u : Value} (rv : RelV v u) : NRel (putN kvs k b v) (storedH xs k b u) := by
  unfold putN storedH
  rw [r.isSome k]
  cases (valN kvs k).isSome with
  | true =>
    simp only [if_true]
    induction r with
    | nil => exact .nil
    | @cons p q ps qs hq t ih =>
      refine .cons ?_ ih
      show ((if p.1 = k then (p.1, p.2.1, v) else p).1 = _ ∧ (if p.1 = k then (p.1, p.2.1, v) else p).2.1 = _ ∧ RelV (if p.1 = k then (p.1, p.2.1, v) else p).2.2 _)
      unfold putAt
      by_cases e : p.1 = k
      · rw [if_pos e, if_pos (hq.1 ▸ e)]
        exact ⟨hq.1, hq.2.1, rv⟩
      · rw [if_neg e, if_neg (hq.1 ▸ e)]
        exact hq
  | false =>
    simp only [Bool.false_eq_true, if_false]
    induction r with
    | nil => exact .cons ⟨rfl, rfl, rv⟩ .nil
    | cons hq t ih => exact .cons hq ih
theorem NRel.drop {kvs : NKV} {xs : List (NestedKey × Addr × Value)} (r : NRel kvs xs) (k : NestedKey) : NRel (dropN kvs k) (withoutH xs k) := by
  unfold dropN withoutH
  induction r with
  | nil => exact .nil
  | @cons p q ps qs hq t ih =>
    rw [List.filter_cons, List.filter_cons]
    by_cases e : p.1 = k
    · rw [if_neg (by simp [e]), if_neg (by rw [← hq.1]; simp [e])]
      exact ih
    · rw [if_pos (by simp [e]), if_pos (by rw [← hq.1]; simp [e])]
      exact .cons hq ih
theorem putN_length (kvs : NKV) (k : NestedKey) (b : Addr) (v : V) : (putN kvs k b v).length ≤ kvs.length + 1 := by
  unfold putN
  split
  · rw [List.length_map]; omega
  · rw [List.length_append]; simp
theorem putN_mem {kvs : NKV} {k : NestedKey} {b : Addr} {v : V} {e : NestedKey × Addr × V} (h : e ∈ putN kvs k b v) : (e.1 = k ∧ e.2.1 = b) ∨ ∃ f ∈ kvs, f.1 = e.1 ∧ f.2.1 = e.2.1 := by
  unfold putN at h
  split at h
  · obtain ⟨f, hf, q⟩ := List.mem_map.mp h
    right
    refine ⟨f, hf, ?_⟩
    split at q <;> (rw [← q]; exact ⟨rfl, rfl⟩)
  · rcases List.mem_append.mp h with q | q
    · exact .inr ⟨e, q, rfl, rfl⟩
    · rw [List.mem_singleton] at q
      rw [q]
      exact .inl ⟨rfl, rfl⟩

/-! ### what the operations do -/
theorem storedH_keys {xs : List (NestedKey × Addr × Value)} {k : NestedKey} {b : Addr} {u : Value} (n : (xs.map (·.1)).Nodup) : ((storedH xs k b u).map (·.1)).Nodup := by
  unfold storedH
  split
  · have e : (xs.map (putAt k u)).map (·.1) = xs.map (·.1) := by
      rw [List.map_map]
      refine List.map_congr_left fun x _ => ?_
      show (putAt k u x).1 = x.1
      unfold putAt
      split <;> rfl
    rw [e]
    exact n
  · next h =>
    rw [List.map_append]
    refine List.nodup_append.mpr ⟨n, by simp, ?_⟩
    intro a ha c hc e
    obtain ⟨x, hx, q⟩ := List.mem_map.mp ha
    have hc' : c = k := by simpa using hc
    apply h
    unfold atKey
    rw [Option.isSome_map, List.find?_isSome]
    exact ⟨x, hx, by rw [decide_eq_true_eq, q, e, hc']⟩
section
variable {X : Cx} {pins : List (Addr × Obj)} {σ : St} {H : Hp} {s : Shared} {cl : Nat → Addr} {a b : Addr} {ep : Nat} {kvs : NKV} {k : NestedKey} {A : Around} {E : Value → Shared → Prop}
theorem nd_of (I : Inv X pins σ H s) (h : H a = some (@nD ⟨X.prog, X.w⟩ a ep kvs)) : @nIs ⟨X.prog, X.w⟩ a ep kvs s.heap := (show ObjOk X.prog X.w H s.heap a (@nD ⟨X.prog, X.w⟩ a ep kvs) from I.hok a _ h).1
theorem nd_at (I : Inv X pins σ H s) (h : H a = some (@nD ⟨X.prog, X.w⟩ a ep kvs)) (n : NKeys X.K cl H kvs) :
    (a == sysModules) = false ∧ kvs.length ≤ sizeLine ∧ ∃ xs, NRel kvs xs ∧ s.heap.DictOfH (nestedKind X.prog X.w) a xs := by
  obtain ⟨h1, h2, xs, h3, h4, o, es, h5, h6, h7, h8⟩ := nd_of I h
  refine ⟨h1, h2, xs, h3, o, es, ep, h5, h6, h7, h8, fun x hx => ?_, h4⟩
  obtain ⟨q1, q2⟩ := h3.keys n x hx
  exact ⟨nested_is I _ _ _ q1 rfl, q2⟩
theorem room8 (hu : A.units + 64 < cLine) : (nestedKind X.prog X.w).room A.in1 := by
  show A.in1.units + 8 < cLine
  rw [Around.in1_units]
  omega
theorem nk_is (I : Inv X pins σ H s) (r : Rep X.K cl H (.ref b) (keyD k)) (hd : k.depth ≤ 8) : (nestedKind X.prog X.w).is s.heap k b := ⟨nested_is I _ _ _ r rfl, hd⟩
theorem nd_write {h' : Heap} {t' : Nat} {ep' : Nat} {kvs' : NKV} (I : Inv X pins σ H s) (h : H a = some (@nD ⟨X.prog, X.w⟩ a ep kvs)) (hs : Heap.SameBut a s.heap h') (new : @nIs ⟨X.prog, X.w⟩ a ep' kvs' h') :
    Inv X pins σ (upd H a (@nD ⟨X.prog, X.w⟩ a ep' kvs')) { s with heap := h', toks := t' } := by
  letI : Wo := ⟨X.prog, X.w⟩
  have he : ∃ q, h'.get? a = some q := by
    obtain ⟨_, _, _, _, _, o, _, e, _⟩ := new
    exact ⟨o, e⟩
  exact d_write I (by rw [h]; exact True.intro) hs he (nD_ok new)
end

/-! ### by values -/
section
variable [Wo] (K : PySem.W.Frag) (cl : Nat → Addr)
/-- the dict of tuples at x, asked for y -/
def NAt (x y : V) (H : Hp) (a b : Addr) (ep : Nat) (kvs : NKV) (k : NestedKey) : Prop :=
  x = .ref a ∧ y = .ref b ∧ H a = some (nD a ep kvs) ∧ NKeys K cl H kvs ∧ Rep K cl H (.ref b) (keyD k) ∧ k.depth ≤ 8
def rNIx : R2 := fun x y H Q => ∃ a b ep kvs k v, NAt K cl x y H a b ep kvs k ∧ valN kvs k = some v ∧ Q v H
def rNIn (neg : Bool) : R2 := fun y x H Q => ∃ a b ep kvs k, NAt K cl x y H a b ep kvs k ∧ Q (.bl (neg != (valN kvs k).isSome)) H
def rNSet : TSet := fun x y v H Q => ∃ a b ep kvs k, NAt K cl x y H a b ep kvs k ∧ kvs.length < sizeLine ∧ ∀ ep', Q (upd H a (nD a ep' (putN kvs k b v)))
def tNNew : TE := fun _ H Q => ∀ p, H p = none → Q (.ref p) (upd H p (nD p 0 []))
def isND (H : Hp) (a : Addr) : Prop := ∃ ep kvs, H a = some (nD a ep kvs)
/-- d.get(y), d.get(y, z): any dict -/
def tGet1 (td ty : TE) : TE := fun σ H Q => td σ H fun x H1 => ∃ a, x = .ref a ∧ (IsD H1 a ∨ isND H1 a) ∧ ty σ H1 fun y H2 =>
  (∃ o, DGet H2 a y o ∧ Q (o.getD .non) H2) ∨ ∃ b ep kvs k, NAt K cl x y H2 a b ep kvs k ∧ Q ((valN kvs k).getD .non) H2
def tGet2 (td ty tz : TE) : TE := fun σ H Q => td σ H fun x H1 => ∃ a, x = .ref a ∧ (IsD H1 a ∨ isND H1 a) ∧ ty σ H1 fun y H2 => tz σ H2 fun z H3 =>
  (∃ o, DGet H3 a y o ∧ Q (o.getD z) H3) ∨ ∃ b ep kvs k, NAt K cl x y H3 a b ep kvs k ∧ Q ((valN kvs k).getD z) H3
/-- del d[y]: any dict -/
def sDelA (td ty : TE) : TS := fun Dn σ H => td σ H fun x H1 => ty σ H1 fun y H2 =>
  (∃ a kvs k, x = .ref a ∧ H2 a = some (.dK kvs) ∧ y = kV k ∧ (valV kvs k).isSome = true ∧ Dn.nx σ (upd H2 a (.dK (dropK kvs k)))) ∨
  ∃ a b ep kvs k, NAt K cl x y H2 a b ep kvs k ∧ (valN kvs k).isSome = true ∧ ∀ ep', Dn.nx σ (upd H2 a (nD a ep' (dropN kvs k)))
/-- the keys of such a dict -/
def ItN (a : Addr) (ep : Nat) (kvs : NKV) : It :=
  ⟨fun i H => H a = some (nD a ep kvs) ∧ i < kvs.length, fun i H x H' => H' = H ∧ ∃ e, kvs[i]? = some e ∧ x = .ref e.2.1, fun i H => H a = some (nD a ep kvs) ∧ kvs.length ≤ i⟩
def iNKeys (td : TE) : TI := fun σ H R => td σ H fun x H1 => ∃ a ep kvs, x = .ref a ∧ H1 a = some (nD a ep kvs) ∧ R (ItN a ep kvs) H1
end
section
variable {X : Cx} {pins : List (Addr × Obj)} {σ : St} {H : Hp} {s : Shared} {cl : Nat → Addr} {A : Around} {E : Value → Shared → Prop} {x y : V} {v u : Value} {a b : Addr} {ep : Nat} {kvs : NKV} {k : NestedKey}
theorem nat_at (I : Inv X pins σ H s) (n : @NAt ⟨X.prog, X.w⟩ X.K cl x y H a b ep kvs k) (rx : RelV x v) (ry : RelV y u) :
    v = .ref a ∧ u = .ref b ∧ (nestedKind X.prog X.w).is s.heap k b ∧ (a == sysModules) = false ∧ kvs.length ≤ sizeLine ∧ ∃ xs, NRel kvs xs ∧ s.heap.DictOfH (nestedKind X.prog X.w) a xs := by
  obtain ⟨rfl, rfl, n1, n2, n3, n4⟩ := n
  obtain ⟨h1, h2, xs, h3, h4⟩ := nd_at I n1 n2
  exact ⟨rx, ry, nk_is I n3 n4, h1, h2, xs, h3, h4⟩
theorem n_get (hu : X.A.units + 64 < cLine) (I : Inv X pins σ H s) (n : @NAt ⟨X.prog, X.w⟩ X.K cl x y H a b ep kvs k) (rx : RelV x v) (ry : RelV y u) {w : V} (l : valN kvs k = some w) {Q : Value → Shared → Prop}
    (h : ∀ w' s', Inv X pins σ H s' → RelV w w' → Q w' s') : wpAny (model X.prog X.w) X.A (getItem v u) Q E s := by
  obtain ⟨rfl, rfl, n1, n2, n3, xs, n4, n5⟩ := nat_at I n rx ry
  obtain ⟨w', hw, rw'⟩ := RelO.some_of (v := w) (o := (atKey xs k).map (·.2)) (by rw [← l]; exact n4.val k)
  obtain ⟨p, hp, hp2⟩ := Option.map_eq_some_iff.mp hw
  refine wpAny_getItem_heap (room8 hu) n1 n5 hp ?_
  rw [hp2]
  exact h w' _ (I.tok _) rw'
theorem ix_nd (hu : X.A.units + 64 < cLine) : IxR X (@rNIx ⟨X.prog, X.w⟩ X.K cl) := by
  rintro value slice pins s σ H x y v u Q I rx ry ⟨a, b, ep, kvs, k, z, n, l, q⟩ hs
  obtain ⟨e1, e2, n1, n2, n3, xs, n4, n5⟩ := nat_at I n rx ry
  refine PyProof.Rows.tail_any (id := "dict.__getitem__") (T := "dict") (by rw [e1]; exact n5.typeIs) PySem.F.slot_dict_getitem.lookup ?_ hs
  exact n_get hu I n rx ry l fun w' s' I' r' => ⟨z, H, I', r', q⟩
theorem op_nin (hu : X.A.units + 64 < cLine) : OpR X (compareOp .In) (@rNIn ⟨X.prog, X.w⟩ X.K cl false) := by
  rintro pins s σ H y x u v Q I ry rx ⟨a, b, ep, kvs, k, n, q⟩
  obtain ⟨rfl, rfl, n1, n2, n3, xs, n4, n5⟩ := nat_at I n rx ry
  refine wpAny_in_heap (room8 hu) n1 n2 n5 ?_
  rw [n4.isSome k]
  refine ⟨_, H, I.tok _, ?_, q⟩
  cases (valN kvs k).isSome <;> rfl
theorem op_nnotin (hu : X.A.units + 64 < cLine) : OpR X (compareOp .NotIn) (@rNIn ⟨X.prog, X.w⟩ X.K cl true) := by
  rintro pins s σ H y x u v Q I ry rx ⟨a, b, ep, kvs, k, n, q⟩
  obtain ⟨rfl, rfl, n1, n2, n3, xs, n4, n5⟩ := nat_at I n rx ry
  refine PyProof.Rows.wpAny_notIn_heap (room8 hu) n1 n2 n5 ?_
  rw [n4.isSome k]
  refine ⟨_, H, I.tok _, ?_, q⟩
  cases (valN kvs k).isSome <;> rfl
theorem set_nd (hu : X.A.units + 64 < cLine) : PSet X (@rNSet ⟨X.prog, X.w⟩ X.K cl) := by
  rintro pins s σ H x y v xv yv u Q I rx ry rv ⟨a, b, ep, kvs, k, n, l, q⟩
  have hH : H a = some (@nD ⟨X.prog, X.w⟩ a ep kvs) := n.2.2.1
  obtain ⟨rfl, rfl, n1, n2, n3, xs, n4, n5⟩ := nat_at I n rx ry
  refine wpAny_setItem_heap (hsz := by rw [← Paired.length n4]; exact n3) (room8 hu) n1 n5 fun h' dd hs => ?_
  obtain ⟨o, es, ep', h1, h2, h3, h4, h5, h6⟩ := dd
  refine ⟨_, nd_write I hH hs ⟨n2, ?_, _, n4.put k b rv, h6, o, es, h1, h2, h3, h4⟩, q ep'⟩
  have := putN_length kvs k b v
  omega
theorem pe_nnew {pos : Pos} : PE X (.Dict [] [] pos) (@tNNew ⟨X.prog, X.w⟩) := by
  refine ⟨fun pins s σ H Q I h => wpAny_Dict_empty ⟨.ref s.heap.objs.size, _, I.laid (a := s.heap.objs.size) (o := @nD ⟨X.prog, X.w⟩ s.heap.objs.size 0 []) (t' := s.toks) (fun _ _ q => Heap.get?_push_of_some _ q) (Nat.le_refl _) ?_, rfl, h _ (I.hok.fresh (Nat.le_refl _))⟩⟩
  letI : Wo := ⟨X.prog, X.w⟩
  refine nD_ok ⟨beq_eq_false_iff_ne.mpr (Ne.symm (Nat.ne_of_lt I.big)), Nat.zero_le _, [], .nil, List.nodup_nil, _, #[], Heap.get?_push_size _ rfl, ⟨rfl, rfl, rfl⟩, rfl, rfl⟩

theorem isD_any {H : Hp} {a : Addr} (I : Inv X pins σ H s) (d : IsD H a ∨ @isND ⟨X.prog, X.w⟩ H a) : s.TypeIs (.ref a) "dict" ∧ (∀ b, Value.ref a = .ref b → ∃ ob, s.heap.get? b = some ob ∧ ob.dict = none) := by
  rcases d with d | ⟨ep, kvs, e⟩
  · obtain ⟨t1, t2, _⟩ := isD_at I d
    exact ⟨t1, t2⟩
  · obtain ⟨_, _, xs, _, _, o, es, e1, e2, _⟩ := nd_of I e
    refine ⟨⟨o, e1, e2.1⟩, fun b q => ?_⟩
    cases q
    exact ⟨o, e1, e2.2.1⟩
section
variable {o e f : Expr} {apos cpos pos tpos : Pos} {td ty tz : TE}
theorem pe_get1 (hu : X.A.units + 64 < cLine) (ho : PE X o td) (he : PE X e ty) (m : M1 X o "get" apos e cpos) : PE X (.Call (.Attribute o "get" apos) [e] [] cpos) (@tGet1 ⟨X.prog, X.w⟩ X.K cl td ty) := by
  refine ⟨fun pins s σ H Q I h => ?_⟩
  refine wpAny_Call_method m.base m.few m.line PySem.F.plainAttrs_dict PySem.F.slot_dict_get PySem.F.type_dict_get (thn (ho.run pins s σ H _ I h) fun u s1 ⟨x, H1, I1, rx, a, ex, d, q1⟩ => ?_)
  obtain rfl := ex
  obtain rfl : u = Value.ref a := rx
  obtain ⟨t1, t2⟩ := isD_any I1 d
  refine ⟨t1, t2, ?_⟩
  rw [m.trees]
  refine Calls.callWith_builtin rfl (Calls.evalArgs_plain (Calls.spliced_cons (thn (he.run pins s1 σ H1 _ I1 q1) fun iv s2 ⟨y, H2, I2, ry, q2⟩ => Calls.spliced_nil ?_)))
  rcases q2 with ⟨ov, g, q2⟩ | ⟨b, ep, kvs, k, n, q2⟩
  · exact d_get1 (by omega) I2 g ry fun w' s3 I3 rw' => ⟨_, H2, I3, rw', q2⟩
  · obtain ⟨-, rfl, n1, n2, n3, xs, n4, n5⟩ := nat_at I2 n rfl ry
    refine call_meetsIn PySem.F.slot_dict_get n5.typeIs PySem.F.entry_dict_get (PySem.F.args_dict_get_2 _ _) (meetsH_dict_get (nestedKind X.prog X.w) a b n2) ⟨room8 hu, k, xs, n1, n5, _, H2, I2.tok _, ?_, q2⟩
    exact (n4.val k).getD rfl
theorem pe_get2 (hu : X.A.units + 64 < cLine) (ho : PE X o td) (he : PE X e ty) (hf : PE X f tz) (m : M2 X o "get" apos e f cpos) : PE X (.Call (.Attribute o "get" apos) [e, f] [] cpos) (@tGet2 ⟨X.prog, X.w⟩ X.K cl td ty tz) := by
  refine ⟨fun pins s σ H Q I h => ?_⟩
  refine wpAny_Call_method m.base m.few m.line PySem.F.plainAttrs_dict PySem.F.slot_dict_get PySem.F.type_dict_get (thn (ho.run pins s σ H _ I h) fun u s1 ⟨x, H1, I1, rx, a, ex, d, q1⟩ => ?_)
  obtain rfl := ex
  obtain rfl : u = Value.ref a := rx
  obtain ⟨t1, t2⟩ := isD_any I1 d
  refine ⟨t1, t2, ?_⟩
  rw [m.trees]
  refine Calls.callWith_builtin rfl (Calls.evalArgs_plain (Calls.spliced_cons (thn (he.run pins s1 σ H1 _ I1 q1) fun iv s2 ⟨y, H2, I2, ry, q2⟩ => Calls.spliced_cons (thn (hf.run pins s2 σ H2 _ I2 q2) fun zv s3 ⟨z, H3, I3, rz, q3⟩ => Calls.spliced_nil ?_))))
  rcases q3 with ⟨ov, g, q3⟩ | ⟨b, ep, kvs, k, n, q3⟩
  · exact d_get2 (by omega) I3 g ry rz fun w' s4 I4 rw' => ⟨_, H3, I4, rw', q3⟩
  · obtain ⟨-, rfl, n1, n2, n3, xs, n4, n5⟩ := nat_at I3 n rfl ry
    refine call_meetsIn PySem.F.slot_dict_get n5.typeIs PySem.F.entry_dict_get (PySem.F.args_dict_get_3 _ _ _) (meetsH_dict_get_default (nestedKind X.prog X.w) a b n2 zv) ⟨room8 hu, k, xs, n1, n5, _, H3, I3.tok _, ?_, q3⟩
    exact (n4.val k).getD rz
theorem withoutH_keys {xs : List (NestedKey × Addr × Value)} {k : NestedKey} (n : (xs.map (·.1)).Nodup) : ((withoutH xs k).map (·.1)).Nodup := by
  unfold withoutH
  exact n.sublist (List.filter_sublist.map _)
theorem ps_delA (hu : X.A.units + 64 < cLine) (ho : PE X o td) (hi : PE X e ty) : PS X (.Delete [.Subscript o e tpos] pos) (@sDelA ⟨X.prog, X.w⟩ X.K cl td ty) := by
  refine ⟨fun pins s σ H D I h => ?_⟩
  refine wpAny_Delete (wpAny_deleteEach_cons (wpAny_delete_Subscript (thn (ho.run pins s σ H _ I h) fun u s1 ⟨x, H1, I1, rx, q1⟩ => thn (hi.run pins s1 σ H1 _ I1 q1) fun iv s2 ⟨y, H2, I2, ry, q2⟩ => ?_)))
  rcases q2 with ⟨a, kvs, k, ex, e, ey, l, q2⟩ | ⟨a, b, ep, kvs, k, n, l, q2⟩
  · obtain rfl := ex
    obtain rfl := ey
    obtain rfl : u = Value.ref a := rx
    exact d_delItem I2 e ry l fun s3 I3 => wpAny_deleteEach_nil ⟨σ, _, I3, q2⟩
  · have hH : H2 a = some (@nD ⟨X.prog, X.w⟩ a ep kvs) := n.2.2.1
    obtain ⟨rfl, rfl, n1, n2, n3, xs, n4, n5⟩ := nat_at I2 n rx ry
    rw [← n4.isSome k, Option.isSome_iff_exists] at l
    obtain ⟨p, hp⟩ := l
    refine wpAny_delItem_heap (hsz := by rw [← Paired.length n4]; exact n3) (room8 hu) n1 n2 n5 hp fun h' dd hs => wpAny_deleteEach_nil ?_
    obtain ⟨ob, es, ep', h1, h2, h3, h4, h5, h6⟩ := dd
    exact ⟨σ, _, nd_write I2 hH hs ⟨n2, Nat.le_trans (List.length_filter_le _ _) n3, _, n4.drop k, h6, ob, es, h1, h2, h3, h4⟩, q2 ep'⟩
end
/-! ### its keys, walked -/
theorem nrel_get {kvs : NKV} {xs : List (NestedKey × Addr × Value)} (r : NRel kvs xs) : ∀ {i : Nat} {e : NestedKey × Addr × V}, kvs[i]? = some e → ∃ f, xs[i]? = some f ∧ f.2.1 = e.2.1 := by
  induction r with
  | nil => intro i e h; simp at h
  | @cons p q ps qs hq t ih =>
    intro i e h
    cases i with
    | zero =>
      have : p = e := by simpa using h
      subst this
      exact ⟨q, rfl, hq.2.1.symm⟩
    | succ j => exact ih (by simpa using h)
theorem turn_nd {P : Program} {w : World} {K : PySem.W.Frag} {tg : Expr} (a it : Addr) (ep : Nat) (kvs : NKV) : Turn P w K tg (@ItN ⟨P, w⟩ a ep kvs) [it] it (fun i h => h.IsKeyIter it a i kvs.length ep) where
  mem := by simp
  obj := fun i h st b hb => by
    obtain rfl : b = it := by simpa using hb
    obtain ⟨oi, q1, _, q2⟩ := st
    exact ⟨oi, q1, fun v z => by rw [q2] at z; cases z⟩
  keep := fun i h h' st kp => st.at fun oi q => kp it (by simp) oi q
  item := by
    intro X hP hw hK hc i pins s σ H E I hf st hg
    subst hP hw hK
    obtain ⟨hd, hi⟩ := hg
    obtain ⟨f0, f1, f2, f3, f4, f5⟩ := hf it (by simp)
    obtain ⟨n1, n2, xs, n3, n4, o, es, n5, n6, n7, n8⟩ := nd_of I hd
    obtain ⟨e, he⟩ : ∃ e, kvs[i]? = some e := ⟨kvs[i], List.getElem?_eq_getElem hi⟩
    obtain ⟨f, hf1, hf2⟩ := nrel_get n3 he
    have hen : es[i]? = some (entryOfKey (nestedKind X.prog X.w) f) := by rw [entry_at n8 i, hf1]; rfl
    have hsz : es.size = kvs.length := (size_of_entries n8).trans (Paired.length n3).symm
    refine next_key_item st n5 n7 hsz hen fun h' st' sb => ?_
    have I1 : Inv X pins σ H { s with heap := h' } := I.turned (t' := s.toks) (fun b ob hb q => (sb.2 b hb).trans q) f0 f1 f3 f4 f5
    obtain ⟨oi, q1, q2, q3⟩ := id st'
    exact ⟨_, rfl, go_of (s := { s with heap := h' }) q1 q2 q3 (by decide) ⟨.ref e.2.1, H, I1, congrArg Value.ref hf2, ⟨rfl, e, he, rfl⟩, st', fun b hb => (hf b hb).1⟩⟩
  done := by
    intro X hP hw hK hc i pins s σ H E I hf st hg
    subst hP hw hK
    obtain ⟨hd, hi⟩ := hg
    obtain ⟨f0, f1, f2, f3, f4, f5⟩ := hf it (by simp)
    obtain ⟨n1, n2, xs, n3, n4, o, es, n5, n6, n7, n8⟩ := nd_of I hd
    have hsz : es.size = kvs.length := (size_of_entries n8).trans (Paired.length n3).symm
    exact next_key_end (I.ok.hd hc) st n5 n7 hsz hi fun h' eb => ⟨rfl, I.turned (t' := s.toks) (fun b ob hb q => eb b ob hb q) f0 f1 f3 f4 f5⟩
  self := fun A i s Q E st h => by
    refine wpAny_pyIter_slot st.typeIs PySem.F.slot_dict_keyiterator_iter (wpAny_call_entry PySem.F.slot_dict_keyiterator_iter st.typeIs PySem.F.entry_dict_keyiterator_iter ?_ (PySem.F.args_dict_keyiterator_iter_1 _))
    exact wpAny_pure ⟨_, rfl, "dict_keyiterator", _, st.typeIs, PySem.F.slot_dict_keyiterator_next.lookup, h⟩
theorem pi_nkeys {tg e : Expr} {td : TE} (he : PE X e td) : PI X tg e (@iNKeys ⟨X.prog, X.w⟩ td) := by
  refine ⟨fun pins s σ H R I h => thn (he.run pins s σ H _ I h) fun u s1 ⟨x, H1, I1, rx, a, ep, kvs, ex, hd, q⟩ => ?_⟩
  obtain rfl := ex
  obtain rfl : u = Value.ref a := rx
  obtain ⟨n1, n2, xs, n3, n4, o, es, n5, n6, n7, n8⟩ := nd_of I1 hd
  have hsz : es.size = kvs.length := (size_of_entries n8).trans (Paired.length n3).symm
  refine iter_keys n1 n5 n6 n7 (pi_one (tk := s1.toks) I1 _ (turn_nd a _ ep kvs) ⟨_, Heap.get?_push_size _ rfl, rfl, ?_⟩ q)
  rw [hsz] <;> rfl
end

/-! ### either of two readings -/
def orE (t1 t2 : TE) : TE := fun σ H Q => t1 σ H Q ∨ t2 σ H Q
theorem pe_or {X : Cx} {e : Expr} {t1 t2 : TE} (h1 : PE X e t1) (h2 : PE X e t2) : PE X e (orE t1 t2) := ⟨fun pins s σ H Q I h => h.elim (h1.run pins s σ H Q I) (h2.run pins s σ H Q I)⟩
def orI (t1 t2 : TI) : TI := fun σ H R => t1 σ H R ∨ t2 σ H R
theorem pi_or {X : Cx} {tg e : Expr} {t1 t2 : TI} (h1 : PI X tg e t1) (h2 : PI X tg e t2) : PI X tg e (orI t1 t2) := ⟨fun pins s σ H R I h => h.elim (h1.run pins s σ H R I) (h2.run pins s σ H R I)⟩
def orSet (t1 t2 : TSet) : TSet := fun o i v H Q => t1 o i v H Q ∨ t2 o i v H Q
theorem set_or {X : Cx} {t1 t2 : TSet} (h1 : PSet X t1) (h2 : PSet X t2) : PSet X (orSet t1 t2) := fun pins s σ H o i v ov iv u Q I r1 r2 r3 h => h.elim (h1 pins s σ H o i v ov iv u Q I r1 r2 r3) (h2 pins s σ H o i v ov iv u Q I r1 r2 r3)
end Cp
/-! Cp6: sorted() of data; list() and sorted() of a dict of tuples. -/
namespace Cp
open PySem L2

/-- the keys of a plain dict, as a source of items -/
theorem src_raw {P : Program} {w : World} {d : Addr} {es : Array DictEntry} {ep : Nat} (lo : (d == sysModules) = false) :
    PySem.W.KdlSrc P w "dict" d d es.size (fun i v => ∃ hi : i < es.size, v = es[i].key) (fun h => h.DictRaw d es ep) where
  type := fun _ hm => hm.typeIs
  there := fun _ hm => let ⟨_, ho, _⟩ := hm; ⟨Heap.lt_size ho, Heap.lt_size ho⟩
  keep := fun _ _ hm hk => hm.at fun o e => hk d (.inl rfl) o e
  notList := by decide
  notTuple := by decide
  hint := fun _ _ _ _ hm hq => PySem.W.kdl_hint_dict hm.typeIs hq
  iter := fun _ s hh hm => by
    have ne : d ≠ s.heap.objs.size := by
      obtain ⟨_, ho, _⟩ := hm
      exact Nat.ne_of_lt (Heap.lt_size ho)
    exact ⟨_, _, (fun _ _ hq => wpAny_pyIter_dict_raw lo hm hq), Walks.rawKeys hh _ d ne es ep, ⟨⟨_, Heap.get?_push_size _ rfl, rfl, rfl⟩, hm.at fun o e => Heap.get?_push_of_some _ e⟩⟩

abbrev refsOf (kvs : NKV) : List V := kvs.map fun e => V.ref e.2.1
theorem vals_keys {kvs : NKV} {xs : List (NestedKey × Addr × Value)} {es : Array DictEntry} {P : Program} {w : World} (r : NRel kvs xs) (he : es.toList = xs.map (entryOfKey (nestedKind P w))) {acc : Array Value}
    (h : ItemsOf (fun i v => ∃ hi : i < es.size, v = es[i].key) acc es.size) : acc.toList = kvs.map fun e => Value.ref e.2.1 := by
  have l1 : es.size = xs.length := size_of_entries he
  have l2 : kvs.length = xs.length := Paired.length r
  refine List.ext_getElem? fun i => ?_
  rw [Array.getElem?_toList, List.getElem?_map]
  by_cases hi : i < es.size
  · have hk : i < kvs.length := by omega
    have ha : i < acc.size := by rw [h.1]; exact hi
    obtain ⟨f, hf1, hf2⟩ := nrel_get r (List.getElem?_eq_getElem hk)
    have hen := entry_at he i
    rw [hf1] at hen
    obtain ⟨hi', q⟩ := h.2 i acc[i] (Array.getElem?_eq_getElem ha)
    rw [Array.getElem?_eq_getElem ha, List.getElem?_eq_getElem hk, q]
    rw [Array.getElem?_eq_getElem hi'] at hen
    have hen' := Option.some.inj hen
    rw [hen']
    exact congrArg (fun z => some (Value.ref z)) hf2
  · rw [Array.getElem?_eq_none (by rw [h.1]; omega), List.getElem?_eq_none (by omega)]
    rfl
theorem vals_refs (kvs : NKV) : Vals (refsOf kvs) (kvs.map fun e => Value.ref e.2.1) := by
  induction kvs with
  | nil => exact .nil
  | cons e kvs ih => exact .cons rfl ih

section
variable {X : Cx} {cl : Nat → Addr}
/-- list(d) -/
def rListN [Wo] : List V → Hp → VK → Prop := fun xs H Q => ∃ a ep kvs, xs = [.ref a] ∧ H a = some (nD a ep kvs) ∧ ∀ l, H l = none → Q (.ref l) (upd H l (.lst (refsOf kvs)))
theorem call_listN (hc : X.calm = true) : CallR X (.type "list") (@rListN ⟨X.prog, X.w⟩) := by
  rintro pins s σ H xs us Q I r ⟨a, ep, kvs, rfl, hd, q⟩
  obtain rfl := Vals.ref1 r
  obtain ⟨n1, n2, xs, n3, n4, o, es, n5, n6, n7, n8⟩ := nd_of I hd
  have hsz : es.size = kvs.length := (size_of_entries n8).trans (Paired.length n3).symm
  refine PySem.W.kdl_call (src_raw (es := es) (ep := ep) n1) (I.ok.hd hc) ⟨o, n5, n6, n7⟩ (by rw [hsz]; exact n2) fun h' tk acc c' hk hD hacc => ?_
  refine ⟨.ref s.heap.objs.size, _, I.laid (t' := tk) (o := .lst (refsOf kvs)) hk (Nat.le_refl _) ⟨by rw [List.length_map]; exact n2, acc.toList, c', ?_, by rw [Array.toArray_toList]; exact hD⟩, rfl, q _ (I.hok.fresh (Nat.le_refl _))⟩
  rw [vals_keys n3 n8 hacc]
  exact vals_refs kvs

/-! ### sorting -/
/-- which data sorted() takes here -/
structure Sorts (ds : List PyData) : Prop where
  alike : PySem.W.AllAlike ds
  kind : PySem.W.Sortable ds
  low : ∀ d ∈ ds, d.depth ≤ 16
def leD (x y : D) : Bool := PySem.W.dataLe false D.pyd x y
theorem reads_of {pins : List (Addr × Obj)} {σ : St} {H : Hp} {s : Shared} (I : Inv X pins σ H s) {v : V} {u : Value} {d : D} (r : Rep X.K cl H v d) (e : d.isDat = true) (q : RelV v u) : ∃ as, Reads s.heap u d.pyd as := Dp.reads I _ _ _ (r.dp e) q
theorem each_of {pins : List (Addr × Obj)} {σ : St} {H : Hp} {s : Shared} (I : Inv X pins σ H s) : ∀ {vs : List V} {us : List Value} {ds : List D}, Reps X.K cl H vs ds → D.areDat ds = true → Vals vs us →
    PySem.W.EachIs (fun u (z : V × D) => RelV z.1 u) us (vs.zip ds) ∧ PySem.W.EachIs (fun u (z : V × D) => ∃ as, Reads s.heap u z.2.pyd as) us (vs.zip ds)
  | vs, us, [], r, _, q => by
    simp only [Reps] at r
    subst r
    cases q
    exact ⟨.nil, .nil⟩
  | vs, us, d :: ds, r, e, q => by
    obtain ⟨v, ws, rfl, r1, r2⟩ := r.uncons
    simp only [D.areDat, Bool.and_eq_true] at e
    cases q with
    | cons q1 q2 =>
      obtain ⟨h1, h2⟩ := each_of I r2 e.2 q2
      exact ⟨.cons q1 h1, .cons (reads_of I r1 e.1 q1) h2⟩
theorem each_vals : ∀ {us : List Value} {zs : List (V × D)}, PySem.W.EachIs (fun u (z : V × D) => RelV z.1 u) us zs → Vals (zs.map (·.1)) us
  | _, _, .nil => .nil
  | _, _, .cons h t => .cons h (each_vals t)
theorem reps_zip {K : PySem.W.Frag} {G : Hp} : ∀ {vs : List V} {ds : List D}, Reps K cl G vs ds → ∀ z ∈ vs.zip ds, Rep K cl G z.1 z.2
  | vs, [], r, z, h => by
    rw [List.zip_nil_right] at h
    exact nomatch h
  | vs, d :: ds, r, z, h => by
    obtain ⟨v, ws, rfl, r1, r2⟩ := r.uncons
    rw [List.zip_cons_cons] at h
    rcases List.mem_cons.mp h with rfl | h
    · exact r1
    · exact reps_zip r2 z h
theorem zip_reps {K : PySem.W.Frag} {G : Hp} : ∀ {zs : List (V × D)}, (∀ z ∈ zs, Rep K cl G z.1 z.2) → Reps K cl G (zs.map (·.1)) (zs.map (·.2))
  | [], _ => Reps.nil
  | z :: zs, h => Reps.cons (h z (List.mem_cons_self ..)) (zip_reps fun y hy => h y (List.mem_cons_of_mem _ hy))
theorem zip_snd {K : PySem.W.Frag} {G : Hp} {vs : List V} {ds : List D} (r : Reps K cl G vs ds) : (vs.zip ds).map (·.2) = ds := by
  rw [List.map_snd_zip]
  rw [r.length]
  exact Nat.le_refl _
def sortZ (zs : List (V × D)) : List (V × D) := zs.mergeSort (PySem.W.dataLe false fun z => z.2.pyd)
theorem sortZ_snd {zs : List (V × D)} : (sortZ zs).map (·.2) = (zs.map (·.2)).mergeSort leD := List.map_mergeSort fun a _ b _ => rfl
/-- sorted(xs), xs a list of data -/
def rSortD (K : PySem.W.Frag) (cl : Nat → Addr) : List V → Hp → VK → Prop := fun xs H Q => ∃ a vs ds, xs = [.ref a] ∧ SqL K H a vs ∧ Reps K cl H vs ds ∧ D.areDat ds = true ∧ Sorts (ds.map D.pyd) ∧ ∀ l, H l = none → Q (.ref l) (upd H l (.lst ((sortZ (vs.zip ds)).map (·.1))))
theorem call_sortD (hu : X.A.units + 64 < cLine) : CallR X (.builtin "sorted") (rSortD X.K cl) := by
  rintro pins s σ H xs us Q I r ⟨a, vs, ds, rfl, sq, rs, hd, so, q⟩
  obtain rfl := Vals.ref1 r
  obtain ⟨its, rv, pl, hz⟩ := I.list sq
  obtain ⟨e1, e2⟩ := each_of I rs hd rv
  have hmap : ((vs.zip ds).map fun z => z.2.pyd) = ds.map D.pyd := by
    have h1 : ((vs.zip ds).map fun z => z.2.pyd) = ((vs.zip ds).map (·.2)).map D.pyd := by rw [List.map_map]; rfl
    rw [h1, zip_snd rs]
  have hlen : (vs.zip ds).length = ds.length := by rw [List.length_zip, rs.length, Nat.min_self]
  refine PySem.W.sorted_data (enc := fun z : V × D => z.2.pyd) pl.isList e1 e2 (by rw [hmap]; exact so.alike) (by rw [hmap]; exact so.kind) (by rw [hlen, ← rs.length]; exact hz) (fun b hb => ?_) fun out ho eo => ?_
  · have := so.low b.2.pyd (by rw [← hmap]; exact List.mem_map.mpr ⟨b, hb, rfl⟩)
    omega
  · obtain ⟨c, hc⟩ := PyProof.Rows.sortedAll_at s.heap its out.toArray
    have hl2 : ((sortZ (vs.zip ds)).map (·.1)).length ≤ sizeLine := by
      rw [List.length_map]
      unfold sortZ
      rw [List.length_mergeSort, hlen, ← rs.length]
      exact hz
    exact ⟨.ref (s.heap.objs.size + 1), _, I.laid (t' := s.toks) (o := .lst ((sortZ (vs.zip ds)).map (·.1))) (fun _ _ => PyProof.Rows.sortedAll_old) (Nat.le_succ _) ⟨hl2, out, c, each_vals eo, hc⟩, rfl, q _ (I.hok.fresh (Nat.le_succ _))⟩
mutual
theorem key_noas {h : Heap} : ∀ (k : NestedKey) (u : Value) (as : List Addr), Reads h u (keyD k).pyd as → as = []
  | .none, _, _, r => by simp only [keyD, D.pyd] at r; cases r; rfl
  | .num _, _, _, r => by simp only [keyD, D.pyd] at r; cases r; rfl
  | .text _, _, _, r => by simp only [keyD, D.pyd] at r; cases r; rfl
  | .tup ks, _, _, r => by
    simp only [keyD, D.pyd] at r
    cases r with
    | tuple h1 h2 h3 h4 => exact keys_noas ks _ _ h4
theorem keys_noas {h : Heap} : ∀ (ks : List NestedKey) (us : List Value) (as : List Addr), ReadsAll h us (D.pyds (keyDs ks)) as → as = []
  | [], _, _, r => by simp only [keyDs, D.pyds] at r; cases r; rfl
  | k :: ks, _, _, r => by
    simp only [keyDs, D.pyds] at r
    cases r with
    | cons h1 h2 => rw [key_noas k _ _ h1, keys_noas ks _ _ h2]; rfl
end
/-- sorted(d), d a dict of tuples -/
def sortN (kvs : NKV) : NKV := kvs.mergeSort (PySem.W.dataLe false fun e => (keyD e.1).pyd)
def rSortN [Wo] (K : PySem.W.Frag) (cl : Nat → Addr) : List V → Hp → VK → Prop := fun xs H Q => ∃ a ep kvs, xs = [.ref a] ∧ H a = some (nD a ep kvs) ∧ NKeys K cl H kvs ∧ (∀ e ∈ kvs, (keyD e.1).isDat = true) ∧ Sorts (kvs.map fun e => (keyD e.1).pyd) ∧
  ∀ l, H l = none → Q (.ref l) (upd H l (.lst (refsOf (sortN kvs))))
theorem call_sortN (hc : X.calm = true) (hu : X.A.units + 64 < cLine) : CallR X (.builtin "sorted") (@rSortN ⟨X.prog, X.w⟩ X.K cl) := by
  rintro pins s σ H xs us Q I r ⟨a, ep, kvs, rfl, hd, nk, hdat, so, q⟩
  obtain rfl := Vals.ref1 r
  obtain ⟨n1, n2, xs, n3, n4, o, es, n5, n6, n7, n8⟩ := nd_of I hd
  have hsz : es.size = kvs.length := (size_of_entries n8).trans (Paired.length n3).symm
  refine Calls.call_function_entry PyProof.Rows.kind_sorted PyProof.Rows.plain_sorted PyProof.Rows.entry_sorted (PyProof.Rows.args_sorted1 _) ?_
  unfold Builtin.«sorted»
  refine wpAny_bind (m := checkCount "sorted" 1 1 _) (wpAny_pure ?_)
  refine wpAny_bind (PySem.W.kdu_collect (A := X.A.in1) (src_raw (es := es) (ep := ep) n1) (I.ok.hd hc) ⟨o, n5, n6, n7⟩ (by rw [hsz]; exact n2) fun h' tk acc hk hacc => ?_)
  have hacc' := vals_keys n3 n8 hacc
  have I1 : Inv X pins σ H { s with heap := h', toks := tk } := I.kept hk
  have hl : acc.toList.length = kvs.length := by rw [hacc', List.length_map]
  refine wpAny_bind (wpAny_newList ?_ (by rw [hl]; exact n2))
  have hoL : (h'.push (PyProof.Rows.seqObj "list" acc.toList.toArray 0)).get? h'.objs.size = some (PyProof.Rows.seqObj "list" acc.toList.toArray 0) := Heap.get?_push_size _ rfl
  have keep : ∀ b u, h'.get? b = some u → (h'.push (PyProof.Rows.seqObj "list" acc.toList.toArray 0)).get? b = some u := fun b u e => Heap.get?_push_of_some _ e
  have eI : ∀ (l : NKV), (∀ e ∈ l, e ∈ kvs) → PySem.W.EachIs (fun u (e : NestedKey × Addr × V) => u = Value.ref e.2.1) (l.map fun e => Value.ref e.2.1) l ∧
      PySem.W.EachIs (fun u (e : NestedKey × Addr × V) => ∃ as, Reads (h'.push (PyProof.Rows.seqObj "list" acc.toList.toArray 0)) u (keyD e.1).pyd as ∧ h'.objs.size ∉ as) (l.map fun e => Value.ref e.2.1) l := by
    intro l hl
    induction l with
    | nil => exact ⟨.nil, .nil⟩
    | cons e l ih =>
      obtain ⟨h1, h2⟩ := ih fun f hf => hl f (List.mem_cons_of_mem _ hf)
      have he := hl e (List.mem_cons_self ..)
      obtain ⟨as, ra⟩ := reads_of I1 (nk e he).1 (hdat e he) (u := Value.ref e.2.1) rfl
      refine ⟨.cons rfl h1, .cons ⟨as, PyProof.Rows.Reads.keeps keep ra, fun hm => ?_⟩ h2⟩
      rw [key_noas _ _ _ ra] at hm
      exact nomatch hm
  obtain ⟨e1, e2⟩ := eI kvs fun _ h => h
  rw [← hacc'] at e1 e2
  refine wpAny_bind (wpAny_holding (PySem.W.list_sort_data (A := X.A.in1) (s := { s with heap := h'.push (PyProof.Rows.seqObj "list" acc.toList.toArray 0), toks := tk }) (enc := fun e : NestedKey × Addr × V => (keyD e.1).pyd)
    hoL e1 e2 so.alike so.kind n2 (fun b hb => ?_) fun out ho eo => ?_))
  · have := so.low (keyD b.1).pyd (List.mem_map.mpr ⟨b, hb, rfl⟩)
    rw [Around.in1_units]
    omega
  · obtain ⟨c, hc'⟩ := PyProof.Rows.sortedHeap_at (vs := acc.toList) (out := out.toArray) hoL
    have hlen : (refsOf (sortN kvs)).length ≤ sizeLine := by
      rw [List.length_map]
      unfold sortN
      rw [List.length_mergeSort]
      exact n2
    have hv : Vals (refsOf (sortN kvs)) out := by
      have : out = (sortN kvs).map fun e => Value.ref e.2.1 := by
        have go : ∀ {us : List Value} {l : NKV}, PySem.W.EachIs (fun u (e : NestedKey × Addr × V) => u = Value.ref e.2.1) us l → us = l.map fun e => Value.ref e.2.1 := by
          intro us l h
          induction h with
          | nil => rfl
          | cons h t ih => rw [h, ih]; rfl
        exact go eo
      rw [this]
      exact vals_refs _
    refine wpAny_pure ⟨_, rfl, .ref h'.objs.size, _, I1.laid (t' := tk) (o := .lst (refsOf (sortN kvs))) (fun b u e => ?_) (Nat.le_refl _) ⟨hlen, out, c, hv, hc'⟩, rfl, q _ (I1.hok.fresh (Nat.le_refl _))⟩
    have hb : b < h'.objs.size := Heap.lt_size e
    rw [PyProof.Rows.sortedHeap_old (Nat.ne_of_lt hb) (by rw [Heap.size_push]; exact Nat.lt_succ_of_lt hb)]
    exact Heap.get?_push_of_some _ e
end
end Cp
/-! Cp7: dicts as data: what is asked, written and walked. -/
namespace Cp
open PySem L2

/-! ### association lists -/
section
variable {κ : Type} [DecidableEq κ] {β : Type}
def valG (kds : List (κ × β)) (k : κ) : Option β := (kds.find? fun x => decide (x.1 = k)).map (·.2)
def putG (kds : List (κ × β)) (k : κ) (d : β) : List (κ × β) := if (valG kds k).isSome then kds.map (fun x => if x.1 = k then (x.1, d) else x) else kds ++ [(k, d)]
def dropG (kds : List (κ × β)) (k : κ) : List (κ × β) := kds.filter fun x => decide (x.1 ≠ k)
end
section
variable (K : PySem.W.Frag) (cl : Nat → Addr)
def NRep (G : Hp) : NKV → List (NestedKey × D) → Prop := Paired fun p q => p.1 = q.1 ∧ Rep K cl G (.ref p.2.1) (keyD p.1) ∧ p.1.depth ≤ 8 ∧ Rep K cl G p.2.2 q.2
def KRep (G : Hp) : List (Key × V) → List (Key × D) → Prop := Paired fun p q => p.1 = q.1 ∧ Rep K cl G p.2 q.2
end
section
variable {K : PySem.W.Frag} {cl : Nat → Addr} {G G' : Hp} {kvs : NKV} {kds : List (NestedKey × D)} {kws : List (Key × V)} {kes : List (Key × D)}
theorem NRep.mono (s : Same G G') (r : NRep K cl G kvs kds) : NRep K cl G' kvs kds := Paired.mapP r fun _ _ h => ⟨h.1, h.2.1.mono s, h.2.2.1, h.2.2.2.mono s⟩
theorem KRep.mono (s : Same G G') (r : KRep K cl G kws kes) : KRep K cl G' kws kes := Paired.mapP r fun _ _ h => ⟨h.1, h.2.mono s⟩
theorem NRep.keys (r : NRep K cl G kvs kds) : NKeys K cl G kvs := by
  induction r with
  | nil => intro e he; exact nomatch he
  | cons h t ih =>
    intro e he
    rcases List.mem_cons.mp he with rfl | he
    · exact ⟨h.2.1, h.2.2.1⟩
    · exact ih e he
theorem NKeys.mono (s : Same G G') (n : NKeys K cl G kvs) : NKeys K cl G' kvs := fun e he => ⟨(n e he).1.mono s, (n e he).2⟩
theorem NRep.length (r : NRep K cl G kvs kds) : kvs.length = kds.length := Paired.length r
theorem KRep.length (r : KRep K cl G kws kes) : kws.length = kes.length := Paired.length r
theorem NRep.val (r : NRep K cl G kvs kds) (k : NestedKey) : (valN kvs k = none ∧ valG kds k = none) ∨ ∃ v d, valN kvs k = some v ∧ valG kds k = some d ∧ Rep K cl G v d := by
  induction r with
  | nil => exact .inl ⟨rfl, rfl⟩
  | @cons p q ps qs h t ih =>
    unfold valN valG
    rw [List.find?_cons, List.find?_cons, ← h.1]
    by_cases e : p.1 = k
    · rw [decide_eq_true e]
      exact .inr ⟨_, _, rfl, rfl, h.2.2.2⟩
    · rw [decide_eq_false e]
      exact ih
theorem KRep.val (r : KRep K cl G kws kes) (k : Key) : (valV kws k = none ∧ valG kes k = none) ∨ ∃ v d, valV kws k = some v ∧ valG kes k = some d ∧ Rep K cl G v d := by
  induction r with
  | nil => exact .inl ⟨rfl, rfl⟩
  | @cons p q ps qs h t ih =>
    unfold valV valG
    rw [List.find?_cons, List.find?_cons, ← h.1]
    by_cases e : p.1 = k
    · rw [decide_eq_true e]
      exact .inr ⟨_, _, rfl, rfl, h.2⟩
    · rw [decide_eq_false e]
      exact ih
theorem NRep.some (r : NRep K cl G kvs kds) {k : NestedKey} {d : D} (h : valG kds k = some d) : ∃ v, valN kvs k = .some v ∧ Rep K cl G v d := by
  rcases r.val k with ⟨_, e⟩ | ⟨v, d', e1, e2, rv⟩
  · rw [e] at h; cases h
  · rw [e2] at h
    exact ⟨v, e1, (Option.some.inj h) ▸ rv⟩
theorem KRep.some (r : KRep K cl G kws kes) {k : Key} {d : D} (h : valG kes k = some d) : ∃ v, valV kws k = .some v ∧ Rep K cl G v d := by
  rcases r.val k with ⟨_, e⟩ | ⟨v, d', e1, e2, rv⟩
  · rw [e] at h; cases h
  · rw [e2] at h
    exact ⟨v, e1, (Option.some.inj h) ▸ rv⟩
theorem NRep.isSome (r : NRep K cl G kvs kds) (k : NestedKey) : (valN kvs k).isSome = (valG kds k).isSome := by
  rcases r.val k with ⟨e1, e2⟩ | ⟨v, d', e1, e2, rv⟩ <;> rw [e1, e2] <;> rfl
theorem KRep.isSome (r : KRep K cl G kws kes) (k : Key) : (valV kws k).isSome = (valG kes k).isSome := by
  rcases r.val k with ⟨e1, e2⟩ | ⟨v, d', e1, e2, rv⟩ <;> rw [e1, e2] <;> rfl
theorem NRep.getD (r : NRep K cl G kvs kds) (k : NestedKey) {z : V} {c : D} (hz : Rep K cl G z c) : Rep K cl G ((valN kvs k).getD z) ((valG kds k).getD c) := by
  rcases r.val k with ⟨e1, e2⟩ | ⟨v, d', e1, e2, rv⟩ <;> rw [e1, e2]
  · exact hz
  · exact rv
theorem KRep.getD (r : KRep K cl G kws kes) (k : Key) {z : V} {c : D} (hz : Rep K cl G z c) : Rep K cl G ((valV kws k).getD z) ((valG kes k).getD c) := by
  rcases r.val k with ⟨e1, e2⟩ | ⟨v, d', e1, e2, rv⟩ <;> rw [e1, e2]
  · exact hz
  · exact rv
theorem NRep.put (r : NRep K cl G kvs kds) {k : NestedKey} {b : Addr} {v : V} {d : D} (hk : Rep K cl G (.ref b) (keyD k)) (h8 : k.depth ≤ 8) (hv : Rep K cl G v d) : NRep K cl G (putN kvs k b v) (putG kds k d) := by
  unfold putN putG
  rw [r.isSome k]
  cases (valG kds k).isSome with
  | true =>
    simp only [if_true]
    induction r with
    | nil => exact .nil
    | @cons p q ps qs h t ih =>
      refine .cons ?_ ih
      dsimp only
      by_cases e : p.1 = k
      · rw [if_pos e, if_pos (h.1 ▸ e)]
        exact ⟨h.1, h.2.1, h.2.2.1, hv⟩
      · rw [if_neg e, if_neg (h.1 ▸ e)]
        exact h
  | false =>
    simp only [Bool.false_eq_true, if_false]
    induction r with
    | nil => exact .cons ⟨rfl, hk, h8, hv⟩ .nil
    | cons h t ih => exact .cons h ih
theorem KRep.put (r : KRep K cl G kws kes) {k : Key} {v : V} {d : D} (hv : Rep K cl G v d) : KRep K cl G (putK kws k v) (putG kes k d) := by
  unfold putK putG
  rw [valV_any, r.isSome k]
  cases (valG kes k).isSome with
  | true =>
    simp only [if_true]
    induction r with
    | nil => exact .nil
    | @cons p q ps qs h t ih =>
      refine .cons ?_ ih
      dsimp only
      by_cases e : p.1 = k
      · rw [if_pos e, if_pos (h.1 ▸ e)]
        exact ⟨h.1, hv⟩
      · rw [if_neg e, if_neg (h.1 ▸ e)]
        exact h
  | false =>
    simp only [Bool.false_eq_true, if_false]
    induction r with
    | nil => exact .cons ⟨rfl, hv⟩ .nil
    | cons h t ih => exact .cons h ih
theorem NRep.drop (r : NRep K cl G kvs kds) (k : NestedKey) : NRep K cl G (dropN kvs k) (dropG kds k) := by
  unfold dropN dropG
  induction r with
  | nil => exact .nil
  | @cons p q ps qs h t ih =>
    rw [List.filter_cons, List.filter_cons]
    by_cases e : p.1 = k
    · rw [if_neg (by simp [e]), if_neg (by rw [← h.1]; simp [e])]
      exact ih
    · rw [if_pos (by simp [e]), if_pos (by rw [← h.1]; simp [e])]
      exact .cons h ih
theorem KRep.drop (r : KRep K cl G kws kes) (k : Key) : KRep K cl G (dropK kws k) (dropG kes k) := by
  unfold dropK dropG
  induction r with
  | nil => exact .nil
  | @cons p q ps qs h t ih =>
    rw [List.filter_cons, List.filter_cons]
    by_cases e : p.1 = k
    · rw [if_neg (by simp [e]), if_neg (by rw [← h.1]; simp [e])]
      exact ih
    · rw [if_pos (by simp [e]), if_pos (by rw [← h.1]; simp [e])]
      exact .cons h ih
theorem NRep.refs (r : NRep K cl G kvs kds) : Reps K cl G (refsOf kvs) (kds.map fun e => keyD e.1) := by
  induction r with
  | nil => exact Reps.nil
  | @cons p q ps qs h t ih =>
    refine Reps.cons ?_ ih
    show Rep K cl G (.ref p.2.1) (keyD q.1)
    rw [← h.1]
    exact h.2.1
theorem NRep.fst (r : NRep K cl G kvs kds) : kvs.map (fun e => keyD e.1) = kds.map fun e => keyD e.1 := by
  induction r with
  | nil => rfl
  | cons h t ih => rw [List.map_cons, List.map_cons, ih, h.1]
theorem NKeys.refs (n : NKeys K cl G kvs) : Reps K cl G (refsOf kvs) (kvs.map fun e => keyD e.1) := Reps.map fun e he => (n e he).1
theorem NRep.sorted (r : NRep K cl G kvs kds) : Reps K cl G (refsOf (sortN kvs)) ((kds.map fun e => keyD e.1).mergeSort leD) := by
  have h1 : NKeys K cl G (sortN kvs) := fun e he => r.keys e ((List.mergeSort_perm _ _).mem_iff.mp he)
  have h2 := h1.refs
  have h3 : (sortN kvs).map (fun e => keyD e.1) = (kvs.map fun e => keyD e.1).mergeSort leD := List.map_mergeSort fun a _ b _ => rfl
  rw [h3, r.fst] at h2
  exact h2
end

/-! ### the readings, either kind of dict -/
section
variable [Wo] (K : PySem.W.Frag) (cl : Nat → Addr)
def rIxK : R2 := fun x y H Q => ∃ a v, x = .ref a ∧ DGet H a y (some v) ∧ Q v H
/-- d[k] of a dict -/
def rIxA : R2 := orR rIxK (rNIx K cl)
def rInK (neg : Bool) : R2 := fun y x H Q => ∃ a o, x = .ref a ∧ DGet H a y o ∧ Q (.bl (neg != o.isSome)) H
/-- k in d of a dict -/
def rInA (neg : Bool) : R2 := orR (rInK neg) (rNIn K cl neg)
/-- d[k] = v of a dict -/
def rSetA : TSet := orSet rSetD (rNSet K cl)
/-- {} -/
def tNew : TE := orE tDNewK tNNew
/-- list(d), sorted(d) of a list or a dict -/
def rListD : List V → Hp → VK → Prop := fun xs H Q => rListN xs H Q
def rSortA : List V → Hp → VK → Prop := fun xs H Q => rSortD K cl xs H Q ∨ rSortN K cl xs H Q
end
section
variable {X : Cx} {cl : Nat → Addr}
theorem ix_dict (hu : X.A.units + 64 < cLine) : IxR X rIxK := by
  rintro value slice pins s σ H x y v u Q I rx ry ⟨a, z, rfl, g, q⟩ hs
  obtain rfl : v = Value.ref a := rx
  exact PyProof.Rows.tail_any (id := "dict.__getitem__") (T := "dict") (dict_typeIs I g) PySem.F.slot_dict_getitem.lookup (d_getItem (by omega) I g ry fun w' s' I' r' => ⟨z, H, I', r', q⟩) hs
theorem ix_dictA (hu : X.A.units + 64 < cLine) : IxR X (@rIxA ⟨X.prog, X.w⟩ X.K cl) := (ix_dict hu).or (ix_nd hu)
theorem op_inK (hu : X.A.units + 64 < cLine) : OpR X (compareOp .In) (rInK false) := by
  rintro pins s σ H y x u v Q I ry rx ⟨a, o, rfl, g, q⟩
  obtain rfl : v = Value.ref a := rx
  refine d_in (by omega) I g ry fun s' I' => ⟨.bl o.isSome, H, I', rfl, ?_⟩
  cases o <;> exact q
theorem op_notInK (hu : X.A.units + 64 < cLine) : OpR X (compareOp .NotIn) (rInK true) := by
  rintro pins s σ H y x u v Q I ry rx ⟨a, o, rfl, g, q⟩
  obtain rfl : v = Value.ref a := rx
  refine d_notIn (by omega) I g ry fun s' I' => ⟨.bl (!o.isSome), H, I', rfl, ?_⟩
  cases o <;> exact q
theorem op_inA (hu : X.A.units + 64 < cLine) : OpR X (compareOp .In) (@rInA ⟨X.prog, X.w⟩ X.K cl false) := op_or (op_inK hu) (op_nin hu)
theorem op_notInA (hu : X.A.units + 64 < cLine) : OpR X (compareOp .NotIn) (@rInA ⟨X.prog, X.w⟩ X.K cl true) := op_or (op_notInK hu) (op_nnotin hu)
theorem set_dictA (hu : X.A.units + 64 < cLine) : PSet X (@rSetA ⟨X.prog, X.w⟩ X.K cl) := set_or (set_dict (by omega)) (set_nd hu)
theorem pe_new {pos : Pos} : PE X (.Dict [] [] pos) (@tNew ⟨X.prog, X.w⟩) := pe_or pe_dnewK pe_nnew
theorem call_sortA (hc : X.calm = true) (hu : X.A.units + 64 < cLine) : CallR X (.builtin "sorted") (@rSortA ⟨X.prog, X.w⟩ X.K cl) := fun pins s σ H xs us Q I r h => h.elim (call_sortD hu pins s σ H xs us Q I r) (call_sortN hc hu pins s σ H xs us Q I r)
end

/-! ### rules -/
section
variable [Wo] {K : PySem.W.Frag} {cl : Nat → Addr} {p q r : Bool} {M M1 M2 M3 M4 : ML} {G G1 G2 G3 H H1 H2 H3 : Hp} {σ : St} {ta tb tc te : TE} {tx : TA} {tt tu : TT} {d d1 d2 d3 : D} {ds es : List D}
variable {a : Addr} {ep : Nat} {kvs : NKV} {kds : List (NestedKey × D)} {kws : List (Key × V)} {kes : List (Key × D)} {nx : St → Hp → Prop} {rt : VK} {bk ct : St → Hp → Prop}
def kD : Key → D
  | .inl i => .int i
  | .inr x => .str x
theorem rep_kD {G : Hp} {v : V} {k : Key} (h : Rep K cl G v (kD k)) : v = kV k := by
  cases k with
  | inl i => exact h.of_int
  | inr x => exact h.of_str
/-- a key is a tuple, not too deep -/
structure IsNK (k : NestedKey) : Prop where
  tup : ∃ ks, k = .tup ks
  low : k.depth ≤ 8
theorem nkey_ref {G : Hp} {v : V} {k : NestedKey} (h : Rep K cl G v (keyD k)) (i : IsNK k) : ∃ b, v = .ref b := by
  obtain ⟨ks, rfl⟩ := i.tup
  simp only [keyD] at h
  obtain ⟨b, vs, e, _⟩ := h.of_tup
  exact ⟨b, e⟩
theorem nat_mk {G1 G2 H2 : Hp} {y : V} {k : NestedKey} (S : Sep G2 H2 M2) (hm : At M2 a (nD a ep kvs)) (hr : NRep K cl G1 kvs kds) (s : Same G1 G2) (ry : Rep K cl G2 y (keyD k)) (i : IsNK k) : ∃ b, y = .ref b ∧ NAt K cl (.ref a) y H2 a b ep kvs k := by
  obtain ⟨b, rfl⟩ := nkey_ref ry i
  exact ⟨b, rfl, rfl, rfl, S.look hm, ((hr.mono s).mono S.sub).keys, ry.mono S.sub, i.low⟩
theorem ev_nget {k : NestedKey} (ha : EvX K cl p ta σ G M (.loc a) M1) (hb : EvX K cl q tb σ G M1 d1 M2) (hk : d1 = keyD k) (i : IsNK k) (hm : At M2 a (nD a ep kvs)) (hr : NRep K cl G kvs kds) (hv : valG kds k = some d) :
    EvX K cl (p && q) (tOp (rIxA K cl) ta tb) σ G M d M2 := fun G1 H1 s S Q kk =>
  ha G1 H1 s S _ fun x G2 H2 g2 rx => hb G2 H2 (s.trans g2.same) g2.sep _ fun y G3 H3 g3 ry => by
    obtain rfl := rx.of_loc
    rw [hk] at ry
    obtain ⟨b, rfl, n⟩ := nat_mk g3.sep hm hr ((s.trans g2.same).trans g3.same) ry i
    obtain ⟨v, e, rv⟩ := hr.some hv
    exact .inr ⟨a, b, ep, kvs, k, v, n, e, kk v G3 H3 (g2.trans g3) (rv.mono ((s.trans g2.same).trans g3.same))⟩
theorem ev_kget {k : Key} (ha : EvX K cl p ta σ G M (.loc a) M1) (hb : EvX K cl q tb σ G M1 d1 M2) (hk : d1 = kD k) (hm : At M2 a (.dK kws)) (hr : KRep K cl G kws kes) (hv : valG kes k = some d) :
    EvX K cl (p && q) (tOp (rIxA K cl) ta tb) σ G M d M2 := fun G1 H1 s S Q kk =>
  ha G1 H1 s S _ fun x G2 H2 g2 rx => hb G2 H2 (s.trans g2.same) g2.sep _ fun y G3 H3 g3 ry => by
    obtain rfl := rx.of_loc
    rw [hk] at ry
    obtain ⟨v, e, rv⟩ := hr.some hv
    exact .inl ⟨a, v, rfl, .inl ⟨kws, k, .inl (g3.sep.look hm), rep_kD ry, e.symm⟩, kk v G3 H3 (g2.trans g3) (rv.mono ((s.trans g2.same).trans g3.same))⟩
theorem ev_nin {k : NestedKey} {neg : Bool} (hb : EvX K cl p tb σ G M d1 M1) (ha : EvX K cl q ta σ G M1 (.loc a) M2) (hk : d1 = keyD k) (i : IsNK k) (hm : At M2 a (nD a ep kvs)) (hr : NRep K cl G kvs kds) :
    EvX K cl (p && q) (tOp (rInA K cl neg) tb ta) σ G M (.bl (neg != (valG kds k).isSome)) M2 := fun G1 H1 s S Q kk =>
  hb G1 H1 s S _ fun y G2 H2 g2 ry => ha G2 H2 (s.trans g2.same) g2.sep _ fun x G3 H3 g3 rx => by
    obtain rfl := rx.of_loc
    rw [hk] at ry
    obtain ⟨b, rfl, n⟩ := nat_mk g3.sep hm hr ((s.trans g2.same).trans g3.same) (ry.mono g3.same) i
    refine .inr ⟨a, b, ep, kvs, k, n, ?_⟩
    rw [hr.isSome]
    exact kk _ G3 H3 (g2.trans g3) Rep.bl
theorem ev_kin {k : Key} {neg : Bool} (hb : EvX K cl p tb σ G M d1 M1) (ha : EvX K cl q ta σ G M1 (.loc a) M2) (hk : d1 = kD k) (hm : At M2 a (.dK kws)) (hr : KRep K cl G kws kes) :
    EvX K cl (p && q) (tOp (rInA K cl neg) tb ta) σ G M (.bl (neg != (valG kes k).isSome)) M2 := fun G1 H1 s S Q kk =>
  hb G1 H1 s S _ fun y G2 H2 g2 ry => ha G2 H2 (s.trans g2.same) g2.sep _ fun x G3 H3 g3 rx => by
    obtain rfl := rx.of_loc
    rw [hk] at ry
    refine .inl ⟨a, _, rfl, .inl ⟨kws, k, .inl (g3.sep.look hm), rep_kD ry, rfl⟩, ?_⟩
    rw [hr.isSome]
    exact kk _ G3 H3 (g2.trans g3) Rep.bl
theorem ev_nget1 {k : NestedKey} (ha : EvX K cl p ta σ G M (.loc a) M1) (hb : EvX K cl q tb σ G M1 d1 M2) (hk : d1 = keyD k) (i : IsNK k) (hm1 : At M1 a (nD a ep kvs)) (hm : At M2 a (nD a ep kvs)) (hr : NRep K cl G kvs kds) :
    EvX K cl (p && q) (tGet1 K cl ta tb) σ G M ((valG kds k).getD .non) M2 := fun G1 H1 s S Q kk =>
  ha G1 H1 s S _ fun x G2 H2 g2 rx => ⟨a, rx.of_loc, .inr ⟨ep, kvs, g2.sep.look hm1⟩, hb G2 H2 (s.trans g2.same) g2.sep _ fun y G3 H3 g3 ry => by
    obtain rfl := rx.of_loc
    rw [hk] at ry
    obtain ⟨b, rfl, n⟩ := nat_mk g3.sep hm hr ((s.trans g2.same).trans g3.same) ry i
    exact .inr ⟨b, ep, kvs, k, n, kk _ G3 H3 (g2.trans g3) ((hr.getD k Rep.non).mono ((s.trans g2.same).trans g3.same))⟩⟩
theorem ev_kget1 {k : Key} (ha : EvX K cl p ta σ G M (.loc a) M1) (hb : EvX K cl q tb σ G M1 d1 M2) (hk : d1 = kD k) (hm1 : At M1 a (.dK kws)) (hm : At M2 a (.dK kws)) (hr : KRep K cl G kws kes) :
    EvX K cl (p && q) (tGet1 K cl ta tb) σ G M ((valG kes k).getD .non) M2 := fun G1 H1 s S Q kk =>
  ha G1 H1 s S _ fun x G2 H2 g2 rx => ⟨a, rx.of_loc, .inl (.inl ⟨kws, .inl (g2.sep.look hm1)⟩), hb G2 H2 (s.trans g2.same) g2.sep _ fun y G3 H3 g3 ry => by
    rw [hk] at ry
    exact .inl ⟨_, .inl ⟨kws, k, .inl (g3.sep.look hm), rep_kD ry, rfl⟩, kk _ G3 H3 (g2.trans g3) ((hr.getD k Rep.non).mono ((s.trans g2.same).trans g3.same))⟩⟩
theorem ev_nget2 {k : NestedKey} (ha : EvX K cl p ta σ G M (.loc a) M1) (hb : EvX K cl q tb σ G M1 d1 M2) (hz : EvX K cl r tc σ G M2 d2 M3) (hk : d1 = keyD k) (i : IsNK k) (hm1 : At M1 a (nD a ep kvs)) (hm : At M3 a (nD a ep kvs)) (hr : NRep K cl G kvs kds) :
    EvX K cl (p && q && r) (tGet2 K cl ta tb tc) σ G M ((valG kds k).getD d2) M3 := fun G1 H1 s S Q kk =>
  ha G1 H1 s S _ fun x G2 H2 g2 rx => ⟨a, rx.of_loc, .inr ⟨ep, kvs, g2.sep.look hm1⟩, hb G2 H2 (s.trans g2.same) g2.sep _ fun y G3 H3 g3 ry => hz G3 H3 ((s.trans g2.same).trans g3.same) g3.sep _ fun z G4 H4 g4 rz => by
    obtain rfl := rx.of_loc
    rw [hk] at ry
    have sA := ((s.trans g2.same).trans g3.same).trans g4.same
    obtain ⟨b, rfl, n⟩ := nat_mk g4.sep hm hr sA (ry.mono g4.same) i
    exact .inr ⟨b, ep, kvs, k, n, kk _ G4 H4 ((g2.trans g3).trans g4) ((hr.mono sA).getD k rz)⟩⟩
theorem ev_kget2 {k : Key} (ha : EvX K cl p ta σ G M (.loc a) M1) (hb : EvX K cl q tb σ G M1 d1 M2) (hz : EvX K cl r tc σ G M2 d2 M3) (hk : d1 = kD k) (hm1 : At M1 a (.dK kws)) (hm : At M3 a (.dK kws)) (hr : KRep K cl G kws kes) :
    EvX K cl (p && q && r) (tGet2 K cl ta tb tc) σ G M ((valG kes k).getD d2) M3 := fun G1 H1 s S Q kk =>
  ha G1 H1 s S _ fun x G2 H2 g2 rx => ⟨a, rx.of_loc, .inl (.inl ⟨kws, .inl (g2.sep.look hm1)⟩), hb G2 H2 (s.trans g2.same) g2.sep _ fun y G3 H3 g3 ry => hz G3 H3 ((s.trans g2.same).trans g3.same) g3.sep _ fun z G4 H4 g4 rz => by
    rw [hk] at ry
    have sA := ((s.trans g2.same).trans g3.same).trans g4.same
    exact .inl ⟨_, .inl ⟨kws, k, .inl (g4.sep.look hm), rep_kD (ry.mono g4.same), rfl⟩, kk _ G4 H4 ((g2.trans g3).trans g4) ((hr.mono sA).getD k rz)⟩⟩
theorem eg_newN {F : V → Hp → ML → Prop} (hF : ∀ u, F (.ref u) G ((u, nD u 0 []) :: M)) (hm : ∀ v G' M', Same G G' → F v G M' → F v G' M') : EvG tNew σ G M F := fun G1 H1 s S Q k =>
  .inr fun u hu => k (.ref u) G1 _ _ (Same.refl _) (S.newM hu) (hm _ _ _ s (hF u))
theorem eg_newK {F : V → Hp → ML → Prop} (hF : ∀ u, F (.ref u) G ((u, .dK []) :: M)) (hm : ∀ v G' M', Same G G' → F v G M' → F v G' M') : EvG tNew σ G M F := fun G1 H1 s S Q k =>
  .inl fun u hu => k (.ref u) G1 _ _ (Same.refl _) (S.newM hu) (hm _ _ _ s (hF u))
/-- d[k] = e -/
theorem s_nput {k : NestedKey} {M' : Nat → Addr → V → ML} (S : Sep G H M) (he : EvX K cl p te σ G M d M1) (ha : EvX K cl q ta σ G M1 (.loc a) M2) (hi : EvX K cl r tb σ G M2 d1 M3) (hk : d1 = keyD k) (i : IsNK k) (hr : NRep K cl G kvs kds) (hl : kds.length ≤ 100000)
    (hm : ∀ ep' b v, Ch M3 a (nD a ep kvs) (nD a ep' (putN kvs k b v)) (M' ep' b v)) (kk : ∀ ep' b v G' H', Same G G' → Sep G' H' (M' ep' b v) → NRep K cl G' (putN kvs k b v) (putG kds k d) → nx σ H') : tAsg te (gSub ta tb (rSetA K cl)) ⟨nx, rt, bk, ct⟩ σ H :=
  he G H (Same.refl _) S _ fun v G2 H2 g2 rv => ha G2 H2 g2.same g2.sep _ fun x G3 H3 g3 rx => hi G3 H3 (g2.same.trans g3.same) g3.sep _ fun y G4 H4 g4 ry => by
    obtain rfl := rx.of_loc
    rw [hk] at ry
    have sA := (g2.same.trans g3.same).trans g4.same
    obtain ⟨b, rfl, n⟩ := nat_mk (kds := kds) g4.sep (hm 0 0 v).at hr sA ry i
    refine .inr ⟨a, b, ep, kvs, k, n, ?_, fun ep' => kk ep' b v G4 _ sA (g4.sep.ch (hm ep' b v)) ((hr.mono sA).put ry i.low (rv.mono (g3.same.trans g4.same)))⟩
    rw [hr.length]
    exact Nat.lt_of_le_of_lt hl (by decide)
theorem s_kput {k : Key} {M' : V → ML} (S : Sep G H M) (he : EvX K cl p te σ G M d M1) (ha : EvX K cl q ta σ G M1 (.loc a) M2) (hi : EvX K cl r tb σ G M2 d1 M3) (hk : d1 = kD k) (hr : KRep K cl G kws kes) (hl : kes.length ≤ 100000)
    (hm : ∀ v, Ch M3 a (.dK kws) (.dK (putK kws k v)) (M' v)) (kk : ∀ v G' H', Same G G' → Sep G' H' (M' v) → KRep K cl G' (putK kws k v) (putG kes k d) → nx σ H') : tAsg te (gSub ta tb (rSetA K cl)) ⟨nx, rt, bk, ct⟩ σ H :=
  he G H (Same.refl _) S _ fun v G2 H2 g2 rv => ha G2 H2 g2.same g2.sep _ fun x G3 H3 g3 rx => hi G3 H3 (g2.same.trans g3.same) g3.sep _ fun y G4 H4 g4 ry => by
    obtain rfl := rx.of_loc
    rw [hk] at ry
    have sA := (g2.same.trans g3.same).trans g4.same
    refine .inl ⟨a, _, rfl, .inl ⟨kws, k, g4.sep.look (hm v).at, rep_kD ry, ?_, rfl⟩, kk v G4 _ sA (g4.sep.ch (hm v)) ((hr.mono sA).put (rv.mono (g3.same.trans g4.same)))⟩
    rw [hr.length]
    exact Nat.lt_of_le_of_lt hl (by decide)
theorem s_ndel {k : NestedKey} {M' : Nat → ML} (S : Sep G H M) (ha : EvX K cl p ta σ G M (.loc a) M1) (hi : EvX K cl q tb σ G M1 d1 M2) (hk : d1 = keyD k) (i : IsNK k) (hr : NRep K cl G kvs kds) (hv : (valG kds k).isSome = true)
    (hm : ∀ ep', Ch M2 a (nD a ep kvs) (nD a ep' (dropN kvs k)) (M' ep')) (kk : ∀ ep' G' H', Same G G' → Sep G' H' (M' ep') → NRep K cl G' (dropN kvs k) (dropG kds k) → nx σ H') : sDelA K cl ta tb ⟨nx, rt, bk, ct⟩ σ H :=
  ha G H (Same.refl _) S _ fun x G3 H3 g3 rx => hi G3 H3 g3.same g3.sep _ fun y G4 H4 g4 ry => by
    obtain rfl := rx.of_loc
    rw [hk] at ry
    have sA := g3.same.trans g4.same
    obtain ⟨b, rfl, n⟩ := nat_mk (kds := kds) g4.sep (hm 0).at hr sA ry i
    exact .inr ⟨a, b, ep, kvs, k, n, by rw [hr.isSome]; exact hv, fun ep' => kk ep' G4 _ sA (g4.sep.ch (hm ep')) ((hr.mono sA).drop k)⟩
theorem s_kdel {k : Key} {M' : ML} (S : Sep G H M) (ha : EvX K cl p ta σ G M (.loc a) M1) (hi : EvX K cl q tb σ G M1 d1 M2) (hk : d1 = kD k) (hr : KRep K cl G kws kes) (hv : (valG kes k).isSome = true)
    (hm : Ch M2 a (.dK kws) (.dK (dropK kws k)) M') (kk : ∀ G' H', Same G G' → Sep G' H' M' → KRep K cl G' (dropK kws k) (dropG kes k) → nx σ H') : sDelA K cl ta tb ⟨nx, rt, bk, ct⟩ σ H :=
  ha G H (Same.refl _) S _ fun x G3 H3 g3 rx => hi G3 H3 g3.same g3.sep _ fun y G4 H4 g4 ry => by
    obtain rfl := rx.of_loc
    rw [hk] at ry
    have sA := g3.same.trans g4.same
    exact .inl ⟨a, kws, k, rfl, g4.sep.look hm.at, rep_kD ry, by rw [hr.isSome]; exact hv, kk G4 _ sA (g4.sep.ch hm) ((hr.mono sA).drop k)⟩
end
end Cp
/-! Cp8: loops over the keys of a dict of tuples, over owned lists; sorted() as data. -/
namespace Cp
open PySem L2

/-- J yields the things xs, one by one, while ok holds -/
structure Yields (J : It) (xs : List V) (ok : Hp → Prop) : Prop where
  go : ∀ i H, i < xs.length → ok H → J.go i H
  stop : ∀ H, ok H → J.stop xs.length H
  yld : ∀ i H x H', i < xs.length → ok H → J.yld i H x H' → H' = H ∧ xs[i]? = some x
theorem yields_nd [Wo] {a : Addr} {ep : Nat} {kvs : NKV} : Yields (ItN a ep kvs) (refsOf kvs) (fun H => H a = some (nD a ep kvs)) where
  go := fun i H hi e => ⟨e, by simpa using hi⟩
  stop := fun H e => ⟨e, by simp⟩
  yld := fun i H x H' _ _ y => ⟨y.1, by
    obtain ⟨e, he, rfl⟩ := y.2
    rw [List.getElem?_map, he]; rfl⟩
theorem yields_lst {K : PySem.W.Frag} {a : Addr} {xs : List V} : Yields (Itl K a) xs (fun H => SqL K H a xs) where
  go := fun i H hi e => ⟨xs, xs[i], e, List.getElem?_eq_getElem hi⟩
  stop := fun H e => ⟨xs, e, Nat.le_refl _⟩
  yld := fun i H x H' _ e y => ⟨y.1, y.2 xs e⟩
theorem for_y {J : It} {xs : List V} {ok : Hp → Prop} {g : TG} {tb : TS} {Dn : Ends} {σ : St} {H : Hp} (Y : Yields J xs ok) (Pv : Nat → St → Hp → Prop) (h0 : Pv 0 σ H) (hl : ∀ i σ H, i ≤ xs.length → Pv i σ H → ok H)
    (hs : ∀ i x σ H, xs[i]? = some x → Pv i σ H → g x σ H fun σ2 H2 => tb { Dn with nx := Pv (i + 1), ct := Pv (i + 1), bk := Dn.nx } σ2 H2) (hd : ∀ σ H, Pv xs.length σ H → Dn.nx σ H) :
    ∃ W : Nat → Nat → St → Hp → Prop, (∃ m, W 0 m σ H) ∧ ∀ i m σ H, W i m σ H →
      (J.stop i H ∧ Dn.nx σ H) ∨ (J.go i H ∧ ∃ N : St → Hp → Prop, (∀ σ' H', N σ' H' → ∃ m', m' < m ∧ W (i + 1) m' σ' H') ∧ ∀ x H', J.yld i H x H' → g x σ H' fun σ2 H2 => tb { Dn with nx := N, ct := N, bk := Dn.nx } σ2 H2) := by
  refine ⟨fun i m σ H => m = xs.length - i ∧ i ≤ xs.length ∧ Pv i σ H, ⟨_, rfl, Nat.zero_le _, h0⟩, ?_⟩
  rintro i m σ H ⟨rfl, hi, p⟩
  have q := hl i σ H hi p
  rcases Nat.lt_or_ge i xs.length with lt | ge
  · refine .inr ⟨Y.go i H lt q, Pv (i + 1), fun σ' H' p' => ⟨xs.length - (i + 1), by omega, rfl, lt, p'⟩, fun x H' y => ?_⟩
    obtain ⟨e, hx⟩ := Y.yld i H x H' lt q y
    rw [e]
    exact hs i x σ H hx p
  · obtain rfl : i = xs.length := Nat.le_antisymm hi ge
    exact .inl ⟨Y.stop H q, hd σ H p⟩
theorem lc_y {J : It} {xs : List V} {ok : Hp → Prop} {g : TG} {tt : TT} {te : TE} {vs : List Nat} {σ : St} {H1 : Hp} {Da : Addr} {Qd : Hp → Prop} (Y : Yields J xs ok) (Pv : Nat → Hp → Prop) (h0 : Pv 0 (upd H1 Da (.lst []))) (hl : ∀ i H, i ≤ xs.length → Pv i H → ok H)
    (hs : ∀ i x H, xs[i]? = some x → Pv i H → g x (wipe σ vs) H fun σ2 H2 => wipe σ2 vs = wipe σ vs ∧ tt σ2 H2 fun b H3 =>
      if b = true then te σ2 H3 fun y H4 => ∃ acc, H4 Da = some (.lst acc) ∧ acc.length < sizeLine ∧ Pv (i + 1) (upd H4 Da (.lst (acc ++ [y]))) else Pv (i + 1) H3) (hd : ∀ H, Pv xs.length H → Qd H) :
    ∃ W : Nat → Nat → Hp → Prop, (∃ m, W 0 m (upd H1 Da (.lst []))) ∧ ∀ i m H, W i m H →
      (J.stop i H ∧ Qd H) ∨ (J.go i H ∧ ∃ Nx : Hp → Prop, (∀ H', Nx H' → ∃ m', m' < m ∧ W (i + 1) m' H') ∧ ∀ x H', J.yld i H x H' → g x (wipe σ vs) H' fun σ2 H2 => wipe σ2 vs = wipe σ vs ∧ tt σ2 H2 fun b H3 =>
        if b = true then te σ2 H3 fun y H4 => ∃ acc, H4 Da = some (.lst acc) ∧ acc.length < sizeLine ∧ Nx (upd H4 Da (.lst (acc ++ [y]))) else Nx H3) := by
  refine ⟨fun i m H => m = xs.length - i ∧ i ≤ xs.length ∧ Pv i H, ⟨_, rfl, Nat.zero_le _, h0⟩, ?_⟩
  rintro i m H ⟨rfl, hi, p⟩
  have q := hl i H hi p
  rcases Nat.lt_or_ge i xs.length with lt | ge
  · refine .inr ⟨Y.go i H lt q, Pv (i + 1), fun H' p' => ⟨xs.length - (i + 1), by omega, rfl, lt, p'⟩, fun x H' y => ?_⟩
    obtain ⟨e, hx⟩ := Y.yld i H x H' lt q y
    rw [e]
    exact hs i x H hx p
  · obtain rfl : i = xs.length := Nat.le_antisymm hi ge
    exact .inl ⟨Y.stop H q, hd H p⟩

section
variable [Wo] {K : PySem.W.Frag} {cl : Nat → Addr} {p q r : Bool} {M M1 M2 M3 M4 : ML} {G G1 G2 G3 H H1 H2 H3 : Hp} {σ : St} {ta tb tc te tl : TE} {tx : TA} {tt tu : TT} {d d1 d2 d3 : D} {ds es : List D}
variable {a : Addr} {ep : Nat} {kvs : NKV} {kds : List (NestedKey × D)} {nx : St → Hp → Prop} {rt : VK} {bk ct : St → Hp → Prop} {vs : List V} {g : TG} {tg : TS}
/-- for k in d, d a dict of tuples that the loop does not change -/
theorem s_forN {tb : TS} (J : Nat → St → Hp → ML → Prop) (S : Sep G H M) (h : EvX K cl p tl σ G M (.loc a) M1) (hm : At M1 a (nD a ep kvs)) (hr : NRep K cl G kvs kds) (h0 : ∀ G' H', Go p M M1 G H G' H' → J 0 σ G' M1)
    (hk : ∀ i σ' G' M', J i σ' G' M' → At M' a (nD a ep kvs))
    (hs : ∀ G2, Same G G2 → ∀ i x e σ' G' H' M', kds[i]? = some e → Same G2 G' → Sep G' H' M' → Rep K cl G' x (keyD e.1) → J i σ' G' M' → g x σ' H' fun σ2 H2 => tb ⟨Nx G2 J (i + 1), rt, nx, Nx G2 J (i + 1)⟩ σ2 H2)
    (hd : ∀ σ' G' H' M', Same G G' → Sep G' H' M' → J kds.length σ' G' M' → nx σ' H') : tFor (iNKeys tl) g tb ⟨nx, rt, bk, ct⟩ σ H :=
  h G H (Same.refl _) S _ fun x G2 H2 g2 rx => by
    have rs := (hr.mono g2.same).refs
    have hl : (refsOf kvs).length = kds.length := by rw [List.length_map, hr.length]
    refine ⟨a, ep, kvs, rx.of_loc, g2.sep.look hm, for_y yields_nd (Nx G2 J) ⟨G2, M1, Same.refl _, g2.sep, h0 G2 H2 g2⟩ ?_ ?_ ?_⟩
    · rintro i σ' H' hi ⟨G', M', s', S', j⟩
      exact S'.look (hk _ _ _ _ j)
    · rintro i y σ' H' hy ⟨G', M', s', S', j⟩
      obtain ⟨d, hd', rd⟩ := rs.get hy
      rw [List.getElem?_map] at hd'
      cases he : kds[i]? with
      | none => rw [he] at hd'; cases hd'
      | some e =>
        rw [he] at hd'
        have hd2 : keyD e.1 = d := Option.some.inj hd'
        subst hd2
        exact hs G2 g2.same i y e σ' G' H' M' he s' S' (rd.mono s') j
    · rintro σ' H' ⟨G', M', s', S', j⟩
      rw [hl] at j
      exact hd σ' G' H' M' (g2.same.trans s') S' j
/-- for x in xs, xs an owned list that the loop does not change -/
theorem s_forM {tb : TS} (J : Nat → St → Hp → ML → Prop) (S : Sep G H M) (h : EvX K cl p tl σ G M (.loc a) M1) (hm : At M1 a (.lst vs)) (hr : Reps K cl G vs ds) (h0 : ∀ G' H', Go p M M1 G H G' H' → J 0 σ G' M1)
    (hk : ∀ i σ' G' M', J i σ' G' M' → At M' a (.lst vs))
    (hs : ∀ G2, Same G G2 → ∀ i x d σ' G' H' M', ds[i]? = some d → Same G2 G' → Sep G' H' M' → Rep K cl G' x d → J i σ' G' M' → g x σ' H' fun σ2 H2 => tb ⟨Nx G2 J (i + 1), rt, nx, Nx G2 J (i + 1)⟩ σ2 H2)
    (hd : ∀ σ' G' H' M', Same G G' → Sep G' H' M' → J ds.length σ' G' M' → nx σ' H') : tFor (iSeq K tl) g tb ⟨nx, rt, bk, ct⟩ σ H :=
  .inl (h G H (Same.refl _) S _ fun x G2 H2 g2 rx => by
    have rs := hr.mono g2.same
    refine ⟨a, rx.of_loc, ⟨vs, .inl (.inl (g2.sep.look hm))⟩, for_y (yields_lst (xs := vs)) (Nx G2 J) ⟨G2, M1, Same.refl _, g2.sep, h0 G2 H2 g2⟩ ?_ ?_ ?_⟩
    · rintro i σ' H' hi ⟨G', M', s', S', j⟩
      exact .inl (.inl (S'.look (hk _ _ _ _ j)))
    · rintro i y σ' H' hy ⟨G', M', s', S', j⟩
      obtain ⟨d, hd', rd⟩ := rs.get hy
      exact hs G2 g2.same i y d σ' G' H' M' hd' s' S' (rd.mono s') j
    · rintro σ' H' ⟨G', M', s', S', j⟩
      rw [rs.length] at j
      exact hd σ' G' H' M' (g2.same.trans s') S' j)
/-- a comprehension over things that stay as they are -/
theorem ev_lcY {vs : List Nat} {f : D → D} {keep : D → Bool} {J : It} {us : List V} {ok : Hp → Prop} (Y : Yields J us ok) (hok : ∀ e G' H', Same G G' → Sep G' H' (e :: M1) → ok H') (rs : Reps K cl G us ds) (hl : ds.length ≤ 10000000) (sG : Same G G2) (S2 : Sep G2 H2 M1)
    (hs : ∀ G1 e x d, Same G G1 → d ∈ ds → Rep K cl G1 x d → LcT K cl g tt te vs σ G1 (e :: M1) x (keep d) (f d)) {Q : VK} (k : ∀ v G' H', Go false M1 M1 G2 H2 G' H' → Rep K cl G' v (.lst ((ds.filter keep).map f)) → Q v H') :
    ∀ Da, H2 Da = none → ∃ W : Nat → Nat → Hp → Prop, (∃ m, W 0 m (upd H2 Da (.lst []))) ∧ ∀ i m H, W i m H →
      (J.stop i H ∧ Q (.ref Da) H) ∨ (J.go i H ∧ ∃ Nx : Hp → Prop, (∀ H', Nx H' → ∃ m', m' < m ∧ W (i + 1) m' H') ∧ ∀ x H', J.yld i H x H' → g x (wipe σ vs) H' fun σ2 H2 => wipe σ2 vs = wipe σ vs ∧ tt σ2 H2 fun b H3 =>
        if b = true then te σ2 H3 fun y H4 => ∃ acc, H4 Da = some (.lst acc) ∧ acc.length < sizeLine ∧ Nx (upd H4 Da (.lst (acc ++ [y]))) else Nx H3) := fun Da hD => by
  refine lc_y Y (fun i H => ∃ G' acc, Same G2 G' ∧ Sep G' H ((Da, .lst acc) :: M1) ∧ Reps K cl G' acc (((ds.take i).filter keep).map f)) ⟨G2, [], Same.refl _, S2.newM hD, Reps.nil⟩ ?_ ?_ ?_
  · rintro i H hi ⟨G', acc, s', S', ra⟩
    exact hok _ G' H (sG.trans s') S'
  · rintro i x H hx ⟨G', acc, s', S', ra⟩
    obtain ⟨d, hdi, rd⟩ := rs.get hx
    obtain ⟨σ2, p', q', hw, hg, ht, he⟩ := hs G' (Da, .lst acc) x d (sG.trans s') (List.mem_of_getElem? hdi) (rd.mono (sG.trans s'))
    refine hg H _ S' ⟨hw, ht G' H (Same.refl _) S' _ fun G3 H3 g3 => ?_⟩
    have e1 : ds.take (i + 1) = ds.take i ++ [d] := by rw [List.take_add_one, hdi]; rfl
    have hal : acc.length ≤ ds.length := by
      rw [ra.length, List.length_map]
      exact Nat.le_trans (List.length_filter_le _ _) (by rw [List.length_take]; omega)
    cases hk : keep d with
    | true =>
      rw [if_pos rfl]
      refine he hk G3 H3 g3.same g3.sep _ fun y G4 H4 g4 ry => ?_
      have sA := g3.same.trans g4.same
      refine ⟨acc, g4.sep.look .hd, Nat.lt_of_le_of_lt (Nat.le_trans hal hl) (by decide), G4, acc ++ [y], s'.trans sA, g4.sep.ch .hd, ?_⟩
      rw [e1, List.filter_append, List.map_append]
      refine Reps.append (ra.mono sA) ?_
      rw [List.filter_cons, if_pos hk]
      exact Reps.one ry
    | false =>
      rw [if_neg (by decide)]
      refine ⟨G3, acc, s'.trans g3.same, g3.sep, ?_⟩
      rw [e1, List.filter_append, List.map_append, List.filter_cons, if_neg (by rw [hk]; decide)]
      show Reps K cl G3 acc (_ ++ [])
      rw [List.append_nil]
      exact ra.mono g3.same
  · rintro H ⟨G', acc, s', S', ra⟩
    rw [rs.length, List.take_length] at ra
    obtain ⟨S3, s3⟩ := S'.freeze
    exact k (.ref Da) _ H (Go.of (s'.trans s3) S3) (Rep.lst (.inl (.inl upd_same)) (ra.mono s3))
theorem ev_lcN {vs : List Nat} {f : D → D} {keep : D → Bool} (h : EvX K cl p tl σ G M (.loc a) M1) (hm : At M1 a (nD a ep kvs)) (hr : NRep K cl G kvs kds) (hl : kds.length ≤ 10000000)
    (hs : ∀ G1 e x d, Same G G1 → d ∈ kds.map (fun e => keyD e.1) → Rep K cl G1 x d → LcT K cl g tt te vs σ G1 (e :: M1) x (keep d) (f d)) : EvX K cl false (tLc (iNKeys tl) g tt te vs) σ G M (.lst (((kds.map fun e => keyD e.1).filter keep).map f)) M1 := fun G1 H1 s S Q k =>
  h G1 H1 s S _ fun x G2 H2 g2 rx => ⟨a, ep, kvs, rx.of_loc, g2.sep.look hm, ev_lcY yields_nd (fun e G' H' _ S' => S'.look (.tl hm)) hr.refs (by rw [List.length_map]; exact hl) (s.trans g2.same) g2.sep hs fun v G' H' g' rv => k v G' H' (Go.of (g2.same.trans g'.same) g'.sep) rv⟩
theorem ev_lcM {us : List V} {vs : List Nat} {f : D → D} {keep : D → Bool} (h : EvX K cl p tl σ G M (.loc a) M1) (hm : At M1 a (.lst us)) (hr : Reps K cl G us ds) (hl : ds.length ≤ 10000000)
    (hs : ∀ G1 e x d, Same G G1 → d ∈ ds → Rep K cl G1 x d → LcT K cl g tt te vs σ G1 (e :: M1) x (keep d) (f d)) : EvX K cl false (tLc (iSeq K tl) g tt te vs) σ G M (.lst ((ds.filter keep).map f)) M1 := fun G1 H1 s S Q k =>
  .inl (h G1 H1 s S _ fun x G2 H2 g2 rx => ⟨a, rx.of_loc, ⟨us, .inl (.inl (g2.sep.look hm))⟩, ev_lcY (yields_lst (xs := us)) (fun e G' H' _ S' => .inl (.inl (S'.look (.tl hm)))) hr hl (s.trans g2.same) g2.sep hs fun v G' H' g' rv => k v G' H' (Go.of (g2.same.trans g'.same) g'.sep) rv⟩)

/-! ### sorted(), list() -/
theorem sortZ_reps {G : Hp} {us : List V} (r : Reps K cl G us ds) : Reps K cl G ((sortZ (us.zip ds)).map (·.1)) (ds.mergeSort leD) := by
  have h := zip_reps (zs := sortZ (us.zip ds)) (K := K) (cl := cl) (G := G) fun z hz => reps_zip r z ((List.mergeSort_perm _ _).mem_iff.mp hz)
  rw [sortZ_snd, zip_snd r] at h
  exact h
theorem on_sort (hd : D.areDat ds = true) (so : Sorts (ds.map D.pyd)) : OpN K cl false (rSortA K cl) M [.lst ds] (.lst (ds.mergeSort leD)) M := fun G1 H1 S us ru Q k => by
  obtain ⟨u, rfl, hu⟩ := reps1 ru
  obtain ⟨a, vs, rfl, sq, rs⟩ := hu.of_lst
  exact .inl ⟨a, vs, ds, rfl, S.sub.seq sq, rs.mono S.sub, hd, so, fun l hl => k _ _ _ (Go.of (Same.upd (S.freshG hl)) (S.newG hl)) (Rep.lst (.inl (.inl upd_same)) ((sortZ_reps rs).mono (Same.upd (S.freshG hl))))⟩
theorem ev_sortM (ha : EvX K cl p ta σ G M (.loc a) M1) (hm : At M1 a (.lst vs)) (hr : Reps K cl G vs ds) (hd : D.areDat ds = true) (so : Sorts (ds.map D.pyd)) : EvX K cl false (tCB (rSortA K cl) (tCons ta tNil)) σ G M (.lst (ds.mergeSort leD)) M1 := fun G1 H1 s S Q k =>
  ha G1 H1 s S _ fun x G2 H2 g2 rx => by
    rw [rx.of_loc]
    have rs := hr.mono (s.trans g2.same)
    exact .inl ⟨a, vs, ds, rfl, .inl (.inl (g2.sep.look hm)), rs.mono g2.sep.sub, hd, so, fun l hl => k _ _ _ (Go.of (g2.same.trans (Same.upd (g2.sep.freshG hl))) (g2.sep.newG hl)) (Rep.lst (.inl (.inl upd_same)) ((sortZ_reps rs).mono (Same.upd (g2.sep.freshG hl))))⟩
theorem ev_sortN (ha : EvX K cl p ta σ G M (.loc a) M1) (hm : At M1 a (nD a ep kvs)) (hr : NRep K cl G kvs kds) (hd : ∀ e ∈ kds, (keyD e.1).isDat = true) (so : Sorts (kds.map fun e => (keyD e.1).pyd)) : EvX K cl false (tCB (rSortA K cl) (tCons ta tNil)) σ G M (.lst ((kds.map fun e => keyD e.1).mergeSort leD)) M1 := fun G1 H1 s S Q k =>
  ha G1 H1 s S _ fun x G2 H2 g2 rx => by
    rw [rx.of_loc]
    have rs := hr.mono (s.trans g2.same)
    have e1 := rs.fst
    have e2 : (kvs.map fun e => (keyD e.1).pyd) = kds.map fun e => (keyD e.1).pyd := by
      have h := congrArg (List.map D.pyd) e1
      rw [List.map_map, List.map_map] at h
      exact h
    refine .inr ⟨a, ep, kvs, rfl, g2.sep.look hm, (rs.mono g2.sep.sub).keys, fun e he => ?_, by rw [e2]; exact so, fun l hl => k _ _ _ (Go.of (g2.same.trans (Same.upd (g2.sep.freshG hl))) (g2.sep.newG hl)) (Rep.lst (.inl (.inl upd_same)) (rs.sorted.mono (Same.upd (g2.sep.freshG hl))))⟩
    have h1 : keyD e.1 ∈ kvs.map fun e => keyD e.1 := List.mem_map.mpr ⟨e, he, rfl⟩
    rw [e1] at h1
    obtain ⟨f, hf, q⟩ := List.mem_map.mp h1
    rw [← q]
    exact hd f hf
theorem ev_listN (ha : EvX K cl p ta σ G M (.loc a) M1) (hm : At M1 a (nD a ep kvs)) (hr : NRep K cl G kvs kds) : EvX K cl false (tCB rListN (tCons ta tNil)) σ G M (.lst (kds.map fun e => keyD e.1)) M1 := fun G1 H1 s S Q k =>
  ha G1 H1 s S _ fun x G2 H2 g2 rx => by
    rw [rx.of_loc]
    have rs := (hr.mono (s.trans g2.same)).refs
    exact ⟨a, ep, kvs, rfl, g2.sep.look hm, fun l hl => k _ _ _ (Go.of (g2.same.trans (Same.upd (g2.sep.freshG hl))) (g2.sep.newG hl)) (Rep.lst (.inl (.inl upd_same)) (rs.mono (Same.upd (g2.sep.freshG hl))))⟩
end
end Cp
/-! Cp9: calls of defs and methods that change owned cells. -/
namespace Cp
open PySem L2
section
variable {K : PySem.W.Frag} {cl : Nat → Addr} {p q r : Bool} {M M1 M2 M3 M4 : ML} {G G1 G2 G3 H H1 H2 H3 : Hp} {σ : St} {ta tb tc te tl : TE} {tx : TA} {tt tu : TT} {d d1 d2 d3 : D} {ds es : List D}
abbrev RG := List V → Hp → ML → (V → Hp → ML → Prop) → Prop
/-- a def over cells in an order of its own -/
theorem eg_callP {R : RG} {E : XK} {F : V → Hp → ML → Prop} (ha : EvA K cl p tx σ G M ds M1) (pm : M1.Perm M2)
    (hR : ∀ vs G' (T : V → Hp → ML → Prop), Same G G' → Reps K cl G' vs ds → (∀ v G'' M'', Same G' G'' → F v G'' M'' → T v G'' M'') → R vs G' M2 T) : EvG (tCall (GSp R) [] E tx) σ G M F := fun G1 H1 s S Q k =>
  ha G1 H1 s S _ fun xs G2 H2 g2 rx => ⟨G2, M2, g2.sep.perm pm, by
    rw [List.append_nil]
    refine hR xs G2 _ (s.trans g2.same) rx fun v G'' M'' s'' hF sm H' S' => k v G'' H' M'' (g2.same.trans sm) S' hF⟩
theorem ev_callP {R : RG} {E : XK} (ha : EvA K cl p tx σ G M ds M1) (pm : M1.Perm M2) (pm' : M3.Perm M4)
    (hR : ∀ vs G' (T : V → Hp → ML → Prop), Same G G' → Reps K cl G' vs ds → (∀ v G'', Same G' G'' → Rep K cl G'' v d → T v G'' M3) → R vs G' M2 T) : EvX K cl false (tCall (GSp R) [] E tx) σ G M d M4 := fun G1 H1 s S Q k =>
  ha G1 H1 s S _ fun xs G2 H2 g2 rx => ⟨G2, M2, g2.sep.perm pm, by
    rw [List.append_nil]
    exact hR xs G2 _ (s.trans g2.same) rx fun v G'' s'' rv sm H' S' => k v G'' H' (Go.of (g2.same.trans s'') (S'.perm pm')) rv⟩
/-- a method of an owned instance -/
theorem eg_methP {R : RG} {E : XK} {F : V → Hp → ML → Prop} {C x dx : Addr} {fs : List (Str × V)} {m : Str} (he : EvX K cl p ta σ G M (.loc x) M1) (hm : At M1 x (.ins C dx fs)) (hn : fs.lookup m = none) (ha : EvA K cl q tx σ G M1 ds M2) (pm : M2.Perm M3)
    (hR : ∀ vs G' (T : V → Hp → ML → Prop), Same G G' → Reps K cl G' vs ds → (∀ v G'' M'', Same G' G'' → F v G'' M'' → T v G'' M'') → R (.ref x :: vs) G' M3 T) : EvG (tMeth C m (GSp R) [] E ta tx) σ G M F := fun G1 H1 s S Q k =>
  he G1 H1 s S _ fun y G2 H2 g2 ry => by
    obtain rfl := ry.of_loc
    exact ⟨x, dx, fs, rfl, g2.sep.look hm, hn, ha G2 H2 (s.trans g2.same) g2.sep _ fun xs G3 H3 g3 rxs => ⟨G3, M3, g3.sep.perm pm, by
      rw [List.append_nil]
      exact hR xs G3 _ ((s.trans g2.same).trans g3.same) rxs fun v G'' M'' s'' hF sm H' S' => k v G'' H' M'' ((g2.same.trans g3.same).trans sm) S' hF⟩⟩
theorem ev_methP {R : RG} {E : XK} {C x dx : Addr} {fs : List (Str × V)} {m : Str} (he : EvX K cl p ta σ G M (.loc x) M1) (hm : At M1 x (.ins C dx fs)) (hn : fs.lookup m = none) (ha : EvA K cl q tx σ G M1 ds M2) (pm : M2.Perm M3) (pm' : M.Perm M4)
    (hR : ∀ vs G' (T : V → Hp → ML → Prop), Same G G' → Reps K cl G' vs ds → (∀ v G'', Same G' G'' → Rep K cl G'' v d → T v G'' M4) → R (.ref x :: vs) G' M3 T) : EvX K cl false (tMeth C m (GSp R) [] E ta tx) σ G M d M4 := fun G1 H1 s S Q k =>
  he G1 H1 s S _ fun y G2 H2 g2 ry => by
    obtain rfl := ry.of_loc
    exact ⟨x, dx, fs, rfl, g2.sep.look hm, hn, ha G2 H2 (s.trans g2.same) g2.sep _ fun xs G3 H3 g3 rxs => ⟨G3, M3, g3.sep.perm pm, by
      rw [List.append_nil]
      exact hR xs G3 _ ((s.trans g2.same).trans g3.same) rxs fun v G'' s'' rv sm H' S' => k v G'' H' (Go.of ((g2.same.trans g3.same).trans sm) S') rv⟩⟩
/-- a new instance whose __init__ lays cells of its own -/
theorem eg_makeG {R : RG} {E : XK} {C : Addr} {F : V → Hp → ML → Prop} (ha : EvA K cl p tx σ G M ds M1)
    (hR : ∀ x dx vs G' (T : V → Hp → ML → Prop), Same G G' → Reps K cl G' vs ds → (∀ G'' M'', Same G' G'' → F (.ref x) G'' M'' → T .non G'' M'') → R (.ref x :: vs) G' ((x, .ins C dx []) :: M1) T) : EvG (tMake C (GSp R) [] E tx) σ G M F := fun G1 H1 s S Q k =>
  ha G1 H1 s S _ fun xs G2 H2 g2 rx => fun x dx nx ndx ne => by
    have ndG := g2.sep.freshG ndx
    have S1 : Sep (upd G2 dx (.own x)) (upd H2 dx (.own x)) M1 := g2.sep.newG ndx
    have nx' : upd H2 dx (.own x) x = none := by rw [upd_ne ne.symm]; exact nx
    have S2 := S1.newM (o := .ins C dx []) nx'
    have s2 : Same G2 (upd G2 dx (.own x)) := Same.upd ndG
    refine ⟨_, _, S2, ?_⟩
    rw [List.append_nil]
    exact hR x dx xs _ _ ((s.trans g2.same).trans s2) (rx.mono s2) fun G'' M'' s'' hF sm H' S' => ⟨rfl, k (.ref x) G'' H' M'' ((g2.same.trans s2).trans sm) S' hF⟩
/-- self.f = e, a new field, e something that is laid -/
theorem s_fldGN {a C dx : Addr} {ns : List Str} {vs : List V} {f : Str} {tv : TE} {F : V → Hp → ML → Prop} {nx : St → Hp → Prop} {rt : VK} {bk ct : St → Hp → Prop} (S : Sep G H M) (hv : EvG tv σ G M F) (hc : Cls K C) (hn : NoAttr K C f) (hl : ns.length = vs.length) (hx : ns.contains f = false) (hk : ns.length < 1000)
    (k : ∀ v G' H' M', Same G G' → Sep G' H' M' → F v G' M' → ∃ p M2 M3, EvX K cl p ta σ G' M' (.loc a) M2 ∧ Ch M2 a (.ins C dx (ns.zip vs)) (.ins C dx ((ns ++ [f]).zip (vs ++ [v]))) M3 ∧ ∀ G'' H'', Same G' G'' → Sep G'' H'' M3 → nx σ H'') : sFld K ta tv f ⟨nx, rt, bk, ct⟩ σ H :=
  hv G H (Same.refl _) S _ fun v G2 H2 M2 s2 S2 hF => by
    obtain ⟨p, M3, M4, he, hch, kk⟩ := k v G2 H2 M2 s2 S2 hF
    refine he G2 H2 (Same.refl _) S2 _ fun x G3 H3 g3 rx => ?_
    refine ⟨a, C, dx, _, rx.of_loc, g3.sep.look hch.at, hc, hn, by rw [List.length_zip]; omega, kk G3 _ g3.same ?_⟩
    rw [putF_zip_new hl hx]
    exact g3.sep.ch hch
end

section
variable [Wo] {K : PySem.W.Frag} {cl : Nat → Addr} {p q r : Bool} {M M1 M2 M3 M4 : ML} {G G1 G2 G3 H H1 H2 H3 : Hp} {σ : St} {ta tb tc te tl : TE} {tx : TA} {tt tu : TT} {d d1 d2 d3 : D} {ds es : List D}
variable {a : Addr} {ep : Nat} {kvs : NKV} {kds : List (NestedKey × D)} {g : TG}
/-- the same, told by what the things stand for -/
theorem ev_lcZ {β : Type} {l : List β} {enc : β → D} {vs : List Nat} {f : β → D} {keep : β → Bool} {J : It} {us : List V} {ok : Hp → Prop} (Y : Yields J us ok) (hok : ∀ e G' H', Same G G' → Sep G' H' (e :: M1) → ok H') (rs : Reps K cl G us (l.map enc)) (hl : l.length ≤ 10000000) (sG : Same G G2) (S2 : Sep G2 H2 M1)
    (hs : ∀ G1 e x b, Same G G1 → b ∈ l → Rep K cl G1 x (enc b) → LcT K cl g tt te vs σ G1 (e :: M1) x (keep b) (f b)) {Q : VK} (k : ∀ v G' H', Go false M1 M1 G2 H2 G' H' → Rep K cl G' v (.lst ((l.filter keep).map f)) → Q v H') :
    ∀ Da, H2 Da = none → ∃ W : Nat → Nat → Hp → Prop, (∃ m, W 0 m (upd H2 Da (.lst []))) ∧ ∀ i m H, W i m H →
      (J.stop i H ∧ Q (.ref Da) H) ∨ (J.go i H ∧ ∃ Nx : Hp → Prop, (∀ H', Nx H' → ∃ m', m' < m ∧ W (i + 1) m' H') ∧ ∀ x H', J.yld i H x H' → g x (wipe σ vs) H' fun σ2 H2 => wipe σ2 vs = wipe σ vs ∧ tt σ2 H2 fun b H3 =>
        if b = true then te σ2 H3 fun y H4 => ∃ acc, H4 Da = some (.lst acc) ∧ acc.length < sizeLine ∧ Nx (upd H4 Da (.lst (acc ++ [y]))) else Nx H3) := fun Da hD => by
  refine lc_y Y (fun i H => ∃ G' acc, Same G2 G' ∧ Sep G' H ((Da, .lst acc) :: M1) ∧ Reps K cl G' acc (((l.take i).filter keep).map f)) ⟨G2, [], Same.refl _, S2.newM hD, Reps.nil⟩ ?_ ?_ ?_
  · rintro i H hi ⟨G', acc, s', S', ra⟩
    exact hok _ G' H (sG.trans s') S'
  · rintro i x H hx ⟨G', acc, s', S', ra⟩
    obtain ⟨d, hdi', rd'⟩ := rs.get hx
    rw [List.getElem?_map] at hdi'
    obtain ⟨b, hdi, rfl⟩ := Option.map_eq_some_iff.mp hdi'
    have rd := rd'
    obtain ⟨σ2, p', q', hw, hg, ht, he⟩ := hs G' (Da, .lst acc) x b (sG.trans s') (List.mem_of_getElem? hdi) (rd.mono (sG.trans s'))
    refine hg H _ S' ⟨hw, ht G' H (Same.refl _) S' _ fun G3 H3 g3 => ?_⟩
    have e1 : l.take (i + 1) = l.take i ++ [b] := by rw [List.take_add_one, hdi]; rfl
    have hal : acc.length ≤ l.length := by
      rw [ra.length, List.length_map]
      exact Nat.le_trans (List.length_filter_le _ _) (by rw [List.length_take]; omega)
    cases hk : keep b with
    | true =>
      rw [if_pos rfl]
      refine he hk G3 H3 g3.same g3.sep _ fun y G4 H4 g4 ry => ?_
      have sA := g3.same.trans g4.same
      refine ⟨acc, g4.sep.look .hd, Nat.lt_of_le_of_lt (Nat.le_trans hal hl) (by decide), G4, acc ++ [y], s'.trans sA, g4.sep.ch .hd, ?_⟩
      rw [e1, List.filter_append, List.map_append]
      refine Reps.append (ra.mono sA) ?_
      rw [List.filter_cons, if_pos hk]
      exact Reps.one ry
    | false =>
      rw [if_neg (by decide)]
      refine ⟨G3, acc, s'.trans g3.same, g3.sep, ?_⟩
      rw [e1, List.filter_append, List.map_append, List.filter_cons, if_neg (by rw [hk]; decide)]
      show Reps K cl G3 acc (_ ++ [])
      rw [List.append_nil]
      exact ra.mono g3.same
  · rintro H ⟨G', acc, s', S', ra⟩
    rw [rs.length, List.length_map, List.take_length] at ra
    obtain ⟨S3, s3⟩ := S'.freeze
    exact k (.ref Da) _ H (Go.of (s'.trans s3) S3) (Rep.lst (.inl (.inl upd_same)) (ra.mono s3))
theorem ev_lcNG {vs : List Nat} {f : NestedKey × D → D} {keep : NestedKey × D → Bool} (h : EvX K cl p tl σ G M (.loc a) M1) (hm : At M1 a (nD a ep kvs)) (hr : NRep K cl G kvs kds) (hl : kds.length ≤ 10000000)
    (hs : ∀ G1 e x b, Same G G1 → b ∈ kds → Rep K cl G1 x (keyD b.1) → LcT K cl g tt te vs σ G1 (e :: M1) x (keep b) (f b)) : EvX K cl false (tLc (iNKeys tl) g tt te vs) σ G M (.lst ((kds.filter keep).map f)) M1 := fun G1 H1 s S Q k =>
  h G1 H1 s S _ fun x G2 H2 g2 rx => ⟨a, ep, kvs, rx.of_loc, g2.sep.look hm, ev_lcZ (enc := fun e : NestedKey × D => keyD e.1) yields_nd (fun e G' H' _ S' => S'.look (.tl hm)) hr.refs hl (s.trans g2.same) g2.sep hs fun v G' H' g' rv => k v G' H' (Go.of (g2.same.trans g'.same) g'.sep) rv⟩
theorem ev_lcG {β : Type} {l : List β} {enc : β → D} {vs : List Nat} {f : β → D} {keep : β → Bool} (h : EvX K cl p tl σ G M d1 M1) (hd : d1 = .lst (l.map enc)) (hl : l.length ≤ 10000000)
    (hs : ∀ G1 e x b, Same G G1 → b ∈ l → Rep K cl G1 x (enc b) → LcT K cl g tt te vs σ G1 (e :: M1) x (keep b) (f b)) : EvX K cl false (tLc (iSeq K tl) g tt te vs) σ G M (.lst ((l.filter keep).map f)) M1 := fun G1 H1 s S Q k =>
  .inl (h G1 H1 s S _ fun x G2 H2 g2 rx => by
    rw [hd] at rx
    obtain ⟨a, us, e, sq, rs⟩ := rx.of_lst
    exact ⟨a, e, ⟨us, g2.sep.sub.seq sq⟩, ev_lcZ (G := G2) (yields_lst (xs := us)) (fun e G' H' s' S' => (s'.trans S'.sub).seq sq) rs hl (Same.refl _) g2.sep (fun G3 e x b s3 => hs G3 e x b ((s.trans g2.same).trans s3)) fun v G' H' g' rv => k v G' H' (Go.of (g2.same.trans g'.same) g'.sep) rv⟩)
theorem reps_ints {G : Hp} : ∀ {us : List V} {ns : List Int}, Reps K cl G us (ns.map D.int) → us = ns.map V.int
  | us, [], h => by simpa only [List.map_nil, Reps] using h
  | us, n :: ns, h => by
    obtain ⟨v, ws, rfl, r1, r2⟩ := Reps.uncons h
    rw [r1.of_int, reps_ints r2]
    rfl
theorem on_sum {ns : List Int} : OpN K cl true (rSum K) M [.lst (ns.map D.int)] (.int ns.sum) M := on_val fun G1 H1 S us ru => by
  obtain ⟨u, rfl, hu⟩ := reps1 ru
  obtain ⟨a, vs, rfl, sq, rs⟩ := hu.of_lst
  refine ⟨_, Rep.int, fun Q q => ⟨a, ns, rfl, ?_, q⟩⟩
  rw [← reps_ints rs]
  exact S.sub.seq sq
/-- a test whose outcome is not told -/
theorem s_ifB {t u : TS} {nx : St → Hp → Prop} {rt : VK} {bk ct : St → Hp → Prop} (S : Sep G H M) (h : EvG te σ G M fun v G' M' => ∃ b, v = .bl b ∧ M' = M1) (h1 : ∀ G' H', Same G G' → Sep G' H' M1 → t ⟨nx, rt, bk, ct⟩ σ H') (h2 : ∀ G' H', Same G G' → Sep G' H' M1 → u ⟨nx, rt, bk, ct⟩ σ H') :
    tIfS (tTr K te) t u ⟨nx, rt, bk, ct⟩ σ H := h G H (Same.refl _) S _ fun v G' H' M' s' S' hb => by
  obtain ⟨b, rfl, rfl⟩ := hb
  refine ⟨b, rfl, ?_⟩
  cases b with
  | true => exact h1 G' H' s' S'
  | false => exact h2 G' H' s' S'
mutual
theorem eqb_key : ∀ a b : NestedKey, D.eqb (keyD a) (keyD b) = NestedKey.beq a b
  | .none, .none => by simp [keyD, D.eqb, NestedKey.beq]
  | .none, .num _ => by simp [keyD, D.eqb, NestedKey.beq]
  | .none, .text _ => by simp [keyD, D.eqb, NestedKey.beq]
  | .none, .tup _ => by simp [keyD, D.eqb, NestedKey.beq]
  | .num _, .none => by simp [keyD, D.eqb, NestedKey.beq]
  | .num a, .num b => by simp only [keyD, D.eqb, NestedKey.beq]; by_cases h : a = b <;> simp [h]
  | .num _, .text _ => by simp [keyD, D.eqb, NestedKey.beq]
  | .num _, .tup _ => by simp [keyD, D.eqb, NestedKey.beq]
  | .text _, .none => by simp [keyD, D.eqb, NestedKey.beq]
  | .text _, .num _ => by simp [keyD, D.eqb, NestedKey.beq]
  | .text a, .text b => by simp only [keyD, D.eqb, NestedKey.beq]; by_cases h : a = b <;> simp [h]
  | .text _, .tup _ => by simp [keyD, D.eqb, NestedKey.beq]
  | .tup _, .none => by simp [keyD, D.eqb, NestedKey.beq]
  | .tup _, .num _ => by simp [keyD, D.eqb, NestedKey.beq]
  | .tup _, .text _ => by simp [keyD, D.eqb, NestedKey.beq]
  | .tup a, .tup b => by simp only [keyD, D.eqb, NestedKey.beq]; exact eqbs_key a b
theorem eqbs_key : ∀ a b : List NestedKey, D.eqbs (keyDs a) (keyDs b) = NestedKey.beqAll a b
  | [], [] => by simp [keyDs, D.eqbs, NestedKey.beqAll]
  | [], _ :: _ => by simp [keyDs, D.eqbs, NestedKey.beqAll]
  | _ :: _, [] => by simp [keyDs, D.eqbs, NestedKey.beqAll]
  | a :: as, b :: bs => by simp only [keyDs, D.eqbs, NestedKey.beqAll]; rw [eqb_key a b, eqbs_key as bs]
end
theorem eqb_keyD (a b : NestedKey) : D.eqb (keyD a) (keyD b) = decide (a = b) := by rw [eqb_key, NestedKey.decide_eq]
end
end Cp
/-! Cp10: displays of dicts with ints and texts as keys; more of association lists. -/
namespace Cp
open PySem L2
section
variable {κ α : Type} [DecidableEq κ]
theorem valG_put {st : List (κ × α)} {k j : κ} {v : α} : valG (putG st k v) j = if k = j then some v else valG st j := by
  unfold putG
  cases h : (valG st k).isSome with
  | true =>
    simp only [if_true]
    induction st with
    | nil => simp [valG] at h
    | cons e st ih =>
      have un : ∀ (f : κ × α) (l : List (κ × α)) (i : κ), valG (f :: l) i = if f.1 = i then some f.2 else valG l i := by
        intro f l i
        unfold valG
        rw [List.find?_cons]
        by_cases q : f.1 = i
        · simp [q]
        · simp [q]
      rw [List.map_cons, un, un]
      by_cases q : e.1 = k
      · simp only [q, if_true]
        by_cases r : k = j
        · simp [r]
        · simp only [r, if_false]
          clear ih h
          induction st with
          | nil => rfl
          | cons f st ih2 =>
            rw [List.map_cons, un, un]
            by_cases q2 : f.1 = k
            · have : ¬ f.1 = j := fun z => r (q2 ▸ z)
              simp only [q2, if_true, r, if_false]
              exact ih2
            · simp only [q2, if_false]
              rw [ih2]
      · have h' : (valG st k).isSome = true := by
          rw [un, if_neg q] at h
          exact h
        have ih' := ih h'
        rw [if_neg q, ih']
        by_cases r : k = j
        · have : ¬ e.1 = j := fun z => q (z.trans r.symm)
          simp [r, this]
        · simp [r]
  | false =>
    simp only [Bool.false_eq_true, if_false]
    have hn : valG st k = none := by simpa using h
    unfold valG at hn ⊢
    rw [List.find?_append]
    by_cases r : k = j
    · subst r
      rw [Option.map_eq_none_iff] at hn
      rw [hn]
      simp
    · simp only [r, if_false]
      cases h2 : List.find? (fun x => decide (x.1 = j)) st with
      | some e => rfl
      | none => simp [r]
def mergeG (kds more : List (κ × α)) : List (κ × α) := more.foldl (fun acc e => putG acc e.1 e.2) kds
end
theorem KRep.merge {K : PySem.W.Frag} {cl : Nat → Addr} {G : Hp} : ∀ {more : List (Key × V)} {mds : List (Key × D)} {kws : List (Key × V)} {kes : List (Key × D)}, KRep K cl G more mds → KRep K cl G kws kes → KRep K cl G (mergeK kws more) (mergeG kes mds)
  | _, _, _, _, .nil, r => r
  | p :: more, q :: mds, kws, kes, .cons h t, r => by
    show KRep K cl G (mergeK (putK kws p.1 p.2) more) (mergeG (putG kes q.1 q.2) mds)
    rw [h.1]
    exact KRep.merge t (r.put h.2)
section
variable [Wo] {K : PySem.W.Frag} {cl : Nat → Addr} {p q r : Bool} {M M1 M2 M3 M4 : ML} {G G1 G2 G3 H H1 H2 H3 : Hp} {σ : St} {ta tb tc te tk tv : TE} {d d1 d2 d3 : D}
/-- the pairs of a display -/
def EvP (K : PySem.W.Frag) (cl : Nat → Addr) (trs : List (TE × TE)) (σ : St) (G : Hp) (M : ML) (kds : List (Key × D)) (M1 : ML) : Prop :=
  ∀ G1 H1, Same G G1 → Sep G1 H1 M → ∀ Q : List (V × V) → Hp → Prop, (∀ kvs G2 H2, Same G1 G2 → Sep G2 H2 M1 → KRep K cl G2 kvs kds → Q (kvs.map fun kv => (kV kv.1, kv.2)) H2) → tPairs trs σ H1 Q
theorem ep_nil : EvP K cl [] σ G M [] M := fun G1 H1 s S Q k => k [] G1 H1 (Same.refl _) S .nil
theorem ep_cons {trs : List (TE × TE)} {k : Key} {kds : List (Key × D)} (h1 : EvX K cl p tk σ G M d1 M1) (hk : d1 = kD k) (h2 : EvX K cl q tv σ G M1 d2 M2) (h3 : EvP K cl trs σ G M2 kds M3) : EvP K cl ((tk, tv) :: trs) σ G M ((k, d2) :: kds) M3 := fun G1 H1 s S Q kk =>
  h1 G1 H1 s S _ fun x G2 H2 g2 rx => h2 G2 H2 (s.trans g2.same) g2.sep _ fun y G3 H3 g3 ry => h3 G3 H3 ((s.trans g2.same).trans g3.same) g3.sep _ fun kvs G4 H4 s4 S4 r4 => by
    rw [hk] at rx
    have e := rep_kD rx
    subst e
    exact kk ((k, y) :: kvs) G4 H4 ((g2.same.trans g3.same).trans s4) S4 (.cons ⟨rfl, ry.mono s4⟩ r4)
/-- {k: v, ..} -/
theorem eg_disp {trs : List (TE × TE)} {kds : List (Key × D)} {F : V → Hp → ML → Prop} (h : ∀ u, EvP K cl trs σ G ((u, .dK []) :: M) kds ((u, .dK []) :: M1)) (hl : kds.length ≤ 15)
    (hF : ∀ u kws G', Same G G' → KRep K cl G' kws (mergeG [] kds) → F (.ref u) G' ((u, .dK kws) :: M1)) : EvG (tDisp trs) σ G M F := fun G1 H1 s S Q k => fun u hu =>
  h u G1 _ s (S.newM hu) _ fun kvs G2 H2 s2 S2 r2 => ⟨S2.look .hd, kvs, rfl, by rw [r2.length]; exact hl, k (.ref u) G2 _ _ s2 (S2.ch .hd) (hF u _ G2 (s.trans s2) (KRep.merge r2 .nil))⟩
end
end Cp
/-! Cp11: what is laid on the way: operations, tests, loops and unpackings over things told by a postcondition (EvG). -/
namespace Cp
open PySem L2
section
variable {K : PySem.W.Frag} {cl : Nat → Addr} {p q r : Bool} {M M1 M2 M3 M4 : ML} {G G1 G2 G3 H H1 H2 H3 : Hp} {σ : St} {ta tb tc te tl : TE} {tx : TA} {tt tu : TT} {d d1 d2 d3 : D} {ds es : List D}
variable {nx : St → Hp → Prop} {rt : VK} {bk ct : St → Hp → Prop} {g : TG} {tbd : TS}
abbrev FG := V → Hp → ML → Prop
/-- int(b), b a truth value that is not told -/
theorem eg_intB (h : EvG te σ G M fun v G' M' => ∃ b, v = .bl b ∧ M' = M1) : EvG (tCB rInt1 (tCons te tNil)) σ G M fun v G' M' => ∃ b : Bool, v = .int (if b then 1 else 0) ∧ M' = M1 := fun G1 H1 s S Q k =>
  h G1 H1 s S _ fun v G' H' M' s' S' hb => by
    obtain ⟨b, rfl, rfl⟩ := hb
    exact .inr ⟨b, rfl, k _ G' H' _ s' S' ⟨b, rfl, rfl⟩⟩
/-- a pure def of one argument, the argument laid on the way -/
theorem eg_pcall {R : List D → D → Prop} {E : XK} {F F2 : FG} (h : EvG te σ G M F) (hR : ∀ v G' M', Same G G' → F v G' M' → ∃ d d', Rep K cl G' v d ∧ R [d] d' ∧ ∀ w G'', Same G' G'' → Rep K cl G'' w d' → F2 w G'' M') : EvG (tCall (PSp K cl R) [] E (tCons te tNil)) σ G M F2 := fun G1 H1 s S Q k =>
  h G1 H1 s S _ fun v G2 H2 M2 s2 S2 hF => by
    obtain ⟨d, d', rv, hd, hk⟩ := hR v G2 M2 (s.trans s2) hF
    refine ⟨[d], d', G2, M2, hd, S2, by rw [List.append_nil]; exact Reps.one rv, fun w G' H' s' S' rw' => k w G' H' M2 (s2.trans s') S' (hk w G' s' rw')⟩
/-- a op b, a laid on the way -/
theorem eg_op {rr : R2} {F1 F : FG} (h1 : EvG ta σ G M F1) (h2 : ∀ v G1 M1, Same G G1 → F1 v G1 M1 → ∃ d1 d2 d p q M2, Rep K cl G1 v d1 ∧ EvX K cl p tb σ G1 M1 d2 M2 ∧ Op2 K cl q rr M2 d1 d2 d ∧ ∀ w G2, Same G1 G2 → Rep K cl G2 w d → F w G2 M2) : EvG (tOp rr ta tb) σ G M F := fun G1 H1 s S Q k =>
  h1 G1 H1 s S _ fun v G2 H2 M2 s2 S2 hF => by
    obtain ⟨d1, d2, d, p, q, M3, rv, he, ho, hk⟩ := h2 v G2 M2 (s.trans s2) hF
    exact he G2 H2 (Same.refl _) S2 _ fun y G3 H3 g3 ry => ho G3 H3 g3.sep v y (rv.mono g3.same) ry _ fun w G4 H4 g4 rw' => k w G4 H4 M3 ((s2.trans g3.same).trans g4.same) g4.sep (hk w G4 (g3.same.trans g4.same) rw')
/-- tests told by a postcondition -/
def EvU (tt : TT) (σ : St) (G : Hp) (M : ML) (F : Bool → Hp → ML → Prop) : Prop :=
  ∀ G1 H1, Same G G1 → Sep G1 H1 M → ∀ Q : Bool → Hp → Prop, (∀ b G2 H2 M2, Same G1 G2 → Sep G2 H2 M2 → F b G2 M2 → Q b H2) → tt σ H1 Q
theorem eu_of {b : Bool} {F : Bool → Hp → ML → Prop} (h : EvT K cl p tt σ G M b M1) (hF : ∀ G', Same G G' → F b G' M1) : EvU tt σ G M F := fun G1 H1 s S Q k => h G1 H1 s S _ fun G2 H2 g2 => k b G2 H2 M1 g2.same g2.sep (hF G2 (s.trans g2.same))
theorem eu_test {F : Bool → Hp → ML → Prop} (h : EvG te σ G M fun v G' M' => ∃ b, v = .bl b ∧ F b G' M') : EvU (tTest te) σ G M F := fun G1 H1 s S Q k => h G1 H1 s S _ fun v G2 H2 M2 s2 S2 hb => by
  obtain ⟨b, rfl, hb⟩ := hb
  exact ⟨b, rfl, k b G2 H2 M2 s2 S2 hb⟩
theorem eu_or {F1 F : Bool → Hp → ML → Prop} (h1 : EvU tt σ G M F1) (ht : ∀ G' M', Same G G' → F1 true G' M' → F true G' M') (hf : ∀ G' M', Same G G' → F1 false G' M' → EvU tu σ G' M' F) : EvU (tOr tt tu) σ G M F := fun G1 H1 s S Q k => h1 G1 H1 s S _ fun b G2 H2 M2 s2 S2 hb => by
  cases b with
  | true => exact k true G2 H2 M2 s2 S2 (ht G2 M2 (s.trans s2) hb)
  | false =>
    show tu σ H2 Q
    exact hf G2 M2 (s.trans s2) hb G2 H2 (Same.refl _) S2 Q fun b G3 H3 M3 s3 S3 hb3 => k b G3 H3 M3 (s2.trans s3) S3 hb3
theorem s_ifU {t u : TS} {F : Bool → Hp → ML → Prop} (S : Sep G H M) (h : EvU tt σ G M F) (h1 : ∀ G' H' M', Same G G' → Sep G' H' M' → F true G' M' → t ⟨nx, rt, bk, ct⟩ σ H') (h2 : ∀ G' H' M', Same G G' → Sep G' H' M' → F false G' M' → u ⟨nx, rt, bk, ct⟩ σ H') : tIfS tt t u ⟨nx, rt, bk, ct⟩ σ H :=
  h G H (Same.refl _) S _ fun b G2 H2 M2 s2 S2 hb => by
    cases b with
    | true => exact h1 G2 H2 M2 s2 S2 hb
    | false => exact h2 G2 H2 M2 s2 S2 hb
/-- a, b, .. = e, e laid on the way -/
theorem s_asgTG {F : FG} {is : List Nat} {n : Nat} (S : Sep G H M) (h : EvG te σ G M F) (k : ∀ v G1 H1 M1, Same G G1 → Sep G1 H1 M1 → F v G1 M1 → ∃ ds, Rep K cl G1 v (.tup ds) ∧ ds.length = n ∧ is.length = n ∧ ∀ vs, Reps K cl G1 vs ds → nx (setAll σ is vs) H1) : tAsg te (gTup K n (gNames is)) ⟨nx, rt, bk, ct⟩ σ H :=
  h G H (Same.refl _) S _ fun v G1 H1 M1 s1 S1 hF => by
    obtain ⟨ds, rv, hn, hi, kk⟩ := k v G1 H1 M1 s1 S1 hF
    exact g_tup S1 rv hn hi kk
/-- for x in e, e a list that is laid on the way -/
theorem s_forE {F : FG} (S : Sep G H M) (h : EvG tl σ G M F)
    (k : ∀ v G1 H1 M1, Same G G1 → Sep G1 H1 M1 → F v G1 M1 → ∃ (ds : List D) (J : Nat → St → Hp → ML → Prop), Rep K cl G1 v (.lst ds) ∧ J 0 σ G1 M1 ∧
      (∀ i x d σ' G' H' M', ds[i]? = some d → Same G1 G' → Sep G' H' M' → Rep K cl G' x d → J i σ' G' M' → g x σ' H' fun σ2 H2 => tbd ⟨Nx G1 J (i + 1), rt, nx, Nx G1 J (i + 1)⟩ σ2 H2) ∧
      (∀ σ' G' H' M', Same G1 G' → Sep G' H' M' → J ds.length σ' G' M' → nx σ' H')) : tFor (iSeq K tl) g tbd ⟨nx, rt, bk, ct⟩ σ H :=
  .inl (h G H (Same.refl _) S _ fun v G1 H1 M1 s1 S1 hF => by
    obtain ⟨ds, J, rv, h0, hs, hd⟩ := k v G1 H1 M1 s1 S1 hF
    obtain ⟨a, vs, e, sq, rs⟩ := rv.of_lst
    refine ⟨a, e, ⟨vs, S1.sub.seq sq⟩, for_list (xs := vs) (Nx G1 J) ⟨G1, M1, Same.refl _, S1, h0⟩ ?_ ?_ ?_⟩
    · rintro i σ' H' hi ⟨G', M', s', S', j⟩
      exact (s'.trans S'.sub).seq sq
    · rintro i y σ' H' hy ⟨G', M', s', S', j⟩
      obtain ⟨d, hd', rd⟩ := rs.get hy
      exact hs i y d σ' G' H' M' hd' s' S' (rd.mono s') j
    · rintro σ' H' ⟨G', M', s', S', j⟩
      rw [rs.length] at j
      exact hd σ' G' H' M' s' S' j)
end
end Cp
/-! Cp12: sorted(xs, key=f), f a pure def of the program. -/
namespace Cp
open PySem L2

section
variable {X : Cx} {cl : Nat → Addr} {pins : List (Addr × Obj)} {σ : St} {H : Hp} {s : Shared}
/-- the key's def, called from within list.sort -/
theorem key_call {k : Nat} {fa : Addr} {fd : FuncData} {ps : List Str} {sp : Sp} {Q : VK} {v : V} {u : Value} (F : FnOk X.prog X.w X.K X.mg X.base CX0 k fa fd ps sp) (hr : Room (k + 2) X.A) (hb : Binds X.K fd ps [])
    (I : Inv X pins σ H s) (r : RelV v u) (h : sp [v] H Q E0) : wpAny (model X.prog X.w) X.A.in1.in1 (call (.ref fa) [u]) (EP X pins σ Q) (fun _ _ => False) s := by
  have r1 : Vals [v] [u] := .cons r .nil
  have hl : ([u] ++ ([] : List Value)).length = ps.length := by
    rw [List.append_nil, ← r1.length]
    exact F.len _ _ _ _ h
  have hb' := hb s [u] I.kIn hl
  rw [List.append_nil] at hb'
  refine wpAny_call (codeAny_mono (F.run X.A.in1.in1 X.stack s H ⟨[u], []⟩ [u] [v] Q E0 (Room.in1 (Room.in1 hr)) I.env0.in1.in1 hb' r1 h) fun r s' hq => ?_)
  rcases r with e | (_ | _ | _ | w)
  · exact False.elim hq
  · exact False.elim hq
  · exact False.elim hq
  · exact False.elim hq
  · exact I.after hq
/-- the heap without the object at b -/
def sans (h : Heap) (b : Addr) : Heap := h.update b fun _ => { cls := .none, data := .freed }
theorem sans_ne {h : Heap} {b c : Addr} (n : c ≠ b) : (sans h b).get? c = h.get? c := Heap.get?_update_ne _ _ _ _ n
theorem sans_self {h : Heap} {b : Addr} : (sans h b).get? b = none := by
  obtain ⟨objs, l⟩ := h
  unfold sans Heap.update Heap.get?
  dsimp only
  rw [Array.getElem?_modify]
  cases objs[b]? with
  | none => simp
  | some o => simp
/-- the objects that the sort holds for itself -/
structure Own2 (X : Cx) (pins : List (Addr × Obj)) (H : Hp) (s : Shared) (b : Addr) (o : Obj) : Prop where
  there : s.heap.get? b = some o
  un : H b = none
  loc : b ≠ X.env.locals
  fs : b ∉ X.fs
  dat : ∀ v, o.data ≠ .cell v
  new : X.s_0.heap.objs.size ≤ b
  cell : ∀ x c, X.env.cells.lookup x = some c → c ≠ b
  pin : ∀ p ∈ X.pn ++ pins, p.1 ≠ b
theorem Own2.of {pins' : List (Addr × Obj)} (I : Inv X pins σ H s) {b : Addr} {o : Obj} (hb : s.heap.objs.size ≤ b) {s' : Shared} {H' : Hp} (e : s'.heap.get? b = some o) (hu : H' b = none) (hd : ∀ v, o.data ≠ .cell v) (hp : ∀ p ∈ pins', p ∈ pins) : Own2 X pins' H' s' b o := by
  refine ⟨e, hu, fun z => ?_, I.nofs hb, hd, Nat.le_trans I.sz hb, fun x c hc z => ?_, fun p hp' z => ?_⟩
  · have := I.lt
    rw [z] at hb
    exact absurd this (Nat.not_lt.mpr hb)
  · obtain ⟨v, o', ho', _⟩ := I.cell x c hc
    have := Heap.lt_size ho'
    rw [z] at this
    exact absurd this (Nat.not_lt.mpr hb)
  · have hp2 : p ∈ X.pn ++ pins := (List.mem_append.mp hp').elim (fun q => List.mem_append_left _ q) fun q => List.mem_append_right _ (hp p q)
    have h1 := (I.pin p hp2).1
    have := Heap.lt_size h1
    rw [z] at this
    exact absurd this (Nat.not_lt.mpr hb)
theorem seq_nocell {n : String} {xs : Array Value} {e : Nat} : ∀ v, (PyProof.Rows.seqObj n xs e).data ≠ .cell v := fun v z => by cases z
end

section
variable (K : PySem.W.Frag) (cl : Nat → Addr)
/-- sorted(xs, key=f): f at fa answers by R; the items l, laid as enc, their keys key -/
def rSortKey (fa : Addr) (R : List D → D → Prop) : List V → List V → Hp → VK → Prop := fun xs zs H Q => ∃ (a : Addr) (vs : List V) (β : Type) (l : List β) (enc key : β → D) (G : Hp) (M : ML),
  xs = [.ref a] ∧ zs = [.ref fa] ∧ Sep G H M ∧ SqL K H a vs ∧ Reps K cl G vs (l.map enc) ∧ (∀ b ∈ l, R [enc b] (key b)) ∧ D.areDat (l.map key) = true ∧ Sorts (l.map fun b => (key b).pyd) ∧
  ∀ G' H' ws p, Same G G' → Sep G' H' M → Reps K cl G' ws ((l.mergeSort (PySem.W.dataLe false fun b => (key b).pyd)).map enc) → H' p = none → Q (.ref p) (upd H' p (.lst ws))
end
theorem reps_mapT {K : PySem.W.Frag} {cl : Nat → Addr} {G : Hp} {β : Type} {enc : β → D} : ∀ {vs : List V} {l : List β}, Reps K cl G vs (l.map enc) → ∃ zs : List (V × β), vs = zs.map (·.1) ∧ l = zs.map (·.2) ∧ ∀ z ∈ zs, Rep K cl G z.1 (enc z.2)
  | vs, [], h => by
    simp only [List.map_nil, Reps] at h
    exact ⟨[], h, rfl, fun z hz => nomatch hz⟩
  | vs, b :: l, h => by
    rw [List.map_cons] at h
    obtain ⟨v, ws, rfl, r1, r2⟩ := h.uncons
    obtain ⟨zs, e1, e2, h3⟩ := reps_mapT r2
    refine ⟨(v, b) :: zs, by rw [e1]; rfl, by rw [e2]; rfl, fun z hz => ?_⟩
    rcases List.mem_cons.mp hz with rfl | hz
    · exact r1
    · exact h3 z hz
theorem each_of_vals {β : Type} : ∀ {zs : List (V × β)} {us : List Value}, Vals (zs.map (·.1)) us → PySem.W.EachIs (fun u (z : V × β) => RelV z.1 u) us zs
  | [], us, h => by
    cases h
    exact .nil
  | z :: zs, us, h => by
    cases h with
    | cons h1 h2 => exact .cons h1 (each_of_vals h2)
theorem each_back {β : Type} : ∀ {us : List Value} {zs : List (V × β)}, PySem.W.EachIs (fun u (z : V × β) => RelV z.1 u) us zs → Vals (zs.map (·.1)) us
  | _, _, .nil => .nil
  | _, _, .cons h t => .cons h (each_back t)
theorem vals_get {vs : List V} {us : List Value} (h : Vals vs us) : ∀ {i : Nat} {u : Value}, us[i]? = some u → ∃ v, vs[i]? = some v ∧ RelV v u := by
  induction h with
  | nil => intro i u e; simp at e
  | @cons v u vs us h t ih =>
    intro i w e
    cases i with
    | zero =>
      have : u = w := by simpa using e
      exact ⟨v, rfl, this ▸ h⟩
    | succ j => exact ih (by simpa using e)

theorem reps_reads {X : Cx} {cl : Nat → Addr} {pins : List (Addr × Obj)} {σ : St} {H : Hp} {s : Shared} (I : Inv X pins σ H s) : ∀ {vs : List V} {us : List Value} {ds : List D}, Reps X.K cl H vs ds → D.areDat ds = true → Vals vs us →
    PySem.W.EachIs (fun u d => ∃ as, Reads s.heap u d as) us (ds.map D.pyd)
  | vs, us, [], r, _, q => by
    simp only [Reps] at r
    subst r
    cases q
    exact .nil
  | vs, us, d :: ds, r, e, q => by
    obtain ⟨v, ws, rfl, r1, r2⟩ := r.uncons
    simp only [D.areDat, Bool.and_eq_true] at e
    cases q with
    | cons q1 q2 => exact .cons (reads_of I r1 e.1 q1) (reps_reads I r2 e.2 q2)

section
variable {X : Cx} {cl : Nat → Addr} {pins : List (Addr × Obj)} {σ : St} {H : Hp} {s : Shared}
theorem Own2.pinned {a b : Addr} {oa ob : Obj} (x : Own2 X pins H s a oa) (y : Own2 X pins H s b ob) (I : Inv X pins σ H s) : Inv X ((a, oa) :: (b, ob) :: pins) σ H s :=
  I.pins_of fun p hp => by
    rcases List.mem_cons.mp hp with rfl | hp
    · exact ⟨x.there, x.un, x.loc, x.fs, x.dat⟩
    · rcases List.mem_cons.mp hp with rfl | hp
      · exact ⟨y.there, y.un, y.loc, y.fs, y.dat⟩
      · exact I.pin p (List.mem_append_right _ hp)
theorem Inv.unpin2 {a b : Addr × Obj} (I : Inv X (a :: b :: pins) σ H s) : Inv X pins σ H s :=
  I.pins_of fun p hp => I.pin p (List.mem_append_right _ (List.mem_cons_of_mem _ (List.mem_cons_of_mem _ hp)))
theorem Own2.next {b : Addr} {ob o' : Obj} {H' : Hp} {s' : Shared} (y : Own2 X pins H s b ob) (e : s'.heap.get? b = some o') (n : H' b = none) (d : ∀ v, o'.data ≠ .cell v) : Own2 X pins H' s' b o' := ⟨e, n, y.loc, y.fs, d, y.new, y.cell, y.pin⟩
/-- the object at kS goes, the one at a is tracked from now on -/
theorem Inv.given {a kS : Addr} {oa ok : Obj} {o : HO} {h' : Heap} {t' : Nat} (I : Inv X pins σ H s) (x : Own2 X pins H s a oa) (y : Own2 X pins H s kS ok) (k : PySem.W.KeepsBut a (sans s.heap kS) h') (new : ObjOk X.prog X.w (upd H a o) h' a o) :
    Inv X pins σ (upd H a o) { s with heap := h', toks := t' } := by
  have kp : ∀ b u, b ≠ a → b ≠ kS → s.heap.get? b = some u → h'.get? b = some u := fun b u h1 h2 e => k b u h1 ((sans_ne h2).trans e)
  have nc : ∀ {b : Addr}, b ∉ [a, kS] → b ≠ a ∧ b ≠ kS := fun {b} hb => ⟨fun z => hb (by simp [z]), fun z => hb (by simp [z])⟩
  have tr : ∀ {b : Addr} {u : HO}, H b = some u → b ≠ a ∧ b ≠ kS := fun {b u} e => ⟨ne_of_none e x.un, ne_of_none e y.un⟩
  refine I.step (g' := s.gens) (d' := s.drawn) (ch := [a, kS]) (fun b hb => ?_) (fun b u _ _ hc e _ => kp b u (nc hc).1 (nc hc).2 e) (fun b u _ _ hc e _ => ⟨u.slots, kp b u (nc hc).1 (nc hc).2 e⟩)
    (fun b u hc _ n => by rw [upd_ne (nc hc).1]; exact n) (fun b u hc e => ⟨u, kp b u (nc hc).1 (nc hc).2 e⟩) (fun b xs e => by rw [upd_ne (tr e).1]; exact e) (fun b u xs e => by rw [upd_ne (tr e).1]; exact e)
    (fun b qs e => ⟨#[], by rw [upd_ne (tr e).1, e]; simp⟩) (fun m hm => ?_) (fun b u e => ?_) I.bare
  · have hb' : b = a ∨ b = kS := by simpa using hb
    rcases hb' with rfl | rfl
    · exact ⟨.inr x.new, x.loc, x.cell, x.pin⟩
    · exact ⟨.inr y.new, y.loc, y.cell, y.pin⟩
  · obtain ⟨u, es, ep, ho, r⟩ := hm
    exact ⟨u, es, ep, kp _ u (Ne.symm x.loc) (Ne.symm y.loc) ho, r⟩
  · by_cases hb : b = a
    · subst hb
      rw [upd_same] at e
      cases e
      exact new
    · rw [upd_ne hb] at e
      refine (I.hok b u e).stay (fun c v hc q => ?_) (fun c q => by rw [upd_ne (tr q).1]; exact q) fun c xs q => by rw [upd_ne (tr q).1]; exact q
      rcases hc with rfl | z
      · exact kp _ v (tr e).1 (tr e).2 q
      · exact kp _ v (tr z).1 (tr z).2 q
end

section
variable {X : Cx} {cl : Nat → Addr} {pins : List (Addr × Obj)} {σ : St} {H : Hp} {s : Shared} {β : Type} {zs : List (V × β)} {enc key : β → D} {R : List D → D → Prop} {k : Nat} {fa : Addr} {fd : FuncData} {ps : List Str} {G : Hp} {M : ML}
/-- the keys are made, then the items sorted by them -/
theorem key_rest (F : FnOk X.prog X.w X.K X.mg X.base CX0 k fa fd ps (PSp X.K cl R)) (hr : Room (k + 2) X.A) (hu : X.A.units + 64 < cLine) (hb : Binds X.K fd ps []) {vs : List Value} (ev : PySem.W.EachIs (fun u (z : V × β) => RelV z.1 u) vs zs) (rz : ∀ z ∈ zs, Rep X.K cl G z.1 (enc z.2)) (hR : ∀ z ∈ zs, R [enc z.2] (key z.2))
    (hd : D.areDat (zs.map fun z => key z.2) = true) (so : Sorts (zs.map fun z => (key z.2).pyd)) (hZ : vs.length ≤ sizeLine) {a kS : Addr} {e1 : Nat} (hka : kS ≠ a) (S : Sep G H M) (I : Inv X pins σ H s)
    (oa : Own2 X pins H s a (PyProof.Rows.seqObj "list" #[] e1)) (ok : Own2 X pins H s kS (PyProof.Rows.seqObj "list" #[] 0)) {P : PySem.Fin → Shared → Prop} {E : Value → Shared → Prop}
    (h : ∀ G' H' s', Same G G' → Sep G' H' M → H' a = none → Inv X pins σ (upd H' a (.lst ((zs.mergeSort (PySem.W.dataLe false fun z => (key z.2).pyd)).map (·.1)))) s' → P (.done (.ret .none)) s') :
    wpAny (model X.prog X.w) X.A.in1.in1 (PyProof.Rows.ksk_rest a (.ref fa) false vs.toArray e1 (.ref kS)) P E s := by
  have hzl : zs.length = vs.length := ev.length.symm
  unfold PyProof.Rows.ksk_rest
  refine wpAny_bind (wpAny_rule ?_)
  rw [List.forIn_toArray]
  refine wpAny_bind (PyProof.Rows.ksk_fold (fun i s' => ∃ G' H' ka e kvs, Same G G' ∧ Sep G' H' M ∧ Inv X pins σ H' s' ∧ Own2 X pins H' s' a (PyProof.Rows.seqObj "list" #[] e1) ∧ Own2 X pins H' s' kS (PyProof.Rows.seqObj "list" ka e) ∧ Vals kvs ka.toList ∧ Reps X.K cl G' kvs ((zs.take i).map fun z => key z.2)) vs 0 s
    ⟨G, H, #[], 0, [], Same.refl _, S, I.tok _, oa.next oa.there oa.un seq_nocell, ok.next ok.there ok.un seq_nocell, .nil, Reps.nil⟩ ?turn ?last)
  case turn =>
    rintro j x s' hx ⟨G', H', ka, e, kvs, s1, S1, I1, o1, o2, hv, rk⟩
    simp only [Nat.zero_add] at rk ⊢
    have hj : j < vs.length := (List.getElem?_eq_some_iff.mp hx).1
    obtain ⟨z, hz⟩ : ∃ z, zs[j]? = some z := ⟨_, List.getElem?_eq_getElem (by omega)⟩
    have hzm : z ∈ zs := List.mem_of_getElem? hz
    have rx : RelV z.1 x := ev.zip (x, z) (List.mem_of_getElem? (i := j) (by rw [List.getElem?_zip_eq_some]; exact ⟨hx, hz⟩))
    have hkl : ka.size ≤ vs.length := by
      have h1 := hv.length
      have h0 : ka.toList.length = ka.size := Array.length_toList
      rw [rk.length, List.length_map, List.length_take] at h1
      omega
    refine wpAny_bind (wpAny_attempt (wpAny_mono (key_call (pins := (a, PyProof.Rows.seqObj "list" #[] e1) :: (kS, PyProof.Rows.seqObj "list" ka e) :: pins) (Q := fun v H2 => ∃ G2, Same G' G2 ∧ Sep G2 H2 M ∧ Rep X.K cl G2 v (key z.2)) F hr hb (o1.pinned o2 I1) rx
      ⟨[enc z.2], key z.2, G', M, hR z hzm, S1, Reps.one ((rz z hzm).mono s1), fun v G2 H2 s2 S2 r2 => ⟨G2, s2, S2, r2⟩⟩) (fun w st2 hw => ?_) fun _ _ f => f.elim))
    obtain ⟨v, H2, I2, rw', G2, s2, S2, r2⟩ := hw
    have p1 := I2.pin (a, PyProof.Rows.seqObj "list" #[] e1) (List.mem_append_right _ (List.mem_cons_self ..))
    have p2 := I2.pin (kS, PyProof.Rows.seqObj "list" ka e) (List.mem_append_right _ (List.mem_cons_of_mem _ (List.mem_cons_self ..)))
    have I3 := Inv.unpin2 I2
    have q1 := o1.next p1.1 p1.2.1 seq_nocell
    have q2 := o2.next p2.1 p2.2.1 seq_nocell
    dsimp only
    have sb := Heap.SameBut.update st2.heap kS (Obj.mapSeq (·.push w))
    obtain ⟨c2, hc2⟩ : ∃ c2, (st2.heap.update kS (Obj.mapSeq (·.push w))).get? kS = some (PyProof.Rows.seqObj "list" (ka.push w) c2) := ⟨_, PyProof.Rows.get?_update_seq q2.there (·.push w)⟩
    refine wpAny_bind (PyProof.Rows.listUpdate_at q2.there rfl ?_ (Nat.le_trans hkl hZ) (Nat.le_trans (Nat.le_of_eq (Array.size_push ..)) (Nat.succ_le_succ (Nat.le_trans hkl hZ))))
    refine wpAny_pure ⟨rfl, G2, H2, ka.push w, c2, kvs ++ [v], s1.trans s2, S2, I3.turned (t' := st2.toks) (fun b o hb q => (sb.2 b hb).trans q) q2.un q2.loc (.inr q2.new) q2.cell q2.pin, q1.next ((sb.2 a (Ne.symm hka)).trans q1.there) q1.un seq_nocell, q2.next hc2 q2.un seq_nocell, ?_, ?_⟩
    · rw [Array.toList_push]
      exact hv.append (.cons rw' .nil)
    · rw [List.take_add_one, hz, List.map_append]
      exact (rk.mono s2).append (Reps.one r2)
  case last =>
    rintro s' ⟨G', H', ka, e, kvs, s1, S1, I1, o1, o2, hv, rk⟩
    rw [Nat.zero_add, List.take_of_length_le (by omega)] at rk
    have er := reps_reads I1 (rk.mono S1.sub) hd hv
    have em : (zs.map fun z => key z.2).map D.pyd = zs.map fun z => (key z.2).pyd := by rw [List.map_map]; rfl
    rw [em] at er
    have hks : ka.size = vs.length := by
      have h1 := hv.length
      have h0 : ka.toList.length = ka.size := Array.length_toList
      rw [rk.length, List.length_map] at h1
      omega
    refine wpAny_bind (PyProof.Rows.listItems_at o2.there rfl ?_)
    refine PySem.W.keyH_end (κ := PySem.W.dataKind s'.heap (zs.map fun z => (key z.2).pyd)) (h₁ := sans s'.heap kS) (fun b o _ q => ?_) sans_self o2.there o1.there hka (PySem.W.SortsAt.data er so.alike so.kind fun d hm => ?_) hks hZ fun h' tk c kb he => ?_
    · by_cases hbk : b = kS
      · rw [hbk, sans_self] at q
        cases q
      · rw [sans_ne hbk] at q
        exact q
    · have h1 := so.low d hm
      have h2 : X.A.in1.in1.units = X.A.units + 2 := rfl
      omega
    · have eo : PySem.W.EachIs (fun u (z : V × β) => RelV z.1 u) (PySem.W.sortVals (PySem.W.dataKind s'.heap (zs.map fun z => (key z.2).pyd)) false ka.toList vs) (zs.mergeSort (PySem.W.dataLe false fun z => (key z.2).pyd)) :=
        PySem.W.keyedOut_each (fun z => (key z.2).pyd) ⟨s'.heap, ka.toList, so.alike, rfl, er⟩ ev
      refine h G' H' _ s1 S1 o1.un (Inv.given (t' := tk) I1 o1 o2 kb ⟨?_, _, c, each_back eo, he⟩)
      rw [List.length_map, List.length_mergeSort, hzl]
      exact hZ
/-- sorted(xs, key=f) -/
theorem call_sortKey (F : FnOk X.prog X.w X.K X.mg X.base CX0 k fa fd ps (PSp X.K cl R)) (hr : Room (k + 2) X.A) (hu : X.A.units + 64 < cLine) (hb : Binds X.K fd ps []) : CallRK X (.builtin "sorted") [Str.ofString "key"] (rSortKey X.K cl fa R) := by
  rintro pins s σ H xs zs us ws Q I r rw' ⟨a, vs, β, l, enc, key, G, M, rfl, rfl, S, sq, rs, hR, hd, so, q⟩
  obtain rfl := Vals.ref1 r
  obtain ⟨w1, rfl, e1⟩ := vals1 rw'
  obtain rfl : w1 = Value.ref fa := e1
  obtain ⟨its, rv, pl, hz⟩ := I.list sq
  obtain ⟨zs, rfl, rfl, hzr⟩ := reps_mapT rs
  have hil : its.length ≤ sizeLine := by rw [← rv.length]; exact hz
  have keep : ∀ b u, s.heap.get? b = some u → (PySem.W.copyHeap s.heap its).get? b = some u := fun b u e => PySem.W.copyHeap_old e
  have I1 : Inv X pins σ H { s with heap := PySem.W.copyHeap s.heap its } := I.kept (t' := s.toks) keep
  refine PySem.W.sorted_of_sort pl.isList hil (PyProof.Rows.ksk_s1 _ _) (fun _ => PyProof.Rows.ksk_l1 _ _) fun E' => ?_
  show wpAny _ _ (Builtin.«list.sort» ⟨[.ref (s.heap.objs.size + 1)], [(Str.ofString "key", .ref fa)]⟩) _ _ _
  rw [PyProof.Rows.ksk_t1]
  have hcs : (PySem.W.copyHeap s.heap its).objs.size = s.heap.objs.size + 2 := by
    unfold PySem.W.copyHeap
    rw [Heap.size_push, Heap.size_update, Heap.size_push]
  have ho := PySem.W.copyHeap_at s.heap its
  obtain ⟨e1, ho1⟩ : ∃ e1, ((PySem.W.copyHeap s.heap its).update (s.heap.objs.size + 1) (Obj.mapSeq fun _ => (#[] : Array Value))).get? (s.heap.objs.size + 1) = some (PyProof.Rows.seqObj "list" #[] e1) := ⟨_, PyProof.Rows.get?_update_seq ho fun _ => #[]⟩
  unfold PyProof.Rows.ksk_tree
  refine wpAny_bind (PyProof.Rows.listItems_at ho rfl ?_)
  refine wpAny_bind (PyProof.Rows.listUpdate_at ho rfl ?_ (by rw [List.size_toArray]; exact hil) (Nat.zero_le _))
  refine wpAny_bind (PyProof.Rows.seqEpoch_at ho1 rfl ?_)
  refine wpAny_bind (wpAny_newTuple ?_ (by show its.length ≤ _; exact hil))
  refine wpAny_bind (wpAny_newList ?_ (Nat.zero_le _))
  refine wpAny_holding ?_
  have hk : (((PySem.W.copyHeap s.heap its).update (s.heap.objs.size + 1) (Obj.mapSeq fun _ => (#[] : Array Value))).push (PyProof.Rows.seqObj "tuple" its.toArray 0)).objs.size = s.heap.objs.size + 3 := by rw [Heap.size_push, Heap.size_update, hcs]
  have keep4 : ∀ b u, s.heap.get? b = some u → ((((PySem.W.copyHeap s.heap its).update (s.heap.objs.size + 1) (Obj.mapSeq fun _ => (#[] : Array Value))).push (PyProof.Rows.seqObj "tuple" its.toArray 0)).push (PyProof.Rows.seqObj "list" #[] 0)).get? b = some u := fun b u e => by
    have hlt := Heap.lt_size e
    refine Heap.get?_push_of_some _ (Heap.get?_push_of_some _ ?_)
    rw [Heap.get?_update_ne _ _ _ _ (Nat.ne_of_lt (Nat.lt_succ_of_lt hlt))]
    exact keep b u e
  have I4 := I.kept (t' := s.toks) keep4
  have fr : ∀ {b : Addr}, s.heap.objs.size ≤ b → H b = none := fun {b} hb => I.hok.fresh hb
  refine key_rest (pins := pins) (σ := σ) (H := H) (M := M) F hr hu hb (each_of_vals rv) hzr (fun z hz => hR z.2 (List.mem_map.mpr ⟨z, hz, rfl⟩)) (by rw [List.map_map] at hd; exact hd) (by rw [List.map_map] at so; exact so) hil (by rw [hk]; exact Nat.ne_of_gt (Nat.add_lt_add_left (show 1 < 3 by decide) _)) S I4
    (Own2.of I (Nat.le_succ _) (Heap.get?_push_of_some _ (Heap.get?_push_of_some _ ho1)) (fr (Nat.le_succ _)) seq_nocell (fun _ h => h)) (Own2.of I (by rw [hk]; exact Nat.le_add_right _ _) (Heap.get?_push_size _ rfl) (fr (by rw [hk]; exact Nat.le_add_right _ _)) seq_nocell (fun _ h => h)) ?_
  intro G' H' s' s1 S1 hn I'
  refine ⟨rfl, .ref _, _, I', rfl, q G' H' _ _ s1 S1 ?_ hn⟩
  have em : ((zs.map (·.2)).mergeSort (PySem.W.dataLe false fun b => (key b).pyd)).map enc = (zs.mergeSort (PySem.W.dataLe false fun z => (key z.2).pyd)).map fun z => enc z.2 := by
    rw [← List.map_mergeSort (f := fun z : V × β => z.2) (r := PySem.W.dataLe false fun z : V × β => (key z.2).pyd) fun _ _ _ _ => rfl, List.map_map]
    rfl
  rw [em]
  exact Reps.map fun z hz => (hzr z ((List.mergeSort_perm _ _).mem_iff.mp hz)).mono s1
end
/-! ### its rule -/
section
variable {K : PySem.W.Frag} {cl : Nat → Addr} {p q : Bool} {M M1 : ML} {G : Hp} {σ : St} {ta : TE} {d : D} {β : Type} {l : List β} {enc key : β → D} {R : List D → D → Prop} {fa : Addr}
theorem ev_sortKey (ha : EvX K cl p ta σ G M d M1) (hd : d = .lst (l.map enc)) (hR : ∀ b ∈ l, R [enc b] (key b)) (hk : D.areDat (l.map key) = true) (so : Sorts (l.map fun b => (key b).pyd)) :
    EvX K cl false (tCKw (rSortKey K cl fa R) (tCons ta tNil) (tCons (tC (.ref fa)) tNil)) σ G M (.lst ((l.mergeSort (PySem.W.dataLe false fun b => (key b).pyd)).map enc)) M1 := fun G1 H1 s S Q k =>
  ha G1 H1 s S _ fun x G2 H2 g2 rx => by
    rw [hd] at rx
    obtain ⟨a, vs, rfl, sq, rs⟩ := rx.of_lst
    refine ⟨a, vs, β, l, enc, key, G2, M1, rfl, rfl, g2.sep, g2.sep.sub.seq sq, rs, hR, hk, so, fun G' H' ws p s' S' r' hn => ?_⟩
    exact k _ _ _ (Go.of ((g2.same.trans s').trans (Same.upd (S'.freshG hn))) (S'.newG hn)) (Rep.lst (.inl (.inl upd_same)) (r'.mono (Same.upd (S'.freshG hn))))
theorem ev_sortKeyM {a : Addr} {vs : List V} (ha : EvX K cl p ta σ G M (.loc a) M1) (hm : At M1 a (.lst vs)) (hr : Reps K cl G vs (l.map enc)) (hR : ∀ b ∈ l, R [enc b] (key b)) (hk : D.areDat (l.map key) = true) (so : Sorts (l.map fun b => (key b).pyd)) :
    EvX K cl false (tCKw (rSortKey K cl fa R) (tCons ta tNil) (tCons (tC (.ref fa)) tNil)) σ G M (.lst ((l.mergeSort (PySem.W.dataLe false fun b => (key b).pyd)).map enc)) M1 := fun G1 H1 s S Q k =>
  ha G1 H1 s S _ fun x G2 H2 g2 rx => by
    rw [rx.of_loc]
    refine ⟨a, vs, β, l, enc, key, G2, M1, rfl, rfl, g2.sep, .inl (.inl (g2.sep.look hm)), hr.mono (s.trans g2.same), hR, hk, so, fun G' H' ws p s' S' r' hn => ?_⟩
    exact k _ _ _ (Go.of ((g2.same.trans s').trans (Same.upd (S'.freshG hn))) (S'.newG hn)) (Rep.lst (.inl (.inl upd_same)) (r'.mono (Same.upd (S'.freshG hn))))
end
end Cp
/-! Cp13: dicts that are never changed, as data; comprehensions told by a relation; arguments laid on the way; == of things of one shape; what is never reached. -/
namespace Cp
open PySem L2

/-! ### what is never reached -/
def tNope : TS := fun _ _ _ => False
theorem ps_nope {X : Cx} {st : Stmt} : PS X st tNope := ⟨fun _ _ _ _ _ _ h => h.elim⟩
def eNope : TE := fun _ _ _ => False
theorem pe_nope {X : Cx} {e : Expr} : PE X e eNope := ⟨fun _ _ _ _ _ _ h => h.elim⟩

/-- sorted(xs, key=f), its reading: wherever f stands -/
def tSortKey (K : PySem.W.Frag) (cl : Nat → Addr) (R : List D → D → Prop) (t : TA) : TE := fun σ H Q => ∀ fa, tCKw (rSortKey K cl fa R) t (tCons (tC (.ref fa)) tNil) σ H Q
theorem pe_sortKey {X : Cx} {cl : Nat → Addr} {R : List D → D → Prop} {k : Nat} {fa : Addr} {fd : FuncData} {ps : List Str} {x y : Str} {p q pos kp : Pos} {e : Expr} {t : TA} (F : FnOk X.prog X.w X.K X.mg X.base CX0 k fa fd ps (PSp X.K cl R)) (hr : Room (k + 2) X.A) (hu : X.A.units + 64 < cLine) (hb : Binds X.K fd ps [])
    (hg : Gl X x) (hm : X.mg x = none) (hv : bootBuiltins x = some (.builtin "sorted")) (my : X.mg y = some (.ref fa)) (ha : PA X [e] t) (hg2 : Gl X y := by rfl) (hn : x ≠ "__name__" := by decide) (hdb : (x == ("__debug__" : Str)) = false := by decide) (hdy : (y == ("__debug__" : Str)) = false := by decide)
    (he : backTo pos (starEach (e :: []) X.env) = (false, eval e X.env) :: backTo pos (starEach [] X.env) := by rfl) (hpl : (backTo pos (starEach (e :: []) X.env)).any (·.1) = false := by rfl)
    (hall : (backToKw pos (keywordEach [⟨some "key", .Name y q, kp⟩] X.env)).all (·.1.isSome) = true := by rfl) (hnone : (backToKw pos (keywordEach [⟨some "key", .Name y q, kp⟩] X.env)).any (·.1.isNone) = false := by rfl) (hks : (backToKw pos (keywordEach [⟨some "key", .Name y q, kp⟩] X.env)).filterMap (·.1) = [Str.ofString "key"] := by rfl) :
    PE X (.Call (.Name x p) [e] [⟨some "key", .Name y q, kp⟩] pos) (tSortKey X.K cl R t) := by
  refine ⟨fun pins s σ H Q I h => ?_⟩
  exact (pe_callBK (p := p) (call_sortKey F hr hu hb) hg hm hv ha (pk_cons (nm := some "key") (kpos := kp) (pe_glob (pos := q) (v := .ref fa) hg2 my rfl hdy) pk_nil) hn hdb he hpl hall hnone hks).run pins s σ H Q I (h fa)
theorem ev_keyed {K : PySem.W.Frag} {cl : Nat → Addr} {p : Bool} {M M1 : ML} {G : Hp} {σ : St} {ta : TE} {d : D} {β : Type} {l : List β} {enc key : β → D} {R : List D → D → Prop} (ha : EvX K cl p ta σ G M d M1) (hd : d = .lst (l.map enc)) (hR : ∀ b ∈ l, R [enc b] (key b)) (hk : D.areDat (l.map key) = true) (so : Sorts (l.map fun b => (key b).pyd)) :
    EvX K cl false (tSortKey K cl R (tCons ta tNil)) σ G M (.lst ((l.mergeSort (PySem.W.dataLe false fun b => (key b).pyd)).map enc)) M1 := fun G1 H1 s S Q k fa => ev_sortKey ha hd hR hk so G1 H1 s S Q k
theorem ev_keyedM {K : PySem.W.Frag} {cl : Nat → Addr} {p : Bool} {M M1 : ML} {G : Hp} {σ : St} {ta : TE} {a : Addr} {vs : List V} {β : Type} {l : List β} {enc key : β → D} {R : List D → D → Prop} (ha : EvX K cl p ta σ G M (.loc a) M1) (hm : At M1 a (.lst vs)) (hr : Reps K cl G vs (l.map enc)) (hR : ∀ b ∈ l, R [enc b] (key b)) (hk : D.areDat (l.map key) = true) (so : Sorts (l.map fun b => (key b).pyd)) :
    EvX K cl false (tSortKey K cl R (tCons ta tNil)) σ G M (.lst ((l.mergeSort (PySem.W.dataLe false fun b => (key b).pyd)).map enc)) M1 := fun G1 H1 s S Q k fa => ev_sortKeyM ha hm hr hR hk so G1 H1 s S Q k

/-! ### dicts as data -/
section
variable {K : PySem.W.Frag} {cl : Nat → Addr} {G G' : Hp} {a : Addr}
theorem KRep.fst {kws : List (Key × V)} {kes : List (Key × D)} (r : KRep K cl G kws kes) : kws.map (·.1) = kes.map (·.1) := by
  induction r with
  | nil => rfl
  | cons h t ih => rw [List.map_cons, List.map_cons, ih, h.1]
theorem KRep.snd {kws : List (Key × V)} {kes : List (Key × D)} (r : KRep K cl G kws kes) : Reps K cl G (kws.map (·.2)) (kes.map (·.2)) := by
  induction r with
  | nil => exact Reps.nil
  | cons h t ih => exact Reps.cons h.2 ih
/-- a dict as data -/
abbrev dicD (kes : List (Key × D)) : D := .dic (kes.map (·.1)) (kes.map (·.2))
theorem KRep.dic {kws : List (Key × V)} {kes : List (Key × D)} (r : KRep K cl G kws kes) (h : G a = Option.some (.dK kws)) : Rep K cl G (.ref a) (dicD kes) := Rep.dic h r.fst r.snd
theorem krep_of : ∀ {kws : List (Key × V)} {kes : List (Key × D)}, kws.map (·.1) = kes.map (·.1) → Reps K cl G (kws.map (·.2)) (kes.map (·.2)) → KRep K cl G kws kes
  | [], [], _, _ => .nil
  | [], _ :: _, h, _ => by simp at h
  | _ :: _, [], h, _ => by simp at h
  | p :: kws, q :: kes, h, r => by
    rw [List.map_cons, List.map_cons, List.cons.injEq] at h
    obtain ⟨v, ws, e, r1, r2⟩ := r.uncons
    rw [List.map_cons, List.cons.injEq] at e
    rw [← e.1] at r1
    rw [← e.2] at r2
    exact .cons ⟨h.1, r1⟩ (krep_of h.2 r2)
theorem Rep.of_dicD {x : V} {kes : List (Key × D)} (h : Rep K cl G x (dicD kes)) : ∃ a kws, x = .ref a ∧ G a = some (.dK kws) ∧ KRep K cl G kws kes := by
  obtain ⟨a, kws, e, q, l, r⟩ := h.of_dic
  exact ⟨a, kws, e, q, krep_of l r⟩
/-- an owned dict becomes data -/
theorem Sep.dic {H : Hp} {M : ML} {kws : List (Key × V)} {kes : List (Key × D)} (S : Sep G H ((a, .dK kws) :: M)) (r : KRep K cl G kws kes) : ∃ G', Same G G' ∧ Sep G' H M ∧ Rep K cl G' (.ref a) (dicD kes) := by
  obtain ⟨S', s'⟩ := S.freeze
  exact ⟨_, s', S', (r.mono s').dic upd_same⟩
theorem Sep.ins {H : Hp} {M : ML} {c : Nat} {dx : Addr} {ns : List Str} {vs : List V} {ds : List D} (S : Sep G H ((a, .ins (cl c) dx (ns.zip vs)) :: M)) (l : ns.length = vs.length) (r : Reps K cl G vs ds) : ∃ G', Same G G' ∧ Sep G' H M ∧ Rep K cl G' (.ref a) (.ins c ns ds) := by
  obtain ⟨S', s'⟩ := S.freeze
  exact ⟨_, s', S', Rep.ins upd_same l (r.mono s')⟩
theorem Sep.lst {H : Hp} {M : ML} {vs : List V} {ds : List D} (S : Sep G H ((a, .lst vs) :: M)) (r : Reps K cl G vs ds) : ∃ G', Same G G' ∧ Sep G' H M ∧ Rep K cl G' (.ref a) (.lst ds) := by
  obtain ⟨S', s'⟩ := S.freeze
  exact ⟨_, s', S', Rep.lst (.inl (.inl upd_same)) (r.mono s')⟩
end
section
variable [Wo] {K : PySem.W.Frag} {cl : Nat → Addr} {p q r : Bool} {M M1 M2 M3 M4 : ML} {G G1 G2 G3 H H1 H2 H3 : Hp} {σ : St} {ta tb tc te tl : TE} {tx : TA} {tt tu : TT} {d d1 d2 d3 : D} {ds es : List D}
variable {a : Addr} {kes : List (Key × D)} {k : Key}
theorem ev_dget (ha : EvX K cl p ta σ G M d2 M1) (hb : EvX K cl q tb σ G M1 d1 M2) (hd : d2 = dicD kes) (hk : d1 = kD k) (hv : valG kes k = some d) : EvX K cl (p && q) (tOp (rIxA K cl) ta tb) σ G M d M2 := fun G1 H1 s S Q kk =>
  ha G1 H1 s S _ fun x G2 H2 g2 rx => hb G2 H2 (s.trans g2.same) g2.sep _ fun y G3 H3 g3 ry => by
    rw [hd] at rx
    obtain ⟨a, kws, rfl, ea, r⟩ := rx.of_dicD
    rw [hk] at ry
    obtain ⟨v, e, rv⟩ := r.some hv
    exact .inl ⟨a, v, rfl, .inl ⟨kws, k, .inl (g3.sep.sub _ _ (g3.same _ _ ea)), rep_kD ry, e.symm⟩, kk v G3 H3 (g2.trans g3) (rv.mono g3.same)⟩
theorem ev_din {neg : Bool} (hb : EvX K cl p tb σ G M d1 M1) (ha : EvX K cl q ta σ G M1 d2 M2) (hd : d2 = dicD kes) (hk : d1 = kD k) : EvX K cl (p && q) (tOp (rInA K cl neg) tb ta) σ G M (.bl (neg != (valG kes k).isSome)) M2 := fun G1 H1 s S Q kk =>
  hb G1 H1 s S _ fun y G2 H2 g2 ry => ha G2 H2 (s.trans g2.same) g2.sep _ fun x G3 H3 g3 rx => by
    rw [hd] at rx
    obtain ⟨a, kws, rfl, ea, r⟩ := rx.of_dicD
    rw [hk] at ry
    refine .inl ⟨a, _, rfl, .inl ⟨kws, k, .inl (g3.sep.sub _ _ ea), rep_kD ry, rfl⟩, ?_⟩
    rw [r.isSome]
    exact kk _ G3 H3 (g2.trans g3) Rep.bl
theorem ev_dget1 (ha : EvX K cl p ta σ G M d2 M1) (hb : EvX K cl q tb σ G M1 d1 M2) (hd : d2 = dicD kes) (hk : d1 = kD k) : EvX K cl (p && q) (tGet1 K cl ta tb) σ G M ((valG kes k).getD .non) M2 := fun G1 H1 s S Q kk =>
  ha G1 H1 s S _ fun x G2 H2 g2 rx => by
    rw [hd] at rx
    obtain ⟨a, kws, rfl, ea, r⟩ := rx.of_dicD
    refine ⟨a, rfl, .inl (.inl ⟨kws, .inl (g2.sep.sub _ _ ea)⟩), hb G2 H2 (s.trans g2.same) g2.sep _ fun y G3 H3 g3 ry => ?_⟩
    rw [hk] at ry
    exact .inl ⟨_, .inl ⟨kws, k, .inl (g3.sep.sub _ _ (g3.same _ _ ea)), rep_kD ry, rfl⟩, kk _ G3 H3 (g2.trans g3) ((r.getD k Rep.non).mono g3.same)⟩
theorem ev_dget2 (ha : EvX K cl p ta σ G M d2 M1) (hb : EvX K cl q tb σ G M1 d1 M2) (hz : EvX K cl r tc σ G M2 d3 M3) (hd : d2 = dicD kes) (hk : d1 = kD k) : EvX K cl (p && q && r) (tGet2 K cl ta tb tc) σ G M ((valG kes k).getD d3) M3 := fun G1 H1 s S Q kk =>
  ha G1 H1 s S _ fun x G2 H2 g2 rx => by
    rw [hd] at rx
    obtain ⟨a, kws, rfl, ea, r⟩ := rx.of_dicD
    refine ⟨a, rfl, .inl (.inl ⟨kws, .inl (g2.sep.sub _ _ ea)⟩), hb G2 H2 (s.trans g2.same) g2.sep _ fun y G3 H3 g3 ry => hz G3 H3 ((s.trans g2.same).trans g3.same) g3.sep _ fun z G4 H4 g4 rz => ?_⟩
    rw [hk] at ry
    have sA := g3.same.trans g4.same
    exact .inl ⟨_, .inl ⟨kws, k, .inl (g4.sep.sub _ _ (sA _ _ ea)), rep_kD (ry.mono g4.same), rfl⟩, kk _ G4 H4 ((g2.trans g3).trans g4) ((r.mono sA).getD k rz)⟩
/-- list(xs) -/
theorem on_listL : OpN K cl false (rListA K) M [.lst ds] (.lst ds) M := fun G1 H1 S us ru Q k => by
  obtain ⟨u, rfl, hu⟩ := reps1 ru
  obtain ⟨a, vs, rfl, sq, rs⟩ := hu.of_lst
  exact ⟨a, vs, rfl, .inl (S.sub.seq sq), fun l hl => k _ _ _ (Go.of (Same.upd (S.freshG hl)) (S.newG hl)) (Rep.lst (.inl (.inl upd_same)) (rs.mono (Same.upd (S.freshG hl))))⟩
/-- dict(d) of a dict as data -/
abbrev rDictD : List V → Hp → VK → Prop := fun xs H Q => ∃ (a : Addr) (kvs : List (Key × V)), xs = [.ref a] ∧ Rd H a (.dK kvs) ∧ ∀ p, H p = none → Q (.ref p) (upd H p (.dK kvs))
theorem on_dictD : OpN K cl false rDictD M [dicD kes] (dicD kes) M := fun G1 H1 S us ru Q k => by
  obtain ⟨u, rfl, hu⟩ := reps1 ru
  obtain ⟨a, kws, rfl, ea, r⟩ := hu.of_dicD
  exact ⟨a, kws, rfl, .inl (S.sub _ _ ea), fun l hl => k _ _ _ (Go.of (Same.upd (S.freshG hl)) (S.newG hl)) ((r.mono (Same.upd (S.freshG hl))).dic upd_same)⟩

/-! ### laid on the way -/
theorem EvG.imp {F F' : FG} (h : EvG te σ G M F) (hF : ∀ v G' H' M', Same G G' → Sep G' H' M' → F v G' M' → ∃ G2 M2, Same G' G2 ∧ Sep G2 H' M2 ∧ F' v G2 M2) : EvG te σ G M F' := fun G1 H1 s S Q k =>
  h G1 H1 s S _ fun v G2 H2 M2 s2 S2 f => by
    obtain ⟨G3, M3, s3, S3, f3⟩ := hF v G2 H2 M2 (s.trans s2) S2 f
    exact k v G3 H2 M3 (s2.trans s3) S3 f3
theorem ev_of {F : FG} (h : EvG te σ G M F) (hF : ∀ v G' H' M', Same G G' → Sep G' H' M' → F v G' M' → ∃ G2, Same G' G2 ∧ Sep G2 H' M ∧ Rep K cl G2 v d) : EvX K cl false te σ G M d M := fun G1 H1 s S Q k =>
  h G1 H1 s S _ fun v G2 H2 M2 s2 S2 f => by
    obtain ⟨G3, s3, S3, r3⟩ := hF v G2 H2 M2 (s.trans s2) S2 f
    exact k v G3 H2 (Go.of (s2.trans s3) S3) r3
abbrev AG := List V → Hp → ML → Prop
def EvAG (ta : TA) (σ : St) (G : Hp) (M : ML) (F : AG) : Prop :=
  ∀ G1 H1, Same G G1 → Sep G1 H1 M → ∀ Q : List V → Hp → Prop, (∀ vs G2 H2 M2, Same G1 G2 → Sep G2 H2 M2 → F vs G2 M2 → Q vs H2) → ta σ H1 Q
theorem ag_of {F : AG} (h : EvA K cl p tx σ G M ds M1) (hF : ∀ vs G', Same G G' → Reps K cl G' vs ds → F vs G' M1) : EvAG tx σ G M F := fun G1 H1 s S Q k =>
  h G1 H1 s S Q fun vs G2 H2 g2 rs => k vs G2 H2 M1 g2.same g2.sep (hF vs G2 (s.trans g2.same) rs)
theorem ag_cons {tr : TA} {F1 : FG} {F : AG} (h : EvG te σ G M F1) (hr : ∀ v G' M', Same G G' → F1 v G' M' → EvAG tr σ G' M' fun vs G2 M2 => F (v :: vs) G2 M2) : EvAG (tCons te tr) σ G M F := fun G1 H1 s S Q k =>
  h G1 H1 s S _ fun v G2 H2 M2 s2 S2 f => hr v G2 M2 (s.trans s2) f G2 H2 (Same.refl _) S2 _ fun vs G3 H3 M3 s3 S3 f3 => k (v :: vs) G3 H3 M3 (s2.trans s3) S3 f3
/-- a def over what was laid for it -/
theorem eg_callAG {R : RG} {E : XK} {F : FG} {Fa : AG} (ha : EvAG tx σ G M Fa)
    (hR : ∀ vs G' H' M' (T : V → Hp → ML → Prop), Same G G' → Sep G' H' M' → Fa vs G' M' → (∀ v G'' M'', Same G' G'' → F v G'' M'' → T v G'' M'') → ∃ M2, M'.Perm M2 ∧ R vs G' M2 T) : EvG (tCall (GSp R) [] E tx) σ G M F := fun G1 H1 s S Q k =>
  ha G1 H1 s S _ fun xs G2 H2 M2 s2 S2 fa => by
    obtain ⟨M3, pm, hh⟩ := hR xs G2 H2 M2 (fun v G' M' => Same G2 G' → ∀ H', Sep G' H' M' → Q v H') (s.trans s2) S2 fa fun v G'' M'' s'' hF sm H' S' => k v G'' H' M'' (s2.trans sm) S' hF
    refine ⟨G2, M3, S2.perm pm, ?_⟩
    rw [List.append_nil]
    exact hh
/-- a pure def over what was laid for it -/
theorem eg_pcallAG {R : List D → D → Prop} {E : XK} {F : FG} {Fa : AG} (ha : EvAG tx σ G M Fa)
    (hR : ∀ vs G' M', Same G G' → Fa vs G' M' → ∃ ds d, Reps K cl G' vs ds ∧ R ds d ∧ ∀ w G'', Same G' G'' → Rep K cl G'' w d → F w G'' M') : EvG (tCall (PSp K cl R) [] E tx) σ G M F := fun G1 H1 s S Q k =>
  ha G1 H1 s S _ fun xs G2 H2 M2 s2 S2 fa => by
    obtain ⟨ds, d, rs, hd, hk⟩ := hR xs G2 M2 (s.trans s2) fa
    exact ⟨ds, d, G2, M2, hd, S2, by rw [List.append_nil]; exact rs, fun w G' H' s' S' rw' => k w G' H' M2 (s2.trans s') S' (hk w G' s' rw')⟩

/-! ### comprehensions told by a relation -/
def LcG (K : PySem.W.Frag) (cl : Nat → Addr) (g : TG) (tt : TT) (te : TE) (vs : List Nat) (σ : St) (G : Hp) (M : ML) (x : V) (keep : Bool) (F : V → Hp → Prop) : Prop :=
  ∃ σ2 p, wipe σ2 vs = wipe σ vs ∧ (∀ H (Kk : St → Hp → Prop), Sep G H M → Kk σ2 H → g x (wipe σ vs) H Kk) ∧ EvT K cl p tt σ2 G M keep M ∧ (keep = true → EvG te σ2 G M fun v G' M' => M' = M ∧ F v G')
theorem lcG1 {vs : List Nat} {x : V} {keep : Bool} {j : Nat} {F : V → Hp → Prop} (hw : wipe ((wipe σ vs).set j (some x)) vs = wipe σ vs) (ht : EvT K cl p tt ((wipe σ vs).set j (some x)) G M keep M) (he : keep = true → EvG te ((wipe σ vs).set j (some x)) G M fun v G' M' => M' = M ∧ F v G') : LcG K cl (gName j) tt te vs σ G M x keep F :=
  ⟨_, p, hw, fun H Kk _ h => h, ht, he⟩
theorem eg_lcY {β γ : Type} {l : List β} {U : V → β → Hp → Prop} {encY : γ → D} {P : β → γ → Prop} {vs : List Nat} {keep : β → Bool} {g : TG} {J : It} {us : List V} {ok : Hp → Prop} (Y : Yields J us ok) (hok : ∀ e G' H', Same G G' → Sep G' H' (e :: M1) → ok H')
    (hus : ∀ (i : Nat) (x : V), us[i]? = some x → ∃ b, l[i]? = some b ∧ U x b G) (hul : us.length = l.length) (hU : ∀ x b G', Same G G' → U x b G → U x b G') (hl : l.length ≤ 10000000) (sG : Same G G2) (S2 : Sep G2 H2 M1)
    (hs : ∀ G1 e x b, Same G G1 → b ∈ l → U x b G1 → LcG K cl g tt te vs σ G1 (e :: M1) x (keep b) fun v G' => ∃ c, P b c ∧ Rep K cl G' v (encY c)) {Q : VK} (k : ∀ v G' H', Same G2 G' → Sep G' H' M1 → (∃ cs, Paired P (l.filter keep) cs ∧ Rep K cl G' v (.lst (cs.map encY))) → Q v H') :
    ∀ Da, H2 Da = none → ∃ W : Nat → Nat → Hp → Prop, (∃ m, W 0 m (upd H2 Da (.lst []))) ∧ ∀ i m H, W i m H →
      (J.stop i H ∧ Q (.ref Da) H) ∨ (J.go i H ∧ ∃ Nx : Hp → Prop, (∀ H', Nx H' → ∃ m', m' < m ∧ W (i + 1) m' H') ∧ ∀ x H', J.yld i H x H' → g x (wipe σ vs) H' fun σ2 H2 => wipe σ2 vs = wipe σ vs ∧ tt σ2 H2 fun b H3 =>
        if b = true then te σ2 H3 fun y H4 => ∃ acc, H4 Da = some (.lst acc) ∧ acc.length < sizeLine ∧ Nx (upd H4 Da (.lst (acc ++ [y]))) else Nx H3) := fun Da hD => by
  have pl : ∀ {l : List β} {cs : List γ}, Paired P l cs → l.length = cs.length := fun h => by
    induction h with
    | nil => rfl
    | cons h t ih => rw [List.length_cons, List.length_cons, ih]
  have pa : ∀ {l l' : List β} {cs cs' : List γ}, Paired P l cs → Paired P l' cs' → Paired P (l ++ l') (cs ++ cs') := fun h h' => by
    induction h with
    | nil => exact h'
    | cons h t ih => exact .cons h ih
  refine lc_y Y (fun i H => ∃ G' acc cs, Same G2 G' ∧ Sep G' H ((Da, .lst acc) :: M1) ∧ Paired P ((l.take i).filter keep) cs ∧ Reps K cl G' acc (cs.map encY)) ⟨G2, [], [], Same.refl _, S2.newM hD, .nil, Reps.nil⟩ ?_ ?_ ?_
  · rintro i H hi ⟨G', acc, cs, s', S', _, ra⟩
    exact hok _ G' H (sG.trans s') S'
  · rintro i x H hx ⟨G', acc, cs, s', S', hp, ra⟩
    obtain ⟨b, hdi, ub⟩ := hus i x hx
    obtain ⟨σ2, p', hw, hg, ht, he⟩ := hs G' (Da, .lst acc) x b (sG.trans s') (List.mem_of_getElem? hdi) (hU x b G' (sG.trans s') ub)
    refine hg H _ S' ⟨hw, ht G' H (Same.refl _) S' _ fun G3 H3 g3 => ?_⟩
    have e1 : l.take (i + 1) = l.take i ++ [b] := by rw [List.take_add_one, hdi]; rfl
    have hal : acc.length ≤ l.length := by
      rw [ra.length, List.length_map, ← pl hp]
      exact Nat.le_trans (List.length_filter_le _ _) (by rw [List.length_take]; omega)
    cases hk : keep b with
    | true =>
      rw [if_pos rfl]
      refine he hk G3 H3 g3.same g3.sep _ fun y G4 H4 M4 s4 S4 f4 => ?_
      obtain ⟨rfl, c, hc, ry⟩ := f4
      have sA := g3.same.trans s4
      refine ⟨acc, S4.look .hd, Nat.lt_of_le_of_lt (Nat.le_trans hal hl) (by decide), G4, acc ++ [y], cs ++ [c], s'.trans sA, S4.ch .hd, ?_, ?_⟩
      · rw [e1, List.filter_append, List.filter_cons, if_pos hk]
        exact pa hp (.cons hc .nil)
      · rw [List.map_append]
        exact Reps.append (ra.mono sA) (Reps.one ry)
    | false =>
      rw [if_neg (by decide)]
      refine ⟨G3, acc, cs, s'.trans g3.same, g3.sep, ?_, ra.mono g3.same⟩
      rw [e1, List.filter_append, List.filter_cons, if_neg (by rw [hk]; decide)]
      show Paired P (_ ++ []) cs
      rw [List.append_nil]
      exact hp
  · rintro H ⟨G', acc, cs, s', S', hp, ra⟩
    rw [hul, List.take_length] at hp
    obtain ⟨S3, s3⟩ := S'.freeze
    exact k (.ref Da) _ H (s'.trans s3) S3 ⟨cs, hp, Rep.lst (.inl (.inl upd_same)) (ra.mono s3)⟩
theorem eg_lcR {β γ : Type} {l : List β} {enc : β → D} {encY : γ → D} {P : β → γ → Prop} {vs : List Nat} {keep : β → Bool} {g : TG} (h : EvX K cl p tl σ G M d1 M1) (hd : d1 = .lst (l.map enc)) (hl : l.length ≤ 10000000)
    (hs : ∀ G1 e x b, Same G G1 → b ∈ l → Rep K cl G1 x (enc b) → LcG K cl g tt te vs σ G1 (e :: M1) x (keep b) fun v G' => ∃ c, P b c ∧ Rep K cl G' v (encY c)) :
    EvG (tLc (iSeq K tl) g tt te vs) σ G M fun v G' M' => M' = M1 ∧ ∃ cs, Paired P (l.filter keep) cs ∧ Rep K cl G' v (.lst (cs.map encY)) := fun G1 H1 s S Q k =>
  .inl (h G1 H1 s S _ fun x G2 H2 g2 rx => by
    rw [hd] at rx
    obtain ⟨a, us, e, sq, rs⟩ := rx.of_lst
    exact ⟨a, e, ⟨us, g2.sep.sub.seq sq⟩, eg_lcY (K := K) (cl := cl) (G := G2) (U := fun x b G => Rep K cl G x (enc b)) (yields_lst (xs := us)) (fun e G' H' s' S' => (s'.trans S'.sub).seq sq)
      (fun i x hx => by
        obtain ⟨d, hdi, rd⟩ := rs.get hx
        rw [List.getElem?_map] at hdi
        obtain ⟨b, hb, rfl⟩ := Option.map_eq_some_iff.mp hdi
        exact ⟨b, hb, rd⟩) (by rw [rs.length, List.length_map]) (fun x b G' s' r' => r'.mono s') hl (Same.refl _) g2.sep (fun G3 e x b s3 => hs G3 e x b ((s.trans g2.same).trans s3)) fun v G' H' s' S' hc => k v G' H' M1 (g2.same.trans s') S' ⟨rfl, hc⟩⟩)
theorem yields_rng {n : Nat} : Yields (Itr 0 n) ((List.range n).map fun i : Nat => V.int (i : Int)) (fun _ => True) where
  go := fun i H hi _ => by
    rw [List.length_map, List.length_range] at hi
    exact hi
  stop := fun H _ => by
    rw [List.length_map, List.length_range]
    exact Nat.le_refl n
  yld := fun i H x H' hi _ y => ⟨y.1, by
    rw [List.length_map, List.length_range] at hi
    rw [List.getElem?_map, List.getElem?_range hi, y.2, Int.zero_add]
    rfl⟩
/-- [e for k in range(n)] -/
theorem eg_lcRng {γ : Type} {n : Int} {encY : γ → D} {P : Nat → γ → Prop} {vs : List Nat} {g : TG} (h : EvA K cl p tx σ G M [.int n] M1) (hn : -1000000 ≤ n ∧ n ≤ 1000000)
    (hs : ∀ G1 e (i : Nat), Same G G1 → (i : Int) < n → LcG K cl g tYes te vs σ G1 (e :: M1) (.int (i : Int)) true fun v G' => ∃ c, P i c ∧ Rep K cl G' v (encY c)) :
    EvG (tLc (iRng1 tx) g tYes te vs) σ G M fun v G' M' => M' = M1 ∧ ∃ cs, Paired P (List.range n.toNat) cs ∧ Rep K cl G' v (.lst (cs.map encY)) := fun G1 H1 s S Q k =>
  h G1 H1 s S _ fun xs G2 H2 g2 rx => by
    obtain ⟨u, rfl, hu⟩ := reps1 rx
    refine ⟨n, by rw [hu.of_int], by omega, by omega, ?_⟩
    have e0 : (List.range n.toNat).filter (fun _ => true) = List.range n.toNat := List.filter_eq_self.mpr fun _ _ => rfl
    refine eg_lcY (K := K) (cl := cl) (G := G2) (l := List.range n.toNat) (keep := fun _ => true) (U := fun x i _ => x = .int (i : Int)) yields_rng (fun _ _ _ _ _ => trivial)
      (fun i x hx => ?_) (by rw [List.length_map]) (fun _ _ _ _ r => r) (by rw [List.length_range]; omega) (Same.refl _) g2.sep (fun G3 e x i s3 hi hx => ?_) fun v G' H' s' S' hc => k v G' H' M1 (g2.same.trans s') S' ⟨rfl, by rw [e0] at hc; exact hc⟩
    · rw [List.getElem?_map] at hx
      obtain ⟨j, hj, rfl⟩ := Option.map_eq_some_iff.mp hx
      exact ⟨j, hj, rfl⟩
    · subst hx
      have := List.mem_range.mp hi
      exact hs G3 e i ((s.trans g2.same).trans s3) (by omega)

/-! ### == of things of one shape -/
/-- a thing that == finds equal to itself at once -/
def simpV : V → Bool
  | .byt _ => false
  | .flt _ => false
  | .ty _ => false
  | _ => true
section
variable (K : PySem.W.Frag)
mutual
/-- at most n deep alike: == says True -/
inductive Like (H : Hp) : Nat → V → V → Prop
  | eq {n : Nat} {v : V} : simpV v = true → Like H n v v
  | lists {n : Nat} {a b : Addr} {vs ws : List V} : SqL K H a vs → SqL K H b ws → Likes H n vs ws → Like H (n + 1) (.ref a) (.ref b)
  | tups {n : Nat} {a b : Addr} {vs ws : List V} : SqT K H a vs → SqT K H b ws → Likes H n vs ws → Like H (n + 1) (.ref a) (.ref b)
  | dicts {n : Nat} {a b : Addr} {kvs kws : List (Key × V)} : H a = some (.dK kvs) → H b = some (.dK kws) → kvs.map (·.1) = kws.map (·.1) → Likes H n (kvs.map (·.2)) (kws.map (·.2)) → Like H (n + 1) (.ref a) (.ref b)
inductive Likes (H : Hp) : Nat → List V → List V → Prop
  | nil {n : Nat} : Likes H n [] []
  | cons {n : Nat} {v w : V} {vs ws : List V} : Like H n v w → Likes H n vs ws → Likes H n (v :: vs) (w :: ws)
end
end
end
theorem rep_simp {K : PySem.W.Frag} {cl : Nat → Addr} {G : Hp} {v : V} {d : D} (h : Rep K cl G v d) : simpV v = true := by
  cases d with
  | non => rw [h.of_non]; rfl
  | bl b => rw [h.of_bl]; rfl
  | int i => rw [h.of_int]; rfl
  | str s => rw [h.of_str]; rfl
  | loc a => rw [h.of_loc]; rfl
  | lst ds => obtain ⟨a, vs, rfl, _⟩ := h.of_lst; rfl
  | tup ds => obtain ⟨a, vs, rfl, _⟩ := h.of_tup; rfl
  | ins c ns ds => obtain ⟨a, dx, vs, rfl, _⟩ := h.of_ins; rfl
  | dic ks ds => obtain ⟨a, kws, rfl, _⟩ := h.of_dic; rfl
theorem likes_reps {K K' : PySem.W.Frag} {cl : Nat → Addr} {G H : Hp} {n : Nat} : ∀ {vs : List V} {ds : List D}, Reps K cl G vs ds → Likes K' H n vs vs
  | vs, [], h => by
    simp only [Reps] at h
    subst h
    exact .nil
  | vs, d :: ds, h => by
    obtain ⟨v, ws, rfl, r1, r2⟩ := h.uncons
    exact .cons (.eq (rep_simp r1)) (likes_reps r2)
/-! its proof -/
theorem valueAt_pair {κ : Type} [DecidableEq κ] {T : Value → Value → Prop} : ∀ {ka kb : List (κ × Value)}, Paired (fun p q => p.1 = q.1 ∧ T p.2 q.2) ka kb → (ka.map (·.1)).Nodup → ∀ k v y, (k, v) ∈ ka → PySem.valueAt kb k = some y → T v y
  | _, _, .nil, _, _, _, _, h, _ => nomatch h
  | p :: ka, q :: kb, .cons h t, nd, k, v, y, hm, hv => by
    rw [List.map_cons, List.nodup_cons] at nd
    unfold PySem.valueAt at hv
    rw [List.find?_cons] at hv
    rcases List.mem_cons.mp hm with e | hm
    · have e1 : q.1 = k := by rw [← h.1, ← e]
      rw [decide_eq_true e1] at hv
      have e2 : q.2 = y := Option.some.inj hv
      rw [← e2]
      have := h.2
      rw [← e] at this
      exact this
    · have e1 : ¬ q.1 = k := fun z => nd.1 (by rw [h.1, z]; exact List.mem_map.mpr ⟨_, hm, rfl⟩)
      rw [decide_eq_false e1] at hv
      exact valueAt_pair t nd.2 k v y hm hv
theorem valueAt_isSome {κ : Type} [DecidableEq κ] : ∀ {kb : List (κ × Value)} {k : κ}, k ∈ kb.map (·.1) → (PySem.valueAt kb k).isSome = true
  | [], k, h => nomatch h
  | q :: kb, k, h => by
    unfold PySem.valueAt
    rw [List.find?_cons]
    by_cases e : q.1 = k
    · rw [decide_eq_true e]; rfl
    · rw [decide_eq_false e]
      rw [List.map_cons] at h
      rcases List.mem_cons.mp h with z | z
      · exact absurd z.symm e
      · exact valueAt_isSome z
theorem kv_vals {κ : Type} {kvs : List (κ × V)} {vs : List (κ × Value)} (h : KV kvs vs) : Vals (kvs.map (·.2)) (vs.map (·.2)) := by
  induction h with
  | nil => exact .nil
  | cons h t ih => exact .cons h.2 ih
theorem kv_keys {κ : Type} {kvs : List (κ × V)} {vs : List (κ × Value)} (h : KV kvs vs) : kvs.map (·.1) = vs.map (·.1) := by
  induction h with
  | nil => rfl
  | cons h t ih => rw [List.map_cons, List.map_cons, ih, h.1]
theorem paired_at {κ : Type} {T : Value → Value → Prop} : ∀ {va vb : List (κ × Value)}, va.map (·.1) = vb.map (·.1) → (∀ (j : Nat) (h1 : j < (va.map (·.2)).length) (h2 : j < (vb.map (·.2)).length), T (va.map (·.2))[j] (vb.map (·.2))[j]) → Paired (fun p q => p.1 = q.1 ∧ T p.2 q.2) va vb
  | [], [], _, _ => .nil
  | [], _ :: _, h, _ => by simp at h
  | _ :: _, [], h, _ => by simp at h
  | p :: va, q :: vb, h, t => by
    rw [List.map_cons, List.map_cons, List.cons.injEq] at h
    exact .cons ⟨h.1, t 0 (by simp) (by simp)⟩ (paired_at h.2 fun j h1 h2 => t (j + 1) (by simpa using h1) (by simpa using h2))
section
variable {X : Cx} {pins : List (Addr × Obj)} {σ : St} {H : Hp} {s : Shared}
mutual
theorem Like.tree (I : Inv X pins σ H s) : ∀ {n : Nat} {v w : V} {u t : Value}, Like X.K H n v w → RelV v u → RelV w t → PySem.W.EqTree X.prog X.w s n u t true
  | n, v, _, u, t, .eq hv, ru, rt => by
    cases v with
    | non => obtain rfl : u = Value.none := ru; obtain rfl : t = Value.none := rt; exact .same
    | bl b => obtain rfl : u = Value.bool b := ru; obtain rfl : t = Value.bool b := rt; exact .same
    | int i =>
      obtain ⟨a, rfl⟩ := ru
      obtain ⟨b, rfl⟩ := rt
      refine .leaf fun A _ => ?_
      have h := SeqAt.EqAt.int_int (A := A) (s := s) i a i b
      rw [beq_self_eq_true] at h
      exact h
    | str x =>
      obtain ⟨a, rfl⟩ := ru
      obtain ⟨b, rfl⟩ := rt
      refine .leaf fun A _ => ?_
      have h := SeqAt.EqAt.str_str (A := A) (s := s) x a x b
      rw [beq_self_eq_true] at h
      exact h
    | ref a => obtain rfl : u = Value.ref a := ru; obtain rfl : t = Value.ref a := rt; exact .same
    | byt _ => cases hv
    | flt _ => cases hv
    | ty _ => cases hv
  | _, _, _, u, t, .lists (a := a) (b := b) (n := n) ha hb hl, ru, rt => by
    obtain rfl : u = Value.ref a := ru
    obtain rfl : t = Value.ref b := rt
    by_cases e : a = b
    · subst e; exact .same
    obtain ⟨ua, ra, pa, _⟩ := I.list ha
    obtain ⟨ub, rb, pb, _⟩ := I.list hb
    obtain ⟨hz, tr⟩ := Likes.trees I hl ra rb
    have h := PySem.W.EqTree.lists (e := fun _ => true) e pa.isList pb.isList (by rw [List.size_toArray, List.size_toArray]; exact hz) (n := n) fun j h1 h2 => tr j (by simpa using h1) (by simpa using h2)
    rwa [List.all_eq_true.mpr fun _ _ => rfl] at h
  | _, _, _, u, t, .tups (a := a) (b := b) (n := n) ha hb hl, ru, rt => by
    obtain rfl : u = Value.ref a := ru
    obtain rfl : t = Value.ref b := rt
    by_cases e : a = b
    · subst e; exact .same
    obtain ⟨ua, ra, pa, _⟩ := I.tuple ha
    obtain ⟨ub, rb, pb, _⟩ := I.tuple hb
    obtain ⟨hz, tr⟩ := Likes.trees I hl ra rb
    have h := PySem.W.EqTree.tuples (e := fun _ => true) e pa pb (n := n) fun j h1 h2 => tr j (by simpa using h1) (by simpa using h2)
    rwa [List.all_eq_true.mpr fun _ _ => rfl, List.size_toArray, List.size_toArray, hz, beq_self_eq_true] at h
  | _, _, _, u, t, .dicts (a := a) (b := b) (n := n) (kvs := kvs) (kws := kws) ha hb hk hl, ru, rt => by
    obtain rfl : u = Value.ref a := ru
    obtain rfl : t = Value.ref b := rt
    by_cases e : a = b
    · subst e; exact .same
    obtain ⟨_, sa, va, ka, da⟩ := dk_of I.hok ha
    obtain ⟨_, sb, vb, kb, db⟩ := dk_of I.hok hb
    obtain ⟨hz, tr⟩ := Likes.trees I hl (kv_vals ka) (kv_vals kb)
    have hkk : va.map (·.1) = vb.map (·.1) := by rw [← kv_keys ka, ← kv_keys kb]; exact hk
    have hp := paired_at (T := fun u t => PySem.W.EqTree X.prog X.w s n u t true) hkk tr
    obtain ⟨_, _, _, _, _, _, _, _, nda⟩ := id da
    have h := PySem.W.EqTree.dicts (e := fun _ => true) e sa sb da db (n := n) fun k v y hm hv => valueAt_pair (T := fun u t => PySem.W.EqTree X.prog X.w s n u t true) hp nda k v y hm hv
    have e1 : va.length = vb.length := by simpa using congrArg List.length hkk
    have e2 : va.all (fun p => (PySem.valueAt vb p.1).isSome && true) = true := by
      rw [List.all_eq_true]
      intro p hp'
      rw [Bool.and_true]
      exact valueAt_isSome (by rw [← hkk]; exact List.mem_map.mpr ⟨p, hp', rfl⟩)
    rw [e2, e1] at h
    simpa using h
theorem Likes.trees (I : Inv X pins σ H s) : ∀ {n : Nat} {vs ws : List V} {us ts : List Value}, Likes X.K H n vs ws → Vals vs us → Vals ws ts → us.length = ts.length ∧ ∀ (j : Nat) (h1 : j < us.length) (h2 : j < ts.length), PySem.W.EqTree X.prog X.w s n us[j] ts[j] true
  | _, _, _, _, _, .nil, .nil, .nil => ⟨rfl, fun j h => absurd h (Nat.not_lt_zero _)⟩
  | _, _, _, _, _, .cons h t, .cons r1 q1, .cons r2 q2 => by
    obtain ⟨hz, tr⟩ := Likes.trees I t q1 q2
    refine ⟨by rw [List.length_cons, List.length_cons, hz], fun j h1 h2 => ?_⟩
    cases j with
    | zero => exact h.tree I r1 r2
    | succ i => exact tr i (by simpa using h1) (by simpa using h2)
end
end
/-- x == y, two tuples or two lists of one shape -/
def rEqL (K : PySem.W.Frag) : R2 := fun x y H Q => ∃ a b vs ws, x = .ref a ∧ y = .ref b ∧ ((SqT K H a vs ∧ SqT K H b ws) ∨ (SqL K H a vs ∧ SqL K H b ws)) ∧ Likes K H 16 vs ws ∧ Q (.bl true) H
theorem op_eqL {X : Cx} (hu : X.A.units + 64 < cLine) : OpR X (compareOp .Eq) (rEqL X.K) := by
  rintro pins s σ H x y v u Q I rx ry ⟨a, b, vs, ws, rfl, rfl, hs, hl, q⟩
  obtain rfl : v = Value.ref a := rx
  obtain rfl : u = Value.ref b := ry
  rcases hs with ⟨ha, hb⟩ | ⟨ha, hb⟩
  · obtain ⟨ua, ra, pa, _⟩ := I.tuple ha
    obtain ⟨ub, rb, pb, _⟩ := I.tuple hb
    obtain ⟨hz, tr⟩ := Likes.trees I hl ra rb
    refine PySem.W.eq_tuplesT (e := fun _ => true) (n := 16) pa pb (fun j h1 h2 => tr j (by simpa using h1) (by simpa using h2)) (by omega) ?_
    rw [List.all_eq_true.mpr fun _ _ => rfl, List.size_toArray, List.size_toArray, hz, beq_self_eq_true]
    exact ⟨.bl true, H, I, rfl, q⟩
  · obtain ⟨ua, ra, pa, _⟩ := I.list ha
    obtain ⟨ub, rb, pb, _⟩ := I.list hb
    obtain ⟨hz, tr⟩ := Likes.trees I hl ra rb
    refine PySem.W.eq_listsT (e := fun _ => true) (n := 16) pa.isList pb.isList (by rw [List.size_toArray, List.size_toArray]; exact hz) (fun j h1 h2 => tr j (by simpa using h1) (by simpa using h2)) (by omega) ?_
    rw [List.all_eq_true.mpr fun _ _ => rfl]
    exact ⟨.bl true, H, I, rfl, q⟩
end Cp
/-! Cp14: smaller rules. -/
namespace Cp
open PySem L2
theorem EvA.is {K : PySem.W.Frag} {cl : Nat → Addr} {p : Bool} {M M1 : ML} {G : Hp} {σ : St} {tx : TA} {ds es : List D} (h : EvA K cl p tx σ G M ds M1) (hd : ds = es) : EvA K cl p tx σ G M es M1 := hd ▸ h
theorem Op2.is {K : PySem.W.Frag} {cl : Nat → Addr} {p : Bool} {r : R2} {M : ML} {x y z x' y' z' : D} (h : Op2 K cl p r M x y z) (hx : x' = x) (hy : y' = y) : Op2 K cl p r M x' y' z := by
  rw [hx, hy]
  exact h
theorem s_dropG {te : TE} {σ : St} {G H : Hp} {M : ML} {F : FG} {nx : St → Hp → Prop} {rt : VK} {bk ct : St → Hp → Prop} (S : Sep G H M) (h : EvG te σ G M F) (k : ∀ v G' H' M', Same G G' → Sep G' H' M' → F v G' M' → nx σ H') : tDrop te ⟨nx, rt, bk, ct⟩ σ H :=
  h G H (Same.refl _) S _ fun v G2 H2 M2 s S2 f => k v G2 H2 M2 s S2 f
section
variable [Wo] {K : PySem.W.Frag} {cl : Nat → Addr} {p q r : Bool} {M M1 M2 M3 M4 : ML} {G G1 G2 G3 H H1 H2 H3 : Hp} {σ : St} {ta tb tc te tk tv tl : TE} {tx tr : TA} {tt tu : TT} {d d1 d2 d3 : D} {ds es : List D}
theorem ag_nil {F : AG} (h : ∀ G', Same G G' → F [] G' M) : EvAG tNil σ G M F := fun G1 H1 s S Q k => k [] G1 H1 M (Same.refl _) S (h G1 s)
theorem ag_consX {F : AG} (h : EvX K cl p te σ G M d M1) (hr : ∀ v G', Same G G' → Rep K cl G' v d → EvAG tr σ G' M1 fun vs G2 M2 => F (v :: vs) G2 M2) : EvAG (tCons te tr) σ G M F := fun G1 H1 s S Q k =>
  h G1 H1 s S _ fun v G2 H2 g2 rv => hr v G2 (s.trans g2.same) rv G2 H2 (Same.refl _) g2.sep _ fun vs G3 H3 M3 s3 S3 f3 => k (v :: vs) G3 H3 M3 (g2.same.trans s3) S3 f3
/-- a new instance over what was laid for it, as data -/
theorem eg_imakeAG {R : List D → List D → Prop} {E : XK} {c : Nat} {ns : List Str} {F : FG} {Fa : AG} (ha : EvAG tx σ G M Fa)
    (hR : ∀ vs G' M', Same G G' → Fa vs G' M' → ∃ ds es, Reps K cl G' vs ds ∧ R ds es ∧ ∀ w G'', Same G' G'' → Rep K cl G'' w (.ins c ns es) → F w G'' M') : EvG (tMake (cl c) (ISp K cl c ns R) [] E tx) σ G M F := fun G1 H1 s S Q k =>
  ha G1 H1 s S _ fun xs G2 H2 M2 s2 S2 fa => fun x dx nx ndx ne => by
    obtain ⟨ds, es, rs, hes, hk⟩ := hR xs G2 M2 (s.trans s2) fa
    have ndG := S2.freshG ndx
    have S1 : Sep (upd G2 dx (.own x)) (upd H2 dx (.own x)) M2 := S2.newG ndx
    have nx' : upd H2 dx (.own x) x = none := by rw [upd_ne ne.symm]; exact nx
    have S3 := S1.newM (o := .ins (cl c) dx []) nx'
    refine ⟨x, dx, xs, ds, es, _, M2, by rw [List.append_nil], hes, S3, rs.mono (Same.upd ndG), fun ws G' H' s' S' hl rs' => ⟨rfl, ?_⟩⟩
    obtain ⟨S4, s4⟩ := S'.freeze
    have sA := ((Same.upd ndG).trans s').trans s4
    exact k (.ref x) _ H' M2 (s2.trans sA) S4 (hk _ _ sA (Rep.ins upd_same hl (rs'.mono s4)))
/-- a method of an owned instance over what was laid for it -/
theorem eg_methAG {R : RG} {E : XK} {F : FG} {Fa : AG} {C x dx : Addr} {fs : List (Str × V)} {m : Str} (he : EvX K cl p ta σ G M (.loc x) M1) (hm : At M1 x (.ins C dx fs)) (hn : fs.lookup m = none) (ha : EvAG tx σ G M1 Fa)
    (hR : ∀ vs G' H' M' (T : V → Hp → ML → Prop), Same G G' → Sep G' H' M' → Fa vs G' M' → (∀ v G'' M'', Same G' G'' → F v G'' M'' → T v G'' M'') → ∃ M2, M'.Perm M2 ∧ R (.ref x :: vs) G' M2 T) : EvG (tMeth C m (GSp R) [] E ta tx) σ G M F := fun G1 H1 s S Q k =>
  he G1 H1 s S _ fun y G2 H2 g2 ry => by
    obtain rfl := ry.of_loc
    refine ⟨x, dx, fs, rfl, g2.sep.look hm, hn, ha G2 H2 (s.trans g2.same) g2.sep _ fun xs G3 H3 M3 s3 S3 fa => ?_⟩
    obtain ⟨M4, pm, hh⟩ := hR xs G3 H3 M3 (fun v G' M' => Same G3 G' → ∀ H', Sep G' H' M' → Q v H') ((s.trans g2.same).trans s3) S3 fa fun v G'' M'' s'' hF sm H' S' => k v G'' H' M'' ((g2.same.trans s3).trans sm) S' hF
    refine ⟨G3, M4, S3.perm pm, ?_⟩
    rw [List.append_nil]
    exact hh
/-- a < b < c -/
theorem ev_chain {rr r2 : R2} {f g : Bool} (ha : EvX K cl true ta σ G M d1 M) (hb : EvX K cl true tb σ G M d2 M) (hc : EvX K cl true tc σ G M d3 M) (h1 : Op2 K cl true rr M d1 d2 (.bl f)) (h2 : Op2 K cl true r2 M d2 d3 (.bl g)) : EvX K cl true (tChain rr r2 ta tb tc) σ G M (.bl (f && g)) M := fun G1 H1 s S Q k =>
  ha G1 H1 s S _ fun x G2 H2 g2 rx => by
    obtain ⟨rfl, rfl, -⟩ := g2.eq rfl
    refine hb _ _ s S _ fun y G3 H3 g3 ry => ?_
    obtain ⟨rfl, rfl, -⟩ := g3.eq rfl
    refine h1 _ _ S x y rx ry _ fun z G4 H4 g4 rz => ?_
    obtain ⟨rfl, rfl, -⟩ := g4.eq rfl
    refine ⟨f, rz.of_bl, ?_⟩
    cases f with
    | false => exact k _ _ _ (Go.refl S) Rep.bl
    | true =>
      show tc σ _ _
      refine hc _ _ s S _ fun w G5 H5 g5 rw' => ?_
      obtain ⟨rfl, rfl, -⟩ := g5.eq rfl
      exact h2 _ _ S y w ry rw' Q k
/-- the pairs of a display, laid on the way -/
def EvPG (trs : List (TE × TE)) (σ : St) (G : Hp) (M : ML) (F : List (Key × V) → Hp → ML → Prop) : Prop :=
  ∀ G1 H1, Same G G1 → Sep G1 H1 M → ∀ Q : List (V × V) → Hp → Prop, (∀ kvs G2 H2 M2, Same G1 G2 → Sep G2 H2 M2 → F kvs G2 M2 → Q (kvs.map fun kv => (kV kv.1, kv.2)) H2) → tPairs trs σ H1 Q
theorem epg_nil {F : List (Key × V) → Hp → ML → Prop} (h : ∀ G', Same G G' → F [] G' M) : EvPG [] σ G M F := fun G1 H1 s S Q k => k [] G1 H1 M (Same.refl _) S (h G1 s)
theorem epg_cons {trs : List (TE × TE)} {k : Key} {F : List (Key × V) → Hp → ML → Prop} {F1 : FG} (h1 : EvX K cl p tk σ G M d1 M1) (hk : d1 = kD k) (h2 : EvG tv σ G M1 F1) (h3 : ∀ v G' M', Same G G' → F1 v G' M' → EvPG trs σ G' M' fun kvs G2 M2 => F ((k, v) :: kvs) G2 M2) : EvPG ((tk, tv) :: trs) σ G M F := fun G1 H1 s S Q kk =>
  h1 G1 H1 s S _ fun x G2 H2 g2 rx => h2 G2 H2 (s.trans g2.same) g2.sep _ fun y G3 H3 M3 s3 S3 f3 => h3 y G3 M3 ((s.trans g2.same).trans s3) f3 G3 H3 (Same.refl _) S3 _ fun kvs G4 H4 M4 s4 S4 f4 => by
    rw [hk] at rx
    have e := rep_kD rx
    subst e
    exact kk ((k, y) :: kvs) G4 H4 M4 ((g2.same.trans s3).trans s4) S4 f4
theorem eg_dispG {trs : List (TE × TE)} {F : FG} (h : ∀ u, EvPG trs σ G ((u, .dK []) :: M) fun kvs G' M' => kvs.length ≤ 15 ∧ ∃ M2, Ch M' u (.dK []) (.dK (mergeK [] kvs)) M2 ∧ F (.ref u) G' M2) : EvG (tDisp trs) σ G M F := fun G1 H1 s S Q k => fun u hu =>
  h u G1 _ s (S.newM hu) _ fun kvs G2 H2 M2 s2 S2 ⟨hl, M3, hc, f⟩ => ⟨S2.look hc.at, kvs, rfl, hl, k (.ref u) G2 _ M3 s2 (S2.ch hc) f⟩
end
theorem cut_take {xs : List D} {n : Nat} : cutD xs none (some (n : Int)) = xs.take n := by
  unfold cutD
  rw [HT.sIx_none, HT.sIx_nat, List.drop_zero, Nat.sub_zero]
  rcases Nat.le_total n xs.length with h | h
  · rw [Nat.min_eq_left h]
  · rw [Nat.min_eq_right h, List.take_of_length_le (Nat.le_refl _), List.take_of_length_le h]
theorem cut_drop {xs : List D} {n : Nat} : cutD xs (some (n : Int)) none = xs.drop n := by
  unfold cutD
  rw [HT.sIx_none, HT.sIx_nat]
  rcases Nat.le_total n xs.length with h | h
  · rw [Nat.min_eq_left h, List.take_of_length_le (by rw [List.length_drop]; exact Nat.le_refl _)]
  · rw [Nat.min_eq_right h, List.drop_of_length_le (Nat.le_refl _), List.drop_of_length_le h, List.take_nil]
section
variable [Wo] {K : PySem.W.Frag} {cl : Nat → Addr} {p q r : Bool} {M M1 M2 M3 M4 : ML} {G G1 G2 G3 H H1 H2 H3 : Hp} {σ : St} {ta tb tc te tk tv tl : TE} {tx tr : TA} {tt tu : TT} {d d1 d2 d3 : D} {ds es : List D}
/-- a op b, b laid on the way -/
theorem eg_opR {rr : R2} {F1 F : FG} (ha : EvX K cl p ta σ G M d1 M1) (hb : EvG tb σ G M1 F1) (hk : ∀ v G' M', Same G G' → F1 v G' M' → ∃ d2 d q, Rep K cl G' v d2 ∧ Op2 K cl q rr M' d1 d2 d ∧ ∀ w G'', Same G' G'' → Rep K cl G'' w d → F w G'' M') : EvG (tOp rr ta tb) σ G M F := fun G1 H1 s S Q k =>
  ha G1 H1 s S _ fun x G2 H2 g2 rx => hb G2 H2 (s.trans g2.same) g2.sep _ fun y G3 H3 M3 s3 S3 f3 => by
    obtain ⟨d2, d, q, ry, ho, hf⟩ := hk y G3 M3 ((s.trans g2.same).trans s3) f3
    exact ho G3 H3 S3 x y (rx.mono s3) ry _ fun w G4 H4 g4 rw' => k w G4 H4 M3 ((g2.same.trans s3).trans g4.same) g4.sep (hf w G4 g4.same rw')
/-- (list(xs), dict(d)): the same things again -/
theorem eg_before {i j : Nat} {a e : Addr} {vs : List V} {kws : List (Key × V)} (hi : σ[i]? = some (some (.ref a))) (hj : σ[j]? = some (some (.ref e))) (ha : SqL K G a vs) (he : G e = some (.dK kws)) :
    EvG (tTup (tCons (tCB (rListA K) (tCons (tVar i) tNil)) (tCons (tCB rDictD (tCons (tVar j) tNil)) tNil))) σ G M fun v G' M' => M' = M ∧ ∃ t b f, v = .ref t ∧ SqT K G' t [.ref b, .ref f] ∧ SqL K G' b vs ∧ G' f = some (.dK kws) := fun G1 H1 s S Q k => by
  refine ⟨_, hi, a, vs, rfl, .inl ((s.trans S.sub).seq ha), fun l hl => ?_⟩
  have nl := S.freshG hl
  have S1 := S.newG (o := .lst vs) hl
  have s1 : Same G1 (upd G1 l (.lst vs)) := Same.upd nl
  refine ⟨_, hj, e, kws, rfl, .inl (S1.sub _ _ (s1 _ _ (s _ _ he))), fun m hm => ?_⟩
  have nm := S1.freshG hm
  have S2 := S1.newG (o := .dK kws) hm
  have s2 := Same.upd (o := .dK kws) nm
  refine ⟨by show 2 ≤ sizeLine; decide, fun t ht => ?_⟩
  have nt := S2.freshG ht
  have S3 := S2.newG (o := .tup [.ref l, .ref m]) ht
  have s3 := Same.upd (o := .tup [V.ref l, V.ref m]) nt
  refine k (.ref t) _ _ M ((s1.trans s2).trans s3) S3 ⟨rfl, t, l, m, rfl, .inl (.inl upd_same), ?_, s3 _ _ upd_same⟩
  exact (s2.trans s3).seq (.inl (.inl upd_same))
/-- (xs, d) == what was kept of them -/
theorem ev_likeT {i j k0 : Nat} {a e t b f : Addr} {vs : List V} {kws : List (Key × V)} {kes : List (Key × D)} (hi : σ[i]? = some (some (.ref a))) (hj : σ[j]? = some (some (.ref e))) (hk : σ[k0]? = some (some (.ref t))) (ha : SqL K G a vs) (rs : Reps K cl G vs ds) (he : G e = some (.dK kws)) (rk : KRep K cl G kws kes)
    (ht : SqT K G t [.ref b, .ref f]) (hb : SqL K G b vs) (hf : G f = some (.dK kws)) : EvX K cl false (tOp (rEqL K) (tTup (tCons (tVar i) (tCons (tVar j) tNil))) (tVar k0)) σ G M (.bl true) M := fun G1 H1 s S Q k => by
  refine ⟨_, hi, _, hj, by show 2 ≤ sizeLine; decide, fun p hp => ⟨_, hk, p, t, [.ref a, .ref e], [.ref b, .ref f], rfl, rfl, .inl ⟨.inl (.inl upd_same), ?_⟩, ?_, ?_⟩⟩
  · exact Same.seqT ((s.trans S.sub).trans (Same.upd hp)) ht
  · have sH := (s.trans S.sub).trans (Same.upd (o := .tup [V.ref a, V.ref e]) hp)
    exact .cons (.lists (n := 15) (sH.seq ha) (sH.seq hb) (likes_reps rs)) (.cons (.dicts (n := 15) (sH _ _ he) (sH _ _ hf) rfl (likes_reps rk.snd)) .nil)
  · have n := S.freshG hp
    exact k _ _ _ (Go.of (Same.upd n) (S.newG hp)) Rep.bl
end
theorem perm_map_inv {α β : Type} {f : α → β} : ∀ {es : List β} {l : List α}, es.Perm (l.map f) → ∃ l' : List α, es = l'.map f ∧ l'.Perm l := by
  have gen : ∀ {es ds : List β}, es.Perm ds → ∀ l : List α, ds = l.map f → ∃ l' : List α, es = l'.map f ∧ l'.Perm l := by
    intro es ds h
    induction h with
    | nil =>
      intro l e
      cases l with
      | nil => exact ⟨[], rfl, List.Perm.refl _⟩
      | cons a l => cases e
    | cons x h ih =>
      intro l e
      cases l with
      | nil => cases e
      | cons a l =>
        rw [List.map_cons, List.cons.injEq] at e
        obtain ⟨l', e', p'⟩ := ih l e.2
        exact ⟨a :: l', by rw [e', e.1]; rfl, p'.cons a⟩
    | swap x y t =>
      intro l e
      cases l with
      | nil => cases e
      | cons a l =>
        cases l with
        | nil => cases e
        | cons b l =>
          rw [List.map_cons, List.map_cons, List.cons.injEq, List.cons.injEq] at e
          exact ⟨b :: a :: l, by rw [e.1, e.2.1, e.2.2]; rfl, List.Perm.swap a b l⟩
    | trans h1 h2 ih1 ih2 =>
      intro l e
      obtain ⟨l2, e2, p2⟩ := ih2 l e
      obtain ⟨l1, e1, p1⟩ := ih1 l2 e2
      exact ⟨l1, e1, p1.trans p2⟩
  intro es l h
  exact gen h l rfl
theorem any_eqb {x : D} (hx : x.isDat = true) : ∀ {ds : List D}, D.areDat ds = true → ((D.pyds ds).any fun z => PyData.eqv z x.pyd) = ds.any fun z => D.eqb z x
  | [], _ => by simp [D.pyds]
  | d :: ds, h => by
    simp only [D.areDat, Bool.and_eq_true] at h
    simp only [D.pyds, List.any_cons]
    rw [eqv_eqb d x h.1 hx, any_eqb hx h.2]
theorem o_inDat {K : PySem.W.Frag} {cl : Nat → Addr} {M : ML} {x : D} {ds : List D} (hx : x.isDat = true) (dx : x.dep ≤ 64) (hd : D.areDat ds = true) (dd : D.deps ds ≤ 63) : Op2 K cl true (rInD K) M x (.lst ds) (.bl (ds.any fun z => D.eqb z x)) := op2_val fun G1 H1 S u v ru rv => ⟨_, Rep.bl, fun Q q => by
  have hl : (D.lst ds).isDat = true := by simp only [D.isDat]; exact hd
  have hp := (rv.mono S.sub).dp hl
  simp only [D.pyd] at hp
  have h2 := shaped_of hl (by simp only [D.dep]; omega)
  simp only [D.pyd] at h2
  exact ⟨x.pyd, D.pyds ds, (ru.mono S.sub).dp hx, hp, shaped_of hx dx, h2, by rw [any_eqb hx hd]; exact q⟩⟩
theorem o_notInDat {K : PySem.W.Frag} {cl : Nat → Addr} {M : ML} {x : D} {ds : List D} (hx : x.isDat = true) (dx : x.dep ≤ 64) (hd : D.areDat ds = true) (dd : D.deps ds ≤ 63) : Op2 K cl true (rNotInD K) M x (.lst ds) (.bl (!ds.any fun z => D.eqb z x)) := op2_val fun G1 H1 S u v ru rv => ⟨_, Rep.bl, fun Q q => by
  have hl : (D.lst ds).isDat = true := by simp only [D.isDat]; exact hd
  have hp := (rv.mono S.sub).dp hl
  simp only [D.pyd] at hp
  have h2 := shaped_of hl (by simp only [D.dep]; omega)
  simp only [D.pyd] at h2
  exact ⟨x.pyd, D.pyds ds, (ru.mono S.sub).dp hx, hp, shaped_of hx dx, h2, by rw [any_eqb hx hd]; exact q⟩⟩
/-- xs * n: a new list that is owned -/
theorem eg_rep {K : PySem.W.Frag} {cl : Nat → Addr} {p q : Bool} {M : ML} {G : Hp} {σ : St} {tx : TA} {tb : TE} {ds : List D} {n : Int} {F : FG} (ha : EvA K cl p tx σ G M ds M) (hl : ds.length ≤ 100) (hb : ∀ u vs, EvX K cl q tb σ G ((u, .lst vs) :: M) (.int n) ((u, .lst vs) :: M)) (h0 : 0 ≤ n) (h1 : n ≤ 100000)
    (hF : ∀ u vs G', Same G G' → Reps K cl G' vs ds → F (.ref u) G' ((u, .lst (List.replicate n.toNat vs).flatten) :: M)) : EvG (tOp rRep (tLst tx) tb) σ G M F := fun G1 H1 s S Q k =>
  ha G1 H1 s S _ fun vs G2 H2 g2 rs => ⟨by rw [rs.length]; exact Nat.le_trans hl (by decide), fun u hu => by
    have S2 := g2.sep.newM (o := .lst vs) hu
    refine hb u vs G2 _ (s.trans g2.same) S2 _ fun y G3 H3 g3 ry => ?_
    refine ⟨u, n, vs, rfl, ry.of_int, g3.sep.look .hd, by omega, by omega, ?_, fun p hp => ?_⟩
    · rw [rs.length]
      have : ds.length * n.toNat ≤ 100 * 100000 := Nat.mul_le_mul hl (by omega)
      exact Nat.le_trans this (by decide)
    · have S4 := g3.sep.drop
      exact k (.ref p) G3 _ _ (g2.same.trans g3.same) (S4.newM hp) (hF p vs G3 ((s.trans g2.same).trans g3.same) (rs.mono g3.same))⟩
/-- str(x), x a text or None -/
def rStrO : List V → Hp → VK → Prop := fun xs H Q => (xs = [.non] ∧ Q (.str "None") H) ∨ ∃ a, xs = [.str a] ∧ Q (.str a) H
theorem call_strO {X : Cx} : CallR X (.type "str") rStrO := by
  rintro pins s σ H xs us Q I r (⟨rfl, q⟩ | ⟨a, rfl, q⟩)
  · obtain ⟨u, rfl, e⟩ := vals1 r
    obtain rfl : u = Value.none := e
    exact PySem.P.str_of_none ⟨.str "None", H, I.tok _, ⟨_, rfl⟩, q⟩
  · obtain ⟨u, rfl, t, rfl⟩ := vals1 r
    exact PySem.P.str_of_str ⟨.str a, H, I, ⟨t, rfl⟩, q⟩
theorem units65 {k : Nat} {A : Around} (r : Room k A) : A.units + 65 < cLine := by have := r.un; omega
end Cp
/-! Cp15: own exceptions whose __init__ says super().__init__(text). -/
namespace Cp
open PySem L2 PySem.Spec PyProof.Rows
section
variable {prog : Program} {w : World} {A : Around} {E : Value → Shared → Prop} {h : Heap} {g : Array GenState} {d : Drawn} {t : Nat} {os : OsState}
variable {nm q : Str} {C N : Addr} {bs bm : List Value} {hdct : Bool} {sn : List Str} {sub : List Value} {ab : Bool} {col : Option Bool} {dd : Option Addr} {k0 k1 k2 k3 k5 : Option Value}
/-- ValueError.__init__, bound to an exception, called -/
theorem call_bwV {u e t0 : Addr} {rest : List Value} {Q : Value → Shared → Prop}
    (hC : h.get? C = some (excClassObj nm q C N bs bm hdct sn sub ab col dd k0 k1 k2 k3 k5 "ValueError.__new__")) (he : h.get? e = some (HandSPX.excO C t0)) (hu : h.get? u = some (PySem.W.kxs_mw "ValueError.__init__" e)) (hrest : rest.length ≤ sizeLine)
    (hq : ∀ h' t1, (∀ b o, b ≠ e → h.get? b = some o → h'.get? b = some o) → h'.get? e = some (HandSPX.excO C t1) → Q .none ⟨h', g, d, t, os⟩) :
    wpAny (model prog w) A (call (.ref u) rest) Q E ⟨h, g, d, t, os⟩ := by
  refine wpAny_call (codeAny_of_tree ?_)
  show wpAny _ A.in1 (callAny (.ref u) ⟨rest, []⟩) _ _ _
  simp only [callAny]
  refine wpAny_bind (wpAny_load hu ?_)
  simp only [PySem.W.kxs_mw, show (Value.type "method-wrapper" == Value.type "method" || Value.type "method-wrapper" == Value.type "builtin_function_or_method" || Value.type "method-wrapper" == Value.type "method-wrapper") = true by decide, if_true]
  refine W.KFB.if_so (by decide) ?_
  refine wpAny_bind (PySem.W.check_bound_init F.excBase_ValueError.toExcCallFacts hC he rfl ?_)
  refine wpAny_bind (wpAny_pure (wpAny_pure ?_))
  refine ⟨Code.quiet_builtin _ (by decide +kernel), codeAny_builtin F.excBase_ValueError.initEntry ?_⟩
  rw [Around.under_plainId F.excBase_ValueError.init.plain _]
  wp_walk
  refine hq _ h.objs.size (fun b o hb ho => ?_) ?_
  · rw [Heap.get?_update_other _ _ (Ne.symm hb)]
    exact Heap.get?_push_of_some _ ho
  · rw [Heap.get?_update_self _ (Heap.get?_push_of_some _ he) rfl]
    rfl
end
theorem lookup_in {x : Str} {u : Value} : ∀ {l : List (Str × Value)}, (l.map (·.1)).Nodup → (x, u) ∈ l → l.lookup x = some u
  | [], _, h => nomatch h
  | (y, v) :: l, nd, h => by
    rw [List.map_cons, List.nodup_cons] at nd
    rw [List.lookup_cons]
    rcases List.mem_cons.mp h with e | h
    · cases e
      rw [beq_self_eq_true]
    · have : (x == y) = false := beq_eq_false_iff_ne.mpr fun e => nd.1 (e ▸ List.mem_map.mpr ⟨_, h, rfl⟩)
      rw [this]
      exact lookup_in nd.2 h
theorem rev_lookup {ps : List Str} {us : List Value} {i : Nat} {x : Str} {u : Value} (nd : ps.Nodup) (h1 : ps[i]? = some x) (h2 : us[i]? = some u) : (ps.zip us).reverse.lookup x = some u := by
  refine lookup_in ?_ (List.mem_reverse.mpr ?_)
  · rw [List.map_reverse]
    refine (List.reverse_perm _).nodup_iff.mpr ?_
    exact nd.sublist (by
      have : ∀ (ps : List Str) (us : List Value), List.Sublist ((ps.zip us).map (·.1)) ps := by
        intro ps
        induction ps with
        | nil => intro us; exact List.Sublist.slnil
        | cons p ps ih =>
          intro us
          cases us with
          | nil => exact List.nil_sublist _
          | cons u us => exact (ih us).cons₂ p
      exact this ps us)
  · exact List.mem_iff_getElem?.mpr ⟨i, by rw [List.getElem?_zip_eq_some]; exact ⟨h1, h2⟩⟩
/-- the context of an __init__ that says super() -/
def cxSu (P : Program) (w : World) (K : PySem.W.Frag) (mg : Str → Option Value) (base : Heap) (N : List Str) (qual : Str) (scope : Scope) (f : Addr) (cd : Value) (cc : Addr) (A : Around) (outer : List Env) (s : Shared) (H : Hp) : Cx where
  prog := P
  w := w
  K := K
  mg := mg
  base := base
  A := A.deeper (PySem.W.ksEnv qual scope s.heap.objs.size f cd cc)
  N := N
  s_0 := s
  H_0 := H
  env := PySem.W.ksEnv qual scope s.heap.objs.size f cd cc
  outer := outer
  stack := PySem.W.ksEnv qual scope s.heap.objs.size f cd cc :: outer
  ex := []
  calm := true
  fn := fun _ => false
  pn := []
  xe := fun _ _ => False
/-- what such a scope has -/
structure SuScope (N : List Str) (sc : Scope) : Prop where
  kind : sc.kind = .function
  co : sc.isCoroutine = false
  gen : sc.isGenerator = false
  nd : N.Nodup
  par : ∀ x ∈ N, sc.names.lookup x = some .local
  nocell : ∀ y ∈ sc.names, y.2 ≠ .cell
  free : ∀ x, sc.names.lookup x = some .free → x = "__class__"
  sup : sc.names.lookup ("super" : Str) = some .globalImplicit
  cls : sc.names.lookup ("__class__" : Str) = some .free
theorem inv_su {P : Program} {w : World} {K : PySem.W.Frag} {mg : Str → Option Value} {base : Heap} {N : List Str} {qual : Str} {scope : Scope} {f cc C : Addr} {cd : Value} {A : Around} {outer : List Env} {s : Shared} {H : Hp} {us : List Value} {vs : List V} {h₀ : Heap} {t : Nat} {cl : Value} {cld : Option Addr} {csl : Array (Option Value)}
    (S : SuScope N scope) (hcell : K.lookup cc = some ⟨cl, cld, .cell (some (.ref C)), csl⟩) (hd : A.handled = none) (e0 : Env0 P w K mg base A outer s H) (hl : vs.length = N.length) (r : Vals vs us)
    (hns : h₀.Ns s.heap.objs.size (fun x => (N.zip us).reverse.lookup x)) (hk : ∀ b o, s.heap.get? b = some o → h₀.get? b = some o) :
    Inv (cxSu P w K mg base N qual scope f cd cc A outer s H) [] (vs.map some) H { s with heap := h₀, toks := t } := by
  have noA : ∀ b : Addr, b ∉ (cxSu P w K mg base N qual scope f cd cc A outer s H).ex := fun b z => absurd (show b ∈ ([] : List Addr) from z) (by simp)
  have hcl : ∀ x c, (cxSu P w K mg base N qual scope f cd cc A outer s H).env.cells.lookup x = some c → x = "__class__" ∧ c = cc := fun x c h => by
    have h : List.lookup x [(("__class__" : Str), cc)] = some c := h
    rw [List.lookup_cons] at h
    by_cases e : x = "__class__"
    · subst e
      rw [beq_self_eq_true] at h
      cases h
      exact ⟨rfl, rfl⟩
    · rw [beq_eq_false_iff_ne.mpr e] at h
      cases h
  have hccb := e0.mod.kin _ _ hcell
  refine ⟨⟨e0.mod, S.kind, rfl, rfl, Nat.le_refl _, fun y z c h1 h2 => ?_, fun y hy => ?_, fun y c h _ => ?_, fun _ => hd, Around.frames_deeper e0.frames, .inr ⟨rfl, rfl⟩, fun b z => absurd z (noA b), e0.bs, e0.bsz, fun b _ _ => noA b, fun b z => absurd z (noA b), e0.funs, e0.frf⟩,
    rfl, e0.bare, Un.kept hk, ⟨_, hns, fun i y v h1 h2 h3 => ?_⟩, fun y c h => ?_, e0.hok.fresh (Nat.le_refl _), fun y c h => ?_, fun p hp => absurd (show p ∈ ([] : List (Addr × Obj)) from hp) (by simp), e0.hok.kept hk, ?_⟩
  · rw [(hcl y c h1).1, (hcl z c h2).1]
  · have hy : scope.names.lookup y = some .cell ∨ scope.names.lookup y = some .free := hy
    rcases hy with hy | hy
    · exact absurd rfl (S.nocell _ (PySem.mem_of_lookup hy))
    · rw [S.free y hy]
      exact ⟨cc, rfl⟩
  · exact Bool.noConfusion h
  · rw [List.getElem?_map] at h2
    obtain ⟨a, ha, e⟩ := Option.map_eq_some_iff.mp h2
    cases e
    obtain ⟨u, hu, rv⟩ := r.get ha
    exact ⟨u, rv, .inl ⟨S.par y (List.mem_of_getElem? h1), rev_lookup S.nd h1 hu⟩⟩
  · rw [(hcl y c h).2]
    exact ⟨_, _, hk _ _ (e0.bs _ _ hccb).1, rfl⟩
  · rw [(hcl y c h).2]
    exact (e0.bs _ _ hccb).2
  · rw [List.length_map, hl]
    rfl

/-- THE RULE: an own exception's __init__ that begins with super().__init__(e) -/
theorem fn_su {P : Program} {w : World} {K : PySem.W.Frag} {mg : Str → Option Value} {base : Heap} {k : Nat} {f cc C cda : Addr} {qual : Str} {params : Arguments} {rest : List Stmt} {e : Expr} {p0 p1 p2 p3 p4 : Pos} {scope : Scope} {dV kV doc pm ct oc : Value} {an od : Option Addr} {osl : Array (Option Value)} {N : List Str} {sp : Sp} {ar : Arg}
    {cl ccl : Value} {cld cdd : Option Addr} {csl ccs : Array (Option Value)} {vs0 : Array Value} {file : Str} {tf : Tok} {cd : ClassData}
    (lk : K.lookup f = some ⟨oc, od, .func (PySem.W.ksFn "__init__" qual params (.Expr (.Call (.Attribute (.Call (.Name "super" p0) [] [] p1) "__init__" p2) [e] [] p3) p4 :: rest) scope dV kV doc pm an (.ref cda) ct cc), osl⟩)
    (hcd : PySem.W.codeIn K (.ref cda) qual = true) (S : SuScope N scope) (hp : (params.posonlyargs ++ params.args).head? = some ar) (har : N[0]? = some ar.arg)
    (hcode : K.lookup cda = some ⟨ccl, cdd, .fields vs0, ccs⟩) (hvs : vs0[2]? = some (.str file tf)) (hfile : ((P.main.file : Str) == file) = true)
    (hcell : K.lookup cc = some ⟨cl, cld, .cell (some (.ref C)), csl⟩) (hcls : PySem.W.clsIn K C = some cd) (hsub : PySem.W.mroIn K C (.ref C) = some true)
    (hsu : mg "super" = none) (htop : (P.main.scope.names.lookup ("super" : Str)).isSome = false) (hth : PySem.W.nsIn K cStatics "thirdparty.any" = some none)
    (hm : PySem.W.ks_superIn K C C "__init__" = some (some (.builtin "ValueError.__init__"))) (hB : PySem.W.subIn K (.ref C) (.type "ValueError") = some true) (T : OexC K C)
    (hst : ∀ env, starEach [e] env = [(false, eval e env)])
    (heq : ∀ env, ∃ pl : Sem Bool, eval (.Call (.Attribute (.Call (.Name "super" p0) [] [] p1) "__init__" p2) [e] [] p3) env = (do
      let ov ← attributeBase (.Call (.Name "super" p0) [] [] p1) "__init__" env (eval (.Call (.Name "super" p0) [] [] p1) env)
      standAt p2.atName
      let (f, first) ← holding [ov] (getMethod ov "__init__" pl)
      callWith p3 f first (backTo p3 (starEach [e] env)) []))
    (len : ∀ vs H Q E, sp vs H Q E → vs.length = N.length)
    (hbody : ∀ (A : Around) (outer : List Env) (s : Shared) (H : Hp) (vs : List V) (Q : VK) (E : XK), Room k (A.deeper (PySem.W.ksEnv qual scope s.heap.objs.size f (.ref cda) cc)) → sp vs H Q E →
      ∃ te t2 a, PE (cxSu P w K mg base N qual scope f (.ref cda) cc A outer s H) e te ∧ PSs (cxSu P w K mg base N qual scope f (.ref cda) cc A outer s H) rest t2 ∧ vs[0]? = some (.ref a) ∧ H a = some (exo a C none) ∧
        te (vs.map some) H fun _ H1 => H1 a = some (exo a C none) ∧ t2 { nx := fun _ H' => Q .non H', rt := Q } (vs.map some) H1) :
    FnOk P w K mg base L2.CX0 (k + 1) f (PySem.W.ksFn "__init__" qual params (.Expr (.Call (.Attribute (.Call (.Name "super" p0) [] [] p1) "__init__" p2) [e] [] p3) p4 :: rest) scope dV kV doc pm an (.ref cda) ct cc) N sp := by
  refine ⟨len, fun A outer s H args us vs Q E hr e0 hb r hsp => ?_⟩
  have hl := len _ _ _ _ hsp
  have KX : K.In s.heap := e0.mod.kin.keeps fun b o e => (e0.bs b o e).1
  have lim : s.heap.NoLimit := e0.mod.nolimit.keeps fun b o e => (e0.bs b o e).1
  refine PySem.ks_codeAny_call_defAt (body := .Expr (.Call (.Attribute (.Call (.Name "super" p0) [] [] p1) "__init__" p2) [e] [] p3) p4 :: rest) hr.depth (KX _ _ lk) rfl lim (PySem.W.codeRec_of KX hcd) rfl hb S.nocell (fun x hx => S.par _ (List.of_mem_zip hx).1) (fun h₀ hns hk => ?_) S.co S.gen S.kind
  obtain ⟨te, t2, a, he, hr2, hv0, ha, hq⟩ := hbody A outer s H vs Q E (hr.deeper _) hsp
  have I : Inv (cxSu P w K mg base N qual scope f (.ref cda) cc A outer s H) [] (vs.map some) H { s with heap := h₀, toks := s.toks + (N.zip us).length } := inv_su S hcell hr.hd e0 hl r hns hk
  obtain ⟨hp0, gs, dr, tk, os⟩ := s
  dsimp only at h₀ hns hk I KX
  generalize tk + (N.zip us).length = tk1 at I
  have KX1 : K.In h₀ := fun b o e => hk _ _ (KX b o e)
  have hus : ∃ u0, us[0]? = some u0 ∧ RelV (V.ref a) u0 := r.get hv0
  obtain ⟨u0, hu0, ru0⟩ := hus
  obtain rfl : u0 = Value.ref a := ru0
  obtain ⟨t1, hx⟩ := exo_at I.hok ha
  replace hx : h₀.get? a = some _ := hx
  obtain ⟨oC, hC1, hC2⟩ : ∃ oC, h₀.get? C = some oC ∧ oC.data = .cls cd := by
    unfold PySem.W.clsIn at hcls
    split at hcls
    · rename_i c d cd' sl ho
      cases hcls
      exact ⟨_, KX1 _ _ ho, rfl⟩
    · cases hcls
  have hxC : a ≠ C := fun z => by
    rw [z, hC1] at hx
    cases hx
    cases hC2
  refine PySem.ks_wpAt_mono (Q := SP (cxSu P w K mg base N qual scope f (.ref cda) cc A outer ⟨hp0, gs, dr, tk, os⟩ H) [] { nx := fun _ H' => Q .non H', rt := Q }) (E := fun _ _ => False) ?main (fun fl s' hs => ?fin) fun _ _ z => z.elim
  case fin =>
    have fin : ∀ {σ' : L2.St} {H' : Hp} {v : V} {u : Value}, Inv (cxSu P w K mg base N qual scope f (.ref cda) cc A outer ⟨hp0, gs, dr, tk, os⟩ H) [] σ' H' s' → RelV v u → Q v H' → CE outer P w H ⟨hp0, gs, dr, tk, os⟩ Q u s' :=
      fun {σ' H' v u} J rv q => ⟨v, H', J.os, J.bare, J.base, J.hok, rv, q⟩
    cases fl with
    | ret u =>
      obtain ⟨v, σ', H', J, rv, q⟩ := hs
      exact fin J rv q
    | next =>
      obtain ⟨σ', H', J, q⟩ := hs
      exact fin (v := V.non) (u := Value.none) J rfl q
    | brk =>
      obtain ⟨_, _, _, q⟩ := hs
      exact False.elim q
    | cont =>
      obtain ⟨_, _, _, q⟩ := hs
      exact False.elim q
  case main =>
    refine PySem.ks_wpAt_execs_cons (PySem.ks_wpAt_Expr_any ?_ (by show (scope.kind == ScopeKind.module && _) = false; rw [S.kind]; rfl))
    obtain ⟨pl, hev⟩ := heq (PySem.W.ksEnv qual scope hp0.objs.size f (.ref cda) cc)
    refine PySem.ks_wpAt_MethodCall (pl := pl) ?_ hev
    refine PySem.ks_wpAt_super_base (env := PySem.W.ksEnv qual scope hp0.objs.size f (.ref cda) cc) S.sup S.cls (by decide) rfl (KX1 _ _ lk) rfl hp rfl (KX1 _ _ hcode) rfl hvs hfile htop ?_
    obtain ⟨mb, hb1, hb2⟩ := e0.mod.blt
    have bk : ∀ b o, base.get? b = some o → h₀.get? b = some o := fun b o e => hk _ _ (e0.bs b o e).1
    refine PySem.W.ks_loadName_global S.kind S.sup (Calls.loadGlobal_builtin (env := PySem.W.ksEnv qual scope hp0.objs.size f (.ref cda) cc) (e0.mod.glob.keeps bk) hsu (hb1.keeps bk) ((hb2 _ (by decide)).trans (by rfl : bootBuiltins "super" = some (.type "super"))) ⟨rfl, ?_⟩)
    refine wpAny_loadName_free S.kind S.cls rfl ⟨_, KX1 _ _ hcell, rfl⟩ ?_
    refine wpAny_loadName_local S.kind (S.par _ (List.mem_of_getElem? har)) hns (rev_lookup S.nd har hu0) ?_
    refine PySem.ks_wpAny_isType_cls hC1 hC2 ⟨rfl, ?_⟩
    refine PySem.ks_wpAny_call_super hC1 hC2 hx rfl (fun c e => nomatch e) (PySem.W.looks_mroIn KX1 hsub) (fun h2 hso k2 => ?_)
    have I2 : Inv (cxSu P w K mg base N qual scope f (.ref cda) cc A outer ⟨hp0, gs, dr, tk, os⟩ H) [] (vs.map some) H ⟨h2, gs, dr, tk1, os⟩ := I.kept k2
    have KX2 : K.In h2 := fun b o e => k2 _ _ (KX1 b o e)
    have hI : PySem.W.Looks (model P w) h2 (isInstance (.ref a) (.type "ValueError")) true := (show PySem.W.InstAt h2 a { cls := .ref C, dict := none, data := .fields #[.ref t1, .none, .none, .none, .bool false, .none] } C none from ⟨k2 _ _ hx, rfl, rfl, trivial⟩).type.andThen (PySem.W.looks_subIn KX2 hB)
    have hm' := hm
    unfold PySem.W.ks_superIn at hm'
    rw [hcls] at hm'
    refine PySem.W.kxs_getMethod PySem.W.kxs_ValueError hso (PySem.W.looks_opaque KX2 hth) (l₀ := cd.mro) (fun A Q E s k q => wpAny_bind ((PySem.W.looks_clsIn KX2 hcls) A _ E s k (wpAny_pure q))) rfl KX2 hm' hI hxC (by decide) ?_
    obtain ⟨u, hu⟩ : ∃ u : Addr, h2.objs.size = u := ⟨_, rfl⟩
    rw [hu]
    have hmw : (h2.push (PySem.W.kxs_mw "ValueError.__init__" a)).get? u = some (PySem.W.kxs_mw "ValueError.__init__" a) := by
      rw [← hu]
      exact Heap.get?_push_at rfl rfl
    have I3 : Inv (cxSu P w K mg base N qual scope f (.ref cda) cc A outer ⟨hp0, gs, dr, tk, os⟩ H) [] (vs.map some) H ⟨h2.push (PySem.W.kxs_mw "ValueError.__init__" a), gs, dr, tk1 + 1, os⟩ := I2.kept fun b o e => Heap.get?_push_of_some _ e
    have I4 : Inv (cxSu P w K mg base N qual scope f (.ref cda) cc A outer ⟨hp0, gs, dr, tk, os⟩ H) [(u, PySem.W.kxs_mw "ValueError.__init__" a)] (vs.map some) H ⟨h2.push (PySem.W.kxs_mw "ValueError.__init__" a), gs, dr, tk1 + 1, os⟩ := I3.pins_of fun p hp => by
      obtain rfl := List.mem_singleton.mp hp
      have F := I2.fpOk (H' := H) (b := u) (Nat.le_of_eq hu) (I2.hok.fresh (Nat.le_of_eq hu))
      exact ⟨hmw, F.1, F.2.1, F.2.2.1, fun v z => nomatch z⟩
    refine PySem.W.kxs_callWith (i := "ValueError.__init__") (x := a) (by rw [hst]; rfl) ?_
    rw [hst]
    refine Calls.evalArgs_plain (Calls.spliced_cons (thn (he.run [(u, PySem.W.kxs_mw "ValueError.__init__" a)] _ (vs.map some) H _ I4 hq) fun y s5 hy => Calls.spliced_nil ?_))
    obtain ⟨z, H1, I5, rz, ha1, hq2⟩ := hy
    have hmw5 := (I5.pin _ (List.mem_append_right _ (List.mem_singleton.mpr rfl))).1
    have I6 := I5.pins_of (pins' := []) fun p hp => nomatch hp
    obtain ⟨t5, hx5⟩ := exo_at I6.hok ha1
    obtain ⟨nm, q, Nn, bs, bm, sn, sub, ab, col, dd, k0, k1, k2', k3, k5, hC, hbm⟩ := T.cls
    obtain ⟨hp5, g5, d5, tk5, os5⟩ := s5
    refine ⟨hmw5, call_bwV (I6.kIn _ _ hC) hx5 hmw5 (by show (1 : Nat) ≤ sizeLine; rw [sizeLine_eq]; omega) fun h' t6 k6 hx6 => ?_⟩
    have J := I6.write (t' := tk5) (x := a) (e := a) (o := exo a C none) (by rw [ha1]; exact True.intro) (.inl rfl) k6 ⟨_, hx6⟩ (exo_ok hx6)
    have eu : upd H1 a (exo a C none) = H1 := by
      funext b
      by_cases hb : b = a
      · rw [hb, upd_same, ha1]
      · rw [upd_ne hb]
    rw [eu] at J
    exact PySem.wpAt_of_wpAny (hr2.run [] _ _ _ _ J hq2)

/-- what the program's head tells: its file, no super of its own -/
class ProgOk (P : Program) (file : Str) : Prop where
  file : ((P.main.file : Str) == file) = true
  top : (P.main.scope.names.lookup ("super" : Str)).isSome = false
/-- an own exception class with such an __init__ -/
structure SuX (K : PySem.W.Frag) (mg : Str → Option Value) (C f : Addr) (fd : FuncData) (qual : Str) (st : Stmt) (file : Str) : Prop where
  ex : ∃ (oc kV doc pm ct : Value) (od an : Option Addr) (cda cc : Addr) (osl : Array (Option Value)) (cl ccl : Value) (cld cdd : Option Addr) (csl ccs : Array (Option Value)) (vs0 : Array Value) (tf : Tok) (cd : ClassData),
    fd = PySem.W.ksFn "__init__" qual (defArgs st) (defBody st) (defScope st) .none kV doc pm an (.ref cda) ct cc ∧ K.lookup f = some ⟨oc, od, .func fd, osl⟩ ∧ PySem.W.codeIn K (.ref cda) qual = true ∧ K.lookup cda = some ⟨ccl, cdd, .fields vs0, ccs⟩ ∧ vs0[2]? = some (.str file tf) ∧
      K.lookup cc = some ⟨cl, cld, .cell (some (.ref C)), csl⟩ ∧ PySem.W.clsIn K C = some cd
  sub : PySem.W.mroIn K C (.ref C) = some true
  su : mg "super" = none
  th : PySem.W.nsIn K cStatics "thirdparty.any" = some none
  hm : PySem.W.ks_superIn K C C "__init__" = some (some (.builtin "ValueError.__init__"))
  hB : PySem.W.subIn K (.ref C) (.type "ValueError") = some true
  T : OexC K C
  iC : PySem.W.findIn K (.ref C) "__init__" = some (some (.ref f))
  tI : PySem.W.typeIn K (.ref f) = some (.type "function")
theorem SuX.ok {P : Program} {w : World} {K : PySem.W.Frag} {mg : Str → Option Value} {base : Heap} {k : Nat} {f C : Addr} {fd : FuncData} {qual : Str} {st : Stmt} {file : Str} {N : List Str} {sp : Sp} {ar : Arg} {rest : List Stmt} {e : Expr} {p0 p1 p2 p3 p4 : Pos} [PO : ProgOk P file] (X : SuX K mg C f fd qual st file) (S : SuScope N (defScope st))
    (hb : defBody st = .Expr (.Call (.Attribute (.Call (.Name "super" p0) [] [] p1) "__init__" p2) [e] [] p3) p4 :: rest) (hp : ((defArgs st).posonlyargs ++ (defArgs st).args).head? = some ar) (har : N[0]? = some ar.arg)
    (hst : ∀ env, starEach [e] env = [(false, eval e env)])
    (heq : ∀ env, ∃ pl : Sem Bool, eval (.Call (.Attribute (.Call (.Name "super" p0) [] [] p1) "__init__" p2) [e] [] p3) env = (do
      let ov ← attributeBase (.Call (.Name "super" p0) [] [] p1) "__init__" env (eval (.Call (.Name "super" p0) [] [] p1) env)
      standAt p2.atName
      let (f, first) ← holding [ov] (getMethod ov "__init__" pl)
      callWith p3 f first (backTo p3 (starEach [e] env)) []))
    (len : ∀ vs H Q E, sp vs H Q E → vs.length = N.length)
    (hbody : ∀ (cda cc : Addr) (A : Around) (outer : List Env) (s : Shared) (H : Hp) (vs : List V) (Q : VK) (E : XK), Room k (A.deeper (PySem.W.ksEnv qual (defScope st) s.heap.objs.size f (.ref cda) cc)) → sp vs H Q E →
      ∃ te t2 a, PE (cxSu P w K mg base N qual (defScope st) f (.ref cda) cc A outer s H) e te ∧ PSs (cxSu P w K mg base N qual (defScope st) f (.ref cda) cc A outer s H) rest t2 ∧ vs[0]? = some (.ref a) ∧ H a = some (exo a C none) ∧
        te (vs.map some) H fun _ H1 => H1 a = some (exo a C none) ∧ t2 { nx := fun _ H' => Q .non H', rt := Q } (vs.map some) H1) :
    FnOk P w K mg base L2.CX0 (k + 1) f fd N sp := by
  obtain ⟨oc, kV, doc, pm, ct, od, an, cda, cc, osl, cl, ccl, cld, cdd, csl, ccs, vs0, tf, cd, rfl, lk, hcd, hcode, hvs, hcell, hcls⟩ := X.ex
  rw [hb] at lk ⊢
  exact fn_su lk hcd S hp har hcode hvs PO.file hcell hcls X.sub X.su PO.top X.th X.hm X.hB X.T hst heq len fun A outer s H vs Q E hr h => hbody cda cc A outer s H vs Q E hr h
theorem SuX.binds {K : PySem.W.Frag} {mg : Str → Option Value} {C f : Addr} {fd : FuncData} {qual : Str} {st : Stmt} {file : Str} {ps : List Str} (X : SuX K mg C f fd qual st file)
    (h : ∀ (kV doc pm : Value) (an : Option Addr) (cdv ct : Value) (cc : Addr) (us : List Value), us.length = ps.length → bindArgs (PySem.W.ksFn "__init__" qual (defArgs st) (defBody st) (defScope st) .none kV doc pm an cdv ct cc) ⟨us, []⟩ = pure (ps.zip us)) : Binds K fd ps [] := by
  obtain ⟨oc, kV, doc, pm, ct, od, an, cda, cc, osl, cl, ccl, cld, cdd, csl, ccs, vs0, tf, cd, rfl, _⟩ := X.ex
  exact .all (h kV doc pm an (.ref cda) ct cc)
/-! ### methods that may raise -/
def tMethS (C : Addr) (m : Str) (sp : Sp) (E : L2.St → XK) (ta : TE) (t : TA) : TE := fun σ H Q => ta σ H fun x H1 => ∃ a dx fs, x = .ref a ∧ H1 a = some (.ins C dx fs) ∧ fs.lookup m = none ∧ t σ H1 fun vs H2 => sp (x :: vs) H2 Q (E σ)
theorem pe_methS {X : Cx} {CX : CXT} {k : Nat} {f C : Addr} {fd : FuncData} {ps : List Str} {sp : Sp} {E : L2.St → XK} {m : Str} {pos apos : Pos} {e o : Expr} {es : List Expr} {ta : TE} {t : TA} {pl : Sem Bool} (he : PE X o ta) (c : Cls X.K C) (hm : Meth X.K C m f) (F : FnOk X.prog X.w X.K X.mg X.base CX k f fd ps sp) (hr : Room k X.A) (hb : Binds X.K fd ps []) (hx : ∀ σ, PassesAt CX X σ (E σ)) (ha : PA X (e :: es) t)
    (hst : starEach (e :: es) X.env = (false, eval e X.env) :: starEach es X.env := by rfl) (hpl : (backTo pos (starEach es X.env)).any (·.1) = false := by rfl)
    (ht : eval (.Call (.Attribute o m apos) (e :: es) [] pos) X.env = (do
      let ov ← eval o X.env
      standAt apos.atName
      let (f, first) ← holding [ov] (getMethod ov m pl)
      callWith pos f first (backTo pos (starEach (e :: es) X.env)) (backToKw pos (keywordEach [] X.env))) := by rfl) :
    PE X (.Call (.Attribute o m apos) (e :: es) [] pos) (tMethS C m sp E ta t) := by
  refine ⟨fun pins s σ H Q I h => ?_⟩
  refine PySem.W.methodCall_KW (pl := pl) (thn (he.run pins s σ H _ I h) fun u s1 ⟨x, H1, I1, rx, a, dx, fs, ex, ea, l, q⟩ => ?_) ht
  subst ex
  obtain rfl : u = Value.ref a := rx
  refine getmeth_ok I1 ea c hm l ?_
  refine PySem.W.callWith_K (first := [.ref a]) (h₀ := X.base) I.ok.mod.kin hm.kp (thn (ha.run pos pins s1 σ H1 _ I1 q) fun us s2 ⟨vs, H2, I2, r, q2⟩ => ⟨I2.kIn, ?_⟩) hst hpl
  exact run_fnS (us := .ref a :: us) (vs := .ref a :: vs) F hr hb (hx σ) I2 (.cons rfl r) q2
/-! ### readings -/
abbrev RX := List V → Hp → ML → (V → Hp → ML → Prop) → (Value → Option Addr → Hp → ML → Prop) → Prop
/-- a def that may raise -/
def GSpX (R : RX) : Sp := fun vs H Q E => ∃ G M, Sep G H M ∧ R vs G M (fun v G' M' => Same G G' → ∀ H', Sep G' H' M' → Q v H') fun cls d G' M' => Same G G' → ∀ H', Sep G' H' M' → E cls d H'
/-- raise C(e, ..) -/
def sRaiseX (C : Addr) (sp : Sp) (E : XK) (ta : TA) : TS := fun _ σ H => tMkO C sp [] ta σ H fun cls d H' => E cls d H'
/-- try .. except C as n -/
def sTryX (K : PySem.W.Frag) (c : Value) (i : Nat) (ts : Addr → Value → Option Addr → TS) (tb : WX → TS) : TS := fun D σ H => tb (wAs K c i ts (fun _ _ _ _ => False) D) D σ H
/-- an __init__ that keeps one field of its name -/
def XSp1 (C : Addr) (f : Str) : Sp := fun vs H Q _ => ∃ a line, vs = [.ref a, .str line] ∧ line.length ≤ 1000 ∧ H a = some (exo a C none) ∧ ∀ dx, H dx = none → dx ≠ a → Q .non (upd (upd H dx (exd dx [(f, .str line)])) a (exo a C (some dx)))
section
variable {K : PySem.W.Frag} {cl : Nat → Addr} {p q r : Bool} {M M1 M2 M3 M4 : ML} {G G1 G2 G3 H H1 H2 H3 : Hp} {σ : L2.St} {ta tb tc te tl : TE} {tx : TA} {d d1 d2 d3 : D} {ds es : List D}
theorem s_raise1 {C : Addr} {f line : Str} {E : XK} {D0 : Ends} (S : Sep G H M) (ha : EvA K cl p tx σ G M [.str line] M1) (hl : line.length ≤ 1000) (k : ∀ G' H' dx, Same G G' → Sep G' H' ((dx, .xd [(f, .str line)]) :: M1) → E (.ref C) (some dx) H') : sRaiseX C (XSp1 C f) E tx D0 σ H :=
  ha G H (Same.refl _) S _ fun vs G1 H1 g1 rs => by
    obtain ⟨v, rfl, rv⟩ := reps1 rs
    obtain rfl := rv.of_str
    refine ⟨by show (1 : Nat) ≤ 1000; decide, fun a na => ?_⟩
    refine ⟨a, line, rfl, hl, upd_same, fun dx nd ne => ?_⟩
    have nd1 : H1 dx = none := by rw [upd_ne ne] at nd; exact nd
    refine ⟨rfl, dx, [(f, .str line)], upd_same, by rw [upd_ne ne, upd_same], nd1, ?_⟩
    have e : upd (del (upd (upd (upd H1 a (exo a C none)) dx (exd dx [(f, .str line)])) a (exo a C (some dx))) a) dx (.xd [(f, .str line)]) = upd H1 dx (.xd [(f, .str line)]) := by
      funext b
      by_cases hb : b = dx
      · rw [hb, upd_same, upd_same]
      · rw [upd_ne hb, upd_ne hb]
        by_cases hba : b = a
        · rw [hba, del_same, na]
        · rw [del_ne hba, upd_ne hba, upd_ne hb, upd_ne hba]
    rw [e]
    exact k G1 _ dx g1.same (g1.sep.newM nd1)
theorem s_dropMX {R : RX} {C x dx : Addr} {fs : List (Str × V)} {m : Str} {E : L2.St → XK} {D0 : Ends} (S : Sep G H M) (he : EvX K cl p ta σ G M (.loc x) M1) (hm : At M1 x (.ins C dx fs)) (hn : fs.lookup m = none) (ha : EvA K cl q tx σ G M1 ds M2) (pm : M2.Perm M3)
    (hR : ∀ vs G', Same G G' → Reps K cl G' vs ds → R (.ref x :: vs) G' M3 (fun _ G'' M'' => Same G' G'' → ∀ H', Sep G'' H' M'' → D0.nx σ H') fun cls d G'' M'' => Same G' G'' → ∀ H', Sep G'' H' M'' → E σ cls d H') :
    tDrop (tMethS C m (GSpX R) E ta tx) D0 σ H :=
  he G H (Same.refl _) S _ fun y G2 H2 g2 ry => by
    obtain rfl := ry.of_loc
    exact ⟨x, dx, fs, rfl, g2.sep.look hm, hn, ha G2 H2 g2.same g2.sep _ fun xs G3 H3 g3 rxs => ⟨G3, M3, g3.sep.perm pm, hR xs G3 (g2.same.trans g3.same) rxs⟩⟩
theorem x_caught {C : Addr} {i : Nat} {ts : Addr → Value → Option Addr → TS} {W : WX} {D0 : Ends} {dx : Option Addr} (hE : PySem.W.exmOne K (.ref C) (.ref C) = some true)
    (k : ∀ a, H a = none → ts a (.ref C) dx { nx := fun σ' H' => D0.nx (σ'.set i none) H', rt := D0.rt, bk := fun σ' H' => D0.bk (σ'.set i none) H', ct := fun σ' H' => D0.ct (σ'.set i none) H' } (σ.set i (some (.ref a))) H) : wAs K (.ref C) i ts W D0 (.ref C) dx σ H := ⟨true, hE, fun _ => k, fun q => nomatch q⟩
theorem ev_xf {C a dd : Addr} {i : Nat} {f : Str} {fs : List (Str × V)} {v : V} (hi : σ[i]? = some (some (.ref a))) (hm : At M dd (.xd fs)) (hf : fs.lookup f = some v) (rv : Rep K cl G v d) : EvX K cl true (tXf a (.ref C) (some dd) C f (tVar i)) σ G M d M := fun G1 H1 s S Q k =>
  ⟨.ref a, hi, rfl, rfl, dd, fs, v, rfl, S.look hm, hf, k v G1 H1 (Go.refl S) (rv.mono s)⟩
end

def suC (N : List Str) (sc : Scope) : Bool :=
  decide (sc.kind = .function) && !sc.isCoroutine && !sc.isGenerator && decide N.Nodup && N.all (fun x => decide (sc.names.lookup x = some .local)) && sc.names.all (fun y => !decide (y.2 = .cell)) && sc.names.all (fun y => !decide (y.2 = .free) || decide (y.1 = ("__class__" : Str))) &&
    decide (sc.names.lookup ("super" : Str) = some .globalImplicit) && decide (sc.names.lookup ("__class__" : Str) = some .free)
theorem suScope_by {N : List Str} {sc : Scope} (h : suC N sc = true) : SuScope N sc := by
  unfold suC at h
  simp only [Bool.and_eq_true, Bool.not_eq_true', decide_eq_true_eq, List.all_eq_true, Bool.or_eq_true, decide_eq_false_iff_not] at h
  obtain ⟨⟨⟨⟨⟨⟨⟨⟨h1, h2⟩, h3⟩, h4⟩, h5⟩, h6⟩, h7⟩, h8⟩, h9⟩ := h
  refine ⟨h1, h2, h3, h4, h5, fun y hy => h6 y hy, fun x hx => ?_, h8, h9⟩
  rcases h7 _ (PySem.mem_of_lookup hx) with z | z
  · exact absurd rfl z
  · exact z
/-- f'..{line}..', the text thrown away -/
theorem jn_read {x1 x3 line : Str} {σ : L2.St} {H : Hp} {F : Hp → Prop} {i : Nat} (h1 : σ[i]? = some (some (.str line))) (hl : line.length ≤ 1000) (hx1 : x1.length ≤ 1000) (hx3 : x3.length ≤ 1000) (hF : F H) : tJs [tC (.str x1), tFmt (tVar i), tC (.str x3)] Str.empty σ H fun _ H1 => F H1 := by
  have z0 : (Str.empty : Str).length ≤ 0 := by decide
  have a1 : (Str.empty ++ x1).length ≤ 1000 := app_len z0 hx1 (by decide)
  have a2 : (Str.empty ++ x1 ++ line).length ≤ 2000 := app_len a1 hl (by decide)
  have a3 : (Str.empty ++ x1 ++ line ++ x3).length ≤ 3000 := app_len a2 hx3 (by decide)
  have zs := sizeLine_eq
  exact ⟨x1, rfl, by omega, .str line, h1, .inl ⟨line, rfl, by omega, line, rfl, by omega, x3, rfl, by omega, hF⟩⟩
abbrev jnT (x1 x3 : Str) : TE := fun σ H Q => tJs [tC (.str x1), tFmt (tVar 1), tC (.str x3)] Str.empty σ H fun out H1 => Q (.str out) H1
theorem len_init1 {C : Addr} {f n : Str} : ∀ vs H Q E, XSp1 C f vs H Q E → vs.length = ([("self" : Str), n] : List Str).length := by
  rintro vs H Q E ⟨a, line, rfl, _⟩
  rfl
/-- such an __init__ with one field: what its body does -/
theorem xsp1_read {K : PySem.W.Frag} {C : Addr} {f x1 x3 : Str} {vs : List V} {H : Hp} {Q : VK} {E : XK} (T : OexC K C) (hno : PySem.W.findIn K (.ref C) f = some none) (hx1 : x1.length ≤ 1000) (hx3 : x3.length ≤ 1000) (h : XSp1 C f vs H Q E) :
    ∃ a, vs[0]? = some (.ref a) ∧ H a = some (exo a C none) ∧ jnT x1 x3 (vs.map some) H fun _ H1 => H1 a = some (exo a C none) ∧ tOst K f (tVar 0) (tVar 1) { nx := fun _ H' => Q .non H', rt := Q } (vs.map some) H1 := by
  obtain ⟨a, line, rfl, hl, ha, k⟩ := h
  refine ⟨a, rfl, ha, jn_read (i := 1) rfl hl hx1 hx3 ⟨ha, ?_⟩⟩
  exact ⟨.str line, rfl, .ref a, rfl, a, C, rfl, T, hno, .inl ⟨ha, fun dx nd ne => k dx nd ne⟩⟩
/-- an error of the class is what except names -/
theorem exm_self {K : PySem.W.Frag} {S : Addr} (h1 : PySem.W.subIn K (.ref S) (.type "BaseException") = some true) (h2 : PySem.W.isClsIn K S = true) (h3 : PySem.W.typeIn K (.ref S) = some (.type "type")) (h4 : PySem.W.subIn K (.ref S) (.ref S) = some true) : PySem.W.exmOne K (.ref S) (.ref S) = some true := by
  have e1 : (PySem.W.subIn K (.ref S) (.type "BaseException") == some true) = true := by rw [h1] <;> rfl
  have e2 : ((PySem.W.clsIn K S).isSome && PySem.W.typeIn K (.ref S) == some (.type "type")) = true := by
    have h2' : (PySem.W.clsIn K S).isSome = true := h2
    rw [h2', h3] <;> rfl
  show (if (PySem.W.subIn K (.ref S) (.type "BaseException") == some true) = true then (if ((PySem.W.clsIn K S).isSome && PySem.W.typeIn K (.ref S) == some (.type "type")) = true then PySem.W.subIn K (.ref S) (.ref S) else none) else none) = some true
  rw [if_pos e1, if_pos e2]
  exact h4
end Cp
/-! Cp16: setdefault over keys of nested tuples. -/
namespace Cp
open PySem L2 PySem.Spec PyProof.Rows
section
variable [Wo] (K : PySem.W.Frag) (cl : Nat → Addr)
/-- d.setdefault(y, z) -/
def tSetD (td ty tz : TE) : TE := fun σ H Q => td σ H fun x H1 => ∃ a, x = .ref a ∧ isND H1 a ∧ ty σ H1 fun y H2 => tz σ H2 fun z H3 => ∃ b ep kvs k, NAt K cl x y H3 a b ep kvs k ∧ kvs.length < sizeLine ∧
  (∀ w, valN kvs k = some w → Q w H3) ∧ (valN kvs k = none → ∀ ep', Q z (upd H3 a (nD a ep' (putN kvs k b z))))
end
section
variable {X : Cx} {pins : List (Addr × Obj)} {σ : L2.St} {H : Hp} {s : Shared} {cl : Nat → Addr}
theorem pe_setd {o e f : Expr} {apos cpos : Pos} {td ty tz : TE} (hu : X.A.units + 64 < cLine) (ho : PE X o td) (he : PE X e ty) (hf : PE X f tz) (m : M2 X o "setdefault" apos e f cpos) : PE X (.Call (.Attribute o "setdefault" apos) [e, f] [] cpos) (@tSetD ⟨X.prog, X.w⟩ X.K cl td ty tz) := by
  refine ⟨fun pins s σ H Q I h => ?_⟩
  refine wpAny_Call_method m.base m.few m.line PySem.F.plainAttrs_dict PySem.F.slot_dict_setdefault PySem.F.type_dict_setdefault (thn (ho.run pins s σ H _ I h) fun u s1 ⟨x, H1, I1, rx, a, ex, d, q1⟩ => ?_)
  obtain rfl := ex
  obtain rfl : u = Value.ref a := rx
  obtain ⟨t1, t2⟩ := isD_any I1 (.inr d)
  refine ⟨t1, t2, ?_⟩
  rw [m.trees]
  refine Calls.callWith_builtin rfl (Calls.evalArgs_plain (Calls.spliced_cons (thn (he.run pins s1 σ H1 _ I1 q1) fun iv s2 ⟨y, H2, I2, ry, q2⟩ => Calls.spliced_cons (thn (hf.run pins s2 σ H2 _ I2 q2) fun zv s3 ⟨z, H3, I3, rz, q3⟩ => Calls.spliced_nil ?_))))
  obtain ⟨b, ep, kvs, k, n, hl, h1, h2⟩ := q3
  have hH : H3 a = some (@nD ⟨X.prog, X.w⟩ a ep kvs) := n.2.2.1
  obtain ⟨-, rfl, n1, n2, n3, xs, n4, n5⟩ := nat_at I3 n rfl ry
  refine call_setdefault_heap (hsz := by rw [← Paired.length n4]; exact n3) (room8 hu) n1 n2 n5 (fun p hp => ?_) fun hn h' dd hs => ?_
  · have e1 := n4.val k
    rw [hp] at e1
    cases hw : valN kvs k with
    | none => rw [hw] at e1; exact (show False from e1).elim
    | some w => rw [hw] at e1; exact ⟨w, H3, I3.tok _, e1, h1 w hw⟩
  · have e1 : valN kvs k = none := by
      have e2 := n4.isSome k
      rw [hn] at e2
      cases hv : valN kvs k with
      | none => rfl
      | some w => rw [hv] at e2; cases e2
    obtain ⟨o, es, ep', g1, g2, g3, g4, g5, g6⟩ := dd
    refine ⟨z, _, nd_write I3 hH hs ⟨n2, ?_, _, n4.put k b rz, g6, o, es, g1, g2, g3, g4⟩, rz, h2 e1 ep'⟩
    have := putN_length kvs k b z
    omega
end
/-! ### comprehensions whose items lay cells -/
section
variable [Wo] {K : PySem.W.Frag} {cl : Nat → Addr} {p q r : Bool} {M M1 M2 : ML} {G G2 H2 : Hp} {σ : L2.St} {te tl : TE} {tx : TA} {d1 : D}
theorem eg_lcIY {j : Nat} {vs : List Nat} {J : It} {us : List V} {ok : Hp → Prop} (Y : Yields J us ok) (I : Nat → List V → Hp → ML → Prop) (hok : ∀ i acc Da G' H' M', Same G G' → I i acc G' M' → Sep G' H' ((Da, .lst acc) :: M') → ok H') (h0 : I 0 [] G2 M1) (hl : us.length ≤ 10000000) (sG : Same G G2) (S2 : Sep G2 H2 M1)
    (hs : ∀ G1 Da i x acc M', Same G G1 → us[i]? = some x → I i acc G1 M' → wipe ((wipe σ vs).set j (some x)) vs = wipe σ vs ∧ EvG te ((wipe σ vs).set j (some x)) G1 ((Da, .lst acc) :: M') fun v G3 M3 => ∃ M4, M3.Perm ((Da, .lst acc) :: M4) ∧ I (i + 1) (acc ++ [v]) G3 M4)
    {Q : VK} (k : ∀ Da acc G' H' M', Same G2 G' → Sep G' H' ((Da, .lst acc) :: M') → I us.length acc G' M' → Q (.ref Da) H') :
    ∀ Da, H2 Da = none → ∃ W : Nat → Nat → Hp → Prop, (∃ m, W 0 m (upd H2 Da (.lst []))) ∧ ∀ i m H, W i m H →
      (J.stop i H ∧ Q (.ref Da) H) ∨ (J.go i H ∧ ∃ Nx : Hp → Prop, (∀ H', Nx H' → ∃ m', m' < m ∧ W (i + 1) m' H') ∧ ∀ x H', J.yld i H x H' → gName j x (wipe σ vs) H' fun σ2 H2 => wipe σ2 vs = wipe σ vs ∧ tYes σ2 H2 fun b H3 =>
        if b = true then te σ2 H3 fun y H4 => ∃ acc, H4 Da = some (.lst acc) ∧ acc.length < sizeLine ∧ Nx (upd H4 Da (.lst (acc ++ [y]))) else Nx H3) := fun Da hD => by
  refine lc_y Y (fun i H => ∃ G' acc M', Same G2 G' ∧ Sep G' H ((Da, .lst acc) :: M') ∧ acc.length = i ∧ I i acc G' M') ⟨G2, [], M1, Same.refl _, S2.newM hD, rfl, h0⟩ ?_ ?_ ?_
  · rintro i H hi ⟨G', acc, M', s', S', _, hI⟩
    exact hok i acc Da G' H M' (sG.trans s') hI S'
  · rintro i x H hx ⟨G', acc, M', s', S', hal, hI⟩
    obtain ⟨hw, he⟩ := hs G' Da i x acc M' (sG.trans s') hx hI
    have hi := (List.getElem?_eq_some_iff.mp hx).1
    refine ⟨hw, ?_⟩
    unfold tYes
    dsimp only
    rw [if_pos rfl]
    refine he G' H (Same.refl _) S' _ fun y G4 H4 M4 s4 S4 ⟨M5, pm, hI2⟩ => ?_
    have S5 := S4.perm pm
    exact ⟨acc, S5.look .hd, by rw [hal]; exact Nat.lt_of_lt_of_le (Nat.lt_of_lt_of_le hi hl) (by decide), G4, acc ++ [y], M5, s'.trans s4, S5.ch .hd, by rw [List.length_append, hal]; rfl, hI2⟩
  · rintro H ⟨G', acc, M', s', S', _, hI⟩
    exact k Da acc G' H M' s' S' hI
/-- [e for k in range(n)], e laid on the way -/
theorem eg_lcRngI {n : Int} {j : Nat} {vs : List Nat} {F : V → Hp → ML → Prop} (I : Nat → List V → Hp → ML → Prop) (h : EvA K cl p tx σ G M [.int n] M1) (hn : -1000000 ≤ n ∧ n ≤ 1000000) (h0 : ∀ G', Same G G' → I 0 [] G' M1)
    (hs : ∀ G1 Da (i : Nat) acc M', Same G G1 → (i : Int) < n → I i acc G1 M' → wipe ((wipe σ vs).set j (some (.int (i : Int)))) vs = wipe σ vs ∧ EvG te ((wipe σ vs).set j (some (.int (i : Int)))) G1 ((Da, .lst acc) :: M') fun v G3 M3 => ∃ M4, M3.Perm ((Da, .lst acc) :: M4) ∧ I (i + 1) (acc ++ [v]) G3 M4)
    (hF : ∀ Da acc G' M', Same G G' → I n.toNat acc G' M' → F (.ref Da) G' ((Da, .lst acc) :: M')) : EvG (tLc (iRng1 tx) (gName j) tYes te vs) σ G M F := fun G1 H1 s S Q k =>
  h G1 H1 s S _ fun xs G2 H2 g2 rx => by
    obtain ⟨u, rfl, hu⟩ := reps1 rx
    refine ⟨n, by rw [hu.of_int], by omega, by omega, ?_⟩
    have el : ((List.range n.toNat).map fun i : Nat => V.int (i : Int)).length = n.toNat := by rw [List.length_map, List.length_range]
    refine eg_lcIY (G := G) (G2 := G2) yields_rng I (fun _ _ _ _ _ _ _ _ _ => trivial) (h0 G2 (s.trans g2.same)) (by rw [el]; omega) (s.trans g2.same) g2.sep (fun G3 Da i x acc M' s3 hx hI => ?_) fun Da acc G' H' M' s' S' hI => k (.ref Da) G' H' _ (g2.same.trans s') S' (hF Da acc G' M' ((s.trans g2.same).trans s') (by rw [el] at hI; exact hI))
    rw [List.getElem?_map] at hx
    obtain ⟨i', hi', rfl⟩ := Option.map_eq_some_iff.mp hx
    obtain ⟨hlt, e⟩ := List.getElem?_eq_some_iff.mp hi'
    rw [List.getElem_range] at e
    subst e
    rw [List.length_range] at hlt
    exact hs G3 Da i acc M' s3 (by omega) hI
end
/-! ### cells in a row -/
theorem ch_at {a : Addr} {o o' : HO} {R : ML} : ∀ {cs : ML} {i : Nat}, cs[i]? = some (a, o) → Ch (cs ++ R) a o o' (cs.set i (a, o') ++ R)
  | [], i, h => by simp at h
  | c :: cs, 0, h => by
    obtain rfl : c = (a, o) := by simpa using h
    exact .hd
  | c :: cs, i + 1, h => .tl (ch_at (cs := cs) (i := i) (by simpa using h))
theorem at_at {a : Addr} {o : HO} {R : ML} : ∀ {cs : ML} {i : Nat}, cs[i]? = some (a, o) → At (cs ++ R) a o
  | [], i, h => by simp at h
  | c :: cs, 0, h => by
    obtain rfl : c = (a, o) := by simpa using h
    exact .hd
  | c :: cs, i + 1, h => .tl (at_at (cs := cs) (i := i) (by simpa using h))
/-! ### in a tuple of data -/
def rInDT (K : PySem.W.Frag) (neg : Bool) : R2 := fun x y H Q => ∃ d ds, Dp K H x d ∧ Dp K H y (.tuple ds) ∧ SeqAt.shaped d = true ∧ SeqAt.shaped (.tuple ds) = true ∧ Q (.bl (neg != ds.any fun z => PyData.eqv z d)) H
theorem op_inDT {X : Cx} (hu : X.A.units + 65 < cLine) : OpR X (compareOp .In) (rInDT X.K false) := by
  intro pins s σ H x y v u Q I rx ry h
  obtain ⟨d, ds, hd, he, sd, se, q⟩ := h
  obtain ⟨as, r1⟩ := Dp.reads I d x v hd rx
  obtain ⟨bs, r2⟩ := Dp.reads I (.tuple ds) y u he ry
  exact SeqAt.in_tuple_reads r2 r1 (SeqAt.canLay_of_shaped se) (SeqAt.canLay_of_shaped sd) (room_in_shaped sd hu) ⟨.bl _, H, I, rfl, by simpa using q⟩
theorem op_notInDT {X : Cx} (hu : X.A.units + 65 < cLine) : OpR X (compareOp .NotIn) (rInDT X.K true) := by
  intro pins s σ H x y v u Q I rx ry h
  obtain ⟨d, ds, hd, he, sd, se, q⟩ := h
  obtain ⟨as, r1⟩ := Dp.reads I d x v hd rx
  obtain ⟨bs, r2⟩ := Dp.reads I (.tuple ds) y u he ry
  exact SeqAt.notIn_tuple_reads r2 r1 (SeqAt.canLay_of_shaped se) (SeqAt.canLay_of_shaped sd) (room_in_shaped sd hu) ⟨.bl _, H, I, rfl, by simpa using q⟩
theorem o_inDT {K : PySem.W.Frag} {cl : Nat → Addr} {M : ML} {neg : Bool} {x : D} {ds : List D} (hx : x.isDat = true) (dx : x.dep ≤ 64) (hd : D.areDat ds = true) (dd : D.deps ds ≤ 63) : Op2 K cl true (rInDT K neg) M x (.tup ds) (.bl (neg != ds.any fun z => D.eqb z x)) := op2_val fun G1 H1 S u v ru rv => ⟨_, Rep.bl, fun Q q => by
  have hl : (D.tup ds).isDat = true := by simp only [D.isDat]; exact hd
  have hp := (rv.mono S.sub).dp hl
  simp only [D.pyd] at hp
  have h2 := shaped_of hl (by simp only [D.dep]; omega)
  simp only [D.pyd] at h2
  exact ⟨x.pyd, D.pyds ds, (ru.mono S.sub).dp hx, hp, shaped_of hx dx, h2, by rw [any_eqb hx hd]; exact q⟩⟩
/-! ### {k: v}, k a nested tuple -/
section
variable [Wo] (K : PySem.W.Frag) (cl : Nat → Addr)
def tNDisp1 (tk tv : TE) : TE := fun σ H Q => ∀ p, H p = none → tk σ (upd H p (nD p 0 [])) fun y H1 => tv σ H1 fun v H2 => H2 p = some (nD p 0 []) ∧ ∃ b k, y = .ref b ∧ Rep K cl H2 (.ref b) (keyD k) ∧ k.depth ≤ 8 ∧ ∀ ep', Q (.ref p) (upd H2 p (nD p ep' [(k, b, v)]))
end
theorem pe_ndisp1 {X : Cx} {cl : Nat → Addr} {pos : Pos} {k v : Expr} {tk tv : TE} (hu : X.A.units + 64 < cLine) (hk : PE X k tk) (hv : PE X v tv) : PE X (.Dict [some k] [v] pos) (@tNDisp1 ⟨X.prog, X.w⟩ X.K cl tk tv) := by
  refine ⟨fun pins s σ H Q I q => ?_⟩
  have hn := I.hok.fresh (Nat.le_refl s.heap.objs.size)
  letI : Wo := ⟨X.prog, X.w⟩
  have I1 : Inv X pins σ (upd H s.heap.objs.size (nD s.heap.objs.size 0 [])) { s with heap := s.heap.push { cls := .type "dict", data := .dict #[] }, toks := s.toks } := I.laid (a := s.heap.objs.size) (fun _ _ q => Heap.get?_push_of_some _ q) (Nat.le_refl _)
    (nD_ok ⟨beq_eq_false_iff_ne.mpr (Ne.symm (Nat.ne_of_lt I.big)), Nat.zero_le _, [], .nil, List.nodup_nil, _, #[], Heap.get?_push_size _ rfl, ⟨rfl, rfl, rfl⟩, rfl, rfl⟩)
  have hu8 : (nestedKind X.prog X.w).room X.A := by
    show X.A.units + 8 < cLine
    omega
  rw [arm_eval_Dict, zip_pairTrees [some k] [v] X.env pos rfl rfl, dictDisplay_pairs (pairTrees [some k] [v] X.env pos) (fun z => by cases z) (by show (1 : Nat) < 17; decide)]
  refine wpAny_bind (wpAny_standAt (wpAny_bind (wpAny_subDictH (knd := nestedKind X.prog X.w) hu8 (by show (1 : Nat) ≤ 15; decide) ?_)))
  refine pairTrees_cons_walk (thn (hk.run pins _ σ _ _ I1 (q _ hn)) fun u s1 ⟨x, H1, J1, rx, q1⟩ => thn (hv.run pins s1 σ H1 _ J1 q1) fun w2 s2 ⟨y, H2, J2, ry, e, b, kk, ex, rb, dk, q2⟩ => pairTrees_nil_walk ?_)
  subst ex
  obtain rfl : u = Value.ref b := rx
  obtain ⟨n1, n2, xs, n3, n4⟩ := nd_at (cl := cl) J2 e (fun e he => nomatch he)
  cases n3
  refine ⟨[(kk, b, w2)], ⟨rfl, rfl, nk_is J2 rb dk, trivial⟩, n4, fun h' tk dd hs => wpAny_pure ?_⟩
  obtain ⟨o, es, ep', g1, g2, g3, g4, g5, g6⟩ := dd
  refine ⟨.ref s.heap.objs.size, _, nd_write J2 e hs ⟨n1, by show (1 : Nat) ≤ sizeLine; rw [sizeLine_eq]; omega, [(kk, b, w2)], .cons ⟨rfl, rfl, ry⟩ .nil, ?_, o, es, g1, g2, g3, ?_⟩, rfl, q2 ep'⟩
  · simp
  · exact g4
/-- a tuple of texts that stands in the program -/
theorem rep_ktup {K : PySem.W.Frag} {cl : Nat → Addr} {G : Hp} {a : Addr} {od : Option Addr} {its : Array Value} {n : Nat} {sl : Array (Option Value)} {xs : List Str} (h : K.lookup a = some ⟨.type "tuple", od, .seq its n, sl⟩) (hz : its.size ≤ sizeLine) (hv : Vals (xs.map V.str) its.toList) : Rep K cl G (.ref a) (.tup (xs.map D.str)) :=
  Rep.tup (vs := xs.map V.str) (.inr ⟨_, its, n, h, rfl, rfl, hz, hv⟩) (Reps.map (f := V.str) (g := D.str) fun _ _ => Rep.str)
theorem ev_cref {K : PySem.W.Frag} {cl : Nat → Addr} {M : ML} {G : Hp} {σ : L2.St} {a : Addr} {d : D} (h : ∀ G, Rep K cl G (.ref a) d) : EvX K cl true (tC (.ref a)) σ G M d M := fun G1 H1 s S Q k => k _ G1 H1 (Go.refl S) (h G1)
/-! ### xs.extend(ys), ys any list -/
theorem list_extendW (l : Addr) (items : Array Value) (n : Nat) (b : Addr) (items2 : Array Value) (n2 : Nat) (dd2 : Option Addr) (sl2 : Array (Option Value)) (hc0 : ¬(!items.isEmpty && Builtin.List.listTooLong (items.size + items2.size)) = true) (hc1 : items.size ≤ sizeLine) (hs2 : items.size + items2.size ≤ sizeLine + 1) :
    Meets (Builtin.«list.extend» ⟨[.ref l, .ref b], []⟩) (fun _ R s => s.heap.get? l = some { cls := .type "list", dict := none, data := .seq items n, slots := #[] } ∧ s.heap.get? b = some { cls := .type "list", dict := dd2, data := .seq items2 n2, slots := sl2 } ∧ R (.ok (.ret Value.none)) { s with heap := s.heap.update l (Obj.mapSeq fun x => x ++ items2), toks := s.toks }) :=
  .of_wp fun prog w A R s h => by
    obtain ⟨hp, g, d, tk, os⟩ := s; obtain ⟨hl, hb, h⟩ := h; have f1 := AutoSeq1.idx_int; have f2 := AutoSeq1.sub_tuple_tuple; have f3 := AutoSeq1.sub_list_list; have f4 := AutoSeq1.sub_tuple_list; have f5 := AutoSeq1.sub_list_tuple;
    have hz' : (items ++ items2).size ≤ sizeLine + 1 := by rw [Array.size_append]; exact hs2
    wp_walk using (wpAny_updateSeq hl rfl (hz := hc1) (_hz' := hz')), wpAny_loadPart' hl, wpAny_loadPart' hb; exact ⟨_, rfl, h⟩
def rExtendA (K : PySem.W.Frag) : V → List V → Hp → VK → Prop := fun x vs H Q => ∃ l b xs zs, x = .ref l ∧ vs = [.ref b] ∧ H l = some (.lst xs) ∧ SqL K H b zs ∧ xs.length + zs.length ≤ sizeLine ∧ Q .non (upd H l (.lst (xs ++ zs)))
theorem mt_extendA {X : Cx} : MtM X "list.extend" (rExtendA X.K) := by
  intro pins s σ H x vs v us Q I rx rv h
  obtain ⟨l, b, xs, zs, rfl, rfl, hH, hB, hz, q⟩ := h
  cases rx
  obtain ⟨u, rfl, ru⟩ := rv.one
  cases ru
  obtain ⟨z, its, n, r, hl, e⟩ := I.lstM hH
  obtain ⟨its2, r2, ⟨⟨c2, dd2, dt2, sl2⟩, n2, e2, k2, _, t2⟩, z2⟩ := I.list hB
  simp only at k2 t2
  subst k2 t2
  have hl2 := r2.length
  have hsz : its.toArray.size + its2.toArray.size ≤ sizeLine := by rw [List.size_toArray, List.size_toArray]; omega
  have hlong : ¬ (!its.toArray.isEmpty && Builtin.List.listTooLong (its.toArray.size + its2.toArray.size)) = true := by
    rw [notLongL hsz, Bool.and_false]
    exact Bool.false_ne_true
  refine call_meets PySem.F.slot_list_extend ⟨_, e, rfl⟩ PySem.F.entry_list_extend (PySem.F.args_list_extend_2 _ _)
    (list_extendW l its.toArray n b its2.toArray n2 dd2 sl2 hlong (by rw [List.size_toArray]; omega) (by omega)) ⟨e, e2, ?_⟩
  refine ⟨.non, _, I.lset (its' := its ++ its2) hH e (by simp) (r.append r2) ?_, rfl, q⟩
  rw [List.length_append]
  omega
end Cp
/-! Cp17: a != b of two lists of the same things, a < b of tuples of numbers, xs[::-1], list(xs) with the same things, comprehensions over a list whose items lay cells. -/
namespace Cp
open PySem L2 PySem.Spec PyProof.Rows
/-- xs != ys, both with the same objects -/
def rNeRefs (K : PySem.W.Frag) : R2 := fun x y H Q => ∃ (a b : Addr) (as : List Addr), x = .ref a ∧ y = .ref b ∧ SqL K H a (as.map V.ref) ∧ SqL K H b (as.map V.ref) ∧ Q (.bl false) H
theorem vals_ref : ∀ {as : List Addr} {us : List Value}, Vals (as.map V.ref) us → us = as.map Value.ref
  | [], _, .nil => rfl
  | a :: as, u :: us, .cons h t => by
    cases h
    rw [vals_ref t]
    rfl
theorem op_neRefs {X : Cx} (hu : X.A.units + 64 < cLine) : OpR X (compareOp .NotEq) (rNeRefs X.K) := by
  rintro pins s σ H x y v u Q I rx ry ⟨a, b, as, rfl, rfl, ha, hb, q⟩
  obtain rfl : v = Value.ref a := rx
  obtain rfl : u = Value.ref b := ry
  obtain ⟨ua, ra, pa, _⟩ := I.list ha
  obtain ⟨ub, rb, pb, _⟩ := I.list hb
  obtain rfl := vals_ref ra
  obtain rfl := vals_ref rb
  refine SeqAt.RcNeAt.lists (e := fun _ => true) pa.isList pb.isList rfl (by omega) (fun j h1 h2 => SeqAt.EqAt.same _) X.prog X.w _ _ ?_
  rw [List.all_eq_true.mpr fun _ _ => rfl]
  exact ⟨.bl false, H, I, rfl, q⟩
section
variable {K : PySem.W.Frag} {cl : Nat → Addr} {p q : Bool} {M M1 : ML} {G : Hp} {σ : L2.St} {ta te : TE} {d : D}
theorem o_ltT3 {a1 a2 a3 b1 b2 b3 : Int} : Op2 K cl true (rLtT K) M (.tup [.int a1, .int a2, .int a3]) (.tup [.int b1, .int b2, .int b3]) (.bl (HT.lexLt [a1, a2, a3] [b1, b2, b3])) := op2_val fun G1 H1 S u v ru rv => by
  obtain ⟨a, us, rfl, sa, ra⟩ := ru.of_tup
  obtain ⟨b, vs, rfl, sb, rb⟩ := rv.of_tup
  obtain ⟨x1, x2, x3, rfl, c1, c2, c3⟩ := reps3 ra
  obtain ⟨y1, y2, y3, rfl, e1, e2, e3⟩ := reps3 rb
  obtain rfl := c1.of_int
  obtain rfl := c2.of_int
  obtain rfl := c3.of_int
  obtain rfl := e1.of_int
  obtain rfl := e2.of_int
  obtain rfl := e3.of_int
  exact ⟨_, Rep.bl, fun Q k => ⟨a, b, [a1, a2, a3], [b1, b2, b3], rfl, rfl, Same.seqT S.sub sa, Same.seqT S.sub sb, k⟩⟩
theorem ev_rev {ds : List D} (ha : EvX K cl p ta σ G M (.lst ds) M1) : EvX K cl false (tRevL K ta) σ G M (.lst ds.reverse) M1 := fun G1 H1 s S Q k =>
  ha G1 H1 s S _ fun x G2 H2 g2 rx => by
    obtain ⟨a, vs, rfl, sa, ra⟩ := rx.of_lst
    refine ⟨a, vs, rfl, g2.sep.sub.seq sa, fun l hl => ?_⟩
    have n := g2.sep.freshG hl
    have rr : Reps K cl G2 vs.reverse ds.reverse := by
      have gen : ∀ {ds : List D} {vs : List V}, Reps K cl G2 vs ds → Reps K cl G2 vs.reverse ds.reverse := by
        intro ds
        induction ds with
        | nil =>
          intro vs h
          simp only [Reps] at h
          rw [h]
          exact Reps.nil
        | cons d ds ih =>
          intro vs h
          obtain ⟨v, ws, rfl, r1, r2⟩ := Reps.uncons h
          rw [List.reverse_cons, List.reverse_cons]
          exact (ih r2).append (Reps.one r1)
      exact gen ra
    exact k _ _ _ (Go.of (g2.same.trans (Same.upd n)) (g2.sep.newG hl)) (Rep.lst (.inl (.inl upd_same)) (rr.mono (Same.upd n)))
/-- list(xs): the same things again -/
theorem eg_listS {i : Nat} {a : Addr} {vs : List V} (hi : σ[i]? = some (some (.ref a))) (ha : SqL K G a vs) : EvG (tCB (rListA K) (tCons (tVar i) tNil)) σ G M fun v G' M' => M' = M ∧ ∃ b, v = .ref b ∧ SqL K G' b vs := fun G1 H1 s S Q k => by
  refine ⟨_, hi, a, vs, rfl, .inl ((s.trans S.sub).seq ha), fun l hl => ?_⟩
  have nl := S.freshG hl
  exact k _ _ _ M (Same.upd nl) (S.newG hl) ⟨rfl, l, rfl, .inl (.inl upd_same)⟩
end
section
variable [Wo] {K : PySem.W.Frag} {cl : Nat → Addr} {p q : Bool} {M M1 : ML} {G : Hp} {σ : L2.St} {te tl : TE} {ds : List D}
/-- [e for x in xs], e laid on the way, xs data -/
theorem eg_lcLI {j : Nat} {vs : List Nat} {F : V → Hp → ML → Prop} (I : Nat → List V → Hp → ML → Prop) (h : EvX K cl p tl σ G M (.lst ds) M1) (hn : ds.length ≤ 1000000) (h0 : ∀ G', Same G G' → I 0 [] G' M1)
    (hs : ∀ G1 Da (i : Nat) x d acc M', Same G G1 → ds[i]? = some d → Rep K cl G1 x d → I i acc G1 M' → wipe ((wipe σ vs).set j (some x)) vs = wipe σ vs ∧ EvG te ((wipe σ vs).set j (some x)) G1 ((Da, .lst acc) :: M') fun v G3 M3 => ∃ M4, M3.Perm ((Da, .lst acc) :: M4) ∧ I (i + 1) (acc ++ [v]) G3 M4)
    (hF : ∀ Da acc G' M', Same G G' → I ds.length acc G' M' → F (.ref Da) G' ((Da, .lst acc) :: M')) : EvG (tLc (iSeq K tl) (gName j) tYes te vs) σ G M F := fun G1 H1 s S Q k =>
  .inl (h G1 H1 s S _ fun x G2 H2 g2 rx => by
    obtain ⟨a, us, rfl, sa, ra⟩ := rx.of_lst
    have sG := s.trans g2.same
    refine ⟨a, rfl, ⟨us, g2.sep.sub.seq sa⟩, ?_⟩
    refine eg_lcIY (G := G2) (G2 := G2) (yields_lst (xs := us)) I (fun i acc Da G' H' M' s' _ S' => S'.sub.seq (s'.seq sa)) (h0 G2 sG) (by rw [ra.length]; omega) (Same.refl _) g2.sep (fun G3 Da i x acc M' s3 hx hI => ?_) fun Da acc G' H' M' s' S' hI => k (.ref Da) G' H' _ (g2.same.trans s') S' (hF Da acc G' M' (sG.trans s') (by rw [ra.length] at hI; exact hI))
    obtain ⟨d, hd, rd⟩ := (ra.mono s3).get hx
    exact hs G3 Da i x d acc M' (sG.trans s3) hd rd hI)
end
end Cp
namespace L77
open PySem L2 Cp
/-! the words of the walk (local, by strings) -/
local macro_rules | `(tactic| walk_at "at") => `(tactic| first | exact At.hd | ((with_reducible apply At.tl); walk_at "at"))
local macro_rules | `(tactic| walk_at "ch") => `(tactic| first | exact Ch.hd | ((with_reducible apply Ch.tl); walk_at "ch"))
local macro_rules | `(tactic| walk_at "same") => `(tactic| first | assumption | exact Same.refl _ | ((with_reducible apply same_tr); assumption; walk_at "same"))
local macro_rules | `(tactic| walk_at "repc") => `(tactic| first | assumption | ((with_reducible apply Rep.mono); assumption; walk_at "repc"))
local macro_rules | `(tactic| walk_at "repsc") => `(tactic| first | assumption | ((with_reducible apply Reps.mono); assumption; walk_at "repsc"))
local macro_rules | `(tactic| walk_at "rep") => `(tactic| first | exact Rep.int | exact Rep.str | exact Rep.bl | exact Rep.non | walk_at "repc" | exact Rep.loc)
local macro_rules | `(tactic| walk_at "num") => `(tactic| first | omega | assumption | decide)
local macro_rules | `(tactic| walk_at "mul") => `(tactic| first | exact .inr ⟨by omega, by omega⟩ | exact .inl ⟨by omega, by omega⟩)
local macro_rules | `(tactic| walk_at "slen") => `(tactic| first | omega | assumption | decide)
local macro_rules | `(tactic| walk_at "op2") => `(tactic| first
  | with_reducible exact o_add_int | with_reducible exact o_sub | with_reducible exact o_lt | with_reducible exact o_le | with_reducible exact o_gt | with_reducible exact o_ge | with_reducible exact o_isN | with_reducible exact o_notN
  | ((with_reducible apply o_mul); walk_at "mul") | ((with_reducible apply o_div); exact ⟨by walk_at "num", by walk_at "num"⟩) | ((with_reducible apply o_mod); walk_at "num")
  | ((with_reducible apply o_eq); exact rfl) | ((with_reducible apply o_ne); exact rfl)
  | ((with_reducible apply o_add_str); walk_at "slen") | ((with_reducible apply o_ixT); walk_at "ix") | ((with_reducible apply o_ixL); walk_at "ix"))
local macro_rules | `(tactic| walk_at "opN") => `(tactic| first
  | with_reducible exact on_int | with_reducible exact on_intB | ((with_reducible apply on_str); first | (exact num_log (by omega) (by omega)) | walk_at "num") | with_reducible exact on_min | with_reducible exact on_max | ((with_reducible apply on_lenS); walk_at "num") | with_reducible exact on_lenL | with_reducible exact on_lenT
  | ((with_reducible apply on_lenM); walk_at "at") | with_reducible exact on_tupL | with_reducible exact on_tupT)
local macro_rules | `(tactic| walk_at "cf") => `(tactic| assumption)
local macro_rules | `(tactic| walk_at "evcall") => `(tactic| fail)
local macro_rules | `(tactic| walk_at "ev") => `(tactic| first
  | with_reducible exact ev_int | with_reducible exact ev_str | with_reducible exact ev_bl | with_reducible exact ev_non
  | ((with_reducible apply ev_var); exact rfl; walk_at "rep")
  | ((with_reducible apply ev_op); walk_at "ev"; walk_at "ev"; walk_at "op2")
  | ((with_reducible apply ev_fld); walk_at "ev"; walk_at "cf"; walk_at "cf"; exact rfl)
  | ((with_reducible apply ev_fldM); walk_at "ev"; walk_at "at"; walk_at "cf"; walk_at "cf"; exact rfl; walk_at "rep")
  | ((with_reducible apply ev_ixM); walk_at "ev"; walk_at "ev"; walk_at "at"; exact rfl; walk_at "rep")
  | ((with_reducible apply ev_ixMD); walk_at "ev"; walk_at "ev"; walk_at "at"; walk_at "repsc"; first | assumption | exact rfl)
  | walk_at "evcall"
  | ((with_reducible apply ev_tupM); walk_at "ev"; walk_at "at"; walk_at "repsc")
  | ((with_reducible apply ev_cb); walk_at "ea"; walk_at "opN")
  | ((with_reducible apply ev_un); walk_at "ev"; exact o1_neg)
  | ((with_reducible apply ev_tup); walk_at "ea"; exact Nat.le_of_ble_eq_true rfl)
  | ((with_reducible apply ev_andV); walk_at "ev"; intro _; walk_at "ev")
  | ((with_reducible apply ev_orV); walk_at "ev"; intro _; walk_at "ev")
  | ((with_reducible apply ev_notV); walk_at "ev")
  | ((with_reducible apply ev_starts); walk_at "ev"; walk_at "ev")
  | ((with_reducible apply ev_slS); walk_at "ev"; walk_at "eo"; walk_at "eo"; walk_at "num")
  | ((with_reducible apply ev_slL); walk_at "ev"; walk_at "eo"; walk_at "eo"))
local macro_rules | `(tactic| walk_at "eo") => `(tactic| first | with_reducible exact eo_none | ((with_reducible apply eo_some); walk_at "ev"))
local macro_rules | `(tactic| walk_at "ea") => `(tactic| first | with_reducible exact ea_nil | ((with_reducible apply ea_cons); walk_at "ev"; walk_at "ea"))
local macro_rules | `(tactic| walk_at "et") => `(tactic| first
  | with_reducible exact et_yes
  | ((with_reducible apply et_tr); walk_at "ev"; exact rfl) | ((with_reducible apply et_trM); walk_at "ev"; walk_at "at")
  | ((with_reducible apply et_test); walk_at "ev") | ((with_reducible apply et_B); walk_at "ev") | ((with_reducible apply et_not); walk_at "et")
  | ((with_reducible apply et_and); walk_at "et"; intro _; walk_at "et")
  | ((with_reducible apply et_or); walk_at "et"; intro _; walk_at "et"))
section
variable [Wo]
/-! ### the cells of the script, a state of one number, its digits -/
abbrev sp_law_cell (K : PySem.W.Frag) (cl : Nat → Addr) : Sp := PSp K cl fun ds d => ∃ (ns : List Int) (k : Int), ds = [.lst (ns.map D.int), .int k] ∧ 0 ≤ k ∧ d = .int (ns.getD k.toNat 0)
abbrev sp_law_state (K : PySem.W.Frag) (cl : Nat → Addr) : Sp := GSp fun vs G M T => ∃ c k, vs = [.int c, .int k] ∧ ∀ p s G', Same G G' → T (.ref p) G' ((p, .lst [.int s]) :: M)
abbrev sp_law_digit (K : PySem.W.Frag) (cl : Nat → Addr) : Sp := GSp fun vs G M T => ∃ a s m M0, vs = [.ref a, .int m] ∧ M = (a, .lst [.int s]) :: M0 ∧ 0 < m ∧ m < 1000000 ∧ ∀ G', Same G G' → T (.int (s % m)) G' ((a, .lst [.int (s / m)]) :: M0)
abbrev sp_law_large (K : PySem.W.Frag) (cl : Nat → Addr) : Sp := GSp fun vs G M T => ∃ v ns, vs = [v] ∧ Rep K cl G v (.lst (List.map D.int ns)) ∧ ∀ b G', Same G G' → T (.bl b) G' M
section
variable {K : PySem.W.Frag} {cl : Nat → Addr} {p q : Bool} {M M1 M2 : ML} {G : Hp} {σ : St} {tx : TA} {te : TE}
theorem ev_digit {E : XK} {a : Addr} {s m : Int} (ha : EvA K cl p tx σ G M [.loc a, .int m] M1) (hc : Ch M1 a (.lst [.int s]) (.lst [.int (s / m)]) M2) (h0 : 0 < m) (h1 : m < 1000000) : EvX K cl false (tCall (sp_law_digit K cl) [] E tx) σ G M (.int (s % m)) M2 := fun G1 H1 s1 S Q k =>
  ha G1 H1 s1 S _ fun xs G2 H2 g2 rx => by
    obtain ⟨u, v, rfl, hu, hv⟩ := reps2 rx
    obtain ⟨M0, p1, p2⟩ := hc.perm
    refine ⟨G2, (a, .lst [.int s]) :: M0, g2.sep.perm p1, a, s, m, M0, by rw [hu.of_loc, hv.of_int]; rfl, rfl, h0, h1, fun G' s' _ H' S' => ?_⟩
    exact k _ G' H' (Go.of (g2.same.trans s') (S'.perm p2.symm)) Rep.int
theorem eg_state {E : XK} {c k : Int} (ha : EvA K cl p tx σ G M [.int c, .int k] M1) : EvG (tCall (sp_law_state K cl) [] E tx) σ G M fun v G' M' => ∃ p s, v = .ref p ∧ M' = (p, .lst [.int s]) :: M1 := fun G1 H1 s1 S Q kk =>
  ha G1 H1 s1 S _ fun xs G2 H2 g2 rx => by
    obtain ⟨u, v, rfl, hu, hv⟩ := reps2 rx
    exact ⟨G2, M1, g2.sep, c, k, by rw [hu.of_int, hv.of_int]; rfl, fun p s G' s' _ H' S' => kk (.ref p) G' H' _ (g2.same.trans s') S' ⟨p, s, rfl, rfl⟩⟩
theorem eg_large {E : XK} {ns : List Int} (ha : EvA K cl p tx σ G M [.lst (ns.map D.int)] M1) : EvG (tCall (sp_law_large K cl) [] E tx) σ G M fun v G' M' => ∃ b, v = .bl b ∧ M' = M1 := fun G1 H1 s1 S Q kk =>
  ha G1 H1 s1 S _ fun xs G2 H2 g2 rx => by
    obtain ⟨u, rfl, hu⟩ := reps1 rx
    exact ⟨G2, M1, g2.sep, u, ns, rfl, hu, fun b G' s' _ H' S' => kk (.bl b) G' H' _ (g2.same.trans s') S' ⟨b, rfl, rfl⟩⟩
end
local macro_rules | `(tactic| walk_at "evcall") => `(tactic| ((with_reducible apply ev_digit); walk_at "ea"; walk_at "ch"; walk_at "num"; walk_at "num"))
local macro_rules | `(tactic| walk_at "R cell") => `(tactic| exact ⟨_, _, rfl, by walk_at "num", rfl⟩)
local macro_rules | `(tactic| walk_at "evcall") => `(tactic| ((with_reducible apply ev_call (R := fun ds d => ∃ (ns : List Int) (k : Int), ds = [.lst (ns.map D.int), .int k] ∧ 0 ≤ k ∧ d = .int (ns.getD k.toNat 0))); walk_at "ea"; walk_at "R cell"))
/-! ### records -/
def optS : Option Str → D
  | none => .non
  | some x => .str x
theorem optS_isNon {o : Option Str} : (optS o).isNon = o.isNone := by cases o <;> rfl
abbrev Ref := Int × Int × Int
@[reducible] def refD (r : Ref) : D := .tup [.int r.1, .int r.2.1, .int r.2.2]
def optRef : Option Ref → D
  | none => .non
  | some r => refD r
theorem optRef_isNon {o : Option Ref} : (optRef o).isNon = o.isNone := by cases o <;> rfl
def optI : Option Int → D
  | none => .non
  | some i => .int i
theorem optI_isNon {o : Option Int} : (optI o).isNon = o.isNone := by cases o <;> rfl
structure Rec where
  id : Ref
  role : Str
  caller : Str
  called : Str
  payer : Option Str
  came : Option Ref
  went : Option Ref
  parent : Option Ref
  opened : Int
  conf : Int
  closed : Option Int
  cause : Option Str
abbrev rns : List Str := ["call_id", "role", "caller", "called", "payer", "came", "went", "parent", "opened_at", "confirmed", "closed_at", "cause"]
@[reducible] def Rec.vals (r : Rec) : List D := [refD r.id, .str r.role, .str r.caller, .str r.called, optS r.payer, optRef r.came, optRef r.went, optRef r.parent, .int r.opened, .int r.conf, optI r.closed, optS r.cause]
@[reducible] def Rec.d (r : Rec) : D := .ins 1 rns r.vals
def Rec.has (r : Rec) (k : Ref) : Bool := r.closed.isNone && (decide (r.id = k) || decide (r.parent = some k))
def Rec.close (r : Rec) (c : Str) (t : Int) : Rec := { r with closed := some t, cause := some c }
theorem ref_eqb {o o' : Ref} : D.eqb (refD o) (refD o') = decide (o = o') := by
  obtain ⟨a, b, c⟩ := o
  obtain ⟨a', b', c'⟩ := o'
  simp only [refD, D.eqb, D.eqbs, Bool.and_true]
  by_cases h : (a, b, c) = (a', b', c')
  · cases h
    simp
  · rw [decide_eq_false h]
    simp only [Prod.mk.injEq] at h
    simp only [Bool.and_eq_false_iff, beq_eq_false_iff_ne, ne_eq]
    by_cases h1 : a = a'
    · by_cases h2 : b = b'
      · exact .inr (.inr fun h3 => h ⟨h1, h2, h3⟩)
      · exact .inr (.inl h2)
    · exact .inl h1
/-- what is written in a log -/
inductive Ent where
  | opn (r : Rec)
  | boot (n t : Int)
  | mark (k : Ref) (n : Int)
  | close (k : Ref) (c : Str) (t : Int)
@[reducible] def Ent.d : Ent → D
  | .opn r => .tup [.str "open", refD r.id, .str r.role, .str r.caller, .str r.called, optS r.payer, optRef r.came, optRef r.went, optRef r.parent, .int r.opened]
  | .boot n t => .tup [.str "boot", .int n, .int t]
  | .mark k n => .tup [.str "mark", refD k, .int n]
  | .close k c t => .tup [.str "close", refD k, .str c, .int t]
def Rec.new (r : Rec) : Rec := { r with conf := 0, closed := none, cause := none }
def foldE (rs : List Rec) : Ent → List Rec
  | .opn r => rs ++ [r.new]
  | .boot _ t => rs.map fun r => if r.closed.isNone then r.close "crashed" t else r
  | .mark k n => rs.map fun r => if r.has k then { r with conf := n } else r
  | .close k c t => rs.map fun r => if r.has k then r.close c t else r
def recsF (es : List Ent) : List Rec := es.foldl foldE []
/-- a record that stands as a cell -/
abbrev RCell := Addr × Addr × List V
@[reducible] def rcell (cl : Nat → Addr) (c : RCell) : Addr × HO := (c.1, .ins (cl 1) c.2.1 (rns.zip c.2.2))
abbrev sp_Record_init (K : PySem.W.Frag) (cl : Nat → Addr) : Sp := ISp K cl 1 rns fun ds es => ds.length = 9 ∧ es = ds ++ [.int 0, .non, .non]
abbrev sp_Record_is_open (K : PySem.W.Frag) (cl : Nat → Addr) : Sp := GSp fun vs G M T => ∃ (x dx : Addr) (ws : List V) (r : Rec), vs = [.ref x] ∧ ((∃ M0, M = (x, .ins (cl 1) dx (rns.zip ws)) :: M0) ∨ G x = some (.ins (cl 1) dx (rns.zip ws))) ∧ Reps K cl G ws (Rec.vals r) ∧ ∀ G', Same G G' → T (.bl r.closed.isNone) G' M
abbrev sp_belongs (K : PySem.W.Frag) (cl : Nat → Addr) : Sp := GSp fun vs G M T => ∃ (c : RCell) (r : Rec) (M0 : ML) (vk : V) (k : Ref), vs = [.ref c.1, vk] ∧ M = rcell cl c :: M0 ∧ Reps K cl G c.2.2 (Rec.vals r) ∧ Rep K cl G vk (refD k) ∧ ∀ G', Same G G' → T (.bl (r.has k)) G' M
abbrev sp_close_record (K : PySem.W.Frag) (cl : Nat → Addr) : Sp := GSp fun vs G M T => ∃ (c : RCell) (r : Rec) (M0 : ML) (s : Str) (t : Int), vs = [.ref c.1, .str s, .int t] ∧ M = rcell cl c :: M0 ∧ Reps K cl G c.2.2 (Rec.vals r) ∧ ∀ G' ws, Same G G' → Reps K cl G' ws (Rec.vals (r.close s t)) → T .non G' (rcell cl (c.1, c.2.1, ws) :: M0)
abbrev sp_record_from (K : PySem.W.Frag) (cl : Nat → Addr) : Sp := GSp fun vs G M T => ∃ (ve : V) (r : Rec), vs = [ve] ∧ Rep K cl G ve (Ent.d (.opn r)) ∧ ∀ G' (c : RCell), Same G G' → Reps K cl G' c.2.2 (Rec.vals r.new) → T (.ref c.1) G' (rcell cl c :: M)
abbrev sp_fold_entry (K : PySem.W.Frag) (cl : Nat → Addr) : Sp := GSp fun vs G M T => ∃ (u : Addr) (cs : List RCell) (rs : List Rec) (M0 : ML) (ve : V) (e : Ent), vs = [.ref u, ve] ∧ M = (u, .lst (cs.map fun c => V.ref c.1)) :: (cs.map (rcell cl) ++ M0) ∧ Paired (fun (c : RCell) r => Reps K cl G c.2.2 (Rec.vals r)) cs rs ∧ cs.length ≤ 1000000 ∧ Rep K cl G ve (Ent.d e) ∧
  ∀ G' cs', Same G G' → Paired (fun (c : RCell) r => Reps K cl G' c.2.2 (Rec.vals r)) cs' (foldE rs e) → T .non G' ((u, .lst (cs'.map fun c => V.ref c.1)) :: (cs'.map (rcell cl) ++ M0))
abbrev sp_records_of (K : PySem.W.Frag) (cl : Nat → Addr) : Sp := GSp fun vs G M T => ∃ v es, vs = [v] ∧ Rep K cl G v (.lst (List.map Ent.d es)) ∧ es.length ≤ 100000 ∧ ∀ G' w, Same G G' → Rep K cl G' w (.lst (List.map Rec.d (recsF es))) → T w G' M
theorem paired_at {α β : Type} {P : α → β → Prop} : ∀ {l : List α} {m : List β}, Paired P l m → ∀ {i : Nat} {a : α}, l[i]? = some a → ∃ b, m[i]? = some b ∧ P a b
  | _, _, .nil, i, a, h => by simp at h
  | _, _, .cons h t, 0, a, e => by
    obtain rfl := (by simpa using e : _ = a)
    exact ⟨_, rfl, h⟩
  | _, _, .cons h t, i + 1, a, e => by
    obtain ⟨b, hb, p⟩ := paired_at t (i := i) (a := a) (by simpa using e)
    exact ⟨b, by simpa using hb, p⟩
theorem paired_set {α β : Type} {P : α → β → Prop} : ∀ {l : List α} {m : List β}, Paired P l m → ∀ (i : Nat) {a : α} {b : β}, P a b → Paired P (l.set i a) (m.set i b)
  | _, _, .nil, i, a, b, h => .nil
  | _, _, .cons h t, 0, a, b, p => .cons p t
  | _, _, .cons h t, i + 1, a, b, p => .cons h (paired_set t i p)
theorem paired_imp {α β : Type} {P P' : α → β → Prop} (h : ∀ a b, P a b → P' a b) : ∀ {l : List α} {m : List β}, Paired P l m → Paired P' l m
  | _, _, .nil => .nil
  | _, _, .cons p t => .cons (h _ _ p) (paired_imp h t)
theorem paired_len {α β : Type} {P : α → β → Prop} : ∀ {l : List α} {m : List β}, Paired P l m → l.length = m.length
  | _, _, .nil => rfl
  | _, _, .cons _ t => by rw [List.length_cons, List.length_cons, paired_len t]
theorem cells_perm {cl : Nat → Addr} {cs : List RCell} {i : Nat} (h : i < cs.length) (c : RCell) (e : Addr × HO) (M0 : ML) : (e :: ((cs.set i c).map (rcell cl) ++ M0)).Perm (rcell cl c :: (e :: ((cs.take i ++ cs.drop (i + 1)).map (rcell cl) ++ M0))) := by
  rw [List.set_eq_take_append_cons_drop, if_pos h, List.map_append, List.map_append, List.map_cons, List.append_assoc, List.append_assoc, List.cons_append]
  exact (List.Perm.cons e List.perm_middle).trans (List.Perm.swap _ _ _)
theorem step_set {f : Rec → Rec} {rs : List Rec} {i : Nat} {r : Rec} (h : rs[i]? = some r) : ((rs.take i).map f ++ rs.drop i).set i (f r) = (rs.take (i + 1)).map f ++ rs.drop (i + 1) := by
  obtain ⟨hi, e⟩ := List.getElem?_eq_some_iff.mp h
  have hl : ((rs.take i).map f).length = i := by rw [List.length_map, List.length_take]; omega
  rw [List.set_append_right _ _ (by omega), hl, Nat.sub_self, List.drop_eq_getElem_cons hi, List.set_cons_zero, List.take_add_one, h, List.map_append]
  simp
theorem step_get {f : Rec → Rec} {rs : List Rec} {i : Nat} (h : i < rs.length) : ((rs.take i).map f ++ rs.drop i)[i]? = rs[i]? := by
  have hl : ((rs.take i).map f).length = i := by rw [List.length_map, List.length_take]; omega
  rw [List.getElem?_append_right (by omega), hl, Nat.sub_self, List.getElem?_drop, Nat.add_zero]
theorem set_self' {α : Type} : ∀ {l : List α} {i : Nat} {a : α}, l[i]? = some a → l.set i a = l
  | [], _, _, h => by simp at h
  | b :: l, 0, a, h => by
    obtain rfl := (by simpa using h : b = a)
    rfl
  | b :: l, i + 1, a, h => by
    show b :: l.set i a = b :: l
    rw [set_self' (l := l) (i := i) (by simpa using h)]
abbrev CellsR (K : PySem.W.Frag) (cl : Nat → Addr) (G : Hp) (cs : List RCell) (rs : List Rec) : Prop := Paired (fun (c : RCell) r => Reps K cl G c.2.2 (Rec.vals r)) cs rs
theorem CellsR.mono {K : PySem.W.Frag} {cl : Nat → Addr} {G G' : Hp} {cs : List RCell} {rs : List Rec} (s : Same G G') (h : CellsR K cl G cs rs) : CellsR K cl G' cs rs := paired_imp (fun _ _ r => r.mono s) h
/-- for record in records: .. each record becomes f of it -/
theorem s_cells {K : PySem.W.Frag} {cl : Nat → Addr} {f : Rec → Rec} {tb : TS} {u : Addr} {ve vk : V} {y : Option V} {cs : List RCell} {rs : List Rec} {M0 : ML} {G H : Hp} {nx : St → Hp → Prop} {rt : VK} {bk ct : St → Hp → Prop}
    (S : Sep G H ((u, .lst (cs.map fun c => V.ref c.1)) :: (cs.map (rcell cl) ++ M0))) (P : CellsR K cl G cs rs)
    (hs : ∀ (c : RCell) (r : Rec) (G' H' : Hp) (R : ML) (nx' bk' ct' : St → Hp → Prop), Same G G' → Sep G' H' (rcell cl c :: R) → Reps K cl G' c.2.2 (Rec.vals r) → (∀ G'' H'' ws, Same G' G'' → Sep G'' H'' (rcell cl (c.1, c.2.1, ws) :: R) → Reps K cl G'' ws (Rec.vals (f r)) → nx' [some (.ref u), some ve, some vk, some (.ref c.1)] H'') → tb ⟨nx', rt, bk', ct'⟩ [some (.ref u), some ve, some vk, some (.ref c.1)] H')
    (hd : ∀ y' G' H' cs', Same G G' → Sep G' H' ((u, .lst (cs'.map fun c => V.ref c.1)) :: (cs'.map (rcell cl) ++ M0)) → CellsR K cl G' cs' (rs.map f) → nx [some (.ref u), some ve, some vk, y'] H') : tFor (iSeq K (tVar 0)) (gName 3) tb ⟨nx, rt, bk, ct⟩ [some (.ref u), some ve, some vk, y] H := by
  have hlen := paired_len P
  apply s_forM (K := K) (cl := cl) (vs := cs.map fun c => V.ref c.1) (ds := cs.map fun c => D.loc c.1) (fun i σ G' M' => ∃ y' cs', σ = [some (.ref u), some ve, some vk, y'] ∧ M' = (u, .lst (cs.map fun c => V.ref c.1)) :: (cs'.map (rcell cl) ++ M0) ∧ cs'.map (·.1) = cs.map (·.1) ∧ CellsR K cl G' cs' ((rs.take i).map f ++ rs.drop i)) S
  · exact ev_var (i := 0) rfl Rep.loc
  · exact .hd
  · exact Reps.map (f := fun c : RCell => V.ref c.1) (g := fun c : RCell => D.loc c.1) fun _ _ => Rep.loc
  · intro G1 H1 g1
    exact ⟨y, cs, rfl, rfl, rfl, P.mono g1.same⟩
  · rintro i σ G' M' ⟨y', cs', rfl, rfl, _, _⟩
    exact .hd
  · rintro G1 s1 i x d σ' G2 H2 M2 hdi s2 S2 rx ⟨y', cs', rfl, rfl, hcs, P2⟩
    rw [List.getElem?_map] at hdi
    cases hx : cs[i]? with
    | none => rw [hx] at hdi; cases hdi
    | some c0 =>
    rw [hx] at hdi
    cases hdi
    obtain rfl := rx.of_loc
    have hc : (cs'.map (·.1))[i]? = some c0.1 := by rw [hcs, List.getElem?_map, hx]; rfl
    rw [List.getElem?_map] at hc
    obtain ⟨c, hc, ec⟩ := Option.map_eq_some_iff.mp hc
    have hi := (List.getElem?_eq_some_iff.mp hc).1
    have hir : i < rs.length := by rw [← hlen]; exact (List.getElem?_eq_some_iff.mp hx).1
    obtain ⟨r, hr, rc⟩ := paired_at P2 hc
    rw [step_get hir] at hr
    have pm := cells_perm (cl := cl) hi c (u, .lst (cs.map fun c => V.ref c.1)) M0
    rw [set_self' hc] at pm
    refine s_gname ?_
    rw [← ec]
    refine hs c r G2 H2 _ _ _ _ (s1.trans s2) (S2.perm pm) rc fun G3 H3 ws s3 S3 r3 => ?_
    refine ⟨G3, _, s2.trans s3, S3.perm (cells_perm hi (c.1, c.2.1, ws) _ _).symm, _, cs'.set i (c.1, c.2.1, ws), rfl, rfl, ?_, ?_⟩
    · rw [List.map_set, set_self' (by rw [List.getElem?_map, hc]; rfl), hcs]
    · rw [← step_set hr]
      exact paired_set (P2.mono s3) i r3
  · rintro σ' G1 H1 M1 s1 S1 ⟨y', cs', rfl, rfl, hcs, P1⟩
    rw [List.length_map, hlen, List.take_length, List.drop_length, List.append_nil] at P1
    have e : (cs.map fun c : RCell => V.ref c.1) = cs'.map fun c => V.ref c.1 := by
      have := congrArg (List.map V.ref) hcs
      rw [List.map_map, List.map_map] at this
      exact this.symm
    rw [e] at S1
    exact hd y' G1 H1 cs' s1 S1 P1
/-! ### groups -/
theorem s_appR {K : PySem.W.Frag} {cl : Nat → Addr} {G H : Hp} {M : ML} {σ : St} {ta te : TE} {F : FG} {nx : St → Hp → Prop} {rt : VK} {bk ct : St → Hp → Prop} (S : Sep G H M) (ha : EvG ta σ G M F)
    (hk : ∀ x G' H' M1, Same G G' → Sep G' H' M1 → F x G' M1 → ∃ a us d p, x = .ref a ∧ At M1 a (.lst us) ∧ us.length < 10000000 ∧ EvX K cl p te σ G' M1 d M1 ∧ ∀ v G'', Same G' G'' → Rep K cl G'' v d → ∃ M2, Ch M1 a (.lst us) (.lst (us ++ [v])) M2 ∧ ∀ H'', Sep G'' H'' M2 → nx σ H'') : tDrop (tBM K "list" rAppend ta (tCons te tNil)) ⟨nx, rt, bk, ct⟩ σ H :=
  ha G H (Same.refl _) S _ fun x G2 H2 M1 s2 S2 hF => by
    obtain ⟨a, us, d, p, rfl, hm, hl, he, kk⟩ := hk x G2 H2 M1 s2 S2 hF
    refine ⟨.inl ⟨rfl, us, .inl (.inl (S2.look hm))⟩, he G2 H2 (Same.refl _) S2 _ fun v G3 H3 g3 rv => ?_⟩
    obtain ⟨M2, hc, k⟩ := kk v G3 g3.same rv
    exact ⟨a, us, v, rfl, rfl, g3.sep.look hm, Nat.lt_of_lt_of_le hl (by decide), k _ (g3.sep.ch hc)⟩
/-- d.setdefault(k, []) -/
theorem eg_setd [Wo] {K : PySem.W.Frag} {cl : Nat → Addr} {p q : Bool} {G : Hp} {M : ML} {σ : St} {ta tb : TE} {a : Addr} {ep : Nat} {kvs : NKV} {kds : List (NestedKey × D)} {k : NestedKey} {F : FG} (ha : EvX K cl p ta σ G M (.loc a) M) (hb : EvX K cl q tb σ G M (keyD k) M) (i : IsNK k) (hm : At M a (nD a ep kvs)) (hr : NRep K cl G kvs kds) (hl : kds.length ≤ 100000)
    (h1 : ∀ v G' pn d, Same G G' → valG kds k = some d → Rep K cl G' v d → F v G' ((pn, .lst []) :: M))
    (Mf : Nat → Addr → V → ML) (hch : ∀ ep' b v, Ch M a (nD a ep kvs) (nD a ep' (putN kvs k b v)) (Mf ep' b v))
    (h2 : ∀ G' pn ep' b, Same G G' → valG kds k = none → NRep K cl G' (putN kvs k b (.ref pn)) (putG kds k (.loc pn)) → F (.ref pn) G' ((pn, .lst []) :: Mf ep' b (.ref pn))) : EvG (tSetD K cl ta tb (tLst tNil)) σ G M F := fun G1 H1 s S Q kk =>
  ha G1 H1 s S _ fun x G2 H2 g2 rx => ⟨a, rx.of_loc, ⟨ep, kvs, g2.sep.look hm⟩, hb G2 H2 (s.trans g2.same) g2.sep _ fun y G3 H3 g3 ry => by
    obtain rfl := rx.of_loc
    have sA := s.trans (g2.same.trans g3.same)
    refine eg_nil (σ := σ) (G := G3) (M := M) G3 H3 (Same.refl _) g3.sep _ fun z G4 H4 M4 s4 S4 hz => ?_
    obtain ⟨pn, rfl, rfl⟩ := hz
    have sB := sA.trans s4
    obtain ⟨b, rfl, n⟩ := nat_mk (kds := kds) S4 (.tl hm) hr sB (ry.mono s4) i
    have hkl : kvs.length < sizeLine := by
      rw [hr.length]
      exact Nat.lt_of_le_of_lt hl (by decide)
    refine ⟨b, ep, kvs, k, n, hkl, fun w hw => ?_, fun hn ep' => ?_⟩
    · rcases (hr.mono sB).val k with ⟨e, _⟩ | ⟨w', d, e1, e2, rw'⟩
      · rw [e] at hw; cases hw
      · rw [e1] at hw
        cases hw
        exact kk _ G4 _ _ (g2.same.trans (g3.same.trans s4)) S4 (h1 _ G4 pn d sB e2 rw')
    · have hc := hch ep' b (.ref pn)
      have hv : valG kds k = none := by
        rcases (hr.mono sB).val k with ⟨_, e⟩ | ⟨w', d, e1, _, _⟩
        · exact e
        · rw [e1] at hn; cases hn
      exact kk _ G4 _ _ (g2.same.trans (g3.same.trans s4)) (S4.ch (.tl hc)) (h2 G4 pn ep' b sB hv ((hr.mono sB).put (ry.mono s4) i.low Rep.loc))⟩
@[reducible] def refK (r : Ref) : NestedKey := .tup [.num r.1, .num r.2.1, .num r.2.2]
theorem keyD_refK {r : Ref} : keyD (refK r) = refD r := rfl
theorem isNK_refK {r : Ref} : IsNK (refK r) := ⟨⟨_, rfl⟩, by show (1 : Nat) ≤ 8; decide⟩
theorem refK_inj {a b : Ref} (h : refK a = refK b) : a = b := by
  obtain ⟨a1, a2, a3⟩ := a
  obtain ⟨b1, b2, b3⟩ := b
  unfold refK at h
  injection h with h
  injection h with h1 h
  injection h with h2 h
  injection h with h3 h
  injection h1 with h1
  injection h2 with h2
  injection h3 with h3
  subst h1 h2 h3
  rfl
abbrev Grp := List (Ref × List Rec)
def addG (st : Grp) (k : Ref) (r : Rec) : Grp := if (valG st k).isSome then st.map fun e => if e.1 = k then (e.1, e.2 ++ [r]) else e else st ++ [(k, [r])]
def groupF (sel : Rec → Option Ref) (l : List Rec) : Grp := l.foldl (fun st r => match sel r with | some k => addG st k r | none => st) []
theorem map_if_set {κ α : Type} [DecidableEq κ] {g : κ × α → κ × α} : ∀ {l : List (κ × α)} {i : Nat} {e : κ × α}, (l.map (·.1)).Nodup → l[i]? = some e → l.map (fun x => if x.1 = e.1 then g x else x) = l.set i (g e)
  | [], _, _, _, h => by simp at h
  | x :: l, 0, e, nd, h => by
    obtain rfl := (by simpa using h : x = e)
    rw [List.map_cons, List.nodup_cons] at nd
    rw [List.map_cons, if_pos rfl]
    show g x :: _ = g x :: l
    congr 1
    have hm : ∀ y ∈ l, (if y.1 = x.1 then g y else y) = id y := fun y hy => if_neg fun z : y.1 = x.1 => nd.1 (z ▸ List.mem_map.mpr ⟨y, hy, rfl⟩)
    rw [List.map_congr_left hm, List.map_id]
  | x :: l, i + 1, e, nd, h => by
    rw [List.map_cons, List.nodup_cons] at nd
    have h' : l[i]? = some e := by simpa using h
    have hne : ¬ x.1 = e.1 := fun z => nd.1 (z ▸ List.mem_map.mpr ⟨e, List.mem_of_getElem? h', rfl⟩)
    rw [List.map_cons, if_neg hne, map_if_set nd.2 h']
    rfl
theorem valG_at {κ α : Type} [DecidableEq κ] {l : List (κ × α)} {k : κ} {v : α} (h : valG l k = some v) : ∃ i : Nat, l[i]? = some (k, v) := by
  unfold valG at h
  obtain ⟨e, he, q⟩ := Option.map_eq_some_iff.mp h
  have h2 := List.find?_some he
  have h3 : e.1 = k := of_decide_eq_true h2
  obtain ⟨i, hi⟩ := List.mem_iff_getElem?.mp (List.mem_of_find?_eq_some he)
  refine ⟨i, ?_⟩
  rw [hi, ← h3, ← q]
theorem valG_none {κ α : Type} [DecidableEq κ] {l : List (κ × α)} {k : κ} : valG l k = none ↔ k ∉ l.map (·.1) := by
  unfold valG
  rw [Option.map_eq_none_iff, List.find?_eq_none]
  constructor
  · intro h hk
    obtain ⟨e, he, q⟩ := List.mem_map.mp hk
    have := h e he
    rw [q] at this
    simp at this
  · intro h e he
    have : ¬ e.1 = k := fun z => h (z ▸ List.mem_map.mpr ⟨e, he, rfl⟩)
    simp [this]
/-- a group that stands: its key, its records, its list's place, the list's values -/
abbrev GT := Ref × List Rec × Addr × List V
def stT (T : List GT) : Grp := T.map fun t => (t.1, t.2.1)
def kdsT (T : List GT) : List (NestedKey × D) := T.map fun t => (refK t.1, D.loc t.2.2.1)
def cellsT (T : List GT) : ML := T.map fun t => (t.2.2.1, HO.lst t.2.2.2)
theorem stT_keys {T : List GT} : (stT T).map (·.1) = T.map (·.1) := by unfold stT; rw [List.map_map]; rfl
theorem kdsT_keys {T : List GT} : (kdsT T).map (·.1) = T.map fun t => refK t.1 := by unfold kdsT; rw [List.map_map]; rfl
theorem valG_kdsT {T : List GT} {k : Ref} {d : D} (h : valG (kdsT T) (refK k) = some d) : ∃ (i : Nat) (t : GT), T[i]? = some t ∧ t.1 = k ∧ d = .loc t.2.2.1 := by
  obtain ⟨i, hi⟩ := valG_at h
  unfold kdsT at hi
  rw [List.getElem?_map] at hi
  obtain ⟨t, ht, e⟩ := Option.map_eq_some_iff.mp hi
  injection e with e1 e2
  exact ⟨i, t, ht, refK_inj e1, e2.symm⟩
theorem valG_kdsN {T : List GT} {k : Ref} (h : valG (kdsT T) (refK k) = none) : k ∉ T.map (·.1) := fun hk => by
  rw [valG_none, kdsT_keys] at h
  obtain ⟨t, ht, e⟩ := List.mem_map.mp hk
  exact h (List.mem_map.mpr ⟨t, ht, by rw [← e]⟩)
theorem addG_new {T : List GT} {k : Ref} {r : Rec} (h : k ∉ T.map (·.1)) : addG (stT T) k r = stT T ++ [(k, [r])] := by
  unfold addG
  rw [← stT_keys, ← valG_none] at h
  rw [h]
  rfl
theorem addG_old {T : List GT} (nd : (T.map (·.1)).Nodup) {i : Nat} {t : GT} (h : T[i]? = some t) {r : Rec} : addG (stT T) t.1 r = (stT T).set i (t.1, t.2.1 ++ [r]) := by
  unfold addG
  have hi : (stT T)[i]? = some (t.1, t.2.1) := by unfold stT; rw [List.getElem?_map, h]; rfl
  have hs : (valG (stT T) t.1).isSome = true := by
    cases hv : valG (stT T) t.1 with
    | some _ => rfl
    | none =>
      rw [valG_none] at hv
      exact (hv (List.mem_map.mpr ⟨_, List.mem_of_getElem? hi, rfl⟩)).elim
  rw [if_pos hs]
  exact map_if_set (g := fun e => (e.1, e.2 ++ [r])) (by rw [stT_keys]; exact nd) hi
theorem groupF_step {sel : Rec → Option Ref} {l : List Rec} {i : Nat} {r : Rec} (h : l[i]? = some r) : groupF sel (l.take (i + 1)) = match sel r with | some k => addG (groupF sel (l.take i)) k r | none => groupF sel (l.take i) := by
  unfold groupF
  rw [List.take_add_one, h, List.foldl_append]
  rfl
abbrev R_id_of : List D → D → Prop := fun ds d => ∃ r, ds = [Rec.d r] ∧ d = refD r.id
def byId (l : List Rec) : List Rec := l.mergeSort (PySem.W.dataLe false fun r => (refD r.id).pyd)
theorem byId_mem {l : List Rec} {r : Rec} : r ∈ byId l ↔ r ∈ l := (List.mergeSort_perm _ _).mem_iff
theorem byId_len {l : List Rec} : (byId l).length = l.length := List.length_mergeSort _
theorem id_sorts {l : List Rec} : Sorts (l.map fun r => (refD r.id).pyd) := by
  refine ⟨fun d hd d' hd' => ?_, .inl fun d hd => ?_, fun d hd => ?_⟩
  · obtain ⟨a, _, rfl⟩ := List.mem_map.mp hd
    obtain ⟨b, _, rfl⟩ := List.mem_map.mp hd'
    simp [refD, D.pyd, D.pyds, PySem.W.alike, PySem.W.alikeAll]
  · obtain ⟨a, _, rfl⟩ := List.mem_map.mp hd
    exact ⟨(D.int a.id.1).pyd, D.pyds [.int a.id.2.1, .int a.id.2.2], by simp only [refD, D.pyd, D.pyds]⟩
  · obtain ⟨a, _, rfl⟩ := List.mem_map.mp hd
    simp [refD, D.pyd, D.pyds, PyData.depth, PyData.depthAll]
theorem id_dat {l : List Rec} : D.areDat (l.map fun r => refD r.id) = true := D.areDat_mem fun d hd => by
  obtain ⟨r, _, rfl⟩ := List.mem_map.mp hd
  rfl
theorem kdsT_set {T : List GT} {i : Nat} {t t' : GT} (h : T[i]? = some t) (h1 : t'.1 = t.1) (h2 : t'.2.2.1 = t.2.2.1) : kdsT (T.set i t') = kdsT T := by
  unfold kdsT
  rw [List.map_set]
  exact set_self' (by rw [List.getElem?_map, h, Option.map_some, h1, h2])
theorem keysT_set {T : List GT} {i : Nat} {t t' : GT} (h : T[i]? = some t) (h1 : t'.1 = t.1) : (T.set i t').map (·.1) = T.map (·.1) := by
  rw [List.map_set]
  exact set_self' (by rw [List.getElem?_map, h, Option.map_some, h1])
/-- what stands while the groups are made -/
structure GInv (K : PySem.W.Frag) (cl : Nat → Addr) (G : Hp) (sel : Rec → Option Ref) (l : List Rec) (n : Nat) (T : List GT) : Prop where
  r : ∀ t ∈ T, Reps K cl G t.2.2.2 (t.2.1.map Rec.d)
  nd : (T.map (·.1)).Nodup
  st : stT T = groupF sel (l.take n)
  l1 : T.length ≤ n
  l2 : ∀ t ∈ T, t.2.2.2.length ≤ n
theorem GInv.mono {K : PySem.W.Frag} {cl : Nat → Addr} {G G' : Hp} {sel : Rec → Option Ref} {l : List Rec} {n : Nat} {T : List GT} (s : Same G G') (h : GInv K cl G sel l n T) : GInv K cl G' sel l n T := ⟨fun t ht => (h.r t ht).mono s, h.nd, h.st, h.l1, h.l2⟩
theorem GInv.skip {K : PySem.W.Frag} {cl : Nat → Addr} {G : Hp} {sel : Rec → Option Ref} {l : List Rec} {n : Nat} {T : List GT} (h : GInv K cl G sel l n T) {r : Rec} (hr : l[n]? = some r) (hs : sel r = none) : GInv K cl G sel l (n + 1) T := by
  refine ⟨h.r, h.nd, ?_, Nat.le_succ_of_le h.l1, fun t ht => Nat.le_succ_of_le (h.l2 t ht)⟩
  rw [groupF_step hr, hs]
  exact h.st
theorem GInv.old {K : PySem.W.Frag} {cl : Nat → Addr} {G : Hp} {sel : Rec → Option Ref} {l : List Rec} {n : Nat} {T : List GT} (h : GInv K cl G sel l n T) {r : Rec} (hr : l[n]? = some r) {i : Nat} {t : GT} (ht : T[i]? = some t) (hs : sel r = some t.1) {v : V} (rv : Rep K cl G v (Rec.d r)) : GInv K cl G sel l (n + 1) (T.set i (t.1, t.2.1 ++ [r], t.2.2.1, t.2.2.2 ++ [v])) := by
  have hm := List.mem_of_getElem? ht
  refine ⟨fun t' ht' => ?_, ?_, ?_, by rw [List.length_set]; exact Nat.le_succ_of_le h.l1, fun t' ht' => ?_⟩
  · rcases List.mem_or_eq_of_mem_set ht' with hh | rfl
    · exact h.r t' hh
    · rw [List.map_append]
      exact (h.r t hm).append (Reps.one rv)
  · rw [keysT_set (t' := (t.1, t.2.1 ++ [r], t.2.2.1, t.2.2.2 ++ [v])) ht rfl]
    exact h.nd
  · rw [groupF_step hr, hs]
    show _ = addG _ _ _
    rw [← h.st, addG_old h.nd ht]
    unfold stT
    rw [List.map_set]
  · rcases List.mem_or_eq_of_mem_set ht' with hh | rfl
    · exact Nat.le_succ_of_le (h.l2 t' hh)
    · show (t.2.2.2 ++ [v]).length ≤ n + 1
      rw [List.length_append]
      exact Nat.succ_le_succ (h.l2 t hm)
theorem GInv.new {K : PySem.W.Frag} {cl : Nat → Addr} {G : Hp} {sel : Rec → Option Ref} {l : List Rec} {n : Nat} {T : List GT} (h : GInv K cl G sel l n T) {r : Rec} (hr : l[n]? = some r) {k : Ref} (hs : sel r = some k) (hk : k ∉ T.map (·.1)) {v : V} (rv : Rep K cl G v (Rec.d r)) (pn : Addr) : GInv K cl G sel l (n + 1) (T ++ [(k, [r], pn, [v])]) := by
  refine ⟨fun t' ht' => ?_, ?_, ?_, by rw [List.length_append]; exact Nat.succ_le_succ h.l1, fun t' ht' => ?_⟩
  · rcases List.mem_append.mp ht' with hh | hh
    · exact h.r t' hh
    · rw [List.mem_singleton] at hh
      subst hh
      exact Reps.one rv
  · rw [List.map_append]
    refine List.nodup_append.mpr ⟨h.nd, by simp, ?_⟩
    intro a ha b hb e
    have : b = k := by simpa using hb
    subst this
    subst e
    exact hk ha
  · rw [groupF_step hr, hs]
    show _ = addG _ _ _
    rw [← h.st, addG_new hk]
    unfold stT
    rw [List.map_append]
    rfl
  · rcases List.mem_append.mp ht' with hh | hh
    · exact Nat.le_succ_of_le (h.l2 t' hh)
    · rw [List.mem_singleton] at hh
      subst hh
      show (1 : Nat) ≤ n + 1
      omega
theorem s_group {K : PySem.W.Frag} {cl : Nat → Addr} {v : V} {rs : List Rec} {d : Addr} {y : Option V} {G H : Hp} {M : ML} {tt : TT} {fld : Str} {sel : Rec → Option Ref} {nx : St → Hp → Prop} {rt : VK} {bk ct : St → Hp → Prop} (S : Sep G H ((d, nD d 0 []) :: M)) (rv : Rep K cl G v (.lst (rs.map Rec.d))) (hl : rs.length ≤ 100000)
    (ht : ∀ (r : Rec) (G' : Hp) (M' : ML) (x : V), r ∈ rs → Rep K cl G' x (Rec.d r) → EvT K cl true tt [some v, some (.ref d), some x] G' M' (sel r).isSome M')
    (hf : ∀ (r : Rec) (k : Ref) (G' : Hp) (M' : ML) (x : V), r ∈ rs → sel r = some k → Rep K cl G' x (Rec.d r) → EvX K cl true (tFld K (tVar 2) fld) [some v, some (.ref d), some x] G' M' (refD k) M')
    (kk : ∀ ep kvs T y' G' H', Same G G' → Sep G' H' ((d, nD d ep kvs) :: (cellsT T ++ M)) → NRep K cl G' kvs (kdsT T) → GInv K cl G' sel (byId rs) (byId rs).length T → nx [some v, some (.ref d), y'] H') :
    tFor (iSeq K (tSortKey K cl R_id_of (tCons (tVar 0) tNil))) (gName 2) (tIfS tt (tDrop (tBM K "list" rAppend (tSetD K cl (tVar 1) (tFld K (tVar 2) fld) (tLst tNil)) (tCons (tVar 2) tNil))) tNext) ⟨nx, rt, bk, ct⟩ [some v, some (.ref d), y] H := by
  apply s_forL (K := K) (cl := cl) (ds := (byId rs).map Rec.d) (fun i σ G' M' => ∃ ep kvs T y', σ = [some v, some (.ref d), y'] ∧ M' = (d, nD d ep kvs) :: (cellsT T ++ M) ∧ NRep K cl G' kvs (kdsT T) ∧ GInv K cl G' sel (byId rs) i T) S
  · exact ev_keyed (l := rs) (enc := Rec.d) (key := fun r => refD r.id) (ev_var (i := 0) rfl rv) rfl (fun b _ => ⟨b, rfl, rfl⟩) id_dat id_sorts
  · intro G1 H1 g1
    exact ⟨0, [], [], y, rfl, rfl, .nil, fun t ht => (nomatch ht), List.nodup_nil, rfl, Nat.le_refl _, fun t ht => (nomatch ht)⟩
  · rintro G1 s1 i x dd σ' G2 H2 M2 hd s2 S2 r2 ⟨ep, kvs, T, y', rfl, rfl, nr, gi⟩
    rw [List.getElem?_map] at hd
    cases hx : (byId rs)[i]? with
    | none => rw [hx] at hd; cases hd
    | some r =>
    rw [hx] at hd
    cases hd
    have hi := (List.getElem?_eq_some_iff.mp hx).1
    rw [byId_len] at hi
    have hmem := byId_mem.mp (List.mem_of_getElem? hx)
    refine s_gname ?_
    refine s_if (K := K) (cl := cl) (b := (sel r).isSome) S2 (ht r G2 _ x hmem r2) ?_ ?_
    · intro G3 H3 g3 hb
      obtain ⟨k, hk⟩ := Option.isSome_iff_exists.mp hb
      have r3 := r2.mono g3.same
      have nr3 := nr.mono g3.same
      have gi3 := gi.mono g3.same
      have hkl : (kdsT T).length ≤ 100000 := by unfold kdsT; rw [List.length_map]; have := gi.l1; omega
      refine s_appR (K := K) (cl := cl) (F := fun z G' M' => (∃ (j : Nat) (t : GT) (pn : Addr), T[j]? = some t ∧ t.1 = k ∧ z = .ref t.2.2.1 ∧ M' = (pn, .lst []) :: (d, nD d ep kvs) :: (cellsT T ++ M)) ∨ (k ∉ T.map (·.1) ∧ ∃ pn ep' b, z = .ref pn ∧ M' = (pn, .lst []) :: (d, nD d ep' (putN kvs (refK k) b (.ref pn))) :: (cellsT T ++ M) ∧ NRep K cl G' (putN kvs (refK k) b (.ref pn)) (kdsT T ++ [(refK k, .loc pn)]))) g3.sep
        (eg_setd (K := K) (cl := cl) (p := true) (q := true) (a := d) (k := refK k) (ev_var (i := 1) rfl Rep.loc) (hf r k G3 _ x hmem hk r3) isNK_refK .hd nr3 hkl ?_ (fun ep' b w => (d, nD d ep' (putN kvs (refK k) b w)) :: (cellsT T ++ M)) (fun ep' b w => .hd) ?_) ?_
      · intro z G' pn dz s' hv rz
        obtain ⟨j, t, hj, ht1, rfl⟩ := valG_kdsT hv
        exact .inl ⟨j, t, pn, hj, ht1, rz.of_loc, rfl⟩
      · intro G' pn ep' b s' hv nrp
        have hn := valG_kdsN hv
        have ep1 : putG (kdsT T) (refK k) (.loc pn) = kdsT T ++ [(refK k, .loc pn)] := by
          unfold putG
          rw [hv]
          rfl
        rw [ep1] at nrp
        exact .inr ⟨hn, pn, ep', b, rfl, rfl, nrp⟩
      · rintro z G4 H4 M4 s4 S4 (⟨j, t, pn, hj, rfl, rfl, rfl⟩ | ⟨hn, pn, ep', b, rfl, rfl, nrp⟩)
        · refine ⟨t.2.2.1, t.2.2.2, Rec.d r, true, rfl, .tl (.tl (at_at (by unfold cellsT; rw [List.getElem?_map, hj]; rfl))), by have := gi.l2 t (List.mem_of_getElem? hj); omega, ev_var (i := 2) rfl (r3.mono s4), fun w G5 s5 rw5 => ⟨_, .tl (.tl (ch_at (i := j) (by unfold cellsT; rw [List.getElem?_map, hj]; rfl))), fun H5 S5 => ?_⟩⟩
          have S6 := S5.drop
          refine ⟨G5, _, s2.trans (g3.same.trans (s4.trans s5)), S6, ep, kvs, T.set j (t.1, t.2.1 ++ [r], t.2.2.1, t.2.2.2 ++ [w]), _, rfl, ?_, ?_, (gi3.mono (s4.trans s5)).old hx hj hk rw5⟩
          · unfold cellsT
            rw [List.map_set]
          · rw [kdsT_set (t' := (t.1, t.2.1 ++ [r], t.2.2.1, t.2.2.2 ++ [w])) hj rfl rfl]
            exact nr3.mono (s4.trans s5)
        · refine ⟨pn, [], Rec.d r, true, rfl, .hd, by show (0 : Nat) < _; decide, ev_var (i := 2) rfl (r3.mono s4), fun w G5 s5 rw5 => ⟨_, .hd, fun H5 S5 => ?_⟩⟩
          have S6 : Sep G5 H5 ((d, nD d ep' (putN kvs (refK k) b (.ref pn))) :: (cellsT (T ++ [(k, [r], pn, [w])]) ++ M)) := S5.perm (by
            unfold cellsT
            rw [List.map_append, List.append_assoc]
            exact (List.Perm.swap _ _ _).trans (List.Perm.cons _ List.perm_middle.symm))
          refine ⟨G5, _, s2.trans (g3.same.trans (s4.trans s5)), S6, ep', _, T ++ [(k, [r], pn, [w])], _, rfl, rfl, ?_, (gi3.mono (s4.trans s5)).new hx hk hn rw5 pn⟩
          unfold kdsT at nrp ⊢
          rw [List.map_append]
          exact nrp.mono s5
    · intro G3 H3 g3 hb
      have hs : sel r = none := by
        cases h : sel r with
        | none => rfl
        | some k => rw [h] at hb; cases hb
      exact s_next ⟨G3, _, s2.trans g3.same, g3.sep, ep, kvs, T, _, rfl, rfl, nr.mono g3.same, (gi.mono g3.same).skip hx hs⟩
  rintro σ' G1 H1 M1 s1 S1 ⟨ep, kvs, T, y', rfl, rfl, nr, gi⟩
  rw [List.length_map] at gi
  exact kk ep kvs T y' G1 H1 s1 S1 nr gi
/-- the groups' lists are given away -/
theorem sep_groups {K : PySem.W.Frag} {cl : Nat → Addr} {H : Hp} {M : ML} : ∀ {T : List GT} {kvs : NKV} {G : Hp}, Sep G H (cellsT T ++ M) → NRep K cl G kvs (kdsT T) → (∀ t ∈ T, Reps K cl G t.2.2.2 (t.2.1.map Rec.d)) → ∃ G', Same G G' ∧ Sep G' H M ∧ NRep K cl G' kvs ((stT T).map fun e => (refK e.1, D.lst (e.2.map Rec.d)))
  | [], _, G, S, .nil, _ => ⟨G, Same.refl _, S, .nil⟩
  | t :: T, _ :: _, G, S, .cons h tl, hr => by
    obtain ⟨G1, s1, S1, r1⟩ := Sep.lst (K := K) (cl := cl) S (hr t (List.mem_cons_self ..))
    obtain ⟨G2, s2, S2, n2⟩ := sep_groups S1 (NRep.mono s1 tl) fun t' ht' => (hr t' (List.mem_cons_of_mem _ ht')).mono s1
    refine ⟨G2, s1.trans s2, S2, .cons ⟨h.1, h.2.1.mono (s1.trans s2), h.2.2.1, ?_⟩ n2⟩
    rw [h.2.2.2.of_loc]
    exact r1.mono s2
abbrev grpD (st : Grp) : List (NestedKey × D) := st.map fun e => (refK e.1, D.lst (e.2.map Rec.d))
def legSel (r : Rec) : Option Ref := if r.role = "transit" ∨ r.role = "end" then r.came else none
def sideSel (r : Rec) : Option Ref := if r.role = "divert" then r.parent else none
def legsF (rs : List Rec) : Grp := groupF legSel (byId rs)
def sidesF (rs : List Rec) : Grp := groupF sideSel (byId rs)
/-- a leg has a circuit, an aside a parent -/
structure Rec.Ok (r : Rec) : Prop where
  leg : r.role = "transit" ∨ r.role = "end" → r.came.isSome = true
  side : r.role = "divert" → r.parent.isSome = true
abbrev sp_legs_by_circuit (K : PySem.W.Frag) (cl : Nat → Addr) : Sp := GSp fun vs G M T => ∃ (v : V) (rs : List Rec), vs = [v] ∧ Rep K cl G v (.lst (rs.map Rec.d)) ∧ rs.length ≤ 100000 ∧ (∀ r ∈ rs, r.Ok) ∧ ∀ G' d ep kvs, Same G G' → NRep K cl G' kvs (grpD (legsF rs)) → T (.ref d) G' ((d, nD d ep kvs) :: M)
abbrev sp_sides_by_parent (K : PySem.W.Frag) (cl : Nat → Addr) : Sp := GSp fun vs G M T => ∃ (v : V) (rs : List Rec), vs = [v] ∧ Rep K cl G v (.lst (rs.map Rec.d)) ∧ rs.length ≤ 100000 ∧ (∀ r ∈ rs, r.Ok) ∧ ∀ G' d ep kvs, Same G G' → NRep K cl G' kvs (grpD (sidesF rs)) → T (.ref d) G' ((d, nD d ep kvs) :: M)
theorem reps_strs {K : PySem.W.Frag} {cl : Nat → Addr} {G : Hp} : ∀ {vs : List V} {xs : List Str}, Reps K cl G vs (xs.map D.str) → vs = xs.map V.str
  | vs, [], h => by simpa only [List.map_nil, Reps] using h
  | vs, x :: xs, h => by
    obtain ⟨v, ws, rfl, r1, r2⟩ := Reps.uncons h
    rw [r1.of_str, reps_strs r2]
    rfl
theorem o_inS {K : PySem.W.Frag} {cl : Nat → Addr} {M : ML} {w : Str} {xs : List Str} : Op2 K cl true (rIn K false) M (.str w) (.tup (xs.map D.str)) (.bl (decide (w ∈ xs))) := op2_val fun G1 H1 S u v ru rv => by
  obtain ⟨p, vs, rfl, sq, rs⟩ := rv.of_tup
  obtain rfl := reps_strs rs
  obtain rfl := ru.of_str
  refine ⟨_, Rep.bl, fun Q q => ⟨p, xs.map V.str, rfl, .inr (Same.seqT S.sub sq), rfl, ?_, ?_⟩⟩
  · rw [List.all_eq_true]
    intro x hx
    obtain ⟨y, _, rfl⟩ := List.mem_map.mp hx
    rfl
  · have e : inV (.str w) (xs.map V.str) = decide (w ∈ xs) := by
      unfold inV
      rw [List.any_map, Bool.eq_iff_iff, List.any_eq_true, decide_eq_true_iff]
      constructor
      · rintro ⟨y, hy, h⟩
        have : y = w := by simpa [eqV] using h
        exact this ▸ hy
      · intro h
        exact ⟨w, h, by simp [eqV]⟩
    simp only [Bool.false_eq_true, if_false]
    rw [e]
    exact q
def nextF (legs : Grp) (ref : Option Ref) (us : List Ref) : Option Rec :=
  match ref with
  | none => none
  | some k => ((valG legs k).getD []).find? fun r => !decide (r.id ∈ us)
def optRec : Option Rec → D
  | none => .non
  | some r => Rec.d r
abbrev idsD (us : List Ref) : List (NestedKey × D) := us.map fun k => (refK k, D.bl true)
theorem grpD_val {st : Grp} {k : Ref} : valG (grpD st) (refK k) = (valG st k).map fun l => D.lst (l.map Rec.d) := by
  unfold valG grpD
  induction st with
  | nil => rfl
  | cons e st ih =>
    rw [List.map_cons, List.find?_cons, List.find?_cons]
    by_cases h : e.1 = k
    · have h' : refK e.1 = refK k := by rw [h]
      simp [h]
    · have h' : ¬ refK e.1 = refK k := fun z => h (refK_inj z)
      rw [decide_eq_false h, decide_eq_false h']
      exact ih
theorem idsD_val {us : List Ref} {k : Ref} : (valG (idsD us) (refK k)).isSome = decide (k ∈ us) := by
  unfold valG idsD
  induction us with
  | nil => rfl
  | cons e us ih =>
    rw [List.map_cons, List.find?_cons]
    by_cases h : e = k
    · subst h
      simp
    · have h' : ¬ refK e = refK k := fun z => h (refK_inj z)
      rw [decide_eq_false h']
      rw [ih]
      have : ¬ k = e := fun z => h z.symm
      simp [this]
abbrev sp_next_leg (K : PySem.W.Frag) (cl : Nat → Addr) : Sp := GSp fun vs G M T => ∃ (dl du : Addr) (ep ep2 : Nat) (kvs kvs2 : NKV) (legs : Grp) (us : List Ref) (vr : V) (ref : Option Ref) (M0 : ML), vs = [.ref dl, vr, .ref du] ∧ M = (dl, nD dl ep kvs) :: (du, nD du ep2 kvs2) :: M0 ∧ NRep K cl G kvs (grpD legs) ∧ NRep K cl G kvs2 (idsD us) ∧ Rep K cl G vr (optRef ref) ∧
  ∀ G' v, Same G G' → Rep K cl G' v (optRec (nextF legs ref us)) → T v G' M
def allL (legs : Grp) : List Rec := legs.flatMap (·.2)
def freeL (legs : Grp) (us : List Ref) : Nat := ((allL legs).filter fun r => !decide (r.id ∈ us)).length
def walkF (legs : Grp) : Nat → List Rec → List Ref → Option Rec → List Rec
  | 0, path, _, _ => path
  | _ + 1, path, _, none => path
  | n + 1, path, us, some r => walkF legs n (path ++ [r]) (us ++ [r.id]) (nextF legs r.went (us ++ [r.id]))
def pathF (legs : Grp) (h : Rec) : List Rec := walkF legs (freeL legs [h.id]) [h] [h.id] (nextF legs h.went [h.id])
theorem walkF_none {legs : Grp} {n : Nat} {path : List Rec} {us : List Ref} : walkF legs n path us none = path := by cases n <;> rfl
theorem valG_mem2 {κ α : Type} [DecidableEq κ] {st : List (κ × α)} {k : κ} {v : α} (h : valG st k = some v) : (k, v) ∈ st := by
  obtain ⟨i, hi⟩ := valG_at h
  exact List.mem_of_getElem? hi
theorem nextF_some {legs : Grp} {ref : Option Ref} {us : List Ref} {r : Rec} (h : nextF legs ref us = some r) : r ∈ allL legs ∧ r.id ∉ us := by
  unfold nextF at h
  cases ref with
  | none => cases h
  | some k =>
    dsimp only at h
    have h1 := List.mem_of_find?_eq_some h
    have h2 := List.find?_some h
    refine ⟨?_, by simpa using h2⟩
    cases hv : valG legs k with
    | none => rw [hv] at h1; cases h1
    | some l =>
      rw [hv] at h1
      exact List.mem_flatMap.mpr ⟨(k, l), valG_mem2 hv, h1⟩
theorem freeL_lt {legs : Grp} {us : List Ref} {r : Rec} (h1 : r ∈ allL legs) (h2 : r.id ∉ us) : freeL legs (us ++ [r.id]) < freeL legs us := by
  unfold freeL
  generalize allL legs = L at h1 ⊢
  have gen : ∀ (L : List Rec), (L.filter fun x => !decide (x.id ∈ us ++ [r.id])).length ≤ (L.filter fun x => !decide (x.id ∈ us)).length := by
    intro L
    induction L with
    | nil => exact Nat.le_refl _
    | cons x L ih =>
      rw [List.filter_cons, List.filter_cons]
      by_cases hx : x.id ∈ us
      · have hx2 : x.id ∈ us ++ [r.id] := List.mem_append_left _ hx
        simp only [hx, hx2, decide_true, Bool.not_true, Bool.false_eq_true, if_false]
        exact ih
      · by_cases hx2 : x.id ∈ us ++ [r.id]
        · simp only [hx, hx2, decide_true, decide_false, Bool.not_true, Bool.not_false, Bool.false_eq_true, if_false, if_true, List.length_cons]
          omega
        · simp only [hx, hx2, decide_false, Bool.not_false, if_true, List.length_cons]
          omega
  induction L with
  | nil => cases h1
  | cons x L ih =>
    rw [List.filter_cons, List.filter_cons]
    rcases List.mem_cons.mp h1 with rfl | h1
    · have hx2 : r.id ∈ us ++ [r.id] := List.mem_append_right _ (List.mem_singleton.mpr rfl)
      simp only [h2, hx2, decide_true, decide_false, Bool.not_true, Bool.not_false, Bool.false_eq_true, if_false, if_true, List.length_cons]
      have := gen L
      omega
    · have hlt := ih h1
      by_cases hx : x.id ∈ us
      · have hx2 : x.id ∈ us ++ [r.id] := List.mem_append_left _ hx
        simp only [hx, hx2, decide_true, Bool.not_true, Bool.false_eq_true, if_false]
        exact hlt
      · by_cases hx2 : x.id ∈ us ++ [r.id]
        · simp only [hx, hx2, decide_true, decide_false, Bool.not_true, Bool.not_false, Bool.false_eq_true, if_false, if_true, List.length_cons]
          omega
        · simp only [hx, hx2, decide_false, Bool.not_false, if_true, List.length_cons]
          omega
abbrev sp_path_of (K : PySem.W.Frag) (cl : Nat → Addr) : Sp := GSp fun vs G M T => ∃ (dl : Addr) (ep : Nat) (kvs : NKV) (legs : Grp) (vh : V) (h : Rec) (M0 : ML), vs = [vh, .ref dl] ∧ M = (dl, nD dl ep kvs) :: M0 ∧ NRep K cl G kvs (grpD legs) ∧ (allL legs).length ≤ 90000 ∧ Rep K cl G vh (Rec.d h) ∧
  ∀ G' v, Same G G' → Rep K cl G' v (.lst ((pathF legs h).map Rec.d)) → T v G' M
/-- xs.extend(ys) -/
theorem s_extend {K : PySem.W.Frag} {cl : Nat → Addr} {p q : Bool} {G H : Hp} {M M1 M2 : ML} {σ : St} {ta te : TE} {a : Addr} {us vs : List V} {ds : List D} {M' : List V → ML} {nx : St → Hp → Prop} {rt : VK} {bk ct : St → Hp → Prop} (S : Sep G H M) (ha : EvX K cl p ta σ G M (.loc a) M1) (hm0 : At M1 a (.lst us)) (he : EvX K cl q te σ G M1 (.lst ds) M2) (hm : ∀ ws, Ch M2 a (.lst vs) (.lst (vs ++ ws)) (M' ws)) (hl : vs.length + ds.length ≤ 1000000)
    (k : ∀ ws G' H', Same G G' → Sep G' H' (M' ws) → Reps K cl G' ws ds → nx σ H') : tDrop (tBM K "list" (rExtendA K) ta (tCons te tNil)) ⟨nx, rt, bk, ct⟩ σ H :=
  ha G H (Same.refl _) S _ fun x G2 H2 g2 rx => ⟨by
    rw [rx.of_loc]
    exact .inl ⟨rfl, us, .inl (.inl (g2.sep.look hm0))⟩, he G2 H2 g2.same g2.sep _ fun v G3 H3 g3 rv => by
    obtain ⟨b, ws, rfl, sq, rs⟩ := rv.of_lst
    exact ⟨a, b, vs, ws, rx.of_loc, rfl, g3.sep.look (hm ws).at, g3.sep.sub.seq sq, by rw [rs.length]; exact Nat.le_trans hl (by decide), k ws G3 _ (g2.same.trans g3.same) (g3.sep.ch (hm ws)) rs⟩⟩
abbrev jns : List Str := ["head", "legs", "sides"]
structure Call where
  head : Rec
  legs : List Rec
  sides : List Rec
@[reducible] def Call.d (c : Call) : D := .ins 0 jns [Rec.d c.head, .lst (c.legs.map Rec.d), .lst (c.sides.map Rec.d)]
@[reducible] def hplaceD (r : Rec) : D := .tup [.int r.opened, refD r.id]
abbrev R_head_place : List D → D → Prop := fun ds d => ∃ r, ds = [Rec.d r] ∧ d = hplaceD r
def headsF (rs : List Rec) : List Rec := (rs.filter fun r => decide (r.role ∈ [Str.ofString "origin", Str.ofString "both"])).mergeSort (PySem.W.dataLe false fun r => (hplaceD r).pyd)
def besideF (sides : Grp) (path : List Rec) : List Rec := path.flatMap fun r => (valG sides r.id).getD []
def callF (legs sides : Grp) (h : Rec) : Call := ⟨h, pathF legs h, besideF sides (pathF legs h)⟩
def joinF (rs : List Rec) : List Call := (headsF rs).map (callF (legsF rs) (sidesF rs))
theorem hplace_sorts {l : List Rec} : Sorts (l.map fun r => (hplaceD r).pyd) := by
  refine ⟨fun d hd d' hd' => ?_, .inl fun d hd => ?_, fun d hd => ?_⟩
  · obtain ⟨a, _, rfl⟩ := List.mem_map.mp hd
    obtain ⟨b, _, rfl⟩ := List.mem_map.mp hd'
    simp [hplaceD, refD, D.pyd, D.pyds, PySem.W.alike, PySem.W.alikeAll]
  · obtain ⟨a, _, rfl⟩ := List.mem_map.mp hd
    exact ⟨(D.int a.opened).pyd, D.pyds [refD a.id], by simp only [hplaceD, D.pyd, D.pyds]⟩
  · obtain ⟨a, _, rfl⟩ := List.mem_map.mp hd
    simp [hplaceD, refD, D.pyd, D.pyds, PyData.depth, PyData.depthAll]
theorem hplace_dat {l : List Rec} : D.areDat (l.map hplaceD) = true := D.areDat_mem fun d hd => by
  obtain ⟨r, _, rfl⟩ := List.mem_map.mp hd
  rfl
abbrev sp_JoinedCall_init (K : PySem.W.Frag) (cl : Nat → Addr) : Sp := ISp K cl 0 jns fun ds es => ∃ h p s, ds = [h, .lst p, .lst s] ∧ es = ds
abbrev sp_join_calls (K : PySem.W.Frag) (cl : Nat → Addr) : Sp := GSp fun vs G M T => ∃ (v : V) (rs : List Rec), vs = [v] ∧ Rep K cl G v (.lst (rs.map Rec.d)) ∧ rs.length ≤ 80000 ∧ (∀ r ∈ rs, r.Ok) ∧ ∀ G' w, Same G G' → Rep K cl G' w (.lst ((joinF rs).map Call.d)) → T w G' M
/-! ### the logs that the laws k75..k80 build: plain -/
def strI (c : Str) (n : Int) : Str := c ++ Str.ofString (toString n)
structure LW where
  st : Int
  logs : List (List Ent)
  clocks : List Int
  counts : List Int
  lives : List Int
@[reducible] def LW.nx (W : LW) (m : Int) : LW := { W with st := W.st / m }
def LW.now (W : LW) (p : Int) : Int := W.clocks.getD p.toNat 0 + 900 * (W.st % 32)
@[reducible] def LW.tick (W : LW) (p : Int) : LW := { W with st := W.st / 32, clocks := W.clocks.set p.toNat (W.now p) }
@[reducible] def LW.ref (W : LW) (p : Int) : Ref := (p, 1, W.counts.getD p.toNat 0)
@[reducible] def LW.took (W : LW) (p : Int) : LW := { W with counts := W.counts.set p.toNat (W.counts.getD p.toNat 0 + 1) }
@[reducible] def LW.put (W : LW) (p : Int) (e : Ent) : LW := { W with logs := W.logs.set p.toNat (W.logs.getD p.toNat [] ++ [e]) }
@[reducible] def LW.reborn (W : LW) (p : Int) : LW := { W with lives := W.lives.set p.toNat (W.lives.getD p.toNat 0 + 1) }
@[reducible] def opnE (id : Ref) (role caller called : Str) (payer : Option Str) (came went parent : Option Ref) (now : Int) : Ent := .opn ⟨id, role, caller, called, payer, came, went, parent, now, 0, none, none⟩
/-- a line that forwards -/
def LW.side (W : LW) (p : Int) (caller : Str) (came went : Option Ref) (found : Ref) (now : Int) : LW :=
  (((W.nx 6).took p).nx 30).put p (opnE ((W.nx 6).ref p) "divert" caller (strI "6" ((W.nx 6).st % 30)) (some (strI "7" (W.st % 6))) came went (some found) now)
def LW.sides (p : Int) (caller : Str) (came went : Option Ref) (found : Ref) (now : Int) : Nat → LW → LW
  | 0, W => W
  | n + 1, W => (LW.sides p caller came went found now n W).side p caller came went found now
def payerF (role caller : Str) : Option Str := if role = "origin" ∨ role = "both" then some caller else none
/-- behind the clock and the id: the entry itself -/
def LW.leg (W : LW) (p : Int) (role caller : Str) (came went : Option Ref) (found : Ref) (now : Int) : LW :=
  ((W.nx 30).put p (opnE found role caller (strI "5" (W.st % 30)) (payerF role caller) came went none now)).nx 4
def sideN (d : Int) : Nat := if d = 2 then 1 else if d = 3 then 2 else 0
def LW.opened (W : LW) (p : Int) (role caller : Str) (came went : Option Ref) : LW :=
  LW.sides p caller came went ((W.tick p).ref p) (W.now p) (sideN ((((W.tick p).took p).nx 30).st % 4)) (((W.tick p).took p).leg p role caller came went ((W.tick p).ref p) (W.now p))
/-- what is done at the end: the world, whether it was a crash -/
def LW.shut (W : LW) (p : Int) (found : Ref) : LW × Bool :=
  if W.st % 10 = 0 then (W.nx 10, false)
  else if W.st % 10 = 1 then ((((W.nx 10).tick p).reborn p).put p (.boot (W.lives.getD p.toNat 0 + 1) ((W.nx 10).now p)), true)
  else (((W.nx 10).tick p).put p (.close found (if W.st % 10 % 2 = 0 then "hung up" else "lost") ((W.nx 10).now p)), false)
def roleF (k n : Int) : Str := if n = 1 then "both" else if k = 0 then "origin" else if k = n - 1 then "end" else "transit"
def wentF (p j k n : Int) : Option Ref := if k + 1 < n then some (p, 1, 900 + 10 * j + k) else none
/-- the legs of a call: n legs, this is the k-th -/
structure Way where
  W : LW
  place : Int
  came : Option Ref
  opened : List (Int × Ref)
def Way.step (j n : Int) (caller : Str) (k : Nat) (y : Way) : Way :=
  let W1 := y.W.opened y.place (roleF k n) caller y.came (wentF y.place j k n)
  ⟨W1.nx 3, (y.place + 1 + W1.st % 3) % 4, wentF y.place j k n, y.opened ++ [(y.place, (y.W.tick y.place).ref y.place)]⟩
def Way.steps (j n : Int) (caller : Str) : Nat → Way → Way
  | 0, y => y
  | k + 1, y => (Way.steps j n caller k y).step j n caller k
/-- the seconds of the legs -/
def LW.marked (W : LW) (secs : Int) (o : Int × Ref) : LW := (if secs > 0 then W.put o.1 (.mark o.2 secs) else W).nx 3
def LW.marks : List (Int × Ref) → Int → LW → LW
  | [], _, W => W
  | o :: os, secs, W => LW.marks os (secs + 10 * (W.st % 3)) (W.marked secs o)
def LW.shuts : List (Int × Ref) → List Int → LW → LW
  | [], _, W => W
  | o :: os, booted, W => if o.1 ∈ booted then LW.shuts os booted W else LW.shuts os (if (W.shut o.1 o.2).2 then booted ++ [o.1] else booted) (W.shut o.1 o.2).1
def legsN (d j : Int) : Int := if j > 9 then 1 + d + 2 else 1 + d
def LW.way (W : LW) (j : Int) : Way :=
  let W1 := W.nx 4
  let W2 := W1.nx 4
  Way.steps j (legsN (W.st % 4) j) (strI "4" (W2.st % 6)) (legsN (W.st % 4) j).toNat ⟨W2.nx 6, W1.st % 4, none, []⟩
def secsF (d e : Int) : Int := (if d = 0 then 0 else if d = 1 then 1 else if d = 2 then 59 else 61) + 600 * e
def LW.call (W : LW) (j : Int) : LW :=
  let y := W.way j
  LW.shuts y.opened [] (LW.marks y.opened (secsF (y.W.st % 4) ((y.W.nx 4).st % 8)) ((y.W.nx 4).nx 8))
def LW.start : LW := ⟨0, List.replicate 4 [.boot 1 0], [0, 0, 0, 0], [0, 0, 0, 0], [1, 1, 1, 1]⟩
/-- the logs of calls: each begins with a number of its own -/
def LW.run : Nat → (Nat → Int) → LW
  | 0, _ => LW.start
  | j + 1, f => ({ LW.run j f with st := f j } : LW).call j
/-! ### how these logs stand -/
@[reducible] def icell (a : Addr) (ns : List Int) : Addr × HO := (a, .lst (ns.map V.int))
abbrev LC := Addr × List V
@[reducible] def lcell (l : LC) : Addr × HO := (l.1, .lst l.2)
@[reducible] def wcells (s ck cn lv : Addr) (W : LW) (ls : List LC) (M0 : ML) : ML := (s, .lst [.int W.st]) :: icell ck W.clocks :: icell cn W.counts :: icell lv W.lives :: (ls.map lcell ++ M0)
@[reducible] def worldD (las : List Addr) (ck cn lv : Addr) : D := .tup [.lst (las.map D.loc), .loc ck, .loc cn, .loc lv]
abbrev LogsR (K : PySem.W.Frag) (cl : Nat → Addr) (G : Hp) (ls : List LC) (logs : List (List Ent)) : Prop := Paired (fun (l : LC) es => Reps K cl G l.2 (es.map Ent.d)) ls logs
theorem LogsR.mono {K : PySem.W.Frag} {cl : Nat → Addr} {G G' : Hp} {ls : List LC} {logs : List (List Ent)} (s : Same G G') (h : LogsR K cl G ls logs) : LogsR K cl G' ls logs := paired_imp (fun _ _ r => r.mono s) h
/-- the world at w -/
structure WRep (K : PySem.W.Frag) (cl : Nat → Addr) (G : Hp) (w : V) (ck cn lv : Addr) (W : LW) (ls : List LC) (las : List Addr) : Prop where
  w : Rep K cl G w (worldD las ck cn lv)
  lr : LogsR K cl G ls W.logs
  as : ls.map (·.1) = las
  n0 : las.length = 4
  n1 : W.clocks.length = 4
  n2 : W.counts.length = 4
  n3 : W.lives.length = 4
theorem WRep.mono {K : PySem.W.Frag} {cl : Nat → Addr} {G G' : Hp} {w : V} {ck cn lv : Addr} {W : LW} {ls : List LC} {las : List Addr} (s : Same G G') (h : WRep K cl G w ck cn lv W ls las) : WRep K cl G' w ck cn lv W ls las := ⟨h.w.mono s, LogsR.mono s h.lr, h.as, h.n0, h.n1, h.n2, h.n3⟩
abbrev LW.most (W : LW) (n : Nat) : Prop := ∀ es ∈ W.logs, es.length ≤ n
abbrev sp_law_take (K : PySem.W.Frag) (cl : Nat → Addr) : Sp := GSp fun vs G M T => ∃ a ns p M0, vs = [.ref a, .int p] ∧ M = icell a ns :: M0 ∧ 0 ≤ p ∧ p < (ns.length : Int) ∧ ∀ G' v, Same G G' → Rep K cl G' v (refD (p, 1, ns.getD p.toNat 0)) → T v G' (icell a (ns.set p.toNat (ns.getD p.toNat 0 + 1)) :: M0)
abbrev sp_law_time (K : PySem.W.Frag) (cl : Nat → Addr) : Sp := GSp fun vs G M T => ∃ s st c ns p M0, vs = [.ref s, .ref c, .int p] ∧ M = (s, .lst [.int st]) :: icell c ns :: M0 ∧ 0 ≤ p ∧ p < (ns.length : Int) ∧ ∀ G', Same G G' → T (.int (ns.getD p.toNat 0 + 900 * (st % 32))) G' ((s, .lst [.int (st / 32)]) :: icell c (ns.set p.toNat (ns.getD p.toNat 0 + 900 * (st % 32))) :: M0)
abbrev R_law_role : List D → D → Prop := fun ds d => ∃ k n, ds = [.int k, .int n] ∧ d = .str (roleF k n)
abbrev sp_law_role (K : PySem.W.Frag) (cl : Nat → Addr) : Sp := PSp K cl R_law_role
abbrev sp_law_open (K : PySem.W.Frag) (cl : Nat → Addr) : Sp := GSp fun vs G M T => ∃ s ck cn lv W ls las M0 w p role caller vc came vw went, vs = [.ref s, w, .int p, .str role, .str caller, vc, vw] ∧ M = wcells s ck cn lv W ls M0 ∧ WRep K cl G w ck cn lv W ls las ∧ 0 ≤ p ∧ p < 4 ∧ W.most 5000000 ∧ Rep K cl G vc (optRef came) ∧ Rep K cl G vw (optRef went) ∧
  ∀ G' ls' v, Same G G' → WRep K cl G' w ck cn lv (W.opened p role caller came went) ls' las → Rep K cl G' v (refD ((W.tick p).ref p)) → T v G' (wcells s ck cn lv (W.opened p role caller came went) ls' M0)
abbrev sp_law_close (K : PySem.W.Frag) (cl : Nat → Addr) : Sp := GSp fun vs G M T => ∃ s ck cn lv W ls las M0 w p vk k, vs = [.ref s, w, .int p, vk] ∧ M = wcells s ck cn lv W ls M0 ∧ WRep K cl G w ck cn lv W ls las ∧ 0 ≤ p ∧ p < 4 ∧ W.most 5000000 ∧ Rep K cl G vk (refD k) ∧
  ∀ G' ls', Same G G' → WRep K cl G' w ck cn lv (W.shut p k).1 ls' las → T (.bl (W.shut p k).2) G' (wcells s ck cn lv (W.shut p k).1 ls' M0)
abbrev sp_law_call (K : PySem.W.Frag) (cl : Nat → Addr) : Sp := GSp fun vs G M T => ∃ s ck cn lv W ls las M0 w j, vs = [.ref s, w, .int j] ∧ M = wcells s ck cn lv W ls M0 ∧ WRep K cl G w ck cn lv W ls las ∧ 0 ≤ j ∧ j < 1000 ∧ W.most 1000000 ∧
  ∀ G' ls' v, Same G G' → WRep K cl G' w ck cn lv (W.call j) ls' las → T v G' (wcells s ck cn lv (W.call j) ls' M0)
abbrev sp_law_logs (K : PySem.W.Frag) (cl : Nat → Addr) : Sp := GSp fun vs G M T => ∃ v ns i n, vs = [v, .int i, .int n] ∧ Rep K cl G v (.lst (List.map D.int ns)) ∧ 0 ≤ i ∧ i < 1000 ∧ 0 ≤ n ∧ n ≤ 30 ∧ ∀ G' w f, Same G G' → Rep K cl G' w (.lst ((LW.run n.toNat f).logs.map fun es => .lst (es.map Ent.d))) → T w G' M
/-! ### sections -/
abbrev secns : List Str := ["owner", "payer", "called", "opened", "start", "seconds"]
@[reducible] def secD (r : Rec) (start : Int) : D := .ins 0 secns [refD r.id, optS r.payer, .str r.called, .int r.opened, .int start, .int r.conf]
abbrev sp_Section_init (K : PySem.W.Frag) (cl : Nat → Addr) : Sp := ISp K cl 0 secns fun ds es => ds.length = 6 ∧ es = ds
abbrev R_Section_is_free : List D → D → Prop := fun ds d => ∃ r t, ds = [secD r t] ∧ d = .bl (r.payer.isNone || decide (r.conf = 0))
abbrev sp_Section_is_free (K : PySem.W.Frag) (cl : Nat → Addr) : Sp := PSp K cl R_Section_is_free
abbrev R_section_of : List D → D → Prop := fun ds d => ∃ r t, ds = [Rec.d r, .int t] ∧ d = secD r t
abbrev sp_section_of (K : PySem.W.Frag) (cl : Nat → Addr) : Sp := PSp K cl R_section_of
def mineF (c : Call) : List Rec := c.head :: c.sides
abbrev R_sections_of : List D → D → Prop := fun ds d => ∃ c : Call, ds = [Call.d c] ∧ c.sides.length ≤ 1000000 ∧ d = .lst ((mineF c).map fun r => secD r c.head.opened)
abbrev sp_sections_of (K : PySem.W.Frag) (cl : Nat → Addr) : Sp := PSp K cl R_sections_of
abbrev sp_id_of (K : PySem.W.Frag) (cl : Nat → Addr) : Sp := PSp K cl R_id_of
abbrev sp_head_place (K : PySem.W.Frag) (cl : Nat → Addr) : Sp := PSp K cl R_head_place
/-- what is so of all records of the law -/
structure RecsOk (rs : List Rec) : Prop where
  ok : ∀ r ∈ rs, r.Ok
  len : rs.length ≤ 4000
/-- the records of logs that are cut -/
def cutF (logs : List (List Ent)) (cut : Nat → Nat) (n : Nat) : List Rec := (List.range n).flatMap fun i => recsF ((logs.getD i []).take (cut i))
abbrev sp_law_records (K : PySem.W.Frag) (cl : Nat → Addr) : Sp := GSp fun vs G M T => ∃ (v : V) (ns : List Int) (vl : V) (logs : List (List Ent)), vs = [v, vl] ∧ Rep K cl G v (.lst (List.map D.int ns)) ∧ Rep K cl G vl (.lst (logs.map fun es => D.lst (List.map Ent.d es))) ∧ logs.length = 4 ∧ (∀ es ∈ logs, es.length ≤ 1000) ∧
  ∀ G' w (cut : Nat → Nat), Same G G' → Rep K cl G' w (.lst ((cutF logs cut 4).map Rec.d)) → T w G' M
/-! ### complete calls, strays -/
def joinedF (c : Call) : Bool := match c.legs.getLast? with
  | some r => r.went.isNone
  | none => false
def Call.all (c : Call) : List Rec := c.legs ++ c.sides
def stillF (c : Call) : List Rec := c.all.filter fun r => r.closed.isNone
def completeF (c : Call) : Bool := joinedF c && (stillF c).isEmpty
def usedF (cs : List Call) : List Ref := cs.flatMap fun c => c.all.map (·.id)
def strayL (rs : List Rec) (us : List Ref) : List D := ((rs.filter fun r => !decide (r.id ∈ us)).map fun r => refD r.id).mergeSort leD
abbrev R_is_joined : List D → D → Prop := fun ds d => ∃ (c : Call) (r : Rec), ds = [Call.d c] ∧ c.legs.getLast? = some r ∧ d = .bl (joinedF c)
abbrev sp_JoinedCall_is_joined (K : PySem.W.Frag) (cl : Nat → Addr) : Sp := PSp K cl R_is_joined
abbrev R_is_complete : List D → D → Prop := fun ds d => ∃ (c : Call) (r : Rec), ds = [Call.d c] ∧ c.legs.getLast? = some r ∧ c.all.length ≤ 100000 ∧ d = .bl (completeF c)
abbrev sp_JoinedCall_is_complete (K : PySem.W.Frag) (cl : Nat → Addr) : Sp := PSp K cl R_is_complete
abbrev R_stray_ids : List D → D → Prop := fun ds d => ∃ rs : List Rec, ds = [.lst (rs.map Rec.d)] ∧ rs.length ≤ 10000 ∧ (∀ r ∈ rs, r.Ok) ∧ d = .lst (strayL rs (usedF (joinF rs)))
abbrev sp_stray_ids (K : PySem.W.Frag) (cl : Nat → Addr) : Sp := PSp K cl R_stray_ids
abbrev sp_law_shuffled (K : PySem.W.Frag) (cl : Nat → Addr) : Sp := GSp fun vs G M T => ∃ (v : V) (ns : List Int) (vt : V) (ds : List D), vs = [v, vt] ∧ Rep K cl G v (.lst (List.map D.int ns)) ∧ Rep K cl G vt (.lst ds) ∧ ds.length ≤ 50000 ∧ ∀ G' w (es : List D), Same G G' → es.Perm ds → Rep K cl G' w (.lst es) → T w G' M
/-! ### what k77 asks -/
@[reducible] def viewD (c : Call) : D := .tup [refD c.head.id, .lst ((c.legs.map (·.id)).map refD), .lst ((c.sides.map (·.id)).map refD)]
abbrev sp_law_view (K : PySem.W.Frag) (cl : Nat → Addr) : Sp := PSp K cl fun ds d => ∃ cs : List Call, ds = [.lst (cs.map Call.d)] ∧ cs.length ≤ 10000 ∧ (∀ c ∈ cs, c.legs.length ≤ 100000 ∧ c.sides.length ≤ 100000) ∧ d = .lst (cs.map viewD)
abbrev R_law_way : List D → D → Prop := fun ds d => ∃ (rs : List Rec) (h : Rec), ds = [.lst (rs.map Rec.d), Rec.d h] ∧ (rs.map (·.id)).Nodup ∧ h ∈ rs ∧ rs.length ≤ 10000 ∧ d = .lst ((pathF (legsF rs) h).map Rec.d)
abbrev sp_law_way (K : PySem.W.Frag) (cl : Nat → Addr) : Sp := PSp K cl R_law_way
abbrev R_law_beside : List D → D → Prop := fun ds d => ∃ (rs way : List Rec), ds = [.lst (rs.map Rec.d), .lst (way.map Rec.d)] ∧ (rs.map (·.id)).Nodup ∧ rs.length ≤ 10000 ∧ (way.map (·.id)).Nodup ∧ d = .lst (((besideF (sidesF rs) way).map (·.id)).map refD)
abbrev sp_law_beside (K : PySem.W.Frag) (cl : Nat → Addr) : Sp := PSp K cl R_law_beside
abbrev R_law_heads : List D → D → Prop := fun ds d => ∃ rs : List Rec, ds = [.lst (rs.map Rec.d)] ∧ (rs.map (·.id)).Nodup ∧ rs.length ≤ 10000 ∧ d = .lst ((headsF rs).map Rec.d)
abbrev sp_law_heads (K : PySem.W.Frag) (cl : Nat → Addr) : Sp := PSp K cl R_law_heads
def entId : Ent → Option Ref
  | .opn r => some r.id
  | _ => none
def entOk : Ent → Prop
  | .opn r => r.Ok
  | _ => True
structure NLogs (logs : List (List Ent)) (m : Int) (n : Nat) : Prop where
  l4 : logs.length = 4
  len : ∀ es ∈ logs, es.length ≤ n
  ok : ∀ es ∈ logs, ∀ e ∈ es, entOk e
  nd : (logs.flatten.filterMap entId).Nodup
  lt : ∀ k ∈ logs.flatten.filterMap entId, k.2.2 < m
abbrev sp_law_noise (K : PySem.W.Frag) (cl : Nat → Addr) : Sp := GSp fun vs G M T => ∃ (v : V) (ns : List Int) (vl : V) (logs : List (List Ent)), vs = [v, vl] ∧ Rep K cl G v (.lst (List.map D.int ns)) ∧ Rep K cl G vl (.lst (logs.map fun es => D.lst (List.map Ent.d es))) ∧ NLogs logs 700 900 ∧
  ∀ G' w logs', Same G G' → NLogs logs' 703 903 → Rep K cl G' w (.lst (logs'.map fun es => D.lst (List.map Ent.d es))) → T w G' M
abbrev sp_law (K : PySem.W.Frag) (cl : Nat → Addr) : Sp := GSp fun vs G M T => ∃ v ns, vs = [v] ∧ Rep K cl G v (.lst (List.map D.int ns)) ∧ ∀ G' M', Same G G' → T (.bl true) G' M'
def t_JoinedCall_init (K : PySem.W.Frag) (cl : Nat → Addr) : TS :=
  (tSeq (sFld K (tVar 0) (tVar 1) "head") (tSeq (sFld K (tVar 0) (tCB (rListA K) (tCons (tVar 2) tNil)) "legs") (sFld K (tVar 0) (tCB (rListA K) (tCons (tVar 3) tNil)) "sides")))
def t_id_of (K : PySem.W.Frag) (cl : Nat → Addr) : TS :=
  (tRet (tFld K (tVar 0) "call_id"))
def t_head_place (K : PySem.W.Frag) (cl : Nat → Addr) : TS :=
  (tRet (tTup (tCons (tFld K (tVar 0) "opened_at") (tCons (tFld K (tVar 0) "call_id") tNil))))
def t_next_leg (K : PySem.W.Frag) (cl : Nat → Addr) : TS :=
  (tSeq (tIfS (tTest (tOp (rIsN) (tVar 1) (tC .non))) (tRet (tC .non)) tNext) (tSeq (tFor (iSeq K (tGet2 K cl (tVar 0) (tVar 1) (tLst tNil))) (gName 3) (tIfS (tTest (tOp (rInA K cl true) (tFld K (tVar 3) "call_id") (tVar 2))) (tRet (tVar 3)) tNext)) (tRet (tC .non))))
def t_Record_init (K : PySem.W.Frag) (cl : Nat → Addr) : TS :=
  (tSeq (sFld K (tVar 0) (tVar 1) "call_id") (tSeq (sFld K (tVar 0) (tVar 2) "role") (tSeq (sFld K (tVar 0) (tVar 3) "caller") (tSeq (sFld K (tVar 0) (tVar 4) "called") (tSeq (sFld K (tVar 0) (tVar 5) "payer") (tSeq (sFld K (tVar 0) (tVar 6) "came") (tSeq (sFld K (tVar 0) (tVar 7) "went") (tSeq (sFld K (tVar 0) (tVar 8) "parent") (tSeq (sFld K (tVar 0) (tVar 9) "opened_at") (tSeq (sFld K (tVar 0) (tC (.int 0)) "confirmed") (tSeq (sFld K (tVar 0) (tC .non) "closed_at") (sFld K (tVar 0) (tC .non) "cause"))))))))))))
def t_Record_is_open (K : PySem.W.Frag) (cl : Nat → Addr) : TS :=
  (tRet (tOp (rIsN) (tFld K (tVar 0) "closed_at") (tC .non)))
def t_close_record (K : PySem.W.Frag) (cl : Nat → Addr) : TS :=
  (tSeq (sFld K (tVar 0) (tVar 2) "closed_at") (sFld K (tVar 0) (tVar 1) "cause"))
def t_law_cell (K : PySem.W.Frag) (cl : Nat → Addr) : TS :=
  (tSeq (tIfS (tTest (tOp (rLtI) (tVar 1) (tCB (rLenA K) (tCons (tVar 0) tNil)))) (tRet (tOp (rIx K) (tVar 0) (tVar 1))) tNext) (tRet (tC (.int 0))))
def t_law_state (K : PySem.W.Frag) (cl : Nat → Addr) : TS :=
  (tSeq (tIfS (tTest (tOp (rGeI) (tVar 0) (tC (.int 1000000000000000000)))) (tRet (tLst (tCons (tVar 0) tNil))) tNext) (tSeq (tAsg (tC (.int 2305843009213693951)) (gName 2)) (tSeq (tAsg (tOp (rModI) (tCB (rInt1) (tCons (tOp (rAdd K) (tOp (rAdd K) (tOp (rMulI) (tVar 0) (tC (.int 6364136223))) (tOp (rMulI) (tOp (rAdd K) (tVar 1) (tC (.int 1))) (tC (.int 104729)))) (tC (.int 77))) tNil)) (tVar 2)) (gName 3)) (tSeq (tAsg (tOp (rModI) (tCB (rInt1) (tCons (tOp (rAdd K) (tOp (rAdd K) (tOp (rMulI) (tVar 3) (tVar 3)) (tOp (rMulI) (tC (.int 1013)) (tVar 3))) (tVar 1)) tNil)) (tVar 2)) (gName 4)) (tSeq (tAsg (tOp (rModI) (tCB (rInt1) (tCons (tOp (rAdd K) (tOp (rAdd K) (tOp (rMulI) (tVar 4) (tC (.int 48271))) (tOp (rMulI) (tVar 3) (tC (.int 31)))) (tC (.int 9))) tNil)) (tVar 2)) (gName 5)) (tSeq (tAsg (tOp (rModI) (tCB (rInt1) (tCons (tOp (rAdd K) (tOp (rMulI) (tVar 5) (tVar 5)) (tVar 4)) tNil)) (tVar 2)) (gName 6)) (tRet (tLst (tCons (tOp (rAdd K) (tOp (rMulI) (tOp (rAdd K) (tOp (rMulI) (tOp (rAdd K) (tOp (rMulI) (tVar 6) (tVar 2)) (tVar 5)) (tVar 2)) (tVar 4)) (tVar 2)) (tVar 3)) tNil)))))))))
def t_law_digit (K : PySem.W.Frag) (cl : Nat → Addr) : TS :=
  (tSeq (tAsg (tOp (rModI) (tCB (rInt1) (tCons (tOp (rIx K) (tVar 0) (tC (.int 0))) tNil)) (tVar 1)) (gName 2)) (tSeq (tAsg (tOp (rDivI) (tOp (rIx K) (tVar 0) (tC (.int 0))) (tVar 1)) (gSub (tVar 0) (tC (.int 0)) rSetL)) (tRet (tVar 2))))
def t_law_take (K : PySem.W.Frag) (cl : Nat → Addr) : TS :=
  (tSeq (tAsg (tOp (rAdd K) (tOp (rIx K) (tVar 0) (tVar 1)) (tC (.int 1))) (gSub (tVar 0) (tVar 1) rSetL)) (tRet (tTup (tCons (tVar 1) (tCons (tC (.int 1)) (tCons (tOp (rSubI) (tOp (rIx K) (tVar 0) (tVar 1)) (tC (.int 1))) tNil))))))
def t_law_role (K : PySem.W.Frag) (cl : Nat → Addr) : TS :=
  (tSeq (tIfS (tTest (tOp (rEqA K) (tVar 1) (tC (.int 1)))) (tRet (tC (.str "both"))) tNext) (tSeq (tIfS (tTest (tOp (rEqA K) (tVar 0) (tC (.int 0)))) (tRet (tC (.str "origin"))) tNext) (tSeq (tIfS (tTest (tOp (rEqA K) (tVar 0) (tOp (rSubI) (tVar 1) (tC (.int 1))))) (tRet (tC (.str "end"))) tNext) (tRet (tC (.str "transit"))))))
def t_law_way (K : PySem.W.Frag) (cl : Nat → Addr) : TS :=
  (tSeq (tAsg (tLst (tCons (tVar 1) tNil)) (gName 2)) (tSeq (tFor (iRng1 (tCons (tCB (rLenA K) (tCons (tVar 0) tNil)) tNil)) (gName 3) (tSeq (tAsg (tC .non) (gName 4)) (tSeq (tAsg (tLc (iSeq K (tVar 2)) (gName 5) tYes (tFld K (tVar 5) "call_id") [5]) (gName 6)) (tSeq (tFor (iSeq K (tVar 0)) (gName 5) (tSeq (tAsg ((tAndV (tOp (rIn K false) (tFld K (tVar 5) "role") (tTup (tCons (tC (.str "transit")) (tCons (tC (.str "end")) tNil)))) (tOp (rEqA K) (tFld K (tVar 5) "came") (tFld K (tOp (rIx K) (tVar 2) (tUn rNegI (tC (.int 1)))) "went")))) (gName 7)) (tIfS (tAnd (tTr K (tVar 7)) (tAnd (tTest (tOp (rNotN) (tFld K (tOp (rIx K) (tVar 2) (tUn rNegI (tC (.int 1)))) "went") (tC .non))) (tTest (tOp (rNotInD K) (tFld K (tVar 5) "call_id") (tVar 6))))) (tIfS (tOr (tTest (tOp (rIsN) (tVar 4) (tC .non))) (tTest (tOp (rLtT K) (tFld K (tVar 5) "call_id") (tFld K (tVar 4) "call_id")))) (tAsg (tVar 5) (gName 4)) tNext) tNext))) (tSeq (tIfS (tTest (tOp (rIsN) (tVar 4) (tC .non))) (tRet (tVar 2)) tNext) (tDrop (tBM K "list" rAppend (tVar 2) (tCons (tVar 4) tNil)))))))) (tRet (tVar 2))))
def t_law_beside (K : PySem.W.Frag) (cl : Nat → Addr) : TS :=
  (tSeq (tAsg (tLst tNil) (gName 2)) (tSeq (tFor (iSeq K (tVar 1)) (gName 3) (tAsg (tOp (rAdd K) (tVar 2) (tCB (rSortA K cl) (tCons (tLc (iSeq K (tVar 0)) (gName 4) (tAnd (tTest (tOp (rEqA K) (tFld K (tVar 4) "role") (tC (.str "divert")))) (tTest (tOp (rEqA K) (tFld K (tVar 4) "parent") (tFld K (tVar 3) "call_id")))) (tFld K (tVar 4) "call_id") [4]) tNil))) (gName 2))) (tRet (tVar 2))))
def t_law_heads (K : PySem.W.Frag) (cl : Nat → Addr) : TS :=
  (tSeq (tAsg (tCB (rSortA K cl) (tCons (tLc (iSeq K (tVar 0)) (gName 4) (tTest (tOp (rIn K false) (tFld K (tVar 4) "role") (tTup (tCons (tC (.str "origin")) (tCons (tC (.str "both")) tNil))))) (tTup (tCons (tFld K (tVar 4) "opened_at") (tCons (tFld K (tVar 4) "call_id") tNil))) [4]) tNil)) (gName 1)) (tSeq (tAsg (tLst tNil) (gName 2)) (tSeq (tFor (iSeq K (tVar 1)) (gName 3) (tAsg (tOp (rAdd K) (tVar 2) (tLc (iSeq K (tVar 0)) (gName 4) (tTest (tOp (rEqA K) (tFld K (tVar 4) "call_id") (tOp (rIx K) (tVar 3) (tC (.int 1))))) (tVar 4) [4])) (gName 2))) (tRet (tVar 2)))))
def t_law_view (K : PySem.W.Frag) (cl : Nat → Addr) : TS :=
  (tSeq (tAsg (tLst tNil) (gName 1)) (tSeq (tFor (iSeq K (tVar 0)) (gName 2) (tDrop (tBM K "list" rAppend (tVar 1) (tCons (tTup (tCons (tFld K (tFld K (tVar 2) "head") "call_id") (tCons (tLc (iSeq K (tFld K (tVar 2) "legs")) (gName 3) tYes (tFld K (tVar 3) "call_id") [3]) (tCons (tLc (iSeq K (tFld K (tVar 2) "sides")) (gName 4) tYes (tFld K (tVar 4) "call_id") [4]) tNil)))) tNil)))) (tRet (tVar 1))))
def t_path_of (K : PySem.W.Frag) (cl : Nat → Addr) : TS :=
  (tSeq (tAsg (tLst (tCons (tVar 0) tNil)) (gName 2)) (tSeq (tAsg (tNDisp1 K cl (tFld K (tVar 0) "call_id") (tC (.bl true))) (gName 3)) (tSeq (tAsg (tCall (sp_next_leg K cl) [] E0 (tCons (tVar 1) (tCons (tFld K (tVar 0) "went") (tCons (tVar 3) tNil)))) (gName 4)) (tSeq (tWhile (tTest (tOp (rNotN) (tVar 4) (tC .non))) (tSeq (tDrop (tBM K "list" rAppend (tVar 2) (tCons (tVar 4) tNil))) (tSeq (tAsg (tC (.bl true)) (gSub (tVar 3) (tFld K (tVar 4) "call_id") (rSetA K cl))) (tAsg (tCall (sp_next_leg K cl) [] E0 (tCons (tVar 1) (tCons (tFld K (tVar 4) "went") (tCons (tVar 3) tNil)))) (gName 4))))) (tRet (tVar 2))))))
def t_belongs (K : PySem.W.Frag) (cl : Nat → Addr) : TS :=
  (tRet ((tAndV (tMeth (cl 1) "is_open" (sp_Record_is_open K cl) [] E0 (tVar 0) tNil) (tOp (rInDT K false) (tVar 1) (tTup (tCons (tFld K (tVar 0) "call_id") (tCons (tFld K (tVar 0) "parent") tNil)))))))
def t_law_time (K : PySem.W.Frag) (cl : Nat → Addr) : TS :=
  (tSeq (tAsg (tOp (rAdd K) (tOp (rIx K) (tVar 1) (tVar 2)) (tOp (rMulI) (tC (.int 900)) (tCall (sp_law_digit K cl) [] E0 (tCons (tVar 0) (tCons (tC (.int 32)) tNil))))) (gSub (tVar 1) (tVar 2) rSetL)) (tRet (tOp (rIx K) (tVar 1) (tVar 2))))
def t_law_shuffled (K : PySem.W.Frag) (cl : Nat → Addr) : TS :=
  (tSeq (tAsg (tCB (rListA K) (tCons (tVar 1) tNil)) (gName 2)) (tSeq (tAsg (tLst tNil) (gName 3)) (tSeq (tFor (iRng1 (tCons (tCB (rLenA K) (tCons (tVar 1) tNil)) tNil)) (gName 4) (tSeq (tAsg (tCall (sp_law_state K cl) [] E0 (tCons (tCall (sp_law_cell K cl) [] E0 (tCons (tVar 0) (tCons (tVar 4) tNil))) (tCons (tOp (rAdd K) (tC (.int 500)) (tVar 4)) tNil))) (gName 5)) (tSeq (tAsg (tCall (sp_law_digit K cl) [] E0 (tCons (tVar 5) (tCons (tCB (rLenA K) (tCons (tVar 2) tNil)) tNil))) (gName 6)) (tSeq (tDrop (tBM K "list" rAppend (tVar 3) (tCons (tOp (rIx K) (tVar 2) (tVar 6)) tNil))) (tAsg (tOp (rAdd K) (tSl (rSlA K) (tVar 2) tNoPart (tPart (tVar 6))) (tSl (rSlA K) (tVar 2) (tPart (tOp (rAdd K) (tVar 6) (tC (.int 1)))) tNoPart)) (gName 2)))))) (tRet (tVar 3)))))
def t_law_noise (K : PySem.W.Frag) (cl : Nat → Addr) : TS :=
  (tSeq (tAsg (tLst tNil) (gName 2)) (tSeq (tFor (iSeq K (tVar 1)) (gName 3) (tAsg (tOp (rAdd K) (tVar 2) (tLc (iSeq K (tVar 3)) (gName 12) (tAnd (tTest (tOp (rEqA K) (tOp (rIx K) (tVar 12) (tC (.int 0))) (tC (.str "open")))) (tTest (tOp (rNotN) (tOp (rIx K) (tVar 12) (tC (.int 7))) (tC .non)))) (tOp (rIx K) (tVar 12) (tC (.int 7))) [12])) (gName 2))) (tSeq (tAsg (tLc (iSeq K (tVar 1)) (gName 3) tYes (tCB (rListA K) (tCons (tVar 3) tNil)) [3]) (gName 4)) (tSeq (tIfS (tTest (tOp (rEqA K) (tCB (rLenA K) (tCons (tVar 2) tNil)) (tC (.int 0)))) (tRet (tVar 4)) tNext) (tSeq (tFor (iRng1 (tCons (tC (.int 3)) tNil)) (gName 5) (tSeq (tAsg (tCall (sp_law_state K cl) [] E0 (tCons (tCall (sp_law_cell K cl) [] E0 (tCons (tVar 0) (tCons (tVar 5) tNil))) (tCons (tOp (rAdd K) (tC (.int 700)) (tVar 5)) tNil))) (gName 6)) (tSeq (tAsg (tCall (sp_law_digit K cl) [] E0 (tCons (tVar 6) (tCons (tC (.int 4)) tNil))) (gName 7)) (tSeq (tAsg (tOp (rIx K) (tVar 2) (tCall (sp_law_digit K cl) [] E0 (tCons (tVar 6) (tCons (tCB (rLenA K) (tCons (tVar 2) tNil)) tNil)))) (gName 8)) (tSeq (tAsg (tOp (rIx K) (tTup (tCons (tC .non) (tCons (tVar 8) (tCons (tOp (rIx K) (tVar 2) (tCall (sp_law_digit K cl) [] E0 (tCons (tVar 6) (tCons (tCB (rLenA K) (tCons (tVar 2) tNil)) tNil)))) (tCons (tTup (tCons (tC (.int 3)) (tCons (tC (.int 3)) (tCons (tVar 5) tNil)))) tNil))))) (tCall (sp_law_digit K cl) [] E0 (tCons (tVar 6) (tCons (tC (.int 4)) tNil)))) (gName 9)) (tSeq (tAsg (tC (.str "transit")) (gName 10)) (tSeq (tIfS (tTest (tOp (rIsN) (tVar 9) (tC .non))) (tAsg (tC (.str "end")) (gName 10)) tNext) (tSeq (tAsg (tOp (rAdd K) (tC (.int 1000000000)) (tVar 5)) (gName 11)) (tDrop (tBM K "list" rAppend (tOp (rIx K) (tVar 4) (tVar 7)) (tCons (tTup (tCons (tC (.str "open")) (tCons (tTup (tCons (tVar 7) (tCons (tOp (rSubI) (tC (.int 9)) (tCall (sp_law_digit K cl) [] E0 (tCons (tVar 6) (tCons (tC (.int 9)) tNil)))) (tCons (tOp (rAdd K) (tC (.int 700)) (tVar 5)) tNil)))) (tCons (tVar 10) (tCons (tC (.str "49")) (tCons (tC (.str "59")) (tCons (tC .non) (tCons (tVar 8) (tCons (tVar 9) (tCons (tC .non) (tCons (tVar 11) tNil))))))))))) tNil))))))))))) (tRet (tVar 4)))))))
def t_law_large (K : PySem.W.Frag) (cl : Nat → Addr) : TS :=
  (tRet (tOp (rEqA K) (tCall (sp_law_digit K cl) [] E0 (tCons (tCall (sp_law_state K cl) [] E0 (tCons (tCall (sp_law_cell K cl) [] E0 (tCons (tVar 0) (tCons (tC (.int 0)) tNil))) (tCons (tC (.int 97)) tNil))) (tCons (tC (.int 4)) tNil))) (tC (.int 0))))
def t_record_from (K : PySem.W.Frag) (cl : Nat → Addr) : TS :=
  (tSeq (tAsg (tVar 0) (gTup K 10 (gNames [1, 2, 3, 4, 5, 6, 7, 8, 9, 10]))) (tRet (tMake (cl 1) (sp_Record_init K cl) [] E0 (tCons (tVar 2) (tCons (tVar 3) (tCons (tVar 4) (tCons (tVar 5) (tCons (tVar 6) (tCons (tVar 7) (tCons (tVar 8) (tCons (tVar 9) (tCons (tVar 10) tNil))))))))))))
def t_law_open (K : PySem.W.Frag) (cl : Nat → Addr) : TS :=
  (tSeq (tAsg (tVar 1) (gTup K 4 (gNames [7, 8, 9, 10]))) (tSeq (tAsg (tCall (sp_law_time K cl) [] E0 (tCons (tVar 0) (tCons (tVar 8) (tCons (tVar 2) tNil)))) (gName 11)) (tSeq (tAsg (tCall (sp_law_take K cl) [] E0 (tCons (tVar 9) (tCons (tVar 2) tNil))) (gName 12)) (tSeq (tAsg (tC .non) (gName 13)) (tSeq (tIfS (tOr (tTest (tOp (rEqA K) (tVar 3) (tC (.str "origin")))) (tTest (tOp (rEqA K) (tVar 3) (tC (.str "both"))))) (tAsg (tVar 4) (gName 13)) tNext) (tSeq (tAsg (tOp (rAdd K) (tC (.str "5")) (tCB (rStrI) (tCons (tCall (sp_law_digit K cl) [] E0 (tCons (tVar 0) (tCons (tC (.int 30)) tNil))) tNil))) (gName 14)) (tSeq (tDrop (tBM K "list" rAppend (tOp (rIx K) (tVar 7) (tVar 2)) (tCons (tTup (tCons (tC (.str "open")) (tCons (tVar 12) (tCons (tVar 3) (tCons (tVar 4) (tCons (tVar 14) (tCons (tVar 13) (tCons (tVar 5) (tCons (tVar 6) (tCons (tC .non) (tCons (tVar 11) tNil))))))))))) tNil))) (tSeq (tFor (iRng1 (tCons (tOp (rIx K) (tTup (tCons (tC (.int 0)) (tCons (tC (.int 0)) (tCons (tC (.int 1)) (tCons (tC (.int 2)) tNil))))) (tCall (sp_law_digit K cl) [] E0 (tCons (tVar 0) (tCons (tC (.int 4)) tNil)))) tNil)) (gName 15) (tSeq (tAsg (tOp (rAdd K) (tC (.str "7")) (tCB (rStrI) (tCons (tCall (sp_law_digit K cl) [] E0 (tCons (tVar 0) (tCons (tC (.int 6)) tNil))) tNil))) (gName 16)) (tSeq (tAsg (tCall (sp_law_take K cl) [] E0 (tCons (tVar 9) (tCons (tVar 2) tNil))) (gName 17)) (tSeq (tAsg (tOp (rAdd K) (tC (.str "6")) (tCB (rStrI) (tCons (tCall (sp_law_digit K cl) [] E0 (tCons (tVar 0) (tCons (tC (.int 30)) tNil))) tNil))) (gName 18)) (tDrop (tBM K "list" rAppend (tOp (rIx K) (tVar 7) (tVar 2)) (tCons (tTup (tCons (tC (.str "open")) (tCons (tVar 17) (tCons (tC (.str "divert")) (tCons (tVar 4) (tCons (tVar 18) (tCons (tVar 16) (tCons (tVar 5) (tCons (tVar 6) (tCons (tVar 12) (tCons (tVar 11) tNil))))))))))) tNil))))))) (tRet (tVar 12))))))))))
def t_law_close (K : PySem.W.Frag) (cl : Nat → Addr) : TS :=
  (tSeq (tAsg (tVar 1) (gTup K 4 (gNames [4, 5, 6, 7]))) (tSeq (tAsg (tCall (sp_law_digit K cl) [] E0 (tCons (tVar 0) (tCons (tC (.int 10)) tNil))) (gName 8)) (tSeq (tIfS (tTest (tOp (rEqA K) (tVar 8) (tC (.int 0)))) (tRet (tC (.bl false))) tNext) (tSeq (tAsg (tCall (sp_law_time K cl) [] E0 (tCons (tVar 0) (tCons (tVar 5) (tCons (tVar 2) tNil)))) (gName 9)) (tSeq (tIfS (tTest (tOp (rEqA K) (tVar 8) (tC (.int 1)))) (tSeq (tAsg (tOp (rAdd K) (tOp (rIx K) (tVar 7) (tVar 2)) (tC (.int 1))) (gSub (tVar 7) (tVar 2) rSetL)) (tSeq (tDrop (tBM K "list" rAppend (tOp (rIx K) (tVar 4) (tVar 2)) (tCons (tTup (tCons (tC (.str "boot")) (tCons (tOp (rIx K) (tVar 7) (tVar 2)) (tCons (tVar 9) tNil)))) tNil))) (tRet (tC (.bl true))))) tNext) (tSeq (tDrop (tBM K "list" rAppend (tOp (rIx K) (tVar 4) (tVar 2)) (tCons (tTup (tCons (tC (.str "close")) (tCons (tVar 3) (tCons (tOp (rIx K) (tTup (tCons (tC (.str "hung up")) (tCons (tC (.str "lost")) tNil))) (tOp (rModI) (tVar 8) (tC (.int 2)))) (tCons (tVar 9) tNil))))) tNil))) (tRet (tC (.bl false)))))))))
def t_legs_by_circuit (K : PySem.W.Frag) (cl : Nat → Addr) : TS :=
  (tSeq (tAsg (tNew) (gName 1)) (tSeq (tFor (iSeq K (tSortKey K cl R_id_of (tCons (tVar 0) tNil))) (gName 2) (tIfS (tTest (tOp (rIn K false) (tFld K (tVar 2) "role") (tC (.ref (cl 3))))) (tDrop (tBM K "list" rAppend (tSetD K cl (tVar 1) (tFld K (tVar 2) "came") (tLst tNil)) (tCons (tVar 2) tNil))) tNext)) (tRet (tVar 1))))
def t_sides_by_parent (K : PySem.W.Frag) (cl : Nat → Addr) : TS :=
  (tSeq (tAsg (tNew) (gName 1)) (tSeq (tFor (iSeq K (tSortKey K cl R_id_of (tCons (tVar 0) tNil))) (gName 2) (tIfS (tTest (tOp (rEqA K) (tFld K (tVar 2) "role") (tC (.str "divert")))) (tDrop (tBM K "list" rAppend (tSetD K cl (tVar 1) (tFld K (tVar 2) "parent") (tLst tNil)) (tCons (tVar 2) tNil))) tNext)) (tRet (tVar 1))))
def t_fold_entry (K : PySem.W.Frag) (cl : Nat → Addr) : TS :=
  (tSeq (tAsg (tOp (rIx K) (tVar 1) (tC (.int 0))) (gName 2)) (tIfS (tTest (tOp (rEqA K) (tVar 2) (tC (.str "open")))) (tDrop (tBM K "list" rAppend (tVar 0) (tCons (tCall (sp_record_from K cl) [] E0 (tCons (tVar 1) tNil)) tNil))) (tIfS (tTest (tOp (rEqA K) (tVar 2) (tC (.str "boot")))) (tFor (iSeq K (tVar 0)) (gName 3) (tIfS (tTr K (tMeth (cl 1) "is_open" (sp_Record_is_open K cl) [] E0 (tVar 3) tNil)) (tDrop (tCall (sp_close_record K cl) [] E0 (tCons (tVar 3) (tCons (tC (.str "crashed")) (tCons (tOp (rIx K) (tVar 1) (tC (.int 2))) tNil))))) tNext)) (tIfS (tTest (tOp (rEqA K) (tVar 2) (tC (.str "mark")))) (tFor (iSeq K (tVar 0)) (gName 3) (tIfS (tTr K (tCall (sp_belongs K cl) [] E0 (tCons (tVar 3) (tCons (tOp (rIx K) (tVar 1) (tC (.int 1))) tNil)))) (sFld K (tVar 3) (tOp (rIx K) (tVar 1) (tC (.int 2))) "confirmed") tNext)) (tIfS (tTest (tOp (rEqA K) (tVar 2) (tC (.str "close")))) (tFor (iSeq K (tVar 0)) (gName 3) (tIfS (tTr K (tCall (sp_belongs K cl) [] E0 (tCons (tVar 3) (tCons (tOp (rIx K) (tVar 1) (tC (.int 1))) tNil)))) (tDrop (tCall (sp_close_record K cl) [] E0 (tCons (tVar 3) (tCons (tOp (rIx K) (tVar 1) (tC (.int 2))) (tCons (tOp (rIx K) (tVar 1) (tC (.int 3))) tNil))))) tNext)) tNext)))))
def t_law_call (K : PySem.W.Frag) (cl : Nat → Addr) : TS :=
  (tSeq (tAsg (tOp (rAdd K) (tC (.int 1)) (tCall (sp_law_digit K cl) [] E0 (tCons (tVar 0) (tCons (tC (.int 4)) tNil)))) (gName 3)) (tSeq (tIfS (tTest (tOp (rGtI) (tVar 2) (tC (.int 9)))) (tAsg (tOp (rAdd K) (tVar 3) (tC (.int 2))) (gName 3)) tNext) (tSeq (tAsg (tCall (sp_law_digit K cl) [] E0 (tCons (tVar 0) (tCons (tC (.int 4)) tNil))) (gName 4)) (tSeq (tAsg (tOp (rAdd K) (tC (.str "4")) (tCB (rStrI) (tCons (tCall (sp_law_digit K cl) [] E0 (tCons (tVar 0) (tCons (tC (.int 6)) tNil))) tNil))) (gName 5)) (tSeq (tAsg (tC .non) (gName 6)) (tSeq (tAsg (tLst tNil) (gName 7)) (tSeq (tFor (iRng1 (tCons (tVar 3) tNil)) (gName 8) (tSeq (tAsg (tC .non) (gName 9)) (tSeq (tIfS (tTest (tOp (rLtI) (tOp (rAdd K) (tVar 8) (tC (.int 1))) (tVar 3))) (tAsg (tTup (tCons (tVar 4) (tCons (tC (.int 1)) (tCons (tOp (rAdd K) (tOp (rAdd K) (tC (.int 900)) (tOp (rMulI) (tC (.int 10)) (tVar 2))) (tVar 8)) tNil)))) (gName 9)) tNext) (tSeq (tAsg (tCall (sp_law_open K cl) [] E0 (tCons (tVar 0) (tCons (tVar 1) (tCons (tVar 4) (tCons (tCall (sp_law_role K cl) [] E0 (tCons (tVar 8) (tCons (tVar 3) tNil))) (tCons (tVar 5) (tCons (tVar 6) (tCons (tVar 9) tNil)))))))) (gName 10)) (tSeq (tDrop (tBM K "list" rAppend (tVar 7) (tCons (tTup (tCons (tVar 4) (tCons (tVar 10) tNil))) tNil))) (tSeq (tAsg (tVar 9) (gName 6)) (tAsg (tOp (rModI) (tCB (rInt1) (tCons (tOp (rAdd K) (tOp (rAdd K) (tVar 4) (tC (.int 1))) (tCall (sp_law_digit K cl) [] E0 (tCons (tVar 0) (tCons (tC (.int 3)) tNil)))) tNil)) (tC (.int 4))) (gName 4)))))))) (tSeq (tAsg (tOp (rAdd K) (tOp (rIx K) (tTup (tCons (tC (.int 0)) (tCons (tC (.int 1)) (tCons (tC (.int 59)) (tCons (tC (.int 61)) tNil))))) (tCall (sp_law_digit K cl) [] E0 (tCons (tVar 0) (tCons (tC (.int 4)) tNil)))) (tOp (rMulI) (tC (.int 600)) (tCall (sp_law_digit K cl) [] E0 (tCons (tVar 0) (tCons (tC (.int 8)) tNil))))) (gName 11)) (tSeq (tFor (iSeq K (tVar 7)) (gTup K 2 (gNames [12, 10])) (tSeq (tIfS (tTest (tOp (rGtI) (tVar 11) (tC (.int 0)))) (tDrop (tBM K "list" rAppend (tOp (rIx K) (tOp (rIx K) (tVar 1) (tC (.int 0))) (tVar 12)) (tCons (tTup (tCons (tC (.str "mark")) (tCons (tVar 10) (tCons (tVar 11) tNil)))) tNil))) tNext) (tAsg (tOp (rAdd K) (tVar 11) (tOp (rMulI) (tC (.int 10)) (tCall (sp_law_digit K cl) [] E0 (tCons (tVar 0) (tCons (tC (.int 3)) tNil))))) (gName 11)))) (tSeq (tAsg (tLst tNil) (gName 13)) (tFor (iSeq K (tVar 7)) (gTup K 2 (gNames [12, 10])) (tIfS (tAnd (tTest (tOp (rIn K true) (tVar 12) (tVar 13))) (tTr K (tCall (sp_law_close K cl) [] E0 (tCons (tVar 0) (tCons (tVar 1) (tCons (tVar 12) (tCons (tVar 10) tNil))))))) (tDrop (tBM K "list" rAppend (tVar 13) (tCons (tVar 12) tNil))) tNext))))))))))))
def t_join_calls (K : PySem.W.Frag) (cl : Nat → Addr) : TS :=
  (tSeq (tAsg (tCall (sp_legs_by_circuit K cl) [] E0 (tCons (tVar 0) tNil)) (gName 1)) (tSeq (tAsg (tCall (sp_sides_by_parent K cl) [] E0 (tCons (tVar 0) tNil)) (gName 2)) (tSeq (tAsg (tLst tNil) (gName 3)) (tSeq (tFor (iSeq K (tSortKey K cl R_head_place (tCons (tLc (iSeq K (tVar 0)) (gName 4) (tTest (tOp (rIn K false) (tFld K (tVar 4) "role") (tC (.ref (cl 2))))) (tVar 4) [4]) tNil))) (gName 5) (tSeq (tAsg (tCall (sp_path_of K cl) [] E0 (tCons (tVar 5) (tCons (tVar 1) tNil))) (gName 6)) (tSeq (tAsg (tLst tNil) (gName 7)) (tSeq (tFor (iSeq K (tVar 6)) (gName 4) (tDrop (tBM K "list" (rExtendA K) (tVar 7) (tCons (tGet2 K cl (tVar 2) (tFld K (tVar 4) "call_id") (tLst tNil)) tNil)))) (tDrop (tBM K "list" rAppend (tVar 3) (tCons (tMake (cl 0) (sp_JoinedCall_init K cl) [] E0 (tCons (tVar 5) (tCons (tVar 6) (tCons (tVar 7) tNil)))) tNil))))))) (tRet (tVar 3))))))
def t_records_of (K : PySem.W.Frag) (cl : Nat → Addr) : TS :=
  (tSeq (tAsg (tLst tNil) (gName 1)) (tSeq (tFor (iSeq K (tVar 0)) (gName 2) (tDrop (tCall (sp_fold_entry K cl) [] E0 (tCons (tVar 1) (tCons (tVar 2) tNil))))) (tRet (tVar 1))))
def t_law_logs (K : PySem.W.Frag) (cl : Nat → Addr) : TS :=
  (tSeq (tAsg (tTup (tCons (tLc (iRng1 (tCons (tC (.int 4)) tNil)) (gName 5) tYes (tLst (tCons (tTup (tCons (tC (.str "boot")) (tCons (tC (.int 1)) (tCons (tC (.int 0)) tNil)))) tNil)) [5]) (tCons (tLst (tCons (tC (.int 0)) (tCons (tC (.int 0)) (tCons (tC (.int 0)) (tCons (tC (.int 0)) tNil))))) (tCons (tLst (tCons (tC (.int 0)) (tCons (tC (.int 0)) (tCons (tC (.int 0)) (tCons (tC (.int 0)) tNil))))) (tCons (tLst (tCons (tC (.int 1)) (tCons (tC (.int 1)) (tCons (tC (.int 1)) (tCons (tC (.int 1)) tNil))))) tNil))))) (gName 3)) (tSeq (tFor (iRng1 (tCons (tVar 2) tNil)) (gName 4) (tDrop (tCall (sp_law_call K cl) [] E0 (tCons (tCall (sp_law_state K cl) [] E0 (tCons (tCall (sp_law_cell K cl) [] E0 (tCons (tVar 0) (tCons (tOp (rAdd K) (tVar 1) (tVar 4)) tNil))) (tCons (tOp (rAdd K) (tVar 1) (tVar 4)) tNil))) (tCons (tVar 3) (tCons (tVar 4) tNil)))))) (tRet (tOp (rIx K) (tVar 3) (tC (.int 0))))))
def t_law_records (K : PySem.W.Frag) (cl : Nat → Addr) : TS :=
  (tSeq (tAsg (tLst tNil) (gName 2)) (tSeq (tFor (iRng1 (tCons (tCB (rLenA K) (tCons (tVar 1) tNil)) tNil)) (gName 3) (tSeq (tAsg (tCall (sp_law_state K cl) [] E0 (tCons (tCall (sp_law_cell K cl) [] E0 (tCons (tVar 0) (tCons (tVar 3) tNil))) (tCons (tOp (rAdd K) (tC (.int 600)) (tVar 3)) tNil))) (gName 4)) (tSeq (tAsg (tCB (rLenA K) (tCons (tOp (rIx K) (tVar 1) (tVar 3)) tNil)) (gName 5)) (tSeq (tIfS (tTest (tOp (rEqA K) (tCall (sp_law_digit K cl) [] E0 (tCons (tVar 4) (tCons (tC (.int 3)) tNil))) (tC (.int 0)))) (tAsg (tCall (sp_law_digit K cl) [] E0 (tCons (tVar 4) (tCons (tOp (rAdd K) (tVar 5) (tC (.int 1))) tNil))) (gName 5)) tNext) (tAsg (tOp (rAdd K) (tVar 2) (tCall (sp_records_of K cl) [] E0 (tCons (tSl (rSlA K) (tOp (rIx K) (tVar 1) (tVar 3)) tNoPart (tPart (tVar 5))) tNil))) (gName 2)))))) (tRet (tVar 2))))
def t_law (K : PySem.W.Frag) (cl : Nat → Addr) : TS :=
  (tSeq (tAsg (tCall (sp_law_noise K cl) [] E0 (tCons (tVar 0) (tCons (tCall (sp_law_logs K cl) [] E0 (tCons (tVar 0) (tCons (tC (.int 1)) (tCons (tOp (rAdd K) (tC (.int 5)) (tOp (rMulI) (tC (.int 19)) (tCB (rInt1) (tCons (tCall (sp_law_large K cl) [] E0 (tCons (tVar 0) tNil)) tNil)))) tNil)))) tNil))) (gName 1)) (tSeq (tAsg (tCall (sp_law_shuffled K cl) [] E0 (tCons (tVar 0) (tCons (tCall (sp_law_records K cl) [] E0 (tCons (tVar 0) (tCons (tVar 1) tNil))) tNil))) (gName 2)) (tSeq (tAsg (tLst tNil) (gName 3)) (tSeq (tFor (iSeq K (tCall (sp_law_heads K cl) [] E0 (tCons (tVar 2) tNil))) (gName 4) (tSeq (tAsg (tCall (sp_law_way K cl) [] E0 (tCons (tVar 2) (tCons (tVar 4) tNil))) (gName 5)) (tDrop (tBM K "list" rAppend (tVar 3) (tCons (tTup (tCons (tFld K (tVar 4) "call_id") (tCons (tLc (iSeq K (tVar 5)) (gName 7) tYes (tFld K (tVar 7) "call_id") [7]) (tCons (tCall (sp_law_beside K cl) [] E0 (tCons (tVar 2) (tCons (tVar 5) tNil))) tNil)))) tNil))))) (tSeq (tAsg (tCB (rListA K) (tCons (tVar 2) tNil)) (gName 6)) (tSeq (tIfS (tOr (tTest (tOp (rNeA K) (tCall (sp_law_view K cl) [] E0 (tCons (tCall (sp_join_calls K cl) [] E0 (tCons (tVar 6) tNil)) tNil)) (tVar 3))) (tTest (tOp (rNeRefs K) (tVar 6) (tVar 2)))) (tRet (tC (.bl false))) tNext) (tRet (tOp (rEqA K) (tCall (sp_law_view K cl) [] E0 (tCons (tCall (sp_join_calls K cl) [] E0 (tCons (tRevL K (tVar 2)) tNil)) tNil)) (tVar 3)))))))))
class Cf (K : PySem.W.Frag) (cl : Nat → Addr) : Prop where
  cl_JoinedCall : Cls K (cl 0)
  nf_JoinedCall_head : NoAttr K (cl 0) "head"
  nf_JoinedCall_legs : NoAttr K (cl 0) "legs"
  nf_JoinedCall_sides : NoAttr K (cl 0) "sides"
  cl_Record : Cls K (cl 1)
  nf_Record_call_id : NoAttr K (cl 1) "call_id"
  nf_Record_role : NoAttr K (cl 1) "role"
  nf_Record_caller : NoAttr K (cl 1) "caller"
  nf_Record_called : NoAttr K (cl 1) "called"
  nf_Record_payer : NoAttr K (cl 1) "payer"
  nf_Record_came : NoAttr K (cl 1) "came"
  nf_Record_went : NoAttr K (cl 1) "went"
  nf_Record_parent : NoAttr K (cl 1) "parent"
  nf_Record_opened_at : NoAttr K (cl 1) "opened_at"
  nf_Record_confirmed : NoAttr K (cl 1) "confirmed"
  nf_Record_closed_at : NoAttr K (cl 1) "closed_at"
  nf_Record_cause : NoAttr K (cl 1) "cause"
  ct_HEAD_ROLES : ∀ G : Hp, Rep K cl G (.ref (cl 2)) (.tup [.str "origin", .str "both"])
  ct_LEG_ROLES : ∀ G : Hp, Rep K cl G (.ref (cl 3)) (.tup [.str "transit", .str "end"])
local macro_rules | `(tactic| walk_at "cf") => `(tactic| with_reducible first | exact Cf.cl_JoinedCall | exact Cf.nf_JoinedCall_head | exact Cf.nf_JoinedCall_legs | exact Cf.nf_JoinedCall_sides | exact Cf.cl_Record | exact Cf.nf_Record_call_id | exact Cf.nf_Record_role | exact Cf.nf_Record_caller | exact Cf.nf_Record_called | exact Cf.nf_Record_payer | exact Cf.nf_Record_came | exact Cf.nf_Record_went | exact Cf.nf_Record_parent | exact Cf.nf_Record_opened_at | exact Cf.nf_Record_confirmed | exact Cf.nf_Record_closed_at | exact Cf.nf_Record_cause)
theorem rd_law_cell {K : PySem.W.Frag} {cl : Nat → Addr} {vs H Q E} (h : sp_law_cell K cl vs H Q E) : t_law_cell K cl ⟨fun _ H' => Q .non H', Q, fun _ _ => False, fun _ _ => False⟩ (start ["script", "k"] vs) H := by
  obtain ⟨ds, d, G, M, ⟨ns, k, rfl, hk, rfl⟩, S, rs, q⟩ := h
  obtain ⟨v0, v1, rfl, r0, r1⟩ := reps2 rs
  obtain rfl := r1.of_int
  unfold t_law_cell
  refine s_seq ?_
  refine s_if S (by walk_at "et") ?_ ?_
  · intro G1 H1 g hc
    obtain ⟨rfl, rfl, -⟩ := g.eq rfl
    have hl : k < (ns.length : Int) := by
      have := of_decide_eq_true hc
      simpa using this
    have hx : atI (List.map D.int ns) k = some (.int (ns.getD k.toNat 0)) := by
      rw [atI_getD (D.int 0) hk (by simpa using hl)]
      simp [List.getD]
    exact s_ret S (ev_op (by walk_at "ev") (by walk_at "ev") (o_ixL hx)) fun v G1 H1 g r => q v G1 H1 g.same g.sep r
  · intro G1 H1 g hc
    obtain ⟨rfl, rfl, -⟩ := g.eq rfl
    have hl : (ns.length : Int) ≤ k := by
      have := of_decide_eq_false hc
      simp at this
      omega
    refine s_next ?_
    refine s_ret (K := K) (cl := cl) S (by walk_at "ev") fun v G1 H1 g r => q v G1 H1 g.same g.sep ?_
    rw [List.getD_eq_getElem?_getD, List.getElem?_eq_none (by omega)]
    exact r
theorem rd_law_state {K : PySem.W.Frag} {cl : Nat → Addr} {vs H Q E} (h : sp_law_state K cl vs H Q E) : t_law_state K cl ⟨fun _ H' => Q .non H', Q, fun _ _ => False, fun _ _ => False⟩ (start ["cell", "k", "prime", "first", "second", "third", "fourth"] vs) H := by
  obtain ⟨G, M, S, c, k, rfl, q⟩ := h
  unfold t_law_state
  refine s_seq ?_
  refine s_if (K := K) (cl := cl) S (by walk_at "et") ?_ ?_
  · intro G1 H1 g hc
    refine s_retG g.sep (eg_lst (K := K) (cl := cl) (F := fun v G' M' => ∃ p s, v = .ref p ∧ M' = (p, .lst [.int s]) :: M) (by walk_at "ea") (Nat.le_of_ble_eq_true rfl) fun u vs G' s r => ⟨u, c, rfl, ?_⟩) ?_
    · obtain ⟨x, rfl, hx⟩ := reps1 r
      rw [hx.of_int]
    · rintro v G' H' M' s' S' ⟨p, z, rfl, rfl⟩
      exact q p z G' (g.same.trans s') (g.same.trans s') H' S'
  · intro G1 H1 g hc
    obtain ⟨rfl, rfl, -⟩ := g.eq rfl
    refine s_next ?_
    refine s_seq ?_
    refine s_asg (K := K) (cl := cl) S (by walk_at "ev") ?_
    intro w1 G1 H1 g1 r1
    obtain ⟨rfl, rfl, -⟩ := g1.eq rfl
    obtain rfl := r1.of_int
    refine s_seq ?_
    refine s_asg (K := K) (cl := cl) S (by walk_at "ev") ?_
    intro w2 G2 H2 g2 r2
    obtain ⟨rfl, rfl, -⟩ := g2.eq rfl
    obtain ⟨z1, rfl, h10, h11⟩ : ∃ z, w2 = .int z ∧ 0 ≤ z ∧ z < 2305843009213693951 := ⟨_, r2.of_int, Int.emod_nonneg _ (by decide), Int.emod_lt_of_pos _ (by decide)⟩
    refine s_seq ?_
    refine s_asg (K := K) (cl := cl) S (by walk_at "ev") ?_
    intro w3 G3 H3 g3 r3
    obtain ⟨rfl, rfl, -⟩ := g3.eq rfl
    obtain ⟨z2, rfl, h20, h21⟩ : ∃ z, w3 = .int z ∧ 0 ≤ z ∧ z < 2305843009213693951 := ⟨_, r3.of_int, Int.emod_nonneg _ (by decide), Int.emod_lt_of_pos _ (by decide)⟩
    refine s_seq ?_
    refine s_asg (K := K) (cl := cl) S (by walk_at "ev") ?_
    intro w4 G4 H4 g4 r4
    obtain ⟨rfl, rfl, -⟩ := g4.eq rfl
    obtain ⟨z3, rfl, h30, h31⟩ : ∃ z, w4 = .int z ∧ 0 ≤ z ∧ z < 2305843009213693951 := ⟨_, r4.of_int, Int.emod_nonneg _ (by decide), Int.emod_lt_of_pos _ (by decide)⟩
    refine s_seq ?_
    refine s_asg (K := K) (cl := cl) S (by walk_at "ev") ?_
    intro w5 G5 H5 g5 r5
    obtain ⟨rfl, rfl, -⟩ := g5.eq rfl
    obtain ⟨z4, rfl, h40, h41⟩ : ∃ z, w5 = .int z ∧ 0 ≤ z ∧ z < 2305843009213693951 := ⟨_, r5.of_int, Int.emod_nonneg _ (by decide), Int.emod_lt_of_pos _ (by decide)⟩
    refine s_retG S (eg_lst (K := K) (cl := cl) (F := fun v G' M' => ∃ p s, v = .ref p ∧ M' = (p, .lst [.int s]) :: M) (by walk_at "ea") (Nat.le_of_ble_eq_true rfl) fun u vs G' s r => ?_) ?_
    · obtain ⟨x, rfl, hx⟩ := reps1 r
      rw [hx.of_int]
      exact ⟨u, _, rfl, rfl⟩
    · rintro v G' H' M' s' S' ⟨p, z, rfl, rfl⟩
      exact q p z G' s' s' H' S'
theorem rd_law_digit {K : PySem.W.Frag} {cl : Nat → Addr} {vs H Q E} (h : sp_law_digit K cl vs H Q E) : t_law_digit K cl ⟨fun _ H' => Q .non H', Q, fun _ _ => False, fun _ _ => False⟩ (start ["state", "many", "digit"] vs) H := by
  obtain ⟨G, M, S, a, s, m, M0, rfl, rfl, h0, h1, q⟩ := h
  unfold t_law_digit
  refine s_seq ?_
  refine s_asg (K := K) (cl := cl) S (by walk_at "ev") ?_
  intro v G1 H1 g r
  obtain ⟨rfl, rfl, -⟩ := g.eq rfl
  obtain rfl := r.of_int
  refine s_seq ?_
  refine s_set (K := K) (cl := cl) (j := 0) S (by walk_at "ev") (by walk_at "ev") (by walk_at "ev") (fun v => Ch.hd) rfl ?_
  intro v G1 H1 s1 S1 r
  obtain rfl := r.of_int
  refine s_ret (K := K) (cl := cl) S1 (by walk_at "ev") fun w G2 H2 g2 r2 => ?_
  obtain ⟨rfl, rfl, -⟩ := g2.eq rfl
  obtain rfl := r2.of_int
  exact q _ s1 s1 _ S1
theorem rd_law_large {K : PySem.W.Frag} {cl : Nat → Addr} {vs H Q E} (h : sp_law_large K cl vs H Q E) : t_law_large K cl ⟨fun _ H' => Q .non H', Q, fun _ _ => False, fun _ _ => False⟩ (start ["script"] vs) H := by
  obtain ⟨G, M, S, v, ns, rfl, r0, q⟩ := h
  unfold t_law_large
  refine eg_state (K := K) (cl := cl) (M1 := M) (c := ns.getD 0 0) (k := 97) (E := E0) (by walk_at "ea") G H (Same.refl _) S _ ?_
  rintro x G1 H1 M1 s1 S1 ⟨p, s, rfl, rfl⟩
  refine ⟨G1, _, S1, p, s, 4, M, rfl, rfl, by decide, by decide, fun G2 s2 _ H2 S2 => ?_⟩
  refine .inl ⟨rfl, ?_⟩
  exact q _ G2 (s1.trans s2) (s1.trans s2) H2 S2.drop
theorem reps12 {K : PySem.W.Frag} {cl : Nat → Addr} {G : Hp} {vs : List V} {d0 d1 d2 d3 d4 d5 d6 d7 d8 d9 da db : D} (r : Reps K cl G vs [d0, d1, d2, d3, d4, d5, d6, d7, d8, d9, da, db]) : ∃ v0 v1 v2 v3 v4 v5 v6 v7 v8 v9 va vb, vs = [v0, v1, v2, v3, v4, v5, v6, v7, v8, v9, va, vb] ∧ Rep K cl G v0 d0 ∧ Rep K cl G v1 d1 ∧ Rep K cl G v2 d2 ∧ Rep K cl G v3 d3 ∧ Rep K cl G v4 d4 ∧ Rep K cl G v5 d5 ∧ Rep K cl G v6 d6 ∧ Rep K cl G v7 d7 ∧ Rep K cl G v8 d8 ∧ Rep K cl G v9 d9 ∧ Rep K cl G va da ∧ Rep K cl G vb db := by
  obtain ⟨v0, w0, rfl, h0, r⟩ := Reps.uncons r
  obtain ⟨v1, w1, rfl, h1, r⟩ := Reps.uncons r
  obtain ⟨v2, w2, rfl, h2, r⟩ := Reps.uncons r
  obtain ⟨v3, w3, rfl, h3, r⟩ := Reps.uncons r
  obtain ⟨v4, w4, rfl, h4, r⟩ := Reps.uncons r
  obtain ⟨v5, w5, rfl, h5, r⟩ := Reps.uncons r
  obtain ⟨v6, w6, rfl, h6, r⟩ := Reps.uncons r
  obtain ⟨v7, w7, rfl, h7, r⟩ := Reps.uncons r
  obtain ⟨v8, w8, rfl, h8, r⟩ := Reps.uncons r
  obtain ⟨v9, w9, rfl, h9, r⟩ := Reps.uncons r
  obtain ⟨va, wa, rfl, ha, r⟩ := Reps.uncons r
  obtain ⟨vb, rfl, hb⟩ := reps1 r
  exact ⟨v0, v1, v2, v3, v4, v5, v6, v7, v8, v9, va, vb, rfl, h0, h1, h2, h3, h4, h5, h6, h7, h8, h9, ha, hb⟩
theorem rd_Record_is_open {K : PySem.W.Frag} {cl : Nat → Addr} [Cf K cl] {vs H Q E} (h : sp_Record_is_open K cl vs H Q E) : t_Record_is_open K cl ⟨fun _ H' => Q .non H', Q, fun _ _ => False, fun _ _ => False⟩ (start ["self"] vs) H := by
  obtain ⟨G, M, S, x, dx, ws, r, rfl, hx, rs, q⟩ := h
  have rs0 := rs
  obtain ⟨v0, v1, v2, v3, v4, v5, v6, v7, v8, v9, va, vb, rfl, h0, h1, h2, h3, h4, h5, h6, h7, h8, h9, ha, hb⟩ := reps12 rs
  unfold t_Record_is_open
  rcases hx with ⟨M0, rfl⟩ | hg
  · refine s_ret (K := K) (cl := cl) (d := .bl r.closed.isNone) S (EvX.is (ev_op (p := true) (q := true) (r := true) (ev_fldM (p := true) (ev_var (i := 0) rfl Rep.loc) .hd (by walk_at "cf") (by walk_at "cf") rfl ha) ev_non o_isN) (by rw [optI_isNon])) fun v G1 H1 g r1 => ?_
    obtain rfl := r1.of_bl
    exact q G1 g.same g.same _ g.sep
  · have rx : Rep K cl G (.ref x) (Rec.d r) := Rep.ins hg rfl rs0
    refine s_ret (K := K) (cl := cl) (d := .bl r.closed.isNone) S (EvX.is (ev_op (p := true) (q := true) (r := true) (ev_fld (p := true) (d := optI r.closed) (ev_var (i := 0) rfl rx) (by walk_at "cf") (by walk_at "cf") rfl) ev_non o_isN) (by rw [optI_isNon])) fun v G1 H1 g r1 => ?_
    obtain rfl := r1.of_bl
    exact q G1 g.same g.same _ g.sep
theorem rd_belongs {K : PySem.W.Frag} {cl : Nat → Addr} [Cf K cl] {vs H Q E} (h : sp_belongs K cl vs H Q E) : t_belongs K cl ⟨fun _ H' => Q .non H', Q, fun _ _ => False, fun _ _ => False⟩ (start ["record", "call_id"] vs) H := by
  obtain ⟨G, M, S, ⟨x, dx, ws⟩, r, M0, vk, k, rfl, rfl, rs, rk, q⟩ := h
  have rs0 := rs
  obtain ⟨v0, v1, v2, v3, v4, v5, v6, v7, v8, v9, va, vb, rfl, h0, h1, h2, h3, h4, h5, h6, h7, h8, h9, ha, hb⟩ := reps12 rs
  unfold t_belongs
  have hdat : D.areDat [refD r.id, optRef r.parent] = true := by cases r.parent <;> rfl
  have hdep : D.deps [refD r.id, optRef r.parent] ≤ 63 := by
    cases r.parent with
    | none => show (1 : Nat) ≤ 63; decide
    | some p => show (1 : Nat) ≤ 63; decide
  have hany : (false != [refD r.id, optRef r.parent].any fun z => D.eqb z (refD k)) = (decide (r.id = k) || decide (r.parent = some k)) := by
    rw [List.any_cons, List.any_cons, List.any_nil, Bool.or_false, ref_eqb]
    cases r.parent with
    | none =>
      have : D.eqb D.non (refD k) = false := rfl
      show (false != (_ || D.eqb D.non (refD k))) = _
      rw [this]
      simp
    | some p =>
      show (false != (_ || D.eqb (refD p) (refD k))) = _
      rw [ref_eqb]
      simp
  refine s_ret (K := K) (cl := cl) (d := .bl (r.has k)) S (EvX.is (ev_andV (p := false) (q := false) (ev_methP (K := K) (cl := cl) (q := true) (p := true) (M3 := rcell cl (x, dx, [v0, v1, v2, v3, v4, v5, v6, v7, v8, v9, va, vb]) :: M0) (M4 := rcell cl (x, dx, [v0, v1, v2, v3, v4, v5, v6, v7, v8, v9, va, vb]) :: M0) (ev_var (i := 0) rfl Rep.loc) .hd rfl ea_nil (List.Perm.refl _) (List.Perm.refl _) ?_) fun _ => EvX.is (ev_op (p := true) (q := false) (r := true) (ev_var (i := 1) rfl rk) (ev_tup (p := true) (ea_cons (p := true) (ev_fldM (p := true) (ev_var (i := 0) rfl Rep.loc) .hd (by walk_at "cf") (by walk_at "cf") rfl h0) (ea_cons (p := true) (ev_fldM (p := true) (ev_var (i := 0) rfl Rep.loc) .hd (by walk_at "cf") (by walk_at "cf") rfl h7) ea_nil)) (Nat.le_of_ble_eq_true rfl)) (o_inDT rfl (by show (1 : Nat) ≤ 64; decide) hdat hdep)) (by rw [hany])) rfl) fun v G1 H1 g r1 => ?_
  · intro us G' T s' rus hT
    simp only [Reps] at rus
    subst rus
    exact ⟨x, dx, _, r, rfl, .inl ⟨M0, rfl⟩, rs0.mono s', fun G2 s2 => hT _ G2 s2 Rep.bl⟩
  · obtain rfl := r1.of_bl
    exact q G1 g.same g.same _ g.sep
theorem rd_close_record {K : PySem.W.Frag} {cl : Nat → Addr} [Cf K cl] {vs H Q E} (h : sp_close_record K cl vs H Q E) : t_close_record K cl ⟨fun _ H' => Q .non H', Q, fun _ _ => False, fun _ _ => False⟩ (start ["record", "cause", "at"] vs) H := by
  obtain ⟨G, M, S, ⟨x, dx, ws⟩, r, M0, s, t, rfl, rfl, rs, q⟩ := h
  obtain ⟨v0, v1, v2, v3, v4, v5, v6, v7, v8, v9, va, vb, rfl, h0, h1, h2, h3, h4, h5, h6, h7, h8, h9, ha, hb⟩ := reps12 rs
  unfold t_close_record
  refine s_seq ?_
  refine s_fld (K := K) (cl := cl) (d := .int t) S (ev_var (i := 2) rfl Rep.int) (ev_var (i := 0) rfl Rep.loc) (fun v => .hd) (by walk_at "cf") (by walk_at "cf") (Nat.lt_of_lt_of_le (by decide : (12 : Nat) < 13) (by decide)) ?_
  intro wa G1 H1 s1 S1 ra
  refine s_fld (K := K) (cl := cl) (d := .str s) S1 (ev_var (i := 1) rfl Rep.str) (ev_var (i := 0) rfl Rep.loc) (fun v => .hd) (by walk_at "cf") (by walk_at "cf") ?_ ?_
  · exact Nat.le_of_ble_eq_true rfl
  intro wb G2 H2 s2 S2 rb
  have sA := s1.trans s2
  refine q G2 [v0, v1, v2, v3, v4, v5, v6, v7, v8, v9, wa, wb] sA ?_ sA _ S2
  exact Reps.cons (h0.mono sA) (Reps.cons (h1.mono sA) (Reps.cons (h2.mono sA) (Reps.cons (h3.mono sA) (Reps.cons (h4.mono sA) (Reps.cons (h5.mono sA) (Reps.cons (h6.mono sA) (Reps.cons (h7.mono sA) (Reps.cons (h8.mono sA) (Reps.cons (h9.mono sA) (Reps.cons (ra.mono s2) (Reps.one rb)))))))))))
theorem rd_record_from {K : PySem.W.Frag} {cl : Nat → Addr} [Cf K cl] {vs H Q E} (h : sp_record_from K cl vs H Q E) : t_record_from K cl ⟨fun _ H' => Q .non H', Q, fun _ _ => False, fun _ _ => False⟩ (start ["entry", "_", "call_id", "role", "caller", "called", "payer", "came", "went", "parent", "at"] vs) H := by
  obtain ⟨G, M, S, ve, r, rfl, re, q⟩ := h
  unfold t_record_from
  refine s_seq ?_
  refine s_asgT (K := K) (cl := cl) S (ev_var (i := 0) rfl re) rfl rfl ?_
  intro vs G1 H1 g1 rvs
  obtain ⟨v0, w0, rfl, _, rvs⟩ := Reps.uncons rvs
  obtain ⟨v1, w1, rfl, h1, rvs⟩ := Reps.uncons rvs
  obtain ⟨v2, w2, rfl, h2, rvs⟩ := Reps.uncons rvs
  obtain ⟨v3, w3, rfl, h3, rvs⟩ := Reps.uncons rvs
  obtain ⟨v4, w4, rfl, h4, rvs⟩ := Reps.uncons rvs
  obtain ⟨v5, w5, rfl, h5, rvs⟩ := Reps.uncons rvs
  obtain ⟨v6, w6, rfl, h6, rvs⟩ := Reps.uncons rvs
  obtain ⟨v7, w7, rfl, h7, rvs⟩ := Reps.uncons rvs
  obtain ⟨v8, w8, rfl, h8, rvs⟩ := Reps.uncons rvs
  obtain ⟨v9, rfl, h9⟩ := reps1 rvs
  refine s_retG g1.sep (eg_make (K := K) (cl := cl) (p := true) (es := Rec.vals r.new) (F := fun v G' M' => ∃ c : RCell, v = .ref c.1 ∧ M' = rcell cl c :: M ∧ Reps K cl G' c.2.2 (Rec.vals r.new)) (ea_cons (p := true) (ev_var (i := 2) rfl h1) (ea_cons (p := true) (ev_var (i := 3) rfl h2) (ea_cons (p := true) (ev_var (i := 4) rfl h3) (ea_cons (p := true) (ev_var (i := 5) rfl h4) (ea_cons (p := true) (ev_var (i := 6) rfl h5) (ea_cons (p := true) (ev_var (i := 7) rfl h6) (ea_cons (p := true) (ev_var (i := 8) rfl h7) (ea_cons (p := true) (ev_var (i := 9) rfl h8) (ea_cons (p := true) (ev_var (i := 10) rfl h9) ea_nil))))))))) ⟨rfl, rfl⟩ ?_) ?_
  · intro x dx ws G' s' _ rs'
    exact ⟨(x, dx, ws), rfl, rfl, rs'⟩
  · rintro _ G2 H2 _ s2 S2 ⟨c, rfl, rfl, rc⟩
    have sA := g1.same.trans s2
    exact q G2 c sA rc sA _ S2
theorem s_appG {K : PySem.W.Frag} {cl : Nat → Addr} {p : Bool} {G H : Hp} {M M1 : ML} {σ : St} {ta te : TE} {F : FG} {a : Addr} {us : List V} {nx : St → Hp → Prop} {rt : VK} {bk ct : St → Hp → Prop} (S : Sep G H M) (ha : EvX K cl p ta σ G M (.loc a) M1) (hm0 : At M1 a (.lst us)) (he : EvG te σ G M1 F)
    (hk : ∀ v G' H' M2, Same G G' → Sep G' H' M2 → F v G' M2 → ∃ vs M3, Ch M2 a (.lst vs) (.lst (vs ++ [v])) M3 ∧ vs.length < 10000000 ∧ ∀ H'', Sep G' H'' M3 → nx σ H'') : tDrop (tBM K "list" rAppend ta (tCons te tNil)) ⟨nx, rt, bk, ct⟩ σ H :=
  ha G H (Same.refl _) S _ fun x G2 H2 g2 rx => ⟨by
    rw [rx.of_loc]
    exact .inl ⟨rfl, us, .inl (.inl (g2.sep.look hm0))⟩, he G2 H2 g2.same g2.sep _ fun v G3 H3 M2 s3 S3 hF => by
    obtain ⟨vs, M3, hc, hl, k⟩ := hk v G3 H3 M2 (g2.same.trans s3) S3 hF
    exact ⟨a, vs, v, rx.of_loc, rfl, S3.look hc.at, Nat.lt_of_lt_of_le hl (by decide), k _ (S3.ch hc)⟩⟩
theorem paired_app {α β : Type} {P : α → β → Prop} : ∀ {l l' : List α} {m m' : List β}, Paired P l m → Paired P l' m' → Paired P (l ++ l') (m ++ m')
  | _, _, _, _, .nil, h => h
  | _, _, _, _, .cons p t, h => .cons p (paired_app t h)
/-- close_record(record, e, e) -/
theorem s_close {K : PySem.W.Frag} {cl : Nat → Addr} {p q : Bool} {G H : Hp} {R : ML} {σ : St} {ta tb : TE} {c : RCell} {r : Rec} {s : Str} {t : Int} {nx : St → Hp → Prop} {rt : VK} {bk ct : St → Hp → Prop} (S : Sep G H (rcell cl c :: R)) (rc : Reps K cl G c.2.2 (Rec.vals r)) (h3 : σ[3]? = some (some (.ref c.1)))
    (ha : EvX K cl p ta σ G (rcell cl c :: R) (.str s) (rcell cl c :: R)) (hb : EvX K cl q tb σ G (rcell cl c :: R) (.int t) (rcell cl c :: R)) (k : ∀ G' H' ws, Same G G' → Sep G' H' (rcell cl (c.1, c.2.1, ws) :: R) → Reps K cl G' ws (Rec.vals (r.close s t)) → nx σ H') :
    tDrop (tCall (sp_close_record K cl) [] E0 (tCons (tVar 3) (tCons ta (tCons tb tNil)))) ⟨nx, rt, bk, ct⟩ σ H := by
  refine s_dropG S (eg_callP (K := K) (cl := cl) (F := fun _ G' M' => ∃ ws, M' = rcell cl (c.1, c.2.1, ws) :: R ∧ Reps K cl G' ws (Rec.vals (r.close s t))) (ds := [.loc c.1, .str s, .int t]) (ea_cons (p := true) (ev_var (i := 3) h3 Rep.loc) (ea_cons ha (ea_cons hb ea_nil))) (List.Perm.refl _) ?_) ?_
  · intro vs G' T s' rvs hT
    obtain ⟨u1, u2, u3, rfl, e1, e2, e3⟩ := reps3 rvs
    obtain rfl := e1.of_loc
    obtain rfl := e2.of_str
    obtain rfl := e3.of_int
    exact ⟨c, r, R, s, t, rfl, rfl, rc.mono s', fun G2 ws s2 r2 => hT _ G2 _ s2 ⟨ws, rfl, r2⟩⟩
  · rintro _ G' H' _ s' S' ⟨ws, rfl, r2⟩
    exact k G' H' ws s' S' r2
/-- belongs(record, e) -/
theorem et_belongs {K : PySem.W.Frag} {cl : Nat → Addr} {p : Bool} {G : Hp} {R : ML} {σ : St} {tb : TE} {c : RCell} {r : Rec} {k : Ref} (rc : Reps K cl G c.2.2 (Rec.vals r)) (h3 : σ[3]? = some (some (.ref c.1))) (hb : EvX K cl p tb σ G (rcell cl c :: R) (refD k) (rcell cl c :: R)) :
    EvT K cl false (tTr K (tCall (sp_belongs K cl) [] E0 (tCons (tVar 3) (tCons tb tNil)))) σ G (rcell cl c :: R) (r.has k) (rcell cl c :: R) := by
  refine et_tr (d := .bl (r.has k)) (ev_callP (K := K) (cl := cl) (M2 := rcell cl c :: R) (M3 := rcell cl c :: R) (ds := [.loc c.1, refD k]) (ea_cons (p := true) (ev_var (i := 3) h3 Rep.loc) (ea_cons hb ea_nil)) (List.Perm.refl _) (List.Perm.refl _) ?_) rfl
  intro vs G' T s' rvs hT
  obtain ⟨u1, u2, rfl, e1, e2⟩ := reps2 rvs
  obtain rfl := e1.of_loc
  exact ⟨c, r, R, u2, k, rfl, rfl, rc.mono s', e2, fun G2 s2 => hT _ G2 s2 Rep.bl⟩
theorem rd_fold_entry {K : PySem.W.Frag} {cl : Nat → Addr} [Cf K cl] {vs H Q E} (h : sp_fold_entry K cl vs H Q E) : t_fold_entry K cl ⟨fun _ H' => Q .non H', Q, fun _ _ => False, fun _ _ => False⟩ (start ["records", "entry", "kind", "record"] vs) H := by
  obtain ⟨G, M, S, u, cs, rs, M0, ve, e, rfl, rfl, P, hl, re, q⟩ := h
  unfold t_fold_entry
  refine s_seq ?_
  have kind : ∃ k es, e.d = .tup (.str k :: es) := by cases e <;> exact ⟨_, _, rfl⟩
  obtain ⟨k, es, hk⟩ := kind
  refine s_asg (K := K) (cl := cl) (d := .str k) S (ev_op (p := true) (q := true) (r := true) (EvX.is (ev_var (i := 1) rfl re) hk) ev_int (o_ixT (i := 0) (show atI (D.str k :: es) ((0 : Nat) : Int) = some (D.str k) from atI_nat rfl))) ?_
  intro w2 G1 H1 g1 q2
  obtain rfl := q2.of_str
  have s1 := g1.same
  have S1 := g1.sep
  clear g1 q2
  have tst : ∀ (x : Str) (y : Option V) (G' : Hp) (M' : ML), EvT K cl true (tTest (tOp (rEqA K) (tVar 2) (tC (.str x)))) [some (.ref u), some ve, some (.str k), y] G' M' (decide (k = x)) M' := fun x y G' M' => et_test (ev_op (p := true) (q := true) (r := true) (ev_var (i := 2) rfl Rep.str) ev_str (o_eq rfl))
  have re1 := re.mono s1
  have P1 := CellsR.mono s1 P
  cases e with
  | opn r =>
    obtain rfl : (Str.ofString "open") = k := by injection hk with h; injection h with h; injection h
    refine s_if (K := K) (cl := cl) S1 (tst _ _ _ _) ?_ ?_
    · intro G2 H2 g2 _
      refine s_appG (K := K) (cl := cl) (p := true) (us := cs.map fun c => V.ref c.1) (F := fun v G' M' => ∃ c : RCell, v = .ref c.1 ∧ M' = rcell cl c :: (u, .lst (cs.map fun c => V.ref c.1)) :: (cs.map (rcell cl) ++ M0) ∧ Reps K cl G' c.2.2 (Rec.vals r.new)) g2.sep (ev_var (i := 0) rfl Rep.loc) .hd (eg_callP (K := K) (cl := cl) (p := true) (ds := [Ent.d (.opn r)]) (ea_cons (p := true) (ev_var (i := 1) rfl (re1.mono g2.same)) ea_nil) (List.Perm.refl _) ?_) ?_
      · intro us G' T s' rus hT
        obtain ⟨w, rfl, hw⟩ := reps1 rus
        exact ⟨w, r, rfl, hw, fun G3 c s3 rc => hT _ G3 _ s3 ⟨c, rfl, rfl, rc⟩⟩
      · rintro _ G3 H3 _ s3 S3 ⟨c, rfl, rfl, rc⟩
        refine ⟨_, _, .tl .hd, by rw [List.length_map]; omega, fun H4 S4 => ?_⟩
        have sA := s1.trans (g2.same.trans s3)
        refine q G3 (cs ++ [c]) sA ?_ sA H4 (S4.perm ?_)
        · have P3 := CellsR.mono (g2.same.trans s3) P1
          show CellsR K cl G3 (cs ++ [c]) (rs ++ [r.new])
          exact paired_app P3 (.cons rc .nil)
        · rw [List.map_append, List.map_append]
          have h1 : (rcell cl c :: ((u, HO.lst ((cs.map fun c => V.ref c.1) ++ [V.ref c.1])) :: (cs.map (rcell cl) ++ M0))).Perm ((u, HO.lst ((cs.map fun c => V.ref c.1) ++ [V.ref c.1])) :: (rcell cl c :: (cs.map (rcell cl) ++ M0))) := List.Perm.swap _ _ _
          refine h1.trans (List.Perm.cons _ ?_)
          rw [List.append_assoc]
          exact List.perm_middle.symm
    · intro G2 H2 g2 hb
      rw [decide_eq_true rfl] at hb
      cases hb
  | boot n t =>
    obtain rfl : (Str.ofString "boot") = k := by injection hk with h; injection h with h; injection h
    refine s_if (K := K) (cl := cl) (b := false) S1 (EvT.is (tst _ _ _ _) (by decide +kernel)) (fun _ _ _ h => nomatch h) fun G2 H2 g2 _ => ?_
    refine s_if (K := K) (cl := cl) (b := true) g2.sep (EvT.is (tst _ _ _ _) (by decide +kernel)) (fun G3 H3 g3 _ => ?_) fun _ _ _ h => nomatch h
    have sA := s1.trans (g2.same.trans g3.same)
    refine s_cells (K := K) (cl := cl) (f := fun r => if r.closed.isNone then r.close "crashed" t else r) g3.sep (CellsR.mono (g2.same.trans g3.same) P1) (fun c r G' H' R nx' bk' ct' s' S' rc kk => ?_) fun y' G' H' cs' s' S' P' => q G' cs' (sA.trans s') P' (sA.trans s') H' S'
    refine s_if (K := K) (cl := cl) (b := r.closed.isNone) S' (et_tr (d := .bl r.closed.isNone) (ev_methP (K := K) (cl := cl) (q := true) (p := true) (M3 := rcell cl c :: R) (M4 := rcell cl c :: R) (ev_var (i := 3) rfl Rep.loc) .hd (zip_none rfl) ea_nil (List.Perm.refl _) (List.Perm.refl _) ?_) rfl) ?_ ?_
    · intro us G'' T s'' rus hT
      simp only [Reps] at rus
      subst rus
      exact ⟨c.1, c.2.1, c.2.2, r, rfl, .inl ⟨R, rfl⟩, rc.mono s'', fun G3 s3 => hT _ G3 s3 Rep.bl⟩
    · intro G4 H4 g4 hb
      refine s_close (K := K) (cl := cl) (p := true) (q := true) (s := "crashed") (t := t) g4.sep (rc.mono g4.same) rfl ev_str (ev_op (p := true) (q := true) (r := true) (ev_var (i := 1) rfl (re1.mono (g2.same.trans (g3.same.trans (s'.trans g4.same))))) ev_int (o_ixT (i := 2) (d := .int t) rfl)) fun G5 H5 ws s5 S5 r5 => kk G5 H5 ws (g4.same.trans s5) S5 ?_
      show Reps K cl G5 ws (Rec.vals (if r.closed.isNone = true then _ else r))
      rw [if_pos hb]
      exact r5
    · intro G4 H4 g4 hb
      refine s_next (kk G4 H4 c.2.2 g4.same g4.sep ?_)
      show Reps K cl G4 c.2.2 (Rec.vals (if r.closed.isNone = true then _ else r))
      rw [if_neg (by rw [hb]; decide)]
      exact rc.mono g4.same
  | mark kk n =>
    obtain rfl : (Str.ofString "mark") = k := by injection hk with h; injection h with h; injection h
    refine s_if (K := K) (cl := cl) (b := false) S1 (EvT.is (tst _ _ _ _) (by decide +kernel)) (fun _ _ _ h => nomatch h) fun G2 H2 g2 _ => ?_
    refine s_if (K := K) (cl := cl) (b := false) g2.sep (EvT.is (tst _ _ _ _) (by decide +kernel)) (fun _ _ _ h => nomatch h) fun Ga Ha ga _ => ?_
    refine s_if (K := K) (cl := cl) (b := true) ga.sep (EvT.is (tst _ _ _ _) (by decide +kernel)) (fun G3 H3 g3 _ => ?_) fun _ _ _ h => nomatch h
    have sB := g2.same.trans (ga.same.trans g3.same)
    have sA := s1.trans sB
    refine s_cells (K := K) (cl := cl) (f := fun r => if r.has kk then { r with conf := n } else r) g3.sep (CellsR.mono sB P1) (fun c r G' H' R nx' bk' ct' s' S' rc kont => ?_) fun y' G' H' cs' s' S' P' => q G' cs' (sA.trans s') P' (sA.trans s') H' S'
    have re' := re1.mono (sB.trans s')
    refine s_if (K := K) (cl := cl) (b := r.has kk) S' (et_belongs (K := K) (cl := cl) rc rfl (ev_op (p := true) (q := true) (r := true) (ev_var (i := 1) rfl re') ev_int (o_ixT (i := 1) (d := refD kk) rfl))) ?_ ?_
    · intro G4 H4 g4 hb
      obtain ⟨x, dx, ws⟩ := c
      obtain ⟨v0, v1, v2, v3, v4, v5, v6, v7, v8, v9, va, vb, rfl, h0, h1, h2, h3, h4, h5, h6, h7, h8, h9, ha, hb'⟩ := reps12 rc
      refine s_fld (K := K) (cl := cl) (d := .int n) g4.sep (ev_op (p := true) (q := true) (r := true) (ev_var (i := 1) rfl (re'.mono g4.same)) ev_int (o_ixT (i := 2) (d := .int n) rfl)) (ev_var (i := 3) rfl Rep.loc) (fun v => .hd) (by walk_at "cf") (by walk_at "cf") (Nat.le_of_ble_eq_true rfl) ?_
      intro w G5 H5 s5 S5 r5
      have sC := g4.same.trans s5
      refine kont G5 H5 [v0, v1, v2, v3, v4, v5, v6, v7, v8, w, va, vb] sC S5 ?_
      show Reps K cl G5 _ (Rec.vals (if r.has kk = true then _ else r))
      rw [if_pos hb]
      exact Reps.cons (h0.mono sC) (Reps.cons (h1.mono sC) (Reps.cons (h2.mono sC) (Reps.cons (h3.mono sC) (Reps.cons (h4.mono sC) (Reps.cons (h5.mono sC) (Reps.cons (h6.mono sC) (Reps.cons (h7.mono sC) (Reps.cons (h8.mono sC) (Reps.cons r5 (Reps.cons (ha.mono sC) (Reps.one (hb'.mono sC))))))))))))
    · intro G4 H4 g4 hb
      refine s_next (kont G4 H4 c.2.2 g4.same g4.sep ?_)
      show Reps K cl G4 c.2.2 (Rec.vals (if r.has kk = true then _ else r))
      rw [if_neg (by rw [hb]; decide)]
      exact rc.mono g4.same
  | close kk c0 t =>
    obtain rfl : (Str.ofString "close") = k := by injection hk with h; injection h with h; injection h
    refine s_if (K := K) (cl := cl) (b := false) S1 (EvT.is (tst _ _ _ _) (by decide +kernel)) (fun _ _ _ h => nomatch h) fun G2 H2 g2 _ => ?_
    refine s_if (K := K) (cl := cl) (b := false) g2.sep (EvT.is (tst _ _ _ _) (by decide +kernel)) (fun _ _ _ h => nomatch h) fun Ga Ha ga _ => ?_
    refine s_if (K := K) (cl := cl) (b := false) ga.sep (EvT.is (tst _ _ _ _) (by decide +kernel)) (fun _ _ _ h => nomatch h) fun Gb Hb gb _ => ?_
    refine s_if (K := K) (cl := cl) (b := true) gb.sep (EvT.is (tst _ _ _ _) (by decide +kernel)) (fun G3 H3 g3 _ => ?_) fun _ _ _ h => nomatch h
    have sB := g2.same.trans (ga.same.trans (gb.same.trans g3.same))
    have sA := s1.trans sB
    refine s_cells (K := K) (cl := cl) (f := fun r => if r.has kk then r.close c0 t else r) g3.sep (CellsR.mono sB P1) (fun c r G' H' R nx' bk' ct' s' S' rc kont => ?_) fun y' G' H' cs' s' S' P' => q G' cs' (sA.trans s') P' (sA.trans s') H' S'
    have re' := re1.mono (sB.trans s')
    refine s_if (K := K) (cl := cl) (b := r.has kk) S' (et_belongs (K := K) (cl := cl) rc rfl (ev_op (p := true) (q := true) (r := true) (ev_var (i := 1) rfl re') ev_int (o_ixT (i := 1) (d := refD kk) rfl))) ?_ ?_
    · intro G4 H4 g4 hb
      refine s_close (K := K) (cl := cl) (p := true) (q := true) (s := c0) (t := t) g4.sep (rc.mono g4.same) rfl (ev_op (p := true) (q := true) (r := true) (ev_var (i := 1) rfl (re'.mono g4.same)) ev_int (o_ixT (i := 2) (d := .str c0) rfl)) (ev_op (p := true) (q := true) (r := true) (ev_var (i := 1) rfl (re'.mono g4.same)) ev_int (o_ixT (i := 3) (d := .int t) rfl)) fun G5 H5 ws s5 S5 r5 => kont G5 H5 ws (g4.same.trans s5) S5 ?_
      show Reps K cl G5 ws (Rec.vals (if r.has kk = true then _ else r))
      rw [if_pos hb]
      exact r5
    · intro G4 H4 g4 hb
      refine s_next (kont G4 H4 c.2.2 g4.same g4.sep ?_)
      show Reps K cl G4 c.2.2 (Rec.vals (if r.has kk = true then _ else r))
      rw [if_neg (by rw [hb]; decide)]
      exact rc.mono g4.same
theorem sep_cells {K : PySem.W.Frag} {cl : Nat → Addr} {H : Hp} {M0 : ML} : ∀ {cs : List RCell} {rs : List Rec} {G : Hp}, Sep G H (cs.map (rcell cl) ++ M0) → CellsR K cl G cs rs → ∃ G', Same G G' ∧ Sep G' H M0 ∧ Reps K cl G' (cs.map fun c => V.ref c.1) (rs.map Rec.d)
  | _, _, G, S, .nil => ⟨G, Same.refl _, S, Reps.nil⟩
  | c :: cs, r :: rs, G, S, .cons h t => by
    have hl : rns.length = c.2.2.length := by rw [h.length]; rfl
    obtain ⟨G1, s1, S1, r1⟩ := Sep.ins (K := K) (cl := cl) (c := 1) (ns := rns) (vs := c.2.2) (ds := Rec.vals r) S hl h
    obtain ⟨G2, s2, S2, r2⟩ := sep_cells S1 (CellsR.mono s1 t)
    exact ⟨G2, s1.trans s2, S2, Reps.cons (r1.mono s2) r2⟩
theorem foldE_len {rs : List Rec} {e : Ent} : (foldE rs e).length ≤ rs.length + 1 := by
  cases e <;> simp [foldE]
theorem rd_records_of {K : PySem.W.Frag} {cl : Nat → Addr} [Cf K cl] {vs H Q E} (h : sp_records_of K cl vs H Q E) : t_records_of K cl ⟨fun _ H' => Q .non H', Q, fun _ _ => False, fun _ _ => False⟩ (start ["entries", "records", "entry"] vs) H := by
  obtain ⟨G, M, S, v, es, rfl, rv, hl, q⟩ := h
  unfold t_records_of
  refine s_seq ?_
  refine s_asgG S eg_nil ?_
  rintro _ G1 H1 _ s1 S1 ⟨u, rfl, rfl⟩
  refine s_seq ?_
  apply s_forL (K := K) (cl := cl) (ds := List.map Ent.d es) (fun i σ G' M' => ∃ (y : Option V) (cs : List RCell) (rs : List Rec), σ = [some v, some (.ref u), y] ∧ M' = (u, .lst (cs.map fun c => V.ref c.1)) :: (cs.map (rcell cl) ++ M) ∧ CellsR K cl G' cs rs ∧ rs = recsF (es.take i) ∧ rs.length ≤ i) S1
  · exact ev_var (i := 0) rfl (rv.mono s1)
  · intro G2 H2 g2
    exact ⟨_, [], [], rfl, rfl, .nil, rfl, Nat.zero_le _⟩
  · rintro G2 s2 i x d σ' G3 H3 M3 hd s3 S3 r3 ⟨y, cs, rs, rfl, rfl, P, hrs, hrl⟩
    rw [List.getElem?_map] at hd
    cases hx : es[i]? with
    | none => rw [hx] at hd; cases hd
    | some e =>
    rw [hx] at hd
    cases hd
    have hi := (List.getElem?_eq_some_iff.mp hx).1
    refine s_gname ?_
    refine s_dropG S3 (eg_callP (K := K) (cl := cl) (p := true) (F := fun _ G' M' => ∃ cs' : List RCell, M' = (u, .lst (cs'.map fun c => V.ref c.1)) :: (cs'.map (rcell cl) ++ M) ∧ CellsR K cl G' cs' (foldE rs e)) (ds := [.loc u, Ent.d e]) (ea_cons (p := true) (ev_var (i := 1) rfl Rep.loc) (ea_cons (p := true) (ev_var (i := 2) rfl r3) ea_nil)) (List.Perm.refl _) ?_) ?_
    · intro us G' T s' rus hT
      obtain ⟨u1, u2, rfl, e1, e2⟩ := reps2 rus
      obtain rfl := e1.of_loc
      exact ⟨u, cs, rs, M, u2, e, rfl, rfl, P.mono s', by rw [paired_len P]; omega, e2, fun G4 cs' s4 P4 => hT _ G4 _ s4 ⟨cs', rfl, P4⟩⟩
    · rintro _ G4 H4 _ s4 S4 ⟨cs', rfl, P4⟩
      refine ⟨G4, _, s3.trans s4, S4, _, cs', _, rfl, rfl, P4, ?_, ?_⟩
      · unfold recsF
        rw [List.take_add_one, hx, List.foldl_append, hrs]
        rfl
      · have := foldE_len (rs := rs) (e := e)
        omega
  rintro σ' G2 H2 M2 s2 S2 ⟨y, cs, rs, rfl, rfl, P, hrs, hrl⟩
  rw [List.length_map, List.take_length] at hrs
  obtain ⟨G3, s3, S3, r3⟩ := sep_cells (S2.perm List.perm_middle.symm) P
  obtain ⟨G4, s4, S4, r4⟩ := S3.lst r3
  refine s_ret (K := K) (cl := cl) S4 (ev_var (i := 1) rfl r4) fun w G5 H5 g5 r5 => ?_
  have sA := s1.trans (s2.trans (s3.trans (s4.trans g5.same)))
  exact q G5 w sA (hrs ▸ r5) sA _ g5.sep
theorem rd_legs_by_circuit {K : PySem.W.Frag} {cl : Nat → Addr} [Cf K cl] {vs H Q E} (h : sp_legs_by_circuit K cl vs H Q E) : t_legs_by_circuit K cl ⟨fun _ H' => Q .non H', Q, fun _ _ => False, fun _ _ => False⟩ (start ["records", "found", "record"] vs) H := by
  obtain ⟨G, M, S, v, rs, rfl, rv, hl, hok, q⟩ := h
  unfold t_legs_by_circuit
  refine s_seq ?_
  refine s_asgG S (eg_newN (F := fun v G' M' => ∃ d, v = .ref d ∧ M' = (d, nD d 0 []) :: M) (fun d => ⟨d, rfl, rfl⟩) fun _ _ _ _ h => h) ?_
  rintro _ G1 H1 _ s1 S1 ⟨d, rfl, rfl⟩
  refine s_seq ?_
  refine s_group (K := K) (cl := cl) (rs := rs) (sel := legSel) S1 (rv.mono s1) hl (fun r G' M' x hr rx => ?_) (fun r k G' M' x hr hs rx => ?_) fun ep kvs T y' G2 H2 s2 S2 nr gi => ?_
  · refine EvT.is (et_test (ev_op (p := true) (q := true) (r := true) (ev_fld (p := true) (d := .str r.role) (ev_var (i := 2) rfl rx) (by walk_at "cf") (by walk_at "cf") rfl) (ev_cref Cf.ct_LEG_ROLES) (o_inS (xs := [Str.ofString "transit", Str.ofString "end"])))) ?_
    unfold legSel
    by_cases hc : r.role = "transit" ∨ r.role = "end"
    · rw [if_pos hc, (hok r hr).leg hc]
      exact decide_eq_true (by simpa using hc)
    · rw [if_neg hc]
      exact decide_eq_false (by simpa using hc)
  · have hc : r.came = some k := by
      unfold legSel at hs
      split at hs
      · exact hs
      · cases hs
    exact EvX.is (ev_fld (p := true) (d := optRef r.came) (ev_var (i := 2) rfl rx) (by walk_at "cf") (by walk_at "cf") rfl) (by rw [hc]; rfl)
  · have S3 := S2.perm (List.perm_middle (l₁ := cellsT T) (l₂ := M) (a := (d, nD d ep kvs))).symm
    obtain ⟨G3, s3, S4, n3⟩ := sep_groups S3 nr gi.r
    have e : stT T = legsF rs := by
      have := gi.st
      rw [List.take_length] at this
      exact this
    rw [e] at n3
    refine s_ret (K := K) (cl := cl) S4 (ev_var (i := 1) rfl Rep.loc) fun w G4 H4 g4 r4 => ?_
    obtain rfl := r4.of_loc
    have sA := s1.trans (s2.trans (s3.trans g4.same))
    exact q G4 d ep kvs sA (n3.mono g4.same) sA _ g4.sep
theorem rd_sides_by_parent {K : PySem.W.Frag} {cl : Nat → Addr} [Cf K cl] {vs H Q E} (h : sp_sides_by_parent K cl vs H Q E) : t_sides_by_parent K cl ⟨fun _ H' => Q .non H', Q, fun _ _ => False, fun _ _ => False⟩ (start ["records", "found", "record"] vs) H := by
  obtain ⟨G, M, S, v, rs, rfl, rv, hl, hok, q⟩ := h
  unfold t_sides_by_parent
  refine s_seq ?_
  refine s_asgG S (eg_newN (F := fun v G' M' => ∃ d, v = .ref d ∧ M' = (d, nD d 0 []) :: M) (fun d => ⟨d, rfl, rfl⟩) fun _ _ _ _ h => h) ?_
  rintro _ G1 H1 _ s1 S1 ⟨d, rfl, rfl⟩
  refine s_seq ?_
  refine s_group (K := K) (cl := cl) (rs := rs) (sel := sideSel) S1 (rv.mono s1) hl (fun r G' M' x hr rx => ?_) (fun r k G' M' x hr hs rx => ?_) fun ep kvs T y' G2 H2 s2 S2 nr gi => ?_
  · refine EvT.is (et_test (ev_op (p := true) (q := true) (r := true) (ev_fld (p := true) (d := .str r.role) (ev_var (i := 2) rfl rx) (by walk_at "cf") (by walk_at "cf") rfl) ev_str (o_eq rfl))) ?_
    unfold sideSel
    by_cases hc : r.role = "divert"
    · rw [if_pos hc, (hok r hr).side hc]
      exact decide_eq_true hc
    · rw [if_neg hc]
      exact decide_eq_false hc
  · have hc : r.parent = some k := by
      unfold sideSel at hs
      split at hs
      · exact hs
      · cases hs
    exact EvX.is (ev_fld (p := true) (d := optRef r.parent) (ev_var (i := 2) rfl rx) (by walk_at "cf") (by walk_at "cf") rfl) (by rw [hc]; rfl)
  · have S3 := S2.perm (List.perm_middle (l₁ := cellsT T) (l₂ := M) (a := (d, nD d ep kvs))).symm
    obtain ⟨G3, s3, S4, n3⟩ := sep_groups S3 nr gi.r
    have e : stT T = sidesF rs := by
      have := gi.st
      rw [List.take_length] at this
      exact this
    rw [e] at n3
    refine s_ret (K := K) (cl := cl) S4 (ev_var (i := 1) rfl Rep.loc) fun w G4 H4 g4 r4 => ?_
    obtain rfl := r4.of_loc
    have sA := s1.trans (s2.trans (s3.trans g4.same))
    exact q G4 d ep kvs sA (n3.mono g4.same) sA _ g4.sep
theorem find_skip {α : Type} {p : α → Bool} {l : List α} {i : Nat} {a : α} (h : l[i]? = some a) (h0 : (l.take i).find? p = none) : (p a = true → l.find? p = some a) ∧ (p a = false → (l.take (i + 1)).find? p = none) := by
  constructor
  · intro ha
    obtain ⟨hi, e⟩ := List.getElem?_eq_some_iff.mp h
    have : l = l.take i ++ a :: l.drop (i + 1) := by
      rw [← e, ← List.drop_eq_getElem_cons hi, List.take_append_drop]
    rw [this, List.find?_append, h0, List.find?_cons, ha]
    rfl
  · intro ha
    rw [List.take_add_one, h, List.find?_append, h0]
    simp [ha]
theorem rd_next_leg {K : PySem.W.Frag} {cl : Nat → Addr} [Cf K cl] {vs H Q E} (h : sp_next_leg K cl vs H Q E) : t_next_leg K cl ⟨fun _ H' => Q .non H', Q, fun _ _ => False, fun _ _ => False⟩ (start ["legs", "reference", "used", "record"] vs) H := by
  obtain ⟨G, M, S, dl, du, ep, ep2, kvs, kvs2, legs, us, vr, ref, M0, rfl, rfl, nl, nu, rr, q⟩ := h
  unfold t_next_leg
  refine s_seq ?_
  refine s_if (K := K) (cl := cl) (b := ref.isNone) S (EvT.is (et_test (ev_op (p := true) (q := true) (r := true) (ev_var (i := 1) rfl rr) ev_non o_isN)) (by rw [optRef_isNon])) ?_ ?_
  · intro G1 H1 g1 hb
    have hn : ref = none := by simpa using hb
    subst hn
    refine s_ret (K := K) (cl := cl) (d := .non) g1.sep ev_non fun v G2 H2 g2 r2 => ?_
    have sA := g1.same.trans g2.same
    exact q G2 v sA r2 sA _ g2.sep
  intro G1 H1 g1 hb
  obtain ⟨k, rfl⟩ : ∃ k, ref = some k := by
    cases ref with
    | none => cases hb
    | some k => exact ⟨k, rfl⟩
  have s1 := g1.same
  refine s_next ?_
  refine s_seq ?_
  have nl1 := nl.mono s1
  have nu1 := nu.mono s1
  have rr1 := rr.mono s1
  have hv : (valG (grpD legs) (refK k)).getD (.lst []) = .lst (((valG legs k).getD []).map Rec.d) := by
    rw [grpD_val]
    cases valG legs k <;> rfl
  have hq : nextF legs (some k) us = ((valG legs k).getD []).find? fun r => !decide (r.id ∈ us) := rfl
  rw [hq] at q
  generalize (valG legs k).getD [] = L at hv q
  apply s_forL (K := K) (cl := cl) (p := false) (ds := L.map Rec.d) (fun i σ G' M' => ∃ y3, σ = [some (.ref dl), some vr, some (.ref du), y3] ∧ M' = (dl, nD dl ep kvs) :: (du, nD du ep2 kvs2) :: M0 ∧ (L.take i).find? (fun r => !decide (r.id ∈ us)) = none) g1.sep
  · exact EvX.is (ev_nget2 (p := true) (q := true) (r := false) (k := refK k) (d2 := .lst []) (ev_var (i := 0) rfl Rep.loc) (ev_var (i := 1) rfl rr1) (ev_lst (p := true) ea_nil (Nat.zero_le _)) rfl isNK_refK .hd .hd nl1) hv
  · intro G2 H2 g2
    exact ⟨_, rfl, rfl, rfl⟩
  · rintro G2 s2 i x d σ' G3 H3 M3 hd s3 S3 r3 ⟨y3, rfl, rfl, hf⟩
    rw [List.getElem?_map] at hd
    cases hx : L[i]? with
    | none => rw [hx] at hd; cases hd
    | some r =>
    rw [hx] at hd
    cases hd
    obtain ⟨f1, f2⟩ := find_skip hx hf
    refine s_gname ?_
    refine s_if (K := K) (cl := cl) (b := !decide (r.id ∈ us)) S3 (EvT.is (et_test (ev_nin (p := true) (q := true) (k := refK r.id) (ev_fld (p := true) (d := refD r.id) (ev_var (i := 3) rfl r3) (by walk_at "cf") (by walk_at "cf") rfl) (ev_var (i := 2) rfl Rep.loc) rfl isNK_refK (.tl .hd) ((nu1.mono s2).mono s3))) (by rw [idsD_val]; simp)) ?_ ?_
    · intro G4 H4 g4 hc
      refine s_ret (K := K) (cl := cl) g4.sep (ev_var (i := 3) rfl (r3.mono g4.same)) fun v G5 H5 g5 r5 => ?_
      have sA := s1.trans (s2.trans (s3.trans (g4.same.trans g5.same)))
      exact q G5 v sA (by rw [f1 hc]; exact r5) sA _ g5.sep
    · intro G4 H4 g4 hc
      exact s_next ⟨G4, _, s3.trans g4.same, g4.sep, _, rfl, rfl, f2 hc⟩
  rintro σ' G2 H2 M2 s2 S2 ⟨y3, rfl, rfl, hf⟩
  rw [List.length_map, List.take_length] at hf
  refine s_ret (K := K) (cl := cl) (d := .non) S2 ev_non fun v G3 H3 g3 r3 => ?_
  have sA := s1.trans (s2.trans g3.same)
  exact q G3 v sA (by rw [hf]; exact r3) sA _ g3.sep
theorem eg_ndisp1 {K : PySem.W.Frag} {cl : Nat → Addr} {p q : Bool} {G : Hp} {M : ML} {σ : St} {tk tv : TE} {k : NestedKey} {d : D} {F : FG} (i : IsNK k) (hk : ∀ a : Addr, EvX K cl p tk σ G ((a, nD a 0 []) :: M) (keyD k) ((a, nD a 0 []) :: M)) (hv : ∀ a : Addr, EvX K cl q tv σ G ((a, nD a 0 []) :: M) d ((a, nD a 0 []) :: M))
    (hF : ∀ a ep kvs G', Same G G' → NRep K cl G' kvs [(k, d)] → F (.ref a) G' ((a, nD a ep kvs) :: M)) : EvG (tNDisp1 K cl tk tv) σ G M F := fun G1 H1 s S Q kk a ha =>
  hk a G1 _ s (S.newM ha) _ fun y G2 H2 g2 ry => hv a G2 H2 (s.trans g2.same) g2.sep _ fun v G3 H3 g3 rv => by
    have ry3 := ry.mono g3.same
    obtain ⟨b, rfl⟩ := nkey_ref ry3 i
    refine ⟨g3.sep.look .hd, b, k, rfl, ry3.mono g3.sep.sub, i.low, fun ep' => ?_⟩
    exact kk (.ref a) G3 _ _ (g2.same.trans g3.same) (g3.sep.ch .hd) (hF a ep' _ G3 (s.trans (g2.same.trans g3.same)) (.cons ⟨rfl, ry3, i.low, rv⟩ .nil))
theorem idsD_put {us : List Ref} {k : Ref} (h : k ∉ us) : putG (idsD us) (refK k) (D.bl true) = idsD (us ++ [k]) := by
  unfold putG
  rw [idsD_val, decide_eq_false h]
  simp
theorem rd_path_of {K : PySem.W.Frag} {cl : Nat → Addr} [Cf K cl] {vs H Q E} (h : sp_path_of K cl vs H Q E) : t_path_of K cl ⟨fun _ H' => Q .non H', Q, fun _ _ => False, fun _ _ => False⟩ (start ["head", "legs", "path", "used", "leg"] vs) H := by
  obtain ⟨G, M, S, dl, ep, kvs, legs, vh, h, M0, rfl, rfl, nl, hl, rh, q⟩ := h
  unfold t_path_of
  refine s_seq ?_
  refine s_asgG S (eg_lst (K := K) (cl := cl) (p := true) (F := fun v G' M' => ∃ u pv, v = .ref u ∧ M' = (u, .lst pv) :: (dl, nD dl ep kvs) :: M0 ∧ Reps K cl G' pv [Rec.d h]) (ea_cons (p := true) (ev_var (i := 0) rfl rh) ea_nil) (Nat.le_of_ble_eq_true rfl) fun u pv G' s' r' => ⟨u, pv, rfl, rfl, r'⟩) ?_
  rintro _ G1 H1 _ s1 S1 ⟨u, pv, rfl, rfl, rp⟩
  have rh1 := rh.mono s1
  have nl1 := nl.mono s1
  refine s_seq ?_
  refine s_asgG S1 (eg_ndisp1 (K := K) (cl := cl) (p := true) (q := true) (k := refK h.id) (d := .bl true) (F := fun v G' M' => ∃ du ep2 kvs2, v = .ref du ∧ M' = (du, nD du ep2 kvs2) :: (u, .lst pv) :: (dl, nD dl ep kvs) :: M0 ∧ NRep K cl G' kvs2 (idsD [h.id])) isNK_refK (fun a => ev_fld (p := true) (d := refD h.id) (ev_var (i := 0) rfl rh1) (by walk_at "cf") (by walk_at "cf") rfl) (fun a => ev_bl) fun a ep' kvs' G' s' n' => ⟨a, ep', kvs', rfl, rfl, n'⟩) ?_
  rintro _ G2 H2 _ s2 S2 ⟨du, ep2, kvs2, rfl, rfl, nu⟩
  have call : ∀ (σ : St) (G' : Hp) (r : Rec) (wv : V) (pv' : List V) (e2 : Nat) (k2 : NKV) (us : List Ref) (j : Nat), σ[1]? = some (some (.ref dl)) → σ[3]? = some (some (.ref du)) → σ[j]? = some (some wv) → Rep K cl G' wv (Rec.d r) → NRep K cl G' kvs (grpD legs) → NRep K cl G' k2 (idsD us) →
      EvX K cl false (tCall (sp_next_leg K cl) [] E0 (tCons (tVar 1) (tCons (tFld K (tVar j) "went") (tCons (tVar 3) tNil)))) σ G' ((du, nD du e2 k2) :: (u, .lst pv') :: (dl, nD dl ep kvs) :: M0) (optRec (nextF legs r.went us)) ((du, nD du e2 k2) :: (u, .lst pv') :: (dl, nD dl ep kvs) :: M0) := by
    intro σ G' r wv pv' e2 k2 us j h1 h3 hj rw' nl' nu'
    have pm : ((du, nD du e2 k2) :: (u, HO.lst pv') :: (dl, nD dl ep kvs) :: M0).Perm ((dl, nD dl ep kvs) :: (du, nD du e2 k2) :: (u, HO.lst pv') :: M0) := ((List.Perm.swap _ _ _).cons _).trans (List.Perm.swap _ _ _)
    refine ev_callP (K := K) (cl := cl) (ds := [.loc dl, optRef r.went, .loc du]) (M2 := (dl, nD dl ep kvs) :: (du, nD du e2 k2) :: (u, .lst pv') :: M0) (M3 := (dl, nD dl ep kvs) :: (du, nD du e2 k2) :: (u, .lst pv') :: M0) (ea_cons (p := true) (ev_var h1 Rep.loc) (ea_cons (p := true) (ev_fld (p := true) (d := optRef r.went) (ev_var hj rw') (by walk_at "cf") (by walk_at "cf") rfl) (ea_cons (p := true) (ev_var h3 Rep.loc) ea_nil))) pm pm.symm ?_
    intro vs G'' T s' rvs hT
    obtain ⟨u1, u2, u3, rfl, e1, e2', e3⟩ := reps3 rvs
    obtain rfl := e1.of_loc
    obtain rfl := e3.of_loc
    exact ⟨dl, du, ep, e2, kvs, k2, legs, us, u2, r.went, _, rfl, rfl, nl'.mono s', nu'.mono s', e2', fun G3 v s3 rv => hT v G3 s3 rv⟩
  refine s_seq ?_
  refine s_asg (K := K) (cl := cl) S2 (call _ G2 h vh pv ep2 kvs2 [h.id] 0 rfl rfl rfl (rh1.mono s2) (nl1.mono s2) nu) ?_
  intro w4 G3 H3 g3 r4
  have s3 := g3.same
  have S3 := g3.sep
  clear g3
  have nl3 := (nl1.mono s2).mono s3
  have nu3 := nu.mono s3
  have rp3 := (rp.mono s2).mono s3
  have sA := s1.trans (s2.trans s3)
  refine s_seq ?_
  refine s_while (K := K) (cl := cl) (fun m σ G' M' => ∃ e2 k2 pv' path us leg wl, σ = [some vh, some (.ref dl), some (.ref u), some (.ref du), some wl] ∧ M' = (du, nD du e2 k2) :: (u, .lst pv') :: (dl, nD dl ep kvs) :: M0 ∧ Reps K cl G' pv' (path.map Rec.d) ∧ NRep K cl G' k2 (idsD us) ∧ Rep K cl G' wl (optRec leg) ∧ (∀ r, leg = some r → r ∈ allL legs ∧ r.id ∉ us) ∧ freeL legs us ≤ m ∧ walkF legs m path us leg = pathF legs h ∧ us.length + m ≤ 90001 ∧ path.length = us.length) (freeL legs [h.id]) S3 ⟨ep2, kvs2, pv, [h], [h.id], _, w4, rfl, rfl, rp3, nu3, r4, fun r hr => nextF_some hr, Nat.le_refl _, rfl, ?_, rfl⟩ ?_
  · have : freeL legs [h.id] ≤ (allL legs).length := List.length_filter_le _ _
    show 1 + freeL legs [h.id] ≤ 90001
    omega
  rintro m σ' G4 H4 M4 s4 S4 ⟨e2, k2, pv', path, us, leg, wl, rfl, rfl, rp4, nu4, rl4, hleg, hm, hw, hlen, hpl⟩
  refine ⟨leg.isSome, true, _, EvT.is (et_test (ev_op (p := true) (q := true) (r := true) (ev_var (i := 4) rfl rl4) ev_non o_notN)) (by cases leg <;> rfl), fun hb G5 H5 g5 => ?_, fun hb G5 H5 g5 => ?_⟩
  · obtain ⟨r, rfl⟩ := Option.isSome_iff_exists.mp hb
    obtain ⟨hr1, hr2⟩ := hleg r rfl
    have hlt := freeL_lt hr1 hr2
    have s5 := g5.same
    have rl5 : Rep K cl G5 wl (Rec.d r) := rl4.mono s5
    refine s_seq ?_
    refine s_app (K := K) (cl := cl) (d := Rec.d r) g5.sep (ev_var (i := 2) rfl Rep.loc) (.tl .hd) (ev_var (i := 4) rfl rl5) (fun v => .tl .hd) (by rw [rp4.length, List.length_map, hpl]; omega) ?_
    intro v G6 H6 s6 S6 r6
    refine s_seq ?_
    refine s_nput (K := K) (cl := cl) (k := refK r.id) (kds := idsD us) (d := .bl true) S6 ev_bl (ev_var (i := 3) rfl Rep.loc) (ev_fld (p := true) (d := refD r.id) (ev_var (i := 4) rfl (rl5.mono s6)) (by walk_at "cf") (by walk_at "cf") rfl) rfl isNK_refK ((nu4.mono s5).mono s6) (by show (us.map _).length ≤ _; rw [List.length_map]; omega) (fun ep' b v => .hd) ?_
    intro e3 b w G7 H7 s7 S7 n7
    rw [idsD_put hr2] at n7
    have nl7 : NRep K cl G7 kvs (grpD legs) := (((nl3.mono s4).mono s5).mono s6).mono s7
    refine s_asg (K := K) (cl := cl) S7 (call _ G7 r wl _ e3 _ (us ++ [r.id]) 4 rfl rfl rfl ((rl5.mono s6).mono s7) nl7 n7) ?_
    intro w8 G8 H8 g8 r8
    obtain ⟨n, rfl⟩ : ∃ n, m = n + 1 := ⟨m - 1, by omega⟩
    have sB := s5.trans (s6.trans (s7.trans g8.same))
    refine ⟨n, Nat.lt_succ_self n, G8, _, s4.trans sB, g8.sep, e3, _, pv' ++ [v], path ++ [r], us ++ [r.id], _, w8, rfl, rfl, ?_, n7.mono g8.same, r8, fun r' hr' => nextF_some hr', by omega, hw, by rw [List.length_append]; show us.length + 1 + n ≤ _; omega, by rw [List.length_append, List.length_append, hpl]; rfl⟩
    rw [List.map_append]
    exact (rp4.mono sB).append (Reps.one (r6.mono (s7.trans g8.same)))
  · have hn : leg = none := by
      cases leg with
      | none => rfl
      | some r => cases hb
    subst hn
    rw [walkF_none] at hw
    have S5 := g5.sep
    have rp5 := rp4.mono g5.same
    rw [hw] at rp5
    obtain ⟨G6, s6, S6, r6⟩ := (S5.drop).lst rp5
    refine s_ret (K := K) (cl := cl) S6 (ev_var (i := 2) rfl r6) fun v G7 H7 g7 r7 => ?_
    have sB := sA.trans (s4.trans (g5.same.trans (s6.trans g7.same)))
    exact q G7 v sB r7 sB _ g7.sep
/-- the for that gathers what is beside a call -/
theorem s_beside [Wo] {K : PySem.W.Frag} {cl : Nat → Addr} [Cf K cl] {vr v4 vh vp : V} {ds u b : Addr} {e1 : V} {y4 : Option V} {ep : Nat} {kvs : NKV} {sides : Grp} {path : List Rec} {G H : Hp} {M : ML} {nx : St → Hp → Prop} {rt : VK} {bk ct : St → Hp → Prop} (S : Sep G H ((b, .lst []) :: (ds, nD ds ep kvs) :: M)) (ns : NRep K cl G kvs (grpD sides)) (rp : Rep K cl G vp (.lst (path.map Rec.d))) (hl : ∀ n, (besideF sides (path.take n)).length ≤ 500000)
    (k : ∀ y' ws G' H', Same G G' → Sep G' H' ((b, .lst ws) :: (ds, nD ds ep kvs) :: M) → Reps K cl G' ws ((besideF sides path).map Rec.d) → nx [some vr, some e1, some (.ref ds), some v4, y', some vh, some vp, some (.ref b)] H') :
    tFor (iSeq K (tVar 6)) (gName 4) (tDrop (tBM K "list" (rExtendA K) (tVar 7) (tCons (tGet2 K cl (tVar 2) (tFld K (tVar 4) "call_id") (tLst tNil)) tNil))) ⟨nx, rt, bk, ct⟩ [some vr, some e1, some (.ref ds), some v4, y4, some vh, some vp, some (.ref b)] H := by
  apply s_forL (K := K) (cl := cl) (ds := path.map Rec.d) (fun i σ G' M' => ∃ y' ws, σ = [some vr, some e1, some (.ref ds), some v4, y', some vh, some vp, some (.ref b)] ∧ M' = (b, .lst ws) :: (ds, nD ds ep kvs) :: M ∧ Reps K cl G' ws ((besideF sides (path.take i)).map Rec.d)) S
  · exact ev_var (i := 6) rfl rp
  · intro G1 H1 g1
    exact ⟨_, [], rfl, rfl, Reps.nil⟩
  · rintro G1 s1 i x d σ' G2 H2 M2 hd s2 S2 r2 ⟨y', ws, rfl, rfl, rw'⟩
    rw [List.getElem?_map] at hd
    cases hx : path[i]? with
    | none => rw [hx] at hd; cases hd
    | some r =>
    rw [hx] at hd
    cases hd
    have hv : (valG (grpD sides) (refK r.id)).getD (.lst []) = .lst (((valG sides r.id).getD []).map Rec.d) := by
      rw [grpD_val]
      cases valG sides r.id <;> rfl
    have hb : besideF sides (path.take (i + 1)) = besideF sides (path.take i) ++ (valG sides r.id).getD [] := by
      unfold besideF
      rw [List.take_add_one, hx, List.flatMap_append]
      simp
    have hlen := hl (i + 1)
    rw [hb, List.length_append] at hlen
    refine s_gname ?_
    refine s_extend (K := K) (cl := cl) S2 (ev_var (i := 7) rfl Rep.loc) .hd (EvX.is (ev_nget2 (p := true) (q := true) (r := false) (k := refK r.id) (d2 := .lst []) (ev_var (i := 2) rfl Rep.loc) (ev_fld (p := true) (d := refD r.id) (ev_var (i := 4) rfl r2) (by walk_at "cf") (by walk_at "cf") rfl) (ev_lst (p := true) ea_nil (Nat.zero_le _)) rfl isNK_refK (.tl .hd) (.tl .hd) ((ns.mono s1).mono s2)) hv) (fun _ => .hd) (by rw [rw'.length, List.length_map, List.length_map]; omega) ?_
    intro zs G3 H3 s3 S3 r3
    refine ⟨G3, _, s2.trans s3, S3, _, ws ++ zs, rfl, rfl, ?_⟩
    rw [hb, List.map_append]
    exact (rw'.mono s3).append r3
  · rintro σ' G1 H1 M1 s1 S1 ⟨y', ws, rfl, rfl, rw'⟩
    rw [List.length_map, List.take_length] at rw'
    exact k y' ws G1 H1 s1 S1 rw'
theorem rd_JoinedCall_init {K : PySem.W.Frag} {cl : Nat → Addr} [Cf K cl] {vs H Q E} (h : sp_JoinedCall_init K cl vs H Q E) : t_JoinedCall_init K cl ⟨fun _ H' => Q .non H', Q, fun _ _ => False, fun _ _ => False⟩ (start ["self", "head", "path", "sides"] vs) H := by
  obtain ⟨x, dx, us, ds, es, G, M, rfl, ⟨h, p, s, rfl, rfl⟩, S, rs, q⟩ := h
  obtain ⟨v1, v2, v3, rfl, c1, c2, c3⟩ := reps3 rs
  unfold t_JoinedCall_init
  refine s_seq ?_
  refine s_fldN (K := K) (cl := cl) S (ev_var (i := 1) rfl c1) (ev_var (i := 0) rfl Rep.loc) (fun v => Ch.hd) (by walk_at "cf") (by walk_at "cf") rfl (by decide +kernel) (by decide) ?_
  intro w1 G1 H1 s1 S1 q1
  refine s_seq ?_
  refine s_fldN (K := K) (cl := cl) (d := .lst p) (a := x) (C := cl 0) (dx := dx) (ns := ["head"]) (vs := [w1]) S1 (ev_cb (p := true) (q := false) (ea_cons (p := true) (ev_var (i := 2) rfl (c2.mono s1)) ea_nil) on_listL) (ev_var (i := 0) rfl Rep.loc) (fun v => Ch.hd) (by walk_at "cf") (by walk_at "cf") rfl (by decide +kernel) (by decide) ?_
  intro w2 G2 H2 s2 S2 q2
  refine s_fldN (K := K) (cl := cl) (d := .lst s) (a := x) (C := cl 0) (dx := dx) (ns := ["head", "legs"]) (vs := [w1, w2]) S2 (ev_cb (p := true) (q := false) (ea_cons (p := true) (ev_var (i := 3) rfl ((c3.mono s1).mono s2)) ea_nil) on_listL) (ev_var (i := 0) rfl Rep.loc) (fun v => Ch.hd) (by walk_at "cf") (by walk_at "cf") rfl (by decide +kernel) (by decide) ?_
  intro w3 G3 H3 s3 S3 q3
  exact q [w1, w2, w3] G3 H3 (s1.trans (s2.trans s3)) S3 rfl (Reps.cons ((q1.mono s2).mono s3) (Reps.cons (q2.mono s3) (Reps.one q3)))
theorem rd_Record_init {K : PySem.W.Frag} {cl : Nat → Addr} [Cf K cl] {vs H Q E} (h : sp_Record_init K cl vs H Q E) : t_Record_init K cl ⟨fun _ H' => Q .non H', Q, fun _ _ => False, fun _ _ => False⟩ (start ["self", "call_id", "role", "caller", "called", "payer", "came", "went", "parent", "opened_at"] vs) H := by
  obtain ⟨x, dx, us, ds, es, G, M, rfl, ⟨hl, rfl⟩, S, rs, k⟩ := h
  obtain ⟨v1, v2, v3, v4, v5, v6, v7, v8, v9, rfl⟩ : ∃ a0 a1 a2 a3 a4 a5 a6 a7 a8, us = [a0, a1, a2, a3, a4, a5, a6, a7, a8] := by
    rw [← rs.length] at hl
    match us, hl with
    | [a0, a1, a2, a3, a4, a5, a6, a7, a8], _ => exact ⟨a0, a1, a2, a3, a4, a5, a6, a7, a8, rfl⟩
  match ds, hl, rs with
  | [d1, d2, d3, d4, d5, d6, d7, d8, d9], _, rs =>
  obtain ⟨_, _, e, r1, rs1⟩ := rs.uncons; cases e
  obtain ⟨_, _, e, r2, rs2⟩ := rs1.uncons; cases e
  obtain ⟨_, _, e, r3, rs3⟩ := rs2.uncons; cases e
  obtain ⟨_, _, e, r4, rs4⟩ := rs3.uncons; cases e
  obtain ⟨_, _, e, r5, rs5⟩ := rs4.uncons; cases e
  obtain ⟨_, _, e, r6, rs6⟩ := rs5.uncons; cases e
  obtain ⟨_, _, e, r7, rs7⟩ := rs6.uncons; cases e
  obtain ⟨_, _, e, r8, rs8⟩ := rs7.uncons; cases e
  obtain ⟨_, _, e, r9, rs9⟩ := rs8.uncons; cases e
  unfold t_Record_init
  refine s_seq ?_
  refine s_fldN (K := K) (cl := cl) S (by walk_at "ev") (by walk_at "ev") (fun v => Ch.hd) (by walk_at "cf") (by walk_at "cf") rfl (by decide +kernel) (by decide) ?_
  intro w1 G1 H1 s1 S1 q1
  refine s_seq ?_
  refine s_fldN (K := K) (cl := cl) S1 (by walk_at "ev") (by walk_at "ev") (fun v => Ch.hd) (by walk_at "cf") (by walk_at "cf") rfl (by decide +kernel) (by decide) ?_
  intro w2 G2 H2 s2 S2 q2
  refine s_seq ?_
  refine s_fldN (K := K) (cl := cl) S2 (by walk_at "ev") (by walk_at "ev") (fun v => Ch.hd) (by walk_at "cf") (by walk_at "cf") rfl (by decide +kernel) (by decide) ?_
  intro w3 G3 H3 s3 S3 q3
  refine s_seq ?_
  refine s_fldN (K := K) (cl := cl) S3 (by walk_at "ev") (by walk_at "ev") (fun v => Ch.hd) (by walk_at "cf") (by walk_at "cf") rfl (by decide +kernel) (by decide) ?_
  intro w4 G4 H4 s4 S4 q4
  refine s_seq ?_
  refine s_fldN (K := K) (cl := cl) S4 (by walk_at "ev") (by walk_at "ev") (fun v => Ch.hd) (by walk_at "cf") (by walk_at "cf") rfl (by decide +kernel) (by decide) ?_
  intro w5 G5 H5 s5 S5 q5
  refine s_seq ?_
  refine s_fldN (K := K) (cl := cl) S5 (by walk_at "ev") (by walk_at "ev") (fun v => Ch.hd) (by walk_at "cf") (by walk_at "cf") rfl (by decide +kernel) (by decide) ?_
  intro w6 G6 H6 s6 S6 q6
  refine s_seq ?_
  refine s_fldN (K := K) (cl := cl) S6 (by walk_at "ev") (by walk_at "ev") (fun v => Ch.hd) (by walk_at "cf") (by walk_at "cf") rfl (by decide +kernel) (by decide) ?_
  intro w7 G7 H7 s7 S7 q7
  refine s_seq ?_
  refine s_fldN (K := K) (cl := cl) S7 (by walk_at "ev") (by walk_at "ev") (fun v => Ch.hd) (by walk_at "cf") (by walk_at "cf") rfl (by decide +kernel) (by decide) ?_
  intro w8 G8 H8 s8 S8 q8
  refine s_seq ?_
  refine s_fldN (K := K) (cl := cl) S8 (by walk_at "ev") (by walk_at "ev") (fun v => Ch.hd) (by walk_at "cf") (by walk_at "cf") rfl (by decide +kernel) (by decide) ?_
  intro w9 G9 H9 s9 S9 q9
  refine s_seq ?_
  refine s_fldN (K := K) (cl := cl) S9 (by walk_at "ev") (by walk_at "ev") (fun v => Ch.hd) (by walk_at "cf") (by walk_at "cf") rfl (by decide +kernel) (by decide) ?_
  intro w10 G10 H10 s10 S10 q10
  refine s_seq ?_
  refine s_fldN (K := K) (cl := cl) S10 (by walk_at "ev") (by walk_at "ev") (fun v => Ch.hd) (by walk_at "cf") (by walk_at "cf") rfl (by decide +kernel) (by decide) ?_
  intro w11 G11 H11 s11 S11 q11
  refine s_fldN (K := K) (cl := cl) S11 (by walk_at "ev") (by walk_at "ev") (fun v => Ch.hd) (by walk_at "cf") (by walk_at "cf") rfl (by decide +kernel) (by decide) ?_
  intro w12 G12 H12 s12 S12 q12
  exact k [w1, w2, w3, w4, w5, w6, w7, w8, w9, w10, w11, w12] G12 H12 (by walk_at "same") S12 rfl (Reps.cons (by walk_at "repc") (Reps.cons (by walk_at "repc") (Reps.cons (by walk_at "repc") (Reps.cons (by walk_at "repc") (Reps.cons (by walk_at "repc") (Reps.cons (by walk_at "repc") (Reps.cons (by walk_at "repc") (Reps.cons (by walk_at "repc") (Reps.cons (by walk_at "repc") (Reps.cons (by walk_at "repc") (Reps.cons (by walk_at "repc") (Reps.one q12))))))))))))
/-! ### groups: what they hold -/
theorem flatMap_cong {α β : Type} {f g : α → List β} : ∀ {l : List α}, (∀ a ∈ l, f a = g a) → l.flatMap f = l.flatMap g
  | [], _ => rfl
  | a :: l, h => by rw [List.flatMap_cons, List.flatMap_cons, h a (List.mem_cons_self ..), flatMap_cong fun b hb => h b (List.mem_cons_of_mem _ hb)]
theorem valG_append {κ α : Type} [DecidableEq κ] {st st' : List (κ × α)} {k : κ} : valG (st ++ st') k = (valG st k).or (valG st' k) := by
  unfold valG
  rw [List.find?_append]
  cases List.find? (fun x => decide (x.1 = k)) st <;> rfl
theorem addG_val {st : Grp} {k k' : Ref} {r : Rec} : (valG (addG st k r) k').getD [] = if k = k' then (valG st k').getD [] ++ [r] else (valG st k').getD [] := by
  have hm : ∀ (st : Grp), valG (st.map fun e => if e.1 = k then (e.1, e.2 ++ [r]) else e) k' = (valG st k').map fun v => if k = k' then v ++ [r] else v := by
    intro st
    induction st with
    | nil => rfl
    | cons e st ih =>
      unfold valG at ih ⊢
      rw [List.map_cons, List.find?_cons, List.find?_cons]
      by_cases h : e.1 = k
      · rw [if_pos h]
        by_cases h2 : e.1 = k'
        · have h3 : k = k' := h.symm.trans h2
          simp [h2, h3]
        · simp only [h2, decide_false]
          exact ih
      · rw [if_neg h]
        by_cases h2 : e.1 = k'
        · have h3 : ¬ k = k' := fun z => h (h2.trans z.symm)
          simp [h2, h3]
        · simp only [h2, decide_false]
          exact ih
  unfold addG
  split
  · rename_i hk
    rw [hm]
    by_cases h : k = k'
    · subst h
      obtain ⟨v, hv⟩ := Option.isSome_iff_exists.mp hk
      rw [hv]
      simp
    · simp only [h, if_false]
      cases valG st k' <;> rfl
  · rename_i hk
    have hn : valG st k = none := by
      cases h : valG st k with
      | none => rfl
      | some v => rw [h] at hk; exact (hk rfl).elim
    rw [valG_append]
    by_cases h : k = k'
    · subst h
      rw [hn, if_pos rfl]
      unfold valG
      simp
    · rw [if_neg h]
      unfold valG
      simp [h]
theorem group_val {sel : Rec → Option Ref} {k : Ref} {l : List Rec} : (valG (groupF sel l) k).getD [] = l.filter fun r => decide (sel r = some k) := by
  have gen : ∀ (l : List Rec) (st : Grp), (valG (l.foldl (fun st r => match sel r with | some k => addG st k r | none => st) st) k).getD [] = (valG st k).getD [] ++ l.filter fun r => decide (sel r = some k) := by
    intro l
    induction l with
    | nil => intro st; simp
    | cons r l ih =>
      intro st
      rw [List.foldl_cons, ih, List.filter_cons]
      cases hs : sel r with
      | none => simp
      | some k2 =>
        show (valG (addG st k2 r) k).getD [] ++ _ = _
        rw [addG_val]
        by_cases h : k2 = k
        · subst h
          simp
        · have h' : ¬ (some k2 = some k) := fun z => h (Option.some.inj z)
          simp [h]
  have := gen l []
  exact this
theorem group_nd {sel : Rec → Option Ref} {l : List Rec} : ((groupF sel l).map (·.1)).Nodup := by
  have gen : ∀ (l : List Rec) (st : Grp), (st.map (·.1)).Nodup → ((l.foldl (fun st r => match sel r with | some k => addG st k r | none => st) st).map (·.1)).Nodup := by
    intro l
    induction l with
    | nil => intro st h; exact h
    | cons r l ih =>
      intro st h
      rw [List.foldl_cons]
      refine ih _ ?_
      cases sel r with
      | none => exact h
      | some k =>
        show ((addG st k r).map (·.1)).Nodup
        unfold addG
        split
        · rw [List.map_map]
          have : (fun x => x.1) ∘ (fun e : Ref × List Rec => if e.1 = k then (e.1, e.2 ++ [r]) else e) = fun e => e.1 := by
            funext e
            show (if e.1 = k then (e.1, e.2 ++ [r]) else e).1 = e.1
            split <;> rfl
          rw [this]
          exact h
        · rename_i hk
          have hn : valG st k = none := by
            cases hv : valG st k with
            | none => rfl
            | some v => rw [hv] at hk; exact (hk rfl).elim
          rw [List.map_append]
          refine List.nodup_append.mpr ⟨h, by simp, ?_⟩
          intro a ha b hb e
          have hb' : b = k := by simpa using hb
          rw [valG_none] at hn
          exact hn (hb' ▸ e ▸ ha)
  exact gen l [] List.nodup_nil
theorem allL_add {st : Grp} {k : Ref} {r : Rec} (nd : (st.map (·.1)).Nodup) : (allL (addG st k r)).length ≤ (allL st).length + 1 := by
  have gen : ∀ (st : Grp), (st.map (·.1)).Nodup → (allL (st.map fun e => if e.1 = k then (e.1, e.2 ++ [r]) else e)).length ≤ (allL st).length + 1 := by
    intro st
    induction st with
    | nil => intro _; exact Nat.zero_le _
    | cons e st ih =>
      intro nd
      rw [List.map_cons, List.nodup_cons] at nd
      unfold allL at ih ⊢
      rw [List.map_cons, List.flatMap_cons, List.flatMap_cons, List.length_append, List.length_append]
      by_cases h : e.1 = k
      · rw [if_pos h]
        have hid : (st.map fun e => if e.1 = k then (e.1, e.2 ++ [r]) else e) = st := by
          have : st.map (fun e : Ref × List Rec => if e.1 = k then (e.1, e.2 ++ [r]) else e) = st.map id := List.map_congr_left fun y hy => if_neg fun z : y.1 = k => nd.1 (List.mem_map.mpr ⟨y, hy, z.trans h.symm⟩)
          rw [this, List.map_id]
        rw [hid]
        simp only [List.length_append, List.length_singleton]
        omega
      · rw [if_neg h]
        have := ih nd.2
        omega
  unfold addG
  split
  · exact gen st nd
  · unfold allL
    rw [List.flatMap_append, List.length_append]
    exact Nat.le_refl _
theorem allL_len {sel : Rec → Option Ref} {l : List Rec} : (allL (groupF sel l)).length ≤ l.length := by
  have gen : ∀ (n : Nat), n ≤ l.length → (allL (groupF sel (l.take n))).length ≤ n := by
    intro n
    induction n with
    | zero => intro _; exact Nat.zero_le _
    | succ n ih =>
      intro hn
      have hx : l[n]? = some l[n] := List.getElem?_eq_getElem hn
      rw [groupF_step hx]
      have h1 := ih (Nat.le_of_succ_le hn)
      cases sel l[n] with
      | none => exact Nat.le_succ_of_le h1
      | some k =>
        have := allL_add (st := groupF sel (l.take n)) (k := k) (r := l[n]) group_nd
        show (allL (addG _ _ _)).length ≤ _
        omega
  have := gen l.length (Nat.le_refl _)
  rw [List.take_length] at this
  exact this
/-- the groups of keys that are apart -/
theorem pick_len : ∀ (st : Grp) (ks : List Ref), ks.Nodup → (ks.flatMap fun k => (valG st k).getD []).length ≤ (allL st).length
  | [], ks, _ => by
    have : ∀ ks : List Ref, (ks.flatMap fun k => (valG ([] : Grp) k).getD []) = [] := by
      intro ks
      induction ks with
      | nil => rfl
      | cons k ks ih => rw [List.flatMap_cons, ih]; rfl
    rw [this]
    exact Nat.zero_le _
  | e :: st, ks, nd => by
    have hstep : ∀ (ks : List Ref), ks.Nodup → (ks.flatMap fun k => (valG (e :: st) k).getD []).length ≤ e.2.length + (ks.flatMap fun k => (valG st k).getD []).length := by
      intro ks
      induction ks with
      | nil => intro _; exact Nat.zero_le _
      | cons k ks ih =>
        intro nd
        rw [List.nodup_cons] at nd
        rw [List.flatMap_cons, List.flatMap_cons, List.length_append, List.length_append]
        by_cases h : e.1 = k
        · have hv : valG (e :: st) k = some e.2 := by
            unfold valG
            rw [List.find?_cons, decide_eq_true h]
            rfl
          have hr : (ks.flatMap fun k => (valG (e :: st) k).getD []) = ks.flatMap fun k => (valG st k).getD [] := by
            refine flatMap_cong fun y hy => ?_
            have hne : ¬ e.1 = y := fun z => nd.1 (by rw [← h, z]; exact hy)
            unfold valG
            rw [List.find?_cons, decide_eq_false hne]
          rw [hv, hr]
          show e.2.length + _ ≤ _
          omega
        · have hv : valG (e :: st) k = valG st k := by
            unfold valG
            rw [List.find?_cons, decide_eq_false h]
          have := ih nd.2
          rw [hv]
          omega
    have h1 := hstep ks nd
    have h2 := pick_len st ks nd
    unfold allL at h2 ⊢
    rw [List.flatMap_cons, List.length_append]
    omega
theorem walk_ids {legs : Grp} : ∀ {n : Nat} {path : List Rec} {us : List Ref} {leg : Option Rec}, path.map (·.id) = us → us.Nodup → (∀ r, leg = some r → r.id ∉ us) → ((walkF legs n path us leg).map (·.id)).Nodup
  | 0, path, us, leg, h, nd, _ => by unfold walkF; rw [h]; exact nd
  | n + 1, path, us, none, h, nd, _ => by unfold walkF; rw [h]; exact nd
  | n + 1, path, us, some r, h, nd, hl => by
    unfold walkF
    refine walk_ids (n := n) (by rw [List.map_append, h]; rfl) ?_ fun r' hr' => (nextF_some hr').2
    refine List.nodup_append.mpr ⟨nd, by simp, ?_⟩
    intro a ha b hb e
    have : b = r.id := by simpa using hb
    exact hl r rfl (this ▸ e ▸ ha)
theorem path_ids {legs : Grp} {h : Rec} : ((pathF legs h).map (·.id)).Nodup := walk_ids rfl (by simp) fun r hr => (nextF_some hr).2
theorem besideF_len {sides : Grp} {legs : Grp} {h : Rec} (n : Nat) : (besideF sides ((pathF legs h).take n)).length ≤ (allL sides).length := by
  have h1 : ((((pathF legs h).take n).map (·.id))).Nodup := by
    rw [List.map_take]
    exact path_ids.sublist (List.take_sublist _ _)
  have h2 := pick_len sides _ h1
  rw [List.flatMap_map] at h2
  exact h2
/-! ### reading: join_calls -/
theorem rd_id_of {K : PySem.W.Frag} {cl : Nat → Addr} [Cf K cl] {vs H Q E} (h : sp_id_of K cl vs H Q E) : t_id_of K cl ⟨fun _ H' => Q .non H', Q, fun _ _ => False, fun _ _ => False⟩ (start ["record"] vs) H := by
  obtain ⟨ds, d, G, M, ⟨r, rfl, rfl⟩, S, rs, q⟩ := h
  obtain ⟨v0, rfl, r0⟩ := reps1 rs
  unfold t_id_of
  exact s_ret (K := K) (cl := cl) S (ev_fld (p := true) (d := refD r.id) (ev_var (i := 0) rfl r0) (by walk_at "cf") (by walk_at "cf") rfl) fun v G1 H1 g1 r1 => q v G1 H1 g1.same g1.sep r1
theorem rd_head_place {K : PySem.W.Frag} {cl : Nat → Addr} [Cf K cl] {vs H Q E} (h : sp_head_place K cl vs H Q E) : t_head_place K cl ⟨fun _ H' => Q .non H', Q, fun _ _ => False, fun _ _ => False⟩ (start ["record"] vs) H := by
  obtain ⟨ds, d, G, M, ⟨r, rfl, rfl⟩, S, rs, q⟩ := h
  obtain ⟨v0, rfl, r0⟩ := reps1 rs
  unfold t_head_place
  exact s_ret (K := K) (cl := cl) S (ev_tup (ea_cons (p := true) (ev_fld (p := true) (d := .int r.opened) (ev_var (i := 0) rfl r0) (by walk_at "cf") (by walk_at "cf") rfl) (ea_cons (p := true) (ev_fld (p := true) (d := refD r.id) (ev_var (i := 0) rfl r0) (by walk_at "cf") (by walk_at "cf") rfl) ea_nil)) (Nat.le_of_ble_eq_true rfl)) fun v G1 H1 g1 r1 => q v G1 H1 g1.same g1.sep r1
theorem heads_len {rs : List Rec} : (headsF rs).length ≤ rs.length := by
  unfold headsF
  rw [List.length_mergeSort]
  exact List.length_filter_le _ _
theorem rd_join_calls {K : PySem.W.Frag} {cl : Nat → Addr} [Cf K cl] {vs H Q E} (h : sp_join_calls K cl vs H Q E) : t_join_calls K cl ⟨fun _ H' => Q .non H', Q, fun _ _ => False, fun _ _ => False⟩ (start ["records", "legs", "sides", "calls", "record", "head", "path", "beside"] vs) H := by
  obtain ⟨G, M, S, v, rs, rfl, rv, hl, hok, q⟩ := h
  have hlegs : (allL (legsF rs)).length ≤ 80000 := Nat.le_trans (allL_len (l := byId rs)) (by rw [byId_len]; exact hl)
  have hsides : (allL (sidesF rs)).length ≤ 80000 := Nat.le_trans (allL_len (l := byId rs)) (by rw [byId_len]; exact hl)
  unfold t_join_calls
  refine s_seq ?_
  refine s_asgG S (eg_call (K := K) (cl := cl) (p := true) (F := fun w G' M' => ∃ d ep kvs, w = .ref d ∧ M' = (d, nD d ep kvs) :: M ∧ NRep K cl G' kvs (grpD (legsF rs))) (ea_cons (p := true) (ev_var (i := 0) rfl rv) ea_nil) ?_) ?_
  · intro xs G' T s' rx hT
    obtain ⟨x0, rfl, e0⟩ := reps1 rx
    exact ⟨x0, rs, rfl, e0, by omega, hok, fun G2 d ep kvs s2 n2 => hT _ G2 _ s2 ⟨d, ep, kvs, rfl, rfl, n2⟩⟩
  rintro _ G1 H1 _ s1 S1 ⟨dl, epl, kl, rfl, rfl, nl⟩
  have rv1 := rv.mono s1
  refine s_seq ?_
  refine s_asgG S1 (eg_call (K := K) (cl := cl) (p := true) (F := fun w G' M' => ∃ d ep kvs, w = .ref d ∧ M' = (d, nD d ep kvs) :: (dl, nD dl epl kl) :: M ∧ NRep K cl G' kvs (grpD (sidesF rs))) (ea_cons (p := true) (ev_var (i := 0) rfl rv1) ea_nil) ?_) ?_
  · intro xs G' T s' rx hT
    obtain ⟨x0, rfl, e0⟩ := reps1 rx
    exact ⟨x0, rs, rfl, e0, by omega, hok, fun G2 d ep kvs s2 n2 => hT _ G2 _ s2 ⟨d, ep, kvs, rfl, rfl, n2⟩⟩
  rintro _ G2 H2 _ s2 S2 ⟨dd, epd, kd, rfl, rfl, nd⟩
  refine s_seq ?_
  refine s_asgG S2 eg_nil ?_
  rintro _ G3 H3 _ s3 S3 ⟨cs, rfl, rfl⟩
  have rv3 := rv1.mono (s2.trans s3)
  have nl3 := nl.mono (s2.trans s3)
  have nd3 := nd.mono s3
  refine s_seq ?_
  apply s_forL (K := K) (cl := cl) (p := false) (ds := (headsF rs).map Rec.d) (fun i σ' G' M' => ∃ y4 y5 y6 y7 cvs, σ' = [some v, some (.ref dl), some (.ref dd), some (.ref cs), y4, y5, y6, y7] ∧ M' = (cs, .lst cvs) :: (dd, nD dd epd kd) :: (dl, nD dl epl kl) :: M ∧ Reps K cl G' cvs ((((headsF rs).take i).map (callF (legsF rs) (sidesF rs))).map Call.d)) S3
  · refine EvX.is (ev_keyed (K := K) (cl := cl) (R := R_head_place) (l := rs.filter fun r => decide (r.role ∈ [Str.ofString "origin", Str.ofString "both"])) (enc := Rec.d) (key := hplaceD) (ev_lcG (l := rs) (enc := Rec.d) (f := Rec.d) (keep := fun r => decide (r.role ∈ [Str.ofString "origin", Str.ofString "both"])) (ev_var (i := 0) rfl rv3) rfl (by omega) ?_) rfl (fun b _ => ⟨b, rfl, rfl⟩) hplace_dat hplace_sorts) rfl
    intro G' e x b s' hb rx
    exact lcT1 (p := true) (q := true) rfl (et_test (ev_op (p := true) (q := true) (r := true) (ev_fld (p := true) (d := .str b.role) (ev_var (i := 4) rfl rx) (by walk_at "cf") (by walk_at "cf") rfl) (ev_cref Cf.ct_HEAD_ROLES) (o_inS (xs := [Str.ofString "origin", Str.ofString "both"])))) fun _ => ev_var (i := 4) rfl rx
  · intro G4 H4 g4
    exact ⟨_, _, _, _, [], rfl, rfl, Reps.nil⟩
  · rintro G4 s4 i x d σ' G5 H5 M5 hd s5 S5 rx ⟨y4, y5, y6, y7, cvs, rfl, rfl, rc⟩
    rw [List.getElem?_map] at hd
    cases hx : (headsF rs)[i]? with
    | none => rw [hx] at hd; cases hd
    | some h =>
    rw [hx] at hd
    cases hd
    have hi := (List.getElem?_eq_some_iff.mp hx).1
    have hhl := heads_len (rs := rs)
    have nl5 := nl3.mono (s4.trans s5)
    have nd5 := nd3.mono (s4.trans s5)
    have pm3 : ∀ (a b c : Addr × HO) (R : ML), (a :: b :: c :: R).Perm (c :: a :: b :: R) := fun a b c R => ((List.Perm.swap _ _ _).cons _).trans (List.Perm.swap _ _ _)
    refine s_gname ?_
    refine s_seq ?_
    refine s_asg (K := K) (cl := cl) S5 (ev_callP (K := K) (cl := cl) (p := true) (d := .lst ((pathF (legsF rs) h).map Rec.d)) (M3 := (dl, nD dl epl kl) :: (cs, .lst cvs) :: (dd, nD dd epd kd) :: M) (ea_cons (p := true) (ev_var (i := 5) rfl rx) (ea_cons (p := true) (ev_var (i := 1) rfl Rep.loc) ea_nil)) (pm3 _ _ _ _) (pm3 _ _ _ _).symm ?_) ?_
    · intro xs G' T s' rxs hT
      obtain ⟨x0, x1, rfl, e0, e1⟩ := reps2 rxs
      obtain rfl := e1.of_loc
      exact ⟨dl, epl, kl, legsF rs, x0, h, _, rfl, rfl, nl5.mono s', by omega, e0, fun G6 w s6 rw6 => hT w G6 s6 rw6⟩
    intro vp G6 H6 g6 rp
    have s6 := g6.same
    refine s_seq ?_
    refine s_asgG g6.sep eg_nil ?_
    rintro _ G7 H7 _ s7 S7 ⟨b, rfl, rfl⟩
    have S7' : Sep G7 H7 ((b, .lst []) :: (dd, nD dd epd kd) :: (cs, .lst cvs) :: (dl, nD dl epl kl) :: M) := S7.perm ((List.Perm.swap _ _ _).cons _)
    refine s_seq ?_
    refine s_beside (K := K) (cl := cl) (u := cs) (sides := sidesF rs) (path := pathF (legsF rs) h) S7' (nd5.mono (s6.trans s7)) (rp.mono s7) (fun n => Nat.le_trans (besideF_len n) (by omega)) ?_
    intro y' ws G8 H8 s8 S8 rw8
    obtain ⟨G9, s9, S9, r9⟩ := S8.lst rw8
    have s79 := s7.trans (s8.trans s9)
    refine s_app (K := K) (cl := cl) (a := cs) (us := cvs) (vs := cvs) (d := Call.d (callF (legsF rs) (sidesF rs) h)) (M' := fun v => (dd, nD dd epd kd) :: (cs, .lst (cvs ++ [v])) :: (dl, nD dl epl kl) :: M) S9 (ev_var (i := 3) rfl Rep.loc) (.tl .hd) (ev_make (K := K) (cl := cl) (p := true) (R := fun ds es => ∃ h p s, ds = [h, .lst p, .lst s] ∧ es = ds) (es := [Rec.d h, .lst ((pathF (legsF rs) h).map Rec.d), .lst ((besideF (sidesF rs) (pathF (legsF rs) h)).map Rec.d)]) (ea_cons (p := true) (ev_var (i := 5) rfl (rx.mono (s6.trans s79))) (ea_cons (p := true) (ev_var (i := 6) rfl (rp.mono s79)) (ea_cons (p := true) (ev_var (i := 7) rfl r9) ea_nil))) ⟨_, _, _, rfl, rfl⟩) (fun v => .tl .hd) (by rw [rc.length, List.length_map, List.length_map, List.length_take]; omega) ?_
    intro vc Ga Ha sa Sa ra
    have sB := s5.trans (s6.trans (s79.trans sa))
    refine ⟨Ga, _, sB, Sa.perm (List.Perm.swap _ _ _), _, _, _, _, cvs ++ [vc], rfl, rfl, ?_⟩
    rw [List.take_add_one, hx, List.map_append, List.map_append]
    exact (rc.mono (s6.trans (s79.trans sa))).append (Reps.one ra)
  rintro σ' G4 H4 M4 s4 S4 ⟨y4, y5, y6, y7, cvs, rfl, rfl, rc⟩
  rw [List.length_map, List.take_length] at rc
  obtain ⟨G5, s5, S5, r5⟩ := S4.lst rc
  refine s_ret (K := K) (cl := cl) S5 (ev_var (i := 3) rfl r5) fun w G6 H6 g6 r6 => ?_
  have sA := s1.trans (s2.trans (s3.trans (s4.trans (s5.trans g6.same))))
  exact q G6 w sA r6 sA _ (g6.sep.drop.drop)
/-! ### readings: take, time, role -/
theorem atI_ints {ns : List Int} {p : Int} (h0 : 0 ≤ p) (h1 : p < (ns.length : Int)) : atI (ns.map V.int) p = some (.int (ns.getD p.toNat 0)) := by
  rw [atI_getD (V.int 0) h0 (by simpa using h1)]
  have : p.toNat < ns.length := by omega
  simp [List.getD, List.getElem?_eq_getElem this]
theorem getD_set_self {ns : List Int} {i : Nat} {x : Int} (h : i < ns.length) : (ns.set i x).getD i 0 = x := by
  simp [List.getD, h]
theorem ev_ixI {K : PySem.W.Frag} {cl : Nat → Addr} {p q : Bool} {M M1 M2 : ML} {G : Hp} {σ : St} {ta tb : TE} {a : Addr} {ns : List Int} {i : Int} (ha : EvX K cl p ta σ G M (.loc a) M1) (hb : EvX K cl q tb σ G M1 (.int i) M2) (hm : At M2 a (.lst (ns.map V.int))) (h0 : 0 ≤ i) (h1 : i < (ns.length : Int)) : EvX K cl (p && q) (tOp (rIx K) ta tb) σ G M (.int (ns.getD i.toNat 0)) M2 :=
  ev_ixM ha hb hm (atI_ints h0 h1) Rep.int
theorem ixN_of {n : Nat} {i : Int} (h0 : 0 ≤ i) (h1 : i < (n : Int)) : ixN n i = some i.toNat := by
  unfold ixN
  rw [if_pos h0, if_pos h1]
theorem rd_law_take {K : PySem.W.Frag} {cl : Nat → Addr} {vs H Q E} (h : sp_law_take K cl vs H Q E) : t_law_take K cl ⟨fun _ H' => Q .non H', Q, fun _ _ => False, fun _ _ => False⟩ (start ["counts", "place"] vs) H := by
  obtain ⟨G, M, S, a, ns, p, M0, rfl, rfl, h0, h1, q⟩ := h
  unfold t_law_take
  refine s_seq ?_
  refine s_set (K := K) (cl := cl) (d := .int (ns.getD p.toNat 0 + 1)) (a := a) (vs := ns.map V.int) (i := p) (j := p.toNat) (M' := fun v => (a, .lst ((ns.map V.int).set p.toNat v)) :: M0) S (ev_op (ev_ixI (p := true) (q := true) (ev_var (i := 0) rfl Rep.loc) (ev_var (i := 1) rfl Rep.int) .hd h0 h1) ev_int o_add_int) (ev_var (i := 0) rfl Rep.loc) (ev_var (i := 1) rfl Rep.int) (fun v => .hd) (ixN_of h0 (by simpa using h1)) ?_
  intro v G1 H1 s1 S1 r1
  obtain rfl := r1.of_int
  have e : (ns.map V.int).set p.toNat (.int (ns.getD p.toNat 0 + 1)) = (ns.set p.toNat (ns.getD p.toNat 0 + 1)).map V.int := by rw [List.map_set]
  rw [e] at S1
  have hl : p.toNat < ns.length := by omega
  refine s_ret (K := K) (cl := cl) (d := refD (p, 1, ns.getD p.toNat 0)) S1 (EvX.is (ev_tup (ea_cons (p := true) (ev_var (i := 1) rfl Rep.int) (ea_cons (p := true) ev_int (ea_cons (ev_op (ev_ixI (p := true) (q := true) (ev_var (i := 0) rfl Rep.loc) (ev_var (i := 1) rfl Rep.int) .hd h0 (by simpa using h1)) ev_int o_sub) ea_nil))) (Nat.le_of_ble_eq_true rfl)) ?_) fun w G2 H2 g2 r2 => ?_
  · rw [getD_set_self hl, show ns.getD p.toNat 0 + 1 - 1 = ns.getD p.toNat 0 from by omega]
  · exact q G2 w (s1.trans g2.same) r2 (s1.trans g2.same) _ g2.sep
theorem rd_law_time {K : PySem.W.Frag} {cl : Nat → Addr} {vs H Q E} (h : sp_law_time K cl vs H Q E) : t_law_time K cl ⟨fun _ H' => Q .non H', Q, fun _ _ => False, fun _ _ => False⟩ (start ["state", "clocks", "place"] vs) H := by
  obtain ⟨G, M, S, s, st, c, ns, p, M0, rfl, rfl, h0, h1, q⟩ := h
  unfold t_law_time
  refine s_seq ?_
  refine s_set (K := K) (cl := cl) (d := .int (ns.getD p.toNat 0 + 900 * (st % 32))) (a := c) (vs := ns.map V.int) (i := p) (j := p.toNat) (M1 := (s, .lst [.int (st / 32)]) :: icell c ns :: M0) (M' := fun v => (s, .lst [.int (st / 32)]) :: (c, .lst ((ns.map V.int).set p.toNat v)) :: M0) S (ev_op (ev_ixI (p := true) (q := true) (ev_var (i := 1) rfl Rep.loc) (ev_var (i := 2) rfl Rep.int) (.tl .hd) h0 h1) (ev_op ev_int (ev_digit (ea_cons (p := true) (ev_var (i := 0) rfl Rep.loc) (ea_cons (p := true) ev_int ea_nil)) .hd (by decide) (by decide)) (o_mul (by walk_at "mul"))) o_add_int) (ev_var (i := 1) rfl Rep.loc) (ev_var (i := 2) rfl Rep.int) (fun v => .tl .hd) (ixN_of h0 (by simpa using h1)) ?_
  intro v G1 H1 s1 S1 r1
  obtain rfl := r1.of_int
  have e : (ns.map V.int).set p.toNat (.int (ns.getD p.toNat 0 + 900 * (st % 32))) = (ns.set p.toNat (ns.getD p.toNat 0 + 900 * (st % 32))).map V.int := by rw [List.map_set]
  rw [e] at S1
  have hl : p.toNat < ns.length := by omega
  refine s_ret (K := K) (cl := cl) (d := .int (ns.getD p.toNat 0 + 900 * (st % 32))) S1 (EvX.is (ev_ixI (p := true) (q := true) (ev_var (i := 1) rfl Rep.loc) (ev_var (i := 2) rfl Rep.int) (.tl .hd) h0 (by simpa using h1)) (by rw [getD_set_self hl])) fun w G2 H2 g2 r2 => ?_
  obtain rfl := r2.of_int
  exact q G2 (s1.trans g2.same) (s1.trans g2.same) _ g2.sep
theorem rd_law_role {K : PySem.W.Frag} {cl : Nat → Addr} {vs H Q E} (h : sp_law_role K cl vs H Q E) : t_law_role K cl ⟨fun _ H' => Q .non H', Q, fun _ _ => False, fun _ _ => False⟩ (start ["k", "legs"] vs) H := by
  obtain ⟨ds, d, G, M, ⟨k, n, rfl, rfl⟩, S, rs, q⟩ := h
  obtain ⟨v0, v1, rfl, r0, r1⟩ := reps2 rs
  obtain rfl := r0.of_int
  obtain rfl := r1.of_int
  have go : ∀ (x : Str) G' H', Same G G' → Sep G' H' M → roleF k n = x → tRet (tC (.str x)) ⟨fun _ H' => Q .non H', Q, fun _ _ => False, fun _ _ => False⟩ (start ["k", "legs"] [.int k, .int n]) H' := by
    intro x G' H' s' S' e
    exact s_ret (K := K) (cl := cl) (d := .str x) S' ev_str fun v G2 H2 g2 r2 => q v G2 H2 (s'.trans g2.same) g2.sep (e ▸ r2)
  unfold t_law_role
  refine s_seq ?_
  refine s_if (K := K) (cl := cl) (b := decide (n = 1)) S (by walk_at "et") ?_ ?_
  · intro G1 H1 g1 hb
    exact go _ G1 H1 g1.same g1.sep (by unfold roleF; rw [if_pos (of_decide_eq_true hb)])
  intro G1 H1 g1 hb
  refine s_next ?_
  refine s_seq ?_
  refine s_if (K := K) (cl := cl) (b := decide (k = 0)) g1.sep (by walk_at "et") ?_ ?_
  · intro G2 H2 g2 hc
    exact go _ G2 H2 (g1.same.trans g2.same) g2.sep (by unfold roleF; rw [if_neg (of_decide_eq_false hb), if_pos (of_decide_eq_true hc)])
  intro G2 H2 g2 hc
  refine s_next ?_
  refine s_seq ?_
  refine s_if (K := K) (cl := cl) (b := decide (k = n - 1)) g2.sep (by walk_at "et") ?_ ?_
  · intro G3 H3 g3 hd
    exact go _ G3 H3 (g1.same.trans (g2.same.trans g3.same)) g3.sep (by unfold roleF; rw [if_neg (of_decide_eq_false hb), if_neg (of_decide_eq_false hc), if_pos (of_decide_eq_true hd)])
  intro G3 H3 g3 hd
  refine s_next ?_
  exact go _ G3 H3 (g1.same.trans (g2.same.trans g3.same)) g3.sep (by unfold roleF; rw [if_neg (of_decide_eq_false hb), if_neg (of_decide_eq_false hc), if_neg (of_decide_eq_false hd)])
/-! ### readings: law_open -/
section
variable {K : PySem.W.Frag} {cl : Nat → Addr} {p q r : Bool} {M M0 M1 M2 : ML} {G H : Hp} {σ : St} {tx : TA} {ta tb te tl : TE} {s ck cn lv : Addr} {W : LW} {ls : List LC} {las : List Addr} {w : V} {pl : Int} {nx : St → Hp → Prop} {rt : VK} {bk ct : St → Hp → Prop}
theorem ev_time {E : XK} (ha : EvA K cl p tx σ G M [.loc s, .loc ck, .int pl] (wcells s ck cn lv W ls M0)) (h0 : 0 ≤ pl) (h1 : pl < (W.clocks.length : Int)) : EvX K cl false (tCall (sp_law_time K cl) [] E tx) σ G M (.int (W.now pl)) (wcells s ck cn lv (W.tick pl) ls M0) := fun G1 H1 s1 S Q k =>
  ha G1 H1 s1 S _ fun xs G2 H2 g2 rx => by
    obtain ⟨u, v, w, rfl, hu, hv, hw⟩ := reps3 rx
    refine ⟨G2, _, g2.sep, s, W.st, ck, W.clocks, pl, _, by rw [hu.of_loc, hv.of_loc, hw.of_int]; rfl, rfl, h0, h1, fun G' s' _ H' S' => ?_⟩
    exact k _ G' H' (Go.of (g2.same.trans s') S') Rep.int
theorem ev_take {E : XK} (ha : EvA K cl p tx σ G M [.loc cn, .int pl] (wcells s ck cn lv W ls M0)) (h0 : 0 ≤ pl) (h1 : pl < (W.counts.length : Int)) : EvX K cl false (tCall (sp_law_take K cl) [] E tx) σ G M (refD (W.ref pl)) (wcells s ck cn lv (W.took pl) ls M0) := fun G1 H1 s1 S Q k =>
  ha G1 H1 s1 S _ fun xs G2 H2 g2 rx => by
    obtain ⟨u, v, rfl, hu, hv⟩ := reps2 rx
    have pm : ∀ (e : Addr × HO), ((s, HO.lst [V.int W.st]) :: icell ck W.clocks :: e :: icell lv W.lives :: (ls.map lcell ++ M0)).Perm (e :: (s, HO.lst [V.int W.st]) :: icell ck W.clocks :: icell lv W.lives :: (ls.map lcell ++ M0)) := fun e => ((List.Perm.swap _ _ _).cons _).trans (List.Perm.swap _ _ _)
    refine ⟨G2, _, g2.sep.perm (pm _), cn, W.counts, pl, _, by rw [hu.of_loc, hv.of_int]; rfl, rfl, h0, h1, fun G' x s' rx' _ H' S' => ?_⟩
    exact k _ G' H' (Go.of (g2.same.trans s') (S'.perm (pm _).symm)) rx'
theorem ev_nx {E : XK} {m : Int} (ha : EvA K cl p tx σ G M [.loc s, .int m] (wcells s ck cn lv W ls M0)) (h0 : 0 < m) (h1 : m < 1000000) : EvX K cl false (tCall (sp_law_digit K cl) [] E tx) σ G M (.int (W.st % m)) (wcells s ck cn lv (W.nx m) ls M0) := ev_digit ha .hd h0 h1
theorem paired_at' {α β : Type} {P : α → β → Prop} : ∀ {l : List α} {m : List β}, Paired P l m → ∀ {i : Nat} {b : β}, m[i]? = some b → ∃ a, l[i]? = some a ∧ P a b
  | _, _, .nil, i, a, h => by simp at h
  | _, _, .cons h t, 0, a, e => by
    obtain rfl := (by simpa using e : _ = a)
    exact ⟨_, rfl, h⟩
  | _, _, .cons h t, i + 1, a, e => by
    obtain ⟨b, hb, p⟩ := paired_at' t (i := i) (b := a) (by simpa using e)
    exact ⟨b, by simpa using hb, p⟩
theorem WRep.len (h : WRep K cl G w ck cn lv W ls las) : ls.length = 4 := by rw [← List.length_map (f := (·.1)), h.as, h.n0]
/-- the log at a place -/
theorem WRep.at (h : WRep K cl G w ck cn lv W ls las) (h0 : 0 ≤ pl) (h1 : pl < 4) : ∃ l es, ls[pl.toNat]? = some l ∧ W.logs[pl.toNat]? = some es ∧ W.logs.getD pl.toNat [] = es ∧ Reps K cl G l.2 (es.map Ent.d) ∧ atI (las.map D.loc) pl = some (.loc l.1) := by
  have hi : pl.toNat < ls.length := by rw [h.len]; omega
  obtain ⟨es, he, hr⟩ := paired_at h.lr (List.getElem?_eq_getElem hi)
  refine ⟨ls[pl.toNat], es, List.getElem?_eq_getElem hi, he, by rw [List.getD_eq_getElem?_getD, he]; rfl, hr, ?_⟩
  have hl : pl < ((las.map D.loc).length : Int) := by rw [List.length_map, h.n0]; omega
  rw [atI_getD (D.loc 0) h0 hl, ← h.as]
  simp [List.getD, List.getElem?_eq_getElem hi]
/-- logs[place].append(e) -/
theorem s_logapp {e : Ent} (S : Sep G H (wcells s ck cn lv W ls M0)) (hw : WRep K cl G w ck cn lv W ls las) (hl : EvX K cl p tl σ G (wcells s ck cn lv W ls M0) (.lst (las.map D.loc)) (wcells s ck cn lv W ls M0)) (hp : EvX K cl q tb σ G (wcells s ck cn lv W ls M0) (.int pl) (wcells s ck cn lv W ls M0)) (h0 : 0 ≤ pl) (h1 : pl < 4) (hm : W.most 9000000)
    (he : EvX K cl r te σ G (wcells s ck cn lv W ls M0) (Ent.d e) (wcells s ck cn lv W ls M0))
    (k : ∀ G' H' ls', Same G G' → Sep G' H' (wcells s ck cn lv (W.put pl e) ls' M0) → WRep K cl G' w ck cn lv (W.put pl e) ls' las → nx σ H') : tDrop (tBM K "list" rAppend (tOp (rIx K) tl tb) (tCons te tNil)) ⟨nx, rt, bk, ct⟩ σ H := by
  obtain ⟨l, es, h2, h3, h4, h5, h6⟩ := hw.at h0 h1
  have hx : (ls.map lcell)[pl.toNat]? = some (l.1, .lst l.2) := by rw [List.getElem?_map, h2]; rfl
  have hes := hm es (List.mem_of_getElem? h3)
  refine s_app (K := K) (cl := cl) (a := l.1) (us := l.2) (vs := l.2) (d := Ent.d e) (M' := fun v => (s, .lst [.int W.st]) :: icell ck W.clocks :: icell cn W.counts :: icell lv W.lives :: ((ls.map lcell).set pl.toNat (l.1, .lst (l.2 ++ [v])) ++ M0)) S (ev_op hl hp (o_ixL h6)) (.tl (.tl (.tl (.tl (at_at hx))))) he (fun v => .tl (.tl (.tl (.tl (ch_at hx))))) (by rw [h5.length, List.length_map]; omega) ?_
  intro v G' H' s' S' rv
  have e1 : (ls.map lcell).set pl.toNat (l.1, .lst (l.2 ++ [v])) = (ls.set pl.toNat (l.1, l.2 ++ [v])).map lcell := by rw [List.map_set]
  rw [e1] at S'
  refine k G' H' (ls.set pl.toNat (l.1, l.2 ++ [v])) s' S' ⟨hw.w.mono s', ?_, ?_, hw.n0, hw.n1, hw.n2, hw.n3⟩
  · show LogsR K cl G' _ (W.logs.set pl.toNat (W.logs.getD pl.toNat [] ++ [e]))
    rw [h4]
    refine paired_set (LogsR.mono s' hw.lr) _ ?_
    show Reps K cl G' (l.2 ++ [v]) ((es ++ [e]).map Ent.d)
    rw [List.map_append]
    exact (h5.mono s').append (Reps.one rv)
  · rw [List.map_set, hw.as]
    refine set_self' ?_
    rw [← hw.as, List.getElem?_map, h2]
    rfl
end
theorem most_put {W : LW} {n : Nat} {p : Int} {e : Ent} (h : W.most n) : (W.put p e).most (n + 1) := by
  intro es hes
  rcases List.mem_or_eq_of_mem_set hes with hh | rfl
  · exact Nat.le_succ_of_le (h es hh)
  · rw [List.length_append]
    refine Nat.succ_le_succ ?_
    rw [List.getD_eq_getElem?_getD]
    cases hx : W.logs[p.toNat]? with
    | none => exact Nat.zero_le _
    | some l => exact h l (List.mem_of_getElem? hx)
theorem most_mono {W : LW} {n m : Nat} (h : W.most n) (hn : n ≤ m) : W.most m := fun es hes => Nat.le_trans (h es hes) hn
theorem most_sides {p : Int} {caller : Str} {came went : Option Ref} {found : Ref} {now : Int} : ∀ {k : Nat} {W : LW} {n : Nat}, W.most n → (LW.sides p caller came went found now k W).most (n + k)
  | 0, _, _, h => h
  | k + 1, W, n, h => most_put (W := (((LW.sides p caller came went found now k W).nx 6).took p).nx 30) (most_sides (k := k) h)
theorem sideN_le {d : Int} : sideN d ≤ 2 := by
  unfold sideN
  split
  · decide
  · split <;> decide
theorem most_opened {W : LW} {n : Nat} {p : Int} {role caller : Str} {came went : Option Ref} (h : W.most n) : (W.opened p role caller came went).most (n + 3) := by
  unfold LW.opened
  refine most_mono (most_sides (n := n + 1) (most_put (W := ((W.tick p).took p).nx 30) h)) ?_
  have := sideN_le (d := (((W.tick p).took p).nx 30).st % 4)
  omega
theorem sideN_ix {d : Int} (h0 : 0 ≤ d) (h1 : d < 4) : atI [D.int 0, D.int 0, D.int 1, D.int 2] d = some (.int (sideN d : Nat)) := by
  have : d = 0 ∨ d = 1 ∨ d = 2 ∨ d = 3 := by omega
  rcases this with rfl | rfl | rfl | rfl <;> rfl
theorem strI_ev {K : PySem.W.Frag} {cl : Nat → Addr} {p : Bool} {M M1 : ML} {G : Hp} {σ : St} {te : TE} {c : Str} {n : Int} (he : EvX K cl p te σ G M (.int n) M1) (h0 : 0 ≤ n) (h1 : n < 100000) (hc : c.length ≤ 10) : EvX K cl p (tOp (rAdd K) (tC (.str c)) (tCB rStrI (tCons te tNil))) σ G M (.str (strI c n)) M1 := by
  have hn : (Str.ofString (toString n)).length ≤ 10 := num_len h0 (by omega)
  have h := ev_op (K := K) (cl := cl) (p := true) (q := p && true && true) (r := true) (d3 := .str (strI c n)) ev_str (ev_cb (ea_cons he ea_nil) (on_str (num_log h0 (by omega)))) (o_add_str (by
    show c.length + (Str.ofString (toString n)).length ≤ 100000
    omega))
  simpa using h
theorem rd_law_open {K : PySem.W.Frag} {cl : Nat → Addr} {vs H Q E} (h : sp_law_open K cl vs H Q E) : t_law_open K cl ⟨fun _ H' => Q .non H', Q, fun _ _ => False, fun _ _ => False⟩ (start ["state", "world", "place", "role", "caller", "came", "went", "logs", "clocks", "counts", "lives", "now", "found", "payer", "called", "k", "line", "aside", "onward"] vs) H := by
  obtain ⟨G, M, S, s, ck, cn, lv, W, ls, las, M0, w, p, role, caller, vc, came, vw, went, rfl, rfl, hw, h0, h1, hm, rc, rw', q⟩ := h
  unfold t_law_open
  refine s_seq ?_
  refine s_asgT (K := K) (cl := cl) S (ev_var (i := 1) rfl hw.w) rfl rfl ?_
  intro us G1 H1 g1 ru
  obtain ⟨u7, u8, u9, u10, rfl, r7, r8, r9, r10⟩ := reps4 ru
  obtain rfl := r8.of_loc
  obtain rfl := r9.of_loc
  obtain rfl := r10.of_loc
  have hw1 := hw.mono g1.same
  refine s_seq ?_
  refine s_asg (K := K) (cl := cl) g1.sep (ev_time (ea_cons (p := true) (ev_var (i := 0) rfl Rep.loc) (ea_cons (p := true) (ev_var (i := 8) rfl Rep.loc) (ea_cons (p := true) (ev_var (i := 2) rfl Rep.int) ea_nil))) h0 (by rw [hw1.n1]; exact h1)) ?_
  intro w11 G2 H2 g2 r11
  obtain rfl := r11.of_int
  have n1' : (W.tick p).clocks.length = 4 := by show (W.clocks.set _ _).length = 4; rw [List.length_set]; exact hw.n1
  have hw2 : WRep K cl G2 w ck cn lv (W.tick p) ls las := ⟨hw1.w.mono g2.same, LogsR.mono g2.same hw1.lr, hw.as, hw.n0, n1', hw.n2, hw.n3⟩
  have r7' := r7.mono g2.same
  refine s_seq ?_
  refine s_asg (K := K) (cl := cl) g2.sep (ev_take (W := W.tick p) (ea_cons (p := true) (ev_var (i := 9) rfl Rep.loc) (ea_cons (p := true) (ev_var (i := 2) rfl Rep.int) ea_nil)) h0 (by rw [hw2.n2]; exact h1)) ?_
  intro w12 G3 H3 g3 r12
  have n2' : ((W.tick p).took p).counts.length = 4 := by show (W.counts.set _ _).length = 4; rw [List.length_set]; exact hw.n2
  have hw3 : WRep K cl G3 w ck cn lv ((W.tick p).took p) ls las := ⟨hw2.w.mono g3.same, LogsR.mono g3.same hw2.lr, hw.as, hw.n0, n1', n2', hw.n3⟩
  have r7'' := r7'.mono g3.same
  refine s_seq ?_
  refine s_asg (K := K) (cl := cl) g3.sep ev_non ?_
  intro w13 G4 H4 g4 r13
  obtain rfl := r13.of_non
  have s4 := g1.same.trans (g2.same.trans (g3.same.trans g4.same))
  have hw4 := hw3.mono g4.same
  have r7a := r7''.mono g4.same
  have r12a := r12.mono g4.same
  have rca := rc.mono s4
  have rwa := rw'.mono s4
  refine s_seq ?_
  refine s_ifJ (K := K) (cl := cl) (p := true) (M1 := wcells s ck cn lv ((W.tick p).took p) ls M0) (b := decide (role = "origin") || decide (role = "both")) (fun σ' G' M' => M' = wcells s ck cn lv ((W.tick p).took p) ls M0 ∧ ∃ v13, Rep K cl G' v13 (optS (payerF role caller)) ∧ σ' = [some (.ref s), some w, some (.int p), some (.str role), some (.str caller), some vc, some vw, some u7, some (.ref ck), some (.ref cn), some (.ref lv), some (.int (W.now p)), some w12, some v13, none, none, none, none, none]) g4.sep ?_ ?_ ?_ ?_
  · exact et_or (et_test (ev_op (p := true) (q := true) (r := true) (ev_var (i := 3) rfl Rep.str) ev_str (o_eq rfl))) fun _ => et_test (ev_op (p := true) (q := true) (r := true) (ev_var (i := 3) rfl Rep.str) ev_str (o_eq rfl))
  · intro kk G5 H5 g5 hb
    refine s_asg (K := K) (cl := cl) g5.sep (ev_var (i := 4) rfl Rep.str) ?_
    intro v5 G6 H6 g6 r6
    refine kk _ G6 H6 _ (g5.same.trans g6.same) g6.sep ⟨rfl, v5, ?_, rfl⟩
    have : role = "origin" ∨ role = "both" := by simpa using hb
    unfold payerF
    rw [if_pos this]
    exact r6
  · intro kk G5 H5 g5 hb
    refine s_next ?_
    refine kk _ G5 H5 _ g5.same g5.sep ⟨rfl, .non, ?_, rfl⟩
    have : ¬ (role = "origin" ∨ role = "both") := by simpa using hb
    unfold payerF
    rw [if_neg this]
    exact Rep.non
  rintro _ G5 H5 _ s5 S5 ⟨rfl, v13, r13, rfl⟩
  have hw5 := hw4.mono s5
  refine s_seq ?_
  have hd : ∀ (z m : Int), 0 < m → 0 ≤ z % m ∧ z % m < m := fun z m h => ⟨Int.emod_nonneg _ (by omega), Int.emod_lt_of_pos _ h⟩
  refine s_asg (K := K) (cl := cl) S5 (strI_ev (ev_nx (ea_cons (p := true) (ev_var (i := 0) rfl Rep.loc) (ea_cons (p := true) ev_int ea_nil)) (by decide) (by decide)) (hd _ 30 (by decide)).1 (Int.lt_trans (hd _ 30 (by decide)).2 (by decide)) (by decide)) ?_
  intro w14 G6 H6 g6 r14
  have s6 := s5.trans g6.same
  have hw6 : WRep K cl G6 w ck cn lv (((W.tick p).took p).nx 30) ls las := ⟨hw5.w.mono g6.same, LogsR.mono g6.same hw5.lr, hw.as, hw.n0, n1', n2', hw.n3⟩
  have r7b := r7a.mono s6
  refine s_seq ?_
  refine s_logapp (K := K) (cl := cl) (r := false) (W := ((W.tick p).took p).nx 30) (pl := p) (e := opnE ((W.tick p).ref p) role caller (strI "5" (((W.tick p).took p).st % 30)) (payerF role caller) came went none (W.now p)) g6.sep hw6 (ev_var (i := 7) rfl r7b) (ev_var (i := 2) rfl Rep.int) h0 h1 (most_mono hm (by decide)) ?_ ?_
  · exact ev_tup (ea_cons (p := true) ev_str (ea_cons (p := true) (ev_var (i := 12) rfl (r12a.mono s6)) (ea_cons (p := true) (ev_var (i := 3) rfl Rep.str) (ea_cons (p := true) (ev_var (i := 4) rfl Rep.str) (ea_cons (p := true) (ev_var (i := 14) rfl r14) (ea_cons (p := true) (ev_var (i := 13) rfl (r13.mono g6.same)) (ea_cons (p := true) (ev_var (i := 5) rfl (rca.mono s6)) (ea_cons (p := true) (ev_var (i := 6) rfl (rwa.mono s6)) (ea_cons (p := true) ev_non (ea_cons (p := true) (ev_var (i := 11) rfl Rep.int) ea_nil)))))))))) (Nat.le_of_ble_eq_true rfl)
  intro G7 H7 ls7 s7 S7 hw7
  have s47 := s6.trans s7
  refine s_seq ?_
  let Wl := ((W.tick p).took p).leg p role caller came went ((W.tick p).ref p) (W.now p)
  have hd4 := hd (((W.tick p).took p).nx 30).st 4 (by decide)
  apply s_forR1 (K := K) (cl := cl) (n := (sideN ((((W.tick p).took p).nx 30).st % 4) : Nat)) (fun i σ' G' M' => ∃ y15 y16 y17 y18 lsi, σ' = [some (.ref s), some w, some (.int p), some (.str role), some (.str caller), some vc, some vw, some u7, some (.ref ck), some (.ref cn), some (.ref lv), some (.int (W.now p)), some w12, some v13, some w14, y15, y16, y17, y18] ∧ M' = wcells s ck cn lv (LW.sides p caller came went ((W.tick p).ref p) (W.now p) i Wl) lsi M0 ∧ WRep K cl G' w ck cn lv (LW.sides p caller came went ((W.tick p).ref p) (W.now p) i Wl) lsi las) S7
  · exact ea_cons (ev_op (ev_tup (ea_cons (p := true) ev_int (ea_cons (p := true) ev_int (ea_cons (p := true) ev_int (ea_cons (p := true) ev_int ea_nil)))) (Nat.le_of_ble_eq_true rfl)) (ev_nx (W := (((W.tick p).took p).nx 30).put p (opnE ((W.tick p).ref p) role caller (strI "5" (((W.tick p).took p).st % 30)) (payerF role caller) came went none (W.now p))) (ea_cons (p := true) (ev_var (i := 0) rfl Rep.loc) (ea_cons (p := true) ev_int ea_nil)) (by decide) (by decide)) (o_ixT (sideN_ix hd4.1 hd4.2))) ea_nil
  · have := sideN_le (d := (((W.tick p).took p).nx 30).st % 4)
    omega
  · intro G8 H8 g8
    exact ⟨_, _, _, _, ls7, rfl, rfl, hw7.mono g8.same |> fun h => ⟨h.w, h.lr, h.as, h.n0, h.n1, h.n2, h.n3⟩⟩
  · rintro G8 s8 i σ' G9 H9 M9 hi s9 S9 ⟨y15, y16, y17, y18, lsi, rfl, rfl, hwi⟩
    have hi2 : i < 2 := by have := sideN_le (d := (((W.tick p).took p).nx 30).st % 4); omega
    have hmi : (LW.sides p caller came went ((W.tick p).ref p) (W.now p) i Wl).most 5000010 := most_mono (most_sides (k := i) (n := 5000001) (most_put (W := ((W.tick p).took p).nx 30) hm)) (by omega)
    generalize hWi : LW.sides p caller came went ((W.tick p).ref p) (W.now p) i Wl = Wi at hwi S9 hmi
    have hnext : LW.sides p caller came went ((W.tick p).ref p) (W.now p) (i + 1) Wl = Wi.side p caller came went ((W.tick p).ref p) (W.now p) := by
      show LW.side (LW.sides p caller came went ((W.tick p).ref p) (W.now p) i Wl) p caller came went _ _ = _
      rw [hWi]
    have sA := s47.trans (s8.trans s9)
    have sB := s7.trans (s8.trans s9)
    have h6 := hd Wi.st 6 (by decide)
    refine s_gname ?_
    refine s_seq ?_
    refine s_asg (K := K) (cl := cl) S9 (strI_ev (ev_nx (ea_cons (p := true) (ev_var (i := 0) rfl Rep.loc) (ea_cons (p := true) ev_int ea_nil)) (by decide) (by decide)) h6.1 (Int.lt_trans h6.2 (by decide)) (by decide)) ?_
    intro w16 Ga Ha ga ra
    have n2a : (Wi.nx 6).counts.length = 4 := hwi.n2
    refine s_seq ?_
    refine s_asg (K := K) (cl := cl) ga.sep (ev_take (W := Wi.nx 6) (ea_cons (p := true) (ev_var (i := 9) rfl Rep.loc) (ea_cons (p := true) (ev_var (i := 2) rfl Rep.int) ea_nil)) h0 (by rw [n2a]; exact h1)) ?_
    intro w17 Gb Hb gb rb
    have h30 := hd (Wi.nx 6).st 30 (by decide)
    refine s_seq ?_
    refine s_asg (K := K) (cl := cl) gb.sep (strI_ev (ev_nx (W := (Wi.nx 6).took p) (ea_cons (p := true) (ev_var (i := 0) rfl Rep.loc) (ea_cons (p := true) ev_int ea_nil)) (by decide) (by decide)) h30.1 (Int.lt_trans h30.2 (by decide)) (by decide)) ?_
    intro w18 Gc Hc gc rc'
    have sc := ga.same.trans (gb.same.trans gc.same)
    have n2b : (((Wi.nx 6).took p).nx 30).counts.length = 4 := by show (Wi.counts.set _ _).length = 4; rw [List.length_set]; exact hwi.n2
    have hwc : WRep K cl Gc w ck cn lv (((Wi.nx 6).took p).nx 30) lsi las := ⟨hwi.w.mono sc, LogsR.mono sc hwi.lr, hwi.as, hwi.n0, hwi.n1, n2b, hwi.n3⟩
    refine s_logapp (K := K) (cl := cl) (r := false) (W := ((Wi.nx 6).took p).nx 30) (pl := p) (e := opnE ((Wi.nx 6).ref p) "divert" caller (strI "6" ((Wi.nx 6).st % 30)) (some (strI "7" (Wi.st % 6))) came went (some ((W.tick p).ref p)) (W.now p)) gc.sep hwc (ev_var (i := 7) rfl ((r7b.mono sB).mono sc)) (ev_var (i := 2) rfl Rep.int) h0 h1 (most_mono hmi (by decide)) ?_ ?_
    · exact ev_tup (ea_cons (p := true) ev_str (ea_cons (p := true) (ev_var (i := 17) rfl (rb.mono gc.same)) (ea_cons (p := true) ev_str (ea_cons (p := true) (ev_var (i := 4) rfl Rep.str) (ea_cons (p := true) (ev_var (i := 18) rfl rc') (ea_cons (p := true) (ev_var (i := 16) rfl (ra.mono (gb.same.trans gc.same))) (ea_cons (p := true) (ev_var (i := 5) rfl ((rca.mono sA).mono sc)) (ea_cons (p := true) (ev_var (i := 6) rfl ((rwa.mono sA).mono sc)) (ea_cons (p := true) (ev_var (i := 12) rfl ((r12a.mono sA).mono sc)) (ea_cons (p := true) (ev_var (i := 11) rfl Rep.int) ea_nil)))))))))) (Nat.le_of_ble_eq_true rfl)
    intro Gd Hd lsd sd Sd hwd
    refine ⟨Gd, _, s9.trans (sc.trans sd), Sd, _, _, _, _, lsd, rfl, ?_, ?_⟩
    · rw [hnext]
      rfl
    · rw [hnext]
      exact hwd
  rintro σ' G8 H8 M8 s8 S8 ⟨y15, y16, y17, y18, lsi, rfl, rfl, hwi⟩
  rw [Int.toNat_natCast] at hwi S8
  refine s_ret (K := K) (cl := cl) S8 (ev_var (i := 12) rfl (r12a.mono (s47.trans s8))) fun v G9 H9 g9 r9 => ?_
  have sA := s4.trans (s47.trans (s8.trans g9.same))
  exact q G9 lsi v sA (hwi.mono g9.same) r9 sA _ g9.sep
theorem emod_b (z m : Int) (h : 0 < m) : 0 ≤ z % m ∧ z % m < m := ⟨Int.emod_nonneg _ (by omega), Int.emod_lt_of_pos _ h⟩
theorem cause_ix {d : Int} : atI [D.str "hung up", D.str "lost"] (d % 2) = some (.str (if d % 2 = 0 then "hung up" else "lost")) := by
  have : d % 2 = 0 ∨ d % 2 = 1 := by omega
  rcases this with h | h <;> rw [h] <;> rfl
theorem rd_law_close {K : PySem.W.Frag} {cl : Nat → Addr} {vs H Q E} (h : sp_law_close K cl vs H Q E) : t_law_close K cl ⟨fun _ H' => Q .non H', Q, fun _ _ => False, fun _ _ => False⟩ (start ["state", "world", "place", "found", "logs", "clocks", "counts", "lives", "kind", "now"] vs) H := by
  obtain ⟨G, M, S, s, ck, cn, lv, W, ls, las, M0, w, p, vk, k, rfl, rfl, hw, h0, h1, hm, rk, q⟩ := h
  unfold t_law_close
  refine s_seq ?_
  refine s_asgT (K := K) (cl := cl) S (ev_var (i := 1) rfl hw.w) rfl rfl ?_
  intro us G1 H1 g1 ru
  obtain ⟨u4, u5, u6, u7, rfl, r4, r5, r6, r7⟩ := reps4 ru
  obtain rfl := r5.of_loc
  obtain rfl := r6.of_loc
  obtain rfl := r7.of_loc
  refine s_seq ?_
  refine s_asg (K := K) (cl := cl) g1.sep (ev_nx (ea_cons (p := true) (ev_var (i := 0) rfl Rep.loc) (ea_cons (p := true) ev_int ea_nil)) (by decide) (by decide)) ?_
  intro w8 G2 H2 g2 r8
  obtain rfl := r8.of_int
  have s2 := g1.same.trans g2.same
  have hw2 : WRep K cl G2 w ck cn lv (W.nx 10) ls las := ⟨hw.w.mono s2, LogsR.mono s2 hw.lr, hw.as, hw.n0, hw.n1, hw.n2, hw.n3⟩
  refine s_seq ?_
  refine s_if (K := K) (cl := cl) (b := decide (W.st % 10 = 0)) g2.sep (et_test (ev_op (p := true) (q := true) (r := true) (ev_var (i := 8) rfl Rep.int) ev_int (o_eq rfl))) ?_ ?_
  · intro G3 H3 g3 hb
    have e : W.shut p k = (W.nx 10, false) := by unfold LW.shut; rw [if_pos (of_decide_eq_true hb)]
    rw [e] at q
    refine s_ret (K := K) (cl := cl) g3.sep (ev_bl (b := false)) fun v G4 H4 g4 r4 => ?_
    obtain rfl := r4.of_bl
    have sA := s2.trans (g3.same.trans g4.same)
    exact q G4 ls sA (hw2.mono (g3.same.trans g4.same)) sA _ g4.sep
  intro G3 H3 g3 hb
  have hb' := of_decide_eq_false hb
  have s3 := s2.trans g3.same
  refine s_next ?_
  refine s_seq ?_
  refine s_asg (K := K) (cl := cl) g3.sep (ev_time (W := W.nx 10) (ea_cons (p := true) (ev_var (i := 0) rfl Rep.loc) (ea_cons (p := true) (ev_var (i := 5) rfl Rep.loc) (ea_cons (p := true) (ev_var (i := 2) rfl Rep.int) ea_nil))) h0 (by rw [hw2.n1]; exact h1)) ?_
  intro w9 G4 H4 g4 r9
  obtain rfl := r9.of_int
  have s4 := s3.trans g4.same
  have n1' : ((W.nx 10).tick p).clocks.length = 4 := by show (W.clocks.set _ _).length = 4; rw [List.length_set]; exact hw.n1
  have hw4 : WRep K cl G4 w ck cn lv ((W.nx 10).tick p) ls las := ⟨hw.w.mono s4, LogsR.mono s4 hw.lr, hw.as, hw.n0, n1', hw.n2, hw.n3⟩
  have r4' := r4.mono (g2.same.trans (g3.same.trans g4.same))
  refine s_seq ?_
  refine s_if (K := K) (cl := cl) (b := decide (W.st % 10 = 1)) g4.sep (et_test (ev_op (p := true) (q := true) (r := true) (ev_var (i := 8) rfl Rep.int) ev_int (o_eq rfl))) ?_ ?_
  · intro G5 H5 g5 hc
    have e : W.shut p k = ((((W.nx 10).tick p).reborn p).put p (.boot (W.lives.getD p.toNat 0 + 1) ((W.nx 10).now p)), true) := by unfold LW.shut; rw [if_neg hb', if_pos (of_decide_eq_true hc)]
    rw [e] at q
    have s5 := s4.trans g5.same
    have hl3 : p < (W.lives.length : Int) := by rw [hw.n3]; exact h1
    have hl3' : p.toNat < W.lives.length := by omega
    refine s_seq ?_
    refine s_set (K := K) (cl := cl) (d := .int (W.lives.getD p.toNat 0 + 1)) (a := lv) (vs := W.lives.map V.int) (i := p) (j := p.toNat) (M' := fun v => (s, .lst [.int ((W.nx 10).tick p).st]) :: icell ck ((W.nx 10).tick p).clocks :: icell cn W.counts :: (lv, .lst ((W.lives.map V.int).set p.toNat v)) :: (ls.map lcell ++ M0)) g5.sep (ev_op (ev_ixI (p := true) (q := true) (ns := W.lives) (ev_var (i := 7) rfl Rep.loc) (ev_var (i := 2) rfl Rep.int) (.tl (.tl (.tl .hd))) h0 hl3) ev_int o_add_int) (ev_var (i := 7) rfl Rep.loc) (ev_var (i := 2) rfl Rep.int) (fun v => .tl (.tl (.tl .hd))) (ixN_of h0 (by simpa using hl3)) ?_
    intro v G6 H6 s6 S6 r6
    obtain rfl := r6.of_int
    have e2 : (W.lives.map V.int).set p.toNat (.int (W.lives.getD p.toNat 0 + 1)) = (W.lives.set p.toNat (W.lives.getD p.toNat 0 + 1)).map V.int := by rw [List.map_set]
    rw [e2] at S6
    have n3' : (((W.nx 10).tick p).reborn p).lives.length = 4 := by show (W.lives.set _ _).length = 4; rw [List.length_set]; exact hw.n3
    have sB := g5.same.trans s6
    have hw6 : WRep K cl G6 w ck cn lv (((W.nx 10).tick p).reborn p) ls las := ⟨hw4.w.mono sB, LogsR.mono sB hw4.lr, hw.as, hw.n0, n1', hw.n2, n3'⟩
    refine s_seq ?_
    refine s_logapp (K := K) (cl := cl) (r := false) (W := ((W.nx 10).tick p).reborn p) (pl := p) (e := .boot (W.lives.getD p.toNat 0 + 1) ((W.nx 10).now p)) S6 hw6 (ev_var (i := 4) rfl (r4'.mono sB)) (ev_var (i := 2) rfl Rep.int) h0 h1 (most_mono hm (by decide)) ?_ ?_
    · exact ev_tup (ea_cons (p := true) ev_str (ea_cons (p := true) (EvX.is (ev_ixI (p := true) (q := true) (ns := W.lives.set p.toNat (W.lives.getD p.toNat 0 + 1)) (ev_var (i := 7) rfl Rep.loc) (ev_var (i := 2) rfl Rep.int) (.tl (.tl (.tl .hd))) h0 (by rw [List.length_set]; exact hl3)) (by rw [getD_set_self hl3'])) (ea_cons (p := true) (ev_var (i := 9) rfl Rep.int) ea_nil))) (Nat.le_of_ble_eq_true rfl)
    intro G7 H7 ls7 s7 S7 hw7
    refine s_ret (K := K) (cl := cl) S7 (ev_bl (b := true)) fun v G8 H8 g8 r8 => ?_
    obtain rfl := r8.of_bl
    have sA := s5.trans (s6.trans (s7.trans g8.same))
    exact q G8 ls7 sA (hw7.mono g8.same) sA _ g8.sep
  intro G5 H5 g5 hc
  have e : W.shut p k = (((W.nx 10).tick p).put p (.close k (if W.st % 10 % 2 = 0 then "hung up" else "lost") ((W.nx 10).now p)), false) := by unfold LW.shut; rw [if_neg hb', if_neg (of_decide_eq_false hc)]
  rw [e] at q
  have s5 := s4.trans g5.same
  have hw5 := hw4.mono g5.same
  refine s_next ?_
  refine s_seq ?_
  refine s_logapp (K := K) (cl := cl) (r := false) (W := (W.nx 10).tick p) (pl := p) (e := .close k (if W.st % 10 % 2 = 0 then "hung up" else "lost") ((W.nx 10).now p)) g5.sep hw5 (ev_var (i := 4) rfl (r4'.mono g5.same)) (ev_var (i := 2) rfl Rep.int) h0 h1 (most_mono hm (by decide)) ?_ ?_
  · exact ev_tup (ea_cons (p := true) ev_str (ea_cons (p := true) (ev_var (i := 3) rfl (rk.mono s5)) (ea_cons (ev_op (ev_tup (ea_cons (p := true) ev_str (ea_cons (p := true) ev_str ea_nil)) (Nat.le_of_ble_eq_true rfl)) (ev_op (p := true) (q := true) (r := true) (ev_var (i := 8) rfl Rep.int) ev_int (o_mod (by decide))) (o_ixT cause_ix)) (ea_cons (p := true) (ev_var (i := 9) rfl Rep.int) ea_nil)))) (Nat.le_of_ble_eq_true rfl)
  intro G6 H6 ls6 s6 S6 hw6
  refine s_ret (K := K) (cl := cl) S6 (ev_bl (b := false)) fun v G7 H7 g7 r7 => ?_
  obtain rfl := r7.of_bl
  have sA := s5.trans (s6.trans g7.same)
  exact q G7 ls6 sA (hw6.mono g7.same) sA _ g7.sep
theorem most_shut {W : LW} {n : Nat} {p : Int} {k : Ref} (h : W.most n) : (W.shut p k).1.most (n + 1) := by
  unfold LW.shut
  split
  · exact most_mono h (Nat.le_succ n)
  · split
    · exact most_put (W := ((W.nx 10).tick p).reborn p) h
    · exact most_put (W := (W.nx 10).tick p) h
/-! ### reading: law_call -/
section
variable {K : PySem.W.Frag} {cl : Nat → Addr} {p q r : Bool} {M M0 M1 M2 : ML} {G H : Hp} {σ : St} {tt tu : TT} {te : TE}
theorem eu_tr {F : Bool → Hp → ML → Prop} (h : EvG te σ G M fun v G' M' => ∃ b, v = .bl b ∧ F b G' M') : EvU (tTr K te) σ G M F := fun G1 H1 s S Q k => h G1 H1 s S _ fun v G2 H2 M2 s2 S2 hb => by
  obtain ⟨b, rfl, hb⟩ := hb
  exact ⟨b, rfl, k b G2 H2 M2 s2 S2 hb⟩
theorem eu_and {F1 F : Bool → Hp → ML → Prop} (h1 : EvU tt σ G M F1) (ht : ∀ G' M', Same G G' → F1 true G' M' → EvU tu σ G' M' F) (hf : ∀ G' M', Same G G' → F1 false G' M' → F false G' M') : EvU (tAnd tt tu) σ G M F := fun G1 H1 s S Q k => h1 G1 H1 s S _ fun b G2 H2 M2 s2 S2 hb => by
  cases b with
  | false => exact k false G2 H2 M2 s2 S2 (hf G2 M2 (s.trans s2) hb)
  | true =>
    show tu σ H2 Q
    exact ht G2 M2 (s.trans s2) hb G2 H2 (Same.refl _) S2 Q fun b G3 H3 M3 s3 S3 hb3 => k b G3 H3 M3 (s2.trans s3) S3 hb3
end
theorem at_app {a : Addr} {o : HO} {M : ML} (h : At M a o) : ∀ {cs : ML}, At (cs ++ M) a o
  | [] => h
  | _ :: cs => .tl (at_app h (cs := cs))
theorem ch_app {a : Addr} {o o' : HO} {M M' : ML} (h : Ch M a o o' M') : ∀ {cs : ML}, Ch (cs ++ M) a o o' (cs ++ M')
  | [] => h
  | _ :: cs => .tl (ch_app h (cs := cs))
/-- i in xs, xs an owned list of numbers -/
theorem ev_inI {K : PySem.W.Frag} {cl : Nat → Addr} {p q neg : Bool} {M M1 M2 : ML} {G : Hp} {σ : St} {ta tb : TE} {a : Addr} {ns : List Int} {i : Int} (ha : EvX K cl p ta σ G M (.int i) M1) (hb : EvX K cl q tb σ G M1 (.loc a) M2) (hm : At M2 a (.lst (ns.map V.int))) :
    EvX K cl (p && q) (tOp (rIn K neg) ta tb) σ G M (.bl (neg != decide (i ∈ ns))) M2 := fun G1 H1 s S Q k => ha G1 H1 s S _ fun x G2 H2 g2 rx => hb G2 H2 (s.trans g2.same) g2.sep _ fun y G3 H3 g3 ry => by
  obtain rfl := (rx.mono g3.same).of_int
  obtain rfl := ry.of_loc
  refine ⟨a, ns.map V.int, rfl, .inl (.inl (.inl (g3.sep.look hm))), rfl, ?_, ?_⟩
  · rw [List.all_eq_true]
    intro x hx
    obtain ⟨y, _, rfl⟩ := List.mem_map.mp hx
    rfl
  · have e : inV (.int i) (ns.map V.int) = decide (i ∈ ns) := by
      unfold inV
      rw [List.any_map, Bool.eq_iff_iff, List.any_eq_true, decide_eq_true_iff]
      constructor
      · rintro ⟨y, hy, h⟩
        have : y = i := by simpa [eqV] using h
        exact this ▸ hy
      · intro h
        exact ⟨i, h, by simp [eqV]⟩
    rw [e]
    have e2 : (if neg = true then !decide (i ∈ ns) else decide (i ∈ ns)) = (neg != decide (i ∈ ns)) := by cases neg <;> simp
    rw [e2]
    exact k _ G3 H3 (g2.trans g3) Rep.bl
theorem wcells_in {s ck cn lv : Addr} {W : LW} {ls : List LC} {M0 : ML} {e : Addr × HO} : (e :: wcells s ck cn lv W ls M0).Perm (wcells s ck cn lv W ls (e :: M0)) := by
  show (e :: ((s, HO.lst [V.int W.st]) :: icell ck W.clocks :: icell cn W.counts :: icell lv W.lives :: ls.map lcell) ++ M0).Perm (((s, HO.lst [V.int W.st]) :: icell ck W.clocks :: icell cn W.counts :: icell lv W.lives :: ls.map lcell) ++ e :: M0)
  exact List.perm_middle.symm
@[reducible] def oD (o : Int × Ref) : D := .tup [.int o.1, refD o.2]
theorem most_step {j n : Int} {caller : Str} {k : Nat} {y : Way} {m : Nat} (h : y.W.most m) : (Way.step j n caller k y).W.most (m + 3) := most_opened (W := y.W) h
theorem most_steps {j n : Int} {caller : Str} {y : Way} {m : Nat} (h : y.W.most m) : ∀ (k : Nat), (Way.steps j n caller k y).W.most (m + 3 * k)
  | 0 => h
  | k + 1 => most_mono (most_step (most_steps h k)) (by omega)
theorem steps_len {j n : Int} {caller : Str} {y : Way} : ∀ (k : Nat), (Way.steps j n caller k y).opened.length = y.opened.length + k
  | 0 => rfl
  | k + 1 => by
    show ((Way.steps j n caller k y).opened ++ [_]).length = _
    rw [List.length_append, steps_len k]
    rfl
theorem steps_place {j n : Int} {caller : Str} {y : Way} (h : 0 ≤ y.place ∧ y.place < 4) : ∀ (k : Nat), 0 ≤ (Way.steps j n caller k y).place ∧ (Way.steps j n caller k y).place < 4
  | 0 => h
  | k + 1 => emod_b _ 4 (by decide)
theorem steps_opened {j n : Int} {caller : Str} {y : Way} (h : 0 ≤ y.place ∧ y.place < 4) (h2 : ∀ o ∈ y.opened, 0 ≤ o.1 ∧ o.1 < 4) : ∀ (k : Nat), ∀ o ∈ (Way.steps j n caller k y).opened, 0 ≤ o.1 ∧ o.1 < 4
  | 0 => h2
  | k + 1 => fun o ho => by
    rcases List.mem_append.mp (show o ∈ (Way.steps j n caller k y).opened ++ [_] from ho) with hh | hh
    · exact steps_opened h h2 k o hh
    · rw [List.mem_singleton] at hh
      subst hh
      exact steps_place h k
theorem most_marked {W : LW} {n : Nat} {secs : Int} {o : Int × Ref} (h : W.most n) : (W.marked secs o).most (n + 1) := by
  unfold LW.marked
  split
  · exact most_put h
  · exact most_mono (W := W) h (Nat.le_succ n)
theorem most_marks : ∀ {os : List (Int × Ref)} {secs : Int} {W : LW} {n : Nat}, W.most n → (LW.marks os secs W).most (n + os.length)
  | [], _, _, _, h => h
  | o :: os, secs, W, n, h => most_mono (most_marks (os := os) (most_marked h)) (by rw [List.length_cons]; omega)
theorem most_shuts : ∀ {os : List (Int × Ref)} {bs : List Int} {W : LW} {n : Nat}, W.most n → (LW.shuts os bs W).most (n + os.length)
  | [], _, _, _, h => h
  | o :: os, bs, W, n, h => by
    unfold LW.shuts
    rw [List.length_cons]
    split
    · exact most_mono (most_shuts (os := os) h) (by omega)
    · exact most_mono (most_shuts (os := os) (most_shut h)) (by omega)
theorem legsN_b {d j : Int} (h0 : 0 ≤ d) (h1 : d < 4) : 1 ≤ legsN d j ∧ legsN d j ≤ 6 := by
  unfold legsN
  split <;> omega
theorem way_len {W : LW} {j : Int} : (W.way j).opened.length ≤ 6 := by
  have h := legsN_b (d := W.st % 4) (j := j) (emod_b _ 4 (by decide)).1 (emod_b _ 4 (by decide)).2
  unfold LW.way
  rw [steps_len]
  show 0 + _ ≤ 6
  omega
theorem most_way {W : LW} {j : Int} {n : Nat} (hm : W.most n) : (W.way j).W.most (n + 18) := by
  have h := legsN_b (d := W.st % 4) (j := j) (emod_b _ 4 (by decide)).1 (emod_b _ 4 (by decide)).2
  unfold LW.way
  exact most_mono (most_steps (y := ⟨((W.nx 4).nx 4).nx 6, (W.nx 4).st % 4, none, []⟩) hm _) (by omega)
theorem most_call {W : LW} {j : Int} {n : Nat} (hm : W.most n) : (W.call j).most (n + 30) := by
  have := way_len (W := W) (j := j)
  unfold LW.call
  exact most_mono (most_shuts (most_marks (W := ((W.way j).W.nx 4).nx 8) (most_way hm))) (by omega)
theorem secs_ix {d : Int} (h0 : 0 ≤ d) (h1 : d < 4) : atI [D.int 0, D.int 1, D.int 59, D.int 61] d = some (.int (if d = 0 then 0 else if d = 1 then 1 else if d = 2 then 59 else 61)) := by
  have : d = 0 ∨ d = 1 ∨ d = 2 ∨ d = 3 := by omega
  rcases this with rfl | rfl | rfl | rfl <;> rfl
theorem rd_law_call {K : PySem.W.Frag} {cl : Nat → Addr} {vs H Q E} (h : sp_law_call K cl vs H Q E) : t_law_call K cl ⟨fun _ H' => Q .non H', Q, fun _ _ => False, fun _ _ => False⟩ (start ["state", "world", "j", "legs", "place", "caller", "came", "opened", "k", "went", "found", "seconds", "spot", "booted"] vs) H := by
  obtain ⟨G, M, S, s, ck, cn, lv, W, ls, las, M0, w, j, rfl, rfl, hw, h0, h1, hm, q⟩ := h
  unfold t_law_call
  have dw : ∀ {G' : Hp} {W' : LW} {ls' : List LC} (m : Int), WRep K cl G' w ck cn lv W' ls' las → WRep K cl G' w ck cn lv (W'.nx m) ls' las := fun m h => ⟨h.w, h.lr, h.as, h.n0, h.n1, h.n2, h.n3⟩
  have hd4 := emod_b W.st 4 (by decide)
  refine s_seq ?_
  refine s_asg (K := K) (cl := cl) S (ev_op (p := true) (r := true) ev_int (ev_nx (ea_cons (p := true) (ev_var (i := 0) rfl Rep.loc) (ea_cons (p := true) ev_int ea_nil)) (by decide) (by decide)) o_add_int) ?_
  intro v1 G1 H1 g1 r1
  obtain rfl := r1.of_int
  have hw1 := dw 4 (hw.mono g1.same)
  refine s_seq ?_
  refine s_ifJ (K := K) (cl := cl) (p := true) (M1 := wcells s ck cn lv (W.nx 4) ls M0) (b := decide (9 < j)) (fun σ' G' M' => M' = wcells s ck cn lv (W.nx 4) ls M0 ∧ σ' = [some (.ref s), some w, some (.int j), some (.int (legsN (W.st % 4) j)), none, none, none, none, none, none, none, none, none, none]) g1.sep ?_ ?_ ?_ ?_
  · exact et_test (ev_op (p := true) (q := true) (r := true) (ev_var (i := 2) rfl Rep.int) ev_int o_gt)
  · intro kk G2 H2 g2 hb
    refine s_asg (K := K) (cl := cl) g2.sep (ev_op (p := true) (q := true) (r := true) (ev_var (i := 3) rfl Rep.int) ev_int o_add_int) ?_
    intro v3 G3 H3 g3 r3
    obtain rfl := r3.of_int
    refine kk _ G3 H3 _ (g2.same.trans g3.same) g3.sep ⟨rfl, ?_⟩
    unfold legsN
    rw [if_pos (show j > 9 from of_decide_eq_true hb)]
    rfl
  · intro kk G2 H2 g2 hb
    refine s_next ?_
    refine kk _ G2 H2 _ g2.same g2.sep ⟨rfl, ?_⟩
    unfold legsN
    rw [if_neg (show ¬ j > 9 from of_decide_eq_false hb)]
    rfl
  rintro _ G2 H2 _ s2 S2 ⟨rfl, rfl⟩
  have hw2 := hw1.mono s2
  have hn := legsN_b (d := W.st % 4) (j := j) hd4.1 hd4.2
  generalize hN : legsN (W.st % 4) j = n at hn
  have hp := emod_b (W.nx 4).st 4 (by decide)
  refine s_seq ?_
  refine s_asg (K := K) (cl := cl) S2 (ev_nx (W := W.nx 4) (ea_cons (p := true) (ev_var (i := 0) rfl Rep.loc) (ea_cons (p := true) ev_int ea_nil)) (by decide) (by decide)) ?_
  intro v3 G3 H3 g3 r3
  obtain rfl := r3.of_int
  have hw3 := dw 4 (hw2.mono g3.same)
  have h6 := emod_b ((W.nx 4).nx 4).st 6 (by decide)
  refine s_seq ?_
  refine s_asg (K := K) (cl := cl) g3.sep (strI_ev (ev_nx (W := (W.nx 4).nx 4) (ea_cons (p := true) (ev_var (i := 0) rfl Rep.loc) (ea_cons (p := true) ev_int ea_nil)) (by decide) (by decide)) h6.1 (Int.lt_trans h6.2 (by decide)) (by decide)) ?_
  intro v4 G4 H4 g4 r4
  obtain rfl := r4.of_str
  have hw4 := dw 6 (hw3.mono g4.same)
  refine s_seq ?_
  refine s_asg (K := K) (cl := cl) g4.sep ev_non ?_
  intro v5 G5 H5 g5 r5
  obtain rfl := r5.of_non
  refine s_seq ?_
  refine s_asgG g5.sep eg_nil ?_
  rintro _ G6 H6 _ s6 S6 ⟨u, rfl, rfl⟩
  have S6' := S6.perm wcells_in
  have hw6 := (hw4.mono g5.same).mono s6
  have s06 := g1.same.trans (s2.trans (g3.same.trans (g4.same.trans (g5.same.trans s6))))
  generalize hC : strI "4" (((W.nx 4).nx 4).st % 6) = caller
  generalize hP : (W.nx 4).st % 4 = place at hp
  have hm0 : (((W.nx 4).nx 4).nx 6).most 1000000 := hm
  have hcall : W.call j = LW.shuts (Way.steps j n caller n.toNat ⟨((W.nx 4).nx 4).nx 6, place, none, []⟩).opened [] (LW.marks (Way.steps j n caller n.toNat ⟨((W.nx 4).nx 4).nx 6, place, none, []⟩).opened (secsF ((Way.steps j n caller n.toNat ⟨((W.nx 4).nx 4).nx 6, place, none, []⟩).W.st % 4) (((Way.steps j n caller n.toNat ⟨((W.nx 4).nx 4).nx 6, place, none, []⟩).W.nx 4).st % 8)) (((Way.steps j n caller n.toNat ⟨((W.nx 4).nx 4).nx 6, place, none, []⟩).W.nx 4).nx 8)) := by
    subst hN hC hP
    rfl
  rw [hcall] at q
  generalize hY : (⟨((W.nx 4).nx 4).nx 6, place, none, []⟩ : Way) = Y0 at q
  have hYW : Y0.W = ((W.nx 4).nx 4).nx 6 := by rw [← hY]
  have hYp : 0 ≤ Y0.place ∧ Y0.place < 4 := by rw [← hY]; exact hp
  have hYo : Y0.opened = [] := by rw [← hY]
  have hYm : Y0.W.most 1000000 := by rw [hYW]; exact hm0
  refine s_seq ?_
  apply s_forR1 (K := K) (cl := cl) (p := true) (n := n) (fun i σ' G' M' => ∃ y wc y8 y9 y10 vo lsi, Way.steps j n caller i Y0 = y ∧ σ' = [some (.ref s), some w, some (.int j), some (.int n), some (.int y.place), some (.str caller), some wc, some (.ref u), y8, y9, y10, none, none, none] ∧ M' = wcells s ck cn lv y.W lsi ((u, .lst vo) :: M0) ∧ WRep K cl G' w ck cn lv y.W lsi las ∧ Rep K cl G' wc (optRef y.came) ∧ Reps K cl G' vo (y.opened.map oD)) S6'
  · exact ea_cons (p := true) (ev_var (i := 3) rfl Rep.int) ea_nil
  · omega
  · intro G7 H7 g7
    refine ⟨Y0, .non, none, none, none, [], ls, rfl, ?_, ?_, ?_, ?_, ?_⟩
    · rw [← hY]; rfl
    · rw [hYW]
    · rw [hYW]; exact hw6.mono g7.same
    · rw [← hY]; exact Rep.non
    · rw [hYo]; exact Reps.nil
  · rintro G7 s7 i σ' G8 H8 M8 hi s8 S8 ⟨y, wc, y8, y9, y10, vo, lsi, hy, rfl, rfl, hwi, rci, rvo⟩
    have hyp : 0 ≤ y.place ∧ y.place < 4 := hy ▸ steps_place hYp i
    have hym : y.W.most 1000100 := hy ▸ most_mono (most_steps hYm i) (by omega)
    have hyl : y.opened.length ≤ 6 := by rw [← hy, steps_len, hYo]; simp only [List.length_nil]; omega
    have hnext : Way.steps j n caller (i + 1) Y0 = y.step j n caller i := by rw [← hy]; rfl
    refine s_gname ?_
    refine s_seq ?_
    refine s_asg (K := K) (cl := cl) S8 ev_non ?_
    intro va Ga Ha ga ra
    obtain rfl := ra.of_non
    refine s_seq ?_
    refine s_ifJ (K := K) (cl := cl) (p := true) (M1 := wcells s ck cn lv y.W lsi ((u, .lst vo) :: M0)) (b := decide ((i : Int) + 1 < n)) (fun σ' G' M' => M' = wcells s ck cn lv y.W lsi ((u, .lst vo) :: M0) ∧ ∃ v9, Rep K cl G' v9 (optRef (wentF y.place j i n)) ∧ σ' = [some (.ref s), some w, some (.int j), some (.int n), some (.int y.place), some (.str caller), some wc, some (.ref u), some (.int (i : Int)), some v9, y10, none, none, none]) ga.sep ?_ ?_ ?_ ?_
    · exact et_test (ev_op (p := true) (q := true) (r := true) (ev_op (p := true) (q := true) (r := true) (ev_var (i := 8) rfl Rep.int) ev_int o_add_int) (ev_var (i := 3) rfl Rep.int) o_lt)
    · intro kk Gb Hb gb hb
      refine s_asg (K := K) (cl := cl) (d := refD (y.place, 1, 900 + 10 * j + i)) gb.sep (ev_tup (ea_cons (p := true) (ev_var (i := 4) rfl Rep.int) (ea_cons (p := true) ev_int (ea_cons (p := true) (ev_op (p := true) (q := true) (r := true) (ev_op (p := true) (q := true) (r := true) ev_int (ev_op (p := true) (q := true) (r := true) ev_int (ev_var (i := 2) rfl Rep.int) (o_mul (by walk_at "mul"))) o_add_int) (ev_var (i := 8) rfl Rep.int) o_add_int) ea_nil))) (Nat.le_of_ble_eq_true rfl)) ?_
      intro vc Gc Hc gc rc
      refine kk _ Gc Hc _ (gb.same.trans gc.same) gc.sep ⟨rfl, vc, ?_, rfl⟩
      unfold wentF
      rw [if_pos (of_decide_eq_true hb)]
      exact rc
    · intro kk Gb Hb gb hb
      refine s_next ?_
      refine kk _ Gb Hb _ gb.same gb.sep ⟨rfl, .non, ?_, rfl⟩
      unfold wentF
      rw [if_neg (of_decide_eq_false hb)]
      exact Rep.non
    rintro _ Gb Hb _ sb Sb ⟨rfl, v9, r9, rfl⟩
    have s8b := ga.same.trans sb
    refine s_seq ?_
    refine s_asgG Sb (eg_call (K := K) (cl := cl) (p := false) (F := fun v G' M' => ∃ ls', M' = wcells s ck cn lv (y.W.opened y.place (roleF i n) caller y.came (wentF y.place j i n)) ls' ((u, .lst vo) :: M0) ∧ WRep K cl G' w ck cn lv (y.W.opened y.place (roleF i n) caller y.came (wentF y.place j i n)) ls' las ∧ Rep K cl G' v (refD ((y.W.tick y.place).ref y.place)))
      (ea_cons (p := true) (ev_var (i := 0) rfl Rep.loc) (ea_cons (p := true) (ev_var (i := 1) rfl (hwi.mono s8b).w) (ea_cons (p := true) (ev_var (i := 4) rfl Rep.int) (ea_cons (ev_call (R := R_law_role) (d := .str (roleF i n)) (ea_cons (p := true) (ev_var (i := 8) rfl Rep.int) (ea_cons (p := true) (ev_var (i := 3) rfl Rep.int) ea_nil)) ⟨_, _, rfl, rfl⟩) (ea_cons (p := true) (ev_var (i := 5) rfl Rep.str) (ea_cons (p := true) (ev_var (i := 6) rfl (rci.mono s8b)) (ea_cons (p := true) (ev_var (i := 9) rfl r9) ea_nil))))))) ?_) ?_
    · intro xs G' T s' rx hT
      obtain ⟨x0, x1, x2, x3, x4, x5, x6, rfl, e0, e1, e2, e3, e4, e5, e6⟩ := reps7 rx
      obtain rfl := e0.of_loc
      obtain rfl := e2.of_int
      obtain rfl := e3.of_str
      obtain rfl := e4.of_str
      have hwx := (hwi.mono s8b).mono s'
      exact ⟨s, ck, cn, lv, y.W, lsi, las, _, x1, y.place, roleF i n, caller, x5, y.came, x6, wentF y.place j i n, rfl, rfl, ⟨e1, hwx.lr, hwx.as, hwx.n0, hwx.n1, hwx.n2, hwx.n3⟩, hyp.1, hyp.2, most_mono hym (by decide), e5, e6, fun G2 ls' v sx hx rx2 => hT v G2 _ sx ⟨ls', rfl, ⟨(hwi.mono s8b).w.mono (s'.trans sx), hx.lr, hx.as, hx.n0, hx.n1, hx.n2, hx.n3⟩, rx2⟩⟩
    rintro vf Gc Hc _ sc Sc ⟨lsc, rfl, hwc, rf⟩
    generalize hW1 : y.W.opened y.place (roleF i n) caller y.came (wentF y.place j i n) = W1 at Sc hwc
    have s8c := s8b.trans sc
    refine s_seq ?_
    refine s_app (K := K) (cl := cl) (a := u) (us := vo) (vs := vo) (d := oD (y.place, (y.W.tick y.place).ref y.place)) (M' := fun v => wcells s ck cn lv W1 lsc ((u, .lst (vo ++ [v])) :: M0)) Sc (ev_var (i := 7) rfl Rep.loc) (.tl (.tl (.tl (.tl (at_app .hd))))) (ev_tup (ea_cons (p := true) (ev_var (i := 4) rfl Rep.int) (ea_cons (p := true) (ev_var (i := 10) rfl rf) ea_nil)) (Nat.le_of_ble_eq_true rfl)) (fun v => .tl (.tl (.tl (.tl (ch_app .hd))))) (by rw [rvo.length, List.length_map]; omega) ?_
    intro vd Gd Hd sd Sd rd
    refine s_seq ?_
    refine s_asg (K := K) (cl := cl) Sd (ev_var (i := 9) rfl (r9.mono (sc.trans sd))) ?_
    intro ve Ge He ge re
    refine s_asg (K := K) (cl := cl) ge.sep (ev_op (r := true) (ev_cb (ea_cons (ev_op (r := true) (ev_op (p := true) (q := true) (r := true) (ev_var (i := 4) rfl Rep.int) ev_int o_add_int) (ev_nx (W := W1) (ea_cons (p := true) (ev_var (i := 0) rfl Rep.loc) (ea_cons (p := true) ev_int ea_nil)) (by decide) (by decide)) o_add_int) ea_nil) on_int) ev_int (o_mod (by decide))) ?_
    intro vg Gg Hg gg rg
    obtain rfl := rg.of_int
    have sA := sd.trans (ge.same.trans gg.same)
    have sB := s8.trans (s8c.trans sA)
    refine ⟨Gg, _, sB, gg.sep, _, ve, some (.int (i : Int)), some v9, some vf, vo ++ [vd], lsc, hnext, ?_, ?_, ?_, ?_, ?_⟩
    · unfold Way.step
      rw [hW1]
      rfl
    · unfold Way.step
      rw [hW1]
    · unfold Way.step
      rw [hW1]
      exact dw 3 (hwc.mono sA)
    · exact re.mono gg.same
    · unfold Way.step
      show Reps K cl Gg _ ((y.opened ++ [_]).map oD)
      rw [List.map_append]
      exact (rvo.mono (s8c.trans sA)).append (Reps.one (rd.mono (ge.same.trans gg.same)))
  rintro σ' G7 H7 M7 s7 S7 ⟨y, wc, y8, y9, y10, vo, lsi, hy, rfl, rfl, hwi, rci, rvo⟩
  rw [hy] at q
  have hym : y.W.most 1000100 := hy ▸ most_mono (most_steps hYm n.toNat) (by omega)
  have hyl : y.opened.length ≤ 6 := by rw [← hy, steps_len, hYo]; simp only [List.length_nil]; omega
  have hyo : ∀ o ∈ y.opened, 0 ≤ o.1 ∧ o.1 < 4 := hy ▸ steps_opened hYp (by rw [hYo]; exact fun o ho => nomatch ho) n.toNat
  obtain ⟨G8, s8, S8, ro⟩ := Sep.lst (K := K) (cl := cl) (S7.perm wcells_in.symm) rvo
  have hw8 := hwi.mono s8
  have hq4 := emod_b y.W.st 4 (by decide)
  have hq8 := emod_b (y.W.nx 4).st 8 (by decide)
  refine s_seq ?_
  refine s_asg (K := K) (cl := cl) (d := .int (secsF (y.W.st % 4) ((y.W.nx 4).st % 8))) S8 (ev_op (r := true) (ev_op (ev_tup (ea_cons (p := true) ev_int (ea_cons (p := true) ev_int (ea_cons (p := true) ev_int (ea_cons (p := true) ev_int ea_nil)))) (Nat.le_of_ble_eq_true rfl)) (ev_nx (W := y.W) (ea_cons (p := true) (ev_var (i := 0) rfl Rep.loc) (ea_cons (p := true) ev_int ea_nil)) (by decide) (by decide)) (o_ixT (secs_ix hq4.1 hq4.2))) (ev_op (p := true) (r := true) ev_int (ev_nx (W := y.W.nx 4) (ea_cons (p := true) (ev_var (i := 0) rfl Rep.loc) (ea_cons (p := true) ev_int ea_nil)) (by decide) (by decide)) (o_mul (by walk_at "mul"))) o_add_int) ?_
  intro v9 G9 H9 g9 r9
  obtain rfl := r9.of_int
  have hw9 := dw 8 (dw 4 (hw8.mono g9.same))
  have ro9 := ro.mono g9.same
  have hmq : ((y.W.nx 4).nx 8).most 1000100 := hym
  have s09 := s06.trans (s7.trans (s8.trans g9.same))
  generalize secsF (y.W.st % 4) ((y.W.nx 4).st % 8) = secs at q
  generalize hWq : (y.W.nx 4).nx 8 = Wq at q hw9 hmq
  rw [hWq] at g9
  have S9 := g9.sep
  clear g9
  refine s_seq ?_
  apply s_forL (K := K) (cl := cl) (p := true) (ds := y.opened.map oD) (fun i σ' G' M' => ∃ sc Wi y10 y12 lsi, LW.marks (y.opened.drop i) sc Wi = LW.marks y.opened secs Wq ∧ Wi.most (1000100 + i) ∧ σ' = [some (.ref s), some w, some (.int j), some (.int n), some (.int y.place), some (.str caller), some wc, some (.ref u), y8, y9, y10, some (.int sc), y12, none] ∧ M' = wcells s ck cn lv Wi lsi M0 ∧ WRep K cl G' w ck cn lv Wi lsi las) S9
  · exact ev_var (i := 7) rfl ro9
  · intro Ga Ha ga
    exact ⟨secs, Wq, _, _, lsi, rfl, hmq, rfl, rfl, hw9.mono ga.same⟩
  · rintro Ga sa i x d σ' Gb Hb Mb hd sb Sb rb ⟨sc, Wi, y10', y12', lsj, hmk, hmo, rfl, rfl, hwj⟩
    rw [List.getElem?_map] at hd
    cases hx : y.opened[i]? with
    | none => rw [hx] at hd; cases hd
    | some o =>
    rw [hx] at hd
    cases hd
    have hi := (List.getElem?_eq_some_iff.mp hx).1
    have ho := hyo o (List.mem_of_getElem? hx)
    have hdr : y.opened.drop i = o :: y.opened.drop (i + 1) := by
      obtain ⟨hi', e⟩ := List.getElem?_eq_some_iff.mp hx
      rw [← e]
      exact List.drop_eq_getElem_cons hi'
    rw [hdr] at hmk
    refine g_tup Sb rb rfl rfl ?_
    intro us ru
    obtain ⟨u1, u2, rfl, e1, e2⟩ := reps2 ru
    obtain rfl := e1.of_int
    refine s_seq ?_
    refine s_ifJ (K := K) (cl := cl) (p := true) (M1 := wcells s ck cn lv Wi lsj M0) (b := decide (0 < sc)) (fun σ' G' M' => ∃ ls', M' = wcells s ck cn lv (if sc > 0 then Wi.put o.1 (.mark o.2 sc) else Wi) ls' M0 ∧ WRep K cl G' w ck cn lv (if sc > 0 then Wi.put o.1 (.mark o.2 sc) else Wi) ls' las ∧ σ' = [some (.ref s), some w, some (.int j), some (.int n), some (.int y.place), some (.str caller), some wc, some (.ref u), y8, y9, some u2, some (.int sc), some (.int o.1), none]) Sb ?_ ?_ ?_ ?_
    · exact et_test (ev_op (p := true) (q := true) (r := true) (ev_var (i := 11) rfl Rep.int) ev_int o_gt)
    · intro kk Gc Hc gc hb
      refine s_logapp (K := K) (cl := cl) (r := false) (W := Wi) (pl := o.1) (e := .mark o.2 sc) gc.sep (hwj.mono gc.same) (ev_op (p := true) (q := true) (r := true) (ev_var (i := 1) rfl (hwj.mono gc.same).w) ev_int (o_ixT rfl)) (ev_var (i := 12) rfl Rep.int) ho.1 ho.2 (most_mono hmo (by omega)) ?_ ?_
      · exact ev_tup (ea_cons (p := true) ev_str (ea_cons (p := true) (ev_var (i := 10) rfl (e2.mono gc.same)) (ea_cons (p := true) (ev_var (i := 11) rfl Rep.int) ea_nil))) (Nat.le_of_ble_eq_true rfl)
      intro Gd Hd lsd sd Sd hwd
      refine kk _ Gd Hd _ (gc.same.trans sd) Sd ⟨lsd, ?_, ?_, rfl⟩
      · rw [if_pos (show sc > 0 from of_decide_eq_true hb)]
      · rw [if_pos (show sc > 0 from of_decide_eq_true hb)]
        exact hwd
    · intro kk Gc Hc gc hb
      refine s_next ?_
      refine kk _ Gc Hc _ gc.same gc.sep ⟨lsj, ?_, ?_, rfl⟩
      · rw [if_neg (show ¬ sc > 0 from of_decide_eq_false hb)]
      · rw [if_neg (show ¬ sc > 0 from of_decide_eq_false hb)]
        exact hwj.mono gc.same
    rintro _ Gc Hc _ sc' Sc ⟨lsc, rfl, hwc, rfl⟩
    have hmo' := most_marked (secs := sc) (o := o) hmo
    have hst : (if sc > 0 then Wi.put o.1 (.mark o.2 sc) else Wi).st = Wi.st := by split <;> rfl
    have hmd : Wi.marked sc o = (if sc > 0 then Wi.put o.1 (.mark o.2 sc) else Wi).nx 3 := rfl
    generalize (if sc > 0 then Wi.put o.1 (.mark o.2 sc) else Wi) = Wj at Sc hwc hst hmd
    refine s_asg (K := K) (cl := cl) Sc (ev_op (p := true) (r := true) (ev_var (i := 11) rfl Rep.int) (ev_op (p := true) (r := true) ev_int (ev_nx (W := Wj) (ea_cons (p := true) (ev_var (i := 0) rfl Rep.loc) (ea_cons (p := true) ev_int ea_nil)) (by decide) (by decide)) (o_mul (by walk_at "mul"))) o_add_int) ?_
    intro vd Gd Hd gd rd
    obtain rfl := rd.of_int
    refine ⟨Gd, _, sb.trans (sc'.trans gd.same), gd.sep, sc + 10 * (Wj.st % 3), Wi.marked sc o, _, _, lsc, ?_, hmo', rfl, ?_, ?_⟩
    · rw [← hmk, hst]
      rfl
    · rw [hmd]
    · rw [hmd]
      exact dw 3 (hwc.mono gd.same)
  rintro σ' Ga Ha Ma sa Sa ⟨sc, Wi, y10', y12', lsj, hmk, hmo, rfl, rfl, hwj⟩
  rw [List.length_map, List.drop_length] at hmk
  have hmk' : Wi = LW.marks y.opened secs Wq := hmk
  rw [← hmk'] at q
  rw [List.length_map] at hmo
  have roa := ro9.mono sa
  refine s_seq ?_
  refine s_asgG Sa eg_nil ?_
  rintro _ Gb Hb _ sb Sb ⟨b, rfl, rfl⟩
  have Sb' := Sb.perm wcells_in
  apply s_forL (K := K) (cl := cl) (p := true) (ds := y.opened.map oD) (fun i σ' G' M' => ∃ bs Wj y10 y12 lsk, LW.shuts (y.opened.drop i) bs Wj = LW.shuts y.opened [] Wi ∧ Wj.most (1000110 + i) ∧ bs.length ≤ i ∧ σ' = [some (.ref s), some w, some (.int j), some (.int n), some (.int y.place), some (.str caller), some wc, some (.ref u), y8, y9, y10, some (.int sc), y12, some (.ref b)] ∧ M' = wcells s ck cn lv Wj lsk (icell b bs :: M0) ∧ WRep K cl G' w ck cn lv Wj lsk las) Sb'
  · exact ev_var (i := 7) rfl (roa.mono sb)
  · intro Gc Hc gc
    exact ⟨[], Wi, _, _, lsj, rfl, most_mono hmo (by omega), Nat.le_refl _, rfl, rfl, (hwj.mono sb).mono gc.same⟩
  · rintro Gc sc' i x d σ' Gd Hd Md hdd sd Sd rdd ⟨bs, Wj, y10'', y12'', lsk, hsh, hmo2, hbl, rfl, rfl, hwk⟩
    rw [List.getElem?_map] at hdd
    cases hx : y.opened[i]? with
    | none => rw [hx] at hdd; cases hdd
    | some o =>
    rw [hx] at hdd
    cases hdd
    have hi := (List.getElem?_eq_some_iff.mp hx).1
    have ho := hyo o (List.mem_of_getElem? hx)
    have hdr : y.opened.drop i = o :: y.opened.drop (i + 1) := by
      obtain ⟨hi', e⟩ := List.getElem?_eq_some_iff.mp hx
      rw [← e]
      exact List.drop_eq_getElem_cons hi'
    rw [hdr] at hsh
    refine g_tup Sd rdd rfl rfl ?_
    intro us ru
    obtain ⟨u1, u2, rfl, e1, e2⟩ := reps2 ru
    obtain rfl := e1.of_int
    refine s_ifU (F := fun c G' M' => ∃ ls', (c = true → o.1 ∉ bs ∧ (Wj.shut o.1 o.2).2 = true ∧ M' = wcells s ck cn lv (Wj.shut o.1 o.2).1 ls' (icell b bs :: M0) ∧ WRep K cl G' w ck cn lv (Wj.shut o.1 o.2).1 ls' las) ∧ (c = false → (o.1 ∈ bs ∧ M' = wcells s ck cn lv Wj ls' (icell b bs :: M0) ∧ WRep K cl G' w ck cn lv Wj ls' las) ∨ (o.1 ∉ bs ∧ (Wj.shut o.1 o.2).2 = false ∧ M' = wcells s ck cn lv (Wj.shut o.1 o.2).1 ls' (icell b bs :: M0) ∧ WRep K cl G' w ck cn lv (Wj.shut o.1 o.2).1 ls' las))) Sd
      (eu_and (F1 := fun c G' M' => c = (true != decide (o.1 ∈ bs)) ∧ M' = wcells s ck cn lv Wj lsk (icell b bs :: M0) ∧ Same Gd G') (eu_of (K := K) (cl := cl) (et_test (ev_inI (K := K) (cl := cl) (p := true) (q := true) (ns := bs) (ev_var (i := 12) rfl Rep.int) (ev_var (i := 13) rfl Rep.loc) (.tl (.tl (.tl (.tl (at_app .hd))))))) fun G' s' => ⟨rfl, rfl, s'⟩) ?_ ?_) ?_ ?_
    · rintro G' _ s' ⟨hc, rfl, sx⟩
      have hnb : o.1 ∉ bs := by simpa using hc
      refine eu_tr (EvG.imp (eg_call (K := K) (cl := cl) (p := true) (F := fun v G' M' => ∃ ls', v = .bl (Wj.shut o.1 o.2).2 ∧ M' = wcells s ck cn lv (Wj.shut o.1 o.2).1 ls' (icell b bs :: M0) ∧ WRep K cl G' w ck cn lv (Wj.shut o.1 o.2).1 ls' las) (ea_cons (p := true) (ev_var (i := 0) rfl Rep.loc) (ea_cons (p := true) (ev_var (i := 1) rfl (hwk.mono s').w) (ea_cons (p := true) (ev_var (i := 12) rfl Rep.int) (ea_cons (p := true) (ev_var (i := 10) rfl (e2.mono s')) ea_nil)))) ?_) ?_)
      · intro xs Gx T sx rx hT
        obtain ⟨x0, x1, x2, x3, rfl, f0, f1, f2, f3⟩ := reps4 rx
        obtain rfl := f0.of_loc
        obtain rfl := f2.of_int
        have hwx := (hwk.mono s').mono sx
        exact ⟨s, ck, cn, lv, Wj, lsk, las, _, x1, o.1, x3, o.2, rfl, rfl, ⟨f1, hwx.lr, hwx.as, hwx.n0, hwx.n1, hwx.n2, hwx.n3⟩, ho.1, ho.2, most_mono hmo2 (by omega), f3, fun G2 ls' sy hy => hT _ G2 _ sy ⟨ls', rfl, rfl, ⟨hwx.w.mono sy, hy.lr, hy.as, hy.n0, hy.n1, hy.n2, hy.n3⟩⟩⟩
      · rintro v Gx Hx _ sx Sx ⟨ls', rfl, rfl, hwx⟩
        refine ⟨Gx, _, Same.refl _, Sx, _, rfl, ls', fun hc => ⟨hnb, hc, rfl, hwx⟩, fun hc => .inr ⟨hnb, hc, rfl, hwx⟩⟩
    · rintro G' _ s' ⟨hc, rfl, sx⟩
      have hnb : o.1 ∈ bs := by simpa using hc
      exact ⟨lsk, fun h => (nomatch h), fun _ => .inl ⟨hnb, rfl, hwk.mono s'⟩⟩
    · rintro Ge He _ se Se ⟨ls', hc, -⟩
      obtain ⟨hnb, hs2, rfl, hwe⟩ := hc rfl
      refine s_app (K := K) (cl := cl) (a := b) (us := bs.map V.int) (vs := bs.map V.int) (d := .int o.1) (M' := fun v => wcells s ck cn lv (Wj.shut o.1 o.2).1 ls' ((b, .lst (bs.map V.int ++ [v])) :: M0)) Se (ev_var (i := 13) rfl Rep.loc) (.tl (.tl (.tl (.tl (at_app .hd))))) (ev_var (i := 12) rfl Rep.int) (fun v => .tl (.tl (.tl (.tl (ch_app .hd))))) (by rw [List.length_map]; omega) ?_
      intro vf Gf Hf sf Sf rf
      obtain rfl := rf.of_int
      refine ⟨Gf, _, sd.trans (se.trans sf), Sf, bs ++ [o.1], (Wj.shut o.1 o.2).1, _, _, ls', ?_, most_shut hmo2, ?_, rfl, ?_, hwe.mono sf⟩
      · rw [← hsh]
        conv => rhs; unfold LW.shuts
        rw [if_neg hnb, hs2]
        rfl
      · rw [List.length_append]
        exact Nat.succ_le_succ hbl
      · unfold icell
        rw [List.map_append]
        rfl
    · rintro Ge He _ se Se ⟨ls', -, hc⟩
      rcases hc rfl with ⟨hib, rfl, hwe⟩ | ⟨hnb, hs2, rfl, hwe⟩
      · refine s_next ⟨Ge, _, sd.trans se, Se, bs, Wj, _, _, ls', ?_, most_mono hmo2 (by omega), Nat.le_succ_of_le hbl, rfl, rfl, hwe⟩
        rw [← hsh]
        conv => rhs; unfold LW.shuts
        rw [if_pos hib]
      · refine s_next ⟨Ge, _, sd.trans se, Se, bs, (Wj.shut o.1 o.2).1, _, _, ls', ?_, most_shut hmo2, Nat.le_succ_of_le hbl, rfl, rfl, hwe⟩
        rw [← hsh]
        conv => rhs; unfold LW.shuts
        rw [if_neg hnb, hs2]
        rfl
  · rintro σ' Gc Hc Mc sc' Sc ⟨bs, Wj, y10'', y12'', lsk, hsh, hmo2, hbl, rfl, rfl, hwk⟩
    rw [List.length_map, List.drop_length] at hsh
    have hsh' : Wj = LW.shuts y.opened [] Wi := hsh
    rw [← hsh'] at q
    have sA := s09.trans (sa.trans (sb.trans sc'))
    exact q Gc lsk .non sA hwk sA _ (Sc.perm wcells_in.symm).drop
/-! ### reading: law_logs -/
theorem eg_tupG {K : PySem.W.Frag} {cl : Nat → Addr} {G : Hp} {M : ML} {σ : St} {tx : TA} {Fa : AG} {F : FG} (ha : EvAG tx σ G M Fa) (hF : ∀ vs G' M', Same G G' → Fa vs G' M' → ∃ ds, ds.length ≤ 100000 ∧ Reps K cl G' vs ds ∧ ∀ w G'', Same G' G'' → Rep K cl G'' w (.tup ds) → F w G'' M') : EvG (tTup tx) σ G M F := fun G1 H1 s S Q k =>
  ha G1 H1 s S _ fun xs G2 H2 M2 s2 S2 f => by
    obtain ⟨ds, hl, rs, hk⟩ := hF xs G2 M2 (s.trans s2) f
    refine ⟨by rw [rs.length]; exact Nat.le_trans hl (by decide), fun u hu => ?_⟩
    have n := S2.freshG hu
    have S' := S2.newG (o := .tup xs) hu
    exact k (.ref u) _ _ M2 (s2.trans (Same.upd n)) S' (hk _ _ (Same.upd n) (Rep.tup (.inl (.inl upd_same)) (rs.mono (Same.upd n))))
theorem reps_locs {K : PySem.W.Frag} {cl : Nat → Addr} {G : Hp} : ∀ {vs : List V} {as : List Addr}, Reps K cl G vs (as.map D.loc) → vs = as.map V.ref
  | vs, [], h => by simpa only [List.map_nil, Reps] using h
  | vs, x :: xs, h => by
    obtain ⟨v, ws, rfl, r1, r2⟩ := Reps.uncons h
    rw [r1.of_loc, reps_locs r2]
    rfl
theorem sep_logs {K : PySem.W.Frag} {cl : Nat → Addr} {H : Hp} {M0 : ML} : ∀ {ls : List LC} {logs : List (List Ent)} {G : Hp}, Sep G H (ls.map lcell ++ M0) → LogsR K cl G ls logs → ∃ G', Same G G' ∧ Sep G' H M0 ∧ Reps K cl G' (ls.map fun l => V.ref l.1) (logs.map fun es => .lst (es.map Ent.d))
  | _, _, G, S, .nil => ⟨G, Same.refl _, S, Reps.nil⟩
  | l :: ls, es :: logs, G, S, .cons h t => by
    obtain ⟨G1, s1, S1, r1⟩ := Sep.lst (K := K) (cl := cl) S h
    obtain ⟨G2, s2, S2, r2⟩ := sep_logs S1 (LogsR.mono s1 t)
    exact ⟨G2, s1.trans s2, S2, Reps.cons (r1.mono s2) r2⟩
theorem paired_append {α β : Type} {P : α → β → Prop} : ∀ {l l' : List α} {m m' : List β}, Paired P l m → Paired P l' m' → Paired P (l ++ l') (m ++ m')
  | _, _, _, _, .nil, h => h
  | _, _, _, _, .cons p t, h => .cons p (paired_append t h)
theorem run_congr : ∀ {n : Nat} {f g : Nat → Int}, (∀ k, k < n → f k = g k) → LW.run n f = LW.run n g
  | 0, _, _, _ => rfl
  | n + 1, f, g, h => by
    unfold LW.run
    rw [run_congr (n := n) fun k hk => h k (Nat.lt_succ_of_lt hk), h n (Nat.lt_succ_self n)]
theorem most_run : ∀ {n : Nat} {f : Nat → Int}, (LW.run n f).most (1 + 30 * n)
  | 0, f => fun es hes => by
    have : es = [.boot 1 0] := List.eq_of_mem_replicate hes
    subst this
    exact Nat.le_refl _
  | n + 1, f => most_mono (most_call (W := { LW.run n f with st := f n }) (most_run (n := n) (f := f))) (by omega)
theorem rd_law_logs {K : PySem.W.Frag} {cl : Nat → Addr} {vs H Q E} (h : sp_law_logs K cl vs H Q E) : t_law_logs K cl ⟨fun _ H' => Q .non H', Q, fun _ _ => False, fun _ _ => False⟩ (start ["script", "first", "many", "world", "j", "k"] vs) H := by
  obtain ⟨G, M, S, v, ns, i0, n, rfl, rv, h0, h1, h2, h3, q⟩ := h
  unfold t_law_logs
  refine s_seq ?_
  refine s_asgG (F := fun w G' M' => ∃ ck cn lv ls, M' = icell lv [1, 1, 1, 1] :: icell cn [0, 0, 0, 0] :: icell ck [0, 0, 0, 0] :: (ls.map lcell ++ M) ∧ WRep K cl G' w ck cn lv LW.start ls (ls.map (·.1))) S (eg_tupG (K := K) (cl := cl) (Fa := fun xs G' M' => ∃ x ck cn lv ls, xs = [x, .ref ck, .ref cn, .ref lv] ∧ M' = icell lv [1, 1, 1, 1] :: icell cn [0, 0, 0, 0] :: icell ck [0, 0, 0, 0] :: (ls.map lcell ++ M) ∧ Rep K cl G' x (.lst ((ls.map (·.1)).map D.loc)) ∧ LogsR K cl G' ls LW.start.logs) ?_ ?_) ?_
  · refine ag_cons (F1 := fun x G' M' => ∃ ls, M' = ls.map lcell ++ M ∧ Rep K cl G' x (.lst ((ls.map (·.1)).map D.loc)) ∧ LogsR K cl G' ls LW.start.logs) (EvG.imp (eg_lcRngI (K := K) (cl := cl) (p := true) (n := 4) (M1 := M) (F := fun x G' M' => ∃ Da ls, x = .ref Da ∧ M' = (Da, .lst (ls.map fun l => V.ref l.1)) :: (ls.map lcell ++ M) ∧ LogsR K cl G' ls LW.start.logs) (fun i acc G' M' => ∃ ls, acc = ls.map (fun l => V.ref l.1) ∧ M' = ls.map lcell ++ M ∧ LogsR K cl G' ls (List.replicate i [.boot 1 0])) (ea_cons (p := true) ev_int ea_nil) (by decide) ?_ ?_ ?_) ?_) ?_
    · exact fun G' s' => ⟨[], rfl, rfl, .nil⟩
    · rintro G' Da i acc M' s' hi ⟨ls, rfl, rfl, hls⟩
      refine ⟨rfl, ?_⟩
      refine eg_lst (K := K) (cl := cl) (p := false) (ds := [.tup [.str "boot", .int 1, .int 0]]) (ea_cons (ev_tup (ea_cons (p := true) ev_str (ea_cons (p := true) ev_int (ea_cons (p := true) ev_int ea_nil))) (Nat.le_of_ble_eq_true rfl)) ea_nil) (Nat.le_of_ble_eq_true rfl) ?_
      intro u us G2 s2 ru
      refine ⟨(ls ++ [(u, us)]).map lcell ++ M, ?_, ls ++ [(u, us)], ?_, rfl, ?_⟩
      · rw [List.map_append, List.append_assoc]
        exact (List.Perm.swap _ _ _).trans (List.Perm.cons _ List.perm_middle.symm)
      · rw [List.map_append]
        rfl
      · rw [show List.replicate (i + 1) [Ent.boot 1 0] = List.replicate i [Ent.boot 1 0] ++ [[Ent.boot 1 0]] from List.replicate_succ']
        exact paired_append (LogsR.mono s2 hls) (.cons ru .nil)
    · rintro Da acc G' M' s' ⟨ls, rfl, rfl, hls⟩
      exact ⟨Da, ls, rfl, rfl, hls⟩
    · rintro x G' H' M' s' S' ⟨Da, ls, rfl, rfl, hls⟩
      obtain ⟨G2, s2, S2, r2⟩ := S'.lst (K := K) (cl := cl) (ds := (ls.map (·.1)).map D.loc) (by
        rw [List.map_map]
        exact Reps.map (f := fun l : LC => V.ref l.1) (g := fun l : LC => D.loc l.1) fun _ _ => Rep.loc)
      exact ⟨G2, _, s2, S2, ls, rfl, r2, LogsR.mono s2 hls⟩
    · rintro x G' M' s' ⟨ls, rfl, rx, hls⟩
      have cell4 : ∀ (a b c d : Int) (σ' : St) (Gx : Hp) (Mx : ML), EvG (tLst (tCons (tC (.int a)) (tCons (tC (.int b)) (tCons (tC (.int c)) (tCons (tC (.int d)) tNil))))) σ' Gx Mx fun v G2 M2 => ∃ u, v = .ref u ∧ M2 = icell u [a, b, c, d] :: Mx := by
        intro a b c d σ' Gx Mx
        refine eg_lst (K := K) (cl := cl) (p := true) (ds := [.int a, .int b, .int c, .int d]) (ea_cons (p := true) ev_int (ea_cons (p := true) ev_int (ea_cons (p := true) ev_int (ea_cons (p := true) ev_int ea_nil)))) (Nat.le_of_ble_eq_true rfl) ?_
        intro u us G2 s2 ru
        obtain ⟨x1, x2, x3, x4, rfl, e1, e2, e3, e4⟩ := reps4 ru
        obtain rfl := e1.of_int
        obtain rfl := e2.of_int
        obtain rfl := e3.of_int
        obtain rfl := e4.of_int
        exact ⟨u, rfl, rfl⟩
      refine ag_cons (cell4 _ _ _ _ _ _ _) ?_
      rintro _ G1 _ s1 ⟨ck, rfl, rfl⟩
      refine ag_cons (cell4 _ _ _ _ _ _ _) ?_
      rintro _ G2 _ s2 ⟨cn, rfl, rfl⟩
      refine ag_cons (cell4 _ _ _ _ _ _ _) ?_
      rintro _ G3 _ s3 ⟨lv, rfl, rfl⟩
      refine ag_nil fun G4 s4 => ?_
      have sA := s1.trans (s2.trans (s3.trans s4))
      exact ⟨x, ck, cn, lv, ls, rfl, rfl, rx.mono sA, LogsR.mono sA hls⟩
  · rintro xs G' M' s' ⟨x, ck, cn, lv, ls, rfl, rfl, rx, hls⟩
    refine ⟨[.lst ((ls.map (·.1)).map D.loc), .loc ck, .loc cn, .loc lv], Nat.le_of_ble_eq_true rfl, Reps.cons rx (Reps.cons Rep.loc (Reps.cons Rep.loc (Reps.one Rep.loc))), fun w G2 s2 rw' => ⟨ck, cn, lv, ls, rfl, rw', LogsR.mono s2 hls, rfl, ?_, rfl, rfl, rfl⟩⟩
    rw [List.length_map, paired_len hls]
    rfl
  rintro w G1 H1 _ s1 S1 ⟨ck, cn, lv, ls, rfl, hw⟩
  have S1' : Sep G1 H1 (icell ck [0, 0, 0, 0] :: icell cn [0, 0, 0, 0] :: icell lv [1, 1, 1, 1] :: (ls.map lcell ++ M)) := S1.perm ((List.Perm.swap _ _ _).trans (((List.Perm.swap _ _ _).cons _).trans (List.Perm.swap _ _ _)))
  generalize hlas : ls.map (·.1) = las at hw
  have rv1 := rv.mono s1
  refine s_seq ?_
  apply s_forR1 (K := K) (cl := cl) (p := true) (n := n) (fun i σ' G' M' => ∃ f ls' y4, σ' = [some v, some (.int i0), some (.int n), some w, y4, none] ∧ M' = icell ck (LW.run i f).clocks :: icell cn (LW.run i f).counts :: icell lv (LW.run i f).lives :: (ls'.map lcell ++ M) ∧ WRep K cl G' w ck cn lv (LW.run i f) ls' las) S1'
  · exact ea_cons (p := true) (ev_var (i := 2) rfl Rep.int) ea_nil
  · omega
  · intro G2 H2 g2
    exact ⟨fun _ => 0, ls, _, rfl, rfl, hw.mono g2.same⟩
  · rintro G2 s2 i σ' G3 H3 M3 hi s3 S3 ⟨f, ls', y4, rfl, rfl, hwi⟩
    have rv3 := (rv1.mono s2).mono s3
    refine s_gname ?_
    refine s_dropG S3 (eg_callAG (F := fun _ G' M' => ∃ p z ls2, M' = wcells p ck cn lv (({ LW.run i f with st := z } : LW).call (i : Int)) ls2 M ∧ WRep K cl G' w ck cn lv (({ LW.run i f with st := z } : LW).call (i : Int)) ls2 las)
      (Fa := fun xs G' M' => ∃ p z w', xs = [.ref p, w', .int (i : Int)] ∧ M' = wcells p ck cn lv { LW.run i f with st := z } ls' M ∧ Rep K cl G' w' (worldD las ck cn lv)) ?_ ?_) ?_
    · refine ag_cons (eg_state (K := K) (cl := cl) (p := false) (ea_cons (ev_call (R := fun ds d => ∃ (ns : List Int) (k : Int), ds = [.lst (ns.map D.int), .int k] ∧ 0 ≤ k ∧ d = .int (ns.getD k.toNat 0)) (ea_cons (p := true) (ev_var (i := 0) rfl rv3) (ea_cons (p := true) (ev_op (p := true) (q := true) (r := true) (ev_var (i := 1) rfl Rep.int) (ev_var (i := 4) rfl Rep.int) o_add_int) ea_nil)) ⟨_, _, rfl, by omega, rfl⟩) (ea_cons (p := true) (ev_op (p := true) (q := true) (r := true) (ev_var (i := 1) rfl Rep.int) (ev_var (i := 4) rfl Rep.int) o_add_int) ea_nil))) ?_
      rintro _ G4 _ s4 ⟨p, z, rfl, rfl⟩
      refine ag_consX (K := K) (cl := cl) (p := true) (d := worldD las ck cn lv) (M1 := wcells p ck cn lv { LW.run i f with st := z } ls' M) (ev_var (i := 3) rfl (hwi.w.mono s4)) ?_
      intro w2 G5 s5 rw2
      refine ag_consX (K := K) (cl := cl) (p := true) (d := .int (i : Int)) (M1 := wcells p ck cn lv { LW.run i f with st := z } ls' M) (ev_var (i := 4) rfl Rep.int) ?_
      intro w3 G6 s6 rw3
      obtain rfl := rw3.of_int
      exact ag_nil fun G7 s7 => ⟨p, z, w2, rfl, rfl, rw2.mono (s6.trans s7)⟩
    · rintro xs G' H' _ T s' S' ⟨p, z, w', rfl, rfl, rw2⟩ hT
      have hx := hwi.mono s'
      refine ⟨_, List.Perm.refl _, p, ck, cn, lv, { LW.run i f with st := z }, ls', las, M, w', i, rfl, rfl, ⟨rw2, hx.lr, hx.as, hx.n0, hx.n1, hx.n2, hx.n3⟩, by omega, by omega, most_mono (most_run (n := i) (f := f)) (by omega), fun G2 ls2 v2 s2' h2 => hT v2 G2 _ s2' ⟨p, z, ls2, rfl, ⟨hx.w.mono s2', h2.lr, h2.as, h2.n0, h2.n1, h2.n2, h2.n3⟩⟩⟩
    · rintro x G4 H4 _ s4 S4 ⟨p, z, ls2, rfl, hw4⟩
      have e : LW.run (i + 1) (fun k => if k = i then z else f k) = ({ LW.run i f with st := z } : LW).call (i : Int) := by
        show ({ LW.run i (fun k => if k = i then z else f k) with st := if i = i then z else f i } : LW).call (i : Int) = _
        rw [if_pos rfl, run_congr (f := fun k => if k = i then z else f k) (g := f) fun k hk => if_neg (by omega)]
      refine ⟨G4, _, s3.trans s4, S4.drop, fun k => if k = i then z else f k, ls2, _, rfl, ?_, ?_⟩
      · rw [e]
      · rw [e]
        exact hw4
  rintro σ' G2 H2 M2 s2 S2 ⟨f, ls', y4, rfl, rfl, hwi⟩
  obtain ⟨G3, s3, S3, r3⟩ := sep_logs (S2.drop.drop.drop) hwi.lr
  have rww := hwi.w.mono s3
  obtain ⟨a, xs, rfl, sq, rx⟩ := rww.of_tup
  obtain ⟨x0, x1, x2, x3, rfl, e0, e1, e2, e3⟩ := reps4 rx
  obtain ⟨b, ys, rfl, sb, ry⟩ := e0.of_lst
  obtain rfl := reps_locs ry
  have rl : Rep K cl G3 (.ref b) (.lst ((LW.run n.toNat f).logs.map fun es => .lst (es.map Ent.d))) := by
    refine Rep.lst sb ?_
    rw [← hwi.as, List.map_map]
    exact r3
  have rw3 : Rep K cl G3 (.ref a) (.tup [.lst ((LW.run n.toNat f).logs.map fun es => .lst (es.map Ent.d)), .loc ck, .loc cn, .loc lv]) := Rep.tup sq (Reps.cons rl (Reps.cons e1 (Reps.cons e2 (Reps.one e3))))
  refine s_ret (K := K) (cl := cl) S3 (ev_op (p := true) (q := true) (r := true) (ev_var (i := 3) rfl rw3) ev_int (o_ixT rfl)) fun x G4 H4 g4 r4 => ?_
  have sA := s1.trans (s2.trans (s3.trans g4.same))
  exact q G4 x f sA r4 sA _ g4.sep
/-! ### what is so of every entry of these logs -/
def okS (x : Str) : Bool := x.cps.all (· < 0x110000)
structure Rec.Txt (r : Rec) : Prop where
  role : okS r.role = true
  caller : okS r.caller = true
  called : okS r.called = true
  payer : ∀ x, r.payer = some x → okS x = true
def EOk : Ent → Prop
  | .opn r => r.Ok ∧ r.Txt
  | .close _ c _ => okS c = true
  | _ => True
theorem strI_ok {c : Str} {n m : Int} (h : (List.range m.toNat).all (fun k => okS (strI c (k : Nat))) = true) (h0 : 0 ≤ n) (h1 : n < m) : okS (strI c n) = true := by
  have := List.all_eq_true.mp h n.toNat (List.mem_range.mpr (by omega))
  rwa [show ((n.toNat : Nat) : Int) = n from by omega] at this
theorem digit_ok (c : Str) (hc : c = "5" ∨ c = "6" ∨ c = "7" ∨ c = "4") {z m : Int} (hm : 0 < m) (h30 : m ≤ 30) : okS (strI c (z % m)) = true := by
  have hb := emod_b z m hm
  refine strI_ok (m := 30) ?_ hb.1 (by omega)
  rcases hc with rfl | rfl | rfl | rfl <;> decide +kernel
abbrev LW.each (W : LW) (P : Ent → Prop) : Prop := ∀ es ∈ W.logs, ∀ e ∈ es, P e
theorem each_put {W : LW} {P : Ent → Prop} {p : Int} {e : Ent} (h : W.each P) (he : P e) : (W.put p e).each P := by
  intro es hes x hx
  rcases List.mem_or_eq_of_mem_set hes with hh | rfl
  · exact h es hh x hx
  · rcases List.mem_append.mp hx with hx | hx
    · rw [List.getD_eq_getElem?_getD] at hx
      cases hl : W.logs[p.toNat]? with
      | none => rw [hl] at hx; exact nomatch hx
      | some l => rw [hl] at hx; exact h l (List.mem_of_getElem? hl) x hx
    · rw [List.mem_singleton] at hx
      exact hx ▸ he
theorem ok_divert : okS "divert" = true ∧ ¬ (Str.ofString "divert") = "transit" ∧ ¬ (Str.ofString "divert") = "end" := by decide +kernel
theorem each_sides {p : Int} {caller : Str} {came went : Option Ref} {found : Ref} {now : Int} (hc : okS caller = true) : ∀ {k : Nat} {W : LW}, W.each EOk → (LW.sides p caller came went found now k W).each EOk
  | 0, _, h => h
  | k + 1, W, h => by
    refine each_put (W := (((LW.sides p caller came went found now k W).nx 6).took p).nx 30) (each_sides hc (k := k) h) ⟨⟨?_, fun _ => rfl⟩, ⟨ok_divert.1, hc, digit_ok _ (by simp) (by decide) (by decide), ?_⟩⟩
    · rintro (h | h)
      · exact absurd h ok_divert.2.1
      · exact absurd h ok_divert.2.2
    · intro x hx
      cases hx
      exact digit_ok _ (by simp) (by decide) (by decide)
theorem each_opened {W : LW} {p : Int} {role caller : Str} {came went : Option Ref} (h : W.each EOk) (hr : okS role = true) (hc : okS caller = true) (hl : role = "transit" ∨ role = "end" → came.isSome = true) (hd : role ≠ "divert") : (W.opened p role caller came went).each EOk := by
  refine each_sides hc (each_put (W := ((W.tick p).took p).nx 30) h ⟨⟨hl, fun h => absurd h hd⟩, ⟨hr, hc, digit_ok _ (by simp) (by decide) (by decide), ?_⟩⟩)
  intro x hx
  have hx' : payerF role caller = some x := hx
  unfold payerF at hx'
  split at hx'
  · cases hx'
    exact hc
  · cases hx'
theorem roleF_ok {k n : Int} : okS (roleF k n) = true ∧ roleF k n ≠ "divert" := by
  unfold roleF
  split
  · exact ⟨by decide +kernel, by decide +kernel⟩
  · split
    · exact ⟨by decide +kernel, by decide +kernel⟩
    · split
      · exact ⟨by decide +kernel, by decide +kernel⟩
      · exact ⟨by decide +kernel, by decide +kernel⟩
theorem roleF_leg {k n : Int} (h : roleF k n = "transit" ∨ roleF k n = "end") : n ≠ 1 ∧ k ≠ 0 := by
  unfold roleF at h
  split at h
  · rcases h with h | h <;> exact absurd h (by decide +kernel)
  · split at h
    · rcases h with h | h <;> exact absurd h (by decide +kernel)
    · exact ⟨by assumption, by assumption⟩
theorem steps_came {j n : Int} {caller : Str} {y : Way} : ∀ (k : Nat), (k : Int) < n → k ≠ 0 → (Way.steps j n caller k y).came.isSome = true
  | 0, _, h => absurd rfl h
  | k + 1, hk, _ => by
    show (wentF (Way.steps j n caller k y).place j k n).isSome = true
    unfold wentF
    rw [if_pos (by omega)]
    rfl
theorem each_steps {j n : Int} {caller : Str} (hc : okS caller = true) {y : Way} (h : y.W.each EOk) : ∀ (k : Nat), (k : Int) ≤ n → (Way.steps j n caller k y).W.each EOk
  | 0, _ => h
  | k + 1, hk => by
    refine each_opened (W := (Way.steps j n caller k y).W) (each_steps hc h k (by omega)) roleF_ok.1 hc (fun hr => steps_came k (by omega) (by have := (roleF_leg hr).2; omega)) roleF_ok.2
theorem each_marks : ∀ {os : List (Int × Ref)} {secs : Int} {W : LW}, W.each EOk → (LW.marks os secs W).each EOk
  | [], _, _, h => h
  | o :: os, secs, W, h => by
    refine each_marks (os := os) ?_
    unfold LW.marked
    split
    · exact each_put h trivial
    · exact h
theorem each_shut {W : LW} {p : Int} {k : Ref} (h : W.each EOk) : (W.shut p k).1.each EOk := by
  unfold LW.shut
  split
  · exact h
  · split
    · exact each_put (W := ((W.nx 10).tick p).reborn p) h trivial
    · refine each_put (W := (W.nx 10).tick p) h ?_
      show okS _ = true
      split <;> decide +kernel
theorem each_shuts : ∀ {os : List (Int × Ref)} {bs : List Int} {W : LW}, W.each EOk → (LW.shuts os bs W).each EOk
  | [], _, _, h => h
  | o :: os, bs, W, h => by
    unfold LW.shuts
    split
    · exact each_shuts (os := os) h
    · exact each_shuts (os := os) (each_shut h)
theorem each_call {W : LW} {j : Int} (h : W.each EOk) : (W.call j).each EOk := by
  unfold LW.call
  have hn := legsN_b (d := W.st % 4) (j := j) (emod_b _ 4 (by decide)).1 (emod_b _ 4 (by decide)).2
  refine each_shuts (each_marks ?_)
  unfold LW.way
  exact each_steps (y := ⟨((W.nx 4).nx 4).nx 6, (W.nx 4).st % 4, none, []⟩) (digit_ok _ (by simp) (by decide) (by decide)) h _ (by omega)
theorem each_run : ∀ {n : Nat} {f : Nat → Int}, (LW.run n f).each EOk
  | 0, f => fun es hes e he => by
    have : es = [.boot 1 0] := List.eq_of_mem_replicate hes
    subst this
    rw [List.mem_singleton] at he
    subst he
    exact trivial
  | n + 1, f => each_call (W := { LW.run n f with st := f n }) (each_run (n := n) (f := f))
theorem run_four : ∀ {n : Nat} {f : Nat → Int}, (LW.run n f).logs.length = 4 := by
  have hput : ∀ {W : LW} {p : Int} {e : Ent}, (W.put p e).logs.length = W.logs.length := fun {W p e} => List.length_set ..
  have hsides : ∀ {p : Int} {caller : Str} {came went : Option Ref} {found : Ref} {now : Int} {k : Nat} {W : LW}, (LW.sides p caller came went found now k W).logs.length = W.logs.length := by
    intro p caller came went found now k W
    induction k with
    | zero => rfl
    | succ k ih => exact (hput (W := (((LW.sides p caller came went found now k W).nx 6).took p).nx 30)).trans ih
  have hop : ∀ {W : LW} {p : Int} {role caller : Str} {came went : Option Ref}, (W.opened p role caller came went).logs.length = W.logs.length := fun {W p role caller came went} => hsides.trans (hput (W := ((W.tick p).took p).nx 30))
  have hst : ∀ {j n : Int} {caller : Str} {y : Way} {k : Nat}, (Way.steps j n caller k y).W.logs.length = y.W.logs.length := by
    intro j n caller y k
    induction k with
    | zero => rfl
    | succ k ih => exact (hop (W := (Way.steps j n caller k y).W)).trans ih
  have hmk : ∀ {os : List (Int × Ref)} {secs : Int} {W : LW}, (LW.marks os secs W).logs.length = W.logs.length := by
    intro os
    induction os with
    | nil => intro secs W; rfl
    | cons o os ih =>
      intro secs W
      refine ih.trans ?_
      unfold LW.marked
      split
      · exact hput
      · rfl
  have hsh : ∀ {W : LW} {p : Int} {k : Ref}, (W.shut p k).1.logs.length = W.logs.length := by
    intro W p k
    unfold LW.shut
    split
    · rfl
    · split
      · exact hput (W := ((W.nx 10).tick p).reborn p)
      · exact hput (W := (W.nx 10).tick p)
  have hss : ∀ {os : List (Int × Ref)} {bs : List Int} {W : LW}, (LW.shuts os bs W).logs.length = W.logs.length := by
    intro os
    induction os with
    | nil => intro bs W; rfl
    | cons o os ih =>
      intro bs W
      unfold LW.shuts
      split
      · exact ih
      · exact ih.trans hsh
  intro n
  induction n with
  | zero => intro f; rfl
  | succ n ih => exact fun {f} => hss.trans (hmk.trans (hst.trans (ih (f := f))))
/-! ### the records of a log keep what was written at their opening -/
def Rec.same (a b : Rec) : Prop := a.id = b.id ∧ a.role = b.role ∧ a.caller = b.caller ∧ a.called = b.called ∧ a.payer = b.payer ∧ a.came = b.came ∧ a.went = b.went ∧ a.parent = b.parent ∧ a.opened = b.opened
theorem Rec.same.refl {a : Rec} : a.same a := ⟨rfl, rfl, rfl, rfl, rfl, rfl, rfl, rfl, rfl⟩
theorem Rec.same.ok {a b : Rec} (s : a.same b) (h : b.Ok) : a.Ok := by
  obtain ⟨h1, h2, h3, h4, h5, h6, h7, h8, h9⟩ := s
  exact ⟨by rw [h2, h6]; exact h.leg, by rw [h2, h8]; exact h.side⟩
theorem Rec.same.txt {a b : Rec} (s : a.same b) (h : b.Txt) : a.Txt := by
  obtain ⟨h1, h2, h3, h4, h5, h6, h7, h8, h9⟩ := s
  exact ⟨by rw [h2]; exact h.role, by rw [h3]; exact h.caller, by rw [h4]; exact h.called, by rw [h5]; exact h.payer⟩
theorem foldE_mem {rs : List Rec} {e : Ent} {r : Rec} (h : r ∈ foldE rs e) : (∃ r' ∈ rs, r.same r') ∨ ∃ r', e = .opn r' ∧ r.same r' := by
  cases e with
  | opn r' =>
    rcases List.mem_append.mp h with h | h
    · exact .inl ⟨r, h, Rec.same.refl⟩
    · rw [List.mem_singleton] at h
      subst h
      exact .inr ⟨r', rfl, Rec.same.refl⟩
  | boot n t =>
    obtain ⟨r', hr, rfl⟩ := List.mem_map.mp h
    refine .inl ⟨r', hr, ?_⟩
    split <;> exact Rec.same.refl
  | mark k n =>
    obtain ⟨r', hr, rfl⟩ := List.mem_map.mp h
    refine .inl ⟨r', hr, ?_⟩
    split <;> exact Rec.same.refl
  | close k c t =>
    obtain ⟨r', hr, rfl⟩ := List.mem_map.mp h
    refine .inl ⟨r', hr, ?_⟩
    split <;> exact Rec.same.refl
theorem recsF_mem : ∀ {es : List Ent} {r : Rec}, r ∈ recsF es → ∃ r', .opn r' ∈ es ∧ r.same r' := by
  intro es
  have gen : ∀ (es : List Ent) (rs : List Rec) (r : Rec), r ∈ es.foldl foldE rs → (∃ r' ∈ rs, r.same r') ∨ ∃ r', .opn r' ∈ es ∧ r.same r' := by
    intro es
    induction es with
    | nil => exact fun rs r h => .inl ⟨r, h, Rec.same.refl⟩
    | cons e es ih =>
      intro rs r h
      rcases ih _ r h with ⟨r', hr, s⟩ | ⟨r', hr, s⟩
      · rcases foldE_mem hr with ⟨r2, h2, s2⟩ | ⟨r2, rfl, s2⟩
        · refine .inl ⟨r2, h2, ?_⟩
          obtain ⟨a1, a2, a3, a4, a5, a6, a7, a8, a9⟩ := s
          obtain ⟨b1, b2, b3, b4, b5, b6, b7, b8, b9⟩ := s2
          exact ⟨a1.trans b1, a2.trans b2, a3.trans b3, a4.trans b4, a5.trans b5, a6.trans b6, a7.trans b7, a8.trans b8, a9.trans b9⟩
        · refine .inr ⟨r2, List.mem_cons_self .., ?_⟩
          obtain ⟨a1, a2, a3, a4, a5, a6, a7, a8, a9⟩ := s
          obtain ⟨b1, b2, b3, b4, b5, b6, b7, b8, b9⟩ := s2
          exact ⟨a1.trans b1, a2.trans b2, a3.trans b3, a4.trans b4, a5.trans b5, a6.trans b6, a7.trans b7, a8.trans b8, a9.trans b9⟩
      · exact .inr ⟨r', List.mem_cons_of_mem _ hr, s⟩
  intro r h
  rcases gen es [] r h with ⟨r', hr, _⟩ | h
  · exact nomatch hr
  · exact h
theorem recsF_len {es : List Ent} : (recsF es).length ≤ es.length := by
  have gen : ∀ (es : List Ent) (rs : List Rec), (es.foldl foldE rs).length ≤ rs.length + es.length := by
    intro es
    induction es with
    | nil => exact fun rs => Nat.le_refl _
    | cons e es ih =>
      intro rs
      have h1 := ih (foldE rs e)
      have h2 := foldE_len (rs := rs) (e := e)
      rw [List.foldl_cons, List.length_cons]
      omega
  exact Nat.le_trans (gen es []) (by rw [List.length_nil, Nat.zero_add]; exact Nat.le_refl _)
theorem cutF_mem {logs : List (List Ent)} {cut : Nat → Nat} {n : Nat} {r : Rec} (h : r ∈ cutF logs cut n) : ∃ es ∈ logs, ∃ r', .opn r' ∈ es ∧ r.same r' := by
  obtain ⟨i, hi, hr⟩ := List.mem_flatMap.mp h
  obtain ⟨r', hr', s⟩ := recsF_mem hr
  have hm := List.mem_of_mem_take hr'
  rw [List.getD_eq_getElem?_getD] at hm
  cases hl : logs[i]? with
  | none => rw [hl] at hm; exact nomatch hm
  | some l => rw [hl] at hm; exact ⟨l, List.mem_of_getElem? hl, r', hm, s⟩
theorem cutF_len {logs : List (List Ent)} {cut : Nat → Nat} {m : Nat} (h : ∀ es ∈ logs, es.length ≤ m) : ∀ {n : Nat}, (cutF logs cut n).length ≤ n * m
  | 0 => Nat.zero_le _
  | n + 1 => by
    have ih := cutF_len h (cut := cut) (n := n)
    unfold cutF at ih ⊢
    rw [List.range_succ, List.flatMap_append, List.length_append, List.flatMap_singleton]
    have h1 : (recsF ((logs.getD n []).take (cut n))).length ≤ m := by
      refine Nat.le_trans recsF_len (Nat.le_trans (List.length_take_le' _ _) ?_)
      rw [List.getD_eq_getElem?_getD]
      cases hl : logs[n]? with
      | none => exact Nat.zero_le _
      | some l => exact h l (List.mem_of_getElem? hl)
    rw [Nat.succ_mul]
    omega
theorem joinF_sides {rs : List Rec} {c : Call} (h : c ∈ joinF rs) : c.sides.length ≤ rs.length := by
  obtain ⟨hd, _, rfl⟩ := List.mem_map.mp h
  refine Nat.le_trans ?_ (Nat.le_trans (allL_len (sel := sideSel) (l := byId rs)) (by rw [byId_len]; exact Nat.le_refl _))
  have := besideF_len (sides := sidesF rs) (legs := legsF rs) (h := hd) (pathF (legsF rs) hd).length
  rw [List.take_length] at this
  exact this
theorem groupF_mem {sel : Rec → Option Ref} {l : List Rec} {k : Ref} {r : Rec} (h : r ∈ (valG (groupF sel l) k).getD []) : r ∈ l := by
  rw [group_val] at h
  exact (List.mem_filter.mp h).1
theorem joinF_head {rs : List Rec} {c : Call} (h : c ∈ joinF rs) : c.head ∈ rs := by
  obtain ⟨hd, hm, rfl⟩ := List.mem_map.mp h
  have : hd ∈ rs.filter fun r => decide (r.role ∈ [Str.ofString "origin", Str.ofString "both"]) := (List.mergeSort_perm _ _).mem_iff.mp hm
  exact (List.mem_filter.mp this).1
theorem joinF_side {rs : List Rec} {c : Call} (h : c ∈ joinF rs) {r : Rec} (hr : r ∈ c.sides) : r ∈ rs := by
  obtain ⟨hd, hm, rfl⟩ := List.mem_map.mp h
  obtain ⟨leg, _, h2⟩ := List.mem_flatMap.mp hr
  exact byId_mem.mp (groupF_mem h2)
/-! ### how many records there are -/
def isOpn : Ent → Bool
  | .opn _ => true
  | _ => false
def LW.opn (W : LW) : Nat := W.logs.flatten.countP isOpn
theorem cnt_set : ∀ {l : List (List Ent)} {i : Nat} {e : Ent}, ((l.set i (l.getD i [] ++ [e])).flatten).countP isOpn ≤ l.flatten.countP isOpn + (if isOpn e then 1 else 0)
  | [], i, e => Nat.zero_le _
  | a :: l, 0, e => by
    show ((a ++ [e]) ++ l.flatten).countP isOpn ≤ (a ++ l.flatten).countP isOpn + _
    rw [List.countP_append, List.countP_append, List.countP_append, List.countP_singleton]
    omega
  | a :: l, i + 1, e => by
    have := @cnt_set l i e
    show (a ++ (l.set i (l.getD i [] ++ [e])).flatten).countP isOpn ≤ (a ++ l.flatten).countP isOpn + _
    rw [List.countP_append, List.countP_append]
    omega
theorem opn_put {W : LW} {p : Int} {e : Ent} : (W.put p e).opn ≤ W.opn + (if isOpn e then 1 else 0) := cnt_set
theorem opn_sides {p : Int} {caller : Str} {came went : Option Ref} {found : Ref} {now : Int} : ∀ {k : Nat} {W : LW}, (LW.sides p caller came went found now k W).opn ≤ W.opn + k
  | 0, _ => Nat.le_refl _
  | k + 1, W => Nat.le_trans (opn_put (W := (((LW.sides p caller came went found now k W).nx 6).took p).nx 30)) (Nat.add_le_add_right (opn_sides (k := k)) 1)
theorem opn_opened {W : LW} {p : Int} {role caller : Str} {came went : Option Ref} : (W.opened p role caller came went).opn ≤ W.opn + 3 := by
  unfold LW.opened
  have h1 := opn_put (W := ((W.tick p).took p).nx 30) (p := p) (e := opnE ((W.tick p).ref p) role caller (strI "5" (((W.tick p).took p).st % 30)) (payerF role caller) came went none (W.now p))
  refine Nat.le_trans opn_sides ?_
  have h2 := sideN_le (d := (((W.tick p).took p).nx 30).st % 4)
  exact Nat.le_trans (Nat.add_le_add h1 h2) (Nat.le_refl _)
theorem opn_steps {j n : Int} {caller : Str} {y : Way} : ∀ (k : Nat), (Way.steps j n caller k y).W.opn ≤ y.W.opn + 3 * k
  | 0 => Nat.le_refl _
  | k + 1 => Nat.le_trans (opn_opened (W := (Way.steps j n caller k y).W)) (by have := opn_steps (j := j) (n := n) (caller := caller) (y := y) k; omega)
theorem opn_marks : ∀ {os : List (Int × Ref)} {secs : Int} {W : LW}, (LW.marks os secs W).opn ≤ W.opn
  | [], _, _ => Nat.le_refl _
  | o :: os, secs, W => by
    refine Nat.le_trans (opn_marks (os := os)) ?_
    unfold LW.marked
    split
    · exact opn_put
    · exact Nat.le_refl _
theorem opn_shut {W : LW} {p : Int} {k : Ref} : (W.shut p k).1.opn ≤ W.opn := by
  unfold LW.shut
  split
  · exact Nat.le_refl _
  · split
    · exact opn_put (W := ((W.nx 10).tick p).reborn p)
    · exact opn_put (W := (W.nx 10).tick p)
theorem opn_shuts : ∀ {os : List (Int × Ref)} {bs : List Int} {W : LW}, (LW.shuts os bs W).opn ≤ W.opn
  | [], _, _ => Nat.le_refl _
  | o :: os, bs, W => by
    unfold LW.shuts
    split
    · exact opn_shuts (os := os)
    · exact Nat.le_trans (opn_shuts (os := os)) opn_shut
theorem opn_call {W : LW} {j : Int} : (W.call j).opn ≤ W.opn + 18 := by
  unfold LW.call
  have hn := legsN_b (d := W.st % 4) (j := j) (emod_b _ 4 (by decide)).1 (emod_b _ 4 (by decide)).2
  refine Nat.le_trans opn_shuts (Nat.le_trans opn_marks ?_)
  show ((W.way j).W).opn ≤ _
  unfold LW.way
  refine Nat.le_trans (opn_steps _) ?_
  show W.opn + _ ≤ _
  omega
theorem opn_run : ∀ {n : Nat} {f : Nat → Int}, (LW.run n f).opn ≤ 18 * n
  | 0, f => Nat.le_of_eq rfl
  | n + 1, f => Nat.le_trans (opn_call (W := { LW.run n f with st := f n })) (by have := opn_run (n := n) (f := f); show (LW.run n f).opn + 18 ≤ _; omega)
theorem recsF_opn {es : List Ent} : (recsF es).length ≤ es.countP isOpn := by
  have gen : ∀ (es : List Ent) (rs : List Rec), (es.foldl foldE rs).length ≤ rs.length + es.countP isOpn := by
    intro es
    induction es with
    | nil => exact fun rs => Nat.le_refl _
    | cons e es ih =>
      intro rs
      rw [List.foldl_cons, List.countP_cons]
      refine Nat.le_trans (ih _) ?_
      cases e <;> simp [foldE, isOpn] <;> omega
  have := gen es []
  rw [List.length_nil, Nat.zero_add] at this
  exact this
theorem cutF_opn {cut : Nat → Nat} : ∀ {logs : List (List Ent)} {n : Nat}, n ≤ logs.length → (cutF logs cut n).length ≤ (logs.take n).flatten.countP isOpn
  | logs, 0, _ => Nat.zero_le _
  | logs, n + 1, h => by
    have ih := cutF_opn (cut := cut) (logs := logs) (n := n) (by omega)
    unfold cutF at ih ⊢
    have hn : logs[n]? = some logs[n] := List.getElem?_eq_getElem h
    rw [List.range_succ, List.flatMap_append, List.length_append, List.flatMap_singleton, List.take_add_one, hn, List.flatten_append, List.countP_append]
    have h1 : (recsF ((logs.getD n []).take (cut n))).length ≤ (logs[n]).countP isOpn := by
      rw [List.getD_eq_getElem?_getD, hn]
      refine Nat.le_trans recsF_opn ?_
      exact List.Sublist.countP_le (List.take_sublist _ _)
    simp only [Option.toList_some, List.flatten_cons, List.flatten_nil, List.append_nil]
    omega
theorem recs_432 {n : Nat} {f : Nat → Int} {cut : Nat → Nat} : (cutF (LW.run n f).logs cut 4).length ≤ 18 * n := by
  refine Nat.le_trans (cutF_opn (by rw [run_four]; exact Nat.le_refl _)) ?_
  rw [List.take_of_length_le (by rw [run_four]; exact Nat.le_refl _)]
  exact opn_run
theorem nodup_len {α : Type} [DecidableEq α] : ∀ {l m : List α}, l.Nodup → (∀ a ∈ l, a ∈ m) → l.length ≤ m.length
  | [], m, _, _ => Nat.zero_le _
  | a :: l, m, nd, h => by
    rw [List.nodup_cons] at nd
    have ha := h a (List.mem_cons_self ..)
    have := nodup_len (l := l) (m := m.erase a) nd.2 fun b hb => by
      have hne : b ≠ a := fun z => nd.1 (z ▸ hb)
      exact (List.mem_erase_of_ne hne).mpr (h b (List.mem_cons_of_mem _ hb))
    rw [List.length_erase_of_mem ha] at this
    have hp : 0 < m.length := List.length_pos_of_mem ha
    rw [List.length_cons]
    omega
/-! ### readings: law_records -/
theorem rd_law_records {K : PySem.W.Frag} {cl : Nat → Addr} [Cf K cl] {vs H Q E} (h : sp_law_records K cl vs H Q E) : t_law_records K cl ⟨fun _ H' => Q .non H', Q, fun _ _ => False, fun _ _ => False⟩ (start ["script", "logs", "records", "k", "state", "many"] vs) H := by
  obtain ⟨G, M, S, v, ns, vl, logs, rfl, rv, rl, h4, hlen, q⟩ := h
  unfold t_law_records
  refine s_seq ?_
  refine s_asg (K := K) (cl := cl) S (ev_lst (p := true) ea_nil (Nat.zero_le _)) ?_
  intro v2 G1 H1 g1 r2
  have s1 := g1.same
  refine s_seq ?_
  apply s_forR1 (K := K) (cl := cl) (n := 4) (fun i σ' G' M' => ∃ (cut : Nat → Nat) (vr : V) (y3 y4 y5 : Option V), σ' = [some v, some vl, some vr, y3, y4, y5] ∧ M' = M ∧ Rep K cl G' vr (.lst ((cutF logs cut i).map Rec.d))) g1.sep
  · exact EvA.is (ea_cons (ev_cb (ea_cons (p := true) (ev_var (i := 1) rfl (rl.mono s1)) ea_nil) on_lenL) ea_nil) (by rw [List.length_map, h4]; rfl)
  · decide
  · intro G2 H2 g2
    exact ⟨fun _ => 0, v2, none, none, none, rfl, rfl, r2.mono g2.same⟩
  · rintro G2 s2 i σ' G3 H3 M3 hi s3 S3 ⟨cut, vr, y3, y4, y5, rfl, rfl, rr⟩
    have hi4 : i < logs.length := by omega
    have sx := s1.trans (s2.trans s3)
    have hmem : logs[i] ∈ logs := List.getElem_mem hi4
    have hle := hlen _ hmem
    have hix : ∀ {G' : Hp} {M' : ML} {σ : St}, Same G3 G' → σ[1]? = some (some vl) → σ[3]? = some (some (.int (i : Int))) → EvX K cl true (tOp (rIx K) (tVar 1) (tVar 3)) σ G' M' (.lst (logs[i].map Ent.d)) M' := fun s' h1 h3 => ev_op (p := true) (q := true) (r := true) (ev_var h1 ((rl.mono sx).mono s')) (ev_var h3 Rep.int) (o_ixL (by
      rw [atI_getD (D.non) (by omega) (by rw [List.length_map]; omega)]
      simp [List.getD, hi4]))
    refine s_gname ?_
    refine s_seq ?_
    refine s_asgG S3 (eg_state (K := K) (cl := cl) (p := false) (ea_cons (ev_call (R := fun ds d => ∃ (ns : List Int) (k : Int), ds = [.lst (ns.map D.int), .int k] ∧ 0 ≤ k ∧ d = .int (ns.getD k.toNat 0)) (ea_cons (p := true) (ev_var (i := 0) rfl (rv.mono sx)) (ea_cons (p := true) (ev_var (i := 3) rfl Rep.int) ea_nil)) ⟨_, _, rfl, by omega, rfl⟩) (ea_cons (p := true) (ev_op (p := true) (q := true) (r := true) ev_int (ev_var (i := 3) rfl Rep.int) o_add_int) ea_nil))) ?_
    rintro _ G4 H4 _ s4 S4 ⟨p, z, rfl, rfl⟩
    refine s_seq ?_
    refine s_asg (K := K) (cl := cl) (d := .int (logs[i].length : Nat)) S4 (EvX.is (ev_cb (ea_cons (p := true) (hix s4 rfl rfl) ea_nil) on_lenL) (by rw [List.length_map])) ?_
    intro w5 G5 H5 g5 r5
    obtain rfl := r5.of_int
    have h3 := emod_b z 3 (by decide)
    have hln : 0 ≤ (z / 3) % ((logs[i].length : Nat) + 1 : Int) := Int.emod_nonneg _ (by omega)
    refine s_seq ?_
    refine s_ifJ (K := K) (cl := cl) (p := false) (M1 := (p, .lst [.int (z / 3)]) :: M3) (b := decide (z % 3 = 0)) (fun σ' G' M' => ∃ (n : Nat) (z' : Int), σ' = [some v, some vl, some vr, some (.int (i : Int)), some (.ref p), some (.int (n : Int))] ∧ M' = (p, .lst [.int z']) :: M3) g5.sep ?_ ?_ ?_ ?_
    · exact et_test (ev_op (r := true) (ev_digit (ea_cons (p := true) (ev_var (i := 4) rfl Rep.loc) (ea_cons (p := true) ev_int ea_nil)) .hd (by decide) (by decide)) ev_int (o_eq rfl))
    · intro kk G6 H6 g6 hb
      refine s_asg (K := K) (cl := cl) (M1 := (p, .lst [.int (z / 3 / ((logs[i].length : Nat) + 1 : Int))]) :: M3) g6.sep (ev_digit (m := (logs[i].length : Nat) + 1) (ea_cons (p := true) (ev_var (i := 4) rfl Rep.loc) (ea_cons (p := true) (ev_op (p := true) (q := true) (r := true) (ev_var (i := 5) rfl Rep.int) ev_int o_add_int) ea_nil)) .hd (by omega) (by omega)) ?_
      intro w6 G7 H7 g7 r7
      obtain rfl := r7.of_int
      refine kk _ G7 H7 _ (g6.same.trans g7.same) g7.sep ⟨((z / 3) % ((logs[i].length : Nat) + 1 : Int)).toNat, _, ?_, rfl⟩
      rw [show ((((z / 3) % ((logs[i].length : Nat) + 1 : Int)).toNat : Nat) : Int) = (z / 3) % ((logs[i].length : Nat) + 1 : Int) from Int.toNat_of_nonneg hln]
      rfl
    · intro kk G6 H6 g6 hb
      exact s_next (kk _ G6 H6 _ g6.same g6.sep ⟨logs[i].length, _, rfl, rfl⟩)
    rintro _ G6 H6 _ s6 S6 ⟨n, z', rfl, rfl⟩
    have s36 := s4.trans (g5.same.trans s6)
    refine s_asg (K := K) (cl := cl) (M1 := (p, .lst [.int z']) :: M3) (d := .lst ((cutF logs (fun k => if k = i then n else cut k) (i + 1)).map Rec.d)) S6 (EvX.is (ev_op (p := true) (q := false) (r := false) (d1 := .lst ((cutF logs cut i).map Rec.d)) (d2 := .lst ((recsF (logs[i].take n)).map Rec.d)) (ev_var (i := 2) rfl (rr.mono s36)) (ev_callG (K := K) (cl := cl) (p := false) (M1 := (p, .lst [.int z']) :: M3) (ds := [.lst ((logs[i].take n).map Ent.d)]) (ea_cons (EvX.is (ev_slL (p := true) (q := true) (r := true) (hix s36 rfl rfl) eo_none (eo_some (ev_var (i := 5) rfl Rep.int))) (by rw [cut_take, List.map_take])) ea_nil) ?_) (o_catL ?_)) ?_) ?_
    · intro xs G7 T s7 rx hT
      obtain ⟨x0, rfl, e0⟩ := reps1 rx
      exact ⟨x0, logs[i].take n, rfl, e0, by have := List.length_take_le' n logs[i]; omega, fun G8 w s8 rw8 => hT w G8 s8 rw8⟩
    · have h1 := cutF_len (cut := cut) hlen (n := i)
      have h2 := recsF_len (es := logs[i].take n)
      have h3 := List.length_take_le' n logs[i]
      rw [List.length_map, List.length_map]
      omega
    · rw [← List.map_append]
      congr 2
      have e1 : cutF logs (fun k => if k = i then n else cut k) i = cutF logs cut i := flatMap_cong fun a ha => by
        have hne : ¬ a = i := by have := List.mem_range.mp ha; omega
        show recsF (List.take (if a = i then n else cut a) _) = _
        rw [if_neg hne]
      unfold cutF at e1 ⊢
      rw [List.range_succ, List.flatMap_append, e1, List.flatMap_singleton]
      simp [List.getD, hi4]
    intro w7 G7 H7 g7 r7
    exact ⟨G7, _, s3.trans (s36.trans g7.same), g7.sep.drop, _, w7, _, _, _, rfl, rfl, r7⟩
  · rintro σ' G2 H2 M2 s2 S2 ⟨cut, vr, y3, y4, y5, rfl, rfl, rr⟩
    refine s_ret (K := K) (cl := cl) S2 (ev_var (i := 2) rfl rr) fun w G3 H3 g3 r3 => ?_
    have sA := s1.trans (s2.trans g3.same)
    exact q G3 w cut sA r3 sA _ g3.sep
/-! ### which records a call has -/
theorem addG_mem {st : Grp} {k : Ref} {x r : Rec} (h : r ∈ allL (addG st k x)) : r ∈ allL st ∨ r = x := by
  unfold addG at h
  split at h
  · obtain ⟨e, he, hr⟩ := List.mem_flatMap.mp h
    obtain ⟨e', he', rfl⟩ := List.mem_map.mp he
    split at hr
    · rcases List.mem_append.mp hr with hr | hr
      · exact .inl (List.mem_flatMap.mpr ⟨e', he', hr⟩)
      · rw [List.mem_singleton] at hr
        exact .inr hr
    · exact .inl (List.mem_flatMap.mpr ⟨e', he', hr⟩)
  · unfold allL at h
    rw [List.flatMap_append] at h
    rcases List.mem_append.mp h with h | h
    · exact .inl h
    · right
      simpa using h
theorem allL_mem {sel : Rec → Option Ref} {l : List Rec} {r : Rec} (h : r ∈ allL (groupF sel l)) : r ∈ l := by
  have gen : ∀ (l : List Rec) (st : Grp), r ∈ allL (l.foldl (fun st r => match sel r with | some k => addG st k r | none => st) st) → r ∈ allL st ∨ r ∈ l := by
    intro l
    induction l with
    | nil => exact fun st h => .inl h
    | cons x l ih =>
      intro st h
      rw [List.foldl_cons] at h
      rcases ih _ h with h | h
      · cases hs : sel x with
        | none => rw [hs] at h; exact .inl h
        | some k =>
          rw [hs] at h
          rcases addG_mem h with h | rfl
          · exact .inl h
          · exact .inr (List.mem_cons_self ..)
      · exact .inr (List.mem_cons_of_mem _ h)
  rcases gen l [] h with h | h
  · exact nomatch h
  · exact h
theorem walkF_mem {legs : Grp} {r : Rec} : ∀ {n : Nat} {path : List Rec} {us : List Ref} {leg : Option Rec}, (∀ x, leg = some x → x ∈ allL legs) → r ∈ walkF legs n path us leg → r ∈ path ∨ r ∈ allL legs
  | 0, path, us, leg, _, h => .inl h
  | n + 1, path, us, none, _, h => .inl h
  | n + 1, path, us, some x, hl, h => by
    unfold walkF at h
    rcases walkF_mem (n := n) (fun y hy => (nextF_some hy).1) h with h | h
    · rcases List.mem_append.mp h with h | h
      · exact .inl h
      · rw [List.mem_singleton] at h
        exact .inr (h ▸ hl x rfl)
    · exact .inr h
theorem joinF_leg {rs : List Rec} {c : Call} (h : c ∈ joinF rs) {r : Rec} (hr : r ∈ c.legs) : r ∈ rs := by
  have hh := joinF_head h
  obtain ⟨hd, hm, rfl⟩ := List.mem_map.mp h
  rcases walkF_mem (fun y hy => (nextF_some hy).1) (show r ∈ walkF (legsF rs) _ [hd] _ _ from hr) with h | h
  · rw [List.mem_singleton] at h
    exact h ▸ hh
  · exact byId_mem.mp (allL_mem h)
theorem joinF_all {rs : List Rec} {c : Call} (h : c ∈ joinF rs) {r : Rec} (hr : r ∈ c.all) : r ∈ rs := by
  rcases List.mem_append.mp hr with hr | hr
  · exact joinF_leg h hr
  · exact joinF_side h hr
theorem joinF_legs_len {rs : List Rec} {c : Call} (h : c ∈ joinF rs) : c.legs.length ≤ rs.length := by
  have h1 : (c.legs.map (·.id)).Nodup := by
    obtain ⟨hd, hm, rfl⟩ := List.mem_map.mp h
    exact path_ids
  have h2 := nodup_len (m := rs.map (·.id)) h1 fun k hk => by
    obtain ⟨r, hr, rfl⟩ := List.mem_map.mp hk
    exact List.mem_map.mpr ⟨r, joinF_leg h hr, rfl⟩
  rwa [List.length_map, List.length_map] at h2
theorem joinF_all_len {rs : List Rec} {c : Call} (h : c ∈ joinF rs) : c.all.length ≤ 2 * rs.length := by
  have h1 := joinF_legs_len h
  have h2 := joinF_sides h
  unfold Call.all
  rw [List.length_append]
  omega
theorem joinF_len {rs : List Rec} : (joinF rs).length ≤ rs.length := by
  unfold joinF
  rw [List.length_map]
  exact heads_len
theorem walk_head {legs : Grp} {h : Rec} {rest : List Rec} : ∀ {n : Nat} {path : List Rec} {us : List Ref} {leg : Option Rec}, path.head? = some h → (walkF legs n path us leg).head? = some h
  | 0, path, us, leg, hh => hh
  | n + 1, path, us, none, hh => hh
  | n + 1, path, us, some x, hh => by
    unfold walkF
    refine walk_head (rest := rest) (n := n) ?_
    cases path with
    | nil => cases hh
    | cons a l => exact hh
theorem joinF_first {rs : List Rec} {c : Call} (h : c ∈ joinF rs) : c.legs.head? = some c.head := by
  obtain ⟨hd, hm, rfl⟩ := List.mem_map.mp h
  exact walk_head (rest := []) rfl
theorem joinF_last {rs : List Rec} {c : Call} (h : c ∈ joinF rs) : ∃ r, c.legs.getLast? = some r := by
  have h1 := joinF_first h
  cases hl : c.legs with
  | nil => rw [hl] at h1; cases h1
  | cons a l => exact ⟨_, List.getLast?_eq_some_getLast (by simp)⟩
theorem usedF_len {rs : List Rec} {m : Nat} (hm : rs.length ≤ m) : ∀ (i : Nat), i ≤ (joinF rs).length → (usedF ((joinF rs).take i)).length ≤ i * (2 * m)
  | 0, _ => Nat.zero_le _
  | i + 1, hi => by
    have ih := usedF_len hm i (by omega)
    have hx : (joinF rs)[i]? = some (joinF rs)[i] := List.getElem?_eq_getElem hi
    unfold usedF at ih ⊢
    rw [List.take_add_one, hx, List.flatMap_append, List.length_append, Nat.succ_mul]
    have h2 := joinF_all_len (List.mem_of_getElem? hx)
    simp only [Option.toList_some, List.flatMap_cons, List.flatMap_nil, List.append_nil, List.length_map]
    omega
theorem any_refs {us : List Ref} {k : Ref} : ((us.map refD).any fun z => D.eqb z (refD k)) = decide (k ∈ us) := by
  rw [List.any_map, Bool.eq_iff_iff, List.any_eq_true, decide_eq_true_iff]
  constructor
  · rintro ⟨y, hy, h⟩
    have : D.eqb (refD y) (refD k) = true := h
    rw [ref_eqb] at this
    exact (of_decide_eq_true this) ▸ hy
  · exact fun h => ⟨k, h, by show D.eqb (refD k) (refD k) = true; rw [ref_eqb]; exact decide_eq_true rfl⟩
theorem refs_dat {us : List Ref} : D.areDat (us.map refD) = true ∧ D.deps (us.map refD) ≤ 1 := ⟨D.areDat_mem fun d hd => by
  obtain ⟨k, _, rfl⟩ := List.mem_map.mp hd
  rfl, D.deps_mem fun d hd => by
  obtain ⟨k, _, rfl⟩ := List.mem_map.mp hd
  exact Nat.le_refl _⟩
theorem refs_sorts {us : List Ref} : Sorts ((us.map refD).map D.pyd) := by
  refine ⟨fun d hd d' hd' => ?_, .inl fun d hd => ?_, fun d hd => ?_⟩
  · obtain ⟨a, ha, rfl⟩ := List.mem_map.mp hd
    obtain ⟨a, _, rfl⟩ := List.mem_map.mp ha
    obtain ⟨b, hb, rfl⟩ := List.mem_map.mp hd'
    obtain ⟨b, _, rfl⟩ := List.mem_map.mp hb
    simp [refD, D.pyd, D.pyds, PySem.W.alike, PySem.W.alikeAll]
  · obtain ⟨a, ha, rfl⟩ := List.mem_map.mp hd
    obtain ⟨a, _, rfl⟩ := List.mem_map.mp ha
    exact ⟨(D.int a.1).pyd, D.pyds [.int a.2.1, .int a.2.2], by simp only [refD, D.pyd, D.pyds]⟩
  · obtain ⟨a, ha, rfl⟩ := List.mem_map.mp hd
    obtain ⟨a, _, rfl⟩ := List.mem_map.mp ha
    simp [refD, D.pyd, D.pyds, PyData.depth, PyData.depthAll]
theorem idsD_old {us : List Ref} {k : Ref} (h : k ∈ us) : putG (idsD us) (refK k) (D.bl true) = idsD us := by
  unfold putG
  rw [idsD_val, decide_eq_true h, if_pos rfl]
  have : (idsD us).map (fun x => if x.1 = refK k then (x.1, D.bl true) else x) = (idsD us).map id := List.map_congr_left fun e he => by
    obtain ⟨r, _, rfl⟩ := List.mem_map.mp he
    show (if _ then _ else _) = _
    split <;> rfl
  rw [this, List.map_id]
theorem joinedF_of {c : Call} {r : Rec} (h : c.legs.getLast? = some r) : joinedF c = r.went.isNone := by unfold joinedF; rw [h]
/-! ### the order of ids -/
@[reducible] def refL (k : Ref) : List Int := [k.1, k.2.1, k.2.2]
theorem refL_inj {a b : Ref} (h : refL a = refL b) : a = b := by
  obtain ⟨a1, a2, a3⟩ := a
  obtain ⟨b1, b2, b3⟩ := b
  simp only [refL, List.cons.injEq] at h
  obtain ⟨h1, h2, h3, _⟩ := h
  subst h1 h2 h3
  rfl
theorem ref_lt {a b : Ref} : PySem.W.dataLt (refD a).pyd (refD b).pyd = decide (refL a < refL b) := by
  have h : ∀ k : Ref, (refD k).pyd = .tuple ((refL k).map .int) := fun k => rfl
  rw [h, h, PySem.W.dataLt_tuple]
  exact PySem.W.dataLt_ints _ _
theorem refL_tri (a b : Ref) : refL a < refL b ∨ a = b ∨ refL b < refL a := by
  obtain ⟨a1, a2, a3⟩ := a
  obtain ⟨b1, b2, b3⟩ := b
  simp only [refL, List.cons_lt_cons_iff, List.not_lt_nil, and_false, or_false, Prod.mk.injEq]
  omega
theorem refL_asymm {a b : Ref} (h : refL a < refL b) : ¬ refL b < refL a := by
  obtain ⟨a1, a2, a3⟩ := a
  obtain ⟨b1, b2, b3⟩ := b
  simp only [refL, List.cons_lt_cons_iff, List.not_lt_nil, and_false, or_false] at h ⊢
  omega
theorem sort_eq {β : Type} {k : β → PyData} {l l2 : List β} (p : l.Perm l2) (h : ∀ a ∈ l, ∀ b ∈ l, PySem.W.dataLe false k a b = true → PySem.W.dataLe false k b a = true → a = b) : l.mergeSort (PySem.W.dataLe false k) = l2.mergeSort (PySem.W.dataLe false k) := by
  have T := PySem.W.sortLe_total (PyProof.Rows.listOrd PyProof.Rows.itemOrd) false fun d : β => PySem.W.keyToks (k d)
  have tot : ∀ a b : β, (PySem.W.dataLe false k a b || PySem.W.dataLe false k b a) = true := fun a b => by
    rcases T.total a b with h | h
    · rw [show PySem.W.dataLe false k a b = true from h]; rfl
    · rw [show PySem.W.dataLe false k b a = true from h, Bool.or_true]
  have tr : ∀ a b c : β, PySem.W.dataLe false k a b = true → PySem.W.dataLe false k b c = true → PySem.W.dataLe false k a c = true := fun a b c h1 h2 => T.trans a b c h1 h2
  refine List.Perm.eq_of_pairwise (le := fun a b => PySem.W.dataLe false k a b = true) (fun a b ha hb h1 h2 => h a ((List.mergeSort_perm _ _).mem_iff.mp ha) b (p.mem_iff.mpr ((List.mergeSort_perm _ _).mem_iff.mp hb)) h1 h2) (List.pairwise_mergeSort tr tot _) (List.pairwise_mergeSort tr tot _) ?_
  exact ((List.mergeSort_perm _ _).trans p).trans (List.mergeSort_perm _ _).symm
theorem sort_pw {β : Type} {k : β → PyData} {l : List β} : (l.mergeSort (PySem.W.dataLe false k)).Pairwise fun a b => PySem.W.dataLe false k a b = true := by
  have T := PySem.W.sortLe_total (PyProof.Rows.listOrd PyProof.Rows.itemOrd) false fun d : β => PySem.W.keyToks (k d)
  have tot : ∀ a b : β, (PySem.W.dataLe false k a b || PySem.W.dataLe false k b a) = true := fun a b => by
    rcases T.total a b with h | h
    · rw [show PySem.W.dataLe false k a b = true from h]; rfl
    · rw [show PySem.W.dataLe false k b a = true from h, Bool.or_true]
  exact List.pairwise_mergeSort (fun a b c h1 h2 => T.trans a b c h1 h2) tot _
abbrev idLe : Rec → Rec → Bool := PySem.W.dataLe false fun r => (refD r.id).pyd
theorem idLe_eq {a b : Rec} : idLe a b = !decide (refL b.id < refL a.id) := by
  show (!PySem.W.dataLt (refD b.id).pyd (refD a.id).pyd) = _
  rw [ref_lt]
theorem idLe_anti {a b : Rec} (h1 : idLe a b = true) (h2 : idLe b a = true) : a.id = b.id := by
  rw [idLe_eq] at h1 h2
  simp only [Bool.not_eq_true', decide_eq_false_iff_not] at h1 h2
  rcases refL_tri a.id b.id with h | h | h
  · exact (h2 h).elim
  · exact h
  · exact (h1 h).elim
/-- records whose ids are apart -/
abbrev Apart (rs : List Rec) : Prop := (rs.map (·.id)).Nodup
theorem apart_inj {rs : List Rec} (h : Apart rs) : ∀ {a b : Rec}, a ∈ rs → b ∈ rs → a.id = b.id → a = b := by
  induction rs with
  | nil => intro a b ha; exact nomatch ha
  | cons r rs ih =>
    intro a b ha hb e
    rw [Apart, List.map_cons, List.nodup_cons] at h
    rcases List.mem_cons.mp ha with ea | ha' <;> rcases List.mem_cons.mp hb with eb | hb'
    · rw [ea, eb]
    · exact (h.1 (by rw [← ea, e]; exact List.mem_map.mpr ⟨b, hb', rfl⟩)).elim
    · exact (h.1 (by rw [← eb, ← e]; exact List.mem_map.mpr ⟨a, ha', rfl⟩)).elim
    · exact ih h.2 ha' hb' e
theorem byId_perm {rs rs2 : List Rec} (h : Apart rs) (p : rs.Perm rs2) : byId rs = byId rs2 := sort_eq p fun a ha b hb h1 h2 => apart_inj h ha hb (idLe_anti h1 h2)
/-- parts of two sorted lists with the same members -/
theorem filter_byId {rs rs2 : List Rec} {f g : Rec → Bool} (h : Apart rs) (h2 : Apart rs2) (hm : ∀ r, (r ∈ rs ∧ f r = true) ↔ (r ∈ rs2 ∧ g r = true)) : (byId rs).filter f = (byId rs2).filter g := by
  have nd : ∀ {rs : List Rec}, Apart rs → rs.Nodup := fun h => List.Pairwise.of_map _ (fun a b hab z => hab (by rw [z])) h
  have p : ((byId rs).filter f).Perm ((byId rs2).filter g) := by
    refine (List.perm_ext_iff_of_nodup ?_ ?_).mpr fun r => ?_
    · exact (((List.mergeSort_perm _ _).nodup_iff).mpr (nd h)).filter _
    · exact (((List.mergeSort_perm _ _).nodup_iff).mpr (nd h2)).filter _
    · rw [List.mem_filter, List.mem_filter, byId_mem, byId_mem]
      exact hm r
  refine List.Perm.eq_of_pairwise (le := fun a b => idLe a b = true) (fun a b ha hb h1 h2' => ?_) (sort_pw.filter _) (sort_pw.filter _) p
  have ha' := byId_mem.mp (List.mem_filter.mp ha).1
  have hb' := ((hm b).mpr ⟨byId_mem.mp (List.mem_filter.mp hb).1, (List.mem_filter.mp hb).2⟩).1
  exact apart_inj h ha' hb' (idLe_anti h1 h2')
/-! ### plain: what stays -/
def opnId : Ent → Option Ref
  | .opn r => some r.id
  | _ => none
theorem recsF_append {xs ys : List Ent} : recsF (xs ++ ys) = ys.foldl foldE (recsF xs) := by
  unfold recsF
  rw [List.foldl_append]
theorem fold_closed {r : Rec} (hc : r.closed.isNone = false) : ∀ {es : List Ent} {rs : List Rec}, r ∈ rs → r ∈ es.foldl foldE rs
  | [], rs, h => h
  | e :: es, rs, h => by
    rw [List.foldl_cons]
    refine fold_closed hc (es := es) ?_
    have hh : ∀ k, r.has k = false := fun k => by unfold Rec.has; rw [hc]; rfl
    cases e with
    | opn r' => exact List.mem_append_left _ h
    | boot n t => exact List.mem_map.mpr ⟨r, h, if_neg (by rw [hc]; decide)⟩
    | mark k n => exact List.mem_map.mpr ⟨r, h, if_neg (by rw [hh k]; decide)⟩
    | close k c t => exact List.mem_map.mpr ⟨r, h, if_neg (by rw [hh k]; decide)⟩
theorem foldE_ids {rs : List Rec} {e : Ent} : (foldE rs e).map (·.id) = rs.map (·.id) ++ (opnId e).toList := by
  cases e with
  | opn r => rw [show foldE rs (.opn r) = rs ++ [r.new] from rfl, List.map_append]; rfl
  | boot n t =>
    show (List.map _ (rs.map _)) = _
    rw [List.map_map, show (opnId (.boot n t)).toList = [] from rfl, List.append_nil]
    refine List.map_congr_left fun r _ => ?_
    show (if _ then _ else _ : Rec).id = _
    split <;> rfl
  | mark k n =>
    show (List.map _ (rs.map _)) = _
    rw [List.map_map, show (opnId (.mark k n)).toList = [] from rfl, List.append_nil]
    refine List.map_congr_left fun r _ => ?_
    show (if _ then _ else _ : Rec).id = _
    split <;> rfl
  | close k c t =>
    show (List.map _ (rs.map _)) = _
    rw [List.map_map, show (opnId (.close k c t)).toList = [] from rfl, List.append_nil]
    refine List.map_congr_left fun r _ => ?_
    show (if _ then _ else _ : Rec).id = _
    split <;> rfl
theorem recsF_ids {es : List Ent} : (recsF es).map (·.id) = es.filterMap opnId := by
  have gen : ∀ (es : List Ent) (rs : List Rec), (es.foldl foldE rs).map (·.id) = rs.map (·.id) ++ es.filterMap opnId := by
    intro es
    induction es with
    | nil => intro rs; simp
    | cons e es ih =>
      intro rs
      rw [List.foldl_cons, ih, foldE_ids, List.append_assoc]
      congr 1
      rw [List.filterMap_cons]
      cases opnId e <;> rfl
  exact gen es []
theorem Rec.same.symm {a b : Rec} (h : a.same b) : b.same a := by
  obtain ⟨h1, h2, h3, h4, h5, h6, h7, h8, h9⟩ := h
  exact ⟨h1.symm, h2.symm, h3.symm, h4.symm, h5.symm, h6.symm, h7.symm, h8.symm, h9.symm⟩
theorem Rec.same.trans {a b c : Rec} (h : a.same b) (g : b.same c) : a.same c := by
  obtain ⟨h1, h2, h3, h4, h5, h6, h7, h8, h9⟩ := h
  obtain ⟨g1, g2, g3, g4, g5, g6, g7, g8, g9⟩ := g
  exact ⟨h1.trans g1, h2.trans g2, h3.trans g3, h4.trans g4, h5.trans g5, h6.trans g6, h7.trans g7, h8.trans g8, h9.trans g9⟩
theorem fold_has {r0 : Rec} : ∀ {es : List Ent} {rs : List Rec}, (∃ r ∈ rs, r.same r0) → ∃ r ∈ es.foldl foldE rs, r.same r0
  | [], rs, h => h
  | e :: es, rs, h => by
    rw [List.foldl_cons]
    refine fold_has (es := es) ?_
    obtain ⟨r, hr, s⟩ := h
    cases e with
    | opn r' => exact ⟨r, List.mem_append_left _ hr, s⟩
    | boot n t =>
      refine ⟨_, List.mem_map.mpr ⟨r, hr, rfl⟩, ?_⟩
      split
      · exact s
      · exact s
    | mark k n =>
      refine ⟨_, List.mem_map.mpr ⟨r, hr, rfl⟩, ?_⟩
      split
      · exact s
      · exact s
    | close k c t =>
      refine ⟨_, List.mem_map.mpr ⟨r, hr, rfl⟩, ?_⟩
      split
      · exact s
      · exact s
theorem recsF_has {es : List Ent} {r0 : Rec} (h : .opn r0 ∈ es) : ∃ r ∈ recsF es, r.same r0 := by
  obtain ⟨i, hi⟩ := List.mem_iff_getElem?.mp h
  obtain ⟨hl, e⟩ := List.getElem?_eq_some_iff.mp hi
  have he : es = es.take i ++ .opn r0 :: es.drop (i + 1) := by rw [← e, ← List.drop_eq_getElem_cons hl, List.take_append_drop]
  rw [he, recsF_append, List.foldl_cons]
  exact fold_has ⟨r0.new, List.mem_append_right _ (List.mem_singleton.mpr rfl), Rec.same.refl⟩
theorem mem_cutF {logs : List (List Ent)} {cut : Nat → Nat} {n : Nat} {r : Rec} : r ∈ cutF logs cut n ↔ ∃ i, i < n ∧ r ∈ recsF ((logs.getD i []).take (cut i)) := by
  unfold cutF
  rw [List.mem_flatMap]
  constructor
  · rintro ⟨i, hi, h⟩
    exact ⟨i, List.mem_range.mp hi, h⟩
  · rintro ⟨i, hi, h⟩
    exact ⟨i, List.mem_range.mpr hi, h⟩
theorem take_split {α : Type} {l : List α} {a b : Nat} (h : a ≤ b) : ∃ t, l.take b = l.take a ++ t := by
  refine ⟨(l.take b).drop a, ?_⟩
  rw [show l.take a = (l.take b).take a from by rw [List.take_take, Nat.min_eq_left h], List.take_append_drop]
theorem recsF_closed {es : List Ent} {a b : Nat} {r : Rec} (h : a ≤ b) (hc : r.closed.isNone = false) (hr : r ∈ recsF (es.take a)) : r ∈ recsF (es.take b) := by
  obtain ⟨t, e⟩ := take_split (l := es) h
  rw [e, recsF_append]
  exact fold_closed hc hr
theorem cutF_ids {cut : Nat → Nat} : ∀ {logs : List (List Ent)} {n : Nat}, n ≤ logs.length → ((cutF logs cut n).map (·.id)).Sublist ((logs.take n).flatten.filterMap opnId)
  | logs, 0, _ => List.nil_sublist _
  | logs, n + 1, h => by
    have ih := cutF_ids (cut := cut) (logs := logs) (n := n) (by omega)
    have hn : logs[n]? = some logs[n] := List.getElem?_eq_getElem h
    unfold cutF at ih ⊢
    rw [List.range_succ, List.flatMap_append, List.map_append, List.flatMap_singleton, List.take_add_one, hn, List.flatten_append, List.filterMap_append]
    refine List.Sublist.append ih ?_
    rw [recsF_ids, List.getD_eq_getElem?_getD, hn]
    simp only [Option.toList_some, List.flatten_cons, List.flatten_nil, List.append_nil, Option.getD_some]
    exact (List.take_sublist _ _).filterMap _
/-- each forward is opened while its parent is open -/
def ParOk (es : List Ent) : Prop := ∀ (i : Nat) (s : Rec), es[i]? = some (.opn s) → s.role = "divert" → ∃ r ∈ recsF (es.take i), s.parent = some r.id ∧ r.closed = none
structure LInv (L : List (List Ent)) (C : List Int) (m : Int) : Prop where
  l4 : L.length = 4
  c4 : C.length = 4
  idn : (L.flatten.filterMap opnId).Nodup
  idb : ∀ k ∈ L.flatten.filterMap opnId, 0 ≤ k.1 ∧ k.1 < 4 ∧ k.2.1 = 1 ∧ k.2.2 < C.getD k.1.toNat 0
  cmu : ∀ r1 r2 k, .opn r1 ∈ L.flatten → .opn r2 ∈ L.flatten → legSel r1 = some k → legSel r2 = some k → r1.id = r2.id
  cmb : ∀ r k, .opn r ∈ L.flatten → legSel r = some k → k.2.2 < 900 + m
  par : ∀ es ∈ L, ParOk es
theorem LInv.mono {L : List (List Ent)} {C : List Int} {m m' : Int} (h : LInv L C m) (hm : m ≤ m') : LInv L C m' :=
  ⟨h.l4, h.c4, h.idn, h.idb, h.cmu, fun r k h1 h2 => Int.lt_of_lt_of_le (h.cmb r k h1 h2) (by omega), h.par⟩
theorem put_flat : ∀ {L : List (List Ent)} {i : Nat} {e : Ent}, i < L.length → ((L.set i (L.getD i [] ++ [e])).flatten).Perm (L.flatten ++ [e])
  | [], i, e, h => absurd h (Nat.not_lt_zero _)
  | a :: L, 0, e, _ => by
    show ((a ++ [e]) ++ L.flatten).Perm ((a ++ L.flatten) ++ [e])
    rw [List.append_assoc, List.append_assoc]
    exact List.Perm.append_left a List.perm_append_comm
  | a :: L, i + 1, e, h => by
    show (a ++ (L.set i (L.getD i [] ++ [e])).flatten).Perm ((a ++ L.flatten) ++ [e])
    rw [List.append_assoc]
    exact List.Perm.append_left a (put_flat (Nat.lt_of_succ_lt_succ h))
theorem par_app {es : List Ent} {e : Ent} (h : ParOk es) (he : ∀ s, e = .opn s → s.role = "divert" → ∃ r ∈ recsF es, s.parent = some r.id ∧ r.closed = none) : ParOk (es ++ [e]) := by
  intro i s hi hd
  by_cases hl : i < es.length
  · rw [List.getElem?_append_left hl] at hi
    rw [List.take_append_of_le_length (Nat.le_of_lt hl)]
    exact h i s hi hd
  · have hi2 := (List.getElem?_eq_some_iff.mp hi).1
    rw [List.length_append, List.length_singleton] at hi2
    have e1 : i = es.length := by omega
    subst e1
    rw [List.getElem?_append_right (Nat.le_refl _), Nat.sub_self] at hi
    have e2 : e = .opn s := by simpa using hi
    rw [List.take_append_of_le_length (Nat.le_refl _), List.take_length]
    exact he s e2 hd
theorem par_put {L : List (List Ent)} {i : Nat} {e : Ent} (h : ∀ es ∈ L, ParOk es) (he : ∀ s, e = .opn s → s.role = "divert" → ∃ r ∈ recsF (L.getD i []), s.parent = some r.id ∧ r.closed = none) : ∀ es ∈ L.set i (L.getD i [] ++ [e]), ParOk es := by
  intro es hes
  rcases List.mem_or_eq_of_mem_set hes with hh | rfl
  · exact h es hh
  · refine par_app ?_ he
    rw [List.getD_eq_getElem?_getD]
    cases hl : L[i]? with
    | none => exact fun i s hi => by simp at hi
    | some l => exact h l (List.mem_of_getElem? hl)
theorem inv_other {L : List (List Ent)} {C : List Int} {m : Int} {p : Int} {e : Ent} (h : LInv L C m) (h0 : 0 ≤ p) (h1 : p < 4) (he : opnId e = none) : LInv (L.set p.toNat (L.getD p.toNat [] ++ [e])) C m := by
  have hp : p.toNat < L.length := by rw [h.l4]; omega
  have pm := put_flat (L := L) (i := p.toNat) (e := e) hp
  have pf : ((L.set p.toNat (L.getD p.toNat [] ++ [e])).flatten.filterMap opnId).Perm (L.flatten.filterMap opnId) := by
    refine (pm.filterMap opnId).trans ?_
    rw [List.filterMap_append, List.filterMap_cons, he]
    simp
  have mem : ∀ r, .opn r ∈ (L.set p.toNat (L.getD p.toNat [] ++ [e])).flatten → .opn r ∈ L.flatten := fun r hr => by
    rcases List.mem_append.mp (pm.mem_iff.mp hr) with hr | hr
    · exact hr
    · rw [List.mem_singleton] at hr
      subst hr
      cases he
  refine ⟨by rw [List.length_set]; exact h.l4, h.c4, pf.nodup_iff.mpr h.idn, fun k hk => h.idb k (pf.mem_iff.mp hk), fun r1 r2 k g1 g2 => h.cmu r1 r2 k (mem _ g1) (mem _ g2), fun r k g => h.cmb r k (mem _ g), par_put h.par fun s hs => ?_⟩
  subst hs
  cases he
theorem inv_opn {L : List (List Ent)} {C : List Int} {m m' : Int} {p : Int} {r : Rec} (h : LInv L C m) (h0 : 0 ≤ p) (h1 : p < 4) (hid : r.id = (p, 1, C.getD p.toNat 0)) (hm : m ≤ m') (hl : ∀ k, legSel r = some k → 900 + m ≤ k.2.2 ∧ k.2.2 < 900 + m')
    (hd : r.role = "divert" → ∃ r' ∈ recsF (L.getD p.toNat []), r.parent = some r'.id ∧ r'.closed = none) : LInv (L.set p.toNat (L.getD p.toNat [] ++ [.opn r])) (C.set p.toNat (C.getD p.toNat 0 + 1)) m' := by
  have hp : p.toNat < L.length := by rw [h.l4]; omega
  have hc : p.toNat < C.length := by rw [h.c4]; omega
  have pm := put_flat (L := L) (i := p.toNat) (e := .opn r) hp
  have pf : ((L.set p.toNat (L.getD p.toNat [] ++ [.opn r])).flatten.filterMap opnId).Perm (L.flatten.filterMap opnId ++ [r.id]) := by
    refine (pm.filterMap opnId).trans ?_
    rw [List.filterMap_append]
    exact List.Perm.refl _
  have cset : ∀ q : Nat, C.getD q 0 ≤ (C.set p.toNat (C.getD p.toNat 0 + 1)).getD q 0 := fun q => by
    by_cases hq : q = p.toNat
    · rw [hq, getD_set_self hc]
      omega
    · simp only [List.getD, List.getElem?_set_ne (fun z => hq z.symm)]
      exact Int.le_refl _
  refine ⟨by rw [List.length_set]; exact h.l4, by rw [List.length_set]; exact h.c4, pf.nodup_iff.mpr ?_, fun k hk => ?_, fun r1 r2 k g1 g2 e1 e2 => ?_, fun r1 k g e => ?_, par_put h.par fun s hs => ?_⟩
  · refine List.nodup_append.mpr ⟨h.idn, by simp, ?_⟩
    intro a ha b hb e
    have : b = r.id := by simpa using hb
    subst this
    subst e
    have hb := h.idb _ ha
    rw [hid] at hb
    exact absurd hb.2.2.2 (Int.lt_irrefl _)
  · rcases List.mem_append.mp (pf.mem_iff.mp hk) with hk | hk
    · obtain ⟨b1, b2, b3, b4⟩ := h.idb k hk
      exact ⟨b1, b2, b3, Int.lt_of_lt_of_le b4 (cset _)⟩
    · rw [List.mem_singleton] at hk
      subst hk
      rw [hid]
      refine ⟨h0, h1, rfl, ?_⟩
      show C.getD p.toNat 0 < (C.set p.toNat _).getD p.toNat 0
      rw [getD_set_self hc]
      omega
  · rcases List.mem_append.mp (pm.mem_iff.mp g1) with f1 | f1 <;> rcases List.mem_append.mp (pm.mem_iff.mp g2) with f2 | f2
    · exact h.cmu r1 r2 k f1 f2 e1 e2
    · rw [List.mem_singleton] at f2
      injection f2 with f2
      subst f2
      have b1 := h.cmb r1 k f1 e1
      have b2 := (hl k e2).1
      omega
    · rw [List.mem_singleton] at f1
      injection f1 with f1
      subst f1
      have b1 := h.cmb r2 k f2 e2
      have b2 := (hl k e1).1
      omega
    · rw [List.mem_singleton] at f1 f2
      injection f1 with f1
      injection f2 with f2
      rw [f1, f2]
  · rcases List.mem_append.mp (pm.mem_iff.mp g) with g | g
    · have := h.cmb r1 k g e
      omega
    · rw [List.mem_singleton] at g
      injection g with g
      subst g
      exact (hl k e).2
  · injection hs with hs
    subst hs
    exact hd
theorem leg_none {r : Rec} (h : ¬ (r.role = "transit" ∨ r.role = "end")) : legSel r = none := by
  unfold legSel
  rw [if_neg h]
abbrev LW.inv (W : LW) (m : Int) : Prop := LInv W.logs W.counts m
/-- the record with this id is open in the log at p -/
def LW.stands (W : LW) (p : Int) (k : Ref) : Prop := ∃ r ∈ recsF (W.logs.getD p.toNat []), r.id = k ∧ r.closed = none
theorem stands_opn {W : LW} {p : Int} {k : Ref} {s : Rec} (hp : p.toNat < W.logs.length) (h : W.stands p k) : (W.put p (.opn s)).stands p k := by
  obtain ⟨r, hr, h1, h2⟩ := h
  refine ⟨r, ?_, h1, h2⟩
  show r ∈ recsF ((W.logs.set p.toNat _).getD p.toNat [])
  rw [List.getD_eq_getElem?_getD, List.getElem?_set_self hp, Option.getD_some, recsF_append]
  exact List.mem_append_left _ hr
theorem inv_sides {p : Int} {caller : Str} {came went : Option Ref} {found : Ref} {now : Int} {m : Int} (h0 : 0 ≤ p) (h1 : p < 4) : ∀ {k : Nat} {W : LW}, W.inv m → W.stands p found → (LW.sides p caller came went found now k W).inv m ∧ (LW.sides p caller came went found now k W).stands p found
  | 0, W, h, hs => ⟨h, hs⟩
  | k + 1, W, h, hs => by
    obtain ⟨i1, i2⟩ := inv_sides h0 h1 (k := k) h hs
    show ((LW.sides p caller came went found now k W).side p caller came went found now).inv m ∧ ((LW.sides p caller came went found now k W).side p caller came went found now).stands p found
    generalize LW.sides p caller came went found now k W = X at i1 i2
    obtain ⟨r', hr', e1, e2⟩ := i2
    refine ⟨inv_opn (m := m) (L := X.logs) (C := X.counts) i1 h0 h1 rfl (Int.le_refl _) (fun k hk => ?_) (fun _ => ⟨r', hr', by rw [e1], e2⟩), ?_⟩
    · rw [leg_none (by rintro (h | h); exact absurd h ok_divert.2.1; exact absurd h ok_divert.2.2)] at hk
      cases hk
    · exact stands_opn (W := ((X.nx 6).took p).nx 30) (by show p.toNat < X.logs.length; rw [i1.l4]; omega) ⟨r', hr', e1, e2⟩
theorem inv_opened {W : LW} {p : Int} {role caller : Str} {came went : Option Ref} {m m' : Int} (h : W.inv m) (h0 : 0 ≤ p) (h1 : p < 4) (hd : role ≠ "divert") (hm : m ≤ m') (hl : role = "transit" ∨ role = "end" → ∀ k, came = some k → 900 + m ≤ k.2.2 ∧ k.2.2 < 900 + m') : (W.opened p role caller came went).inv m' := by
  unfold LW.opened
  refine (inv_sides h0 h1 ?_ ?_).1
  · refine inv_opn (m := m) (L := W.logs) (C := W.counts) h h0 h1 rfl hm (fun k hk => ?_) (fun hh => absurd hh hd)
    unfold legSel at hk
    split at hk
    · exact hl (by assumption) k hk
    · cases hk
  · let r0 : Rec := ⟨(W.tick p).ref p, role, caller, strI "5" (((W.tick p).took p).st % 30), payerF role caller, came, went, none, W.now p, 0, none, none⟩
    refine ⟨r0.new, ?_, rfl, rfl⟩
    show _ ∈ recsF ((W.logs.set p.toNat _).getD p.toNat [])
    rw [List.getD_eq_getElem?_getD, List.getElem?_set_self (by rw [h.l4]; omega), Option.getD_some, recsF_append]
    exact List.mem_append_right _ (List.mem_singleton.mpr rfl)
theorem steps_came3 {j n : Int} {caller : Str} {y : Way} (hy : y.came = none) : ∀ (k : Nat) (c : Ref), (Way.steps j n caller k y).came = some c → c.2.2 = 900 + 10 * j + k - 1
  | 0, c, h => by
    have h' : y.came = some c := h
    rw [hy] at h'
    cases h'
  | k + 1, c, h => by
    have h' : wentF (Way.steps j n caller k y).place j k n = some c := h
    unfold wentF at h'
    split at h'
    · cases h'
      show 900 + 10 * j + (k : Int) = _
      omega
    · cases h'
theorem inv_steps {j n : Int} {caller : Str} {y : Way} (hy : y.came = none) (hp : 0 ≤ y.place ∧ y.place < 4) (h : y.W.inv (10 * j - 1)) : ∀ (k : Nat), (Way.steps j n caller k y).W.inv (10 * j + k - 1)
  | 0 => by
    refine LInv.mono h ?_
    omega
  | k + 1 => by
    have ih := inv_steps (n := n) (caller := caller) hy hp h k
    have hpl := steps_place (j := j) (n := n) (caller := caller) hp k
    refine inv_opened (m := 10 * j + k - 1) (W := (Way.steps j n caller k y).W) ih hpl.1 hpl.2 roleF_ok.2 (by omega) fun _ c hc => ?_
    have := steps_came3 hy k c hc
    omega
theorem inv_marks : ∀ {os : List (Int × Ref)} {secs : Int} {W : LW} {m : Int}, (∀ o ∈ os, 0 ≤ o.1 ∧ o.1 < 4) → W.inv m → (LW.marks os secs W).inv m
  | [], _, _, _, _, h => h
  | o :: os, secs, W, m, ho, h => by
    refine inv_marks (os := os) (fun x hx => ho x (List.mem_cons_of_mem _ hx)) ?_
    have hb := ho o (List.mem_cons_self ..)
    unfold LW.marked
    split
    · exact inv_other h hb.1 hb.2 rfl
    · exact h
theorem inv_shut {W : LW} {p : Int} {k : Ref} {m : Int} (h : W.inv m) (h0 : 0 ≤ p) (h1 : p < 4) : (W.shut p k).1.inv m := by
  unfold LW.shut
  split
  · exact h
  · split
    · exact inv_other (L := W.logs) (C := W.counts) h h0 h1 rfl
    · exact inv_other (L := W.logs) (C := W.counts) h h0 h1 rfl
theorem inv_shuts : ∀ {os : List (Int × Ref)} {bs : List Int} {W : LW} {m : Int}, (∀ o ∈ os, 0 ≤ o.1 ∧ o.1 < 4) → W.inv m → (LW.shuts os bs W).inv m
  | [], _, _, _, _, h => h
  | o :: os, bs, W, m, ho, h => by
    have hb := ho o (List.mem_cons_self ..)
    unfold LW.shuts
    split
    · exact inv_shuts (os := os) (fun x hx => ho x (List.mem_cons_of_mem _ hx)) h
    · exact inv_shuts (os := os) (fun x hx => ho x (List.mem_cons_of_mem _ hx)) (inv_shut h hb.1 hb.2)
theorem inv_call {W : LW} {j : Nat} (h : W.inv (10 * (j : Int) - 1)) : (W.call j).inv (10 * ((j + 1 : Nat) : Int) - 1) := by
  have hn := legsN_b (d := W.st % 4) (j := j) (emod_b _ 4 (by decide)).1 (emod_b _ 4 (by decide)).2
  have hp := emod_b (W.nx 4).st 4 (by decide)
  have hs := inv_steps (j := j) (n := legsN (W.st % 4) j) (caller := strI "4" (((W.nx 4).nx 4).st % 6)) (y := ⟨((W.nx 4).nx 4).nx 6, (W.nx 4).st % 4, none, []⟩) rfl hp h (legsN (W.st % 4) j).toNat
  have ho := steps_opened (j := j) (n := legsN (W.st % 4) j) (caller := strI "4" (((W.nx 4).nx 4).st % 6)) (y := ⟨((W.nx 4).nx 4).nx 6, (W.nx 4).st % 4, none, []⟩) hp (fun o ho => nomatch ho) (legsN (W.st % 4) j).toNat
  unfold LW.call
  refine inv_shuts ho (inv_marks (W := ((W.way j).W.nx 4).nx 8) ho ?_)
  exact LInv.mono (C := (W.way j).W.counts) hs (by omega)
theorem inv_run : ∀ {n : Nat} {f : Nat → Int}, (LW.run n f).inv (10 * (n : Int) - 1)
  | 0, f => by
    refine ⟨rfl, rfl, List.nodup_nil, fun k hk => (nomatch hk), fun r1 r2 k h1 => ?_, fun r k h1 => ?_, fun es hes => ?_⟩
    · simp [LW.run, LW.start, List.replicate] at h1
    · simp [LW.run, LW.start, List.replicate] at h1
    · have : es = [.boot 1 0] := List.eq_of_mem_replicate hes
      subst this
      intro i s hi
      cases i with
      | zero => cases hi
      | succ i => simp at hi
  | n + 1, f => inv_call (W := { LW.run n f with st := f n }) (inv_run (n := n) (f := f))
/-! ### plain: complete calls stay -/
/-- a walk, told step by step -/
inductive Walks (legs : Grp) : List Rec → List Ref → Option Rec → List Rec → Prop
  | done {path : List Rec} {us : List Ref} : Walks legs path us none path
  | step {path : List Rec} {us : List Ref} {r : Rec} {res : List Rec} : Walks legs (path ++ [r]) (us ++ [r.id]) (nextF legs r.went (us ++ [r.id])) res → Walks legs path us (some r) res
theorem freeL_pos {legs : Grp} {us : List Ref} {r : Rec} (h1 : r ∈ allL legs) (h2 : r.id ∉ us) : 0 < freeL legs us := by
  have := freeL_lt h1 h2
  omega
theorem walks_of {legs : Grp} : ∀ {n : Nat} {path : List Rec} {us : List Ref} {leg : Option Rec}, freeL legs us ≤ n → (∀ r, leg = some r → r ∈ allL legs ∧ r.id ∉ us) → Walks legs path us leg (walkF legs n path us leg)
  | n, path, us, none, _, _ => by rw [walkF_none]; exact .done
  | 0, path, us, some r, hn, hl => by
    have := freeL_pos (hl r rfl).1 (hl r rfl).2
    omega
  | n + 1, path, us, some r, hn, hl => by
    unfold walkF
    have := freeL_lt (hl r rfl).1 (hl r rfl).2
    exact .step (walks_of (n := n) (by omega) fun x hx => nextF_some hx)
theorem walks_eq {legs : Grp} {path : List Rec} {us : List Ref} {leg : Option Rec} {res : List Rec} (w : Walks legs path us leg res) : ∀ {n : Nat}, freeL legs us ≤ n → (∀ r, leg = some r → r ∈ allL legs ∧ r.id ∉ us) → walkF legs n path us leg = res := by
  induction w with
  | done => intro n _ _; exact walkF_none
  | step w ih =>
    intro n hn hl
    have := freeL_lt (hl _ rfl).1 (hl _ rfl).2
    cases n with
    | zero => omega
    | succ n =>
      unfold walkF
      exact ih (by omega) fun x hx => nextF_some hx
theorem walks_path {legs : Grp} {h : Rec} : Walks legs [h] [h.id] (nextF legs h.went [h.id]) (pathF legs h) := walks_of (Nat.le_refl _) fun r hr => nextF_some hr
theorem path_walks {legs : Grp} {h : Rec} {res : List Rec} (w : Walks legs [h] [h.id] (nextF legs h.went [h.id]) res) : pathF legs h = res := walks_eq w (Nat.le_refl _) fun r hr => nextF_some hr
theorem walks_sub {legs : Grp} {path : List Rec} {us : List Ref} {leg : Option Rec} {res : List Rec} (w : Walks legs path us leg res) : ∃ t, res = path ++ t ∧ (∀ r, leg = some r → r ∈ res) := by
  induction w with
  | done => exact ⟨[], by simp, fun r h => nomatch h⟩
  | @step path us r res w ih =>
    obtain ⟨t, e, _⟩ := ih
    refine ⟨r :: t, by rw [e, List.append_assoc]; rfl, fun x hx => ?_⟩
    cases hx
    rw [e]
    exact List.mem_append_left _ (List.mem_append_right _ (List.mem_singleton.mpr rfl))
theorem find_only {α : Type} {P : α → Bool} {x : α} (hP : P x = true) : ∀ {l : List α}, x ∈ l → (∀ y ∈ l, y = x) → l.find? P = some x
  | [], h, _ => nomatch h
  | y :: l, _, hy => by
    rw [hy y (List.mem_cons_self ..), List.find?_cons, hP]
theorem legs_val {rs : List Rec} {k : Ref} : (valG (legsF rs) k).getD [] = (byId rs).filter fun r => decide (legSel r = some k) := group_val
theorem sides_val {rs : List Rec} {k : Ref} : (valG (sidesF rs) k).getD [] = (byId rs).filter fun r => decide (sideSel r = some k) := group_val
theorem nextF_mem {rs : List Rec} {k : Ref} {us : List Ref} {x : Rec} (h : nextF (legsF rs) (some k) us = some x) : x ∈ rs ∧ legSel x = some k ∧ x.id ∉ us := by
  unfold nextF at h
  dsimp only at h
  rw [legs_val] at h
  have h1 := List.mem_filter.mp (List.mem_of_find?_eq_some h)
  have h2 := List.find?_some h
  exact ⟨byId_mem.mp h1.1, of_decide_eq_true h1.2, by simpa using h2⟩
/-- no two legs came through one circuit -/
abbrev CamU (rs : List Rec) : Prop := ∀ a ∈ rs, ∀ b ∈ rs, ∀ k, legSel a = some k → legSel b = some k → a = b
theorem next_only {rs : List Rec} {k : Ref} {us : List Ref} {x : Rec} (u : CamU rs) (hx : x ∈ rs) (hk : legSel x = some k) (hu : x.id ∉ us) : nextF (legsF rs) (some k) us = some x := by
  unfold nextF
  dsimp only
  rw [legs_val]
  refine find_only (by simpa using hu) (List.mem_filter.mpr ⟨byId_mem.mpr hx, decide_eq_true hk⟩) fun y hy => ?_
  have h1 := List.mem_filter.mp hy
  exact u y (byId_mem.mp h1.1) x hx k (of_decide_eq_true h1.2) hk
theorem walks_stay {rs rs2 : List Rec} (u : CamU rs2) {path : List Rec} {us : List Ref} {leg : Option Rec} {res : List Rec} (w : Walks (legsF rs) path us leg res) : (∀ x ∈ res, x ∈ rs → x ∈ rs2) → (∀ x, res.getLast? = some x → x.went = none) → Walks (legsF rs2) path us leg res := by
  induction w with
  | done => exact fun _ _ => .done
  | @step path us r res w ih =>
    intro hin hlast
    have ih := ih hin hlast
    refine .step ?_
    have e : nextF (legsF rs2) r.went (us ++ [r.id]) = nextF (legsF rs) r.went (us ++ [r.id]) := by
      cases hn : nextF (legsF rs) r.went (us ++ [r.id]) with
      | some x =>
        obtain ⟨t, _, hmem⟩ := walks_sub w
        cases hg : r.went with
        | none => rw [hg] at hn; cases hn
        | some k =>
          rw [hg] at hn
          obtain ⟨h1, h2, h3⟩ := nextF_mem hn
          have hx := hmem x (by rw [hg]; exact hn)
          exact next_only u (hin x hx h1) h2 h3
      | none =>
        rw [hn] at w
        have hres : res = path ++ [r] := by
          cases w
          rfl
        have hw := hlast r (by rw [hres, List.getLast?_append]; rfl)
        rw [hw]
        rfl
    rw [e]
    exact ih
/-- what a later look at the logs has -/
structure Later (rs rs2 : List Rec) : Prop where
  ap : Apart rs
  ap2 : Apart rs2
  cam : CamU rs2
  closed : ∀ r ∈ rs, r.closed.isNone = false → r ∈ rs2
  side : ∀ r ∈ rs, r.closed.isNone = false → ∀ s ∈ rs2, sideSel s = some r.id → ∃ s' ∈ rs, s'.id = s.id ∧ sideSel s' = some r.id
theorem call_stays {rs rs2 : List Rec} (L : Later rs rs2) {c : Call} (hc : c ∈ joinF rs) (hk : completeF c = true) : c ∈ joinF rs2 := by
  have hlast := joinF_last hc
  have hall : ∀ r ∈ c.all, r ∈ rs ∧ r.closed.isNone = false := by
    intro r hr
    refine ⟨joinF_all hc hr, ?_⟩
    unfold completeF at hk
    have h2 := (Bool.and_eq_true_iff.mp hk).2
    cases hcl : r.closed.isNone with
    | false => rfl
    | true =>
      have : r ∈ stillF c := List.mem_filter.mpr ⟨hr, hcl⟩
      rw [List.isEmpty_iff.mp h2] at this
      exact nomatch this
  obtain ⟨last, hlast⟩ := hlast
  have hwent : last.went = none := by
    unfold completeF at hk
    have h1 := (Bool.and_eq_true_iff.mp hk).1
    rw [joinedF_of hlast] at h1
    exact Option.isNone_iff_eq_none.mp h1
  have hfirst := joinF_first hc
  obtain ⟨h, hm, rfl⟩ := List.mem_map.mp hc
  have hin : ∀ x ∈ pathF (legsF rs) h, x ∈ rs ∧ x.closed.isNone = false := fun x hx => hall x (List.mem_append_left _ hx)
  have hpath : pathF (legsF rs2) h = pathF (legsF rs) h := by
    refine path_walks ?_
    have w := walks_path (legs := legsF rs) (h := h)
    have hstay := walks_stay L.cam w (fun x hx hr => L.closed x hr (hin x hx).2) (fun x hx => by
      have : some x = some last := hx.symm.trans hlast
      cases this
      exact hwent)
    have e : nextF (legsF rs2) h.went [h.id] = nextF (legsF rs) h.went [h.id] := by
      cases hn : nextF (legsF rs) h.went [h.id] with
      | some x =>
        cases hg : h.went with
        | none => rw [hg] at hn; cases hn
        | some k =>
          rw [hg] at hn
          obtain ⟨h1, h2, h3⟩ := nextF_mem hn
          obtain ⟨_, _, hmem⟩ := walks_sub w
          have hx := hin x (hmem x (by rw [hg]; exact hn))
          exact next_only L.cam (L.closed x hx.1 hx.2) h2 h3
      | none =>
        rw [hn] at w
        have hres : pathF (legsF rs) h = [h] := by
          generalize pathF (legsF rs) h = res at w
          cases w
          rfl
        have hl : last = h := by
          have hlast' : (pathF (legsF rs) h).getLast? = some last := hlast
          rw [hres] at hlast'
          cases hlast'
          rfl
        rw [hl] at hwent
        rw [hwent]
        rfl
    rw [e]
    exact hstay
  have hside : besideF (sidesF rs2) (pathF (legsF rs) h) = besideF (sidesF rs) (pathF (legsF rs) h) := by
    refine flatMap_cong fun r hr => ?_
    have hr' := hin r hr
    rw [sides_val, sides_val]
    refine filter_byId L.ap2 L.ap fun s => ?_
    constructor
    · rintro ⟨h1, h2⟩
      obtain ⟨s', g1, g2, g3⟩ := L.side r hr'.1 hr'.2 s h1 (of_decide_eq_true h2)
      have hs' : s' ∈ (callF (legsF rs) (sidesF rs) h).all := by
        refine List.mem_append_right _ ?_
        refine List.mem_flatMap.mpr ⟨r, hr, ?_⟩
        rw [sides_val]
        exact List.mem_filter.mpr ⟨byId_mem.mpr g1, decide_eq_true g3⟩
      have hcl := hall s' hs'
      have e := apart_inj L.ap2 (L.closed s' hcl.1 hcl.2) h1 g2
      subst e
      exact ⟨g1, h2⟩
    · rintro ⟨h1, h2⟩
      have hs : s ∈ (callF (legsF rs) (sidesF rs) h).all := by
        refine List.mem_append_right _ ?_
        refine List.mem_flatMap.mpr ⟨r, hr, ?_⟩
        rw [sides_val]
        exact List.mem_filter.mpr ⟨byId_mem.mpr h1, h2⟩
      have hcl := hall s hs
      exact ⟨L.closed s hcl.1 hcl.2, h2⟩
  have hh := hin h (List.mem_of_mem_head? hfirst)
  refine List.mem_map.mpr ⟨h, ?_, ?_⟩
  · refine (List.mergeSort_perm _ _).mem_iff.mpr (List.mem_filter.mpr ⟨L.closed h hh.1 hh.2, ?_⟩)
    exact (List.mem_filter.mp ((List.mergeSort_perm _ _).mem_iff.mp hm)).2
  · unfold callF
    rw [hpath, hside]
theorem apart_cut {logs : List (List Ent)} {C : List Int} {m : Int} (h : LInv logs C m) (cut : Nat → Nat) : Apart (cutF logs cut 4) := by
  have h1 := cutF_ids (cut := cut) (logs := logs) (n := 4) (by rw [h.l4]; exact Nat.le_refl _)
  rw [List.take_of_length_le (by rw [h.l4]; exact Nat.le_refl _)] at h1
  exact h1.nodup h.idn
theorem getD_mem {logs : List (List Ent)} {i : Nat} {e : Ent} (h : e ∈ logs.getD i []) : logs.getD i [] ∈ logs := by
  rw [List.getD_eq_getElem?_getD] at h ⊢
  cases hl : logs[i]? with
  | none => rw [hl] at h; exact nomatch h
  | some l => exact List.mem_of_getElem? hl
theorem legSel_same {a b : Rec} (s : a.same b) : legSel a = legSel b := by
  obtain ⟨h1, h2, h3, h4, h5, h6, h7, h8, h9⟩ := s
  unfold legSel
  rw [h2, h6]
theorem sideSel_same {a b : Rec} (s : a.same b) : sideSel a = sideSel b := by
  obtain ⟨h1, h2, h3, h4, h5, h6, h7, h8, h9⟩ := s
  unfold sideSel
  rw [h2, h8]
theorem cut_flat {logs : List (List Ent)} {cut : Nat → Nat} {n : Nat} {r : Rec} (h : r ∈ cutF logs cut n) : ∃ r', .opn r' ∈ logs.flatten ∧ r.same r' := by
  obtain ⟨es, h1, r', h2, s⟩ := cutF_mem h
  exact ⟨r', List.mem_flatten.mpr ⟨es, h1, h2⟩, s⟩
theorem camU_cut {logs : List (List Ent)} {C : List Int} {m : Int} (h : LInv logs C m) (cut : Nat → Nat) : CamU (cutF logs cut 4) := by
  intro a ha b hb k h1 h2
  obtain ⟨a', ha', sa⟩ := cut_flat ha
  obtain ⟨b', hb', sb⟩ := cut_flat hb
  rw [legSel_same sa] at h1
  rw [legSel_same sb] at h2
  have e := h.cmu a' b' k ha' hb' h1 h2
  exact apart_inj (apart_cut h cut) ha hb (sa.1.trans (e.trans sb.1.symm))
theorem later_cut {logs : List (List Ent)} {C : List Int} {m : Int} (h : LInv logs C m) {cut cut2 : Nat → Nat} (hc : ∀ i, i < 4 → cut i ≤ cut2 i) : Later (cutF logs cut 4) (cutF logs cut2 4) := by
  refine ⟨apart_cut h _, apart_cut h _, camU_cut h _, fun r hr hcl => ?_, fun r hr hcl s hs hsel => ?_⟩
  · obtain ⟨i, hi, hr⟩ := mem_cutF.mp hr
    exact mem_cutF.mpr ⟨i, hi, recsF_closed (hc i hi) hcl hr⟩
  · obtain ⟨i, hi, hs⟩ := mem_cutF.mp hs
    obtain ⟨s0, hs0, ss⟩ := recsF_mem hs
    obtain ⟨t, ht⟩ := List.mem_iff_getElem?.mp hs0
    have ht2 : (logs.getD i [])[t]? = some (.opn s0) := by
      have hlt := (List.getElem?_eq_some_iff.mp ht).1
      rw [List.length_take] at hlt
      rwa [List.getElem?_take_of_lt (by omega)] at ht
    have hsel0 : sideSel s0 = some r.id := by rw [← sideSel_same ss]; exact hsel
    have hdiv : s0.role = "divert" := by
      unfold sideSel at hsel0
      split at hsel0
      · assumption
      · cases hsel0
    have hpar : s0.parent = some r.id := by
      unfold sideSel at hsel0
      rw [if_pos hdiv] at hsel0
      exact hsel0
    obtain ⟨r0, hr0, e1, e2⟩ := h.par _ (getD_mem (List.mem_of_getElem? ht2)) t s0 ht2 hdiv
    have hid : r0.id = r.id := by
      rw [hpar] at e1
      exact (Option.some.inj e1).symm
    by_cases hlt : t < cut i
    · have hmem : .opn s0 ∈ (logs.getD i []).take (cut i) := List.mem_of_getElem? (by rw [List.getElem?_take_of_lt hlt]; exact ht2)
      obtain ⟨s', hs', sS⟩ := recsF_has hmem
      exact ⟨s', mem_cutF.mpr ⟨i, hi, hs'⟩, sS.1.trans ss.1.symm, by rw [sideSel_same sS]; exact hsel0⟩
    · exfalso
      obtain ⟨i', hi', hr'⟩ := mem_cutF.mp hr
      have c1 : r0 ∈ cutF logs (fun x => if x = i then t else cut x) 4 := mem_cutF.mpr ⟨i, hi, by rw [if_pos rfl]; exact hr0⟩
      have c2 : r ∈ cutF logs (fun x => if x = i then t else cut x) 4 := by
        refine mem_cutF.mpr ⟨i', hi', ?_⟩
        by_cases hii : i' = i
        · rw [if_pos hii]
          rw [hii] at hr' ⊢
          exact recsF_closed (by omega) hcl hr'
        · rw [if_neg hii]
          exact hr'
      have e := apart_inj (apart_cut h _) c1 c2 hid
      rw [← e, e2] at hcl
      cases hcl
/-! ### logs and records that the laws begin with -/
theorem eg_large19 {K : PySem.W.Frag} {cl : Nat → Addr} {M : ML} {G : Hp} {σ : St} {v : V} {ns : List Int} {a b : Int} (ha : 0 ≤ a ∧ a ≤ 100) (hb : 0 ≤ b ∧ b ≤ 100) (h0 : σ[0]? = some (some v)) (hv : Rep K cl G v (.lst (ns.map D.int))) : EvG (tOp (rAdd K) (tC (.int a)) (tOp rMulI (tC (.int b)) (tCB rInt1 (tCons (tCall (sp_law_large K cl) [] E0 (tCons (tVar 0) tNil)) tNil)))) σ G M fun w G' M' => M' = M ∧ ∃ n : Int, w = .int n ∧ 0 ≤ n ∧ n ≤ a + b := by
  refine eg_opR (K := K) (cl := cl) (p := true) (d1 := .int a) ev_int (eg_opR (K := K) (cl := cl) (p := true) (d1 := .int b) (F := fun w G' M' => M' = M ∧ ∃ n : Int, w = .int n ∧ 0 ≤ n ∧ n ≤ b) ev_int (eg_intB (M1 := M) (eg_large (K := K) (cl := cl) (p := true) (ns := ns) (ea_cons (p := true) (ev_var h0 hv) ea_nil))) ?_) ?_
  · rintro _ G' M' s' ⟨z, rfl, rfl⟩
    refine ⟨.int (if z then 1 else 0), .int (b * if z then 1 else 0), true, Rep.int, o_mul (by cases z <;> (walk_at "mul")), fun w G2 s2 rw2 => ⟨rfl, _, rw2.of_int, ?_, ?_⟩⟩
    · split <;> omega
    · split <;> omega
  · rintro _ G' M' s' ⟨rfl, n, rfl, h1, h2⟩
    exact ⟨.int n, .int (a + n), true, Rep.int, o_add_int, fun w G2 s2 rw2 => ⟨rfl, _, rw2.of_int, by omega, by omega⟩⟩
theorem eg_logs19 {K : PySem.W.Frag} {cl : Nat → Addr} {M : ML} {G : Hp} {σ : St} {v : V} {ns : List Int} {a b : Int} (ha : 0 ≤ a ∧ a ≤ 10) (hb : 0 ≤ b ∧ b ≤ 19) (h0 : σ[0]? = some (some v)) (hv : Rep K cl G v (.lst (ns.map D.int))) :
    EvG (tCall (sp_law_logs K cl) [] E0 (tCons (tVar 0) (tCons (tC (.int 1)) (tCons (tOp (rAdd K) (tC (.int a)) (tOp rMulI (tC (.int b)) (tCB rInt1 (tCons (tCall (sp_law_large K cl) [] E0 (tCons (tVar 0) tNil)) tNil)))) tNil)))) σ G M fun w G' M' => M' = M ∧ ∃ f n, Rep K cl G' w (.lst ((LW.run n f).logs.map fun es => .lst (es.map Ent.d))) ∧ (n : Int) ≤ a + b := by
  refine eg_callAG (Fa := fun xs G' M' => M' = M ∧ ∃ y n, xs = [y, .int 1, .int n] ∧ Rep K cl G' y (.lst (ns.map D.int)) ∧ 0 ≤ n ∧ n ≤ a + b) ?_ ?_
  · refine ag_consX (K := K) (cl := cl) (p := true) (d := .lst (ns.map D.int)) (M1 := M) (ev_var (i := 0) h0 hv) ?_
    intro y G2 s2 ry
    refine ag_consX (K := K) (cl := cl) (p := true) (d := .int 1) (M1 := M) ev_int ?_
    intro z G3 s3 rz
    obtain rfl := rz.of_int
    refine ag_cons (eg_large19 (K := K) (cl := cl) (by omega) (by omega) h0 (hv.mono (s2.trans s3))) ?_
    rintro _ G4 _ s4 ⟨rfl, n, rfl, h1, h2⟩
    exact ag_nil fun G5 s5 => ⟨rfl, y, n, rfl, ry.mono (s3.trans (s4.trans s5)), h1, h2⟩
  · rintro xs G' H' _ T s' S' ⟨rfl, y, n, rfl, ry, h1, h2⟩ hT
    exact ⟨_, List.Perm.refl _, y, ns, 1, n, rfl, ry, by decide, by decide, h1, by omega, fun G2 w f s2 rw2 => hT w G2 _ s2 ⟨rfl, f, n.toNat, rw2, by omega⟩⟩
/-- what the laws know of all records -/
theorem recs_ok {n : Nat} {f : Nat → Int} {cut : Nat → Nat} : ∀ r ∈ cutF (LW.run n f).logs cut 4, r.Ok ∧ r.Txt := by
  intro r hr
  obtain ⟨es, hes, r', hr', s'⟩ := cutF_mem hr
  have := each_run es hes _ hr'
  exact ⟨s'.ok this.1, s'.txt this.2⟩
theorem o_catL5 {K : PySem.W.Frag} {cl : Nat → Addr} {M : ML} {xs ys : List D} (h : xs.length + ys.length ≤ 5000000) : Op2 K cl false (rAdd K) M (.lst xs) (.lst ys) (.lst (xs ++ ys)) := fun G1 H1 S u v ru rv Q k => by
  obtain ⟨a, us, rfl, sa, ra⟩ := ru.of_lst
  obtain ⟨b, vs, rfl, sb, rb⟩ := rv.of_lst
  refine .inr (.inr (.inl ⟨a, b, us, vs, rfl, rfl, S.sub.seq sa, S.sub.seq sb, ?_, fun l hl => ?_⟩))
  · rw [ra.length, rb.length]
    exact Nat.le_trans h (by decide)
  · have n := S.freshG hl
    exact k _ _ _ (Go.of (Same.upd n) (S.newG hl)) (Rep.lst (.inl (.inl upd_same)) ((ra.append rb).mono (Same.upd n)))
theorem rd_law_shuffled {K : PySem.W.Frag} {cl : Nat → Addr} {vs H Q E} (h : sp_law_shuffled K cl vs H Q E) : t_law_shuffled K cl ⟨fun _ H' => Q .non H', Q, fun _ _ => False, fun _ _ => False⟩ (start ["script", "things", "left", "found", "k", "state", "place"] vs) H := by
  obtain ⟨G, M, S, v, ns, vt, ds, rfl, rv, rt, hl, q⟩ := h
  unfold t_law_shuffled
  refine s_seq ?_
  refine s_asg (K := K) (cl := cl) (d := .lst ds) S (ev_cb (ea_cons (p := true) (ev_var (i := 1) rfl rt) ea_nil) on_listL) ?_
  intro v2 G1 H1 g1 r2
  refine s_seq ?_
  refine s_asgG g1.sep eg_nil ?_
  rintro _ G2 H2 _ s2 S2 ⟨u, rfl, rfl⟩
  have s12 := g1.same.trans s2
  refine s_seq ?_
  apply s_forR1 (K := K) (cl := cl) (M1 := (u, .lst []) :: M) (n := (ds.length : Nat)) (fun i σ' G' M' => ∃ (vl : V) (y4 y5 y6 : Option V) (us : List V) (left fs : List D), σ' = [some v, some vt, some vl, some (.ref u), y4, y5, y6] ∧ M' = (u, .lst us) :: M ∧ Rep K cl G' vl (.lst left) ∧ Reps K cl G' us fs ∧ (fs ++ left).Perm ds ∧ fs.length = i) S2
  · exact ea_cons (ev_cb (ea_cons (p := true) (ev_var (i := 1) rfl (rt.mono s12)) ea_nil) on_lenL) ea_nil
  · omega
  · intro G3 H3 g3
    exact ⟨v2, none, none, none, [], ds, [], rfl, rfl, (r2.mono s2).mono g3.same, Reps.nil, List.Perm.refl _, rfl⟩
  · rintro G3 s3 i σ' G4 H4 M4 hi s4 S4 ⟨vl, y4, y5, y6, us, left, fs, rfl, rfl, rl, rf, hp, hfl⟩
    have sx := s12.trans (s3.trans s4)
    have hll : fs.length + left.length = ds.length := by rw [← List.length_append]; exact hp.length_eq
    have hpos : 0 < left.length := by omega
    refine s_gname ?_
    refine s_seq ?_
    refine s_asgG S4 (eg_state (K := K) (cl := cl) (p := false) (ea_cons (ev_call (R := fun ds d => ∃ (ns : List Int) (k : Int), ds = [.lst (ns.map D.int), .int k] ∧ 0 ≤ k ∧ d = .int (ns.getD k.toNat 0)) (ea_cons (p := true) (ev_var (i := 0) rfl (rv.mono sx)) (ea_cons (p := true) (ev_var (i := 4) rfl Rep.int) ea_nil)) ⟨_, _, rfl, by omega, rfl⟩) (ea_cons (p := true) (ev_op (p := true) (q := true) (r := true) ev_int (ev_var (i := 4) rfl Rep.int) o_add_int) ea_nil))) ?_
    rintro _ G5 H5 _ s5 S5 ⟨p, z, rfl, rfl⟩
    have hb := emod_b z (left.length : Nat) (by omega)
    obtain ⟨n, hn⟩ : ∃ n : Nat, z % (left.length : Nat) = (n : Int) := ⟨_, (Int.toNat_of_nonneg hb.1).symm⟩
    have hnl : n < left.length := by omega
    refine s_seq ?_
    refine s_asg (K := K) (cl := cl) (d := .int (n : Int)) (M1 := (p, .lst [.int (z / (left.length : Nat))]) :: (u, .lst us) :: M) S5 (EvX.is (ev_digit (m := (left.length : Nat)) (ea_cons (p := true) (ev_var (i := 5) rfl Rep.loc) (ea_cons (ev_cb (ea_cons (p := true) (ev_var (i := 2) rfl (rl.mono s5)) ea_nil) on_lenL) ea_nil)) .hd (by omega) (by omega)) (by rw [hn])) ?_
    intro v6 G6 H6 g6 r6
    obtain rfl := r6.of_int
    have s56 := s5.trans g6.same
    have hix : atI left (n : Int) = some left[n] := by
      rw [atI_getD D.non (by omega) (by omega)]
      simp [List.getD, hnl]
    refine s_seq ?_
    refine s_app (K := K) (cl := cl) (a := u) (us := us) (vs := us) (d := left[n]) (M' := fun v => (p, .lst [.int (z / (left.length : Nat))]) :: (u, .lst (us ++ [v])) :: M) g6.sep (ev_var (i := 3) rfl Rep.loc) (.tl .hd) (ev_op (p := true) (q := true) (r := true) (ev_var (i := 2) rfl (rl.mono s56)) (ev_var (i := 6) rfl Rep.int) (o_ixL hix)) (fun v => .tl .hd) (by rw [rf.length]; omega) ?_
    intro v7 G7 H7 s7 S7 r7
    have rl7 := rl.mono (s56.trans s7)
    refine s_asg (K := K) (cl := cl) (d := .lst (left.take n ++ left.drop (n + 1))) (M1 := (p, .lst [.int (z / (left.length : Nat))]) :: (u, .lst (us ++ [v7])) :: M) S7 (EvX.is (ev_op (p := false) (q := false) (r := false) (d1 := .lst (left.take n)) (d2 := .lst (left.drop (n + 1))) (EvX.is (ev_slL (p := true) (q := true) (r := true) (ev_var (i := 2) rfl rl7) eo_none (eo_some (ev_var (i := 6) rfl Rep.int))) (by rw [cut_take])) (EvX.is (ev_slL (p := true) (q := true) (r := true) (ev_var (i := 2) rfl rl7) (eo_some (ev_op (p := true) (q := true) (r := true) (ev_var (i := 6) rfl Rep.int) ev_int o_add_int)) eo_none) (by rw [show (n : Int) + 1 = ((n + 1 : Nat) : Int) from by omega, cut_drop])) (o_catL ?_)) rfl) ?_
    · rw [List.length_take, List.length_drop]
      omega
    intro v8 G8 H8 g8 r8
    have s48 := s56.trans (s7.trans g8.same)
    refine ⟨G8, _, s4.trans s48, g8.sep.drop, v8, _, _, _, us ++ [v7], _, fs ++ [left[n]], rfl, rfl, r8, (rf.mono s48).append (Reps.one (r7.mono g8.same)), ?_, by rw [List.length_append, hfl]; rfl⟩
    refine List.Perm.trans ?_ hp
    rw [List.append_assoc]
    refine List.Perm.append_left fs ?_
    have e : left = left.take n ++ left[n] :: left.drop (n + 1) := by rw [← List.drop_eq_getElem_cons hnl, List.take_append_drop]
    conv => rhs; rw [e]
    show (left[n] :: (left.take n ++ left.drop (n + 1))).Perm _
    exact List.perm_middle.symm
  rintro σ' G3 H3 M3 s3 S3 ⟨vl, y4, y5, y6, us, left, fs, rfl, rfl, rl, rf, hp, hfl⟩
  have hll : fs.length + left.length = ds.length := by rw [← List.length_append]; exact hp.length_eq
  have hnil : left = [] := List.eq_nil_of_length_eq_zero (by rw [Int.toNat_natCast] at hfl; omega)
  rw [hnil, List.append_nil] at hp
  obtain ⟨G4, s4, S4, r4⟩ := S3.lst rf
  refine s_ret (K := K) (cl := cl) S4 (ev_var (i := 3) rfl r4) fun w G5 H5 g5 r5 => ?_
  have sA := s12.trans (s3.trans (s4.trans g5.same))
  exact q G5 w fs sA hp r5 sA _ g5.sep
/-! ### plain: the law's own walk -/
theorem lexLt_lt : ∀ {xs ys : List Int}, HT.lexLt xs ys = decide (xs < ys)
  | [], [] => by simp [HT.lexLt]
  | [], y :: ys => by simp [HT.lexLt]
  | x :: xs, [] => by simp [HT.lexLt]
  | x :: xs, y :: ys => by
    rw [HT.lexLt_cons, lexLt_lt]
    by_cases h : x = y
    · simp [h, List.cons_lt_cons_iff]
    · simp [h, List.cons_lt_cons_iff]
def candF (ref : Option Ref) (us : List Ref) (r : Rec) : Bool := (decide (r.role = "transit" ∨ r.role = "end") && D.eqb (optRef r.came) (optRef ref)) && (!ref.isNone && !decide (r.id ∈ us))
def betterF (b : Option Rec) (r : Rec) : Bool := match b with
  | none => true
  | some b => HT.lexLt (refL r.id) (refL b.id)
def bestF (ref : Option Ref) (us : List Ref) (rs : List Rec) : Option Rec := rs.foldl (fun b r => if candF ref us r && betterF b r then some r else b) none
theorem cand_some {k : Ref} {us : List Ref} {r : Rec} : candF (some k) us r = true ↔ legSel r = some k ∧ r.id ∉ us := by
  unfold candF legSel
  by_cases h : r.role = "transit" ∨ r.role = "end"
  · rw [if_pos h, decide_eq_true h]
    cases hc : r.came with
    | none =>
      have : D.eqb (optRef none) (optRef (some k)) = false := rfl
      simp [this]
    | some c =>
      have : D.eqb (optRef (some c)) (optRef (some k)) = decide (c = k) := ref_eqb
      simp [this]
  · rw [if_neg h, decide_eq_false h]
    simp
theorem cand_none {us : List Ref} {r : Rec} : candF none us r = false := by
  unfold candF
  simp
theorem best_spec {ref : Option Ref} {us : List Ref} : ∀ (rs : List Rec) (b0 : Option Rec), let b := rs.foldl (fun b r => if candF ref us r && betterF b r then some r else b) b0
    (∀ x, b = some x → b0 = some x ∨ (x ∈ rs ∧ candF ref us x = true)) ∧ (∀ r ∈ rs, candF ref us r = true → ∃ x, b = some x ∧ ¬ refL r.id < refL x.id) ∧ (∀ y, b0 = some y → ∃ x, b = some x ∧ ¬ refL y.id < refL x.id)
  | [], b0 => ⟨fun x h => .inl h, fun r h => (nomatch h), fun y h => ⟨y, h, fun z => refL_asymm z z⟩⟩
  | r :: rs, b0 => by
    have ih := best_spec (ref := ref) (us := us) rs (if candF ref us r && betterF b0 r then some r else b0)
    intro b
    obtain ⟨h1, h2, h3⟩ := ih
    refine ⟨fun x hx => ?_, fun r' hr' hc => ?_, fun y hy => ?_⟩
    · rcases h1 x hx with h | ⟨h, h'⟩
      · split at h
        · rename_i hc
          cases h
          exact .inr ⟨List.mem_cons_self .., (Bool.and_eq_true_iff.mp hc).1⟩
        · exact .inl h
      · exact .inr ⟨List.mem_cons_of_mem _ h, h'⟩
    · rcases List.mem_cons.mp hr' with e | hr'
      · subst e
        by_cases hb : betterF b0 r' = true
        · exact h3 r' (by rw [hc, hb]; rfl)
        · cases b0 with
          | none => exact (hb rfl).elim
          | some y0 =>
            have hb' : betterF (some y0) r' = false := by simpa using hb
            obtain ⟨x, hx, hlt⟩ := h3 y0 (by rw [hb', Bool.and_false]; rfl)
            refine ⟨x, hx, fun z => ?_⟩
            have hn : ¬ refL r'.id < refL y0.id := by
              have : HT.lexLt (refL r'.id) (refL y0.id) = false := hb'
              rw [lexLt_lt, decide_eq_false_iff_not] at this
              exact this
            rcases refL_tri r'.id y0.id with h | h | h
            · exact hn h
            · rw [h] at z
              exact hlt z
            · exact hlt (List.lt_trans h z)
      · exact h2 r' hr' hc
    · by_cases hc : (candF ref us r && betterF b0 r) = true
      · obtain ⟨x, hx, hlt⟩ := h3 r (by rw [if_pos hc])
        refine ⟨x, hx, fun z => ?_⟩
        subst hy
        have hb : HT.lexLt (refL r.id) (refL y.id) = true := (Bool.and_eq_true_iff.mp hc).2
        rw [lexLt_lt] at hb
        exact hlt (List.lt_trans (of_decide_eq_true hb) z)
      · obtain ⟨x, hx, hlt⟩ := h3 y (by rw [if_neg hc]; exact hy)
        exact ⟨x, hx, hlt⟩
theorem find_least {α : Type} {le : α → α → Bool} (hr : ∀ a, le a a = true) {P : α → Bool} : ∀ {l : List α}, l.Pairwise (fun a b => le a b = true) → ∀ {x : α}, l.find? P = some x → ∀ y ∈ l, P y = true → le x y = true
  | [], _, x, h, _, hy, _ => nomatch hy
  | a :: l, pw, x, h, y, hy, hp => by
    rw [List.pairwise_cons] at pw
    rw [List.find?_cons] at h
    cases ha : P a with
    | true =>
      rw [ha] at h
      cases h
      rcases List.mem_cons.mp hy with e | hy
      · rw [e]; exact hr _
      · exact pw.1 y hy
    | false =>
      rw [ha] at h
      rcases List.mem_cons.mp hy with e | hy
      · rw [e, ha] at hp; cases hp
      · exact find_least hr pw.2 h y hy hp
theorem idLe_refl (a : Rec) : idLe a a = true := by
  rw [idLe_eq, decide_eq_false (fun z => refL_asymm z z)]
  rfl
theorem best_next {rs : List Rec} (ap : Apart rs) {ref : Option Ref} {us : List Ref} : bestF ref us rs = nextF (legsF rs) ref us := by
  have hs := best_spec (ref := ref) (us := us) rs none
  obtain ⟨h1, h2, _⟩ := hs
  cases ref with
  | none =>
    show bestF none us rs = none
    cases hb : bestF none us rs with
    | none => rfl
    | some x =>
      rcases h1 x hb with h | ⟨_, h⟩
      · cases h
      · rw [cand_none] at h; cases h
  | some k =>
    cases hn : nextF (legsF rs) (some k) us with
    | none =>
      cases hb : bestF (some k) us rs with
      | none => rfl
      | some x =>
        rcases h1 x hb with h | ⟨hx, hc⟩
        · cases h
        · obtain ⟨c1, c2⟩ := cand_some.mp hc
          unfold nextF at hn
          dsimp only at hn
          rw [legs_val, List.find?_eq_none] at hn
          have := hn x (List.mem_filter.mpr ⟨byId_mem.mpr hx, decide_eq_true c1⟩)
          simp [c2] at this
    | some x =>
      obtain ⟨m1, m2, m3⟩ := nextF_mem hn
      obtain ⟨b, hb, hlt⟩ := h2 x m1 (cand_some.mpr ⟨m2, m3⟩)
      have hb' : bestF (some k) us rs = some b := hb
      rw [hb']
      rcases h1 b hb with h | ⟨n1, n2⟩
      · cases h
      · obtain ⟨c1, c2⟩ := cand_some.mp n2
        unfold nextF at hn
        dsimp only at hn
        rw [legs_val] at hn
        have hle := find_least idLe_refl (sort_pw.filter _) hn b (List.mem_filter.mpr ⟨byId_mem.mpr n1, decide_eq_true c1⟩) (by simp [c2])
        rw [idLe_eq] at hle
        have hnl : ¬ refL b.id < refL x.id := by simpa using hle
        have hid : b.id = x.id := by
          rcases refL_tri b.id x.id with h | h | h
          · exact (hnl h).elim
          · exact h
          · exact (hlt h).elim
        rw [apart_inj ap n1 m1 hid]
theorem bestF_step {ref : Option Ref} {us : List Ref} {rs : List Rec} {i : Nat} {r : Rec} (h : rs[i]? = some r) : bestF ref us (rs.take (i + 1)) = if candF ref us r && betterF (bestF ref us (rs.take i)) r then some r else bestF ref us (rs.take i) := by
  unfold bestF
  rw [List.take_add_one, h, List.foldl_append]
  rfl
theorem filter_id {rs : List Rec} (ap : Apart rs) {h : Rec} (hm : h ∈ rs) : rs.filter (fun r => decide (r.id = h.id)) = [h] := by
  induction rs with
  | nil => exact nomatch hm
  | cons r rs ih =>
    have ap' := ap
    rw [Apart, List.map_cons, List.nodup_cons] at ap'
    rw [List.filter_cons]
    by_cases e : r.id = h.id
    · have hr : r = h := apart_inj ap (List.mem_cons_self ..) hm e
      subst hr
      rw [decide_eq_true rfl, if_pos rfl]
      congr 1
      rw [List.filter_eq_nil_iff]
      intro a ha hh
      exact ap'.1 ((of_decide_eq_true hh) ▸ List.mem_map.mpr ⟨a, ha, rfl⟩)
    · rw [decide_eq_false e, if_neg (by decide)]
      rcases List.mem_cons.mp hm with rfl | hm
      · exact (e rfl).elim
      · exact ih ap'.2 hm
theorem apart_filter {rs : List Rec} {f : Rec → Bool} (ap : Apart rs) : Apart (rs.filter f) := ((List.filter_sublist (p := f) (l := rs)).map (·.id)).nodup ap
theorem byId_filter {rs : List Rec} {f : Rec → Bool} (ap : Apart rs) : byId (rs.filter f) = (byId rs).filter f := by
  have h := filter_byId (f := fun _ => true) (g := f) (apart_filter (f := f) ap) ap fun r => by rw [List.mem_filter]; simp
  rwa [List.filter_eq_self.mpr (fun _ _ => rfl)] at h
theorem sort_ids {rs : List Rec} : (rs.map fun r => refD r.id).mergeSort leD = (byId rs).map fun r => refD r.id := by
  unfold byId
  rw [List.map_mergeSort (r := PySem.W.dataLe false fun r : Rec => (refD r.id).pyd) (s := leD) (f := fun r : Rec => refD r.id) fun _ _ _ _ => rfl]
theorem sort_heads {rs : List Rec} : ((rs.filter fun r => decide (r.role ∈ [Str.ofString "origin", Str.ofString "both"])).map hplaceD).mergeSort leD = (headsF rs).map hplaceD := by
  unfold headsF
  rw [List.map_mergeSort (r := PySem.W.dataLe false fun r : Rec => (hplaceD r).pyd) (s := leD) (f := hplaceD) fun _ _ _ _ => rfl]
theorem headsF_mem {rs : List Rec} {h : Rec} (hm : h ∈ headsF rs) : h ∈ rs := (List.mem_filter.mp ((List.mergeSort_perm _ _).mem_iff.mp hm)).1
theorem hplace_anti {a b : Rec} (h1 : PySem.W.dataLe false (fun r => (hplaceD r).pyd) a b = true) (h2 : PySem.W.dataLe false (fun r => (hplaceD r).pyd) b a = true) : a.id = b.id := by
  have e : ∀ a b : Rec, PySem.W.dataLe false (fun r => (hplaceD r).pyd) a b = !PySem.W.dataLt (.tuple [.int b.opened, (refD b.id).pyd]) (.tuple [.int a.opened, (refD a.id).pyd]) := fun a b => rfl
  have ak : ∀ a b : Ref, PySem.W.alike (refD a).pyd (refD b).pyd = true := fun a b => by simp [refD, D.pyd, D.pyds, PySem.W.alike, PySem.W.alikeAll]
  have ev : ∀ a b : Ref, PyData.eqv (refD a).pyd (refD b).pyd = decide (a = b) := fun a b => by rw [eqv_eqb _ _ rfl rfl, ref_eqb]
  rw [e, PySem.W.dataLt_pair (by simp [PySem.W.alike]) (ak _ _), PySem.W.dataLt_int, ev, ref_lt] at h1 h2
  simp only [PyData.eqv, beq_iff_eq] at h1 h2
  by_cases ho : a.opened = b.opened
  · rw [if_pos ho.symm] at h1
    rw [if_pos ho] at h2
    by_cases hi : a.id = b.id
    · exact hi
    · have hi' : ¬ b.id = a.id := fun z => hi z.symm
      rw [decide_eq_false hi', if_neg (by decide)] at h1
      rw [decide_eq_false hi, if_neg (by decide)] at h2
      rcases refL_tri a.id b.id with h | h | h
      · rw [decide_eq_true h] at h2; cases h2
      · exact h
      · rw [decide_eq_true h] at h1; cases h1
  · have ho' : ¬ b.opened = a.opened := fun z => ho z.symm
    rw [if_neg ho'] at h1
    rw [if_neg ho] at h2
    simp only [Bool.not_eq_true', decide_eq_false_iff_not] at h1 h2
    omega
theorem join_perm {rs rs2 : List Rec} (ap : Apart rs) (p : rs.Perm rs2) : joinF rs2 = joinF rs := by
  have hb := byId_perm ap p
  have hh : headsF rs = headsF rs2 := sort_eq (p.filter _) fun a ha b hb' h1 h2 => apart_inj ap (List.mem_filter.mp ha).1 (List.mem_filter.mp hb').1 (hplace_anti h1 h2)
  unfold joinF legsF sidesF
  rw [hb, hh]
/-- the clocks' counts stay small -/
abbrev LW.cmost (W : LW) (n : Nat) : Prop := ∀ x ∈ W.counts, x ≤ (n : Int)
theorem cm_took {W : LW} {n : Nat} {p : Int} (h : W.cmost n) : (W.took p).cmost (n + 1) := by
  intro x hx
  rcases List.mem_or_eq_of_mem_set hx with hh | rfl
  · have := h x hh
    omega
  · rw [List.getD_eq_getElem?_getD]
    cases hl : W.counts[p.toNat]? with
    | none =>
      show (0 : Int) + 1 ≤ _
      omega
    | some c =>
      have := h c (List.mem_of_getElem? hl)
      show c + 1 ≤ _
      omega
theorem cm_mono {W : LW} {n m : Nat} (h : W.cmost n) (hn : n ≤ m) : W.cmost m := fun x hx => Int.le_trans (h x hx) (by omega)
theorem cm_sides {p : Int} {caller : Str} {came went : Option Ref} {found : Ref} {now : Int} : ∀ {k : Nat} {W : LW} {n : Nat}, W.cmost n → (LW.sides p caller came went found now k W).cmost (n + k)
  | 0, _, _, h => h
  | k + 1, W, n, h => cm_took (W := (LW.sides p caller came went found now k W).nx 6) (cm_sides (k := k) h)
theorem cm_opened {W : LW} {n : Nat} {p : Int} {role caller : Str} {came went : Option Ref} (h : W.cmost n) : (W.opened p role caller came went).cmost (n + 3) := by
  unfold LW.opened
  refine cm_mono (cm_sides (n := n + 1) (cm_took (W := W.tick p) h)) ?_
  have := sideN_le (d := (((W.tick p).took p).nx 30).st % 4)
  omega
theorem cm_steps {j n : Int} {caller : Str} {y : Way} {m : Nat} (h : y.W.cmost m) : ∀ (k : Nat), (Way.steps j n caller k y).W.cmost (m + 3 * k)
  | 0 => h
  | k + 1 => cm_mono (cm_opened (W := (Way.steps j n caller k y).W) (cm_steps h k)) (by omega)
theorem cm_marks : ∀ {os : List (Int × Ref)} {secs : Int} {W : LW} {n : Nat}, W.cmost n → (LW.marks os secs W).cmost n
  | [], _, _, _, h => h
  | o :: os, secs, W, n, h => by
    refine cm_marks (os := os) ?_
    unfold LW.marked
    split <;> exact h
theorem cm_shuts : ∀ {os : List (Int × Ref)} {bs : List Int} {W : LW} {n : Nat}, W.cmost n → (LW.shuts os bs W).cmost n
  | [], _, _, _, h => h
  | o :: os, bs, W, n, h => by
    unfold LW.shuts
    split
    · exact cm_shuts (os := os) h
    · refine cm_shuts (os := os) ?_
      unfold LW.shut
      split
      · exact h
      · split <;> exact h
theorem cm_call {W : LW} {j : Int} {n : Nat} (h : W.cmost n) : (W.call j).cmost (n + 18) := by
  have hn := legsN_b (d := W.st % 4) (j := j) (emod_b _ 4 (by decide)).1 (emod_b _ 4 (by decide)).2
  unfold LW.call
  refine cm_shuts (cm_marks (W := ((W.way j).W.nx 4).nx 8) ?_)
  show (W.way j).W.cmost _
  unfold LW.way
  exact cm_mono (cm_steps (y := ⟨((W.nx 4).nx 4).nx 6, (W.nx 4).st % 4, none, []⟩) h _) (by omega)
theorem cm_run : ∀ {n : Nat} {f : Nat → Int}, (LW.run n f).cmost (18 * n)
  | 0, f => fun x hx => by
    have : x = 0 := by simpa [LW.run, LW.start] using hx
    omega
  | n + 1, f => cm_mono (cm_call (W := { LW.run n f with st := f n }) (cm_run (n := n) (f := f))) (by omega)
theorem entId_opn : entId = opnId := by
  funext e
  cases e <;> rfl
theorem run_nlogs {n : Nat} {f : Nat → Int} (hn : n ≤ 24) : NLogs (LW.run n f).logs 700 900 := by
  have hi := inv_run (n := n) (f := f)
  refine ⟨run_four, most_mono (most_run (n := n) (f := f)) (by omega), fun es hes e he => ?_, by rw [entId_opn]; exact hi.idn, fun k hk => ?_⟩
  · have := each_run es hes e he
    cases e with
    | opn r => exact this.1
    | _ => exact trivial
  · rw [entId_opn] at hk
    obtain ⟨h0, h1, _, h3⟩ := hi.idb k hk
    refine Int.lt_of_lt_of_le h3 ?_
    rw [List.getD_eq_getElem?_getD]
    cases hl : (LW.run n f).counts[k.1.toNat]? with
    | none => show (0 : Int) ≤ 700; decide
    | some c =>
      have := cm_run (n := n) (f := f) c (List.mem_of_getElem? hl)
      show c ≤ 700
      omega
/-! ### readings: view, heads, beside, way -/
theorem ev_ids {K : PySem.W.Frag} {cl : Nat → Addr} [Cf K cl] {p : Bool} {G : Hp} {M M1 : ML} {σ : St} {tl : TE} {j : Nat} {rs : List Rec} (h : EvX K cl p tl σ G M (.lst (rs.map Rec.d)) M1) (hl : rs.length ≤ 100000) (hj : ∀ x, ((wipe σ [j]).set j (some x))[j]? = some (some x)) (hw : ∀ x, wipe ((wipe σ [j]).set j (some x)) [j] = wipe σ [j]) :
    EvX K cl false (tLc (iSeq K tl) (gName j) tYes (tFld K (tVar j) "call_id") [j]) σ G M (.lst ((rs.map (·.id)).map refD)) M1 := by
  have := ev_lcG (K := K) (cl := cl) (p := p) (l := rs) (enc := Rec.d) (vs := [j]) (f := fun r => refD r.id) (keep := fun _ => true) (te := tFld K (tVar j) "call_id") (tt := tYes) (g := gName j) h rfl (by omega) (fun G1 e x b s' hb rx => lcT1 (p := true) (q := true) (hw x) et_yes fun _ => ev_fld (p := true) (d := refD b.id) (ev_var (hj x) rx) (by walk_at "cf") (by walk_at "cf") rfl)
  rw [List.filter_eq_self.mpr (fun _ _ => rfl)] at this
  rw [List.map_map]
  exact this
theorem rd_law_view {K : PySem.W.Frag} {cl : Nat → Addr} [Cf K cl] {vs H Q E} (h : sp_law_view K cl vs H Q E) : t_law_view K cl ⟨fun _ H' => Q .non H', Q, fun _ _ => False, fun _ _ => False⟩ (start ["calls", "rows", "call", "leg", "side"] vs) H := by
  obtain ⟨ds, d, G, M, ⟨cs, rfl, hl, hcs, rfl⟩, S, rs, q⟩ := h
  obtain ⟨v0, rfl, r0⟩ := reps1 rs
  unfold t_law_view
  refine s_seq ?_
  refine s_asgG S eg_nil ?_
  rintro _ G1 H1 _ s1 S1 ⟨u, rfl, rfl⟩
  refine s_seq ?_
  apply s_forL (K := K) (cl := cl) (p := true) (M1 := (u, .lst []) :: M) (ds := cs.map Call.d) (fun i σ' G' M' => ∃ (y2 : Option V) (us : List V), σ' = [some v0, some (.ref u), y2, none, none] ∧ M' = (u, .lst us) :: M ∧ Reps K cl G' us ((cs.take i).map viewD)) S1
  · exact ev_var (i := 0) rfl (r0.mono s1)
  · intro G2 H2 g2
    exact ⟨none, [], rfl, rfl, Reps.nil⟩
  · rintro G2 s2 i x dd σ' G3 H3 M3 hx s3 S3 rx ⟨y2, us, rfl, rfl, ru⟩
    rw [List.getElem?_map] at hx
    cases hc : cs[i]? with
    | none => rw [hc] at hx; cases hx
    | some c =>
    rw [hc] at hx
    cases hx
    have hi := (List.getElem?_eq_some_iff.mp hc).1
    have hb := hcs c (List.mem_of_getElem? hc)
    refine s_gname ?_
    refine s_app (K := K) (cl := cl) (a := u) (us := us) (vs := us) (d := viewD c) (M' := fun v => (u, .lst (us ++ [v])) :: M) S3 (ev_var (i := 1) rfl Rep.loc) .hd (ev_tup (ea_cons (p := true) (ev_fld (p := true) (d := refD c.head.id) (ev_fld (p := true) (d := Rec.d c.head) (ev_var (i := 2) rfl rx) (by walk_at "cf") (by walk_at "cf") rfl) (by walk_at "cf") (by walk_at "cf") rfl) (ea_cons (ev_ids (p := true) (ev_fld (p := true) (d := .lst (c.legs.map Rec.d)) (ev_var (i := 2) rfl rx) (by walk_at "cf") (by walk_at "cf") rfl) hb.1 (fun _ => rfl) (fun _ => rfl)) (ea_cons (ev_ids (p := true) (ev_fld (p := true) (d := .lst (c.sides.map Rec.d)) (ev_var (i := 2) rfl rx) (by walk_at "cf") (by walk_at "cf") rfl) hb.2 (fun _ => rfl) (fun _ => rfl)) ea_nil))) (Nat.le_of_ble_eq_true rfl)) (fun v => .hd) (by rw [ru.length, List.length_map, List.length_take]; omega) ?_
    intro w G4 H4 s4 S4 r4
    refine ⟨G4, _, s3.trans s4, S4, _, us ++ [w], rfl, rfl, ?_⟩
    rw [List.take_add_one, hc, List.map_append]
    exact (ru.mono s4).append (Reps.one r4)
  rintro σ' G2 H2 M2 s2 S2 ⟨y2, us, rfl, rfl, ru⟩
  rw [List.length_map, List.take_length] at ru
  obtain ⟨G3, s3, S3, r3⟩ := S2.lst ru
  refine s_ret (K := K) (cl := cl) S3 (ev_var (i := 1) rfl r3) fun w G4 H4 g4 r4 => ?_
  exact q w G4 H4 (s1.trans (s2.trans (s3.trans g4.same))) g4.sep r4
theorem hplaces_sorts {rs : List Rec} : Sorts ((rs.map hplaceD).map D.pyd) := by
  rw [List.map_map]
  exact hplace_sorts
theorem rd_law_heads {K : PySem.W.Frag} {cl : Nat → Addr} [Cf K cl] {vs H Q E} (h : sp_law_heads K cl vs H Q E) : t_law_heads K cl ⟨fun _ H' => Q .non H', Q, fun _ _ => False, fun _ _ => False⟩ (start ["records", "heads", "found", "row", "record"] vs) H := by
  obtain ⟨ds, d, G, M, ⟨rs, rfl, ap, hl, rfl⟩, S, rr, q⟩ := h
  obtain ⟨v0, rfl, r0⟩ := reps1 rr
  unfold t_law_heads
  have fld : ∀ {f : Str} {d : D} {b : Rec} {x : V} {σ : St} {G' : Hp} {M' : ML}, σ[4]? = some (some x) → Rep K cl G' x (Rec.d b) → NoAttr K (cl 1) f → (rns.zip (Rec.vals b)).lookup f = some d → EvX K cl true (tFld K (tVar 4) f) σ G' M' d M' := fun h0 hr hn hl => ev_fld (p := true) (ev_var h0 hr) (by walk_at "cf") hn hl
  refine s_seq ?_
  refine s_asg (K := K) (cl := cl) (d := .lst ((headsF rs).map hplaceD)) (M1 := M) S (EvX.is (ev_cb (p := false) (q := false) (ea_cons (ev_lcG (l := rs) (enc := Rec.d) (f := hplaceD) (keep := fun r => decide (r.role ∈ [Str.ofString "origin", Str.ofString "both"])) (ev_var (i := 0) rfl r0) rfl (by omega) ?_) ea_nil) (on_sort hplace_dat hplaces_sorts)) (by rw [sort_heads])) ?_
  · intro G' e x b s' hb rx
    exact lcT1 (p := false) (q := false) rfl (et_test (ev_op (p := true) (q := false) (r := true) (fld (d := .str b.role) rfl rx (by walk_at "cf") rfl) (ev_tup (ea_cons (p := true) ev_str (ea_cons (p := true) ev_str ea_nil)) (Nat.le_of_ble_eq_true rfl)) (o_inS (xs := [Str.ofString "origin", Str.ofString "both"])))) fun _ => ev_tup (ea_cons (p := true) (fld (d := .int b.opened) rfl rx (by walk_at "cf") rfl) (ea_cons (p := true) (fld (d := refD b.id) rfl rx (by walk_at "cf") rfl) ea_nil)) (Nat.le_of_ble_eq_true rfl)
  intro v1 G1 H1 g1 r1
  refine s_seq ?_
  refine s_asg (K := K) (cl := cl) g1.sep (ev_lst (p := true) ea_nil (Nat.zero_le _)) ?_
  intro v2 G2 H2 g2 r2
  have s12 := g1.same.trans g2.same
  have hhl := heads_len (rs := rs)
  refine s_seq ?_
  apply s_forL (K := K) (cl := cl) (p := true) (M1 := M) (ds := (headsF rs).map hplaceD) (fun i σ' G' M' => ∃ (vf : V) (y3 : Option V), σ' = [some v0, some v1, some vf, y3, none] ∧ M' = M ∧ Rep K cl G' vf (.lst (((headsF rs).take i).map Rec.d))) g2.sep
  · exact ev_var (i := 1) rfl (r1.mono g2.same)
  · intro G3 H3 g3
    exact ⟨v2, none, rfl, rfl, r2.mono g3.same⟩
  · rintro G3 s3 i x dd σ' G4 H4 M4 hx s4 S4 rx ⟨vf, y3, rfl, hM, rf⟩
    subst M4
    rw [List.getElem?_map] at hx
    cases hc : (headsF rs)[i]? with
    | none => rw [hc] at hx; cases hx
    | some hd =>
    rw [hc] at hx
    cases hx
    have hi := (List.getElem?_eq_some_iff.mp hc).1
    have hm := headsF_mem (List.mem_of_getElem? hc)
    have sx := s12.trans (s3.trans s4)
    refine s_gname ?_
    refine s_asg (K := K) (cl := cl) (d := .lst (((headsF rs).take (i + 1)).map Rec.d)) (M1 := M) S4 (EvX.is (ev_op (p := true) (q := false) (r := false) (d1 := .lst (((headsF rs).take i).map Rec.d)) (d2 := .lst ([hd].map Rec.d)) (ev_var (i := 2) rfl rf) (EvX.is (ev_lcG (l := rs) (enc := Rec.d) (f := Rec.d) (keep := fun r => decide (r.id = hd.id)) (ev_var (i := 0) rfl (r0.mono sx)) rfl (by omega) ?_) (by rw [filter_id ap hm])) (o_catL (by rw [List.length_map, List.length_take]; simp only [List.map_cons, List.map_nil, List.length_singleton]; omega))) ?_) ?_
    · intro G' e xr b s' hb rxr
      exact lcT1 (p := true) (q := true) rfl (EvT.is (et_test (ev_op (p := true) (q := true) (r := true) (fld (d := refD b.id) rfl rxr (by walk_at "cf") rfl) (ev_op (p := true) (q := true) (r := true) (ev_var (i := 3) rfl (rx.mono s')) ev_int (o_ixT (d := refD hd.id) rfl)) (o_eqD rfl rfl (by show (1 : Nat) ≤ 64; decide) (by show (1 : Nat) ≤ 64; decide)))) (by rw [ref_eqb])) fun _ => ev_var (i := 4) rfl rxr
    · rw [List.take_add_one, hc, List.map_append]
      rfl
    intro w G5 H5 g5 r5
    exact ⟨G5, _, s4.trans g5.same, g5.sep, w, _, rfl, rfl, r5⟩
  rintro σ' G3 H3 M3 s3 S3 ⟨vf, y3, rfl, hM, rf⟩
  subst M3
  rw [List.length_map, List.take_length] at rf
  exact s_ret (K := K) (cl := cl) S3 (ev_var (i := 2) rfl rf) fun w G4 H4 g4 r4 => q w G4 H4 (s12.trans (s3.trans g4.same)) g4.sep r4
theorem rd_law_beside {K : PySem.W.Frag} {cl : Nat → Addr} [Cf K cl] {vs H Q E} (h : sp_law_beside K cl vs H Q E) : t_law_beside K cl ⟨fun _ H' => Q .non H', Q, fun _ _ => False, fun _ _ => False⟩ (start ["records", "way", "found", "leg", "side"] vs) H := by
  obtain ⟨ds, d, G, M, ⟨rs, way, rfl, ap, hl, hw, rfl⟩, S, rr, q⟩ := h
  have hbl : ∀ n, (besideF (sidesF rs) (way.take n)).length ≤ 10000 := fun n => by
    have h1 : (((way.take n).map (·.id))).Nodup := by
      rw [List.map_take]
      exact hw.sublist (List.take_sublist _ _)
    have h2 := pick_len (sidesF rs) _ h1
    rw [List.flatMap_map] at h2
    refine Nat.le_trans h2 (Nat.le_trans (allL_len (sel := sideSel) (l := byId rs)) ?_)
    rw [byId_len]
    exact hl
  obtain ⟨v0, v1, rfl, r0, r1⟩ := reps2 rr
  unfold t_law_beside
  have fld : ∀ {f : Str} {d : D} {b : Rec} {x : V} {j : Nat} {σ : St} {G' : Hp} {M' : ML}, σ[j]? = some (some x) → Rep K cl G' x (Rec.d b) → NoAttr K (cl 1) f → (rns.zip (Rec.vals b)).lookup f = some d → EvX K cl true (tFld K (tVar j) f) σ G' M' d M' := fun h0 hr hn hl => ev_fld (p := true) (ev_var h0 hr) (by walk_at "cf") hn hl
  refine s_seq ?_
  refine s_asg (K := K) (cl := cl) S (ev_lst (p := true) ea_nil (Nat.zero_le _)) ?_
  intro v2 G1 H1 g1 r2
  have s1 := g1.same
  refine s_seq ?_
  apply s_forL (K := K) (cl := cl) (p := true) (M1 := M) (ds := way.map Rec.d) (fun i σ' G' M' => ∃ (vf : V) (y3 : Option V), σ' = [some v0, some v1, some vf, y3, none] ∧ M' = M ∧ Rep K cl G' vf (.lst (((besideF (sidesF rs) (way.take i)).map (·.id)).map refD))) g1.sep
  · exact ev_var (i := 1) rfl (r1.mono s1)
  · intro G2 H2 g2
    exact ⟨v2, none, rfl, rfl, r2.mono g2.same⟩
  · rintro G2 s2 i x dd σ' G3 H3 M3 hx s3 S3 rx ⟨vf, y3, rfl, hM, rf⟩
    subst M3
    rw [List.getElem?_map] at hx
    cases hc : way[i]? with
    | none => rw [hc] at hx; cases hx
    | some leg =>
    rw [hc] at hx
    cases hx
    have hi := (List.getElem?_eq_some_iff.mp hc).1
    have sx := s1.trans (s2.trans s3)
    have hb : besideF (sidesF rs) (way.take (i + 1)) = besideF (sidesF rs) (way.take i) ++ (byId rs).filter fun r => decide (sideSel r = some leg.id) := by
      unfold besideF
      rw [List.take_add_one, hc, List.flatMap_append]
      simp only [Option.toList_some, List.flatMap_cons, List.flatMap_nil, List.append_nil]
      rw [sides_val]
    have hfl := hbl i
    have hfl2 : ((byId rs).filter fun r => decide (sideSel r = some leg.id)).length ≤ 10000 := Nat.le_trans (List.length_filter_le _ _) (by rw [byId_len]; exact hl)
    refine s_gname ?_
    refine s_asg (K := K) (cl := cl) (d := .lst (((besideF (sidesF rs) (way.take (i + 1))).map (·.id)).map refD)) (M1 := M) S3 (EvX.is (ev_op (p := true) (q := false) (r := false) (d1 := .lst (((besideF (sidesF rs) (way.take i)).map (·.id)).map refD)) (d2 := .lst ((((byId rs).filter fun r => decide (sideSel r = some leg.id)).map (·.id)).map refD)) (ev_var (i := 2) rfl rf) (EvX.is (ev_cb (p := false) (q := false) (ea_cons (ev_lcG (l := rs) (enc := Rec.d) (f := fun r => refD r.id) (keep := fun r => decide (sideSel r = some leg.id)) (ev_var (i := 0) rfl (r0.mono sx)) rfl (by omega) ?_) ea_nil) (on_sort ?_ ?_)) ?_) (o_catL5 ?_)) ?_) ?_
    · intro G' e xr b s' hbm rxr
      refine lcT1 (p := true) (q := true) rfl (EvT.is (et_and (p := true) (q := true) (a := decide (b.role = "divert")) (b := D.eqb (optRef b.parent) (refD leg.id)) (et_test (ev_op (p := true) (q := true) (r := true) (fld (d := .str b.role) rfl rxr (by walk_at "cf") rfl) ev_str (o_eq rfl))) fun _ => et_test (ev_op (p := true) (q := true) (r := true) (fld (d := optRef b.parent) rfl rxr (by walk_at "cf") rfl) (fld (d := refD leg.id) rfl (rx.mono s') (by walk_at "cf") rfl) (o_eqD (by cases b.parent <;> rfl) rfl (by cases b.parent with | none => exact Nat.zero_le _ | some k => show (1 : Nat) ≤ 64; decide) (by show (1 : Nat) ≤ 64; decide)))) ?_) fun _ => fld (d := refD b.id) rfl rxr (by walk_at "cf") rfl
      unfold sideSel
      by_cases hd : b.role = "divert"
      · rw [if_pos hd, decide_eq_true hd, Bool.true_and]
        cases hp : b.parent with
        | none => rfl
        | some k =>
          show D.eqb (refD k) (refD leg.id) = _
          rw [ref_eqb]
          simp
      · rw [if_neg hd, decide_eq_false hd]
        rfl
    · rw [show ((rs.filter fun r => decide (sideSel r = some leg.id)).map fun r => refD r.id) = ((rs.filter fun r => decide (sideSel r = some leg.id)).map (·.id)).map refD by rw [List.map_map]; rfl]
      exact refs_dat.1
    · rw [show ((rs.filter fun r => decide (sideSel r = some leg.id)).map fun r => refD r.id) = ((rs.filter fun r => decide (sideSel r = some leg.id)).map (·.id)).map refD by rw [List.map_map]; rfl]
      exact refs_sorts
    · rw [sort_ids, byId_filter ap, List.map_map]
      rfl
    · rw [List.length_map, List.length_map, List.length_map, List.length_map]
      omega
    · rw [hb, List.map_append, List.map_append]
    intro w G4 H4 g4 r4
    exact ⟨G4, _, s3.trans g4.same, g4.sep, w, _, rfl, rfl, r4⟩
  rintro σ' G2 H2 M2 s2 S2 ⟨vf, y3, rfl, hM, rf⟩
  subst M2
  rw [List.length_map, List.take_length] at rf
  exact s_ret (K := K) (cl := cl) S2 (ev_var (i := 2) rfl rf) fun w G3 H3 g3 r3 => q w G3 H3 (s1.trans (s2.trans g3.same)) g3.sep r3
theorem rd_law_way {K : PySem.W.Frag} {cl : Nat → Addr} [Cf K cl] {vs H Q E} (h : sp_law_way K cl vs H Q E) : t_law_way K cl ⟨fun _ H' => Q .non H', Q, fun _ _ => False, fun _ _ => False⟩ (start ["records", "head", "way", "k", "best", "record", "used", "fits"] vs) H := by
  obtain ⟨ds, d, G, M, ⟨rs, h, rfl, ap, hm, hl, rfl⟩, S, rr, q⟩ := h
  obtain ⟨v0, v1, rfl, r0, r1⟩ := reps2 rr
  unfold t_law_way
  have fld : ∀ {f : Str} {d : D} {b : Rec} {x : V} {j : Nat} {σ : St} {G' : Hp} {M' : ML}, σ[j]? = some (some x) → Rep K cl G' x (Rec.d b) → NoAttr K (cl 1) f → (rns.zip (Rec.vals b)).lookup f = some d → EvX K cl true (tFld K (tVar j) f) σ G' M' d M' := fun h0 hr hn hl => ev_fld (p := true) (ev_var h0 hr) (by walk_at "cf") hn hl
  refine s_seq ?_
  refine s_asgG S (eg_lst (K := K) (cl := cl) (p := true) (ds := [Rec.d h]) (F := fun v G' M' => ∃ u us, v = .ref u ∧ M' = (u, .lst us) :: M ∧ Reps K cl G' us [Rec.d h]) (ea_cons (p := true) (ev_var (i := 1) rfl r1) ea_nil) (Nat.le_of_ble_eq_true rfl) fun u us G' s' ru => ⟨u, us, rfl, rfl, ru⟩) ?_
  rintro _ G1 H1 _ s1 S1 ⟨u, us0, rfl, rfl, ru0⟩
  have r01 := r0.mono s1
  refine s_seq ?_
  apply s_forR1 (K := K) (cl := cl) (p := true) (M1 := (u, .lst us0) :: M) (n := (rs.length : Nat)) (fun i σ' G' M' => ∃ (y3 y4 y5 y6 y7 : Option V) (w : List Rec) (us : List V) (last : Rec), σ' = [some v0, some v1, some (.ref u), y3, y4, y5, y6, y7] ∧ M' = (u, .lst us) :: M ∧ Reps K cl G' us (w.map Rec.d) ∧ w.length = i + 1 ∧ w.getLast? = some last ∧ Walks (legsF rs) w (w.map (·.id)) (nextF (legsF rs) last.went (w.map (·.id))) (pathF (legsF rs) h) ∧ (w.map (·.id)).Nodup ∧ ∀ r ∈ w, r ∈ rs) S1
  · exact EvA.is (ea_cons (ev_cb (p := true) (q := true) (ea_cons (p := true) (ev_var (i := 0) rfl r01) ea_nil) on_lenL) ea_nil) (by rw [List.length_map])
  · omega
  · intro G2 H2 g2
    refine ⟨none, none, none, none, none, [h], us0, h, rfl, rfl, ru0.mono g2.same, rfl, rfl, walks_path, by simp, fun r hr => ?_⟩
    rw [List.mem_singleton] at hr
    exact hr ▸ hm
  · rintro G2 s2 i σ' G3 H3 M3 hi s3 S3 ⟨y3, y4, y5, y6, y7, w, us, last, rfl, rfl, ru, hwl, hlast, hwk, hnd, hin⟩
    have r03 := r01.mono (s2.trans s3)
    have hwlen := nodup_len hnd (m := rs.map (·.id)) fun k hk => by
      obtain ⟨r, hr, rfl⟩ := List.mem_map.mp hk
      exact List.mem_map.mpr ⟨r, hin r hr, rfl⟩
    rw [List.length_map, List.length_map] at hwlen
    refine s_gname ?_
    refine s_seq ?_
    refine s_asg (K := K) (cl := cl) S3 ev_non ?_
    intro w4 G4 H4 g4 r4
    obtain rfl := r4.of_non
    have ru4 := ru.mono g4.same
    refine s_seq ?_
    refine s_asg (K := K) (cl := cl) (d := .lst ((w.map (·.id)).map refD)) (M1 := (u, .lst us) :: M) g4.sep (EvX.is (ev_lcM (K := K) (cl := cl) (p := true) (us := us) (ds := w.map Rec.d) (f := fun d => match d with | .ins _ _ (x :: _) => x | _ => .non) (keep := fun _ => true) (ev_var (i := 2) rfl Rep.loc) .hd ru4 (by rw [List.length_map]; omega) ?_) ?_) ?_
    · intro G' e x dd s' hd rx
      obtain ⟨b, _, rfl⟩ := List.mem_map.mp hd
      exact lcT1 (p := true) (q := true) rfl et_yes fun _ => fld (d := refD b.id) rfl rx (by walk_at "cf") rfl
    · rw [List.filter_eq_self.mpr (fun _ _ => rfl), List.map_map, List.map_map]
      rfl
    intro w6 G5 H5 g5 r6
    have s35 := g4.same.trans g5.same
    have ru5 := ru.mono s35
    have hix : atI (w.map Rec.d) (-1) = some (Rec.d last) := atI_last' (by rw [List.getLast?_map, hlast]; rfl)
    have wl : ∀ {σ : St} {G' : Hp}, Same G5 G' → σ[2]? = some (some (.ref u)) → EvX K cl true (tFld K (tOp (rIx K) (tVar 2) (tUn rNegI (tC (.int 1)))) "went") σ G' ((u, .lst us) :: M) (optRef last.went) ((u, .lst us) :: M) := fun s' h2 => ev_fld (p := true) (c := 1) (ns := rns) (ds := Rec.vals last) (ev_ixMD (p := true) (q := true) (ds := w.map Rec.d) (ev_var h2 Rep.loc) (EvX.is (ev_un (p := true) (r := true) ev_int o1_neg) rfl) .hd (ru5.mono s') hix) (by walk_at "cf") (by walk_at "cf") rfl
    refine s_seq ?_
    apply s_forL (K := K) (cl := cl) (p := true) (M1 := (u, .lst us) :: M) (ds := rs.map Rec.d) (fun j σ' G' M' => ∃ (y5 y7 : Option V) (vb : V), σ' = [some v0, some v1, some (.ref u), some (.int (i : Int)), some vb, y5, some w6, y7] ∧ M' = (u, .lst us) :: M ∧ Rep K cl G' vb (optRec (bestF last.went (w.map (·.id)) (rs.take j)))) g5.sep
    · exact ev_var (i := 0) rfl (r03.mono s35)
    · intro G6 H6 g6
      exact ⟨_, _, .non, rfl, rfl, Rep.non⟩
    · rintro G6 s6 j xr dd σ' G7 H7 M7 hx s7 S7 rx ⟨y5', y7', vb, rfl, rfl, rb⟩
      rw [List.getElem?_map] at hx
      cases hc : rs[j]? with
      | none => rw [hc] at hx; cases hx
      | some r =>
      rw [hc] at hx
      cases hx
      have s57 := s6.trans s7
      have hstep := bestF_step (ref := last.went) (us := w.map (·.id)) hc
      generalize bestF last.went (w.map (·.id)) (rs.take j) = b at rb hstep
      have eqD : ∀ o o' : Option Ref, (optRef o).isDat = true ∧ (optRef o).dep ≤ 64 := fun o o' => by
        cases o with
        | none => exact ⟨rfl, Nat.zero_le _⟩
        | some k => exact ⟨rfl, by show (1 : Nat) ≤ 64; decide⟩
      refine s_gname ?_
      refine s_seq ?_
      refine s_asg (K := K) (cl := cl) (d := .bl (decide (r.role = "transit" ∨ r.role = "end") && D.eqb (optRef r.came) (optRef last.went))) S7 (ev_andV (p := false) (q := true) (EvX.is (ev_op (p := true) (q := false) (r := true) (fld (d := .str r.role) (j := 5) rfl rx (by walk_at "cf") rfl) (ev_tup (ea_cons (p := true) ev_str (ea_cons (p := true) ev_str ea_nil)) (Nat.le_of_ble_eq_true rfl)) (o_inS (xs := [Str.ofString "transit", Str.ofString "end"]))) (by congr 1; simp)) fun _ => ev_op (p := true) (q := true) (r := true) (fld (d := optRef r.came) (j := 5) rfl rx (by walk_at "cf") rfl) (wl s57 rfl) (o_eqD (eqD _ none).1 (eqD _ none).1 (eqD _ none).2 (eqD _ none).2)) ?_
      intro w7 G8 H8 g8 r7
      obtain rfl := r7.of_bl
      have rx8 := rx.mono g8.same
      refine s_if (K := K) (cl := cl) (b := candF last.went (w.map (·.id)) r) g8.sep (et_and (p := true) (q := true) (et_tr (d := .bl _) (ev_var (i := 7) rfl Rep.bl) rfl) fun _ => et_and (p := true) (q := true) (EvT.is (et_test (ev_op (p := true) (q := true) (r := true) (wl (s57.trans g8.same) rfl) ev_non o_notN)) (by rw [optRef_isNon])) fun _ => EvT.is (et_test (ev_op (p := true) (q := true) (r := true) (fld (d := refD r.id) (j := 5) rfl rx8 (by walk_at "cf") rfl) (ev_var (i := 6) rfl (r6.mono (s57.trans g8.same))) (o_notInDat rfl (by show (1 : Nat) ≤ 64; decide) refs_dat.1 (Nat.le_trans refs_dat.2 (by decide))))) (by rw [any_refs])) ?_ ?_
      · intro G9 H9 g9 hcand
        have rb9 := (rb.mono g8.same).mono g9.same
        refine s_if (K := K) (cl := cl) (b := betterF b r) g9.sep (EvT.is (et_or (p := true) (q := true) (a := b.isNone) (b := betterF b r) (EvT.is (et_test (ev_op (p := true) (q := true) (r := true) (ev_var (i := 4) rfl rb9) ev_non o_isN)) (by cases b <;> rfl)) fun hb => ?_) (by cases b <;> simp [betterF])) ?_ ?_
        · cases b with
          | none => cases hb
          | some y =>
            exact et_test (ev_op (p := true) (q := true) (r := true) (fld (d := refD r.id) (j := 5) rfl (rx8.mono g9.same) (by walk_at "cf") rfl) (fld (d := refD y.id) (b := y) (j := 4) rfl rb9 (by walk_at "cf") rfl) o_ltT3)
        · intro Ga Ha ga hbet
          refine s_asg (K := K) (cl := cl) ga.sep (ev_var (i := 5) rfl ((rx8.mono g9.same).mono ga.same)) ?_
          intro wb Gb Hb gb rwb
          refine ⟨Gb, _, s7.trans (g8.same.trans (g9.same.trans (ga.same.trans gb.same))), gb.sep, _, _, wb, rfl, rfl, ?_⟩
          rw [hstep, hcand, hbet]
          exact rwb
        · intro Ga Ha ga hbet
          refine s_next ⟨Ga, _, s7.trans (g8.same.trans (g9.same.trans ga.same)), ga.sep, _, _, vb, rfl, rfl, ?_⟩
          rw [hstep, hcand, hbet]
          exact rb9.mono ga.same
      · intro G9 H9 g9 hcand
        refine s_next ⟨G9, _, s7.trans (g8.same.trans g9.same), g9.sep, _, _, vb, rfl, rfl, ?_⟩
        rw [hstep, hcand]
        exact (rb.mono g8.same).mono g9.same
    rintro σ' G6 H6 M6 s6 S6 ⟨y5', y7', vb, rfl, rfl, rb⟩
    rw [List.length_map, List.take_length, best_next ap] at rb
    have ru6 := ru5.mono s6
    refine s_seq ?_
    generalize hnx : nextF (legsF rs) last.went (w.map (·.id)) = nx at rb hwk
    refine s_if (K := K) (cl := cl) (b := nx.isNone) S6 (EvT.is (et_test (ev_op (p := true) (q := true) (r := true) (ev_var (i := 4) rfl rb) ev_non o_isN)) (by cases nx <;> rfl)) ?_ ?_
    · intro G7 H7 g7 hb
      have hn : nx = none := Option.isNone_iff_eq_none.mp hb
      subst hn
      have hres : pathF (legsF rs) h = w := by
        generalize pathF (legsF rs) h = res at hwk
        cases hwk
        rfl
      obtain ⟨G8, s8, S8, r8⟩ := g7.sep.lst (ru6.mono g7.same)
      refine s_ret (K := K) (cl := cl) S8 (ev_var (i := 2) rfl r8) fun z G9 H9 g9 r9 => ?_
      refine q z G9 H9 (s1.trans (s2.trans (s3.trans (s35.trans (s6.trans (g7.same.trans (s8.trans g9.same))))))) g9.sep ?_
      rw [hres]
      exact r9
    · intro G7 H7 g7 hb
      obtain ⟨x, rfl⟩ : ∃ x, nx = some x := by
        cases nx with
        | none => cases hb
        | some x => exact ⟨x, rfl⟩
      have hx : x ∈ rs ∧ x.id ∉ w.map (·.id) := by
        cases hg : last.went with
        | none => rw [hg] at hnx; cases hnx
        | some k =>
          rw [hg] at hnx
          obtain ⟨m1, _, m3⟩ := nextF_mem hnx
          exact ⟨m1, m3⟩
      have hstep : Walks (legsF rs) (w ++ [x]) (w.map (·.id) ++ [x.id]) (nextF (legsF rs) x.went (w.map (·.id) ++ [x.id])) (pathF (legsF rs) h) := by
        generalize pathF (legsF rs) h = res at hwk
        cases hwk
        assumption
      refine s_next ?_
      refine s_app (K := K) (cl := cl) (a := u) (us := us) (vs := us) (d := Rec.d x) (M' := fun v => (u, .lst (us ++ [v])) :: M) g7.sep (ev_var (i := 2) rfl Rep.loc) .hd (ev_var (i := 4) rfl (rb.mono g7.same)) (fun v => .hd) (by rw [ru.length, List.length_map]; omega) ?_
      intro w8 G8 H8 s8 S8 r8
      refine ⟨G8, _, s3.trans (s35.trans (s6.trans (g7.same.trans s8))), S8, _, _, _, _, _, w ++ [x], us ++ [w8], x, rfl, rfl, ?_, by rw [List.length_append, hwl]; rfl, by rw [List.getLast?_append]; rfl, ?_, ?_, fun r hr => ?_⟩
      · rw [List.map_append]
        exact (ru6.mono (g7.same.trans s8)).append (Reps.one r8)
      · rw [List.map_append]
        exact hstep
      · rw [List.map_append]
        refine List.nodup_append.mpr ⟨hnd, by simp, ?_⟩
        intro a ha b hb e
        have hbx : b = x.id := by simpa using hb
        exact hx.2 (hbx ▸ e ▸ ha)
      · rcases List.mem_append.mp hr with hr | hr
        · exact hin r hr
        · rw [List.mem_singleton] at hr
          exact hr ▸ hx.1
  rintro σ' G2 H2 M2 s2 S2 ⟨y3, y4, y5, y6, y7, w, us, last, rfl, rfl, ru, hwl, hlast, hwk, hnd, hin⟩
  exfalso
  have hwlen := nodup_len hnd (m := rs.map (·.id)) fun k hk => by
    obtain ⟨r, hr, rfl⟩ := List.mem_map.mp hk
    exact List.mem_map.mpr ⟨r, hin r hr, rfl⟩
  rw [List.length_map, List.length_map] at hwlen
  rw [Int.toNat_natCast] at hwl
  omega
/-! ### reading: law_noise -/
theorem nl_add {L : List (List Ent)} {m m' : Int} {n : Nat} {p : Int} {r : Rec} (h : NLogs L m n) (h0 : 0 ≤ p) (h1 : p < 4) (hok : r.Ok) (hm : m ≤ r.id.2.2) (hm' : r.id.2.2 < m') : NLogs (L.set p.toNat (L.getD p.toNat [] ++ [.opn r])) m' (n + 1) := by
  have hp : p.toNat < L.length := by rw [h.l4]; omega
  have pm := put_flat (L := L) (i := p.toNat) (e := .opn r) hp
  have pf : ((L.set p.toNat (L.getD p.toNat [] ++ [.opn r])).flatten.filterMap entId).Perm (L.flatten.filterMap entId ++ [r.id]) := by
    refine (pm.filterMap entId).trans ?_
    rw [List.filterMap_append]
    exact List.Perm.refl _
  refine ⟨by rw [List.length_set]; exact h.l4, fun es hes => ?_, fun es hes e he => ?_, pf.nodup_iff.mpr ?_, fun k hk => ?_⟩
  · rcases List.mem_or_eq_of_mem_set hes with hh | rfl
    · exact Nat.le_succ_of_le (h.len es hh)
    · rw [List.length_append]
      refine Nat.succ_le_succ ?_
      rw [List.getD_eq_getElem?_getD]
      cases hx : L[p.toNat]? with
      | none => exact Nat.zero_le _
      | some l => exact h.len l (List.mem_of_getElem? hx)
  · rcases List.mem_or_eq_of_mem_set hes with hh | rfl
    · exact h.ok es hh e he
    · rcases List.mem_append.mp he with he | he
      · exact h.ok _ (getD_mem he) e he
      · rw [List.mem_singleton] at he
        subst he
        exact hok
  · refine List.nodup_append.mpr ⟨h.nd, by simp, ?_⟩
    intro a ha b hb e
    have : b = r.id := by simpa using hb
    subst this
    subst e
    have := h.lt _ ha
    omega
  · rcases List.mem_append.mp (pf.mem_iff.mp hk) with hk | hk
    · have := h.lt k hk
      omega
    · rw [List.mem_singleton] at hk
      subst hk
      exact hm'
theorem NLogs.mono {L : List (List Ent)} {m m' : Int} {n n' : Nat} (h : NLogs L m n) (hm : m ≤ m') (hn : n ≤ n') : NLogs L m' n' := ⟨h.l4, fun es hes => Nat.le_trans (h.len es hes) hn, h.ok, h.nd, fun k hk => Int.lt_of_lt_of_le (h.lt k hk) hm⟩
def wentE : Ent → Option Ref
  | .opn r => r.went
  | _ => none
theorem went_map : ∀ {es : List Ent}, ((es.filter fun e => (wentE e).isSome).map fun e => optRef (wentE e)) = (es.filterMap wentE).map refD
  | [] => rfl
  | e :: es => by
    rw [List.filter_cons, List.filterMap_cons]
    cases h : wentE e with
    | none => exact went_map
    | some k =>
      show (optRef (wentE e)) :: _ = refD k :: _
      rw [h, went_map]
      rfl
theorem eg_listO {K : PySem.W.Frag} {cl : Nat → Addr} {M : ML} {G : Hp} {σ : St} {i : Nat} {v : V} {ds : List D} (hi : σ[i]? = some (some v)) (hr : Rep K cl G v (.lst ds)) : EvG (tCB (rListA K) (tCons (tVar i) tNil)) σ G M fun w G' M' => ∃ u us, w = .ref u ∧ M' = (u, .lst us) :: M ∧ Reps K cl G' us ds := fun G1 H1 s S Q k => by
  obtain ⟨a, vs, rfl, sa, ra⟩ := hr.of_lst
  refine ⟨_, hi, a, vs, rfl, .inl ((s.trans S.sub).seq sa), fun l hl => ?_⟩
  exact k _ G1 _ _ (Same.refl _) (S.newM hl) ⟨l, vs, rfl, rfl, ra.mono s⟩
theorem rd_law_noise {K : PySem.W.Frag} {cl : Nat → Addr} {vs H Q E} (h : sp_law_noise K cl vs H Q E) : t_law_noise K cl ⟨fun _ H' => Q .non H', Q, fun _ _ => False, fun _ _ => False⟩ (start ["script", "logs", "circuits", "log", "found", "k", "state", "place", "circuit", "went", "role", "now", "entry"] vs) H := by
  obtain ⟨G, M, S, v, ns, vl, logs, rfl, rv, rl, hn, q⟩ := h
  have h4 := hn.l4
  unfold t_law_noise
  refine s_seq ?_
  refine s_asg (K := K) (cl := cl) S (ev_lst (p := true) ea_nil (Nat.zero_le _)) ?_
  intro v2 G1 H1 g1 r2
  have rl1 := rl.mono g1.same
  refine s_seq ?_
  apply s_forL (K := K) (cl := cl) (p := true) (M1 := M) (ds := logs.map fun es => D.lst (List.map Ent.d es)) (fun i σ' G' M' => ∃ (vc : V) (y3 : Option V) (cs : List Ref), σ' = [some v, some vl, some vc, y3, none, none, none, none, none, none, none, none, none] ∧ M' = M ∧ Rep K cl G' vc (.lst (cs.map refD)) ∧ cs.length ≤ i * 1000) g1.sep
  · exact ev_var (i := 1) rfl rl1
  · intro G2 H2 g2
    exact ⟨v2, none, [], rfl, rfl, r2.mono g2.same, Nat.zero_le _⟩
  · rintro G2 s2 i x dd σ' G3 H3 M3 hx s3 S3 rx ⟨vc, y3, cs, rfl, hM, rc, hcl⟩
    subst M3
    rw [List.getElem?_map] at hx
    cases hc : logs[i]? with
    | none => rw [hc] at hx; cases hx
    | some es =>
    rw [hc] at hx
    cases hx
    have hi := (List.getElem?_eq_some_iff.mp hc).1
    have hes := hn.len es (List.mem_of_getElem? hc)
    have hfl : (es.filterMap wentE).length ≤ 1000 := Nat.le_trans (List.length_filterMap_le _ _) (by omega)
    refine s_gname ?_
    refine s_asg (K := K) (cl := cl) (d := .lst ((cs ++ es.filterMap wentE).map refD)) (M1 := M) S3 (EvX.is (ev_op (p := true) (q := false) (r := false) (d1 := .lst (cs.map refD)) (d2 := .lst ((es.filterMap wentE).map refD)) (ev_var (i := 2) rfl rc) (EvX.is (ev_lcG (l := es) (enc := Ent.d) (f := fun e => optRef (wentE e)) (keep := fun e => (wentE e).isSome) (ev_var (i := 3) rfl rx) rfl (by omega) ?_) (by rw [went_map])) (o_catL (by rw [List.length_map, List.length_map]; omega))) (by rw [List.map_append])) ?_
    · intro G' e xe b s' hb re
      have st : ∀ (k : Str) (es : List D), b.d = .tup (.str k :: es) → EvX K cl true (tOp (rIx K) (tVar 12) (tC (.int 0))) ((wipe [some v, some vl, some vc, some x, none, none, none, none, none, none, none, none, none] [12]).set 12 (some xe)) G' (e :: M) (.str k) (e :: M) := fun k es hk => ev_op (p := true) (q := true) (r := true) (EvX.is (ev_var (i := 12) rfl re) hk) ev_int (o_ixT (show atI (D.str k :: es) ((0 : Nat) : Int) = some (D.str k) from atI_nat rfl))
      have no : ∀ (k : Str) (es : List D), b.d = .tup (.str k :: es) → k ≠ "open" → (wentE b).isSome = false → LcT K cl (gName 12) (tAnd (tTest (tOp (rEqA K) (tOp (rIx K) (tVar 12) (tC (.int 0))) (tC (.str "open")))) (tTest (tOp rNotN (tOp (rIx K) (tVar 12) (tC (.int 7))) (tC .non)))) (tOp (rIx K) (tVar 12) (tC (.int 7))) [12] [some v, some vl, some vc, some x, none, none, none, none, none, none, none, none, none] G' (e :: M) xe (wentE b).isSome (optRef (wentE b)) := by
        intro k es hk hne hw
        refine lcT1 (p := true) (q := true) rfl (EvT.is (et_and (p := true) (q := true) (a := false) (b := false) (EvT.is (et_test (ev_op (p := true) (q := true) (r := true) (st k es hk) ev_str (o_eq rfl))) (decide_eq_false hne)) fun h => nomatch h) (by rw [hw]; rfl)) fun h => ?_
        rw [hw] at h
        cases h
      cases b with
      | boot n t => exact no "boot" _ rfl (by decide +kernel) rfl
      | mark k n => exact no "mark" _ rfl (by decide +kernel) rfl
      | close k c t => exact no "close" _ rfl (by decide +kernel) rfl
      | opn r =>
        have i7 : EvX K cl true (tOp (rIx K) (tVar 12) (tC (.int 7))) ((wipe [some v, some vl, some vc, some x, none, none, none, none, none, none, none, none, none] [12]).set 12 (some xe)) G' (e :: M) (optRef r.went) (e :: M) := ev_op (p := true) (q := true) (r := true) (ev_var (i := 12) rfl re) ev_int (o_ixT (i := 7) (d := optRef r.went) rfl)
        exact lcT1 (p := true) (q := true) rfl (EvT.is (et_and (p := true) (q := true) (a := true) (b := !r.went.isNone) (EvT.is (et_test (ev_op (p := true) (q := true) (r := true) (st "open" _ rfl) ev_str (o_eq rfl))) (by decide +kernel)) fun _ => EvT.is (et_test (ev_op (p := true) (q := true) (r := true) i7 ev_non o_notN)) (by rw [optRef_isNon])) (by show (true && !r.went.isNone) = r.went.isSome; cases r.went <;> rfl)) fun _ => i7
    intro w G4 H4 g4 r4
    refine ⟨G4, _, s3.trans g4.same, g4.sep, w, _, cs ++ es.filterMap wentE, rfl, rfl, r4, ?_⟩
    rw [List.length_append, Nat.succ_mul]
    omega
  rintro σ' G2 H2 M2 s2 S2 ⟨vc, y3, cs, rfl, hM, rc, hcl⟩
  subst M2
  rw [List.length_map, h4] at hcl
  have rl2 := rl1.mono s2
  refine s_seq ?_
  refine s_asgG (F := fun w G' M' => ∃ ls, M' = ls.map lcell ++ M ∧ Rep K cl G' w (.lst ((ls.map (·.1)).map D.loc)) ∧ LogsR K cl G' ls logs) S2 (EvG.imp (eg_lcLI (K := K) (cl := cl) (p := true) (ds := logs.map fun es => D.lst (List.map Ent.d es)) (M := M) (F := fun x G' M' => ∃ Da ls, x = .ref Da ∧ M' = (Da, .lst (ls.map fun l => V.ref l.1)) :: (ls.map lcell ++ M) ∧ LogsR K cl G' ls logs) (fun i acc G' M' => ∃ ls, acc = ls.map (fun l => V.ref l.1) ∧ M' = ls.map lcell ++ M ∧ LogsR K cl G' ls (logs.take i)) (ev_var (i := 1) rfl rl2) (by rw [List.length_map]; omega) ?_ ?_ ?_) ?_) ?_
  · exact fun G' s' => ⟨[], rfl, rfl, .nil⟩
  · rintro G' Da i x dd acc M' s' hd rx ⟨ls, rfl, rfl, hls⟩
    rw [List.getElem?_map] at hd
    cases hc : logs[i]? with
    | none => rw [hc] at hd; cases hd
    | some es =>
    rw [hc] at hd
    cases hd
    refine ⟨rfl, EvG.imp (eg_listO (i := 3) rfl rx) ?_⟩
    rintro w G'' H'' M'' s'' S'' ⟨u, us, rfl, rfl, ru⟩
    refine ⟨G'', _, Same.refl _, S'', (ls ++ [(u, us)]).map lcell ++ M, ?_, ls ++ [(u, us)], ?_, rfl, ?_⟩
    · rw [List.map_append, List.append_assoc]
      exact (List.Perm.swap _ _ _).trans (List.Perm.cons _ List.perm_middle.symm)
    · rw [List.map_append]
      rfl
    · rw [List.take_add_one, hc]
      exact paired_append (LogsR.mono s'' hls) (.cons ru .nil)
  · rintro Da acc G' M' s' ⟨ls, rfl, rfl, hls⟩
    rw [List.length_map, List.take_length] at hls
    exact ⟨Da, ls, rfl, rfl, hls⟩
  · rintro x G' H' M' s' S' ⟨Da, ls, rfl, rfl, hls⟩
    obtain ⟨G2, s2, S2, r2⟩ := S'.lst (K := K) (cl := cl) (ds := (ls.map (·.1)).map D.loc) (by
      rw [List.map_map]
      exact Reps.map (f := fun l : LC => V.ref l.1) (g := fun l : LC => D.loc l.1) fun _ _ => Rep.loc)
    exact ⟨G2, _, s2, S2, ls, rfl, r2, LogsR.mono s2 hls⟩
  rintro w4 G3 H3 _ s3 S3 ⟨ls, rfl, r4, hls⟩
  have s03 := g1.same.trans (s2.trans s3)
  have fin : ∀ {σ : St} {G' : Hp} {H' : Hp} {ls' : List LC} {logs' : List (List Ent)} {as : List Addr}, Same G G' → σ[4]? = some (some w4) → Sep G' H' (ls'.map lcell ++ M) → LogsR K cl G' ls' logs' → ls'.map (·.1) = as → Rep K cl G' w4 (.lst (as.map D.loc)) → NLogs logs' 703 903 → tRet (tVar 4) ⟨fun _ H' => Q .non H', Q, fun _ _ => False, fun _ _ => False⟩ σ H' := by
    intro σ G' H' ls' logs' as s' h4' S' hls' has r4' hn'
    obtain ⟨G5, s5, S5, r5⟩ := sep_logs S' hls'
    obtain ⟨b, ys, rfl, sb, ry⟩ := (r4'.mono s5).of_lst
    obtain rfl := reps_locs ry
    have rl' : Rep K cl G5 (.ref b) (.lst (logs'.map fun es => .lst (es.map Ent.d))) := by
      refine Rep.lst sb ?_
      rw [← has, List.map_map]
      exact r5
    refine s_ret (K := K) (cl := cl) S5 (ev_var (i := 4) h4' rl') fun z G6 H6 g6 r6 => ?_
    have sA := s'.trans (s5.trans g6.same)
    exact q G6 z logs' sA hn' r6 sA _ g6.sep
  have rc3 := rc.mono s3
  refine s_seq ?_
  refine s_if (K := K) (cl := cl) (b := decide (((cs.map refD).length : Int) = 0)) S3 (et_test (ev_op (p := true) (q := true) (r := true) (ev_cb (p := true) (q := true) (ea_cons (p := true) (ev_var (i := 2) rfl rc3) ea_nil) on_lenL) ev_int (o_eq rfl))) ?_ ?_
  · intro G4 H4 g4 hb
    exact fin (s03.trans g4.same) rfl g4.sep (LogsR.mono g4.same hls) rfl (r4.mono g4.same) (hn.mono (by decide) (by decide))
  intro G4 H4 g4 hb
  have hpos : 0 < cs.length := by
    have := of_decide_eq_false hb
    rw [List.length_map] at this
    omega
  have s04 := s03.trans g4.same
  refine s_next ?_
  refine s_seq ?_
  generalize hla : ls.map (·.1) = las at r4
  have hla4 : las.length = 4 := by rw [← hla, List.length_map, paired_len hls, h4]
  apply s_forR1 (K := K) (cl := cl) (p := true) (M1 := ls.map lcell ++ M) (n := 3) (fun i σ' G' M' => ∃ (y5 y6 y7 y8 y9 y10 y11 : Option V) (ls' : List LC) (logs' : List (List Ent)), σ' = [some v, some vl, some vc, y3, some w4, y5, y6, y7, y8, y9, y10, y11, none] ∧ M' = ls'.map lcell ++ M ∧ LogsR K cl G' ls' logs' ∧ ls'.map (·.1) = las ∧ NLogs logs' (700 + i) (900 + i)) g4.sep
  · exact ea_cons (p := true) ev_int ea_nil
  · decide
  · intro G5 H5 g5
    exact ⟨none, none, none, none, none, none, none, ls, logs, rfl, rfl, LogsR.mono (g4.same.trans g5.same) hls, hla, hn⟩
  · rintro G5 s5 i σ' G6 H6 M6 hi s6 S6 ⟨y5, y6, y7, y8, y9, y10, y11, ls', logs', rfl, rfl, hls', has', hn'⟩
    have sx := g4.same.trans (s5.trans s6)
    have rv6 := rv.mono (s03.trans sx)
    have rc6 := rc3.mono sx
    have r46 := r4.mono sx
    refine s_gname ?_
    refine s_seq ?_
    refine s_asgG S6 (eg_state (K := K) (cl := cl) (p := false) (ea_cons (ev_call (R := fun ds d => ∃ (ns : List Int) (k : Int), ds = [.lst (ns.map D.int), .int k] ∧ 0 ≤ k ∧ d = .int (ns.getD k.toNat 0)) (ea_cons (p := true) (ev_var (i := 0) rfl rv6) (ea_cons (p := true) (ev_var (i := 5) rfl Rep.int) ea_nil)) ⟨_, _, rfl, by omega, rfl⟩) (ea_cons (p := true) (ev_op (p := true) (q := true) (r := true) ev_int (ev_var (i := 5) rfl Rep.int) o_add_int) ea_nil))) ?_
    rintro _ G7 H7 _ s7 S7 ⟨p, z, rfl, rfl⟩
    have rc7 := rc6.mono s7
    have cix : ∀ {σ : St} {G' : Hp} {z' : Int}, Same G7 G' → σ[2]? = some (some vc) → σ[6]? = some (some (.ref p)) → ∃ c : Ref, EvX K cl false (tOp (rIx K) (tVar 2) (tCall (sp_law_digit K cl) [] E0 (tCons (tVar 6) (tCons (tCB (rLenA K) (tCons (tVar 2) tNil)) tNil)))) σ G' ((p, .lst [.int z']) :: (ls'.map lcell ++ M)) (refD c) ((p, .lst [.int (z' / (cs.length : Nat))]) :: (ls'.map lcell ++ M)) := by
      intro σ G' z' s' h2 h6
      have hb := emod_b z' (cs.length : Nat) (by omega)
      obtain ⟨n, hn⟩ : ∃ n : Nat, z' % (cs.length : Nat) = (n : Int) := ⟨_, (Int.toNat_of_nonneg hb.1).symm⟩
      have hnl : n < cs.length := by omega
      refine ⟨cs[n], ev_op (p := true) (q := false) (r := true) (d2 := .int (n : Int)) (M2 := (p, .lst [.int (z' / (cs.length : Nat))]) :: (ls'.map lcell ++ M)) (ev_var h2 (rc7.mono s')) (EvX.is (ev_digit (m := (cs.length : Nat)) (ea_cons (p := true) (ev_var h6 Rep.loc) (ea_cons (EvX.is (ev_cb (p := true) (q := true) (ea_cons (p := true) (ev_var h2 (rc7.mono s')) ea_nil) on_lenL) (by rw [List.length_map])) ea_nil)) .hd (by omega) (by omega)) (by rw [hn])) (o_ixL ?_)⟩
      rw [atI_getD D.non (by omega) (by rw [List.length_map]; omega)]
      simp [List.getD, hnl]
    have hp4 := emod_b z 4 (by decide)
    refine s_seq ?_
    refine s_asg (K := K) (cl := cl) (M1 := (p, .lst [.int (z / 4)]) :: (ls'.map lcell ++ M)) S7 (ev_digit (ea_cons (p := true) (ev_var (i := 6) rfl Rep.loc) (ea_cons (p := true) ev_int ea_nil)) .hd (by decide) (by decide)) ?_
    intro w7 G8 H8 g8 r7
    obtain rfl := r7.of_int
    generalize hpl : z % 4 = pl at hp4
    obtain ⟨c1, e1⟩ := cix (σ := [some v, some vl, some vc, y3, some w4, some (.int (i : Int)), some (.ref p), some (.int pl), y8, y9, y10, y11, none]) (z' := z / 4) g8.same rfl rfl
    refine s_seq ?_
    refine s_asg (K := K) (cl := cl) g8.sep (by rw [← hpl] at e1; exact e1) ?_
    intro w8 G9 H9 g9 r8
    have s79 := g8.same.trans g9.same
    obtain ⟨c2, e2⟩ := cix (σ := [some v, some vl, some vc, y3, some w4, some (.int (i : Int)), some (.ref p), some (.int pl), some w8, y9, y10, y11, none]) (z' := z / 4 / (cs.length : Nat)) s79 rfl rfl
    generalize hz2 : z / 4 / (cs.length : Nat) / (cs.length : Nat) = z2 at e2
    have hq4 := emod_b z2 4 (by decide)
    obtain ⟨went, hwent⟩ : ∃ went : Option Ref, atI [D.non, refD c1, refD c2, .tup [.int 3, .int 3, .int (i : Int)]] (z2 % 4) = some (optRef went) := by
      have : z2 % 4 = 0 ∨ z2 % 4 = 1 ∨ z2 % 4 = 2 ∨ z2 % 4 = 3 := by omega
      rcases this with h | h | h | h <;> rw [h]
      · exact ⟨none, rfl⟩
      · exact ⟨some c1, rfl⟩
      · exact ⟨some c2, rfl⟩
      · exact ⟨some (3, 3, (i : Int)), rfl⟩
    refine s_seq ?_
    refine s_asg (K := K) (cl := cl) (d := optRef went) (M1 := (p, .lst [.int (z2 / 4)]) :: (ls'.map lcell ++ M)) g9.sep (ev_op (p := false) (q := false) (r := true) (d2 := .int (z2 % 4)) (M1 := (p, .lst [.int z2]) :: (ls'.map lcell ++ M)) (ev_tup (ea_cons (p := true) ev_non (ea_cons (p := true) (ev_var (i := 8) rfl r8) (ea_cons (p := false) (by rw [← hpl] at e2; exact e2) (ea_cons (p := false) (ev_tup (ea_cons (p := true) ev_int (ea_cons (p := true) ev_int (ea_cons (p := true) (ev_var (i := 5) rfl Rep.int) ea_nil))) (Nat.le_of_ble_eq_true rfl)) ea_nil)))) (Nat.le_of_ble_eq_true rfl)) (ev_digit (ea_cons (p := true) (ev_var (i := 6) rfl Rep.loc) (ea_cons (p := true) ev_int ea_nil)) .hd (by decide) (by decide)) (o_ixT hwent)) ?_
    intro w9 Ga Ha ga r9
    refine s_seq ?_
    refine s_asg (K := K) (cl := cl) ga.sep ev_str ?_
    intro w10 Gb Hb gb r10
    obtain rfl := r10.of_str
    have sab := ga.same.trans gb.same
    refine s_seq ?_
    refine s_ifJ (K := K) (cl := cl) (p := true) (M1 := (p, .lst [.int (z2 / 4)]) :: (ls'.map lcell ++ M)) (b := went.isNone) (fun σ' G' M' => M' = (p, .lst [.int (z2 / 4)]) :: (ls'.map lcell ++ M) ∧ ∃ role : Str, (role = "transit" ∨ role = "end") ∧ σ' = [some v, some vl, some vc, y3, some w4, some (.int (i : Int)), some (.ref p), some (.int pl), some w8, some w9, some (.str role), y11, none]) gb.sep ?_ ?_ ?_ ?_
    · exact EvT.is (et_test (ev_op (p := true) (q := true) (r := true) (ev_var (i := 9) rfl (r9.mono gb.same)) ev_non o_isN)) (by rw [optRef_isNon])
    · intro kk Gc Hc gc hb
      refine s_asg (K := K) (cl := cl) gc.sep ev_str ?_
      intro wd Gd Hd gd rd
      obtain rfl := rd.of_str
      exact kk _ Gd Hd _ (gc.same.trans gd.same) gd.sep ⟨rfl, "end", .inr rfl, rfl⟩
    · intro kk Gc Hc gc hb
      exact s_next (kk _ Gc Hc _ gc.same gc.sep ⟨rfl, "transit", .inl rfl, rfl⟩)
    rintro _ Gc Hc _ sc Sc ⟨rfl, role, hrole, rfl⟩
    refine s_seq ?_
    refine s_asg (K := K) (cl := cl) Sc (ev_op (p := true) (q := true) (r := true) ev_int (ev_var (i := 5) rfl Rep.int) o_add_int) ?_
    intro w11 Gd Hd gd rd
    obtain rfl := rd.of_int
    have sad := sab.trans (sc.trans gd.same)
    have s6d := s7.trans (s79.trans sad)

    have hlen' : ls'.length = 4 := by rw [paired_len hls', hn'.l4]
    have hil : pl.toNat < ls'.length := by omega
    obtain ⟨es, hes, hrs⟩ := paired_at hls' (List.getElem?_eq_getElem hil)
    have hgd : logs'.getD pl.toNat [] = es := by rw [List.getD_eq_getElem?_getD, hes]; rfl
    have hlx : (ls'.map lcell)[pl.toNat]? = some (ls'[pl.toNat].1, .lst ls'[pl.toNat].2) := by rw [List.getElem?_map, List.getElem?_eq_getElem hil]; rfl
    have hat : atI (las.map D.loc) pl = some (.loc ls'[pl.toNat].1) := by
      rw [atI_getD (D.loc 0) hp4.1 (by rw [List.length_map, hla4]; omega), ← has']
      simp [List.getD, List.getElem?_eq_getElem hil]
    have hesl := hn'.len es (List.mem_of_getElem? hes)
    refine s_app (K := K) (cl := cl) (a := ls'[pl.toNat].1) (us := ls'[pl.toNat].2) (vs := ls'[pl.toNat].2) (d := Ent.d (.opn ⟨(pl, 9 - z2 / 4 % 9, 700 + (i : Int)), role, "49", "59", none, some c1, went, none, 1000000000 + (i : Int), 0, none, none⟩)) (M2 := (p, .lst [.int (z2 / 4 / 9)]) :: (ls'.map lcell ++ M)) (M' := fun v => (p, .lst [.int (z2 / 4 / 9)]) :: ((ls'.map lcell).set pl.toNat (ls'[pl.toNat].1, .lst (ls'[pl.toNat].2 ++ [v])) ++ M)) gd.sep (ev_op (p := true) (q := true) (r := true) (ev_var (i := 4) rfl (r46.mono s6d)) (ev_var (i := 7) rfl Rep.int) (o_ixL hat)) (.tl (at_at hlx)) (ev_tup (ea_cons (p := true) ev_str (ea_cons (p := false) (ev_tup (ea_cons (p := true) (ev_var (i := 7) rfl Rep.int) (ea_cons (p := false) (ev_op (p := true) (r := true) ev_int (ev_digit (ea_cons (p := true) (ev_var (i := 6) rfl Rep.loc) (ea_cons (p := true) ev_int ea_nil)) .hd (by decide) (by decide)) o_sub) (ea_cons (p := true) (ev_op (p := true) (q := true) (r := true) ev_int (ev_var (i := 5) rfl Rep.int) o_add_int) ea_nil))) (Nat.le_of_ble_eq_true rfl)) (ea_cons (p := true) (ev_var (i := 10) rfl Rep.str) (ea_cons (p := true) ev_str (ea_cons (p := true) ev_str (ea_cons (p := true) ev_non (ea_cons (p := true) (ev_var (i := 8) rfl (r8.mono sad)) (ea_cons (p := true) (ev_var (i := 9) rfl (r9.mono (gb.same.trans (sc.trans gd.same)))) (ea_cons (p := true) ev_non (ea_cons (p := true) (ev_var (i := 11) rfl Rep.int) ea_nil)))))))))) (Nat.le_of_ble_eq_true rfl)) (fun v => .tl (ch_at hlx)) (by rw [hrs.length, List.length_map]; omega) ?_
    intro we Ge He se Se re
    have e1 : (ls'.map lcell).set pl.toNat (ls'[pl.toNat].1, .lst (ls'[pl.toNat].2 ++ [we])) = (ls'.set pl.toNat (ls'[pl.toNat].1, ls'[pl.toNat].2 ++ [we])).map lcell := by rw [List.map_set]
    rw [e1] at Se
    have s6e := s6d.trans se
    refine ⟨Ge, _, s6.trans s6e, Se.drop, _, _, _, _, _, _, _, ls'.set pl.toNat (ls'[pl.toNat].1, ls'[pl.toNat].2 ++ [we]), _, rfl, rfl, ?_, ?_, nl_add hn' hp4.1 hp4.2 (r := ⟨(pl, 9 - z2 / 4 % 9, 700 + (i : Int)), role, "49", "59", none, some c1, went, none, 1000000000 + (i : Int), 0, none, none⟩) ⟨fun _ => rfl, fun h => ?_⟩ (Int.le_refl _) (by show (700 : Int) + i < 700 + ((i + 1 : Nat) : Int); omega)⟩
    · rw [hgd]
      refine paired_set (LogsR.mono s6e hls') _ ?_
      show Reps K cl Ge (ls'[pl.toNat].2 ++ [we]) ((es ++ [_]).map Ent.d)
      rw [List.map_append]
      exact (hrs.mono s6e).append (Reps.one re)
    · rw [List.map_set, has']
      refine set_self' ?_
      rw [← has', List.getElem?_map, List.getElem?_eq_getElem hil]
      rfl
    · exfalso
      have hd : role = "divert" := h
      rcases hrole with h' | h'
      · exact ok_divert.2.1 (hd.symm.trans h')
      · exact ok_divert.2.2 (hd.symm.trans h')
  rintro σ' G5 H5 M5 s5 S5 ⟨y5, y6, y7, y8, y9, y10, y11, ls', logs', rfl, rfl, hls', has', hn'⟩
  exact fin (s04.trans s5) rfl S5 hls' has' ((r4.mono g4.same).mono s5) hn'
/-! ### reading: the law -/
theorem view_dat {cs : List Call} : (D.lst (cs.map viewD)).isDat = true ∧ (D.lst (cs.map viewD)).dep ≤ 64 := by
  have hm : ∀ d ∈ cs.map viewD, d.isDat = true ∧ d.dep ≤ 3 := fun d hd => by
    obtain ⟨c, _, rfl⟩ := List.mem_map.mp hd
    have h1 := refs_dat (us := c.legs.map (·.id))
    have h2 := refs_dat (us := c.sides.map (·.id))
    refine ⟨?_, ?_⟩
    · simp only [viewD, refD, D.isDat, D.areDat, Bool.and_true, Bool.true_and]
      rw [h1.1, h2.1]
      rfl
    · simp only [viewD, refD, D.dep, D.deps]
      have := h1.2
      have := h2.2
      omega
  refine ⟨D.areDat_mem fun d hd => (hm d hd).1, ?_⟩
  have : D.deps (cs.map viewD) ≤ 3 := D.deps_mem fun d hd => (hm d hd).2
  show D.deps _ + 1 ≤ 64
  omega
theorem reps_refs {K : PySem.W.Frag} {cl : Nat → Addr} {G : Hp} : ∀ {vs : List V} {rs : List Rec}, Reps K cl G vs (rs.map Rec.d) → ∃ as : List Addr, vs = as.map V.ref
  | vs, [], h => ⟨[], by simpa only [List.map_nil, Reps] using h⟩
  | vs, r :: rs, h => by
    obtain ⟨v, ws, rfl, r1, r2⟩ := Reps.uncons h
    obtain ⟨a, dx, us, rfl, _⟩ := r1.of_ins
    obtain ⟨as, rfl⟩ := reps_refs r2
    exact ⟨a :: as, rfl⟩
theorem ev_neRefs {K : PySem.W.Frag} {cl : Nat → Addr} {G : Hp} {M : ML} {σ : St} {i j : Nat} {a b : Addr} {as : List Addr} (hi : σ[i]? = some (some (.ref a))) (hj : σ[j]? = some (some (.ref b))) (ha : SqL K G a (as.map V.ref)) (hb : SqL K G b (as.map V.ref)) : EvX K cl true (tOp (rNeRefs K) (tVar i) (tVar j)) σ G M (.bl false) M := fun G1 H1 s S Q k =>
  ⟨_, hi, _, hj, a, b, as, rfl, rfl, (s.trans S.sub).seq ha, (s.trans S.sub).seq hb, k _ G1 H1 (Go.refl S) Rep.bl⟩
theorem rd_law {K : PySem.W.Frag} {cl : Nat → Addr} [Cf K cl] {vs H Q E} (h : sp_law K cl vs H Q E) : t_law K cl ⟨fun _ H' => Q .non H', Q, fun _ _ => False, fun _ _ => False⟩ (start ["script", "logs", "records", "due", "head", "way", "given", "leg"] vs) H := by
  obtain ⟨G, M, S, v, ns, rfl, rv, q⟩ := h
  unfold t_law
  refine s_seq ?_
  refine s_asgG (F := fun w G' M' => M' = M ∧ ∃ logs, NLogs logs 703 903 ∧ Rep K cl G' w (.lst (logs.map fun es => D.lst (List.map Ent.d es)))) S (eg_callAG (Fa := fun xs G' M' => M' = M ∧ ∃ x w logs, xs = [x, w] ∧ NLogs logs 700 900 ∧ Rep K cl G' x (.lst (ns.map D.int)) ∧ Rep K cl G' w (.lst (logs.map fun es => D.lst (List.map Ent.d es)))) ?_ ?_) ?_
  · refine ag_consX (K := K) (cl := cl) (p := true) (d := .lst (ns.map D.int)) (M1 := M) (ev_var (i := 0) rfl rv) ?_
    intro x G1 s1 rx
    refine ag_cons (eg_logs19 (K := K) (cl := cl) (by decide) (by decide) rfl (rv.mono s1)) ?_
    rintro w G2 _ s2 ⟨rfl, f, n, rw1, hn⟩
    exact ag_nil fun G3 s3 => ⟨rfl, x, w, _, rfl, run_nlogs (n := n) (f := f) (by omega), rx.mono (s2.trans s3), rw1.mono s3⟩
  · rintro xs G' H' _ T s' S' ⟨rfl, x, w, logs, rfl, hn, rx, rw1⟩ hT
    exact ⟨_, List.Perm.refl _, x, ns, w, logs, rfl, rx, rw1, hn, fun G2 z logs' s2 hn2 rz => hT z G2 _ s2 ⟨rfl, logs', hn2, rz⟩⟩
  rintro w1 G1 H1 M1 s1 S1 ⟨hM1, logs, hn, r1⟩
  subst M1
  have rv1 := rv.mono s1
  refine s_seq ?_
  refine s_asgG (F := fun w G' M' => M' = M ∧ ∃ rs : List Rec, Rep K cl G' w (.lst (rs.map Rec.d)) ∧ rs.length ≤ 4000 ∧ Apart rs ∧ ∀ r ∈ rs, r.Ok) S1 (eg_callAG (Fa := fun xs G' M' => M' = M ∧ ∃ x w cut, xs = [x, w] ∧ Rep K cl G' x (.lst (ns.map D.int)) ∧ Rep K cl G' w (.lst ((cutF logs cut 4).map Rec.d))) ?_ ?_) ?_
  · refine ag_consX (K := K) (cl := cl) (p := true) (d := .lst (ns.map D.int)) (M1 := M) (ev_var (i := 0) rfl rv1) ?_
    intro x G2 s2 rx
    refine ag_cons (F1 := fun w G' M' => M' = M ∧ ∃ cut, Rep K cl G' w (.lst ((cutF logs cut 4).map Rec.d))) (eg_call (K := K) (cl := cl) (p := true) (M1 := M) (ea_cons (p := true) (ev_var (i := 0) rfl (rv1.mono s2)) (ea_cons (p := true) (ev_var (i := 1) rfl (r1.mono s2)) ea_nil)) ?_) ?_
    · intro xs G' T s' rx hT
      obtain ⟨x0, x1, rfl, e0, e1⟩ := reps2 rx
      exact ⟨x0, ns, x1, logs, rfl, e0, e1, hn.l4, fun es hes => Nat.le_trans (hn.len es hes) (by decide), fun G2 z cut s2 rz => hT z G2 _ s2 ⟨rfl, cut, rz⟩⟩
    · rintro w G' _ s' ⟨rfl, cut, rw1⟩
      exact ag_nil fun G2 s2 => ⟨rfl, x, w, cut, rfl, rx.mono (s'.trans s2), rw1.mono s2⟩
  · rintro xs G' H' _ T s' S' ⟨rfl, x, w, cut, rfl, rx, rw1⟩ hT
    have hlen : (cutF logs cut 4).length ≤ 4000 := Nat.le_trans (cutF_len hn.len) (by decide)
    have hap : Apart (cutF logs cut 4) := by
      have h1 := cutF_ids (cut := cut) (logs := logs) (n := 4) (by rw [hn.l4]; exact Nat.le_refl _)
      rw [List.take_of_length_le (by rw [hn.l4]; exact Nat.le_refl _), ← entId_opn] at h1
      exact h1.nodup hn.nd
    have hok : ∀ r ∈ cutF logs cut 4, r.Ok := fun r hr => by
      obtain ⟨es, h1, r', h2, s⟩ := cutF_mem hr
      exact s.ok (hn.ok es h1 _ h2)
    refine ⟨_, List.Perm.refl _, x, ns, w, _, rfl, rx, rw1, by rw [List.length_map]; omega, fun G2 z es s2 hp rz => ?_⟩
    obtain ⟨rs, rfl, hp2⟩ := perm_map_inv hp
    exact hT z G2 _ s2 ⟨rfl, rs, rz, by rw [hp2.length_eq]; exact hlen, ((hp2.map (·.id)).nodup_iff).mpr hap, fun r hr => hok r (hp2.mem_iff.mp hr)⟩
  rintro w2 G2 H2 M2 s2 S2 ⟨hM2, rs, r2, hlen, ap, hok⟩
  subst M2
  have hhl := heads_len (rs := rs)
  have hjl := joinF_len (rs := rs)
  refine s_seq ?_
  refine s_asgG S2 eg_nil ?_
  rintro _ G3 H3 _ s3 S3 ⟨u, rfl, rfl⟩
  have r23 := r2.mono s3
  refine s_seq ?_
  apply s_forL (K := K) (cl := cl) (p := false) (M1 := (u, .lst []) :: M) (ds := (headsF rs).map Rec.d) (fun i σ' G' M' => ∃ (y4 y5 : Option V) (us : List V), σ' = [some v, some w1, some w2, some (.ref u), y4, y5, none, none] ∧ M' = (u, .lst us) :: M ∧ Reps K cl G' us ((((headsF rs).take i).map (callF (legsF rs) (sidesF rs))).map viewD)) S3
  · exact ev_call (R := R_law_heads) (ea_cons (p := true) (ev_var (i := 2) rfl r23) ea_nil) ⟨rs, rfl, ap, by omega, rfl⟩
  · intro G4 H4 g4
    exact ⟨none, none, [], rfl, rfl, Reps.nil⟩
  · rintro G4 s4 i x dd σ' G5 H5 M5 hx s5 S5 rx ⟨y4, y5, us, rfl, rfl, ru⟩
    rw [List.getElem?_map] at hx
    cases hc : (headsF rs)[i]? with
    | none => rw [hc] at hx; cases hx
    | some h =>
    rw [hc] at hx
    cases hx
    have hi := (List.getElem?_eq_some_iff.mp hc).1
    have hhm := List.mem_of_getElem? hc
    have hm := headsF_mem hhm
    have hcm : callF (legsF rs) (sidesF rs) h ∈ joinF rs := List.mem_map.mpr ⟨h, hhm, rfl⟩
    have hll := joinF_legs_len hcm
    have sx := s4.trans s5
    refine s_gname ?_
    refine s_seq ?_
    refine s_asg (K := K) (cl := cl) (d := .lst ((pathF (legsF rs) h).map Rec.d)) S5 (ev_call (R := R_law_way) (ea_cons (p := true) (ev_var (i := 2) rfl (r23.mono sx)) (ea_cons (p := true) (ev_var (i := 4) rfl rx) ea_nil)) ⟨rs, h, rfl, ap, hm, by omega, rfl⟩) ?_
    intro w5 G6 H6 g6 r5
    have rx6 := rx.mono g6.same
    refine s_app (K := K) (cl := cl) (a := u) (us := us) (vs := us) (d := viewD (callF (legsF rs) (sidesF rs) h)) (M' := fun v => (u, .lst (us ++ [v])) :: M) g6.sep (ev_var (i := 3) rfl Rep.loc) .hd (ev_tup (ea_cons (p := true) (ev_fld (p := true) (d := refD h.id) (ev_var (i := 4) rfl rx6) (by walk_at "cf") (by walk_at "cf") rfl) (ea_cons (ev_ids (p := true) (rs := pathF (legsF rs) h) (ev_var (i := 5) rfl r5) (Nat.le_trans hll (by omega)) (fun _ => rfl) (fun _ => rfl)) (ea_cons (ev_call (R := R_law_beside) (ea_cons (p := true) (ev_var (i := 2) rfl (r23.mono (sx.trans g6.same))) (ea_cons (p := true) (ev_var (i := 5) rfl r5) ea_nil)) ⟨rs, pathF (legsF rs) h, rfl, ap, by omega, path_ids, rfl⟩) ea_nil))) (Nat.le_of_ble_eq_true rfl)) (fun v => .hd) (by rw [ru.length, List.length_map, List.length_map, List.length_take]; omega) ?_
    intro w7 G7 H7 s7 S7 r7
    refine ⟨G7, _, s5.trans (g6.same.trans s7), S7, _, _, us ++ [w7], rfl, rfl, ?_⟩
    rw [List.take_add_one, hc, List.map_append, List.map_append]
    exact (ru.mono (g6.same.trans s7)).append (Reps.one r7)
  rintro σ' G4 H4 M4 s4 S4 ⟨y4, y5, us, rfl, rfl, ru⟩
  rw [List.length_map, List.take_length] at ru
  have hjf : (headsF rs).map (callF (legsF rs) (sidesF rs)) = joinF rs := rfl
  rw [hjf] at ru
  obtain ⟨G5, s5, S5, rdue⟩ := S4.lst ru
  have r25 := r23.mono (s4.trans s5)
  obtain ⟨a, zs, rfl, sa, ra⟩ := r25.of_lst
  obtain ⟨as, rfl⟩ := reps_refs ra
  refine s_seq ?_
  refine s_asgG S5 (eg_listS (i := 2) rfl sa) ?_
  rintro _ G6 H6 M6 s6 S6 ⟨hM6, b, rfl, sb⟩
  subst M6
  have sa6 := s6.seq sa
  have ra6 := ra.mono s6
  have rgiven : Rep K cl G6 (.ref b) (.lst (rs.map Rec.d)) := Rep.lst sb ra6
  have rrec : Rep K cl G6 (.ref a) (.lst (rs.map Rec.d)) := Rep.lst sa6 ra6
  have rdue6 := rdue.mono s6
  have jv : ∀ {σ : St} {G' : Hp} {te : TE} {rs2 : List Rec} {p : Bool}, Same G6 G' → EvX K cl p te σ G' M (.lst (rs2.map Rec.d)) M → rs2.Perm rs → EvX K cl false (tCall (sp_law_view K cl) [] E0 (tCons (tCall (sp_join_calls K cl) [] E0 (tCons te tNil)) tNil)) σ G' M (.lst ((joinF rs).map viewD)) M := by
    intro σ G' te rs2 p s' hte hp
    have hj := join_perm ap hp.symm
    refine ev_call (K := K) (cl := cl) (p := false) (ds := [.lst ((joinF rs).map Call.d)]) (ea_cons (p := false) (ev_callG (K := K) (cl := cl) (p := p && true) (M1 := M) (M2 := M) (ds := [.lst (rs2.map Rec.d)]) (ea_cons hte ea_nil) ?_) ea_nil) ⟨joinF rs, rfl, by omega, fun c hc => ⟨by have := joinF_legs_len hc; omega, by have := joinF_sides hc; omega⟩, rfl⟩
    intro xs G'' T s'' rx hT
    obtain ⟨x0, rfl, e0⟩ := reps1 rx
    refine ⟨x0, rs2, rfl, e0, by rw [hp.length_eq]; omega, fun r hr => hok r (hp.mem_iff.mp hr), fun G3 w s3 rw3 => hT w G3 s3 ?_⟩
    rw [hj] at rw3
    exact rw3
  refine s_seq ?_
  refine s_if (K := K) (cl := cl) (b := false) S6 (EvT.is (et_or (p := false) (q := true) (a := false) (b := false) (EvT.is (et_test (ev_op (p := false) (q := true) (r := true) (jv (Same.refl _) (ev_var (i := 6) rfl rgiven) (List.Perm.refl _)) (ev_var (i := 3) rfl rdue6) (o_neD view_dat.1 view_dat.1 view_dat.2 view_dat.2))) (by rw [D.eqb_refl view_dat.1]; rfl)) fun _ => et_test (ev_neRefs (as := as) rfl rfl sb sa6)) rfl) (fun _ _ _ h => nomatch h) ?_
  intro G7 H7 g7 _
  refine s_next ?_
  refine s_ret (K := K) (cl := cl) (d := .bl true) (p := false) (M1 := M) g7.sep (EvX.is (ev_op (p := false) (q := true) (r := true) (jv g7.same (EvX.is (ev_rev (p := true) (ev_var (i := 2) rfl (rrec.mono g7.same))) (by rw [← List.map_reverse])) (List.reverse_perm rs)) (ev_var (i := 3) rfl (rdue6.mono g7.same)) (o_eqD view_dat.1 view_dat.1 view_dat.2 view_dat.2)) (by rw [D.eqb_refl view_dat.1])) fun w G8 H8 g8 r8 => ?_
  obtain rfl := r8.of_bl
  have sA := s1.trans (s2.trans (s3.trans (s4.trans (s5.trans (s6.trans (g7.same.trans g8.same))))))
  exact q G8 _ sA sA _ g8.sep
end
def sp_law0 (K : PySem.W.Frag) : Sp := fun vs H Q _ => ∃ (a : Addr) (ns : List Int), vs = [.ref a] ∧ SqL K H a (ns.map V.int) ∧ ns.length ≤ 63 ∧ ∀ H', Q (.bl true) H'
theorem sp_law_of [Wo] {K : PySem.W.Frag} {cl : Nat → Addr} {vs H Q E} (h : sp_law0 K vs H Q E) : sp_law K cl vs H Q E := by
  obtain ⟨a, ns, rfl, hS, hl, k⟩ := h
  exact ⟨H, [], Sep.nil, .ref a, ns, rfl, Rep.lst hS Reps.ints, fun G' M' _ _ H' _ => k H'⟩
local macro_rules | `(tactic| walk_at "ln") => `(tactic| (first
  | (rintro ⟨_, _, _, _, hR, _, rs, _⟩; rw [rs.length]; first | (obtain ⟨e, _⟩ := hR; rw [e]; exact rfl) | (obtain ⟨_, e, _⟩ := hR; rw [e]; exact rfl) | (obtain ⟨_, _, e, _⟩ := hR; rw [e]; exact rfl) | (obtain ⟨_, _, _, e, _⟩ := hR; rw [e]; exact rfl) | (obtain ⟨_, _, _, _, e, _⟩ := hR; rw [e]; exact rfl) | (obtain ⟨_, _, _, _, _, e, _⟩ := hR; rw [e]; exact rfl) | (obtain ⟨_, _, _, _, _, _, e, _⟩ := hR; rw [e]; exact rfl))
  | (rintro ⟨_, _, _, hR⟩; first | (obtain ⟨e, _⟩ := hR; rw [e]; exact rfl) | (obtain ⟨_, e, _⟩ := hR; rw [e]; exact rfl) | (obtain ⟨_, _, e, _⟩ := hR; rw [e]; exact rfl) | (obtain ⟨_, _, _, e, _⟩ := hR; rw [e]; exact rfl) | (obtain ⟨_, _, _, _, e, _⟩ := hR; rw [e]; exact rfl) | (obtain ⟨_, _, _, _, _, e, _⟩ := hR; rw [e]; exact rfl) | (obtain ⟨_, _, _, _, _, _, e, _⟩ := hR; rw [e]; exact rfl) | (obtain ⟨_, _, _, _, _, _, _, e, _⟩ := hR; rw [e]; exact rfl))
  | (rintro ⟨_, _, _, _, _, _, _, e0, hR, _, rs, _⟩; rw [e0, List.length_cons, rs.length]; first | (obtain ⟨hl, _⟩ := hR; rw [hl]; exact rfl) | (obtain ⟨e, _⟩ := hR; rw [e]; exact rfl) | (obtain ⟨_, e, _⟩ := hR; rw [e]; exact rfl) | (obtain ⟨_, _, e, _⟩ := hR; rw [e]; exact rfl) | (obtain ⟨_, _, _, e, _⟩ := hR; rw [e]; exact rfl) | (obtain ⟨_, _, _, _, e, _⟩ := hR; rw [e]; exact rfl))))
local macro_rules | `(tactic| walk_at "lnx") => `(tactic| first | (rintro ⟨e, _⟩; rw [e]; exact rfl) | (rintro ⟨_, h⟩; revert h; walk_at "lnx"))
local macro_rules | `(tactic| walk_at "ln") => `(tactic| (rintro ⟨_, _, _, hR⟩; revert hR; walk_at "lnx"))
def top (i : Nat) : Stmt := PySem.Challenge.pw_copperline_k77_calls_joined.main.body.getD i (.Pass ⟨0, 0, 0, 0⟩)
abbrev s_JoinedCall_init : Stmt := inClass (top 4) 0
theorem sc_JoinedCall_init : FnScope ["self", "head", "path", "sides"] ["self", "head", "path", "sides"] (defScope s_JoinedCall_init) := ⟨rfl, rfl, rfl, by decide +kernel, rfl, by decide +kernel, by decide +kernel⟩
abbrev s_id_of : Stmt := top 5
theorem sc_id_of : FnScope ["record"] ["record"] (defScope s_id_of) := ⟨rfl, rfl, rfl, by decide +kernel, rfl, by decide +kernel, by decide +kernel⟩
abbrev s_head_place : Stmt := top 6
theorem sc_head_place : FnScope ["record"] ["record"] (defScope s_head_place) := ⟨rfl, rfl, rfl, by decide +kernel, rfl, by decide +kernel, by decide +kernel⟩
abbrev s_next_leg : Stmt := top 9
theorem sc_next_leg : FnScope ["legs", "reference", "used", "record"] ["legs", "reference", "used"] (defScope s_next_leg) := ⟨rfl, rfl, rfl, by decide +kernel, rfl, by decide +kernel, by decide +kernel⟩
abbrev s_Record_init : Stmt := inClass (top 13) 0
theorem sc_Record_init : FnScope ["self", "call_id", "role", "caller", "called", "payer", "came", "went", "parent", "opened_at"] ["self", "call_id", "role", "caller", "called", "payer", "came", "went", "parent", "opened_at"] (defScope s_Record_init) := ⟨rfl, rfl, rfl, by decide +kernel, rfl, by decide +kernel, by decide +kernel⟩
abbrev s_Record_is_open : Stmt := inClass (top 13) 1
theorem sc_Record_is_open : FnScope ["self"] ["self"] (defScope s_Record_is_open) := ⟨rfl, rfl, rfl, by decide +kernel, rfl, by decide +kernel, by decide +kernel⟩
abbrev s_close_record : Stmt := top 15
theorem sc_close_record : FnScope ["record", "cause", "at"] ["record", "cause", "at"] (defScope s_close_record) := ⟨rfl, rfl, rfl, by decide +kernel, rfl, by decide +kernel, by decide +kernel⟩
abbrev s_law_cell : Stmt := top 20
theorem sc_law_cell : FnScope ["script", "k"] ["script", "k"] (defScope s_law_cell) := ⟨rfl, rfl, rfl, by decide +kernel, rfl, by decide +kernel, by decide +kernel⟩
abbrev s_law_state : Stmt := top 21
theorem sc_law_state : FnScope ["cell", "k", "prime", "first", "second", "third", "fourth"] ["cell", "k"] (defScope s_law_state) := ⟨rfl, rfl, rfl, by decide +kernel, rfl, by decide +kernel, by decide +kernel⟩
abbrev s_law_digit : Stmt := top 22
theorem sc_law_digit : FnScope ["state", "many", "digit"] ["state", "many"] (defScope s_law_digit) := ⟨rfl, rfl, rfl, by decide +kernel, rfl, by decide +kernel, by decide +kernel⟩
abbrev s_law_take : Stmt := top 23
theorem sc_law_take : FnScope ["counts", "place"] ["counts", "place"] (defScope s_law_take) := ⟨rfl, rfl, rfl, by decide +kernel, rfl, by decide +kernel, by decide +kernel⟩
abbrev s_law_role : Stmt := top 25
theorem sc_law_role : FnScope ["k", "legs"] ["k", "legs"] (defScope s_law_role) := ⟨rfl, rfl, rfl, by decide +kernel, rfl, by decide +kernel, by decide +kernel⟩
abbrev s_law_way : Stmt := top 32
theorem sc_law_way : FnScope ["records", "head", "way", "k", "best", "record", "used", "fits"] ["records", "head"] (defScope s_law_way) := ⟨rfl, rfl, rfl, by decide +kernel, rfl, by decide +kernel, by decide +kernel⟩
abbrev s_law_beside : Stmt := top 33
theorem sc_law_beside : FnScope ["records", "way", "found", "leg", "side"] ["records", "way"] (defScope s_law_beside) := ⟨rfl, rfl, rfl, by decide +kernel, rfl, by decide +kernel, by decide +kernel⟩
abbrev s_law_heads : Stmt := top 34
theorem sc_law_heads : FnScope ["records", "heads", "found", "row", "record"] ["records"] (defScope s_law_heads) := ⟨rfl, rfl, rfl, by decide +kernel, rfl, by decide +kernel, by decide +kernel⟩
abbrev s_law_view : Stmt := top 36
theorem sc_law_view : FnScope ["calls", "rows", "call", "leg", "side"] ["calls"] (defScope s_law_view) := ⟨rfl, rfl, rfl, by decide +kernel, rfl, by decide +kernel, by decide +kernel⟩
abbrev s_path_of : Stmt := top 10
theorem sc_path_of : FnScope ["head", "legs", "path", "used", "leg"] ["head", "legs"] (defScope s_path_of) := ⟨rfl, rfl, rfl, by decide +kernel, rfl, by decide +kernel, by decide +kernel⟩
abbrev s_belongs : Stmt := top 14
theorem sc_belongs : FnScope ["record", "call_id"] ["record", "call_id"] (defScope s_belongs) := ⟨rfl, rfl, rfl, by decide +kernel, rfl, by decide +kernel, by decide +kernel⟩
abbrev s_law_time : Stmt := top 24
theorem sc_law_time : FnScope ["state", "clocks", "place"] ["state", "clocks", "place"] (defScope s_law_time) := ⟨rfl, rfl, rfl, by decide +kernel, rfl, by decide +kernel, by decide +kernel⟩
abbrev s_law_shuffled : Stmt := top 30
theorem sc_law_shuffled : FnScope ["script", "things", "left", "found", "k", "state", "place"] ["script", "things"] (defScope s_law_shuffled) := ⟨rfl, rfl, rfl, by decide +kernel, rfl, by decide +kernel, by decide +kernel⟩
abbrev s_law_noise : Stmt := top 35
theorem sc_law_noise : FnScope ["script", "logs", "circuits", "log", "found", "k", "state", "place", "circuit", "went", "role", "now", "entry"] ["script", "logs"] (defScope s_law_noise) := ⟨rfl, rfl, rfl, by decide +kernel, rfl, by decide +kernel, by decide +kernel⟩
abbrev s_law_large : Stmt := top 37
theorem sc_law_large : FnScope ["script"] ["script"] (defScope s_law_large) := ⟨rfl, rfl, rfl, by decide +kernel, rfl, by decide +kernel, by decide +kernel⟩
abbrev s_record_from : Stmt := top 16
theorem sc_record_from : FnScope ["entry", "_", "call_id", "role", "caller", "called", "payer", "came", "went", "parent", "at"] ["entry"] (defScope s_record_from) := ⟨rfl, rfl, rfl, by decide +kernel, rfl, by decide +kernel, by decide +kernel⟩
abbrev s_law_open : Stmt := top 26
theorem sc_law_open : FnScope ["state", "world", "place", "role", "caller", "came", "went", "logs", "clocks", "counts", "lives", "now", "found", "payer", "called", "k", "line", "aside", "onward"] ["state", "world", "place", "role", "caller", "came", "went"] (defScope s_law_open) := ⟨rfl, rfl, rfl, by decide +kernel, rfl, by decide +kernel, by decide +kernel⟩
abbrev s_law_close : Stmt := top 27
theorem sc_law_close : FnScope ["state", "world", "place", "found", "logs", "clocks", "counts", "lives", "kind", "now"] ["state", "world", "place", "found"] (defScope s_law_close) := ⟨rfl, rfl, rfl, by decide +kernel, rfl, by decide +kernel, by decide +kernel⟩
abbrev s_legs_by_circuit : Stmt := top 7
theorem sc_legs_by_circuit : FnScope ["records", "found", "record"] ["records"] (defScope s_legs_by_circuit) := ⟨rfl, rfl, rfl, by decide +kernel, rfl, by decide +kernel, by decide +kernel⟩
abbrev s_sides_by_parent : Stmt := top 8
theorem sc_sides_by_parent : FnScope ["records", "found", "record"] ["records"] (defScope s_sides_by_parent) := ⟨rfl, rfl, rfl, by decide +kernel, rfl, by decide +kernel, by decide +kernel⟩
abbrev s_fold_entry : Stmt := top 17
theorem sc_fold_entry : FnScope ["records", "entry", "kind", "record"] ["records", "entry"] (defScope s_fold_entry) := ⟨rfl, rfl, rfl, by decide +kernel, rfl, by decide +kernel, by decide +kernel⟩
abbrev s_law_call : Stmt := top 28
theorem sc_law_call : FnScope ["state", "world", "j", "legs", "place", "caller", "came", "opened", "k", "went", "found", "seconds", "spot", "booted"] ["state", "world", "j"] (defScope s_law_call) := ⟨rfl, rfl, rfl, by decide +kernel, rfl, by decide +kernel, by decide +kernel⟩
abbrev s_join_calls : Stmt := top 11
theorem sc_join_calls : FnScope ["records", "legs", "sides", "calls", "record", "head", "path", "beside"] ["records"] (defScope s_join_calls) := ⟨rfl, rfl, rfl, by decide +kernel, rfl, by decide +kernel, by decide +kernel⟩
abbrev s_records_of : Stmt := top 18
theorem sc_records_of : FnScope ["entries", "records", "entry"] ["entries"] (defScope s_records_of) := ⟨rfl, rfl, rfl, by decide +kernel, rfl, by decide +kernel, by decide +kernel⟩
abbrev s_law_logs : Stmt := top 29
theorem sc_law_logs : FnScope ["script", "first", "many", "world", "j", "k"] ["script", "first", "many"] (defScope s_law_logs) := ⟨rfl, rfl, rfl, by decide +kernel, rfl, by decide +kernel, by decide +kernel⟩
abbrev s_law_records : Stmt := top 31
theorem sc_law_records : FnScope ["script", "logs", "records", "k", "state", "many"] ["script", "logs"] (defScope s_law_records) := ⟨rfl, rfl, rfl, by decide +kernel, rfl, by decide +kernel, by decide +kernel⟩
abbrev s_law : Stmt := top 38
theorem sc_law : FnScope ["script", "logs", "records", "due", "head", "way", "given", "leg"] ["script"] (defScope s_law) := ⟨rfl, rfl, rfl, by decide +kernel, rfl, by decide +kernel, by decide +kernel⟩
abbrev pFile : Str := "/claim/cut.py"
structure Tx (K : PySem.W.Frag) (mg : Str → Option Value) (fn : Nat → Addr) (fd : Nat → FuncData) (cl : Nat → Addr) : Prop where
  F_JoinedCall_init : Fun K "__init__" "JoinedCall.__init__" s_JoinedCall_init (fn 1) (fd 1)
  b_JoinedCall_init : Binds K (fd 1) ["self", "head", "path", "sides"] []
  F_id_of : Fun K "id_of" "id_of" s_id_of (fn 4) (fd 4)
  b_id_of : Binds K (fd 4) ["record"] []
  m_id_of : mg "id_of" = some (.ref (fn 4))
  F_head_place : Fun K "head_place" "head_place" s_head_place (fn 5) (fd 5)
  b_head_place : Binds K (fd 5) ["record"] []
  m_head_place : mg "head_place" = some (.ref (fn 5))
  F_legs_by_circuit : Fun K "legs_by_circuit" "legs_by_circuit" s_legs_by_circuit (fn 6) (fd 6)
  b_legs_by_circuit : Binds K (fd 6) ["records"] []
  m_legs_by_circuit : mg "legs_by_circuit" = some (.ref (fn 6))
  F_sides_by_parent : Fun K "sides_by_parent" "sides_by_parent" s_sides_by_parent (fn 7) (fd 7)
  b_sides_by_parent : Binds K (fd 7) ["records"] []
  m_sides_by_parent : mg "sides_by_parent" = some (.ref (fn 7))
  F_next_leg : Fun K "next_leg" "next_leg" s_next_leg (fn 8) (fd 8)
  b_next_leg : Binds K (fd 8) ["legs", "reference", "used"] []
  m_next_leg : mg "next_leg" = some (.ref (fn 8))
  F_path_of : Fun K "path_of" "path_of" s_path_of (fn 9) (fd 9)
  b_path_of : Binds K (fd 9) ["head", "legs"] []
  m_path_of : mg "path_of" = some (.ref (fn 9))
  F_join_calls : Fun K "join_calls" "join_calls" s_join_calls (fn 10) (fd 10)
  b_join_calls : Binds K (fd 10) ["records"] []
  m_join_calls : mg "join_calls" = some (.ref (fn 10))
  F_Record_init : Fun K "__init__" "Record.__init__" s_Record_init (fn 11) (fd 11)
  b_Record_init : Binds K (fd 11) ["self", "call_id", "role", "caller", "called", "payer", "came", "went", "parent", "opened_at"] []
  F_Record_is_open : Fun K "is_open" "Record.is_open" s_Record_is_open (fn 12) (fd 12)
  b_Record_is_open : Binds K (fd 12) ["self"] []
  meth_Record_is_open : Meth K (cl 1) "is_open" (fn 12)
  F_belongs : Fun K "belongs" "belongs" s_belongs (fn 14) (fd 14)
  b_belongs : Binds K (fd 14) ["record", "call_id"] []
  m_belongs : mg "belongs" = some (.ref (fn 14))
  F_close_record : Fun K "close_record" "close_record" s_close_record (fn 15) (fd 15)
  b_close_record : Binds K (fd 15) ["record", "cause", "at"] []
  m_close_record : mg "close_record" = some (.ref (fn 15))
  F_record_from : Fun K "record_from" "record_from" s_record_from (fn 16) (fd 16)
  b_record_from : Binds K (fd 16) ["entry"] []
  m_record_from : mg "record_from" = some (.ref (fn 16))
  F_fold_entry : Fun K "fold_entry" "fold_entry" s_fold_entry (fn 17) (fd 17)
  b_fold_entry : Binds K (fd 17) ["records", "entry"] []
  m_fold_entry : mg "fold_entry" = some (.ref (fn 17))
  F_records_of : Fun K "records_of" "records_of" s_records_of (fn 18) (fd 18)
  b_records_of : Binds K (fd 18) ["entries"] []
  m_records_of : mg "records_of" = some (.ref (fn 18))
  F_law_cell : Fun K "_law_cell" "_law_cell" s_law_cell (fn 19) (fd 19)
  b_law_cell : Binds K (fd 19) ["script", "k"] []
  m_law_cell : mg "_law_cell" = some (.ref (fn 19))
  F_law_state : Fun K "_law_state" "_law_state" s_law_state (fn 20) (fd 20)
  b_law_state : Binds K (fd 20) ["cell", "k"] []
  m_law_state : mg "_law_state" = some (.ref (fn 20))
  F_law_digit : Fun K "_law_digit" "_law_digit" s_law_digit (fn 21) (fd 21)
  b_law_digit : Binds K (fd 21) ["state", "many"] []
  m_law_digit : mg "_law_digit" = some (.ref (fn 21))
  F_law_take : Fun K "_law_take" "_law_take" s_law_take (fn 22) (fd 22)
  b_law_take : Binds K (fd 22) ["counts", "place"] []
  m_law_take : mg "_law_take" = some (.ref (fn 22))
  F_law_time : Fun K "_law_time" "_law_time" s_law_time (fn 23) (fd 23)
  b_law_time : Binds K (fd 23) ["state", "clocks", "place"] []
  m_law_time : mg "_law_time" = some (.ref (fn 23))
  F_law_role : Fun K "_law_role" "_law_role" s_law_role (fn 24) (fd 24)
  b_law_role : Binds K (fd 24) ["k", "legs"] []
  m_law_role : mg "_law_role" = some (.ref (fn 24))
  F_law_open : Fun K "_law_open" "_law_open" s_law_open (fn 25) (fd 25)
  b_law_open : Binds K (fd 25) ["state", "world", "place", "role", "caller", "came", "went"] []
  m_law_open : mg "_law_open" = some (.ref (fn 25))
  F_law_close : Fun K "_law_close" "_law_close" s_law_close (fn 26) (fd 26)
  b_law_close : Binds K (fd 26) ["state", "world", "place", "found"] []
  m_law_close : mg "_law_close" = some (.ref (fn 26))
  F_law_call : Fun K "_law_call" "_law_call" s_law_call (fn 27) (fd 27)
  b_law_call : Binds K (fd 27) ["state", "world", "j"] []
  m_law_call : mg "_law_call" = some (.ref (fn 27))
  F_law_logs : Fun K "_law_logs" "_law_logs" s_law_logs (fn 28) (fd 28)
  b_law_logs : Binds K (fd 28) ["script", "first", "many"] []
  m_law_logs : mg "_law_logs" = some (.ref (fn 28))
  F_law_shuffled : Fun K "_law_shuffled" "_law_shuffled" s_law_shuffled (fn 29) (fd 29)
  b_law_shuffled : Binds K (fd 29) ["script", "things"] []
  m_law_shuffled : mg "_law_shuffled" = some (.ref (fn 29))
  F_law_records : Fun K "_law_records" "_law_records" s_law_records (fn 30) (fd 30)
  b_law_records : Binds K (fd 30) ["script", "logs"] []
  m_law_records : mg "_law_records" = some (.ref (fn 30))
  F_law_way : Fun K "_law_way" "_law_way" s_law_way (fn 31) (fd 31)
  b_law_way : Binds K (fd 31) ["records", "head"] []
  m_law_way : mg "_law_way" = some (.ref (fn 31))
  F_law_beside : Fun K "_law_beside" "_law_beside" s_law_beside (fn 32) (fd 32)
  b_law_beside : Binds K (fd 32) ["records", "way"] []
  m_law_beside : mg "_law_beside" = some (.ref (fn 32))
  F_law_heads : Fun K "_law_heads" "_law_heads" s_law_heads (fn 33) (fd 33)
  b_law_heads : Binds K (fd 33) ["records"] []
  m_law_heads : mg "_law_heads" = some (.ref (fn 33))
  F_law_noise : Fun K "_law_noise" "_law_noise" s_law_noise (fn 34) (fd 34)
  b_law_noise : Binds K (fd 34) ["script", "logs"] []
  m_law_noise : mg "_law_noise" = some (.ref (fn 34))
  F_law_view : Fun K "_law_view" "_law_view" s_law_view (fn 35) (fd 35)
  b_law_view : Binds K (fd 35) ["calls"] []
  m_law_view : mg "_law_view" = some (.ref (fn 35))
  F_law_large : Fun K "_law_large" "_law_large" s_law_large (fn 36) (fd 36)
  b_law_large : Binds K (fd 36) ["script"] []
  m_law_large : mg "_law_large" = some (.ref (fn 36))
  F_law : Fun K "law" "law" s_law (fn 37) (fd 37)
  b_law : Binds K (fd 37) ["script"] []
  m_law : mg "law" = some (.ref (fn 37))
  cf : Cf K cl
  m_JoinedCall : mg "JoinedCall" = some (.ref (cl 0))
  mk_JoinedCall : Mk K (cl 0) (fn 1)
  m_Record : mg "Record" = some (.ref (cl 1))
  mk_Record : Mk K (cl 1) (fn 11)
  z_int : mg "int" = none
  z_len : mg "len" = none
  z_list : mg "list" = none
  z_range : mg "range" = none
  z_sorted : mg "sorted" = none
  z_str : mg "str" = none
  g_HEAD_ROLES : mg "HEAD_ROLES" = some (.ref (cl 2))
  g_LEG_ROLES : mg "LEG_ROLES" = some (.ref (cl 3))
section
variable {P : Program} {w : World} {K : PySem.W.Frag} {mg : Str → Option Value} {base : Heap} {fn : Nat → Addr} {fd : Nat → FuncData} {cl : Nat → Addr}
theorem ok_JoinedCall_init (T : Tx K mg fn fd cl) : letI : Wo := ⟨P, w⟩; FnOk P w K mg base CX0 1 (fn 1) (fd 1) ["self", "head", "path", "sides"] (sp_JoinedCall_init K cl) := by
  haveI := T.cf
  letI : Wo := ⟨P, w⟩
  refine T.F_JoinedCall_init.ok sc_JoinedCall_init (fun vs H Q E h => by revert h; walk_at "ln") (fun cdv A outer s H vs Q E hr h => ⟨t_JoinedCall_init K cl, ?_, rd_JoinedCall_init h⟩)
  exact (pss_cons (ps_fld (pv 0) (pv 1) rfl) (pss_cons (ps_fld (pv 0) (pe_callTy call_list_of (by rfl) T.z_list (by decide +kernel) (pa_cons (pv 2) pa_nil)) rfl) (pss_one (ps_fld (pv 0) (pe_callTy call_list_of (by rfl) T.z_list (by decide +kernel) (pa_cons (pv 3) pa_nil)) rfl))))
theorem ok_id_of (T : Tx K mg fn fd cl) : letI : Wo := ⟨P, w⟩; FnOk P w K mg base CX0 1 (fn 4) (fd 4) ["record"] (sp_id_of K cl) := by
  haveI := T.cf
  letI : Wo := ⟨P, w⟩
  refine T.F_id_of.ok sc_id_of (fun vs H Q E h => by revert h; walk_at "ln") (fun cdv A outer s H vs Q E hr h => ⟨t_id_of K cl, ?_, rd_id_of h⟩)
  exact (pss_one (ps_ret (pe_fld (pv 0) rfl)))
theorem ok_head_place (T : Tx K mg fn fd cl) : letI : Wo := ⟨P, w⟩; FnOk P w K mg base CX0 1 (fn 5) (fd 5) ["record"] (sp_head_place K cl) := by
  haveI := T.cf
  letI : Wo := ⟨P, w⟩
  refine T.F_head_place.ok sc_head_place (fun vs H Q E h => by revert h; walk_at "ln") (fun cdv A outer s H vs Q E hr h => ⟨t_head_place K cl, ?_, rd_head_place h⟩)
  exact (pss_one (ps_ret (pe_tup (pa_cons (pe_fld (pv 0) rfl) (pa_cons (pe_fld (pv 0) rfl) pa_nil)))))
theorem ok_next_leg (T : Tx K mg fn fd cl) : letI : Wo := ⟨P, w⟩; FnOk P w K mg base CX0 1 (fn 8) (fd 8) ["legs", "reference", "used"] (sp_next_leg K cl) := by
  haveI := T.cf
  letI : Wo := ⟨P, w⟩
  refine T.F_next_leg.ok sc_next_leg (fun vs H Q E h => by revert h; walk_at "ln") (fun cdv A outer s H vs Q E hr h => ⟨t_next_leg K cl, ?_, rd_next_leg h⟩)
  exact (pss_cons (ps_if (pt_cmpR op_isN (pv 1) (pe_non) (nomark _)) (pss_one (ps_ret (pe_non))) pss_nil) (pss_cons (ps_for PassesOwn.never rfl (pi_seq (pe_get2 hr.units (pv 0) (pv 1) (pe_lst pa_nil) ⟨rfl, rfl, rfl, rfl⟩)) (pg_name (i := 3) sc_next_leg.nd rfl (.inl rfl)) (pss_one (ps_if (pt_cmpR (op_notInA hr.units) (pe_fld (pv 3) rfl) (pv 2) (by rfl)) (pss_one (ps_ret (pv 3))) pss_nil))) (pss_one (ps_ret (pe_non)))))
theorem ok_Record_init (T : Tx K mg fn fd cl) : letI : Wo := ⟨P, w⟩; FnOk P w K mg base CX0 1 (fn 11) (fd 11) ["self", "call_id", "role", "caller", "called", "payer", "came", "went", "parent", "opened_at"] (sp_Record_init K cl) := by
  haveI := T.cf
  letI : Wo := ⟨P, w⟩
  refine T.F_Record_init.ok sc_Record_init (fun vs H Q E h => by revert h; walk_at "ln") (fun cdv A outer s H vs Q E hr h => ⟨t_Record_init K cl, ?_, rd_Record_init h⟩)
  exact (pss_cons (ps_fld (pv 0) (pv 1) rfl) (pss_cons (ps_fld (pv 0) (pv 2) rfl) (pss_cons (ps_fld (pv 0) (pv 3) rfl) (pss_cons (ps_fld (pv 0) (pv 4) rfl) (pss_cons (ps_fld (pv 0) (pv 5) rfl) (pss_cons (ps_fld (pv 0) (pv 6) rfl) (pss_cons (ps_fld (pv 0) (pv 7) rfl) (pss_cons (ps_fld (pv 0) (pv 8) rfl) (pss_cons (ps_fld (pv 0) (pv 9) rfl) (pss_cons (ps_fld (pv 0) (pe_int) rfl) (pss_cons (ps_fld (pv 0) (pe_non) rfl) (pss_one (ps_fld (pv 0) (pe_non) rfl)))))))))))))
theorem ok_Record_is_open (T : Tx K mg fn fd cl) : letI : Wo := ⟨P, w⟩; FnOk P w K mg base CX0 1 (fn 12) (fd 12) ["self"] (sp_Record_is_open K cl) := by
  haveI := T.cf
  letI : Wo := ⟨P, w⟩
  refine T.F_Record_is_open.ok sc_Record_is_open (fun vs H Q E h => by revert h; walk_at "ln") (fun cdv A outer s H vs Q E hr h => ⟨t_Record_is_open K cl, ?_, rd_Record_is_open h⟩)
  exact (pss_one (ps_ret (pe_cmpR op_isN (pe_fld (pv 0) rfl) (pe_non) (nomark _))))
theorem ok_close_record (T : Tx K mg fn fd cl) : letI : Wo := ⟨P, w⟩; FnOk P w K mg base CX0 1 (fn 15) (fd 15) ["record", "cause", "at"] (sp_close_record K cl) := by
  haveI := T.cf
  letI : Wo := ⟨P, w⟩
  refine T.F_close_record.ok sc_close_record (fun vs H Q E h => by revert h; walk_at "ln") (fun cdv A outer s H vs Q E hr h => ⟨t_close_record K cl, ?_, rd_close_record h⟩)
  exact (pss_cons (ps_fld (pv 0) (pv 2) rfl) (pss_one (ps_fld (pv 0) (pv 1) rfl)))
theorem ok_law_cell (T : Tx K mg fn fd cl) : letI : Wo := ⟨P, w⟩; FnOk P w K mg base CX0 1 (fn 19) (fd 19) ["script", "k"] (sp_law_cell K cl) := by
  haveI := T.cf
  letI : Wo := ⟨P, w⟩
  refine T.F_law_cell.ok sc_law_cell (fun vs H Q E h => by revert h; walk_at "ln") (fun cdv A outer s H vs Q E hr h => ⟨t_law_cell K cl, ?_, rd_law_cell h⟩)
  exact (pss_cons (ps_if (pt_cmpR op_lt (pv 1) (pe_callB call_len (by rfl) T.z_len (by decide +kernel) (pa_cons (pv 0) pa_nil)) (nomark _)) (pss_one (ps_ret (pe_ix ix_seq (pv 0) (pv 1) (fun _ _ => rfl)))) pss_nil) (pss_one (ps_ret (pe_int))))
theorem ok_law_state (T : Tx K mg fn fd cl) : letI : Wo := ⟨P, w⟩; FnOk P w K mg base CX0 1 (fn 20) (fd 20) ["cell", "k"] (sp_law_state K cl) := by
  haveI := T.cf
  letI : Wo := ⟨P, w⟩
  refine T.F_law_state.ok sc_law_state (fun vs H Q E h => by revert h; walk_at "ln") (fun cdv A outer s H vs Q E hr h => ⟨t_law_state K cl, ?_, rd_law_state h⟩)
  exact (pss_cons (ps_if (pt_cmpR op_ge (pv 0) (pe_int) (nomark _)) (pss_one (ps_ret (pe_lst (pa_cons (pv 0) pa_nil)))) pss_nil) (pss_cons (ps_set (i := 2) sc_law_state.nd rfl (.inl rfl) (pe_int)) (pss_cons (ps_set (i := 3) sc_law_state.nd rfl (.inl rfl) (pe_op op_mod (pe_callTy call_int1 (by rfl) T.z_int (by decide +kernel) (pa_cons (pe_op op_addA (pe_op op_addA (pe_op op_mul (pv 0) (pe_int)) (pe_op op_mul (pe_op op_addA (pv 1) (pe_int)) (pe_int))) (pe_int)) pa_nil)) (pv 2))) (pss_cons (ps_set (i := 4) sc_law_state.nd rfl (.inl rfl) (pe_op op_mod (pe_callTy call_int1 (by rfl) T.z_int (by decide +kernel) (pa_cons (pe_op op_addA (pe_op op_addA (pe_op op_mul (pv 3) (pv 3)) (pe_op op_mul (pe_int) (pv 3))) (pv 1)) pa_nil)) (pv 2))) (pss_cons (ps_set (i := 5) sc_law_state.nd rfl (.inl rfl) (pe_op op_mod (pe_callTy call_int1 (by rfl) T.z_int (by decide +kernel) (pa_cons (pe_op op_addA (pe_op op_addA (pe_op op_mul (pv 4) (pe_int)) (pe_op op_mul (pv 3) (pe_int))) (pe_int)) pa_nil)) (pv 2))) (pss_cons (ps_set (i := 6) sc_law_state.nd rfl (.inl rfl) (pe_op op_mod (pe_callTy call_int1 (by rfl) T.z_int (by decide +kernel) (pa_cons (pe_op op_addA (pe_op op_mul (pv 5) (pv 5)) (pv 4)) pa_nil)) (pv 2))) (pss_one (ps_ret (pe_lst (pa_cons (pe_op op_addA (pe_op op_mul (pe_op op_addA (pe_op op_mul (pe_op op_addA (pe_op op_mul (pv 6) (pv 2)) (pv 5)) (pv 2)) (pv 4)) (pv 2)) (pv 3)) pa_nil))))))))))
theorem ok_law_digit (T : Tx K mg fn fd cl) : letI : Wo := ⟨P, w⟩; FnOk P w K mg base CX0 1 (fn 21) (fd 21) ["state", "many"] (sp_law_digit K cl) := by
  haveI := T.cf
  letI : Wo := ⟨P, w⟩
  refine T.F_law_digit.ok sc_law_digit (fun vs H Q E h => by revert h; walk_at "ln") (fun cdv A outer s H vs Q E hr h => ⟨t_law_digit K cl, ?_, rd_law_digit h⟩)
  exact (pss_cons (ps_set (i := 2) sc_law_digit.nd rfl (.inl rfl) (pe_op op_mod (pe_callTy call_int1 (by rfl) T.z_int (by decide +kernel) (pa_cons (pe_ix ix_seq (pv 0) (pe_int) (fun _ _ => rfl)) pa_nil)) (pv 1))) (pss_cons (ps_asg (pe_op op_fdiv (pe_ix ix_seq (pv 0) (pe_int) (fun _ _ => rfl)) (pv 1)) (pg_sub (pv 0) (pe_int) set_list)) (pss_one (ps_ret (pv 2)))))
theorem ok_law_take (T : Tx K mg fn fd cl) : letI : Wo := ⟨P, w⟩; FnOk P w K mg base CX0 1 (fn 22) (fd 22) ["counts", "place"] (sp_law_take K cl) := by
  haveI := T.cf
  letI : Wo := ⟨P, w⟩
  refine T.F_law_take.ok sc_law_take (fun vs H Q E h => by revert h; walk_at "ln") (fun cdv A outer s H vs Q E hr h => ⟨t_law_take K cl, ?_, rd_law_take h⟩)
  exact (pss_cons (ps_asg (pe_op op_addA (pe_ix ix_seq (pv 0) (pv 1) (fun _ _ => rfl)) (pe_int)) (pg_sub (pv 0) (pv 1) set_list)) (pss_one (ps_ret (pe_tup (pa_cons (pv 1) (pa_cons (pe_int) (pa_cons (pe_op op_sub (pe_ix ix_seq (pv 0) (pv 1) (fun _ _ => rfl)) (pe_int)) pa_nil)))))))
theorem ok_law_role (T : Tx K mg fn fd cl) : letI : Wo := ⟨P, w⟩; FnOk P w K mg base CX0 1 (fn 24) (fd 24) ["k", "legs"] (sp_law_role K cl) := by
  haveI := T.cf
  letI : Wo := ⟨P, w⟩
  refine T.F_law_role.ok sc_law_role (fun vs H Q E h => by revert h; walk_at "ln") (fun cdv A outer s H vs Q E hr h => ⟨t_law_role K cl, ?_, rd_law_role h⟩)
  exact (pss_cons (ps_if (pt_cmpR (op_eqA hr.units) (pv 1) (pe_int) (nomark _)) (pss_one (ps_ret (pe_str))) pss_nil) (pss_cons (ps_if (pt_cmpR (op_eqA hr.units) (pv 0) (pe_int) (nomark _)) (pss_one (ps_ret (pe_str))) pss_nil) (pss_cons (ps_if (pt_cmpR (op_eqA hr.units) (pv 0) (pe_op op_sub (pv 1) (pe_int)) (nomark _)) (pss_one (ps_ret (pe_str))) pss_nil) (pss_one (ps_ret (pe_str))))))
theorem ok_law_way (T : Tx K mg fn fd cl) : letI : Wo := ⟨P, w⟩; FnOk P w K mg base CX0 1 (fn 31) (fd 31) ["records", "head"] (sp_law_way K cl) := by
  haveI := T.cf
  letI : Wo := ⟨P, w⟩
  refine T.F_law_way.ok sc_law_way (fun vs H Q E h => by revert h; walk_at "ln") (fun cdv A outer s H vs Q E hr h => ⟨t_law_way K cl, ?_, rd_law_way h⟩)
  exact (pss_cons (ps_set (i := 2) sc_law_way.nd rfl (.inl rfl) (pe_lst (pa_cons (pv 1) pa_nil))) (pss_cons (ps_for PassesOwn.never rfl (pi_range1 (by rfl) T.z_range (pa_cons (pe_callB call_len (by rfl) T.z_len (by decide +kernel) (pa_cons (pv 0) pa_nil)) pa_nil)) (pg_name (i := 3) sc_law_way.nd rfl (.inl rfl)) (pss_cons (ps_set (i := 4) sc_law_way.nd rfl (.inl rfl) (pe_non)) (pss_cons (ps_setLc (i := 6) (own := [("record", 5)]) rfl sc_law_way.nd rfl rfl (sw_true rfl rfl rfl (by decide +kernel)) (pi_seq (pv 2)) (blkOk_by (own := [("record", 5)]) (N := ["records", "head", "way", "k", "best", "record", "used", "fits"]) (sc := defScope s_law_way) (by decide +kernel)) (fun _ _ _ _ _ => (pg_name (i := 5) sc_law_way.nd rfl (.inl rfl))) (fun _ _ _ _ _ => pts_nil) (fun _ _ _ _ _ => (pe_fld (pv 5) rfl))) (pss_cons (ps_for PassesOwn.never rfl (pi_seq (pv 0)) (pg_name (i := 5) sc_law_way.nd rfl (.inl rfl)) (pss_cons (ps_set (i := 7) sc_law_way.nd rfl (.inl rfl) ((pe_and (pe_cmpR op_in_seq (pe_fld (pv 5) rfl) (pe_tup (pa_cons (pe_str) (pa_cons (pe_str) pa_nil))) (by rfl)) (pe_one (pe_cmpR (op_eqA hr.units) (pe_fld (pv 5) rfl) (pe_fld (pe_ix ix_seq (pv 2) (pe_un un_neg (pe_int)) (fun _ _ => rfl)) rfl) (nomark _)))))) (pss_one (ps_if (PW.pt (pw_and (pt_tr (pv 7)) (pw_and (pt_cmpR op_notN (pe_fld (pe_ix ix_seq (pv 2) (pe_un un_neg (pe_int)) (fun _ _ => rfl)) rfl) (pe_non) (nomark _)) (pw_and1 (pt_cmpR (op_notInD (units65 hr)) (pe_fld (pv 5) rfl) (pv 6) (by rfl)))))) (pss_one (ps_if (PW.pt (pw_or (pt_cmpR op_isN (pv 4) (pe_non) (nomark _)) (pw_or1 (pt_cmpR (op_ltT (Nat.lt_of_le_of_lt (Nat.le_add_right _ 65) (units65 hr))) (pe_fld (pv 5) rfl) (pe_fld (pv 4) rfl) (nomark _))))) (pss_one (ps_set (i := 4) sc_law_way.nd rfl (.inl rfl) (pv 5))) pss_nil)) pss_nil)))) (pss_cons (ps_if (pt_cmpR op_isN (pv 4) (pe_non) (nomark _)) (pss_one (ps_ret (pv 2))) pss_nil) (pss_one (ps_expr (pe_bm PySem.F.plainAttrs_list PySem.F.slot_list_append PySem.F.type_list_append mt_append (pv 2) (pa_cons (pv 4) pa_nil))))))))) (pss_one (ps_ret (pv 2)))))
theorem ok_law_beside (T : Tx K mg fn fd cl) : letI : Wo := ⟨P, w⟩; FnOk P w K mg base CX0 1 (fn 32) (fd 32) ["records", "way"] (sp_law_beside K cl) := by
  haveI := T.cf
  letI : Wo := ⟨P, w⟩
  refine T.F_law_beside.ok sc_law_beside (fun vs H Q E h => by revert h; walk_at "ln") (fun cdv A outer s H vs Q E hr h => ⟨t_law_beside K cl, ?_, rd_law_beside h⟩)
  exact (pss_cons (ps_set (i := 2) sc_law_beside.nd rfl (.inl rfl) (pe_lst pa_nil)) (pss_cons (ps_for PassesOwn.never rfl (pi_seq (pv 1)) (pg_name (i := 3) sc_law_beside.nd rfl (.inr rfl)) (pss_one (ps_set (i := 2) sc_law_beside.nd rfl (.inl rfl) (pe_op op_addA (pv 2) (pe_callB (call_sortA rfl hr.units) (by rfl) T.z_sorted (by decide +kernel) (pa_cons (pe_lc (own := [("side", 4)]) rfl sc_law_beside.nd (pi_seq (pv 0)) (blkOk_by (own := [("side", 4)]) (N := ["records", "way", "found", "leg", "side"]) (sc := defScope s_law_beside) (by decide +kernel)) (fun _ _ _ _ _ => (pg_name (i := 4) sc_law_beside.nd rfl (.inl rfl))) (fun _ _ _ _ _ => (pts_one (PW.pt (pw_and (pt_cmpR (op_eqA hr.units) (pe_fld (pv 4) rfl) (pe_str) (nomark _)) (pw_and1 (pt_cmpR (op_eqA hr.units) (pe_fld (pv 4) rfl) (pe_fld (pv 3) rfl) (nomark _))))))) (fun _ _ _ _ _ => (pe_fld (pv 4) rfl))) pa_nil)))))) (pss_one (ps_ret (pv 2)))))
theorem ok_law_heads (T : Tx K mg fn fd cl) : letI : Wo := ⟨P, w⟩; FnOk P w K mg base CX0 1 (fn 33) (fd 33) ["records"] (sp_law_heads K cl) := by
  haveI := T.cf
  letI : Wo := ⟨P, w⟩
  refine T.F_law_heads.ok sc_law_heads (fun vs H Q E h => by revert h; walk_at "ln") (fun cdv A outer s H vs Q E hr h => ⟨t_law_heads K cl, ?_, rd_law_heads h⟩)
  exact (pss_cons (ps_set (i := 1) sc_law_heads.nd rfl (.inl rfl) (pe_callB (call_sortA rfl hr.units) (by rfl) T.z_sorted (by decide +kernel) (pa_cons (pe_lc (own := [("record", 4)]) rfl sc_law_heads.nd (pi_seq (pv 0)) (blkOk_by (own := [("record", 4)]) (N := ["records", "heads", "found", "row", "record"]) (sc := defScope s_law_heads) (by decide +kernel)) (fun _ _ _ _ _ => (pg_name (i := 4) sc_law_heads.nd rfl (.inl rfl))) (fun _ _ _ _ _ => (pts_one (pt_cmpR op_in_seq (pe_fld (pv 4) rfl) (pe_tup (pa_cons (pe_str) (pa_cons (pe_str) pa_nil))) (by rfl)))) (fun _ _ _ _ _ => (pe_tup (pa_cons (pe_fld (pv 4) rfl) (pa_cons (pe_fld (pv 4) rfl) pa_nil))))) pa_nil))) (pss_cons (ps_set (i := 2) sc_law_heads.nd rfl (.inl rfl) (pe_lst pa_nil)) (pss_cons (ps_for PassesOwn.never rfl (pi_seq (pv 1)) (pg_name (i := 3) sc_law_heads.nd rfl (.inr rfl)) (pss_one (ps_set (i := 2) sc_law_heads.nd rfl (.inl rfl) (pe_op op_addA (pv 2) (pe_lc (own := [("record", 4)]) rfl sc_law_heads.nd (pi_seq (pv 0)) (blkOk_by (own := [("record", 4)]) (N := ["records", "heads", "found", "row", "record"]) (sc := defScope s_law_heads) (by decide +kernel)) (fun _ _ _ _ _ => (pg_name (i := 4) sc_law_heads.nd rfl (.inl rfl))) (fun _ _ _ _ _ => (pts_one (pt_cmpR (op_eqA hr.units) (pe_fld (pv 4) rfl) (pe_ix ix_seq (pv 3) (pe_int) (fun _ _ => rfl)) (nomark _)))) (fun _ _ _ _ _ => (pv 4))))))) (pss_one (ps_ret (pv 2))))))
theorem ok_law_view (T : Tx K mg fn fd cl) : letI : Wo := ⟨P, w⟩; FnOk P w K mg base CX0 1 (fn 35) (fd 35) ["calls"] (sp_law_view K cl) := by
  haveI := T.cf
  letI : Wo := ⟨P, w⟩
  refine T.F_law_view.ok sc_law_view (fun vs H Q E h => by revert h; walk_at "ln") (fun cdv A outer s H vs Q E hr h => ⟨t_law_view K cl, ?_, rd_law_view h⟩)
  exact (pss_cons (ps_set (i := 1) sc_law_view.nd rfl (.inl rfl) (pe_lst pa_nil)) (pss_cons (ps_for PassesOwn.never rfl (pi_seq (pv 0)) (pg_name (i := 2) sc_law_view.nd rfl (.inl rfl)) (pss_one (ps_expr (pe_bm PySem.F.plainAttrs_list PySem.F.slot_list_append PySem.F.type_list_append mt_append (pv 1) (pa_cons (pe_tup (pa_cons (pe_fld (pe_fld (pv 2) rfl) rfl) (pa_cons (pe_lc (own := [("leg", 3)]) rfl sc_law_view.nd (pi_seq (pe_fld (pv 2) rfl)) (blkOk_by (own := [("leg", 3)]) (N := ["calls", "rows", "call", "leg", "side"]) (sc := defScope s_law_view) (by decide +kernel)) (fun _ _ _ _ _ => (pg_name (i := 3) sc_law_view.nd rfl (.inl rfl))) (fun _ _ _ _ _ => pts_nil) (fun _ _ _ _ _ => (pe_fld (pv 3) rfl))) (pa_cons (pe_lc (own := [("side", 4)]) rfl sc_law_view.nd (pi_seq (pe_fld (pv 2) rfl)) (blkOk_by (own := [("side", 4)]) (N := ["calls", "rows", "call", "leg", "side"]) (sc := defScope s_law_view) (by decide +kernel)) (fun _ _ _ _ _ => (pg_name (i := 4) sc_law_view.nd rfl (.inl rfl))) (fun _ _ _ _ _ => pts_nil) (fun _ _ _ _ _ => (pe_fld (pv 4) rfl))) pa_nil)))) pa_nil))))) (pss_one (ps_ret (pv 1)))))
theorem ok_path_of (T : Tx K mg fn fd cl) : letI : Wo := ⟨P, w⟩; FnOk P w K mg base CX0 2 (fn 9) (fd 9) ["head", "legs"] (sp_path_of K cl) := by
  haveI := T.cf
  letI : Wo := ⟨P, w⟩
  refine T.F_path_of.ok sc_path_of (fun vs H Q E h => by revert h; walk_at "ln") (fun cdv A outer s H vs Q E hr h => ⟨t_path_of K cl, ?_, rd_path_of h⟩)
  exact (pss_cons (ps_set (i := 2) sc_path_of.nd rfl (.inl rfl) (pe_lst (pa_cons (pv 0) pa_nil))) (pss_cons (ps_set (i := 3) sc_path_of.nd rfl (.inl rfl) (pe_ndisp1 hr.units (pe_fld (pv 0) rfl) (pe_bl))) (pss_cons (ps_set (i := 4) sc_path_of.nd rfl (.inl rfl) (pe_call (ok_next_leg T) (hr.mono (by decide)) (by rfl) T.m_next_leg T.F_next_leg.kp T.b_next_leg .nil pass0 (pa_cons (pv 1) (pa_cons (pe_fld (pv 0) rfl) (pa_cons (pv 3) pa_nil))))) (pss_cons (ps_while PassesOwn.never (pt_cmpR op_notN (pv 4) (pe_non) (nomark _)) (pss_cons (ps_expr (pe_bm PySem.F.plainAttrs_list PySem.F.slot_list_append PySem.F.type_list_append mt_append (pv 2) (pa_cons (pv 4) pa_nil))) (pss_cons (ps_asg (pe_bl) (pg_sub (pv 3) (pe_fld (pv 4) rfl) (set_dictA hr.units))) (pss_one (ps_set (i := 4) sc_path_of.nd rfl (.inl rfl) (pe_call (ok_next_leg T) (hr.mono (by decide)) (by rfl) T.m_next_leg T.F_next_leg.kp T.b_next_leg .nil pass0 (pa_cons (pv 1) (pa_cons (pe_fld (pv 4) rfl) (pa_cons (pv 3) pa_nil))))))))) (pss_one (ps_ret (pv 2)))))))
theorem ok_belongs (T : Tx K mg fn fd cl) : letI : Wo := ⟨P, w⟩; FnOk P w K mg base CX0 2 (fn 14) (fd 14) ["record", "call_id"] (sp_belongs K cl) := by
  haveI := T.cf
  letI : Wo := ⟨P, w⟩
  refine T.F_belongs.ok sc_belongs (fun vs H Q E h => by revert h; walk_at "ln") (fun cdv A outer s H vs Q E hr h => ⟨t_belongs K cl, ?_, rd_belongs h⟩)
  exact (pss_one (ps_ret ((pe_and (pe_meth0 (pv 0) T.cf.cl_Record T.meth_Record_is_open (ok_Record_is_open T) (hr.mono (by decide)) T.b_Record_is_open .nil pass0) (pe_one (pe_cmpR (op_inDT (units65 hr)) (pv 1) (pe_tup (pa_cons (pe_fld (pv 0) rfl) (pa_cons (pe_fld (pv 0) rfl) pa_nil))) (by rfl)))))))
theorem ok_law_time (T : Tx K mg fn fd cl) : letI : Wo := ⟨P, w⟩; FnOk P w K mg base CX0 2 (fn 23) (fd 23) ["state", "clocks", "place"] (sp_law_time K cl) := by
  haveI := T.cf
  letI : Wo := ⟨P, w⟩
  refine T.F_law_time.ok sc_law_time (fun vs H Q E h => by revert h; walk_at "ln") (fun cdv A outer s H vs Q E hr h => ⟨t_law_time K cl, ?_, rd_law_time h⟩)
  exact (pss_cons (ps_asg (pe_op op_addA (pe_ix ix_seq (pv 1) (pv 2) (fun _ _ => rfl)) (pe_op op_mul (pe_int) (pe_call (ok_law_digit T) (hr.mono (by decide)) (by rfl) T.m_law_digit T.F_law_digit.kp T.b_law_digit .nil pass0 (pa_cons (pv 0) (pa_cons (pe_int) pa_nil))))) (pg_sub (pv 1) (pv 2) set_list)) (pss_one (ps_ret (pe_ix ix_seq (pv 1) (pv 2) (fun _ _ => rfl)))))
theorem ok_law_shuffled (T : Tx K mg fn fd cl) : letI : Wo := ⟨P, w⟩; FnOk P w K mg base CX0 2 (fn 29) (fd 29) ["script", "things"] (sp_law_shuffled K cl) := by
  haveI := T.cf
  letI : Wo := ⟨P, w⟩
  refine T.F_law_shuffled.ok sc_law_shuffled (fun vs H Q E h => by revert h; walk_at "ln") (fun cdv A outer s H vs Q E hr h => ⟨t_law_shuffled K cl, ?_, rd_law_shuffled h⟩)
  exact (pss_cons (ps_set (i := 2) sc_law_shuffled.nd rfl (.inl rfl) (pe_callTy call_list_of (by rfl) T.z_list (by decide +kernel) (pa_cons (pv 1) pa_nil))) (pss_cons (ps_set (i := 3) sc_law_shuffled.nd rfl (.inl rfl) (pe_lst pa_nil)) (pss_cons (ps_for PassesOwn.never rfl (pi_range1 (by rfl) T.z_range (pa_cons (pe_callB call_len (by rfl) T.z_len (by decide +kernel) (pa_cons (pv 1) pa_nil)) pa_nil)) (pg_name (i := 4) sc_law_shuffled.nd rfl (.inl rfl)) (pss_cons (ps_set (i := 5) sc_law_shuffled.nd rfl (.inl rfl) (pe_call (ok_law_state T) (hr.mono (by decide)) (by rfl) T.m_law_state T.F_law_state.kp T.b_law_state .nil pass0 (pa_cons (pe_call (ok_law_cell T) (hr.mono (by decide)) (by rfl) T.m_law_cell T.F_law_cell.kp T.b_law_cell .nil pass0 (pa_cons (pv 0) (pa_cons (pv 4) pa_nil))) (pa_cons (pe_op op_addA (pe_int) (pv 4)) pa_nil)))) (pss_cons (ps_set (i := 6) sc_law_shuffled.nd rfl (.inl rfl) (pe_call (ok_law_digit T) (hr.mono (by decide)) (by rfl) T.m_law_digit T.F_law_digit.kp T.b_law_digit .nil pass0 (pa_cons (pv 5) (pa_cons (pe_callB call_len (by rfl) T.z_len (by decide +kernel) (pa_cons (pv 2) pa_nil)) pa_nil)))) (pss_cons (ps_expr (pe_bm PySem.F.plainAttrs_list PySem.F.slot_list_append PySem.F.type_list_append mt_append (pv 3) (pa_cons (pe_ix ix_seq (pv 2) (pv 6) (fun _ _ => rfl)) pa_nil))) (pss_one (ps_set (i := 2) sc_law_shuffled.nd rfl (.inl rfl) (pe_op op_addA (pe_slice sl_any (pv 2) po_none (po_some (pv 6))) (pe_slice sl_any (pv 2) (po_some (pe_op op_addA (pv 6) (pe_int))) po_none)))))))) (pss_one (ps_ret (pv 3))))))
theorem ok_law_noise (T : Tx K mg fn fd cl) : letI : Wo := ⟨P, w⟩; FnOk P w K mg base CX0 2 (fn 34) (fd 34) ["script", "logs"] (sp_law_noise K cl) := by
  haveI := T.cf
  letI : Wo := ⟨P, w⟩
  refine T.F_law_noise.ok sc_law_noise (fun vs H Q E h => by revert h; walk_at "ln") (fun cdv A outer s H vs Q E hr h => ⟨t_law_noise K cl, ?_, rd_law_noise h⟩)
  exact (pss_cons (ps_set (i := 2) sc_law_noise.nd rfl (.inl rfl) (pe_lst pa_nil)) (pss_cons (ps_for PassesOwn.never rfl (pi_seq (pv 1)) (pg_name (i := 3) sc_law_noise.nd rfl (.inl rfl)) (pss_one (ps_set (i := 2) sc_law_noise.nd rfl (.inl rfl) (pe_op op_addA (pv 2) (pe_lc (own := [("entry", 12)]) rfl sc_law_noise.nd (pi_seq (pv 3)) (blkOk_by (own := [("entry", 12)]) (N := ["script", "logs", "circuits", "log", "found", "k", "state", "place", "circuit", "went", "role", "now", "entry"]) (sc := defScope s_law_noise) (by decide +kernel)) (fun _ _ _ _ _ => (pg_name (i := 12) sc_law_noise.nd rfl (.inl rfl))) (fun _ _ _ _ _ => (pts_one (PW.pt (pw_and (pt_cmpR (op_eqA hr.units) (pe_ix ix_seq (pv 12) (pe_int) (fun _ _ => rfl)) (pe_str) (nomark _)) (pw_and1 (pt_cmpR op_notN (pe_ix ix_seq (pv 12) (pe_int) (fun _ _ => rfl)) (pe_non) (nomark _))))))) (fun _ _ _ _ _ => (pe_ix ix_seq (pv 12) (pe_int) (fun _ _ => rfl)))))))) (pss_cons (ps_setLc (i := 4) (own := [("log", 3)]) rfl sc_law_noise.nd rfl rfl (sw_true rfl rfl rfl (by decide +kernel)) (pi_seq (pv 1)) (blkOk_by (own := [("log", 3)]) (N := ["script", "logs", "circuits", "log", "found", "k", "state", "place", "circuit", "went", "role", "now", "entry"]) (sc := defScope s_law_noise) (by decide +kernel)) (fun _ _ _ _ _ => (pg_name (i := 3) sc_law_noise.nd rfl (.inl rfl))) (fun _ _ _ _ _ => pts_nil) (fun _ _ _ _ _ => (pe_callTy call_list_of (by rfl) T.z_list (by decide +kernel) (pa_cons (pv 3) pa_nil)))) (pss_cons (ps_if (pt_cmpR (op_eqA hr.units) (pe_callB call_len (by rfl) T.z_len (by decide +kernel) (pa_cons (pv 2) pa_nil)) (pe_int) (nomark _)) (pss_one (ps_ret (pv 4))) pss_nil) (pss_cons (ps_for PassesOwn.never rfl (pi_range1 (by rfl) T.z_range (pa_cons (pe_int) pa_nil)) (pg_name (i := 5) sc_law_noise.nd rfl (.inl rfl)) (pss_cons (ps_set (i := 6) sc_law_noise.nd rfl (.inl rfl) (pe_call (ok_law_state T) (hr.mono (by decide)) (by rfl) T.m_law_state T.F_law_state.kp T.b_law_state .nil pass0 (pa_cons (pe_call (ok_law_cell T) (hr.mono (by decide)) (by rfl) T.m_law_cell T.F_law_cell.kp T.b_law_cell .nil pass0 (pa_cons (pv 0) (pa_cons (pv 5) pa_nil))) (pa_cons (pe_op op_addA (pe_int) (pv 5)) pa_nil)))) (pss_cons (ps_set (i := 7) sc_law_noise.nd rfl (.inl rfl) (pe_call (ok_law_digit T) (hr.mono (by decide)) (by rfl) T.m_law_digit T.F_law_digit.kp T.b_law_digit .nil pass0 (pa_cons (pv 6) (pa_cons (pe_int) pa_nil)))) (pss_cons (ps_set (i := 8) sc_law_noise.nd rfl (.inl rfl) (pe_ix ix_seq (pv 2) (pe_call (ok_law_digit T) (hr.mono (by decide)) (by rfl) T.m_law_digit T.F_law_digit.kp T.b_law_digit .nil pass0 (pa_cons (pv 6) (pa_cons (pe_callB call_len (by rfl) T.z_len (by decide +kernel) (pa_cons (pv 2) pa_nil)) pa_nil))) (fun _ _ => rfl))) (pss_cons (ps_set (i := 9) sc_law_noise.nd rfl (.inl rfl) (pe_ix ix_seq (pe_tup (pa_cons (pe_non) (pa_cons (pv 8) (pa_cons (pe_ix ix_seq (pv 2) (pe_call (ok_law_digit T) (hr.mono (by decide)) (by rfl) T.m_law_digit T.F_law_digit.kp T.b_law_digit .nil pass0 (pa_cons (pv 6) (pa_cons (pe_callB call_len (by rfl) T.z_len (by decide +kernel) (pa_cons (pv 2) pa_nil)) pa_nil))) (fun _ _ => rfl)) (pa_cons (pe_tup (pa_cons (pe_int) (pa_cons (pe_int) (pa_cons (pv 5) pa_nil)))) pa_nil))))) (pe_call (ok_law_digit T) (hr.mono (by decide)) (by rfl) T.m_law_digit T.F_law_digit.kp T.b_law_digit .nil pass0 (pa_cons (pv 6) (pa_cons (pe_int) pa_nil))) (fun _ _ => rfl))) (pss_cons (ps_set (i := 10) sc_law_noise.nd rfl (.inl rfl) (pe_str)) (pss_cons (ps_if (pt_cmpR op_isN (pv 9) (pe_non) (nomark _)) (pss_one (ps_set (i := 10) sc_law_noise.nd rfl (.inl rfl) (pe_str))) pss_nil) (pss_cons (ps_set (i := 11) sc_law_noise.nd rfl (.inl rfl) (pe_op op_addA (pe_int) (pv 5))) (pss_one (ps_expr (pe_bm PySem.F.plainAttrs_list PySem.F.slot_list_append PySem.F.type_list_append mt_append (pe_ix ix_seq (pv 4) (pv 7) (fun _ _ => rfl)) (pa_cons (pe_tup (pa_cons (pe_str) (pa_cons (pe_tup (pa_cons (pv 7) (pa_cons (pe_op op_sub (pe_int) (pe_call (ok_law_digit T) (hr.mono (by decide)) (by rfl) T.m_law_digit T.F_law_digit.kp T.b_law_digit .nil pass0 (pa_cons (pv 6) (pa_cons (pe_int) pa_nil)))) (pa_cons (pe_op op_addA (pe_int) (pv 5)) pa_nil)))) (pa_cons (pv 10) (pa_cons (pe_str) (pa_cons (pe_str) (pa_cons (pe_non) (pa_cons (pv 8) (pa_cons (pv 9) (pa_cons (pe_non) (pa_cons (pv 11) pa_nil))))))))))) pa_nil)))))))))))) (pss_one (ps_ret (pv 4))))))))
theorem ok_law_large (T : Tx K mg fn fd cl) : letI : Wo := ⟨P, w⟩; FnOk P w K mg base CX0 2 (fn 36) (fd 36) ["script"] (sp_law_large K cl) := by
  haveI := T.cf
  letI : Wo := ⟨P, w⟩
  refine T.F_law_large.ok sc_law_large (fun vs H Q E h => by revert h; walk_at "ln") (fun cdv A outer s H vs Q E hr h => ⟨t_law_large K cl, ?_, rd_law_large h⟩)
  exact (pss_one (ps_ret (pe_cmpR (op_eqA hr.units) (pe_call (ok_law_digit T) (hr.mono (by decide)) (by rfl) T.m_law_digit T.F_law_digit.kp T.b_law_digit .nil pass0 (pa_cons (pe_call (ok_law_state T) (hr.mono (by decide)) (by rfl) T.m_law_state T.F_law_state.kp T.b_law_state .nil pass0 (pa_cons (pe_call (ok_law_cell T) (hr.mono (by decide)) (by rfl) T.m_law_cell T.F_law_cell.kp T.b_law_cell .nil pass0 (pa_cons (pv 0) (pa_cons (pe_int) pa_nil))) (pa_cons (pe_int) pa_nil))) (pa_cons (pe_int) pa_nil))) (pe_int) (nomark _))))
theorem ok_record_from (T : Tx K mg fn fd cl) : letI : Wo := ⟨P, w⟩; FnOk P w K mg base CX0 3 (fn 16) (fd 16) ["entry"] (sp_record_from K cl) := by
  haveI := T.cf
  letI : Wo := ⟨P, w⟩
  refine T.F_record_from.ok sc_record_from (fun vs H Q E h => by revert h; walk_at "ln") (fun cdv A outer s H vs Q E hr h => ⟨t_record_from K cl, ?_, rd_record_from h⟩)
  exact (pss_cons (ps_asg (pv 0) (pg_tup rfl (pgs_cons (pg_name (i := 1) sc_record_from.nd rfl (.inl rfl)) (pgs_cons (pg_name (i := 2) sc_record_from.nd rfl (.inl rfl)) (pgs_cons (pg_name (i := 3) sc_record_from.nd rfl (.inl rfl)) (pgs_cons (pg_name (i := 4) sc_record_from.nd rfl (.inl rfl)) (pgs_cons (pg_name (i := 5) sc_record_from.nd rfl (.inl rfl)) (pgs_cons (pg_name (i := 6) sc_record_from.nd rfl (.inl rfl)) (pgs_cons (pg_name (i := 7) sc_record_from.nd rfl (.inl rfl)) (pgs_cons (pg_name (i := 8) sc_record_from.nd rfl (.inl rfl)) (pgs_cons (pg_name (i := 9) sc_record_from.nd rfl (.inl rfl)) (pgs_cons (pg_name (i := 10) sc_record_from.nd rfl (.inl rfl)) pgs_nil)))))))))))) (pss_one (ps_ret (pe_make T.mk_Record (ok_Record_init T) (hr.mono (by decide)) (by rfl) T.m_Record T.b_Record_init .nil pass0 (pa_cons (pv 2) (pa_cons (pv 3) (pa_cons (pv 4) (pa_cons (pv 5) (pa_cons (pv 6) (pa_cons (pv 7) (pa_cons (pv 8) (pa_cons (pv 9) (pa_cons (pv 10) pa_nil)))))))))))))
theorem ok_law_open (T : Tx K mg fn fd cl) : letI : Wo := ⟨P, w⟩; FnOk P w K mg base CX0 3 (fn 25) (fd 25) ["state", "world", "place", "role", "caller", "came", "went"] (sp_law_open K cl) := by
  haveI := T.cf
  letI : Wo := ⟨P, w⟩
  refine T.F_law_open.ok sc_law_open (fun vs H Q E h => by revert h; walk_at "ln") (fun cdv A outer s H vs Q E hr h => ⟨t_law_open K cl, ?_, rd_law_open h⟩)
  exact (pss_cons (ps_asg (pv 1) (pg_tup rfl (pgs_cons (pg_name (i := 7) sc_law_open.nd rfl (.inl rfl)) (pgs_cons (pg_name (i := 8) sc_law_open.nd rfl (.inl rfl)) (pgs_cons (pg_name (i := 9) sc_law_open.nd rfl (.inl rfl)) (pgs_cons (pg_name (i := 10) sc_law_open.nd rfl (.inl rfl)) pgs_nil)))))) (pss_cons (ps_set (i := 11) sc_law_open.nd rfl (.inl rfl) (pe_call (ok_law_time T) (hr.mono (by decide)) (by rfl) T.m_law_time T.F_law_time.kp T.b_law_time .nil pass0 (pa_cons (pv 0) (pa_cons (pv 8) (pa_cons (pv 2) pa_nil))))) (pss_cons (ps_set (i := 12) sc_law_open.nd rfl (.inl rfl) (pe_call (ok_law_take T) (hr.mono (by decide)) (by rfl) T.m_law_take T.F_law_take.kp T.b_law_take .nil pass0 (pa_cons (pv 9) (pa_cons (pv 2) pa_nil)))) (pss_cons (ps_set (i := 13) sc_law_open.nd rfl (.inl rfl) (pe_non)) (pss_cons (ps_if (PW.pt (pw_or (pt_cmpR (op_eqA hr.units) (pv 3) (pe_str) (nomark _)) (pw_or1 (pt_cmpR (op_eqA hr.units) (pv 3) (pe_str) (nomark _))))) (pss_one (ps_set (i := 13) sc_law_open.nd rfl (.inl rfl) (pv 4))) pss_nil) (pss_cons (ps_set (i := 14) sc_law_open.nd rfl (.inl rfl) (pe_op op_addA (pe_str) (pe_callTy call_str_int (by rfl) T.z_str (by decide +kernel) (pa_cons (pe_call (ok_law_digit T) (hr.mono (by decide)) (by rfl) T.m_law_digit T.F_law_digit.kp T.b_law_digit .nil pass0 (pa_cons (pv 0) (pa_cons (pe_int) pa_nil))) pa_nil)))) (pss_cons (ps_expr (pe_bm PySem.F.plainAttrs_list PySem.F.slot_list_append PySem.F.type_list_append mt_append (pe_ix ix_seq (pv 7) (pv 2) (fun _ _ => rfl)) (pa_cons (pe_tup (pa_cons (pe_str) (pa_cons (pv 12) (pa_cons (pv 3) (pa_cons (pv 4) (pa_cons (pv 14) (pa_cons (pv 13) (pa_cons (pv 5) (pa_cons (pv 6) (pa_cons (pe_non) (pa_cons (pv 11) pa_nil))))))))))) pa_nil))) (pss_cons (ps_for PassesOwn.never rfl (pi_range1 (by rfl) T.z_range (pa_cons (pe_ix ix_seq (pe_tup (pa_cons (pe_int) (pa_cons (pe_int) (pa_cons (pe_int) (pa_cons (pe_int) pa_nil))))) (pe_call (ok_law_digit T) (hr.mono (by decide)) (by rfl) T.m_law_digit T.F_law_digit.kp T.b_law_digit .nil pass0 (pa_cons (pv 0) (pa_cons (pe_int) pa_nil))) (fun _ _ => rfl)) pa_nil)) (pg_name (i := 15) sc_law_open.nd rfl (.inl rfl)) (pss_cons (ps_set (i := 16) sc_law_open.nd rfl (.inl rfl) (pe_op op_addA (pe_str) (pe_callTy call_str_int (by rfl) T.z_str (by decide +kernel) (pa_cons (pe_call (ok_law_digit T) (hr.mono (by decide)) (by rfl) T.m_law_digit T.F_law_digit.kp T.b_law_digit .nil pass0 (pa_cons (pv 0) (pa_cons (pe_int) pa_nil))) pa_nil)))) (pss_cons (ps_set (i := 17) sc_law_open.nd rfl (.inl rfl) (pe_call (ok_law_take T) (hr.mono (by decide)) (by rfl) T.m_law_take T.F_law_take.kp T.b_law_take .nil pass0 (pa_cons (pv 9) (pa_cons (pv 2) pa_nil)))) (pss_cons (ps_set (i := 18) sc_law_open.nd rfl (.inl rfl) (pe_op op_addA (pe_str) (pe_callTy call_str_int (by rfl) T.z_str (by decide +kernel) (pa_cons (pe_call (ok_law_digit T) (hr.mono (by decide)) (by rfl) T.m_law_digit T.F_law_digit.kp T.b_law_digit .nil pass0 (pa_cons (pv 0) (pa_cons (pe_int) pa_nil))) pa_nil)))) (pss_one (ps_expr (pe_bm PySem.F.plainAttrs_list PySem.F.slot_list_append PySem.F.type_list_append mt_append (pe_ix ix_seq (pv 7) (pv 2) (fun _ _ => rfl)) (pa_cons (pe_tup (pa_cons (pe_str) (pa_cons (pv 17) (pa_cons (pe_str) (pa_cons (pv 4) (pa_cons (pv 18) (pa_cons (pv 16) (pa_cons (pv 5) (pa_cons (pv 6) (pa_cons (pv 12) (pa_cons (pv 11) pa_nil))))))))))) pa_nil)))))))) (pss_one (ps_ret (pv 12)))))))))))
theorem ok_law_close (T : Tx K mg fn fd cl) : letI : Wo := ⟨P, w⟩; FnOk P w K mg base CX0 3 (fn 26) (fd 26) ["state", "world", "place", "found"] (sp_law_close K cl) := by
  haveI := T.cf
  letI : Wo := ⟨P, w⟩
  refine T.F_law_close.ok sc_law_close (fun vs H Q E h => by revert h; walk_at "ln") (fun cdv A outer s H vs Q E hr h => ⟨t_law_close K cl, ?_, rd_law_close h⟩)
  exact (pss_cons (ps_asg (pv 1) (pg_tup rfl (pgs_cons (pg_name (i := 4) sc_law_close.nd rfl (.inl rfl)) (pgs_cons (pg_name (i := 5) sc_law_close.nd rfl (.inl rfl)) (pgs_cons (pg_name (i := 6) sc_law_close.nd rfl (.inl rfl)) (pgs_cons (pg_name (i := 7) sc_law_close.nd rfl (.inl rfl)) pgs_nil)))))) (pss_cons (ps_set (i := 8) sc_law_close.nd rfl (.inl rfl) (pe_call (ok_law_digit T) (hr.mono (by decide)) (by rfl) T.m_law_digit T.F_law_digit.kp T.b_law_digit .nil pass0 (pa_cons (pv 0) (pa_cons (pe_int) pa_nil)))) (pss_cons (ps_if (pt_cmpR (op_eqA hr.units) (pv 8) (pe_int) (nomark _)) (pss_one (ps_ret (pe_bl))) pss_nil) (pss_cons (ps_set (i := 9) sc_law_close.nd rfl (.inl rfl) (pe_call (ok_law_time T) (hr.mono (by decide)) (by rfl) T.m_law_time T.F_law_time.kp T.b_law_time .nil pass0 (pa_cons (pv 0) (pa_cons (pv 5) (pa_cons (pv 2) pa_nil))))) (pss_cons (ps_if (pt_cmpR (op_eqA hr.units) (pv 8) (pe_int) (nomark _)) (pss_cons (ps_asg (pe_op op_addA (pe_ix ix_seq (pv 7) (pv 2) (fun _ _ => rfl)) (pe_int)) (pg_sub (pv 7) (pv 2) set_list)) (pss_cons (ps_expr (pe_bm PySem.F.plainAttrs_list PySem.F.slot_list_append PySem.F.type_list_append mt_append (pe_ix ix_seq (pv 4) (pv 2) (fun _ _ => rfl)) (pa_cons (pe_tup (pa_cons (pe_str) (pa_cons (pe_ix ix_seq (pv 7) (pv 2) (fun _ _ => rfl)) (pa_cons (pv 9) pa_nil)))) pa_nil))) (pss_one (ps_ret (pe_bl))))) pss_nil) (pss_cons (ps_expr (pe_bm PySem.F.plainAttrs_list PySem.F.slot_list_append PySem.F.type_list_append mt_append (pe_ix ix_seq (pv 4) (pv 2) (fun _ _ => rfl)) (pa_cons (pe_tup (pa_cons (pe_str) (pa_cons (pv 3) (pa_cons (pe_ix ix_seq (pe_tup (pa_cons (pe_str) (pa_cons (pe_str) pa_nil))) (pe_op op_mod (pv 8) (pe_int)) (fun _ _ => rfl)) (pa_cons (pv 9) pa_nil))))) pa_nil))) (pss_one (ps_ret (pe_bl)))))))))
theorem ok_legs_by_circuit (T : Tx K mg fn fd cl) : letI : Wo := ⟨P, w⟩; FnOk P w K mg base CX0 4 (fn 6) (fd 6) ["records"] (sp_legs_by_circuit K cl) := by
  haveI := T.cf
  letI : Wo := ⟨P, w⟩
  refine T.F_legs_by_circuit.ok sc_legs_by_circuit (fun vs H Q E h => by revert h; walk_at "ln") (fun cdv A outer s H vs Q E hr h => ⟨t_legs_by_circuit K cl, ?_, rd_legs_by_circuit h⟩)
  exact (pss_cons (ps_set (i := 1) sc_legs_by_circuit.nd rfl (.inl rfl) (pe_new)) (pss_cons (ps_for PassesOwn.never rfl (pi_seq (pe_sortKey (ok_id_of T) (hr.mono (by decide)) hr.units T.b_id_of (by rfl) T.z_sorted (by decide +kernel) T.m_id_of (pa_cons (pv 0) pa_nil))) (pg_name (i := 2) sc_legs_by_circuit.nd rfl (.inl rfl)) (pss_one (ps_if (pt_cmpR op_in_seq (pe_fld (pv 2) rfl) (pe_glob rfl T.g_LEG_ROLES rfl) (by rfl)) (pss_one (ps_expr (pe_bm PySem.F.plainAttrs_list PySem.F.slot_list_append PySem.F.type_list_append mt_append (pe_setd hr.units (pv 1) (pe_fld (pv 2) rfl) (pe_lst pa_nil) ⟨rfl, rfl, rfl, rfl⟩) (pa_cons (pv 2) pa_nil)))) pss_nil))) (pss_one (ps_ret (pv 1)))))
theorem ok_sides_by_parent (T : Tx K mg fn fd cl) : letI : Wo := ⟨P, w⟩; FnOk P w K mg base CX0 4 (fn 7) (fd 7) ["records"] (sp_sides_by_parent K cl) := by
  haveI := T.cf
  letI : Wo := ⟨P, w⟩
  refine T.F_sides_by_parent.ok sc_sides_by_parent (fun vs H Q E h => by revert h; walk_at "ln") (fun cdv A outer s H vs Q E hr h => ⟨t_sides_by_parent K cl, ?_, rd_sides_by_parent h⟩)
  exact (pss_cons (ps_set (i := 1) sc_sides_by_parent.nd rfl (.inl rfl) (pe_new)) (pss_cons (ps_for PassesOwn.never rfl (pi_seq (pe_sortKey (ok_id_of T) (hr.mono (by decide)) hr.units T.b_id_of (by rfl) T.z_sorted (by decide +kernel) T.m_id_of (pa_cons (pv 0) pa_nil))) (pg_name (i := 2) sc_sides_by_parent.nd rfl (.inl rfl)) (pss_one (ps_if (pt_cmpR (op_eqA hr.units) (pe_fld (pv 2) rfl) (pe_str) (nomark _)) (pss_one (ps_expr (pe_bm PySem.F.plainAttrs_list PySem.F.slot_list_append PySem.F.type_list_append mt_append (pe_setd hr.units (pv 1) (pe_fld (pv 2) rfl) (pe_lst pa_nil) ⟨rfl, rfl, rfl, rfl⟩) (pa_cons (pv 2) pa_nil)))) pss_nil))) (pss_one (ps_ret (pv 1)))))
theorem ok_fold_entry (T : Tx K mg fn fd cl) : letI : Wo := ⟨P, w⟩; FnOk P w K mg base CX0 4 (fn 17) (fd 17) ["records", "entry"] (sp_fold_entry K cl) := by
  haveI := T.cf
  letI : Wo := ⟨P, w⟩
  refine T.F_fold_entry.ok sc_fold_entry (fun vs H Q E h => by revert h; walk_at "ln") (fun cdv A outer s H vs Q E hr h => ⟨t_fold_entry K cl, ?_, rd_fold_entry h⟩)
  exact (pss_cons (ps_set (i := 2) sc_fold_entry.nd rfl (.inl rfl) (pe_ix ix_seq (pv 1) (pe_int) (fun _ _ => rfl))) (pss_one (ps_if (pt_cmpR (op_eqA hr.units) (pv 2) (pe_str) (nomark _)) (pss_one (ps_expr (pe_bm PySem.F.plainAttrs_list PySem.F.slot_list_append PySem.F.type_list_append mt_append (pv 0) (pa_cons (pe_call (ok_record_from T) (hr.mono (by decide)) (by rfl) T.m_record_from T.F_record_from.kp T.b_record_from .nil pass0 (pa_cons (pv 1) pa_nil)) pa_nil)))) (pss_one (ps_if (pt_cmpR (op_eqA hr.units) (pv 2) (pe_str) (nomark _)) (pss_one (ps_for PassesOwn.never rfl (pi_seq (pv 0)) (pg_name (i := 3) sc_fold_entry.nd rfl (.inl rfl)) (pss_one (ps_if (pt_tr (pe_meth0 (pv 3) T.cf.cl_Record T.meth_Record_is_open (ok_Record_is_open T) (hr.mono (by decide)) T.b_Record_is_open .nil pass0)) (pss_one (ps_expr (pe_call (ok_close_record T) (hr.mono (by decide)) (by rfl) T.m_close_record T.F_close_record.kp T.b_close_record .nil pass0 (pa_cons (pv 3) (pa_cons (pe_str) (pa_cons (pe_ix ix_seq (pv 1) (pe_int) (fun _ _ => rfl)) pa_nil)))))) pss_nil)))) (pss_one (ps_if (pt_cmpR (op_eqA hr.units) (pv 2) (pe_str) (nomark _)) (pss_one (ps_for PassesOwn.never rfl (pi_seq (pv 0)) (pg_name (i := 3) sc_fold_entry.nd rfl (.inl rfl)) (pss_one (ps_if (pt_tr (pe_call (ok_belongs T) (hr.mono (by decide)) (by rfl) T.m_belongs T.F_belongs.kp T.b_belongs .nil pass0 (pa_cons (pv 3) (pa_cons (pe_ix ix_seq (pv 1) (pe_int) (fun _ _ => rfl)) pa_nil)))) (pss_one (ps_fld (pv 3) (pe_ix ix_seq (pv 1) (pe_int) (fun _ _ => rfl)) rfl)) pss_nil)))) (pss_one (ps_if (pt_cmpR (op_eqA hr.units) (pv 2) (pe_str) (nomark _)) (pss_one (ps_for PassesOwn.never rfl (pi_seq (pv 0)) (pg_name (i := 3) sc_fold_entry.nd rfl (.inl rfl)) (pss_one (ps_if (pt_tr (pe_call (ok_belongs T) (hr.mono (by decide)) (by rfl) T.m_belongs T.F_belongs.kp T.b_belongs .nil pass0 (pa_cons (pv 3) (pa_cons (pe_ix ix_seq (pv 1) (pe_int) (fun _ _ => rfl)) pa_nil)))) (pss_one (ps_expr (pe_call (ok_close_record T) (hr.mono (by decide)) (by rfl) T.m_close_record T.F_close_record.kp T.b_close_record .nil pass0 (pa_cons (pv 3) (pa_cons (pe_ix ix_seq (pv 1) (pe_int) (fun _ _ => rfl)) (pa_cons (pe_ix ix_seq (pv 1) (pe_int) (fun _ _ => rfl)) pa_nil)))))) pss_nil)))) pss_nil)))))))))
theorem ok_law_call (T : Tx K mg fn fd cl) : letI : Wo := ⟨P, w⟩; FnOk P w K mg base CX0 4 (fn 27) (fd 27) ["state", "world", "j"] (sp_law_call K cl) := by
  haveI := T.cf
  letI : Wo := ⟨P, w⟩
  refine T.F_law_call.ok sc_law_call (fun vs H Q E h => by revert h; walk_at "ln") (fun cdv A outer s H vs Q E hr h => ⟨t_law_call K cl, ?_, rd_law_call h⟩)
  exact (pss_cons (ps_set (i := 3) sc_law_call.nd rfl (.inl rfl) (pe_op op_addA (pe_int) (pe_call (ok_law_digit T) (hr.mono (by decide)) (by rfl) T.m_law_digit T.F_law_digit.kp T.b_law_digit .nil pass0 (pa_cons (pv 0) (pa_cons (pe_int) pa_nil))))) (pss_cons (ps_if (pt_cmpR op_gt (pv 2) (pe_int) (nomark _)) (pss_one (ps_set (i := 3) sc_law_call.nd rfl (.inl rfl) (pe_op op_addA (pv 3) (pe_int)))) pss_nil) (pss_cons (ps_set (i := 4) sc_law_call.nd rfl (.inl rfl) (pe_call (ok_law_digit T) (hr.mono (by decide)) (by rfl) T.m_law_digit T.F_law_digit.kp T.b_law_digit .nil pass0 (pa_cons (pv 0) (pa_cons (pe_int) pa_nil)))) (pss_cons (ps_set (i := 5) sc_law_call.nd rfl (.inl rfl) (pe_op op_addA (pe_str) (pe_callTy call_str_int (by rfl) T.z_str (by decide +kernel) (pa_cons (pe_call (ok_law_digit T) (hr.mono (by decide)) (by rfl) T.m_law_digit T.F_law_digit.kp T.b_law_digit .nil pass0 (pa_cons (pv 0) (pa_cons (pe_int) pa_nil))) pa_nil)))) (pss_cons (ps_set (i := 6) sc_law_call.nd rfl (.inl rfl) (pe_non)) (pss_cons (ps_set (i := 7) sc_law_call.nd rfl (.inl rfl) (pe_lst pa_nil)) (pss_cons (ps_for PassesOwn.never rfl (pi_range1 (by rfl) T.z_range (pa_cons (pv 3) pa_nil)) (pg_name (i := 8) sc_law_call.nd rfl (.inl rfl)) (pss_cons (ps_set (i := 9) sc_law_call.nd rfl (.inl rfl) (pe_non)) (pss_cons (ps_if (pt_cmpR op_lt (pe_op op_addA (pv 8) (pe_int)) (pv 3) (nomark _)) (pss_one (ps_set (i := 9) sc_law_call.nd rfl (.inl rfl) (pe_tup (pa_cons (pv 4) (pa_cons (pe_int) (pa_cons (pe_op op_addA (pe_op op_addA (pe_int) (pe_op op_mul (pe_int) (pv 2))) (pv 8)) pa_nil)))))) pss_nil) (pss_cons (ps_set (i := 10) sc_law_call.nd rfl (.inl rfl) (pe_call (ok_law_open T) (hr.mono (by decide)) (by rfl) T.m_law_open T.F_law_open.kp T.b_law_open .nil pass0 (pa_cons (pv 0) (pa_cons (pv 1) (pa_cons (pv 4) (pa_cons (pe_call (ok_law_role T) (hr.mono (by decide)) (by rfl) T.m_law_role T.F_law_role.kp T.b_law_role .nil pass0 (pa_cons (pv 8) (pa_cons (pv 3) pa_nil))) (pa_cons (pv 5) (pa_cons (pv 6) (pa_cons (pv 9) pa_nil))))))))) (pss_cons (ps_expr (pe_bm PySem.F.plainAttrs_list PySem.F.slot_list_append PySem.F.type_list_append mt_append (pv 7) (pa_cons (pe_tup (pa_cons (pv 4) (pa_cons (pv 10) pa_nil))) pa_nil))) (pss_cons (ps_set (i := 6) sc_law_call.nd rfl (.inl rfl) (pv 9)) (pss_one (ps_set (i := 4) sc_law_call.nd rfl (.inl rfl) (pe_op op_mod (pe_callTy call_int1 (by rfl) T.z_int (by decide +kernel) (pa_cons (pe_op op_addA (pe_op op_addA (pv 4) (pe_int)) (pe_call (ok_law_digit T) (hr.mono (by decide)) (by rfl) T.m_law_digit T.F_law_digit.kp T.b_law_digit .nil pass0 (pa_cons (pv 0) (pa_cons (pe_int) pa_nil)))) pa_nil)) (pe_int)))))))))) (pss_cons (ps_set (i := 11) sc_law_call.nd rfl (.inl rfl) (pe_op op_addA (pe_ix ix_seq (pe_tup (pa_cons (pe_int) (pa_cons (pe_int) (pa_cons (pe_int) (pa_cons (pe_int) pa_nil))))) (pe_call (ok_law_digit T) (hr.mono (by decide)) (by rfl) T.m_law_digit T.F_law_digit.kp T.b_law_digit .nil pass0 (pa_cons (pv 0) (pa_cons (pe_int) pa_nil))) (fun _ _ => rfl)) (pe_op op_mul (pe_int) (pe_call (ok_law_digit T) (hr.mono (by decide)) (by rfl) T.m_law_digit T.F_law_digit.kp T.b_law_digit .nil pass0 (pa_cons (pv 0) (pa_cons (pe_int) pa_nil)))))) (pss_cons (ps_for PassesOwn.never rfl (pi_seq (pv 7)) (pg_tup rfl (pgs_cons (pg_name (i := 12) sc_law_call.nd rfl (.inl rfl)) (pgs_cons (pg_name (i := 10) sc_law_call.nd rfl (.inl rfl)) pgs_nil))) (pss_cons (ps_if (pt_cmpR op_gt (pv 11) (pe_int) (nomark _)) (pss_one (ps_expr (pe_bm PySem.F.plainAttrs_list PySem.F.slot_list_append PySem.F.type_list_append mt_append (pe_ix ix_seq (pe_ix ix_seq (pv 1) (pe_int) (fun _ _ => rfl)) (pv 12) (fun _ _ => rfl)) (pa_cons (pe_tup (pa_cons (pe_str) (pa_cons (pv 10) (pa_cons (pv 11) pa_nil)))) pa_nil)))) pss_nil) (pss_one (ps_set (i := 11) sc_law_call.nd rfl (.inl rfl) (pe_op op_addA (pv 11) (pe_op op_mul (pe_int) (pe_call (ok_law_digit T) (hr.mono (by decide)) (by rfl) T.m_law_digit T.F_law_digit.kp T.b_law_digit .nil pass0 (pa_cons (pv 0) (pa_cons (pe_int) pa_nil))))))))) (pss_cons (ps_set (i := 13) sc_law_call.nd rfl (.inl rfl) (pe_lst pa_nil)) (pss_one (ps_for PassesOwn.never rfl (pi_seq (pv 7)) (pg_tup rfl (pgs_cons (pg_name (i := 12) sc_law_call.nd rfl (.inl rfl)) (pgs_cons (pg_name (i := 10) sc_law_call.nd rfl (.inl rfl)) pgs_nil))) (pss_one (ps_if (PW.pt (pw_and (pt_cmpR op_notIn_seq (pv 12) (pv 13) (by rfl)) (pw_and1 (pt_tr (pe_call (ok_law_close T) (hr.mono (by decide)) (by rfl) T.m_law_close T.F_law_close.kp T.b_law_close .nil pass0 (pa_cons (pv 0) (pa_cons (pv 1) (pa_cons (pv 12) (pa_cons (pv 10) pa_nil))))))))) (pss_one (ps_expr (pe_bm PySem.F.plainAttrs_list PySem.F.slot_list_append PySem.F.type_list_append mt_append (pv 13) (pa_cons (pv 12) pa_nil)))) pss_nil))))))))))))))
theorem ok_join_calls (T : Tx K mg fn fd cl) : letI : Wo := ⟨P, w⟩; FnOk P w K mg base CX0 5 (fn 10) (fd 10) ["records"] (sp_join_calls K cl) := by
  haveI := T.cf
  letI : Wo := ⟨P, w⟩
  refine T.F_join_calls.ok sc_join_calls (fun vs H Q E h => by revert h; walk_at "ln") (fun cdv A outer s H vs Q E hr h => ⟨t_join_calls K cl, ?_, rd_join_calls h⟩)
  exact (pss_cons (ps_set (i := 1) sc_join_calls.nd rfl (.inl rfl) (pe_call (ok_legs_by_circuit T) (hr.mono (by decide)) (by rfl) T.m_legs_by_circuit T.F_legs_by_circuit.kp T.b_legs_by_circuit .nil pass0 (pa_cons (pv 0) pa_nil))) (pss_cons (ps_set (i := 2) sc_join_calls.nd rfl (.inl rfl) (pe_call (ok_sides_by_parent T) (hr.mono (by decide)) (by rfl) T.m_sides_by_parent T.F_sides_by_parent.kp T.b_sides_by_parent .nil pass0 (pa_cons (pv 0) pa_nil))) (pss_cons (ps_set (i := 3) sc_join_calls.nd rfl (.inl rfl) (pe_lst pa_nil)) (pss_cons (ps_for PassesOwn.never rfl (pi_seq (pe_sortKey (ok_head_place T) (hr.mono (by decide)) hr.units T.b_head_place (by rfl) T.z_sorted (by decide +kernel) T.m_head_place (pa_cons (pe_lc (own := [("record", 4)]) rfl sc_join_calls.nd (pi_seq (pv 0)) (blkOk_by (own := [("record", 4)]) (N := ["records", "legs", "sides", "calls", "record", "head", "path", "beside"]) (sc := defScope s_join_calls) (by decide +kernel)) (fun _ _ _ _ _ => (pg_name (i := 4) sc_join_calls.nd rfl (.inl rfl))) (fun _ _ _ _ _ => (pts_one (pt_cmpR op_in_seq (pe_fld (pv 4) rfl) (pe_glob rfl T.g_HEAD_ROLES rfl) (by rfl)))) (fun _ _ _ _ _ => (pv 4))) pa_nil))) (pg_name (i := 5) sc_join_calls.nd rfl (.inl rfl)) (pss_cons (ps_set (i := 6) sc_join_calls.nd rfl (.inl rfl) (pe_call (ok_path_of T) (hr.mono (by decide)) (by rfl) T.m_path_of T.F_path_of.kp T.b_path_of .nil pass0 (pa_cons (pv 5) (pa_cons (pv 1) pa_nil)))) (pss_cons (ps_set (i := 7) sc_join_calls.nd rfl (.inl rfl) (pe_lst pa_nil)) (pss_cons (ps_for PassesOwn.never rfl (pi_seq (pv 6)) (pg_name (i := 4) sc_join_calls.nd rfl (.inl rfl)) (pss_one (ps_expr (pe_bm PySem.F.plainAttrs_list PySem.F.slot_list_extend PySem.F.type_list_extend mt_extendA (pv 7) (pa_cons (pe_get2 hr.units (pv 2) (pe_fld (pv 4) rfl) (pe_lst pa_nil) ⟨rfl, rfl, rfl, rfl⟩) pa_nil))))) (pss_one (ps_expr (pe_bm PySem.F.plainAttrs_list PySem.F.slot_list_append PySem.F.type_list_append mt_append (pv 3) (pa_cons (pe_make T.mk_JoinedCall (ok_JoinedCall_init T) (hr.mono (by decide)) (by rfl) T.m_JoinedCall T.b_JoinedCall_init .nil pass0 (pa_cons (pv 5) (pa_cons (pv 6) (pa_cons (pv 7) pa_nil)))) pa_nil)))))))) (pss_one (ps_ret (pv 3)))))))
theorem ok_records_of (T : Tx K mg fn fd cl) : letI : Wo := ⟨P, w⟩; FnOk P w K mg base CX0 5 (fn 18) (fd 18) ["entries"] (sp_records_of K cl) := by
  haveI := T.cf
  letI : Wo := ⟨P, w⟩
  refine T.F_records_of.ok sc_records_of (fun vs H Q E h => by revert h; walk_at "ln") (fun cdv A outer s H vs Q E hr h => ⟨t_records_of K cl, ?_, rd_records_of h⟩)
  exact (pss_cons (ps_set (i := 1) sc_records_of.nd rfl (.inl rfl) (pe_lst pa_nil)) (pss_cons (ps_for PassesOwn.never rfl (pi_seq (pv 0)) (pg_name (i := 2) sc_records_of.nd rfl (.inl rfl)) (pss_one (ps_expr (pe_call (ok_fold_entry T) (hr.mono (by decide)) (by rfl) T.m_fold_entry T.F_fold_entry.kp T.b_fold_entry .nil pass0 (pa_cons (pv 1) (pa_cons (pv 2) pa_nil)))))) (pss_one (ps_ret (pv 1)))))
theorem ok_law_logs (T : Tx K mg fn fd cl) : letI : Wo := ⟨P, w⟩; FnOk P w K mg base CX0 5 (fn 28) (fd 28) ["script", "first", "many"] (sp_law_logs K cl) := by
  haveI := T.cf
  letI : Wo := ⟨P, w⟩
  refine T.F_law_logs.ok sc_law_logs (fun vs H Q E h => by revert h; walk_at "ln") (fun cdv A outer s H vs Q E hr h => ⟨t_law_logs K cl, ?_, rd_law_logs h⟩)
  exact (pss_cons (ps_set (i := 3) sc_law_logs.nd rfl (.inl rfl) (pe_tup (pa_cons (pe_lc (own := [("k", 5)]) rfl sc_law_logs.nd (pi_range1 (by rfl) T.z_range (pa_cons (pe_int) pa_nil)) (blkOk_by (own := [("k", 5)]) (N := ["script", "first", "many", "world", "j", "k"]) (sc := defScope s_law_logs) (by decide +kernel)) (fun _ _ _ _ _ => (pg_name (i := 5) sc_law_logs.nd rfl (.inl rfl))) (fun _ _ _ _ _ => pts_nil) (fun _ _ _ _ _ => (pe_lst (pa_cons (pe_tup (pa_cons (pe_str) (pa_cons (pe_int) (pa_cons (pe_int) pa_nil)))) pa_nil)))) (pa_cons (pe_lst (pa_cons (pe_int) (pa_cons (pe_int) (pa_cons (pe_int) (pa_cons (pe_int) pa_nil))))) (pa_cons (pe_lst (pa_cons (pe_int) (pa_cons (pe_int) (pa_cons (pe_int) (pa_cons (pe_int) pa_nil))))) (pa_cons (pe_lst (pa_cons (pe_int) (pa_cons (pe_int) (pa_cons (pe_int) (pa_cons (pe_int) pa_nil))))) pa_nil)))))) (pss_cons (ps_for PassesOwn.never rfl (pi_range1 (by rfl) T.z_range (pa_cons (pv 2) pa_nil)) (pg_name (i := 4) sc_law_logs.nd rfl (.inl rfl)) (pss_one (ps_expr (pe_call (ok_law_call T) (hr.mono (by decide)) (by rfl) T.m_law_call T.F_law_call.kp T.b_law_call .nil pass0 (pa_cons (pe_call (ok_law_state T) (hr.mono (by decide)) (by rfl) T.m_law_state T.F_law_state.kp T.b_law_state .nil pass0 (pa_cons (pe_call (ok_law_cell T) (hr.mono (by decide)) (by rfl) T.m_law_cell T.F_law_cell.kp T.b_law_cell .nil pass0 (pa_cons (pv 0) (pa_cons (pe_op op_addA (pv 1) (pv 4)) pa_nil))) (pa_cons (pe_op op_addA (pv 1) (pv 4)) pa_nil))) (pa_cons (pv 3) (pa_cons (pv 4) pa_nil))))))) (pss_one (ps_ret (pe_ix ix_seq (pv 3) (pe_int) (fun _ _ => rfl))))))
theorem ok_law_records (T : Tx K mg fn fd cl) : letI : Wo := ⟨P, w⟩; FnOk P w K mg base CX0 6 (fn 30) (fd 30) ["script", "logs"] (sp_law_records K cl) := by
  haveI := T.cf
  letI : Wo := ⟨P, w⟩
  refine T.F_law_records.ok sc_law_records (fun vs H Q E h => by revert h; walk_at "ln") (fun cdv A outer s H vs Q E hr h => ⟨t_law_records K cl, ?_, rd_law_records h⟩)
  exact (pss_cons (ps_set (i := 2) sc_law_records.nd rfl (.inl rfl) (pe_lst pa_nil)) (pss_cons (ps_for PassesOwn.never rfl (pi_range1 (by rfl) T.z_range (pa_cons (pe_callB call_len (by rfl) T.z_len (by decide +kernel) (pa_cons (pv 1) pa_nil)) pa_nil)) (pg_name (i := 3) sc_law_records.nd rfl (.inl rfl)) (pss_cons (ps_set (i := 4) sc_law_records.nd rfl (.inl rfl) (pe_call (ok_law_state T) (hr.mono (by decide)) (by rfl) T.m_law_state T.F_law_state.kp T.b_law_state .nil pass0 (pa_cons (pe_call (ok_law_cell T) (hr.mono (by decide)) (by rfl) T.m_law_cell T.F_law_cell.kp T.b_law_cell .nil pass0 (pa_cons (pv 0) (pa_cons (pv 3) pa_nil))) (pa_cons (pe_op op_addA (pe_int) (pv 3)) pa_nil)))) (pss_cons (ps_set (i := 5) sc_law_records.nd rfl (.inl rfl) (pe_callB call_len (by rfl) T.z_len (by decide +kernel) (pa_cons (pe_ix ix_seq (pv 1) (pv 3) (fun _ _ => rfl)) pa_nil))) (pss_cons (ps_if (pt_cmpR (op_eqA hr.units) (pe_call (ok_law_digit T) (hr.mono (by decide)) (by rfl) T.m_law_digit T.F_law_digit.kp T.b_law_digit .nil pass0 (pa_cons (pv 4) (pa_cons (pe_int) pa_nil))) (pe_int) (nomark _)) (pss_one (ps_set (i := 5) sc_law_records.nd rfl (.inl rfl) (pe_call (ok_law_digit T) (hr.mono (by decide)) (by rfl) T.m_law_digit T.F_law_digit.kp T.b_law_digit .nil pass0 (pa_cons (pv 4) (pa_cons (pe_op op_addA (pv 5) (pe_int)) pa_nil))))) pss_nil) (pss_one (ps_set (i := 2) sc_law_records.nd rfl (.inl rfl) (pe_op op_addA (pv 2) (pe_call (ok_records_of T) (hr.mono (by decide)) (by rfl) T.m_records_of T.F_records_of.kp T.b_records_of .nil pass0 (pa_cons (pe_slice sl_any (pe_ix ix_seq (pv 1) (pv 3) (fun _ _ => rfl)) po_none (po_some (pv 5))) pa_nil))))))))) (pss_one (ps_ret (pv 2)))))
theorem ok_law (T : Tx K mg fn fd cl) : letI : Wo := ⟨P, w⟩; FnOk P w K mg base CX0 7 (fn 37) (fd 37) ["script"] (sp_law K cl) := by
  haveI := T.cf
  letI : Wo := ⟨P, w⟩
  refine T.F_law.ok sc_law (fun vs H Q E h => by revert h; walk_at "ln") (fun cdv A outer s H vs Q E hr h => ⟨t_law K cl, ?_, rd_law h⟩)
  exact (pss_cons (ps_set (i := 1) sc_law.nd rfl (.inl rfl) (pe_call (ok_law_noise T) (hr.mono (by decide)) (by rfl) T.m_law_noise T.F_law_noise.kp T.b_law_noise .nil pass0 (pa_cons (pv 0) (pa_cons (pe_call (ok_law_logs T) (hr.mono (by decide)) (by rfl) T.m_law_logs T.F_law_logs.kp T.b_law_logs .nil pass0 (pa_cons (pv 0) (pa_cons (pe_int) (pa_cons (pe_op op_addA (pe_int) (pe_op op_mul (pe_int) (pe_callTy call_int1 (by rfl) T.z_int (by decide +kernel) (pa_cons (pe_call (ok_law_large T) (hr.mono (by decide)) (by rfl) T.m_law_large T.F_law_large.kp T.b_law_large .nil pass0 (pa_cons (pv 0) pa_nil)) pa_nil)))) pa_nil)))) pa_nil)))) (pss_cons (ps_set (i := 2) sc_law.nd rfl (.inl rfl) (pe_call (ok_law_shuffled T) (hr.mono (by decide)) (by rfl) T.m_law_shuffled T.F_law_shuffled.kp T.b_law_shuffled .nil pass0 (pa_cons (pv 0) (pa_cons (pe_call (ok_law_records T) (hr.mono (by decide)) (by rfl) T.m_law_records T.F_law_records.kp T.b_law_records .nil pass0 (pa_cons (pv 0) (pa_cons (pv 1) pa_nil))) pa_nil)))) (pss_cons (ps_set (i := 3) sc_law.nd rfl (.inl rfl) (pe_lst pa_nil)) (pss_cons (ps_for PassesOwn.never rfl (pi_seq (pe_call (ok_law_heads T) (hr.mono (by decide)) (by rfl) T.m_law_heads T.F_law_heads.kp T.b_law_heads .nil pass0 (pa_cons (pv 2) pa_nil))) (pg_name (i := 4) sc_law.nd rfl (.inl rfl)) (pss_cons (ps_set (i := 5) sc_law.nd rfl (.inl rfl) (pe_call (ok_law_way T) (hr.mono (by decide)) (by rfl) T.m_law_way T.F_law_way.kp T.b_law_way .nil pass0 (pa_cons (pv 2) (pa_cons (pv 4) pa_nil)))) (pss_one (ps_expr (pe_bm PySem.F.plainAttrs_list PySem.F.slot_list_append PySem.F.type_list_append mt_append (pv 3) (pa_cons (pe_tup (pa_cons (pe_fld (pv 4) rfl) (pa_cons (pe_lc (own := [("leg", 7)]) rfl sc_law.nd (pi_seq (pv 5)) (blkOk_by (own := [("leg", 7)]) (N := ["script", "logs", "records", "due", "head", "way", "given", "leg"]) (sc := defScope s_law) (by decide +kernel)) (fun _ _ _ _ _ => (pg_name (i := 7) sc_law.nd rfl (.inl rfl))) (fun _ _ _ _ _ => pts_nil) (fun _ _ _ _ _ => (pe_fld (pv 7) rfl))) (pa_cons (pe_call (ok_law_beside T) (hr.mono (by decide)) (by rfl) T.m_law_beside T.F_law_beside.kp T.b_law_beside .nil pass0 (pa_cons (pv 2) (pa_cons (pv 5) pa_nil))) pa_nil)))) pa_nil)))))) (pss_cons (ps_set (i := 6) sc_law.nd rfl (.inl rfl) (pe_callTy call_list_of (by rfl) T.z_list (by decide +kernel) (pa_cons (pv 2) pa_nil))) (pss_cons (ps_if (PW.pt (pw_or (pt_cmpR (op_neA hr.units) (pe_call (ok_law_view T) (hr.mono (by decide)) (by rfl) T.m_law_view T.F_law_view.kp T.b_law_view .nil pass0 (pa_cons (pe_call (ok_join_calls T) (hr.mono (by decide)) (by rfl) T.m_join_calls T.F_join_calls.kp T.b_join_calls .nil pass0 (pa_cons (pv 6) pa_nil)) pa_nil)) (pv 3) (nomark _)) (pw_or1 (pt_cmpR (op_neRefs hr.units) (pv 6) (pv 2) (nomark _))))) (pss_one (ps_ret (pe_bl))) pss_nil) (pss_one (ps_ret (pe_cmpR (op_eqA hr.units) (pe_call (ok_law_view T) (hr.mono (by decide)) (by rfl) T.m_law_view T.F_law_view.kp T.b_law_view .nil pass0 (pa_cons (pe_call (ok_join_calls T) (hr.mono (by decide)) (by rfl) T.m_join_calls T.F_join_calls.kp T.b_join_calls .nil pass0 (pa_cons (pe_revL (pv 2)) pa_nil)) pa_nil)) (pv 3) (nomark _))))))))))
end
theorem all_mk {l : PySem.W.OpenLaw} {w : World} {K : PySem.W.Frag} {h : Heap} {mg : Str → Option Value} {fa : Addr} (X : K.In h) (G : h.Ns mainGlobals mg) (hfa : mg "law" = some (.ref fa))
    {f1 f4 f5 f6 f7 f8 f9 f10 f11 f12 f14 f15 f16 f17 f18 f19 f20 f21 f22 f23 f24 f25 f26 f27 f28 f29 f30 f31 f32 f33 f34 f35 f36 f37 : Addr}
    {c0 c1 : Addr}
    {od1 an1 : Option Addr} {sl1 : Array (Option Value)} {oc1 kV1 dc1 pm1 cd1 ct1 : Value}
    {od4 an4 : Option Addr} {sl4 : Array (Option Value)} {oc4 kV4 dc4 pm4 cd4 ct4 : Value}
    {od5 an5 : Option Addr} {sl5 : Array (Option Value)} {oc5 kV5 dc5 pm5 cd5 ct5 : Value}
    {od6 an6 : Option Addr} {sl6 : Array (Option Value)} {oc6 kV6 dc6 pm6 cd6 ct6 : Value}
    {od7 an7 : Option Addr} {sl7 : Array (Option Value)} {oc7 kV7 dc7 pm7 cd7 ct7 : Value}
    {od8 an8 : Option Addr} {sl8 : Array (Option Value)} {oc8 kV8 dc8 pm8 cd8 ct8 : Value}
    {od9 an9 : Option Addr} {sl9 : Array (Option Value)} {oc9 kV9 dc9 pm9 cd9 ct9 : Value}
    {od10 an10 : Option Addr} {sl10 : Array (Option Value)} {oc10 kV10 dc10 pm10 cd10 ct10 : Value}
    {od11 an11 : Option Addr} {sl11 : Array (Option Value)} {oc11 kV11 dc11 pm11 cd11 ct11 : Value}
    {od12 an12 : Option Addr} {sl12 : Array (Option Value)} {oc12 kV12 dc12 pm12 cd12 ct12 : Value}
    {od14 an14 : Option Addr} {sl14 : Array (Option Value)} {oc14 kV14 dc14 pm14 cd14 ct14 : Value}
    {od15 an15 : Option Addr} {sl15 : Array (Option Value)} {oc15 kV15 dc15 pm15 cd15 ct15 : Value}
    {od16 an16 : Option Addr} {sl16 : Array (Option Value)} {oc16 kV16 dc16 pm16 cd16 ct16 : Value}
    {od17 an17 : Option Addr} {sl17 : Array (Option Value)} {oc17 kV17 dc17 pm17 cd17 ct17 : Value}
    {od18 an18 : Option Addr} {sl18 : Array (Option Value)} {oc18 kV18 dc18 pm18 cd18 ct18 : Value}
    {od19 an19 : Option Addr} {sl19 : Array (Option Value)} {oc19 kV19 dc19 pm19 cd19 ct19 : Value}
    {od20 an20 : Option Addr} {sl20 : Array (Option Value)} {oc20 kV20 dc20 pm20 cd20 ct20 : Value}
    {od21 an21 : Option Addr} {sl21 : Array (Option Value)} {oc21 kV21 dc21 pm21 cd21 ct21 : Value}
    {od22 an22 : Option Addr} {sl22 : Array (Option Value)} {oc22 kV22 dc22 pm22 cd22 ct22 : Value}
    {od23 an23 : Option Addr} {sl23 : Array (Option Value)} {oc23 kV23 dc23 pm23 cd23 ct23 : Value}
    {od24 an24 : Option Addr} {sl24 : Array (Option Value)} {oc24 kV24 dc24 pm24 cd24 ct24 : Value}
    {od25 an25 : Option Addr} {sl25 : Array (Option Value)} {oc25 kV25 dc25 pm25 cd25 ct25 : Value}
    {od26 an26 : Option Addr} {sl26 : Array (Option Value)} {oc26 kV26 dc26 pm26 cd26 ct26 : Value}
    {od27 an27 : Option Addr} {sl27 : Array (Option Value)} {oc27 kV27 dc27 pm27 cd27 ct27 : Value}
    {od28 an28 : Option Addr} {sl28 : Array (Option Value)} {oc28 kV28 dc28 pm28 cd28 ct28 : Value}
    {od29 an29 : Option Addr} {sl29 : Array (Option Value)} {oc29 kV29 dc29 pm29 cd29 ct29 : Value}
    {od30 an30 : Option Addr} {sl30 : Array (Option Value)} {oc30 kV30 dc30 pm30 cd30 ct30 : Value}
    {od31 an31 : Option Addr} {sl31 : Array (Option Value)} {oc31 kV31 dc31 pm31 cd31 ct31 : Value}
    {od32 an32 : Option Addr} {sl32 : Array (Option Value)} {oc32 kV32 dc32 pm32 cd32 ct32 : Value}
    {od33 an33 : Option Addr} {sl33 : Array (Option Value)} {oc33 kV33 dc33 pm33 cd33 ct33 : Value}
    {od34 an34 : Option Addr} {sl34 : Array (Option Value)} {oc34 kV34 dc34 pm34 cd34 ct34 : Value}
    {od35 an35 : Option Addr} {sl35 : Array (Option Value)} {oc35 kV35 dc35 pm35 cd35 ct35 : Value}
    {od36 an36 : Option Addr} {sl36 : Array (Option Value)} {oc36 kV36 dc36 pm36 cd36 ct36 : Value}
    {od37 an37 : Option Addr} {sl37 : Array (Option Value)} {oc37 kV37 dc37 pm37 cd37 ct37 : Value}
    {c2 : Addr} {tod2 : Option Addr} {tn2 : Nat} {tsl2 : Array (Option Value)} {tt2_0 : Tok} {tt2_1 : Tok}
    {c3 : Addr} {tod3 : Option Addr} {tn3 : Nat} {tsl3 : Array (Option Value)} {tt3_0 : Tok} {tt3_1 : Tok}
    (ca0 : PySem.W.nsIn K mainGlobals "JoinedCall" = some (some (.ref c0)))
    (mk0 : PySem.W.makesIn K c0 = true)
    (kc0 : PySem.W.keepIn K (.ref c0) = true)
    (pg0 : PySem.W.plainGet K c0 Str.empty = true)
    (hd0 : PySem.W.hasDictIn K c0 = true)
    (po0 : PySem.W.plainOver K c0 = true)
    (sa0 : PySem.W.findIn K (.ref c0) "__setattr__" = some (some (.builtin "object.__setattr__")))
    (n0_0 : PySem.W.findIn K (.ref c0) "head" = some none)
    (n0_1 : PySem.W.findIn K (.ref c0) "legs" = some none)
    (n0_2 : PySem.W.findIn K (.ref c0) "sides" = some none)
    (ca1 : PySem.W.nsIn K mainGlobals "Record" = some (some (.ref c1)))
    (mk1 : PySem.W.makesIn K c1 = true)
    (kc1 : PySem.W.keepIn K (.ref c1) = true)
    (pg1 : PySem.W.plainGet K c1 Str.empty = true)
    (hd1 : PySem.W.hasDictIn K c1 = true)
    (po1 : PySem.W.plainOver K c1 = true)
    (sa1 : PySem.W.findIn K (.ref c1) "__setattr__" = some (some (.builtin "object.__setattr__")))
    (n1_0 : PySem.W.findIn K (.ref c1) "call_id" = some none)
    (n1_1 : PySem.W.findIn K (.ref c1) "role" = some none)
    (n1_2 : PySem.W.findIn K (.ref c1) "caller" = some none)
    (n1_3 : PySem.W.findIn K (.ref c1) "called" = some none)
    (n1_4 : PySem.W.findIn K (.ref c1) "payer" = some none)
    (n1_5 : PySem.W.findIn K (.ref c1) "came" = some none)
    (n1_6 : PySem.W.findIn K (.ref c1) "went" = some none)
    (n1_7 : PySem.W.findIn K (.ref c1) "parent" = some none)
    (n1_8 : PySem.W.findIn K (.ref c1) "opened_at" = some none)
    (n1_9 : PySem.W.findIn K (.ref c1) "confirmed" = some none)
    (n1_10 : PySem.W.findIn K (.ref c1) "closed_at" = some none)
    (n1_11 : PySem.W.findIn K (.ref c1) "cause" = some none)
    (a1 : PySem.W.findIn K (.ref c0) "__init__" = some (some (.ref f1)))
    (i1 : PySem.W.isFn K (.ref f1) = true)
    (l1 : K.lookup f1 = some ⟨oc1, od1, .func (PySem.W.fnOf "__init__" "JoinedCall.__init__" (defArgs s_JoinedCall_init) (defBody s_JoinedCall_init) (defScope s_JoinedCall_init) .none kV1 dc1 pm1 an1 cd1 ct1), sl1⟩)
    (k1 : PySem.W.codeIn K cd1 "JoinedCall.__init__" = true)
    (p1 : PySem.W.keepIn K (.ref f1) = true)
    (a4 : PySem.W.nsIn K mainGlobals "id_of" = some (some (.ref f4)))
    (l4 : K.lookup f4 = some ⟨oc4, od4, .func (PySem.W.fnOf "id_of" "id_of" (defArgs s_id_of) (defBody s_id_of) (defScope s_id_of) .none kV4 dc4 pm4 an4 cd4 ct4), sl4⟩)
    (k4 : PySem.W.codeIn K cd4 "id_of" = true)
    (p4 : PySem.W.keepIn K (.ref f4) = true)
    (a5 : PySem.W.nsIn K mainGlobals "head_place" = some (some (.ref f5)))
    (l5 : K.lookup f5 = some ⟨oc5, od5, .func (PySem.W.fnOf "head_place" "head_place" (defArgs s_head_place) (defBody s_head_place) (defScope s_head_place) .none kV5 dc5 pm5 an5 cd5 ct5), sl5⟩)
    (k5 : PySem.W.codeIn K cd5 "head_place" = true)
    (p5 : PySem.W.keepIn K (.ref f5) = true)
    (a6 : PySem.W.nsIn K mainGlobals "legs_by_circuit" = some (some (.ref f6)))
    (l6 : K.lookup f6 = some ⟨oc6, od6, .func (PySem.W.fnOf "legs_by_circuit" "legs_by_circuit" (defArgs s_legs_by_circuit) (defBody s_legs_by_circuit) (defScope s_legs_by_circuit) .none kV6 dc6 pm6 an6 cd6 ct6), sl6⟩)
    (k6 : PySem.W.codeIn K cd6 "legs_by_circuit" = true)
    (p6 : PySem.W.keepIn K (.ref f6) = true)
    (a7 : PySem.W.nsIn K mainGlobals "sides_by_parent" = some (some (.ref f7)))
    (l7 : K.lookup f7 = some ⟨oc7, od7, .func (PySem.W.fnOf "sides_by_parent" "sides_by_parent" (defArgs s_sides_by_parent) (defBody s_sides_by_parent) (defScope s_sides_by_parent) .none kV7 dc7 pm7 an7 cd7 ct7), sl7⟩)
    (k7 : PySem.W.codeIn K cd7 "sides_by_parent" = true)
    (p7 : PySem.W.keepIn K (.ref f7) = true)
    (a8 : PySem.W.nsIn K mainGlobals "next_leg" = some (some (.ref f8)))
    (l8 : K.lookup f8 = some ⟨oc8, od8, .func (PySem.W.fnOf "next_leg" "next_leg" (defArgs s_next_leg) (defBody s_next_leg) (defScope s_next_leg) .none kV8 dc8 pm8 an8 cd8 ct8), sl8⟩)
    (k8 : PySem.W.codeIn K cd8 "next_leg" = true)
    (p8 : PySem.W.keepIn K (.ref f8) = true)
    (a9 : PySem.W.nsIn K mainGlobals "path_of" = some (some (.ref f9)))
    (l9 : K.lookup f9 = some ⟨oc9, od9, .func (PySem.W.fnOf "path_of" "path_of" (defArgs s_path_of) (defBody s_path_of) (defScope s_path_of) .none kV9 dc9 pm9 an9 cd9 ct9), sl9⟩)
    (k9 : PySem.W.codeIn K cd9 "path_of" = true)
    (p9 : PySem.W.keepIn K (.ref f9) = true)
    (a10 : PySem.W.nsIn K mainGlobals "join_calls" = some (some (.ref f10)))
    (l10 : K.lookup f10 = some ⟨oc10, od10, .func (PySem.W.fnOf "join_calls" "join_calls" (defArgs s_join_calls) (defBody s_join_calls) (defScope s_join_calls) .none kV10 dc10 pm10 an10 cd10 ct10), sl10⟩)
    (k10 : PySem.W.codeIn K cd10 "join_calls" = true)
    (p10 : PySem.W.keepIn K (.ref f10) = true)
    (a11 : PySem.W.findIn K (.ref c1) "__init__" = some (some (.ref f11)))
    (i11 : PySem.W.isFn K (.ref f11) = true)
    (l11 : K.lookup f11 = some ⟨oc11, od11, .func (PySem.W.fnOf "__init__" "Record.__init__" (defArgs s_Record_init) (defBody s_Record_init) (defScope s_Record_init) .none kV11 dc11 pm11 an11 cd11 ct11), sl11⟩)
    (k11 : PySem.W.codeIn K cd11 "Record.__init__" = true)
    (p11 : PySem.W.keepIn K (.ref f11) = true)
    (a12 : PySem.W.findIn K (.ref c1) "is_open" = some (some (.ref f12)))
    (i12 : PySem.W.isFn K (.ref f12) = true)
    (l12 : K.lookup f12 = some ⟨oc12, od12, .func (PySem.W.fnOf "is_open" "Record.is_open" (defArgs s_Record_is_open) (defBody s_Record_is_open) (defScope s_Record_is_open) .none kV12 dc12 pm12 an12 cd12 ct12), sl12⟩)
    (k12 : PySem.W.codeIn K cd12 "Record.is_open" = true)
    (p12 : PySem.W.keepIn K (.ref f12) = true)
    (a14 : PySem.W.nsIn K mainGlobals "belongs" = some (some (.ref f14)))
    (l14 : K.lookup f14 = some ⟨oc14, od14, .func (PySem.W.fnOf "belongs" "belongs" (defArgs s_belongs) (defBody s_belongs) (defScope s_belongs) .none kV14 dc14 pm14 an14 cd14 ct14), sl14⟩)
    (k14 : PySem.W.codeIn K cd14 "belongs" = true)
    (p14 : PySem.W.keepIn K (.ref f14) = true)
    (a15 : PySem.W.nsIn K mainGlobals "close_record" = some (some (.ref f15)))
    (l15 : K.lookup f15 = some ⟨oc15, od15, .func (PySem.W.fnOf "close_record" "close_record" (defArgs s_close_record) (defBody s_close_record) (defScope s_close_record) .none kV15 dc15 pm15 an15 cd15 ct15), sl15⟩)
    (k15 : PySem.W.codeIn K cd15 "close_record" = true)
    (p15 : PySem.W.keepIn K (.ref f15) = true)
    (a16 : PySem.W.nsIn K mainGlobals "record_from" = some (some (.ref f16)))
    (l16 : K.lookup f16 = some ⟨oc16, od16, .func (PySem.W.fnOf "record_from" "record_from" (defArgs s_record_from) (defBody s_record_from) (defScope s_record_from) .none kV16 dc16 pm16 an16 cd16 ct16), sl16⟩)
    (k16 : PySem.W.codeIn K cd16 "record_from" = true)
    (p16 : PySem.W.keepIn K (.ref f16) = true)
    (a17 : PySem.W.nsIn K mainGlobals "fold_entry" = some (some (.ref f17)))
    (l17 : K.lookup f17 = some ⟨oc17, od17, .func (PySem.W.fnOf "fold_entry" "fold_entry" (defArgs s_fold_entry) (defBody s_fold_entry) (defScope s_fold_entry) .none kV17 dc17 pm17 an17 cd17 ct17), sl17⟩)
    (k17 : PySem.W.codeIn K cd17 "fold_entry" = true)
    (p17 : PySem.W.keepIn K (.ref f17) = true)
    (a18 : PySem.W.nsIn K mainGlobals "records_of" = some (some (.ref f18)))
    (l18 : K.lookup f18 = some ⟨oc18, od18, .func (PySem.W.fnOf "records_of" "records_of" (defArgs s_records_of) (defBody s_records_of) (defScope s_records_of) .none kV18 dc18 pm18 an18 cd18 ct18), sl18⟩)
    (k18 : PySem.W.codeIn K cd18 "records_of" = true)
    (p18 : PySem.W.keepIn K (.ref f18) = true)
    (a19 : PySem.W.nsIn K mainGlobals "_law_cell" = some (some (.ref f19)))
    (l19 : K.lookup f19 = some ⟨oc19, od19, .func (PySem.W.fnOf "_law_cell" "_law_cell" (defArgs s_law_cell) (defBody s_law_cell) (defScope s_law_cell) .none kV19 dc19 pm19 an19 cd19 ct19), sl19⟩)
    (k19 : PySem.W.codeIn K cd19 "_law_cell" = true)
    (p19 : PySem.W.keepIn K (.ref f19) = true)
    (a20 : PySem.W.nsIn K mainGlobals "_law_state" = some (some (.ref f20)))
    (l20 : K.lookup f20 = some ⟨oc20, od20, .func (PySem.W.fnOf "_law_state" "_law_state" (defArgs s_law_state) (defBody s_law_state) (defScope s_law_state) .none kV20 dc20 pm20 an20 cd20 ct20), sl20⟩)
    (k20 : PySem.W.codeIn K cd20 "_law_state" = true)
    (p20 : PySem.W.keepIn K (.ref f20) = true)
    (a21 : PySem.W.nsIn K mainGlobals "_law_digit" = some (some (.ref f21)))
    (l21 : K.lookup f21 = some ⟨oc21, od21, .func (PySem.W.fnOf "_law_digit" "_law_digit" (defArgs s_law_digit) (defBody s_law_digit) (defScope s_law_digit) .none kV21 dc21 pm21 an21 cd21 ct21), sl21⟩)
    (k21 : PySem.W.codeIn K cd21 "_law_digit" = true)
    (p21 : PySem.W.keepIn K (.ref f21) = true)
    (a22 : PySem.W.nsIn K mainGlobals "_law_take" = some (some (.ref f22)))
    (l22 : K.lookup f22 = some ⟨oc22, od22, .func (PySem.W.fnOf "_law_take" "_law_take" (defArgs s_law_take) (defBody s_law_take) (defScope s_law_take) .none kV22 dc22 pm22 an22 cd22 ct22), sl22⟩)
    (k22 : PySem.W.codeIn K cd22 "_law_take" = true)
    (p22 : PySem.W.keepIn K (.ref f22) = true)
    (a23 : PySem.W.nsIn K mainGlobals "_law_time" = some (some (.ref f23)))
    (l23 : K.lookup f23 = some ⟨oc23, od23, .func (PySem.W.fnOf "_law_time" "_law_time" (defArgs s_law_time) (defBody s_law_time) (defScope s_law_time) .none kV23 dc23 pm23 an23 cd23 ct23), sl23⟩)
    (k23 : PySem.W.codeIn K cd23 "_law_time" = true)
    (p23 : PySem.W.keepIn K (.ref f23) = true)
    (a24 : PySem.W.nsIn K mainGlobals "_law_role" = some (some (.ref f24)))
    (l24 : K.lookup f24 = some ⟨oc24, od24, .func (PySem.W.fnOf "_law_role" "_law_role" (defArgs s_law_role) (defBody s_law_role) (defScope s_law_role) .none kV24 dc24 pm24 an24 cd24 ct24), sl24⟩)
    (k24 : PySem.W.codeIn K cd24 "_law_role" = true)
    (p24 : PySem.W.keepIn K (.ref f24) = true)
    (a25 : PySem.W.nsIn K mainGlobals "_law_open" = some (some (.ref f25)))
    (l25 : K.lookup f25 = some ⟨oc25, od25, .func (PySem.W.fnOf "_law_open" "_law_open" (defArgs s_law_open) (defBody s_law_open) (defScope s_law_open) .none kV25 dc25 pm25 an25 cd25 ct25), sl25⟩)
    (k25 : PySem.W.codeIn K cd25 "_law_open" = true)
    (p25 : PySem.W.keepIn K (.ref f25) = true)
    (a26 : PySem.W.nsIn K mainGlobals "_law_close" = some (some (.ref f26)))
    (l26 : K.lookup f26 = some ⟨oc26, od26, .func (PySem.W.fnOf "_law_close" "_law_close" (defArgs s_law_close) (defBody s_law_close) (defScope s_law_close) .none kV26 dc26 pm26 an26 cd26 ct26), sl26⟩)
    (k26 : PySem.W.codeIn K cd26 "_law_close" = true)
    (p26 : PySem.W.keepIn K (.ref f26) = true)
    (a27 : PySem.W.nsIn K mainGlobals "_law_call" = some (some (.ref f27)))
    (l27 : K.lookup f27 = some ⟨oc27, od27, .func (PySem.W.fnOf "_law_call" "_law_call" (defArgs s_law_call) (defBody s_law_call) (defScope s_law_call) .none kV27 dc27 pm27 an27 cd27 ct27), sl27⟩)
    (k27 : PySem.W.codeIn K cd27 "_law_call" = true)
    (p27 : PySem.W.keepIn K (.ref f27) = true)
    (a28 : PySem.W.nsIn K mainGlobals "_law_logs" = some (some (.ref f28)))
    (l28 : K.lookup f28 = some ⟨oc28, od28, .func (PySem.W.fnOf "_law_logs" "_law_logs" (defArgs s_law_logs) (defBody s_law_logs) (defScope s_law_logs) .none kV28 dc28 pm28 an28 cd28 ct28), sl28⟩)
    (k28 : PySem.W.codeIn K cd28 "_law_logs" = true)
    (p28 : PySem.W.keepIn K (.ref f28) = true)
    (a29 : PySem.W.nsIn K mainGlobals "_law_shuffled" = some (some (.ref f29)))
    (l29 : K.lookup f29 = some ⟨oc29, od29, .func (PySem.W.fnOf "_law_shuffled" "_law_shuffled" (defArgs s_law_shuffled) (defBody s_law_shuffled) (defScope s_law_shuffled) .none kV29 dc29 pm29 an29 cd29 ct29), sl29⟩)
    (k29 : PySem.W.codeIn K cd29 "_law_shuffled" = true)
    (p29 : PySem.W.keepIn K (.ref f29) = true)
    (a30 : PySem.W.nsIn K mainGlobals "_law_records" = some (some (.ref f30)))
    (l30 : K.lookup f30 = some ⟨oc30, od30, .func (PySem.W.fnOf "_law_records" "_law_records" (defArgs s_law_records) (defBody s_law_records) (defScope s_law_records) .none kV30 dc30 pm30 an30 cd30 ct30), sl30⟩)
    (k30 : PySem.W.codeIn K cd30 "_law_records" = true)
    (p30 : PySem.W.keepIn K (.ref f30) = true)
    (a31 : PySem.W.nsIn K mainGlobals "_law_way" = some (some (.ref f31)))
    (l31 : K.lookup f31 = some ⟨oc31, od31, .func (PySem.W.fnOf "_law_way" "_law_way" (defArgs s_law_way) (defBody s_law_way) (defScope s_law_way) .none kV31 dc31 pm31 an31 cd31 ct31), sl31⟩)
    (k31 : PySem.W.codeIn K cd31 "_law_way" = true)
    (p31 : PySem.W.keepIn K (.ref f31) = true)
    (a32 : PySem.W.nsIn K mainGlobals "_law_beside" = some (some (.ref f32)))
    (l32 : K.lookup f32 = some ⟨oc32, od32, .func (PySem.W.fnOf "_law_beside" "_law_beside" (defArgs s_law_beside) (defBody s_law_beside) (defScope s_law_beside) .none kV32 dc32 pm32 an32 cd32 ct32), sl32⟩)
    (k32 : PySem.W.codeIn K cd32 "_law_beside" = true)
    (p32 : PySem.W.keepIn K (.ref f32) = true)
    (a33 : PySem.W.nsIn K mainGlobals "_law_heads" = some (some (.ref f33)))
    (l33 : K.lookup f33 = some ⟨oc33, od33, .func (PySem.W.fnOf "_law_heads" "_law_heads" (defArgs s_law_heads) (defBody s_law_heads) (defScope s_law_heads) .none kV33 dc33 pm33 an33 cd33 ct33), sl33⟩)
    (k33 : PySem.W.codeIn K cd33 "_law_heads" = true)
    (p33 : PySem.W.keepIn K (.ref f33) = true)
    (a34 : PySem.W.nsIn K mainGlobals "_law_noise" = some (some (.ref f34)))
    (l34 : K.lookup f34 = some ⟨oc34, od34, .func (PySem.W.fnOf "_law_noise" "_law_noise" (defArgs s_law_noise) (defBody s_law_noise) (defScope s_law_noise) .none kV34 dc34 pm34 an34 cd34 ct34), sl34⟩)
    (k34 : PySem.W.codeIn K cd34 "_law_noise" = true)
    (p34 : PySem.W.keepIn K (.ref f34) = true)
    (a35 : PySem.W.nsIn K mainGlobals "_law_view" = some (some (.ref f35)))
    (l35 : K.lookup f35 = some ⟨oc35, od35, .func (PySem.W.fnOf "_law_view" "_law_view" (defArgs s_law_view) (defBody s_law_view) (defScope s_law_view) .none kV35 dc35 pm35 an35 cd35 ct35), sl35⟩)
    (k35 : PySem.W.codeIn K cd35 "_law_view" = true)
    (p35 : PySem.W.keepIn K (.ref f35) = true)
    (a36 : PySem.W.nsIn K mainGlobals "_law_large" = some (some (.ref f36)))
    (l36 : K.lookup f36 = some ⟨oc36, od36, .func (PySem.W.fnOf "_law_large" "_law_large" (defArgs s_law_large) (defBody s_law_large) (defScope s_law_large) .none kV36 dc36 pm36 an36 cd36 ct36), sl36⟩)
    (k36 : PySem.W.codeIn K cd36 "_law_large" = true)
    (p36 : PySem.W.keepIn K (.ref f36) = true)
    (a37 : PySem.W.nsIn K mainGlobals "law" = some (some (.ref f37)))
    (l37 : K.lookup f37 = some ⟨oc37, od37, .func (PySem.W.fnOf "law" "law" (defArgs s_law) (defBody s_law) (defScope s_law) .none kV37 dc37 pm37 an37 cd37 ct37), sl37⟩)
    (k37 : PySem.W.codeIn K cd37 "law" = true)
    (p37 : PySem.W.keepIn K (.ref f37) = true)
    (z_int : PySem.W.nsIn K mainGlobals "int" = some none)
    (z_len : PySem.W.nsIn K mainGlobals "len" = some none)
    (z_list : PySem.W.nsIn K mainGlobals "list" = some none)
    (z_range : PySem.W.nsIn K mainGlobals "range" = some none)
    (z_sorted : PySem.W.nsIn K mainGlobals "sorted" = some none)
    (z_str : PySem.W.nsIn K mainGlobals "str" = some none)
    (g_HEAD_ROLES : PySem.W.nsIn K mainGlobals "HEAD_ROLES" = some (some (.ref c2)))
    (lt_HEAD_ROLES : K.lookup c2 = some ⟨.type "tuple", tod2, .seq #[.str "origin" tt2_0, .str "both" tt2_1] tn2, tsl2⟩)
    (g_LEG_ROLES : PySem.W.nsIn K mainGlobals "LEG_ROLES" = some (some (.ref c3)))
    (lt_LEG_ROLES : K.lookup c3 = some ⟨.type "tuple", tod3, .seq #[.str "transit" tt3_0, .str "end" tt3_1] tn3, tsl3⟩)
    : ∃ fd : FuncData, (∀ (s : Shared) (v : Value), BindsTo s fd ⟨[v], []⟩ [("script", v)]) ∧ ∀ base : Heap, K.In base → base.Ns mainGlobals mg → FnOk l.prog w K mg base CX0 7 fa fd ["script"] (sp_law0 K) := by
  have e := hfa.symm.trans (PySem.W.mg_of X G a37)
  cases e
  have F1 := fun_mk (st := s_JoinedCall_init) l1 k1 p1
  have b1 := F1.binds (ps := ["self", "head", "path", "sides"]) fun _ _ _ _ _ _ us hl => match us, hl with | [_, _, _, _], _ => rfl
  have F4 := fun_mk (st := s_id_of) l4 k4 p4
  have b4 := F4.binds (ps := ["record"]) fun _ _ _ _ _ _ us hl => match us, hl with | [_], _ => rfl
  have F5 := fun_mk (st := s_head_place) l5 k5 p5
  have b5 := F5.binds (ps := ["record"]) fun _ _ _ _ _ _ us hl => match us, hl with | [_], _ => rfl
  have F6 := fun_mk (st := s_legs_by_circuit) l6 k6 p6
  have b6 := F6.binds (ps := ["records"]) fun _ _ _ _ _ _ us hl => match us, hl with | [_], _ => rfl
  have F7 := fun_mk (st := s_sides_by_parent) l7 k7 p7
  have b7 := F7.binds (ps := ["records"]) fun _ _ _ _ _ _ us hl => match us, hl with | [_], _ => rfl
  have F8 := fun_mk (st := s_next_leg) l8 k8 p8
  have b8 := F8.binds (ps := ["legs", "reference", "used"]) fun _ _ _ _ _ _ us hl => match us, hl with | [_, _, _], _ => rfl
  have F9 := fun_mk (st := s_path_of) l9 k9 p9
  have b9 := F9.binds (ps := ["head", "legs"]) fun _ _ _ _ _ _ us hl => match us, hl with | [_, _], _ => rfl
  have F10 := fun_mk (st := s_join_calls) l10 k10 p10
  have b10 := F10.binds (ps := ["records"]) fun _ _ _ _ _ _ us hl => match us, hl with | [_], _ => rfl
  have F11 := fun_mk (st := s_Record_init) l11 k11 p11
  have b11 := F11.binds (ps := ["self", "call_id", "role", "caller", "called", "payer", "came", "went", "parent", "opened_at"]) fun _ _ _ _ _ _ us hl => match us, hl with | [_, _, _, _, _, _, _, _, _, _], _ => rfl
  have F12 := fun_mk (st := s_Record_is_open) l12 k12 p12
  have b12 := F12.binds (ps := ["self"]) fun _ _ _ _ _ _ us hl => match us, hl with | [_], _ => rfl
  have F14 := fun_mk (st := s_belongs) l14 k14 p14
  have b14 := F14.binds (ps := ["record", "call_id"]) fun _ _ _ _ _ _ us hl => match us, hl with | [_, _], _ => rfl
  have F15 := fun_mk (st := s_close_record) l15 k15 p15
  have b15 := F15.binds (ps := ["record", "cause", "at"]) fun _ _ _ _ _ _ us hl => match us, hl with | [_, _, _], _ => rfl
  have F16 := fun_mk (st := s_record_from) l16 k16 p16
  have b16 := F16.binds (ps := ["entry"]) fun _ _ _ _ _ _ us hl => match us, hl with | [_], _ => rfl
  have F17 := fun_mk (st := s_fold_entry) l17 k17 p17
  have b17 := F17.binds (ps := ["records", "entry"]) fun _ _ _ _ _ _ us hl => match us, hl with | [_, _], _ => rfl
  have F18 := fun_mk (st := s_records_of) l18 k18 p18
  have b18 := F18.binds (ps := ["entries"]) fun _ _ _ _ _ _ us hl => match us, hl with | [_], _ => rfl
  have F19 := fun_mk (st := s_law_cell) l19 k19 p19
  have b19 := F19.binds (ps := ["script", "k"]) fun _ _ _ _ _ _ us hl => match us, hl with | [_, _], _ => rfl
  have F20 := fun_mk (st := s_law_state) l20 k20 p20
  have b20 := F20.binds (ps := ["cell", "k"]) fun _ _ _ _ _ _ us hl => match us, hl with | [_, _], _ => rfl
  have F21 := fun_mk (st := s_law_digit) l21 k21 p21
  have b21 := F21.binds (ps := ["state", "many"]) fun _ _ _ _ _ _ us hl => match us, hl with | [_, _], _ => rfl
  have F22 := fun_mk (st := s_law_take) l22 k22 p22
  have b22 := F22.binds (ps := ["counts", "place"]) fun _ _ _ _ _ _ us hl => match us, hl with | [_, _], _ => rfl
  have F23 := fun_mk (st := s_law_time) l23 k23 p23
  have b23 := F23.binds (ps := ["state", "clocks", "place"]) fun _ _ _ _ _ _ us hl => match us, hl with | [_, _, _], _ => rfl
  have F24 := fun_mk (st := s_law_role) l24 k24 p24
  have b24 := F24.binds (ps := ["k", "legs"]) fun _ _ _ _ _ _ us hl => match us, hl with | [_, _], _ => rfl
  have F25 := fun_mk (st := s_law_open) l25 k25 p25
  have b25 := F25.binds (ps := ["state", "world", "place", "role", "caller", "came", "went"]) fun _ _ _ _ _ _ us hl => match us, hl with | [_, _, _, _, _, _, _], _ => rfl
  have F26 := fun_mk (st := s_law_close) l26 k26 p26
  have b26 := F26.binds (ps := ["state", "world", "place", "found"]) fun _ _ _ _ _ _ us hl => match us, hl with | [_, _, _, _], _ => rfl
  have F27 := fun_mk (st := s_law_call) l27 k27 p27
  have b27 := F27.binds (ps := ["state", "world", "j"]) fun _ _ _ _ _ _ us hl => match us, hl with | [_, _, _], _ => rfl
  have F28 := fun_mk (st := s_law_logs) l28 k28 p28
  have b28 := F28.binds (ps := ["script", "first", "many"]) fun _ _ _ _ _ _ us hl => match us, hl with | [_, _, _], _ => rfl
  have F29 := fun_mk (st := s_law_shuffled) l29 k29 p29
  have b29 := F29.binds (ps := ["script", "things"]) fun _ _ _ _ _ _ us hl => match us, hl with | [_, _], _ => rfl
  have F30 := fun_mk (st := s_law_records) l30 k30 p30
  have b30 := F30.binds (ps := ["script", "logs"]) fun _ _ _ _ _ _ us hl => match us, hl with | [_, _], _ => rfl
  have F31 := fun_mk (st := s_law_way) l31 k31 p31
  have b31 := F31.binds (ps := ["records", "head"]) fun _ _ _ _ _ _ us hl => match us, hl with | [_, _], _ => rfl
  have F32 := fun_mk (st := s_law_beside) l32 k32 p32
  have b32 := F32.binds (ps := ["records", "way"]) fun _ _ _ _ _ _ us hl => match us, hl with | [_, _], _ => rfl
  have F33 := fun_mk (st := s_law_heads) l33 k33 p33
  have b33 := F33.binds (ps := ["records"]) fun _ _ _ _ _ _ us hl => match us, hl with | [_], _ => rfl
  have F34 := fun_mk (st := s_law_noise) l34 k34 p34
  have b34 := F34.binds (ps := ["script", "logs"]) fun _ _ _ _ _ _ us hl => match us, hl with | [_, _], _ => rfl
  have F35 := fun_mk (st := s_law_view) l35 k35 p35
  have b35 := F35.binds (ps := ["calls"]) fun _ _ _ _ _ _ us hl => match us, hl with | [_], _ => rfl
  have F36 := fun_mk (st := s_law_large) l36 k36 p36
  have b36 := F36.binds (ps := ["script"]) fun _ _ _ _ _ _ us hl => match us, hl with | [_], _ => rfl
  have F37 := fun_mk (st := s_law) l37 k37 p37
  have b37 := F37.binds (ps := ["script"]) fun _ _ _ _ _ _ us hl => match us, hl with | [_], _ => rfl
  let fn : Nat → Addr := fun i => [0, f1, 0, 0, f4, f5, f6, f7, f8, f9, f10, f11, f12, 0, f14, f15, f16, f17, f18, f19, f20, f21, f22, f23, f24, f25, f26, f27, f28, f29, f30, f31, f32, f33, f34, f35, f36, fa].getD i 0
  let fd : Nat → FuncData := fun i => [PySem.W.fnOf "law" "law" (defArgs s_law) (defBody s_law) (defScope s_law) .none kV37 dc37 pm37 an37 cd37 ct37, PySem.W.fnOf "__init__" "JoinedCall.__init__" (defArgs s_JoinedCall_init) (defBody s_JoinedCall_init) (defScope s_JoinedCall_init) .none kV1 dc1 pm1 an1 cd1 ct1, PySem.W.fnOf "law" "law" (defArgs s_law) (defBody s_law) (defScope s_law) .none kV37 dc37 pm37 an37 cd37 ct37, PySem.W.fnOf "law" "law" (defArgs s_law) (defBody s_law) (defScope s_law) .none kV37 dc37 pm37 an37 cd37 ct37, PySem.W.fnOf "id_of" "id_of" (defArgs s_id_of) (defBody s_id_of) (defScope s_id_of) .none kV4 dc4 pm4 an4 cd4 ct4, PySem.W.fnOf "head_place" "head_place" (defArgs s_head_place) (defBody s_head_place) (defScope s_head_place) .none kV5 dc5 pm5 an5 cd5 ct5, PySem.W.fnOf "legs_by_circuit" "legs_by_circuit" (defArgs s_legs_by_circuit) (defBody s_legs_by_circuit) (defScope s_legs_by_circuit) .none kV6 dc6 pm6 an6 cd6 ct6, PySem.W.fnOf "sides_by_parent" "sides_by_parent" (defArgs s_sides_by_parent) (defBody s_sides_by_parent) (defScope s_sides_by_parent) .none kV7 dc7 pm7 an7 cd7 ct7, PySem.W.fnOf "next_leg" "next_leg" (defArgs s_next_leg) (defBody s_next_leg) (defScope s_next_leg) .none kV8 dc8 pm8 an8 cd8 ct8, PySem.W.fnOf "path_of" "path_of" (defArgs s_path_of) (defBody s_path_of) (defScope s_path_of) .none kV9 dc9 pm9 an9 cd9 ct9, PySem.W.fnOf "join_calls" "join_calls" (defArgs s_join_calls) (defBody s_join_calls) (defScope s_join_calls) .none kV10 dc10 pm10 an10 cd10 ct10, PySem.W.fnOf "__init__" "Record.__init__" (defArgs s_Record_init) (defBody s_Record_init) (defScope s_Record_init) .none kV11 dc11 pm11 an11 cd11 ct11, PySem.W.fnOf "is_open" "Record.is_open" (defArgs s_Record_is_open) (defBody s_Record_is_open) (defScope s_Record_is_open) .none kV12 dc12 pm12 an12 cd12 ct12, PySem.W.fnOf "law" "law" (defArgs s_law) (defBody s_law) (defScope s_law) .none kV37 dc37 pm37 an37 cd37 ct37, PySem.W.fnOf "belongs" "belongs" (defArgs s_belongs) (defBody s_belongs) (defScope s_belongs) .none kV14 dc14 pm14 an14 cd14 ct14, PySem.W.fnOf "close_record" "close_record" (defArgs s_close_record) (defBody s_close_record) (defScope s_close_record) .none kV15 dc15 pm15 an15 cd15 ct15, PySem.W.fnOf "record_from" "record_from" (defArgs s_record_from) (defBody s_record_from) (defScope s_record_from) .none kV16 dc16 pm16 an16 cd16 ct16, PySem.W.fnOf "fold_entry" "fold_entry" (defArgs s_fold_entry) (defBody s_fold_entry) (defScope s_fold_entry) .none kV17 dc17 pm17 an17 cd17 ct17, PySem.W.fnOf "records_of" "records_of" (defArgs s_records_of) (defBody s_records_of) (defScope s_records_of) .none kV18 dc18 pm18 an18 cd18 ct18, PySem.W.fnOf "_law_cell" "_law_cell" (defArgs s_law_cell) (defBody s_law_cell) (defScope s_law_cell) .none kV19 dc19 pm19 an19 cd19 ct19, PySem.W.fnOf "_law_state" "_law_state" (defArgs s_law_state) (defBody s_law_state) (defScope s_law_state) .none kV20 dc20 pm20 an20 cd20 ct20, PySem.W.fnOf "_law_digit" "_law_digit" (defArgs s_law_digit) (defBody s_law_digit) (defScope s_law_digit) .none kV21 dc21 pm21 an21 cd21 ct21, PySem.W.fnOf "_law_take" "_law_take" (defArgs s_law_take) (defBody s_law_take) (defScope s_law_take) .none kV22 dc22 pm22 an22 cd22 ct22, PySem.W.fnOf "_law_time" "_law_time" (defArgs s_law_time) (defBody s_law_time) (defScope s_law_time) .none kV23 dc23 pm23 an23 cd23 ct23, PySem.W.fnOf "_law_role" "_law_role" (defArgs s_law_role) (defBody s_law_role) (defScope s_law_role) .none kV24 dc24 pm24 an24 cd24 ct24, PySem.W.fnOf "_law_open" "_law_open" (defArgs s_law_open) (defBody s_law_open) (defScope s_law_open) .none kV25 dc25 pm25 an25 cd25 ct25, PySem.W.fnOf "_law_close" "_law_close" (defArgs s_law_close) (defBody s_law_close) (defScope s_law_close) .none kV26 dc26 pm26 an26 cd26 ct26, PySem.W.fnOf "_law_call" "_law_call" (defArgs s_law_call) (defBody s_law_call) (defScope s_law_call) .none kV27 dc27 pm27 an27 cd27 ct27, PySem.W.fnOf "_law_logs" "_law_logs" (defArgs s_law_logs) (defBody s_law_logs) (defScope s_law_logs) .none kV28 dc28 pm28 an28 cd28 ct28, PySem.W.fnOf "_law_shuffled" "_law_shuffled" (defArgs s_law_shuffled) (defBody s_law_shuffled) (defScope s_law_shuffled) .none kV29 dc29 pm29 an29 cd29 ct29, PySem.W.fnOf "_law_records" "_law_records" (defArgs s_law_records) (defBody s_law_records) (defScope s_law_records) .none kV30 dc30 pm30 an30 cd30 ct30, PySem.W.fnOf "_law_way" "_law_way" (defArgs s_law_way) (defBody s_law_way) (defScope s_law_way) .none kV31 dc31 pm31 an31 cd31 ct31, PySem.W.fnOf "_law_beside" "_law_beside" (defArgs s_law_beside) (defBody s_law_beside) (defScope s_law_beside) .none kV32 dc32 pm32 an32 cd32 ct32, PySem.W.fnOf "_law_heads" "_law_heads" (defArgs s_law_heads) (defBody s_law_heads) (defScope s_law_heads) .none kV33 dc33 pm33 an33 cd33 ct33, PySem.W.fnOf "_law_noise" "_law_noise" (defArgs s_law_noise) (defBody s_law_noise) (defScope s_law_noise) .none kV34 dc34 pm34 an34 cd34 ct34, PySem.W.fnOf "_law_view" "_law_view" (defArgs s_law_view) (defBody s_law_view) (defScope s_law_view) .none kV35 dc35 pm35 an35 cd35 ct35, PySem.W.fnOf "_law_large" "_law_large" (defArgs s_law_large) (defBody s_law_large) (defScope s_law_large) .none kV36 dc36 pm36 an36 cd36 ct36, PySem.W.fnOf "law" "law" (defArgs s_law) (defBody s_law) (defScope s_law) .none kV37 dc37 pm37 an37 cd37 ct37].getD i (PySem.W.fnOf "law" "law" (defArgs s_law) (defBody s_law) (defScope s_law) .none kV37 dc37 pm37 an37 cd37 ct37)
  let cl : Nat → Addr := fun i => ([c0, c1, c2, c3] : List Addr).getD i 0
  have T : Tx K mg fn fd cl := {
    F_JoinedCall_init := F1,
    b_JoinedCall_init := b1,
    F_id_of := F4,
    b_id_of := b4,
    m_id_of := PySem.W.mg_of X G a4,
    F_head_place := F5,
    b_head_place := b5,
    m_head_place := PySem.W.mg_of X G a5,
    F_legs_by_circuit := F6,
    b_legs_by_circuit := b6,
    m_legs_by_circuit := PySem.W.mg_of X G a6,
    F_sides_by_parent := F7,
    b_sides_by_parent := b7,
    m_sides_by_parent := PySem.W.mg_of X G a7,
    F_next_leg := F8,
    b_next_leg := b8,
    m_next_leg := PySem.W.mg_of X G a8,
    F_path_of := F9,
    b_path_of := b9,
    m_path_of := PySem.W.mg_of X G a9,
    F_join_calls := F10,
    b_join_calls := b10,
    m_join_calls := PySem.W.mg_of X G a10,
    F_Record_init := F11,
    b_Record_init := b11,
    F_Record_is_open := F12,
    b_Record_is_open := b12,
    meth_Record_is_open := ⟨a12, i12, p12⟩,
    F_belongs := F14,
    b_belongs := b14,
    m_belongs := PySem.W.mg_of X G a14,
    F_close_record := F15,
    b_close_record := b15,
    m_close_record := PySem.W.mg_of X G a15,
    F_record_from := F16,
    b_record_from := b16,
    m_record_from := PySem.W.mg_of X G a16,
    F_fold_entry := F17,
    b_fold_entry := b17,
    m_fold_entry := PySem.W.mg_of X G a17,
    F_records_of := F18,
    b_records_of := b18,
    m_records_of := PySem.W.mg_of X G a18,
    F_law_cell := F19,
    b_law_cell := b19,
    m_law_cell := PySem.W.mg_of X G a19,
    F_law_state := F20,
    b_law_state := b20,
    m_law_state := PySem.W.mg_of X G a20,
    F_law_digit := F21,
    b_law_digit := b21,
    m_law_digit := PySem.W.mg_of X G a21,
    F_law_take := F22,
    b_law_take := b22,
    m_law_take := PySem.W.mg_of X G a22,
    F_law_time := F23,
    b_law_time := b23,
    m_law_time := PySem.W.mg_of X G a23,
    F_law_role := F24,
    b_law_role := b24,
    m_law_role := PySem.W.mg_of X G a24,
    F_law_open := F25,
    b_law_open := b25,
    m_law_open := PySem.W.mg_of X G a25,
    F_law_close := F26,
    b_law_close := b26,
    m_law_close := PySem.W.mg_of X G a26,
    F_law_call := F27,
    b_law_call := b27,
    m_law_call := PySem.W.mg_of X G a27,
    F_law_logs := F28,
    b_law_logs := b28,
    m_law_logs := PySem.W.mg_of X G a28,
    F_law_shuffled := F29,
    b_law_shuffled := b29,
    m_law_shuffled := PySem.W.mg_of X G a29,
    F_law_records := F30,
    b_law_records := b30,
    m_law_records := PySem.W.mg_of X G a30,
    F_law_way := F31,
    b_law_way := b31,
    m_law_way := PySem.W.mg_of X G a31,
    F_law_beside := F32,
    b_law_beside := b32,
    m_law_beside := PySem.W.mg_of X G a32,
    F_law_heads := F33,
    b_law_heads := b33,
    m_law_heads := PySem.W.mg_of X G a33,
    F_law_noise := F34,
    b_law_noise := b34,
    m_law_noise := PySem.W.mg_of X G a34,
    F_law_view := F35,
    b_law_view := b35,
    m_law_view := PySem.W.mg_of X G a35,
    F_law_large := F36,
    b_law_large := b36,
    m_law_large := PySem.W.mg_of X G a36,
    F_law := F37,
    b_law := b37,
    m_law := PySem.W.mg_of X G a37,
    m_JoinedCall := PySem.W.mg_of X G ca0,
    mk_JoinedCall := ⟨mk0, a1, i1, kc0⟩,
    m_Record := PySem.W.mg_of X G ca1,
    mk_Record := ⟨mk1, a11, i11, kc1⟩,
    z_int := PySem.W.mg_none_of X G z_int,
    z_len := PySem.W.mg_none_of X G z_len,
    z_list := PySem.W.mg_none_of X G z_list,
    z_range := PySem.W.mg_none_of X G z_range,
    z_sorted := PySem.W.mg_none_of X G z_sorted,
    z_str := PySem.W.mg_none_of X G z_str,
    g_HEAD_ROLES := PySem.W.mg_of X G g_HEAD_ROLES,
    g_LEG_ROLES := PySem.W.mg_of X G g_LEG_ROLES,
    cf := { cl_JoinedCall := ⟨pg0, hd0, po0, sa0⟩, nf_JoinedCall_head := n0_0, nf_JoinedCall_legs := n0_1, nf_JoinedCall_sides := n0_2, cl_Record := ⟨pg1, hd1, po1, sa1⟩, nf_Record_call_id := n1_0, nf_Record_role := n1_1, nf_Record_caller := n1_2, nf_Record_called := n1_3, nf_Record_payer := n1_4, nf_Record_came := n1_5, nf_Record_went := n1_6, nf_Record_parent := n1_7, nf_Record_opened_at := n1_8, nf_Record_confirmed := n1_9, nf_Record_closed_at := n1_10, nf_Record_cause := n1_11, ct_HEAD_ROLES := fun G => rep_ktup (xs := ["origin", "both"]) lt_HEAD_ROLES (by size_fits) (.cons ⟨_, rfl⟩ (.cons ⟨_, rfl⟩ (.nil))), ct_LEG_ROLES := fun G => rep_ktup (xs := ["transit", "end"]) lt_LEG_ROLES (by size_fits) (.cons ⟨_, rfl⟩ (.cons ⟨_, rfl⟩ (.nil))) } }
  letI : Wo := ⟨l.prog, w⟩
  exact ⟨fd 37, fun s v => .of_eq rfl, fun base _ _ => (ok_law T).imp fun vs H Q E h => sp_law_of h⟩
end L77
open PySem PySem.W PyProof.Rows
set_option maxRecDepth 100000 in
set_option maxHeartbeats 0 in
theorem PySem.Challenge.cw_copperline_k77_calls_joined_holds : PySem.Challenge.rw_copperline_k77_calls_joined.Holds := by
  w_on; o_law; k_head; (case hw => w_witness2)
  k_fill
  refine L2.walk_of (l := PySem.Challenge.rw_copperline_k77_calls_joined) (n := 63) (k := 7) (x := "script") (CX := fun _ => L2.CX0) (sp := fun w => L77.sp_law0 _) rfl (by decide) rfl ⟨rfl, by decide, by decide⟩ (fun w h Y => PySem.W.kIn_of Y) ?F (fun _ _ a ns hl _ hS => ⟨a, ns, rfl, hS, hl, fun _ => rfl⟩) (fun _ _ _ _ _ h => h)
  case F =>
    intro w mg fa h KX G hmg
    refine' L77.all_mk KX G hmg ?ca0 ?mk0 ?kc0 ?pg0 ?hd0 ?po0 ?sa0 ?n0_0 ?n0_1 ?n0_2 ?ca1 ?mk1 ?kc1 ?pg1 ?hd1 ?po1 ?sa1 ?n1_0 ?n1_1 ?n1_2 ?n1_3 ?n1_4 ?n1_5 ?n1_6 ?n1_7 ?n1_8 ?n1_9 ?n1_10 ?n1_11 ?a1 ?i1 ?l1 ?k1 ?p1 ?a4 ?l4 ?k4 ?p4 ?a5 ?l5 ?k5 ?p5 ?a6 ?l6 ?k6 ?p6 ?a7 ?l7 ?k7 ?p7 ?a8 ?l8 ?k8 ?p8 ?a9 ?l9 ?k9 ?p9 ?a10 ?l10 ?k10 ?p10 ?a11 ?i11 ?l11 ?k11 ?p11 ?a12 ?i12 ?l12 ?k12 ?p12 ?a14 ?l14 ?k14 ?p14 ?a15 ?l15 ?k15 ?p15 ?a16 ?l16 ?k16 ?p16 ?a17 ?l17 ?k17 ?p17 ?a18 ?l18 ?k18 ?p18 ?a19 ?l19 ?k19 ?p19 ?a20 ?l20 ?k20 ?p20 ?a21 ?l21 ?k21 ?p21 ?a22 ?l22 ?k22 ?p22 ?a23 ?l23 ?k23 ?p23 ?a24 ?l24 ?k24 ?p24 ?a25 ?l25 ?k25 ?p25 ?a26 ?l26 ?k26 ?p26 ?a27 ?l27 ?k27 ?p27 ?a28 ?l28 ?k28 ?p28 ?a29 ?l29 ?k29 ?p29 ?a30 ?l30 ?k30 ?p30 ?a31 ?l31 ?k31 ?p31 ?a32 ?l32 ?k32 ?p32 ?a33 ?l33 ?k33 ?p33 ?a34 ?l34 ?k34 ?p34 ?a35 ?l35 ?k35 ?p35 ?a36 ?l36 ?k36 ?p36 ?a37 ?l37 ?k37 ?p37 ?z_int ?z_len ?z_list ?z_range ?z_sorted ?z_str ?g_HEAD_ROLES ?lt_HEAD_ROLES ?g_LEG_ROLES ?lt_LEG_ROLES
    (case ca0 => k_is)
    (case mk0 => k_is)
    (case kc0 => k_is)
    (case pg0 => k_is)
    (case hd0 => k_is)
    (case po0 => k_is)
    (case sa0 => k_is)
    (case n0_0 => k_is)
    (case n0_1 => k_is)
    (case n0_2 => k_is)
    (case ca1 => k_is)
    (case mk1 => k_is)
    (case kc1 => k_is)
    (case pg1 => k_is)
    (case hd1 => k_is)
    (case po1 => k_is)
    (case sa1 => k_is)
    (case n1_0 => k_is)
    (case n1_1 => k_is)
    (case n1_2 => k_is)
    (case n1_3 => k_is)
    (case n1_4 => k_is)
    (case n1_5 => k_is)
    (case n1_6 => k_is)
    (case n1_7 => k_is)
    (case n1_8 => k_is)
    (case n1_9 => k_is)
    (case n1_10 => k_is)
    (case n1_11 => k_is)
    (case a1 => k_is)
    (case i1 => k_is)
    (case l1 => k_is)
    (case k1 => k_is)
    (case p1 => k_is)
    (case a4 => k_is)
    (case l4 => k_is)
    (case k4 => k_is)
    (case p4 => k_is)
    (case a5 => k_is)
    (case l5 => k_is)
    (case k5 => k_is)
    (case p5 => k_is)
    (case a6 => k_is)
    (case l6 => k_is)
    (case k6 => k_is)
    (case p6 => k_is)
    (case a7 => k_is)
    (case l7 => k_is)
    (case k7 => k_is)
    (case p7 => k_is)
    (case a8 => k_is)
    (case l8 => k_is)
    (case k8 => k_is)
    (case p8 => k_is)
    (case a9 => k_is)
    (case l9 => k_is)
    (case k9 => k_is)
    (case p9 => k_is)
    (case a10 => k_is)
    (case l10 => k_is)
    (case k10 => k_is)
    (case p10 => k_is)
    (case a11 => k_is)
    (case i11 => k_is)
    (case l11 => k_is)
    (case k11 => k_is)
    (case p11 => k_is)
    (case a12 => k_is)
    (case i12 => k_is)
    (case l12 => k_is)
    (case k12 => k_is)
    (case p12 => k_is)
    (case a14 => k_is)
    (case l14 => k_is)
    (case k14 => k_is)
    (case p14 => k_is)
    (case a15 => k_is)
    (case l15 => k_is)
    (case k15 => k_is)
    (case p15 => k_is)
    (case a16 => k_is)
    (case l16 => k_is)
    (case k16 => k_is)
    (case p16 => k_is)
    (case a17 => k_is)
    (case l17 => k_is)
    (case k17 => k_is)
    (case p17 => k_is)
    (case a18 => k_is)
    (case l18 => k_is)
    (case k18 => k_is)
    (case p18 => k_is)
    (case a19 => k_is)
    (case l19 => k_is)
    (case k19 => k_is)
    (case p19 => k_is)
    (case a20 => k_is)
    (case l20 => k_is)
    (case k20 => k_is)
    (case p20 => k_is)
    (case a21 => k_is)
    (case l21 => k_is)
    (case k21 => k_is)
    (case p21 => k_is)
    (case a22 => k_is)
    (case l22 => k_is)
    (case k22 => k_is)
    (case p22 => k_is)
    (case a23 => k_is)
    (case l23 => k_is)
    (case k23 => k_is)
    (case p23 => k_is)
    (case a24 => k_is)
    (case l24 => k_is)
    (case k24 => k_is)
    (case p24 => k_is)
    (case a25 => k_is)
    (case l25 => k_is)
    (case k25 => k_is)
    (case p25 => k_is)
    (case a26 => k_is)
    (case l26 => k_is)
    (case k26 => k_is)
    (case p26 => k_is)
    (case a27 => k_is)
    (case l27 => k_is)
    (case k27 => k_is)
    (case p27 => k_is)
    (case a28 => k_is)
    (case l28 => k_is)
    (case k28 => k_is)
    (case p28 => k_is)
    (case a29 => k_is)
    (case l29 => k_is)
    (case k29 => k_is)
    (case p29 => k_is)
    (case a30 => k_is)
    (case l30 => k_is)
    (case k30 => k_is)
    (case p30 => k_is)
    (case a31 => k_is)
    (case l31 => k_is)
    (case k31 => k_is)
    (case p31 => k_is)
    (case a32 => k_is)
    (case l32 => k_is)
    (case k32 => k_is)
    (case p32 => k_is)
    (case a33 => k_is)
    (case l33 => k_is)
    (case k33 => k_is)
    (case p33 => k_is)
    (case a34 => k_is)
    (case l34 => k_is)
    (case k34 => k_is)
    (case p34 => k_is)
    (case a35 => k_is)
    (case l35 => k_is)
    (case k35 => k_is)
    (case p35 => k_is)
    (case a36 => k_is)
    (case l36 => k_is)
    (case k36 => k_is)
    (case p36 => k_is)
    (case a37 => k_is)
    (case l37 => k_is)
    (case k37 => k_is)
    (case p37 => k_is)
    (case z_int => k_is)
    (case z_len => k_is)
    (case z_list => k_is)
    (case z_range => k_is)
    (case z_sorted => k_is)
    (case z_str => k_is)
    (case g_HEAD_ROLES => k_is)
    (case lt_HEAD_ROLES => k_is)
    (case g_LEG_ROLES => k_is)
    (case lt_LEG_ROLES => k_is)
