import PyProof.Rows.All
import Wide.All
import OpenK.AllK
import Wide.FinOn
import HandS.ForMost
import KE.KDictKeyed
import KE.SortData
import KE.SortKeyHeap
import KE.KDictSum
import HandS.Small
import HandS.SortKw
import HandS.More
import KE.KEqNest
import HandS.Deep
import PySem.Challenge.RW_copperline_k87_free_seconds
set_option Elab.async false
set_option linter.all false
set_option maxRecDepth 100000
set_option maxHeartbeats 4000000
/-! Cp1: frozen data and owned cells over the hand layer: Sep G H M (G: what never changes any more, M: what is owned and may change), D (data as a tree), Rep (a value stands for such a tree). -/
namespace Cp
open PySem L2

/-! ### the heap in two parts -/
structure Sep (G H : Hp) (M : List (Addr × HO)) : Prop where
  sub : Same G H
  own : ∀ e ∈ M, H e.1 = some e.2 ∧ G e.1 = none
  nd : (M.map (·.1)).Nodup

theorem Sep.nil {H : Hp} : Sep H H [] := ⟨Same.refl H, (fun _ h => absurd h List.not_mem_nil), List.nodup_nil⟩
theorem Sep.at {G H : Hp} {M : List (Addr × HO)} (S : Sep G H M) {k : Nat} {a : Addr} {o : HO} (h : M[k]? = some (a, o)) : H a = some o :=
  (S.own (a, o) (List.mem_of_getElem? h)).1
theorem Sep.out {G H : Hp} {M : List (Addr × HO)} (S : Sep G H M) {k : Nat} {a : Addr} {o : HO} (h : M[k]? = some (a, o)) : G a = none :=
  (S.own (a, o) (List.mem_of_getElem? h)).2
theorem Sep.drop {G H : Hp} {M : List (Addr × HO)} {e : Addr × HO} (S : Sep G H (e :: M)) : Sep G H M :=
  ⟨S.sub, fun x hx => S.own x (List.mem_cons_of_mem _ hx), (List.nodup_cons.mp S.nd).2⟩
theorem Sep.swap {G H : Hp} {M : List (Addr × HO)} {e f : Addr × HO} (S : Sep G H (e :: f :: M)) : Sep G H (f :: e :: M) := by
  refine ⟨S.sub, fun x hx => S.own x ?_, ?_⟩
  · simp only [List.mem_cons] at hx ⊢
    rcases hx with h | h | h
    · exact .inr (.inl h)
    · exact .inl h
    · exact .inr (.inr h)
  · exact ((List.Perm.swap f e M).map (·.1)).nodup_iff.mp S.nd
theorem Sep.perm {G H : Hp} {M N : List (Addr × HO)} (S : Sep G H M) (p : M.Perm N) : Sep G H N :=
  ⟨S.sub, fun x hx => S.own x (p.mem_iff.mpr hx), (p.map (·.1)).nodup_iff.mp S.nd⟩
theorem perm_pull {α : Type} : ∀ (M : List α) (k : Nat) (e : α), M[k]? = some e → M.Perm (e :: M.eraseIdx k)
  | [], _, _, h => by simp at h
  | x :: M, 0, e, h => by
    have : x = e := by simpa using h
    subst this
    exact List.Perm.refl _
  | x :: M, k + 1, e, h => by
    have h' : M[k]? = some e := by simpa using h
    exact ((perm_pull M k e h').cons x).trans (List.Perm.swap e x _)
theorem Sep.pull {G H : Hp} {M : List (Addr × HO)} (S : Sep G H M) (k : Nat) {e : Addr × HO} (h : M[k]? = some e) : Sep G H (e :: M.eraseIdx k) := S.perm (perm_pull M k e h)
theorem Sep.keep {G H : Hp} {M N : List (Addr × HO)} (S : Sep G H (N ++ M)) : Sep G H M := by
  induction N with
  | nil => exact S
  | cons e N ih => exact ih S.drop

theorem same_tr {H H1 H2 : Hp} (b : Same H1 H2) (a : Same H H1) : Same H H2 := a.trans b
theorem Same.upd {H : Hp} {p : Addr} {o : HO} (h : H p = none) : Same H (upd H p o) := fun b x e => by
  rw [upd_ne (ne_of_none e h)]
  exact e
/-- a new object that is frozen at once -/
theorem Sep.newG {G H : Hp} {M : List (Addr × HO)} (S : Sep G H M) {p : Addr} {o : HO} (h : H p = none) : Sep (upd G p o) (upd H p o) M := by
  refine ⟨fun b x e => ?_, fun e he => ?_, S.nd⟩
  · by_cases q : b = p
    · subst q
      rw [upd_same] at e ⊢
      exact e
    · rw [upd_ne q] at e ⊢
      exact S.sub b x e
  · have h1 := S.own e he
    have q : e.1 ≠ p := ne_of_none h1.1 h
    rw [upd_ne q, upd_ne q]
    exact h1
theorem Sep.freshG {G H : Hp} {M : List (Addr × HO)} (S : Sep G H M) {p : Addr} (h : H p = none) : G p = none := S.sub.free h
/-- a new object that is owned -/
theorem Sep.newM {G H : Hp} {M : List (Addr × HO)} (S : Sep G H M) {p : Addr} {o : HO} (h : H p = none) : Sep G (upd H p o) ((p, o) :: M) := by
  refine ⟨S.sub.trans (Same.upd h), fun e he => ?_, ?_⟩
  · rcases List.mem_cons.mp he with rfl | he
    · exact ⟨upd_same, S.freshG h⟩
    · have h1 := S.own e he
      rw [upd_ne (ne_of_none h1.1 h)]
      exact h1
  · rw [List.map_cons]
    refine List.nodup_cons.mpr ⟨fun hm => ?_, S.nd⟩
    obtain ⟨e, he, q⟩ := List.mem_map.mp hm
    have h1 := (S.own e he).1
    rw [q, h] at h1
    cases h1
/-- an owned object at the head is frozen -/
theorem Sep.freeze {G H : Hp} {M : List (Addr × HO)} {p : Addr} {o : HO} (S : Sep G H ((p, o) :: M)) : Sep (upd G p o) H M ∧ Same G (upd G p o) := by
  have h0 := S.own (p, o) (List.mem_cons_self ..)
  refine ⟨⟨fun b x e => ?_, fun e he => ?_, (List.nodup_cons.mp S.nd).2⟩, Same.upd h0.2⟩
  · by_cases q : b = p
    · subst q
      rw [upd_same] at e
      rw [← e]
      exact h0.1
    · rw [upd_ne q] at e
      exact S.sub b x e
  · have h1 := S.own e (List.mem_cons_of_mem _ he)
    have q : e.1 ≠ p := fun z => (List.nodup_cons.mp S.nd).1 (by
      show p ∈ _
      rw [← z]
      exact List.mem_map.mpr ⟨e, he, rfl⟩)
    rw [upd_ne q]
    exact h1
/-- the k-th owned object changes -/
theorem Sep.set {G H : Hp} : ∀ {M : List (Addr × HO)} (S : Sep G H M) {k : Nat} {a : Addr} {o : HO} (o' : HO), M[k]? = some (a, o) → Sep G (upd H a o') (M.set k (a, o')) := by
  intro M S k a o o' h
  have hk : k < M.length := (List.getElem?_eq_some_iff.mp h).1
  have hg := S.out h
  have hmap : (M.set k (a, o')).map (·.1) = M.map (·.1) := by
    rw [List.map_set]
    show (M.map (·.1)).set k a = _
    have : (M.map (·.1))[k]? = some a := by rw [List.getElem?_map, h]; rfl
    obtain ⟨hk2, e⟩ := List.getElem?_eq_some_iff.mp this
    rw [← e]
    exact List.set_getElem_self hk2
  refine ⟨fun b x e => ?_, fun e he => ?_, by rw [hmap]; exact S.nd⟩
  · have q : b ≠ a := fun z => by rw [z, hg] at e; cases e
    rw [upd_ne q]
    exact S.sub b x e
  · obtain ⟨j, hj, hje⟩ := List.mem_iff_getElem.mp he
    rw [List.length_set] at hj
    by_cases q : j = k
    · subst q
      rw [List.getElem_set_self] at hje
      subst hje
      exact ⟨upd_same, hg⟩
    · rw [List.getElem_set_ne (fun z => q z.symm)] at hje
      have hm : e ∈ M := hje ▸ List.getElem_mem hj
      have h1 := S.own e hm
      have hne : e.1 ≠ a := fun z => by
        have e1 : (M.map (·.1))[j]? = some a := by
          rw [List.getElem?_map, List.getElem?_eq_getElem hj, hje, ← z]; rfl
        have e2 : (M.map (·.1))[k]? = some a := by rw [List.getElem?_map, h]; rfl
        have hjl : j < (M.map (·.1)).length := by rw [List.length_map]; exact hj
        exact q ((List.getElem?_inj hjl S.nd).mp (e1.trans e2.symm))
      rw [upd_ne hne]
      exact h1

/-! ### data as trees -/
inductive D where
  | non | bl (b : Bool) | int (i : Int) | str (x : Str)
  | lst (ds : List D) | tup (ds : List D)
  | ins (c : Nat) (ns : List Str) (ds : List D)
  /-- the object at an address, whatever it holds -/
  | loc (a : Addr)
  /-- a dict that is never changed: its keys, what stands there -/
  | dic (ks : List Key) (ds : List D)

def D.isNon : D → Bool
  | .non => true
  | _ => false
section
variable (K : PySem.W.Frag) (cl : Nat → Addr)
mutual
def Rep (G : Hp) : V → D → Prop
  | x, .non => x = .non
  | x, .bl b => x = .bl b
  | x, .int i => x = .int i
  | x, .str s => x = .str s
  | x, .lst ds => ∃ a vs, x = .ref a ∧ SqL K G a vs ∧ Reps G vs ds
  | x, .tup ds => ∃ a vs, x = .ref a ∧ SqT K G a vs ∧ Reps G vs ds
  | x, .ins c ns ds => ∃ a dx vs, x = .ref a ∧ G a = some (.ins (cl c) dx (ns.zip vs)) ∧ ns.length = vs.length ∧ Reps G vs ds
  | x, .loc a => x = .ref a
  | x, .dic ks ds => ∃ a kws, x = .ref a ∧ G a = some (.dK kws) ∧ kws.map (·.1) = ks ∧ Reps G (kws.map (·.2)) ds
def Reps (G : Hp) : List V → List D → Prop
  | vs, [] => vs = []
  | vs, d :: ds => ∃ v ws, vs = v :: ws ∧ Rep G v d ∧ Reps G ws ds
end
end
section
variable {K : PySem.W.Frag} {cl : Nat → Addr} {G G' : Hp}
theorem Same.seqT {K : PySem.W.Frag} {H H' : Hp} {a : Addr} {xs : List V} (e : Same H H') (h : SqT K H a xs) : SqT K H' a xs := by
  rcases h with (h | ⟨o, h⟩) | h
  · exact .inl (.inl (e _ _ h))
  · exact .inl (.inr ⟨o, e _ _ h⟩)
  · exact .inr h
mutual
theorem Rep.mono (s : Same G G') : ∀ {x : V} {d : D}, Rep K cl G x d → Rep K cl G' x d
  | _, .non, h => by simp only [Rep] at h ⊢; exact h
  | _, .bl _, h => by simp only [Rep] at h ⊢; exact h
  | _, .int _, h => by simp only [Rep] at h ⊢; exact h
  | _, .str _, h => by simp only [Rep] at h ⊢; exact h
  | _, .loc _, h => by simp only [Rep] at h ⊢; exact h
  | _, .dic ks ds, h => by
    simp only [Rep] at h ⊢
    obtain ⟨a, kws, e, q, l, r⟩ := h
    exact ⟨a, kws, e, s _ _ q, l, Reps.mono s r⟩
  | _, .lst ds, h => by
    simp only [Rep] at h ⊢
    obtain ⟨a, vs, e, q, r⟩ := h
    exact ⟨a, vs, e, s.seq q, Reps.mono s r⟩
  | _, .tup ds, h => by
    simp only [Rep] at h ⊢
    obtain ⟨a, vs, e, q, r⟩ := h
    exact ⟨a, vs, e, Same.seqT s q, Reps.mono s r⟩
  | _, .ins c ns ds, h => by
    simp only [Rep] at h ⊢
    obtain ⟨a, dx, vs, e, q, l, r⟩ := h
    exact ⟨a, dx, vs, e, s _ _ q, l, Reps.mono s r⟩
theorem Reps.mono (s : Same G G') : ∀ {vs : List V} {ds : List D}, Reps K cl G vs ds → Reps K cl G' vs ds
  | _, [], h => by simp only [Reps] at h ⊢; exact h
  | _, d :: ds, h => by
    simp only [Reps] at h ⊢
    obtain ⟨v, ws, e, q, r⟩ := h
    exact ⟨v, ws, e, Rep.mono s q, Reps.mono s r⟩
end
theorem Reps.nil : Reps K cl G [] [] := by simp only [Reps]
theorem Reps.cons {v : V} {vs : List V} {d : D} {ds : List D} (h : Rep K cl G v d) (t : Reps K cl G vs ds) : Reps K cl G (v :: vs) (d :: ds) := by
  simp only [Reps]
  exact ⟨v, vs, rfl, h, t⟩
theorem Reps.uncons {vs : List V} {d : D} {ds : List D} (h : Reps K cl G vs (d :: ds)) : ∃ v ws, vs = v :: ws ∧ Rep K cl G v d ∧ Reps K cl G ws ds := by
  simp only [Reps] at h
  exact h
theorem Reps.length : ∀ {vs : List V} {ds : List D}, Reps K cl G vs ds → vs.length = ds.length
  | _, [], h => by simp only [Reps] at h; rw [h]; rfl
  | _, d :: ds, h => by
    obtain ⟨v, ws, rfl, _, r⟩ := h.uncons
    rw [List.length_cons, List.length_cons, r.length]
theorem Reps.get : ∀ {vs : List V} {ds : List D} {i : Nat} {v : V}, Reps K cl G vs ds → vs[i]? = some v → ∃ d, ds[i]? = some d ∧ Rep K cl G v d
  | vs, [], i, v, h, e => by simp only [Reps] at h; rw [h] at e; simp at e
  | vs, d :: ds, 0, v, h, e => by
    obtain ⟨w, ws, rfl, q, r⟩ := h.uncons
    have : w = v := by simpa using e
    exact ⟨d, rfl, this ▸ q⟩
  | vs, d :: ds, i + 1, v, h, e => by
    obtain ⟨w, ws, rfl, q, r⟩ := h.uncons
    obtain ⟨d', e', q'⟩ := r.get (i := i) (v := v) (by simpa using e)
    exact ⟨d', by simpa using e', q'⟩
theorem Reps.getD : ∀ {vs : List V} {ds : List D} {i : Nat} {d : D}, Reps K cl G vs ds → ds[i]? = some d → ∃ v, vs[i]? = some v ∧ Rep K cl G v d
  | vs, [], i, d, h, e => by simp at e
  | vs, c :: ds, 0, d, h, e => by
    obtain ⟨w, ws, rfl, q, r⟩ := h.uncons
    have : c = d := by simpa using e
    exact ⟨w, rfl, this ▸ q⟩
  | vs, c :: ds, i + 1, d, h, e => by
    obtain ⟨w, ws, rfl, q, r⟩ := h.uncons
    obtain ⟨v', e', q'⟩ := r.getD (i := i) (d := d) (by simpa using e)
    exact ⟨v', by simpa using e', q'⟩
theorem Reps.append : ∀ {vs : List V} {ds : List D} {us : List V} {es : List D}, Reps K cl G vs ds → Reps K cl G us es → Reps K cl G (vs ++ us) (ds ++ es)
  | vs, [], us, es, h, t => by
    simp only [Reps] at h
    rw [h]
    exact t
  | vs, d :: ds, us, es, h, t => by
    obtain ⟨w, ws, rfl, q, r⟩ := h.uncons
    exact Reps.cons q (r.append t)
theorem Reps.one {v : V} {d : D} (h : Rep K cl G v d) : Reps K cl G [v] [d] := Reps.cons h Reps.nil
theorem Reps.take : ∀ {vs : List V} {ds : List D} (n : Nat), Reps K cl G vs ds → Reps K cl G (vs.take n) (ds.take n)
  | _, _, 0, _ => Reps.nil
  | vs, [], n + 1, h => by
    simp only [Reps] at h
    rw [h]
    exact Reps.nil
  | vs, d :: ds, n + 1, h => by
    obtain ⟨w, ws, rfl, q, r⟩ := h.uncons
    exact Reps.cons q (r.take n)
theorem Reps.drop : ∀ {vs : List V} {ds : List D} (n : Nat), Reps K cl G vs ds → Reps K cl G (vs.drop n) (ds.drop n)
  | _, _, 0, h => h
  | vs, [], n + 1, h => by
    simp only [Reps] at h
    rw [h]
    exact Reps.nil
  | vs, d :: ds, n + 1, h => by
    obtain ⟨w, ws, rfl, q, r⟩ := h.uncons
    exact r.drop n
theorem Reps.set : ∀ {vs : List V} {ds : List D} (n : Nat) {v : V} {d : D}, Reps K cl G vs ds → Rep K cl G v d → Reps K cl G (vs.set n v) (ds.set n d)
  | vs, [], n, v, d, h, q => by
    simp only [Reps] at h
    rw [h]
    exact Reps.nil
  | vs, c :: ds, 0, v, d, h, q => by
    obtain ⟨w, ws, rfl, q', r⟩ := h.uncons
    exact Reps.cons q r
  | vs, c :: ds, n + 1, v, d, h, q => by
    obtain ⟨w, ws, rfl, q', r⟩ := h.uncons
    exact Reps.cons q' (r.set n q)
theorem Reps.map {α : Type} {f : α → V} {g : α → D} : ∀ {xs : List α}, (∀ x ∈ xs, Rep K cl G (f x) (g x)) → Reps K cl G (xs.map f) (xs.map g)
  | [], _ => Reps.nil
  | x :: xs, h => Reps.cons (h x (List.mem_cons_self ..)) (Reps.map fun y hy => h y (List.mem_cons_of_mem _ hy))
theorem Reps.ints {xs : List Int} : Reps K cl G (xs.map V.int) (xs.map D.int) := Reps.map fun x _ => by simp only [Rep]

theorem Rep.non : Rep K cl G .non .non := by simp only [Rep]
theorem Rep.bl {b : Bool} : Rep K cl G (.bl b) (.bl b) := by simp only [Rep]
theorem Rep.int {i : Int} : Rep K cl G (.int i) (.int i) := by simp only [Rep]
theorem Rep.str {x : Str} : Rep K cl G (.str x) (.str x) := by simp only [Rep]
theorem Rep.tup {a : Addr} {vs : List V} {ds : List D} (h : SqT K G a vs) (r : Reps K cl G vs ds) : Rep K cl G (.ref a) (.tup ds) := by
  simp only [Rep]
  exact ⟨a, vs, rfl, h, r⟩
theorem Rep.lst {a : Addr} {vs : List V} {ds : List D} (h : SqL K G a vs) (r : Reps K cl G vs ds) : Rep K cl G (.ref a) (.lst ds) := by
  simp only [Rep]
  exact ⟨a, vs, rfl, h, r⟩
theorem Rep.ins {a dx : Addr} {c : Nat} {ns : List Str} {vs : List V} {ds : List D} (h : G a = some (.ins (cl c) dx (ns.zip vs))) (l : ns.length = vs.length) (r : Reps K cl G vs ds) : Rep K cl G (.ref a) (.ins c ns ds) := by
  simp only [Rep]
  exact ⟨a, dx, vs, rfl, h, l, r⟩
theorem Rep.loc {a : Addr} : Rep K cl G (.ref a) (.loc a) := by simp only [Rep]
theorem Rep.dic {a : Addr} {kws : List (Key × V)} {ks : List Key} {ds : List D} (h : G a = some (.dK kws)) (l : kws.map (·.1) = ks) (r : Reps K cl G (kws.map (·.2)) ds) : Rep K cl G (.ref a) (.dic ks ds) := by
  simp only [Rep]
  exact ⟨a, kws, rfl, h, l, r⟩
theorem Rep.of_dic {x : V} {ks : List Key} {ds : List D} (h : Rep K cl G x (.dic ks ds)) : ∃ a kws, x = .ref a ∧ G a = some (.dK kws) ∧ kws.map (·.1) = ks ∧ Reps K cl G (kws.map (·.2)) ds := by simpa only [Rep] using h
theorem Rep.of_loc {x : V} {a : Addr} (h : Rep K cl G x (.loc a)) : x = .ref a := by simpa only [Rep] using h
theorem Rep.of_non {x : V} (h : Rep K cl G x .non) : x = .non := by simpa only [Rep] using h
theorem Rep.of_bl {x : V} {b : Bool} (h : Rep K cl G x (.bl b)) : x = .bl b := by simpa only [Rep] using h
theorem Rep.of_int {x : V} {i : Int} (h : Rep K cl G x (.int i)) : x = .int i := by simpa only [Rep] using h
theorem Rep.of_str {x : V} {s : Str} (h : Rep K cl G x (.str s)) : x = .str s := by simpa only [Rep] using h
theorem Rep.of_tup {x : V} {ds : List D} (h : Rep K cl G x (.tup ds)) : ∃ a vs, x = .ref a ∧ SqT K G a vs ∧ Reps K cl G vs ds := by simpa only [Rep] using h
theorem Rep.of_lst {x : V} {ds : List D} (h : Rep K cl G x (.lst ds)) : ∃ a vs, x = .ref a ∧ SqL K G a vs ∧ Reps K cl G vs ds := by simpa only [Rep] using h
theorem Rep.of_ins {x : V} {c : Nat} {ns : List Str} {ds : List D} (h : Rep K cl G x (.ins c ns ds)) : ∃ a dx vs, x = .ref a ∧ G a = some (.ins (cl c) dx (ns.zip vs)) ∧ ns.length = vs.length ∧ Reps K cl G vs ds := by simpa only [Rep] using h
/-- None is told from all else -/
theorem Rep.isNon {x : V} {d : D} (h : Rep K cl G x d) : decide (x = .non) = d.isNon := by
  cases d with
  | non => rw [h.of_non]; rfl
  | bl b => rw [h.of_bl]; rfl
  | int i => rw [h.of_int]; rfl
  | str s => rw [h.of_str]; rfl
  | loc a => rw [h.of_loc]; rfl
  | dic ks ds => obtain ⟨a, kws, rfl, _⟩ := h.of_dic; rfl
  | lst ds => obtain ⟨a, vs, rfl, _⟩ := h.of_lst; rfl
  | tup ds => obtain ⟨a, vs, rfl, _⟩ := h.of_tup; rfl
  | ins c ns ds => obtain ⟨a, dx, vs, rfl, _⟩ := h.of_ins; rfl

/-! ### data that are compared -/
def D.py : D → PyData
  | .non => .none
  | .bl b => .bool b
  | .int i => .int i
  | .str s => .str s
  | .lst ds => .list (ds.map D.py)
  | .tup ds => .tuple (ds.map D.py)
  | .ins _ _ _ => .none
  | .loc _ => .none
  | .dic _ _ => .none
end
end Cp
/-! Cp2: what an expression evaluates to, as data: EvX p te σ G M d M' (p: nothing changes), EvT, EvA; what statements do: s_*. -/
namespace Cp
open PySem L2

abbrev ML := List (Addr × HO)
/-- (a, o) stands in M -/
inductive At : ML → Addr → HO → Prop where
  | hd {a : Addr} {o : HO} {M : ML} : At ((a, o) :: M) a o
  | tl {a : Addr} {o : HO} {e : Addr × HO} {M : ML} : At M a o → At (e :: M) a o
/-- the same with another object there -/
inductive Ch : ML → Addr → HO → HO → ML → Prop where
  | hd {a : Addr} {o o' : HO} {M : ML} : Ch ((a, o) :: M) a o o' ((a, o') :: M)
  | tl {a : Addr} {o o' : HO} {e : Addr × HO} {M M' : ML} : Ch M a o o' M' → Ch (e :: M) a o o' (e :: M')
theorem At.ix {M : ML} {a : Addr} {o : HO} (h : At M a o) : ∃ k : Nat, M[k]? = some (a, o) := by
  induction h with
  | hd => exact ⟨0, rfl⟩
  | tl _ ih =>
    obtain ⟨k, e⟩ := ih
    exact ⟨k + 1, by simpa using e⟩
theorem Ch.ix {M M' : ML} {a : Addr} {o o' : HO} (h : Ch M a o o' M') : ∃ k : Nat, M[k]? = some (a, o) ∧ M' = M.set k (a, o') := by
  induction h with
  | hd => exact ⟨0, rfl, rfl⟩
  | tl _ ih =>
    obtain ⟨k, e, r⟩ := ih
    exact ⟨k + 1, by simpa using e, by rw [r]; rfl⟩
theorem Ch.at {M M' : ML} {a : Addr} {o o' : HO} (h : Ch M a o o' M') : At M a o := by
  induction h with
  | hd => exact .hd
  | tl _ ih => exact .tl ih
theorem At.ch {M : ML} {a : Addr} {o : HO} (h : At M a o) (o' : HO) : ∃ M', Ch M a o o' M' := by
  induction h with
  | hd => exact ⟨_, .hd⟩
  | tl _ ih => obtain ⟨M', c⟩ := ih; exact ⟨_, .tl c⟩
theorem Sep.look {G H : Hp} {M : ML} {a : Addr} {o : HO} (S : Sep G H M) (h : At M a o) : H a = some o := by
  obtain ⟨k, e⟩ := h.ix
  exact S.at e
theorem Sep.ch {G H : Hp} {M M' : ML} {a : Addr} {o o' : HO} (S : Sep G H M) (h : Ch M a o o' M') : Sep G (upd H a o') M' := by
  obtain ⟨k, e, r⟩ := h.ix
  rw [r]
  exact S.set o' e

section
structure Go (p : Bool) (M M' : ML) (G1 H1 G2 H2 : Hp) : Prop where
  same : Same G1 G2
  sep : Sep G2 H2 M'
  eq : p = true → G2 = G1 ∧ H2 = H1 ∧ M' = M
variable (K : PySem.W.Frag) (cl : Nat → Addr)
def EvX (p : Bool) (te : TE) (σ : St) (G : Hp) (M : ML) (d : D) (M' : ML) : Prop :=
  ∀ G1 H1, Same G G1 → Sep G1 H1 M → ∀ Q : VK, (∀ v G2 H2, Go p M M' G1 H1 G2 H2 → Rep K cl G2 v d → Q v H2) → te σ H1 Q
def EvT (_K : PySem.W.Frag) (_cl : Nat → Addr) (p : Bool) (tt : TT) (σ : St) (G : Hp) (M : ML) (b : Bool) (M' : ML) : Prop :=
  ∀ G1 H1, Same G G1 → Sep G1 H1 M → ∀ Q : Bool → Hp → Prop, (∀ G2 H2, Go p M M' G1 H1 G2 H2 → Q b H2) → tt σ H1 Q
def EvA (p : Bool) (ta : TA) (σ : St) (G : Hp) (M : ML) (ds : List D) (M' : ML) : Prop :=
  ∀ G1 H1, Same G G1 → Sep G1 H1 M → ∀ Q : List V → Hp → Prop, (∀ vs G2 H2, Go p M M' G1 H1 G2 H2 → Reps K cl G2 vs ds → Q vs H2) → ta σ H1 Q
/-- with any word of what comes out -/
def EvG (te : TE) (σ : St) (G : Hp) (M : ML) (F : V → Hp → ML → Prop) : Prop :=
  ∀ G1 H1, Same G G1 → Sep G1 H1 M → ∀ Q : VK, (∀ v G2 H2 M2, Same G1 G2 → Sep G2 H2 M2 → F v G2 M2 → Q v H2) → te σ H1 Q
/-- an operation on two data (M as it is) -/
def Op2 (p : Bool) (r : R2) (M : ML) (x y z : D) : Prop :=
  ∀ G1 H1, Sep G1 H1 M → ∀ u v, Rep K cl G1 u x → Rep K cl G1 v y → ∀ Q : VK, (∀ w G2 H2, Go p M M G1 H1 G2 H2 → Rep K cl G2 w z → Q w H2) → r u v H1 Q
def Op1 (p : Bool) (r : V → Hp → VK → Prop) (M : ML) (x z : D) : Prop :=
  ∀ G1 H1, Sep G1 H1 M → ∀ u, Rep K cl G1 u x → ∀ Q : VK, (∀ w G2 H2, Go p M M G1 H1 G2 H2 → Rep K cl G2 w z → Q w H2) → r u H1 Q
def OpN (p : Bool) (r : List V → Hp → VK → Prop) (M : ML) (xs : List D) (z : D) (M' : ML) : Prop :=
  ∀ G1 H1, Sep G1 H1 M → ∀ us, Reps K cl G1 us xs → ∀ Q : VK, (∀ w G2 H2, Go p M M' G1 H1 G2 H2 → Rep K cl G2 w z → Q w H2) → r us H1 Q
end
section
variable {K : PySem.W.Frag} {cl : Nat → Addr} {p q r : Bool} {M M1 M2 M3 M4 : ML} {G G1 G2 G3 H H1 H2 H3 : Hp} {σ : St} {ta tb te : TE} {tx : TA} {tt tu : TT} {d d1 d2 d3 : D} {ds : List D}

theorem Go.refl (S : Sep G H M) : Go true M M G H G H := ⟨Same.refl _, S, fun _ => ⟨rfl, rfl, rfl⟩⟩
theorem Go.trans (a : Go p M1 M2 G1 H1 G2 H2) (b : Go q M2 M3 G2 H2 G3 H3) : Go (p && q) M1 M3 G1 H1 G3 H3 :=
  ⟨a.same.trans b.same, b.sep, fun h => by
    obtain ⟨h1, h2⟩ := Bool.and_eq_true_iff.mp h
    obtain ⟨rfl, rfl, rfl⟩ := a.eq h1
    exact b.eq h2⟩
theorem Go.weak (a : Go p M1 M2 G1 H1 G2 H2) : Go false M1 M2 G1 H1 G2 H2 := ⟨a.same, a.sep, fun h => nomatch h⟩
theorem Go.of (s : Same G1 G2) (S : Sep G2 H2 M2) : Go false M1 M2 G1 H1 G2 H2 := ⟨s, S, fun h => nomatch h⟩

/-! ### expressions -/
theorem ev_var {i : Nat} {v : V} (h : σ[i]? = some (some v)) (hr : Rep K cl G v d) : EvX K cl true (tVar i) σ G M d M := fun G1 H1 s S Q k => ⟨v, h, k v G1 H1 (Go.refl S) (hr.mono s)⟩
theorem ev_int {i : Int} : EvX K cl true (tC (.int i)) σ G M (.int i) M := fun G1 H1 s S Q k => k _ G1 H1 (Go.refl S) Rep.int
theorem ev_str {x : Str} : EvX K cl true (tC (.str x)) σ G M (.str x) M := fun G1 H1 s S Q k => k _ G1 H1 (Go.refl S) Rep.str
theorem ev_bl {b : Bool} : EvX K cl true (tC (.bl b)) σ G M (.bl b) M := fun G1 H1 s S Q k => k _ G1 H1 (Go.refl S) Rep.bl
theorem ev_non : EvX K cl true (tC .non) σ G M .non M := fun G1 H1 s S Q k => k _ G1 H1 (Go.refl S) Rep.non
theorem ev_ref {a : Addr} : EvX K cl true (tC (.ref a)) σ G M (.loc a) M := fun G1 H1 s S Q k => k _ G1 H1 (Go.refl S) Rep.loc
theorem ev_op {rr : R2} (ha : EvX K cl p ta σ G M d1 M1) (hb : EvX K cl q tb σ G M1 d2 M2) (ho : Op2 K cl r rr M2 d1 d2 d3) : EvX K cl (p && q && r) (tOp rr ta tb) σ G M d3 M2 := fun G1 H1 s S Q k =>
  ha G1 H1 s S _ fun x G2 H2 g2 rx => hb G2 H2 (s.trans g2.same) g2.sep _ fun y G3 H3 g3 ry => ho G3 H3 g3.sep x y (rx.mono g3.same) ry Q fun w G4 H4 g4 rw' => k w G4 H4 ((g2.trans g3).trans g4) rw'
theorem ev_un {rr : V → Hp → VK → Prop} (ha : EvX K cl p ta σ G M d1 M1) (ho : Op1 K cl r rr M1 d1 d2) : EvX K cl (p && r) (tUn rr ta) σ G M d2 M1 := fun G1 H1 s S Q k =>
  ha G1 H1 s S _ fun x G2 H2 g2 rx => ho G2 H2 g2.sep x rx Q fun w G4 H4 g4 rw' => k w G4 H4 (g2.trans g4) rw'
theorem ea_nil : EvA K cl true tNil σ G M [] M := fun G1 H1 s S Q k => k [] G1 H1 (Go.refl S) Reps.nil
theorem ea_cons {tr : TA} (ha : EvX K cl p ta σ G M d M1) (hr : EvA K cl q tr σ G M1 ds M2) : EvA K cl (p && q) (tCons ta tr) σ G M (d :: ds) M2 := fun G1 H1 s S Q k =>
  ha G1 H1 s S _ fun x G2 H2 g2 rx => hr G2 H2 (s.trans g2.same) g2.sep _ fun xs G3 H3 g3 rxs => k _ G3 H3 (g2.trans g3) (Reps.cons (rx.mono g3.same) rxs)
theorem ev_cb {rr : List V → Hp → VK → Prop} (ha : EvA K cl p tx σ G M ds M1) (ho : OpN K cl q rr M1 ds d M2) : EvX K cl (p && q) (tCB rr tx) σ G M d M2 := fun G1 H1 s S Q k =>
  ha G1 H1 s S _ fun xs G2 H2 g2 rx => ho G2 H2 g2.sep xs rx Q fun w G4 H4 g4 rw' => k w G4 H4 (g2.trans g4) rw'
/-- a field of frozen data -/
theorem zip_lookup {K : PySem.W.Frag} {cl : Nat → Addr} {G : Hp} {f : Str} {d : D} : ∀ {ns : List Str} {vs : List V} {ds : List D}, Reps K cl G vs ds → (ns.zip ds).lookup f = some d → ∃ v, (ns.zip vs).lookup f = some v ∧ Rep K cl G v d
  | [], vs, ds, _, h => by simp at h
  | n :: ns, vs, [], _, h => by simp at h
  | n :: ns, vs, c :: ds, r, h => by
    obtain ⟨v, ws, rfl, rv, rr⟩ := r.uncons
    rw [List.zip_cons_cons, List.lookup_cons] at h
    rw [List.zip_cons_cons, List.lookup_cons]
    by_cases e : (f == n) = true
    · rw [e] at h ⊢
      cases h
      exact ⟨v, rfl, rv⟩
    · have e' : (f == n) = false := by simpa using e
      rw [e'] at h ⊢
      exact zip_lookup rr h
theorem ev_fld {c : Nat} {ns : List Str} {f : Str} (ha : EvX K cl p ta σ G M (.ins c ns ds) M1) (hc : Cls K (cl c)) (hn : NoAttr K (cl c) f) (hl : (ns.zip ds).lookup f = some d) : EvX K cl p (tFld K ta f) σ G M d M1 := fun G1 H1 s S Q k =>
  ha G1 H1 s S _ fun x G2 H2 g2 rx => by
    obtain ⟨a, dx, vs, e, ea, l, rs⟩ := rx.of_ins
    obtain ⟨v, lv, rv⟩ := zip_lookup rs hl
    exact ⟨a, cl c, dx, _, v, e, g2.sep.sub _ _ ea, hc, hn, lv, k v G2 H2 g2 rv⟩
/-- a field of an owned instance -/
theorem ev_fldM {a C dx : Addr} {fs : List (Str × V)} {f : Str} {v : V} (ha : EvX K cl p ta σ G M (.loc a) M1) (hm : At M1 a (.ins C dx fs)) (hc : Cls K C) (hn : NoAttr K C f) (hl : fs.lookup f = some v) (hv : Rep K cl G v d) : EvX K cl p (tFld K ta f) σ G M d M1 := fun G1 H1 s S Q k =>
  ha G1 H1 s S _ fun x G2 H2 g2 rx => ⟨a, C, dx, fs, v, rx.of_loc, g2.sep.look hm, hc, hn, hl, k v G2 H2 g2 (hv.mono (s.trans g2.same))⟩
/-- a tuple; a list that is never changed -/
theorem ev_tup (ha : EvA K cl p tx σ G M ds M1) (hl : ds.length ≤ 100000) : EvX K cl false (tTup tx) σ G M (.tup ds) M1 := fun G1 H1 s S Q k =>
  ha G1 H1 s S _ fun xs G2 H2 g2 rx => ⟨by rw [rx.length]; exact Nat.le_trans hl (by decide), fun u hu => by
    have n := g2.sep.freshG hu
    have S' := g2.sep.newG (o := .tup xs) hu
    exact k (.ref u) _ _ (Go.of (g2.same.trans (Same.upd n)) S') (Rep.tup (.inl (.inl upd_same)) (rx.mono (Same.upd n)))⟩
theorem ev_lst (ha : EvA K cl p tx σ G M ds M1) (hl : ds.length ≤ 100000) : EvX K cl false (tLst tx) σ G M (.lst ds) M1 := fun G1 H1 s S Q k =>
  ha G1 H1 s S _ fun xs G2 H2 g2 rx => ⟨by rw [rx.length]; exact Nat.le_trans hl (by decide), fun u hu => by
    have n := g2.sep.freshG hu
    have S' := g2.sep.newG (o := .lst xs) hu
    exact k (.ref u) _ _ (Go.of (g2.same.trans (Same.upd n)) S') (Rep.lst (.inl (.inl upd_same)) (rx.mono (Same.upd n)))⟩
/-- a new list that is owned -/
theorem eg_lst {F : V → Hp → ML → Prop} (ha : EvA K cl p tx σ G M ds M1) (hl : ds.length ≤ 100000) (hF : ∀ u vs G', Same G G' → Reps K cl G' vs ds → F (.ref u) G' ((u, .lst vs) :: M1)) : EvG (tLst tx) σ G M F := fun G1 H1 s S Q k =>
  ha G1 H1 s S _ fun xs G2 H2 g2 rx => ⟨by rw [rx.length]; exact Nat.le_trans hl (by decide), fun u hu =>
    k (.ref u) G2 _ _ g2.same (g2.sep.newM hu) (hF u xs G2 (s.trans g2.same) rx)⟩
theorem EvX.g {F : V → Hp → ML → Prop} (h : EvX K cl p te σ G M d M1) (hF : ∀ v G', Same G G' → Rep K cl G' v d → F v G' M1) : EvG te σ G M F := fun G1 H1 s S Q k =>
  h G1 H1 s S Q fun v G2 H2 g2 rv => k v G2 H2 M1 g2.same g2.sep (hF v G2 (s.trans g2.same) rv)
theorem EvX.mono (s : Same G G1) (h : EvX K cl p te σ G M d M1) : EvX K cl p te σ G1 M d M1 := fun G2 H2 s2 S Q k => h G2 H2 (s.trans s2) S Q k
theorem EvX.is {e : D} (h : EvX K cl p te σ G M d M1) (hd : d = e) : EvX K cl p te σ G M e M1 := hd ▸ h
theorem EvT.is {b c : Bool} (h : EvT K cl p tt σ G M b M1) (hd : b = c) : EvT K cl p tt σ G M c M1 := hd ▸ h

/-! ### tests -/
theorem et_test {b : Bool} (h : EvX K cl p te σ G M (.bl b) M1) : EvT K cl p (tTest te) σ G M b M1 := fun G1 H1 s S Q k => h G1 H1 s S _ fun x G2 H2 g2 rx => ⟨b, rx.of_bl, k G2 H2 g2⟩
theorem et_B {b : Bool} (h : EvX K cl p te σ G M (.bl b) M1) : EvT K cl p (tB te) σ G M b M1 := fun G1 H1 s S Q k => h G1 H1 s S _ fun x G2 H2 g2 rx => ⟨b, rx.of_bl, k G2 H2 g2⟩
theorem et_not {b : Bool} (h : EvT K cl p tt σ G M b M1) : EvT K cl p (tNot tt) σ G M (!b) M1 := fun G1 H1 s S Q k => h G1 H1 s S _ fun G2 H2 g2 => k G2 H2 g2
theorem et_and {a b : Bool} (h1 : EvT K cl p tt σ G M a M) (h2 : a = true → EvT K cl q tu σ G M b M) : EvT K cl (p && q) (tAnd tt tu) σ G M (a && b) M := fun G1 H1 s S Q k => h1 G1 H1 s S _ fun G2 H2 g2 => by
  cases a with
  | true =>
    show tu σ H2 Q
    exact h2 rfl G2 H2 (s.trans g2.same) g2.sep Q fun G3 H3 g3 => k G3 H3 (g2.trans g3)
  | false =>
    show Q false H2
    exact k G2 H2 ⟨g2.same, g2.sep, fun h => g2.eq (Bool.and_eq_true_iff.mp h).1⟩
theorem et_or {a b : Bool} (h1 : EvT K cl p tt σ G M a M) (h2 : a = false → EvT K cl q tu σ G M b M) : EvT K cl (p && q) (tOr tt tu) σ G M (a || b) M := fun G1 H1 s S Q k => h1 G1 H1 s S _ fun G2 H2 g2 => by
  cases a with
  | false =>
    show tu σ H2 Q
    exact h2 rfl G2 H2 (s.trans g2.same) g2.sep Q fun G3 H3 g3 => k G3 H3 (g2.trans g3)
  | true =>
    show Q true H2
    exact k G2 H2 ⟨g2.same, g2.sep, fun h => g2.eq (Bool.and_eq_true_iff.mp h).1⟩
theorem ev_andV {a b : Bool} (h1 : EvX K cl p ta σ G M (.bl a) M) (h2 : a = true → EvX K cl q tb σ G M (.bl b) M) : EvX K cl (p && q) (tAndV ta tb) σ G M (.bl (a && b)) M := fun G1 H1 s S Q k => h1 G1 H1 s S _ fun x G2 H2 g2 rx => ⟨a, rx.of_bl, by
  cases a with
  | true =>
    show tb σ H2 Q
    exact h2 rfl G2 H2 (s.trans g2.same) g2.sep Q fun v G3 H3 g3 rv => k v G3 H3 (g2.trans g3) rv
  | false =>
    show Q (.bl false) H2
    exact k _ G2 H2 ⟨g2.same, g2.sep, fun h => g2.eq (Bool.and_eq_true_iff.mp h).1⟩ Rep.bl⟩
theorem ev_orV {a b : Bool} (h1 : EvX K cl p ta σ G M (.bl a) M) (h2 : a = false → EvX K cl q tb σ G M (.bl b) M) : EvX K cl (p && q) (tOrV ta tb) σ G M (.bl (a || b)) M := fun G1 H1 s S Q k => h1 G1 H1 s S _ fun x G2 H2 g2 rx => ⟨a, rx.of_bl, by
  cases a with
  | false =>
    show tb σ H2 Q
    exact h2 rfl G2 H2 (s.trans g2.same) g2.sep Q fun v G3 H3 g3 rv => k v G3 H3 (g2.trans g3) rv
  | true =>
    show Q (.bl true) H2
    exact k _ G2 H2 ⟨g2.same, g2.sep, fun h => g2.eq (Bool.and_eq_true_iff.mp h).1⟩ Rep.bl⟩
theorem ev_notV {a : Bool} (h1 : EvX K cl p ta σ G M (.bl a) M1) : EvX K cl p (tNotV ta) σ G M (.bl (!a)) M1 := fun G1 H1 s S Q k => h1 G1 H1 s S _ fun x G2 H2 g2 rx => ⟨a, rx.of_bl, k _ G2 H2 g2 Rep.bl⟩
theorem ev_if {b : Bool} (h : EvT K cl p tt σ G M b M1) (h1 : b = true → EvX K cl q ta σ G M1 d1 M2) (h2 : b = false → EvX K cl q tb σ G M1 d2 M2) : EvX K cl (p && q) (tIf tt ta tb) σ G M (if b then d1 else d2) M2 := fun G1 H1 s S Q k => h G1 H1 s S _ fun G2 H2 g2 => by
  cases b with
  | true =>
    show ta σ H2 Q
    exact h1 rfl G2 H2 (s.trans g2.same) g2.sep Q fun v G3 H3 g3 rv => k v G3 H3 (g2.trans g3) rv
  | false =>
    show tb σ H2 Q
    exact h2 rfl G2 H2 (s.trans g2.same) g2.sep Q fun v G3 H3 g3 rv => k v G3 H3 (g2.trans g3) rv

/-! ### operations -/
theorem op2_val {rr : R2} {x y z : D} (h : ∀ G1 H1, Sep G1 H1 M → ∀ u v, Rep K cl G1 u x → Rep K cl G1 v y → ∃ w, Rep K cl G1 w z ∧ ∀ Q : VK, Q w H1 → rr u v H1 Q) : Op2 K cl true rr M x y z := fun G1 H1 S u v ru rv Q k => by
  obtain ⟨w, rw', hw⟩ := h G1 H1 S u v ru rv
  exact hw Q (k w G1 H1 (Go.refl S) rw')
theorem o_I0 {g : Int → Int → V} {i j : Int} {z : D} (hz : ∀ G, Rep K cl G (g i j) z) : Op2 K cl true (rI0 g) M (.int i) (.int j) z := op2_val fun G1 H1 S u v ru rv => ⟨g i j, hz G1, fun Q q => ⟨i, j, ru.of_int, rv.of_int, q⟩⟩
theorem o_I {C : Int → Int → Prop} {g : Int → Int → V} {i j : Int} {z : D} (hz : ∀ G, Rep K cl G (g i j) z) (hc : C i j) : Op2 K cl true (rI C g) M (.int i) (.int j) z := op2_val fun G1 H1 S u v ru rv => ⟨g i j, hz G1, fun Q q => ⟨i, j, ru.of_int, rv.of_int, hc, q⟩⟩
theorem o1_U {g : Int → V} {i : Int} {z : D} (hz : ∀ G, Rep K cl G (g i) z) : Op1 K cl true (rU g) M (.int i) z := fun G1 H1 S u ru Q k => ⟨i, ru.of_int, k _ G1 H1 (Go.refl S) (hz G1)⟩
/-- one of two rules -/
def orR (a b : R2) : R2 := fun x y H Q => a x y H Q ∨ b x y H Q
theorem o_l {a b : R2} {x y z : D} (h : Op2 K cl p a M x y z) : Op2 K cl p (orR a b) M x y z := fun G1 H1 S u v ru rv Q k => .inl (h G1 H1 S u v ru rv Q k)
theorem o_r {a b : R2} {x y z : D} (h : Op2 K cl p b M x y z) : Op2 K cl p (orR a b) M x y z := fun G1 H1 S u v ru rv Q k => .inr (h G1 H1 S u v ru rv Q k)
theorem op_or {X : Cx} {f : Value → Value → Sem Value} {a b : R2} (h1 : OpR X f a) (h2 : OpR X f b) : OpR X f (orR a b) := fun pins s σ H x y u v Q I rx ry h => h.elim (h1 pins s σ H x y u v Q I rx ry) (h2 pins s σ H x y u v Q I rx ry)

abbrev rAddI : R2 := rI0 fun i j => .int (i + j)
abbrev rAddS : R2 := fun x y H Q => ∃ i j, x = .str i ∧ y = .str j ∧ i.length + j.length ≤ sizeLine ∧ Q (.str (i ++ j)) H
/-- list + list, wherever they stand -/
def rCatA (K : PySem.W.Frag) : R2 := fun x y H Q => ∃ a b xs ys, x = .ref a ∧ y = .ref b ∧ SqL K H a xs ∧ SqL K H b ys ∧ xs.length + ys.length ≤ sizeLine ∧ ∀ l, H l = none → Q (.ref l) (upd H l (.lst (xs ++ ys)))
theorem op_catA {X : Cx} : OpR X (binaryOp .Add) (rCatA X.K) := by
  rintro pins s σ H x y v u Q I rx ry ⟨a, b, xs, ys, rfl, rfl, sa, sb, hz, q⟩
  cases rx
  cases ry
  obtain ⟨is1, r1, ⟨⟨c1, dd1, dt1, sl1⟩, n1, e1, k1, _, t1⟩, z1⟩ := I.list sa
  obtain ⟨is2, r2, ⟨⟨c2, dd2, dt2, sl2⟩, n2, e2, k2, _, t2⟩, z2⟩ := I.list sb
  simp only at k1 t1 k2 t2
  subst k1 t1 k2 t2
  have l1 := r1.length
  have l2 := r2.length
  refine PySem.concat_meets ⟨_, e1, rfl⟩ ⟨_, e2, rfl⟩ PySem.noFill_list_add PySem.seq_list_add PySem.F.slot_list_add PySem.F.entry_list_add (PySem.F.args_list_add_2 _ _) (PyProof.Rows.list_addW a b is1.toArray is2.toArray n1 n2 dd1 dd2 sl1 sl2 (by simp only [List.size_toArray]; omega)) ⟨e1, e2, ?_⟩
  have ee : is1.toArray ++ is2.toArray = (is1 ++ is2).toArray := by simp
  rw [ee]
  exact ⟨.ref _, _, I.lnew (t' := s.toks) (r1.append r2) (by rw [List.length_append]; exact hz), rfl, q _ I.fresh⟩
/-- a + b -/
def rAdd (K : PySem.W.Frag) : R2 := orR rAddI (orR rAddS (orR (rCatA K) (rCatT K)))
theorem op_addA {X : Cx} : OpR X (binaryOp .Add) (rAdd X.K) := op_or op_add (op_or op_add_str (op_or op_catA op_catT))
theorem o_catL {xs ys : List D} (h : xs.length + ys.length ≤ 100000) : Op2 K cl false (rAdd K) M (.lst xs) (.lst ys) (.lst (xs ++ ys)) := fun G1 H1 S u v ru rv Q k => by
  obtain ⟨a, us, rfl, sa, ra⟩ := ru.of_lst
  obtain ⟨b, vs, rfl, sb, rb⟩ := rv.of_lst
  refine .inr (.inr (.inl ⟨a, b, us, vs, rfl, rfl, S.sub.seq sa, S.sub.seq sb, ?_, fun l hl => ?_⟩))
  · rw [ra.length, rb.length]
    exact Nat.le_trans h (by decide)
  · have n := S.freshG hl
    exact k _ _ _ (Go.of (Same.upd n) (S.newG hl)) (Rep.lst (.inl (.inl upd_same)) ((ra.append rb).mono (Same.upd n)))
theorem o_add_int {i j : Int} : Op2 K cl true (rAdd K) M (.int i) (.int j) (.int (i + j)) := o_l (o_I0 fun _ => Rep.int)
theorem o_add_str {x y : Str} (h : x.length + y.length ≤ 100000) : Op2 K cl true (rAdd K) M (.str x) (.str y) (.str (x ++ y)) := o_r (o_l (op2_val fun G1 H1 S u v ru rv => ⟨_, Rep.str, fun Q q => ⟨x, y, ru.of_str, rv.of_str, Nat.le_trans h (by decide), q⟩⟩))
abbrev rSubI : R2 := rI0 fun i j => .int (i - j)
abbrev rMulI : R2 := rI CMul fun i j => .int (i * j)
abbrev rDivI : R2 := rI CDiv fun i j => .int (i / j)
abbrev rModI : R2 := rI (fun _ j => 0 < j) fun i j => .int (i % j)
abbrev rLtI : R2 := rI0 fun i j => .bl (decide (i < j))
abbrev rLeI : R2 := rI0 fun i j => .bl (decide (i ≤ j))
abbrev rGtI : R2 := rI0 fun i j => .bl (decide (j < i))
abbrev rGeI : R2 := rI0 fun i j => .bl (decide (j ≤ i))
abbrev rNegI : V → Hp → VK → Prop := rU fun i => .int (-i)
theorem o1_neg {i : Int} : Op1 K cl true rNegI M (.int i) (.int (-i)) := o1_U fun _ => Rep.int
theorem o_sub {i j : Int} : Op2 K cl true rSubI M (.int i) (.int j) (.int (i - j)) := o_I0 fun _ => Rep.int
theorem o_mul {i j : Int} (h : CMul i j) : Op2 K cl true rMulI M (.int i) (.int j) (.int (i * j)) := o_I (fun _ => Rep.int) h
theorem o_div {i j : Int} (h : CDiv i j) : Op2 K cl true rDivI M (.int i) (.int j) (.int (i / j)) := o_I (fun _ => Rep.int) h
theorem o_mod {i j : Int} (h : 0 < j) : Op2 K cl true rModI M (.int i) (.int j) (.int (i % j)) := o_I (fun _ => Rep.int) h
theorem o_lt {i j : Int} : Op2 K cl true rLtI M (.int i) (.int j) (.bl (decide (i < j))) := o_I0 fun _ => Rep.bl
theorem o_le {i j : Int} : Op2 K cl true rLeI M (.int i) (.int j) (.bl (decide (i ≤ j))) := o_I0 fun _ => Rep.bl
theorem o_gt {i j : Int} : Op2 K cl true rGtI M (.int i) (.int j) (.bl (decide (j < i))) := o_I0 fun _ => Rep.bl
theorem o_ge {i j : Int} : Op2 K cl true rGeI M (.int i) (.int j) (.bl (decide (j ≤ i))) := o_I0 fun _ => Rep.bl
abbrev rIsN : R2 := fun x y H Q => y = .non ∧ Q (.bl (decide (x = .non))) H
abbrev rNotN : R2 := fun x y H Q => y = .non ∧ Q (.bl (!decide (x = .non))) H
theorem o_isN {x : D} : Op2 K cl true rIsN M x .non (.bl x.isNon) := op2_val fun G1 H1 S u v ru rv => ⟨_, Rep.bl, fun Q q => ⟨rv.of_non, by rw [ru.isNon]; exact q⟩⟩
theorem o_notN {x : D} : Op2 K cl true rNotN M x .non (.bl (!x.isNon)) := op2_val fun G1 H1 S u v ru rv => ⟨_, Rep.bl, fun Q q => ⟨rv.of_non, by rw [ru.isNon]; exact q⟩⟩
/-! #### == of scalars -/
def D.scal : D → D → Option Bool
  | .int i, .int j => some (decide (i = j))
  | .str i, .str j => some (decide (i = j))
  | .bl i, .bl j => some (decide (i = j))
  | _, _ => none
theorem scal_rep {G : Hp} {x y : D} {u v : V} {b : Bool} (h : D.scal x y = some b) (ru : Rep K cl G u x) (rv : Rep K cl G v y) : scal u v = true ∧ decide (u = v) = b := by
  cases x <;> cases y <;> first | (simp [D.scal] at h; done) | skip
  · rw [ru.of_bl, rv.of_bl]; refine ⟨rfl, ?_⟩; have := Option.some.inj h; rw [← this]; simp
  · rw [ru.of_int, rv.of_int]; refine ⟨rfl, ?_⟩; have := Option.some.inj h; rw [← this]; simp
  · rw [ru.of_str, rv.of_str]; refine ⟨rfl, ?_⟩; have := Option.some.inj h; rw [← this]; simp
/-- a == b, a != b -/
def rEqA (K : PySem.W.Frag) : R2 := orR rEq (rEqD K)
def rNeA (K : PySem.W.Frag) : R2 := orR rNe (rNeD K)
theorem op_eqA {X : Cx} (hu : X.A.units + 64 < cLine) : OpR X (compareOp .Eq) (rEqA X.K) := op_or op_eq (op_eqD hu)
theorem op_neA {X : Cx} (hu : X.A.units + 64 < cLine) : OpR X (compareOp .NotEq) (rNeA X.K) := op_or op_ne (op_neD hu)
theorem o_eq {x y : D} {b : Bool} (h : D.scal x y = some b) : Op2 K cl true (rEqA K) M x y (.bl b) := o_l (op2_val fun G1 H1 S u v ru rv => ⟨_, Rep.bl, fun Q q => by
  obtain ⟨h1, h2⟩ := scal_rep h ru rv
  exact ⟨h1, by rw [h2]; exact q⟩⟩)
theorem o_ne {x y : D} {b : Bool} (h : D.scal x y = some b) : Op2 K cl true (rNeA K) M x y (.bl (!b)) := o_l (op2_val fun G1 H1 S u v ru rv => ⟨_, Rep.bl, fun Q q => by
  obtain ⟨h1, h2⟩ := scal_rep h ru rv
  exact ⟨h1, by rw [h2]; exact q⟩⟩)
/-! #### items -/
theorem Reps.atI {G : Hp} {vs : List V} {ds : List D} {i : Int} {d : D} (r : Reps K cl G vs ds) (h : atI ds i = some d) : ∃ v, atI vs i = some v ∧ Rep K cl G v d := by
  obtain ⟨j, h1, h2, h3, h4, h5⟩ := atI_get h
  obtain ⟨v, hv, rv⟩ := r.getD h2
  refine ⟨v, ?_, rv⟩
  unfold L2.atI at h ⊢
  rw [r.length]
  cases e : ixN ds.length i with
  | none => rw [e] at h; cases h
  | some k =>
    obtain ⟨e1, _⟩ := ixN_seq e
    rw [h1] at e1
    cases e1
    exact hv
theorem o_ixT {i : Int} (h : atI ds i = some d) : Op2 K cl true (rIx K) M (.tup ds) (.int i) d := op2_val fun G1 H1 S u v ru rv => by
  obtain ⟨a, vs, e, sq, rs⟩ := ru.of_tup
  obtain ⟨w, hw, rw'⟩ := rs.atI h
  exact ⟨w, rw', fun Q q => .inr (.inl ⟨a, vs, i, w, e, rv.of_int, Same.seqT S.sub sq, hw, q⟩)⟩
theorem o_ixL {i : Int} (h : atI ds i = some d) : Op2 K cl true (rIx K) M (.lst ds) (.int i) d := op2_val fun G1 H1 S u v ru rv => by
  obtain ⟨a, vs, e, sq, rs⟩ := ru.of_lst
  obtain ⟨w, hw, rw'⟩ := rs.atI h
  exact ⟨w, rw', fun Q q => .inl ⟨a, vs, i, w, e, rv.of_int, S.sub.seq sq, hw, q⟩⟩
end
end Cp
/-! Cp3: calls of defs and built-ins as data; statements. -/
namespace Cp
open PySem L2

section
variable (K : PySem.W.Frag) (cl : Nat → Addr)
/-- a def that changes nothing: from data to a datum -/
def PSp (R : List D → D → Prop) : Sp := fun vs H Q _ => ∃ ds d G M, R ds d ∧ Sep G H M ∧ Reps K cl G vs ds ∧ ∀ v G' H', Same G G' → Sep G' H' M → Rep K cl G' v d → Q v H'
/-- any def: a word over the frozen part and the owned part -/
def GSp (R : List V → Hp → ML → (V → Hp → ML → Prop) → Prop) : Sp := fun vs H Q _ => ∃ G M, Sep G H M ∧ R vs G M fun v G' M' => Same G G' → ∀ H', Sep G' H' M' → Q v H'
/-- an __init__ that stores data: the fields' names, from the arguments to the fields -/
def ISp (c : Nat) (ns : List Str) (R : List D → List D → Prop) : Sp := fun vs H Q _ => ∃ x dx us ds es G M, vs = .ref x :: us ∧ R ds es ∧ Sep G H ((x, .ins (cl c) dx (List.zip [] [])) :: M) ∧ Reps K cl G us ds ∧
  ∀ ws G' H', Same G G' → Sep G' H' ((x, .ins (cl c) dx (ns.zip ws)) :: M) → ns.length = ws.length → Reps K cl G' ws es → Q .non H'
end
section
variable {K : PySem.W.Frag} {cl : Nat → Addr} {p q r : Bool} {M M1 M2 M3 M4 : ML} {G G1 G2 G3 H H1 H2 H3 : Hp} {σ : St} {ta tb te : TE} {tx : TA} {tt tu : TT} {d d1 d2 d3 : D} {ds es : List D}

theorem ev_call {R : List D → D → Prop} {E : XK} (ha : EvA K cl p tx σ G M ds M1) (hR : R ds d) : EvX K cl false (tCall (PSp K cl R) [] E tx) σ G M d M1 := fun G1 H1 s S Q k =>
  ha G1 H1 s S _ fun xs G2 H2 g2 rx => ⟨ds, d, G2, M1, hR, g2.sep, by rw [List.append_nil]; exact rx, fun v G' H' s' S' rv => k v G' H' (Go.of (g2.same.trans s') S') rv⟩
theorem zip_none {ns : List Str} {f : Str} : ∀ {vs : List V}, ns.contains f = false → (ns.zip vs).lookup f = none := by
  induction ns with
  | nil => intro vs _; rfl
  | cons n ns ih =>
    intro vs h
    cases vs with
    | nil => rfl
    | cons v vs =>
      rw [List.contains_cons, Bool.or_eq_false_iff] at h
      rw [List.zip_cons_cons, List.lookup_cons, h.1]
      exact ih h.2
theorem ev_meth {R : List D → D → Prop} {E : XK} {c : Nat} {m : Str} {ns : List Str} {fs : List D} (he : EvX K cl p ta σ G M (.ins c ns fs) M1) (ha : EvA K cl q tx σ G M1 ds M2) (hm : ns.contains m = false) (hR : R (.ins c ns fs :: ds) d) :
    EvX K cl false (tMeth (cl c) m (PSp K cl R) [] E ta tx) σ G M d M2 := fun G1 H1 s S Q k =>
  he G1 H1 s S _ fun x G2 H2 g2 rx => by
    obtain ⟨a, dx, vs, e, ea, l, rs⟩ := rx.of_ins
    exact ⟨a, dx, _, e, g2.sep.sub _ _ ea, zip_none hm, ha G2 H2 (s.trans g2.same) g2.sep _ fun xs G3 H3 g3 rxs =>
      ⟨_, d, G3, M2, hR, g3.sep, by rw [List.append_nil]; exact Reps.cons (rx.mono g3.same) rxs, fun v G' H' s' S' rv => k v G' H' (Go.of ((g2.same.trans g3.same).trans s') S') rv⟩⟩
theorem ev_make {R : List D → List D → Prop} {E : XK} {c : Nat} {ns : List Str} (ha : EvA K cl p tx σ G M ds M1) (hR : R ds es) : EvX K cl false (tMake (cl c) (ISp K cl c ns R) [] E tx) σ G M (.ins c ns es) M1 := fun G1 H1 s S Q k =>
  ha G1 H1 s S _ fun xs G2 H2 g2 rx => fun x dx nx ndx ne => by
    have nxG := g2.sep.freshG nx
    have ndG := g2.sep.freshG ndx
    have S1 : Sep (upd G2 dx (.own x)) (upd H2 dx (.own x)) M1 := g2.sep.newG ndx
    have nx' : upd H2 dx (.own x) x = none := by rw [upd_ne ne.symm]; exact nx
    have S2 := S1.newM (o := .ins (cl c) dx []) nx'
    refine ⟨x, dx, xs, ds, es, _, M1, by rw [List.append_nil], hR, S2, rx.mono (Same.upd ndG), fun ws G' H' s' S' hl rs => ⟨rfl, ?_⟩⟩
    obtain ⟨S3, s3⟩ := S'.freeze
    exact k (.ref x) _ H' (Go.of (((g2.same.trans (Same.upd ndG)).trans s').trans s3) S3) (Rep.ins upd_same hl (rs.mono s3))
/-- the new instance is owned -/
theorem eg_make {R : List D → List D → Prop} {E : XK} {c : Nat} {ns : List Str} {F : V → Hp → ML → Prop} (ha : EvA K cl p tx σ G M ds M1) (hR : R ds es)
    (hF : ∀ x dx ws G', Same G G' → ns.length = ws.length → Reps K cl G' ws es → F (.ref x) G' ((x, .ins (cl c) dx (ns.zip ws)) :: M1)) : EvG (tMake (cl c) (ISp K cl c ns R) [] E tx) σ G M F := fun G1 H1 s S Q k =>
  ha G1 H1 s S _ fun xs G2 H2 g2 rx => fun x dx nx ndx ne => by
    have ndG := g2.sep.freshG ndx
    have S1 : Sep (upd G2 dx (.own x)) (upd H2 dx (.own x)) M1 := g2.sep.newG ndx
    have nx' : upd H2 dx (.own x) x = none := by rw [upd_ne ne.symm]; exact nx
    have S2 := S1.newM (o := .ins (cl c) dx []) nx'
    refine ⟨x, dx, xs, ds, es, _, M1, by rw [List.append_nil], hR, S2, rx.mono (Same.upd ndG), fun ws G' H' s' S' hl rs => ⟨rfl, ?_⟩⟩
    have s1 := (g2.same.trans (Same.upd ndG)).trans s'
    exact k (.ref x) G' H' _ s1 S' (hF x dx ws G' (s.trans s1) hl rs)
/-- a def of the general kind -/
theorem eg_call {R : List V → Hp → ML → (V → Hp → ML → Prop) → Prop} {E : XK} {F : V → Hp → ML → Prop} (ha : EvA K cl p tx σ G M ds M1)
    (hR : ∀ vs G' (T : V → Hp → ML → Prop), Same G G' → Reps K cl G' vs ds → (∀ v G'' M'', Same G' G'' → F v G'' M'' → T v G'' M'') → R vs G' M1 T) : EvG (tCall (GSp R) [] E tx) σ G M F := fun G1 H1 s S Q k =>
  ha G1 H1 s S _ fun xs G2 H2 g2 rx => ⟨G2, M1, g2.sep, by
    rw [List.append_nil]
    refine hR xs G2 _ (s.trans g2.same) rx fun v G'' M'' s'' hF sm H' S' => k v G'' H' M'' (g2.same.trans sm) S' hF⟩
/-- .. whose answer is a datum, and M' known ahead -/
theorem ev_callG {R : List V → Hp → ML → (V → Hp → ML → Prop) → Prop} {E : XK} (ha : EvA K cl p tx σ G M ds M1)
    (hR : ∀ vs G' (T : V → Hp → ML → Prop), Same G G' → Reps K cl G' vs ds → (∀ v G'', Same G' G'' → Rep K cl G'' v d → T v G'' M2) → R vs G' M1 T) : EvX K cl false (tCall (GSp R) [] E tx) σ G M d M2 := fun G1 H1 s S Q k =>
  ha G1 H1 s S _ fun xs G2 H2 g2 rx => ⟨G2, M1, g2.sep, by
    rw [List.append_nil]
    exact hR xs G2 _ (s.trans g2.same) rx fun v G'' s'' rv sm H' S' => k v G'' H' (Go.of (g2.same.trans s'') S') rv⟩

theorem num_len {n : Int} (h0 : 0 ≤ n) (h : n < 10000000000) : (Str.ofString (toString n)).length ≤ 10 := PyProof.Rows.toString_length_le h0 (by decide) (by omega)
theorem num_log {n : Int} (h0 : 0 ≤ n) (h : n < 10000000000) : n.natAbs.log2 < 1920 := by
  have : n.natAbs < 2 ^ 1920 := Nat.lt_of_lt_of_le (show n.natAbs < 2 ^ 40 by omega) (Nat.pow_le_pow_right (by decide) (by decide))
  by_cases e : n.natAbs = 0
  · rw [e]; decide
  · exact (Nat.log2_lt e).mpr this
theorem app_len {x y : Str} {a b c : Nat} (hx : x.length ≤ a) (hy : y.length ≤ b) (h : a + b ≤ c) : (x ++ y).length ≤ c := by
  rw [PySem.Str.length_append]
  omega
theorem Ch.perm {a : Addr} {o o' : HO} (h : Ch M a o o' M1) : ∃ M0, M.Perm ((a, o) :: M0) ∧ M1.Perm ((a, o') :: M0) := by
  induction h with
  | hd => exact ⟨_, List.Perm.refl _, List.Perm.refl _⟩
  | @tl a o o' e M M' _ ih =>
    obtain ⟨M0, p1, p2⟩ := ih
    exact ⟨e :: M0, (p1.cons e).trans (List.Perm.swap (a, o) e M0), (p2.cons e).trans (List.Perm.swap (a, o') e M0)⟩
/-- the k-th place of a change, over one arrangement -/
theorem Ch.perm_to {a : Addr} {o o' : HO} {M0 : ML} (h : Ch M a o o' M1) (p : M.Perm ((a, o) :: M0)) : M1.Perm ((a, o') :: M0) := by
  obtain ⟨M9, p1, p2⟩ := h.perm
  have : ((a, o) :: M9).Perm ((a, o) :: M0) := p1.symm.trans p
  exact p2.trans ((List.perm_cons (a, o)).mp this |>.cons _)
theorem ev_ixM {a : Addr} {vs : List V} {i : Int} {v : V} (ha : EvX K cl p ta σ G M (.loc a) M1) (hb : EvX K cl q tb σ G M1 (.int i) M2) (hm : At M2 a (.lst vs)) (hi : atI vs i = some v) (hv : Rep K cl G v d) : EvX K cl (p && q) (tOp (rIx K) ta tb) σ G M d M2 := fun G1 H1 s S Q k =>
  ha G1 H1 s S _ fun x G2 H2 g2 rx => hb G2 H2 (s.trans g2.same) g2.sep _ fun y G3 H3 g3 ry => .inl ⟨a, vs, i, v, rx.of_loc, ry.of_int, .inl (.inl (g3.sep.look hm)), hi, k v G3 H3 (g2.trans g3) (hv.mono ((s.trans g2.same).trans g3.same))⟩
theorem atI_getD {α : Type} {xs : List α} {i : Int} (x : α) (h0 : 0 ≤ i) (h1 : i < xs.length) : atI xs i = some (xs.getD i.toNat x) := by
  obtain ⟨n, rfl⟩ := Int.eq_ofNat_of_zero_le h0
  have hn : n < xs.length := by omega
  rw [atI_nat (j := n) (v := xs[n]) (by simp [hn])]
  simp [hn]
theorem eg_nil : EvG (tLst tNil) σ G M fun v G' M' => ∃ u, v = .ref u ∧ M' = (u, .lst []) :: M := fun G1 H1 s S Q k =>
  ⟨Nat.zero_le _, fun u hu => k (.ref u) G1 _ _ (Same.refl _) (S.newM hu) ⟨u, rfl, rfl⟩⟩
/-! ### built-ins -/
theorem on_val {rr : List V → Hp → VK → Prop} {xs : List D} {z : D} (h : ∀ G1 H1, Sep G1 H1 M → ∀ us, Reps K cl G1 us xs → ∃ w, Rep K cl G1 w z ∧ ∀ Q : VK, Q w H1 → rr us H1 Q) : OpN K cl true rr M xs z M := fun G1 H1 S us ru Q k => by
  obtain ⟨w, rw', hw⟩ := h G1 H1 S us ru
  exact hw Q (k w G1 H1 (Go.refl S) rw')
theorem reps1 {us : List V} (h : Reps K cl G us [d]) : ∃ u, us = [u] ∧ Rep K cl G u d := by
  obtain ⟨u, ws, rfl, hu, hw⟩ := h.uncons
  simp only [Reps] at hw
  subst hw
  exact ⟨u, rfl, hu⟩
theorem reps2 {us : List V} (h : Reps K cl G us [d1, d2]) : ∃ u v, us = [u, v] ∧ Rep K cl G u d1 ∧ Rep K cl G v d2 := by
  obtain ⟨u, ws, rfl, hu, hw⟩ := h.uncons
  obtain ⟨v, rfl, hv⟩ := reps1 hw
  exact ⟨u, v, rfl, hu, hv⟩
abbrev rLenA (K : PySem.W.Frag) : List V → Hp → VK → Prop := fun xs H Q => ∃ x n, xs = [x] ∧ LenV K x H n ∧ Q (.int n) H
abbrev rStrI : List V → Hp → VK → Prop := fun xs H Q => ∃ i, xs = [.int i] ∧ i.natAbs.log2 < 1920 ∧ Q (.str (toString i)) H
abbrev rInt1 : List V → Hp → VK → Prop := fun xs H Q => (∃ i, xs = [.int i] ∧ Q (.int i) H) ∨ ∃ k, xs = [.bl k] ∧ Q (.int (if k then 1 else 0)) H
abbrev rMin2 : List V → Hp → VK → Prop := fun xs H Q => ∃ i j, xs = [.int i, .int j] ∧ Q (.int (if j < i then j else i)) H
abbrev rMax2 : List V → Hp → VK → Prop := fun xs H Q => ∃ i j, xs = [.int i, .int j] ∧ Q (.int (if j > i then j else i)) H
abbrev rTupA (K : PySem.W.Frag) : List V → Hp → VK → Prop := fun xs H Q => ∃ p ys, xs = [.ref p] ∧ ((SqL K H p ys ∧ ∀ l, H l = none → Q (.ref l) (upd H l (.tup ys))) ∨ (SqT K H p ys ∧ Q (.ref p) H))
abbrev rListA (K : PySem.W.Frag) : List V → Hp → VK → Prop := fun xs H Q => ∃ p ys, xs = [.ref p] ∧ (SqL K H p ys ∨ SqT K H p ys) ∧ ∀ l, H l = none → Q (.ref l) (upd H l (.lst ys))
theorem on_int {i : Int} : OpN K cl true rInt1 M [.int i] (.int i) M := on_val fun G1 H1 S us ru => by
  obtain ⟨u, rfl, hu⟩ := reps1 ru
  exact ⟨_, Rep.int, fun Q q => .inl ⟨i, by rw [hu.of_int], q⟩⟩
theorem on_intB {b : Bool} : OpN K cl true rInt1 M [.bl b] (.int (if b then 1 else 0)) M := on_val fun G1 H1 S us ru => by
  obtain ⟨u, rfl, hu⟩ := reps1 ru
  exact ⟨_, Rep.int, fun Q q => .inr ⟨b, by rw [hu.of_bl], q⟩⟩
theorem on_str {i : Int} (h : i.natAbs.log2 < 1920) : OpN K cl true rStrI M [.int i] (.str (toString i)) M := on_val fun G1 H1 S us ru => by
  obtain ⟨u, rfl, hu⟩ := reps1 ru
  exact ⟨_, Rep.str, fun Q q => ⟨i, by rw [hu.of_int], h, q⟩⟩
theorem on_min {i j : Int} : OpN K cl true rMin2 M [.int i, .int j] (.int (if j < i then j else i)) M := on_val fun G1 H1 S us ru => by
  obtain ⟨u, v, rfl, hu, hv⟩ := reps2 ru
  exact ⟨_, Rep.int, fun Q q => ⟨i, j, by rw [hu.of_int, hv.of_int], q⟩⟩
theorem on_max {i j : Int} : OpN K cl true rMax2 M [.int i, .int j] (.int (if j > i then j else i)) M := on_val fun G1 H1 S us ru => by
  obtain ⟨u, v, rfl, hu, hv⟩ := reps2 ru
  exact ⟨_, Rep.int, fun Q q => ⟨i, j, by rw [hu.of_int, hv.of_int], q⟩⟩
theorem on_lenS {x : Str} (h : x.length ≤ 100000) : OpN K cl true (rLenA K) M [.str x] (.int x.length) M := on_val fun G1 H1 S us ru => by
  obtain ⟨u, rfl, hu⟩ := reps1 ru
  refine ⟨_, Rep.int, fun Q q => ⟨.str x, x.length, by rw [hu.of_str], ⟨Nat.le_trans h (by decide), rfl⟩, q⟩⟩
theorem on_lenL : OpN K cl true (rLenA K) M [.lst ds] (.int ds.length) M := on_val fun G1 H1 S us ru => by
  obtain ⟨u, rfl, hu⟩ := reps1 ru
  obtain ⟨a, vs, rfl, sq, rs⟩ := hu.of_lst
  refine ⟨_, Rep.int, fun Q q => ⟨.ref a, ds.length, rfl, .inl ⟨vs, S.sub.seq sq, rs.length.symm⟩, q⟩⟩
theorem on_lenT : OpN K cl true (rLenA K) M [.tup ds] (.int ds.length) M := on_val fun G1 H1 S us ru => by
  obtain ⟨u, rfl, hu⟩ := reps1 ru
  obtain ⟨a, vs, rfl, sq, rs⟩ := hu.of_tup
  refine ⟨_, Rep.int, fun Q q => ⟨.ref a, ds.length, rfl, .inr ⟨vs, Same.seqT S.sub sq, rs.length.symm⟩, q⟩⟩
theorem on_lenM {a : Addr} {vs : List V} (h : At M a (.lst vs)) : OpN K cl true (rLenA K) M [.loc a] (.int vs.length) M := on_val fun G1 H1 S us ru => by
  obtain ⟨u, rfl, hu⟩ := reps1 ru
  refine ⟨_, Rep.int, fun Q q => ⟨.ref a, vs.length, by rw [hu.of_loc], .inl ⟨vs, .inl (.inl (S.look h)), rfl⟩, q⟩⟩
theorem on_tupL : OpN K cl false (rTupA K) M [.lst ds] (.tup ds) M := fun G1 H1 S us ru Q k => by
  obtain ⟨u, rfl, hu⟩ := reps1 ru
  obtain ⟨a, vs, rfl, sq, rs⟩ := hu.of_lst
  exact ⟨a, vs, rfl, .inl ⟨S.sub.seq sq, fun l hl => k _ _ _ (Go.of (Same.upd (S.freshG hl)) (S.newG hl)) (Rep.tup (.inl (.inl upd_same)) (rs.mono (Same.upd (S.freshG hl))))⟩⟩
theorem on_tupT : OpN K cl true (rTupA K) M [.tup ds] (.tup ds) M := on_val fun G1 H1 S us ru => by
  obtain ⟨u, rfl, hu⟩ := reps1 ru
  obtain ⟨a, vs, rfl, sq, rs⟩ := hu.of_tup
  exact ⟨_, hu, fun Q q => ⟨a, vs, rfl, .inr ⟨Same.seqT S.sub sq, q⟩⟩⟩
/-- an owned list's items, as they stand -/
theorem on_tupM {a : Addr} {vs : List V} (h : At M a (.lst vs)) (hr : Reps K cl G vs ds) : ∀ G1 H1, Same G G1 → Sep G1 H1 M → ∀ Q : VK, (∀ w G2 H2, Go false M M G1 H1 G2 H2 → Rep K cl G2 w (.tup ds) → Q w H2) → rTupA K [.ref a] H1 Q := fun G1 H1 s S Q k =>
  ⟨a, vs, rfl, .inl ⟨.inl (.inl (S.look h)), fun l hl => k _ _ _ (Go.of (Same.upd (S.freshG hl)) (S.newG hl)) (Rep.tup (.inl (.inl upd_same)) ((hr.mono s).mono (Same.upd (S.freshG hl))))⟩⟩
theorem ev_tupM {a : Addr} {vs : List V} (ha : EvX K cl p ta σ G M (.loc a) M1) (h : At M1 a (.lst vs)) (hr : Reps K cl G vs ds) : EvX K cl false (tCB (rTupA K) (tCons ta tNil)) σ G M (.tup ds) M1 := fun G1 H1 s S Q k =>
  ha G1 H1 s S _ fun x G2 H2 g2 rx => by
    rw [rx.of_loc]
    exact on_tupM h hr G2 H2 (s.trans g2.same) g2.sep Q fun w G3 H3 g3 rw' => k w G3 H3 (Go.of (g2.same.trans g3.same) g3.sep) rw'
/-- s.startswith(t) -/
abbrev rStarts : V → List V → Hp → VK → Prop := fun x xs H Q => ∃ a b, x = .str a ∧ xs = [.str b] ∧ Q (.bl (Txt.startswith a b)) H
theorem ev_starts {x y : Str} (ha : EvX K cl p ta σ G M (.str x) M1) (hb : EvX K cl q tb σ G M1 (.str y) M2) : EvX K cl (p && q) (tM1 rStarts ta tb) σ G M (.bl (Txt.startswith x y)) M2 := fun G1 H1 s S Q k =>
  ha G1 H1 s S _ fun u G2 H2 g2 ru => ⟨⟨x, ru.of_str⟩, hb G2 H2 (s.trans g2.same) g2.sep _ fun v G3 H3 g3 rv => ⟨x, y, ru.of_str, by rw [rv.of_str], k _ G3 H3 (g2.trans g3) Rep.bl⟩⟩
/-! slices -/
def EvO (p : Bool) (K : PySem.W.Frag) (cl : Nat → Addr) (to : TO) (σ : St) (G : Hp) (M : ML) (o : Option Int) : Prop :=
  ∀ G1 H1, Same G G1 → Sep G1 H1 M → ∀ Q : Option Int → Hp → Prop, (∀ G2 H2, Go p M M G1 H1 G2 H2 → Q o H2) → to σ H1 Q
theorem eo_none : EvO true K cl tNoPart σ G M none := fun G1 H1 s S Q k => k G1 H1 (Go.refl S)
theorem eo_some {i : Int} (h : EvX K cl p te σ G M (.int i) M) : EvO p K cl (tPart te) σ G M (some i) := fun G1 H1 s S Q k => h G1 H1 s S _ fun x G2 H2 g2 rx => ⟨i, rx.of_int, k G2 H2 g2⟩
abbrev SlK := V → Option Int → Option Int → Hp → VK → Prop
def orS (a b : SlK) : SlK := fun x l u H Q => a x l u H Q ∨ b x l u H Q
theorem sl_or {X : Cx} {a b : SlK} (h1 : SlR X a) (h2 : SlR X b) : SlR X (orS a b) := fun pins s σ H x v vl vu lo hi sl Q I rx hs pl pu h => h.elim (h1 pins s σ H x v vl vu lo hi sl Q I rx hs pl pu) (h2 pins s σ H x v vl vu lo hi sl Q I rx hs pl pu)
/-- xs[lo:hi] of a list or a text -/
def rSlA (K : PySem.W.Frag) : SlK := orS (rSlL K) rSlS
theorem sl_any {X : Cx} : SlR X (rSlA X.K) := sl_or sl_list sl_str
theorem ev_slS {x : Str} {tl th : TO} {lo hi : Option Int} (ha : EvX K cl p ta σ G M (.str x) M1) (hl : EvO q K cl tl σ G M1 lo) (hh : EvO r K cl th σ G M1 hi) (hx : x.length ≤ 100000) : EvX K cl (p && q && r) (tSl (rSlA K) ta tl th) σ G M (.str (cutS x lo hi)) M1 := fun G1 H1 s S Q k =>
  ha G1 H1 s S _ fun u G2 H2 g2 ru => hl G2 H2 (s.trans g2.same) g2.sep _ fun G3 H3 g3 => hh G3 H3 ((s.trans g2.same).trans g3.same) g3.sep _ fun G4 H4 g4 =>
    .inr ⟨x, ru.of_str, Nat.le_trans hx (by decide), k _ G4 H4 ((g2.trans g3).trans g4) Rep.str⟩
def cutD (xs : List D) (lo hi : Option Int) : List D := (xs.drop (HT.sIx xs.length 0 lo)).take (HT.sIx xs.length xs.length hi - HT.sIx xs.length 0 lo)
theorem Reps.cut {vs : List V} {lo hi : Option Int} (h : Reps K cl G vs ds) : Reps K cl G (cutV vs lo hi) (cutD ds lo hi) := by
  unfold cutV cutD
  rw [h.length]
  exact (h.drop _).take _
theorem ev_slL {tl th : TO} {lo hi : Option Int} (ha : EvX K cl p ta σ G M (.lst ds) M1) (hl : EvO q K cl tl σ G M1 lo) (hh : EvO r K cl th σ G M1 hi) : EvX K cl false (tSl (rSlA K) ta tl th) σ G M (.lst (cutD ds lo hi)) M1 := fun G1 H1 s S Q k =>
  ha G1 H1 s S _ fun u G2 H2 g2 ru => hl G2 H2 (s.trans g2.same) g2.sep _ fun G3 H3 g3 => hh G3 H3 ((s.trans g2.same).trans g3.same) g3.sep _ fun G4 H4 g4 => by
    obtain ⟨a, vs, e, sq, rs⟩ := ru.of_lst
    have s4 : Same G2 G4 := g3.same.trans g4.same
    refine .inl ⟨a, vs, e, (s4.trans g4.sep.sub).seq sq, fun l hl => ?_⟩
    have n := g4.sep.freshG hl
    exact k _ _ _ (Go.of ((g2.same.trans s4).trans (Same.upd n)) (g4.sep.newG hl)) (Rep.lst (.inl (.inl upd_same)) ((rs.mono (s4.trans (Same.upd n))).cut))

/-! ### statements -/
variable {nx : St → Hp → Prop} {rt : VK} {bk ct : St → Hp → Prop} {t u : TS}
theorem s_seq (h : t ⟨u ⟨nx, rt, bk, ct⟩, rt, bk, ct⟩ σ H) : tSeq t u ⟨nx, rt, bk, ct⟩ σ H := h
theorem s_asg {i : Nat} (S : Sep G H M) (h : EvX K cl p te σ G M d M1) (k : ∀ v G' H', Go p M M1 G H G' H' → Rep K cl G' v d → nx (σ.set i (some v)) H') : tAsg te (gName i) ⟨nx, rt, bk, ct⟩ σ H :=
  h G H (Same.refl _) S _ fun v G2 H2 g rv => k v G2 H2 g rv
theorem s_asgG {i : Nat} {F : V → Hp → ML → Prop} (S : Sep G H M) (h : EvG te σ G M F) (k : ∀ v G' H' M', Same G G' → Sep G' H' M' → F v G' M' → nx (σ.set i (some v)) H') : tAsg te (gName i) ⟨nx, rt, bk, ct⟩ σ H :=
  h G H (Same.refl _) S _ fun v G2 H2 M2 s S2 f => k v G2 H2 M2 s S2 f
theorem s_ret (S : Sep G H M) (h : EvX K cl p te σ G M d M1) (k : ∀ v G' H', Go p M M1 G H G' H' → Rep K cl G' v d → rt v H') : tRet te ⟨nx, rt, bk, ct⟩ σ H :=
  h G H (Same.refl _) S _ fun v G2 H2 g rv => k v G2 H2 g rv
theorem s_retG {F : V → Hp → ML → Prop} (S : Sep G H M) (h : EvG te σ G M F) (k : ∀ v G' H' M', Same G G' → Sep G' H' M' → F v G' M' → rt v H') : tRet te ⟨nx, rt, bk, ct⟩ σ H :=
  h G H (Same.refl _) S _ fun v G2 H2 M2 s S2 f => k v G2 H2 M2 s S2 f
theorem s_drop (S : Sep G H M) (h : EvX K cl p te σ G M d M1) (k : ∀ v G' H', Go p M M1 G H G' H' → Rep K cl G' v d → nx σ H') : tDrop te ⟨nx, rt, bk, ct⟩ σ H :=
  h G H (Same.refl _) S _ fun v G2 H2 g rv => k v G2 H2 g rv
theorem s_if {b : Bool} (S : Sep G H M) (h : EvT K cl p tt σ G M b M1) (h1 : ∀ G' H', Go p M M1 G H G' H' → b = true → t ⟨nx, rt, bk, ct⟩ σ H') (h2 : ∀ G' H', Go p M M1 G H G' H' → b = false → u ⟨nx, rt, bk, ct⟩ σ H') : tIfS tt t u ⟨nx, rt, bk, ct⟩ σ H :=
  h G H (Same.refl _) S _ fun G2 H2 g => by
    cases b with
    | true => exact h1 G2 H2 g rfl
    | false => exact h2 G2 H2 g rfl
/-- both ways meet again -/
theorem s_ifJ {b : Bool} (J : St → Hp → ML → Prop) (S : Sep G H M) (h : EvT K cl p tt σ G M b M1)
    (h1 : (∀ σ' G' H' M', Same G G' → Sep G' H' M' → J σ' G' M' → nx σ' H') → ∀ G' H', Go p M M1 G H G' H' → b = true → t ⟨nx, rt, bk, ct⟩ σ H')
    (h2 : (∀ σ' G' H' M', Same G G' → Sep G' H' M' → J σ' G' M' → nx σ' H') → ∀ G' H', Go p M M1 G H G' H' → b = false → u ⟨nx, rt, bk, ct⟩ σ H')
    (k : ∀ σ' G' H' M', Same G G' → Sep G' H' M' → J σ' G' M' → nx σ' H') : tIfS tt t u ⟨nx, rt, bk, ct⟩ σ H := s_if S h (h1 k) (h2 k)
theorem s_next (h : nx σ H) : tNext ⟨nx, rt, bk, ct⟩ σ H := h
theorem s_break (h : bk σ H) : tBreak ⟨nx, rt, bk, ct⟩ σ H := h
theorem s_cont (h : ct σ H) : tCont ⟨nx, rt, bk, ct⟩ σ H := h
theorem s_retN (h : rt .non H) : tRetN ⟨nx, rt, bk, ct⟩ σ H := h
/-- self.f = e, self owned -/
theorem s_fld {a C dx : Addr} {fs : List (Str × V)} {f : Str} {tv : TE} {M' : V → ML} (S : Sep G H M) (hv : EvX K cl p tv σ G M d M1) (ha : EvX K cl q ta σ G M1 (.loc a) M2) (hm : ∀ v, Ch M2 a (.ins C dx fs) (.ins C dx (putF f v fs)) (M' v)) (hc : Cls K C) (hn : NoAttr K C f) (hl : fs.length < 1000)
    (k : ∀ v G' H', Same G G' → Sep G' H' (M' v) → Rep K cl G' v d → nx σ H') : sFld K ta tv f ⟨nx, rt, bk, ct⟩ σ H :=
  hv G H (Same.refl _) S _ fun v G2 H2 g2 rv => ha G2 H2 g2.same g2.sep _ fun x G3 H3 g3 rx =>
    ⟨a, C, dx, fs, rx.of_loc, g3.sep.look (hm v).at, hc, hn, hl, k v G3 _ (g2.same.trans g3.same) (g3.sep.ch (hm v)) (rv.mono g3.same)⟩
theorem putF_zip_new {f : Str} {v : V} : ∀ {ns : List Str} {vs : List V}, ns.length = vs.length → ns.contains f = false → putF f v (ns.zip vs) = (ns ++ [f]).zip (vs ++ [v])
  | [], [], _, _ => rfl
  | [], _ :: _, h, _ => by simp at h
  | _ :: _, [], h, _ => by simp at h
  | n :: ns, w :: vs, h, hc => by
    rw [List.contains_cons, Bool.or_eq_false_iff] at hc
    have hne : ¬ n = f := fun e => by rw [e] at hc; simp at hc
    rw [List.zip_cons_cons]
    show (if n = f then _ else _) = _
    rw [if_neg hne, putF_zip_new (Nat.succ.inj h) hc.2]
    rfl
theorem putF_zip_set {f : Str} {v : V} : ∀ {ns : List Str} {vs : List V} {i : Nat}, ns.length = vs.length → ns.findIdx? (· == f) = some i → putF f v (ns.zip vs) = ns.zip (vs.set i v)
  | [], [], i, _, h => by simp at h
  | [], _ :: _, _, h, _ => by simp at h
  | _ :: _, [], _, h, _ => by simp at h
  | n :: ns, w :: vs, i, h, hc => by
    rw [List.zip_cons_cons]
    rw [List.findIdx?_cons] at hc
    by_cases e : n = f
    · have e' : (n == f) = true := by simp [e]
      rw [e'] at hc
      simp at hc
      subst hc
      show (if n = f then _ else _) = _
      rw [if_pos e]
      rfl
    · have e' : (n == f) = false := by simp [e]
      rw [e'] at hc
      simp at hc
      obtain ⟨j, hj, rfl⟩ := hc
      show (if n = f then _ else _) = _
      rw [if_neg e, putF_zip_set (Nat.succ.inj h) hj]
      rfl
/-- self.f = e: a field that is not there yet -/
theorem s_fldN {a C dx : Addr} {ns : List Str} {vs : List V} {f : Str} {tv : TE} {M' : V → ML} (S : Sep G H M) (hv : EvX K cl p tv σ G M d M1) (ha : EvX K cl q ta σ G M1 (.loc a) M2) (hm : ∀ v, Ch M2 a (.ins C dx (ns.zip vs)) (.ins C dx ((ns ++ [f]).zip (vs ++ [v]))) (M' v)) (hc : Cls K C) (hn : NoAttr K C f)
    (hl : ns.length = vs.length) (hx : ns.contains f = false) (hk : ns.length < 1000) (k : ∀ v G' H', Same G G' → Sep G' H' (M' v) → Rep K cl G' v d → nx σ H') : sFld K ta tv f ⟨nx, rt, bk, ct⟩ σ H :=
  s_fld (fs := ns.zip vs) S hv ha (fun v => by rw [putF_zip_new hl hx]; exact hm v) hc hn (by rw [List.length_zip]; omega) k
/-- .. a field that is there -/
theorem s_fldU {a C dx : Addr} {ns : List Str} {vs : List V} {f : Str} {tv : TE} {i : Nat} {M' : V → ML} (S : Sep G H M) (hv : EvX K cl p tv σ G M d M1) (ha : EvX K cl q ta σ G M1 (.loc a) M2) (hx : ns.findIdx? (· == f) = some i) (hm : ∀ v, Ch M2 a (.ins C dx (ns.zip vs)) (.ins C dx (ns.zip (vs.set i v))) (M' v)) (hc : Cls K C) (hn : NoAttr K C f)
    (hl : ns.length = vs.length) (hk : ns.length < 1000) (k : ∀ v G' H', Same G G' → Sep G' H' (M' v) → Rep K cl G' v d → nx σ H') : sFld K ta tv f ⟨nx, rt, bk, ct⟩ σ H :=
  s_fld (fs := ns.zip vs) S hv ha (fun v => by rw [putF_zip_set hl hx]; exact hm v) hc hn (by rw [List.length_zip]; omega) k
/-- xs.append(e), xs owned -/
theorem s_app {a : Addr} {us vs : List V} {M' : V → ML} (S : Sep G H M) (ha : EvX K cl p ta σ G M (.loc a) M1) (hm0 : At M1 a (.lst us)) (he : EvX K cl q te σ G M1 d M2) (hm : ∀ v, Ch M2 a (.lst vs) (.lst (vs ++ [v])) (M' v)) (hl : vs.length < 10000000)
    (k : ∀ v G' H', Same G G' → Sep G' H' (M' v) → Rep K cl G' v d → nx σ H') : tDrop (tBM K "list" rAppend ta (tCons te tNil)) ⟨nx, rt, bk, ct⟩ σ H :=
  ha G H (Same.refl _) S _ fun x G2 H2 g2 rx => ⟨by
    rw [rx.of_loc]
    exact .inl ⟨rfl, us, .inl (.inl (g2.sep.look hm0))⟩, he G2 H2 g2.same g2.sep _ fun v G3 H3 g3 rv =>
    ⟨a, vs, v, rx.of_loc, rfl, g3.sep.look (hm v).at, Nat.lt_of_lt_of_le hl (by decide), k v G3 _ (g2.same.trans g3.same) (g3.sep.ch (hm v)) rv⟩⟩
/-- xs[i] = e, xs owned -/
theorem s_set {ti : TE} {a : Addr} {vs : List V} {i : Int} {j : Nat} {M' : V → ML} (S : Sep G H M) (he : EvX K cl p te σ G M d M1) (ha : EvX K cl q ta σ G M1 (.loc a) M2) (hi : EvX K cl r ti σ G M2 (.int i) M3) (hm : ∀ v, Ch M3 a (.lst vs) (.lst (vs.set j v)) (M' v)) (hj : ixN vs.length i = some j)
    (k : ∀ v G' H', Same G G' → Sep G' H' (M' v) → Rep K cl G' v d → nx σ H') : tAsg te (gSub ta ti rSetL) ⟨nx, rt, bk, ct⟩ σ H :=
  he G H (Same.refl _) S _ fun v G2 H2 g2 rv => ha G2 H2 g2.same g2.sep _ fun x G3 H3 g3 rx => hi G3 H3 (g2.same.trans g3.same) g3.sep _ fun y G4 H4 g4 ry =>
    ⟨a, vs, i, j, rx.of_loc, ry.of_int, g4.sep.look (hm v).at, hj, k v G4 _ ((g2.same.trans g3.same).trans g4.same) (g4.sep.ch (hm v)) (rv.mono (g3.same.trans g4.same))⟩
/-! loops -/
/-- list or tuple -/
def iSeq (K : PySem.W.Frag) (tl : TE) : TI := fun σ H R => iList K tl σ H R ∨ iTup K tl σ H R
theorem pi_seq {X : Cx} {tg l : Expr} {tl : TE} (hl : PE X l tl) : PI X tg l (iSeq X.K tl) := ⟨fun pins s σ H R I h => by
  rcases h with h | h
  · exact (pi_list hl).run pins s σ H R I h
  · exact (pi_tup hl).run pins s σ H R I h⟩
/-- what stands between two turns -/
def Nx (G : Hp) (J : Nat → St → Hp → ML → Prop) (i : Nat) : St → Hp → Prop := fun σ H => ∃ G' M', Same G G' ∧ Sep G' H M' ∧ J i σ G' M'
theorem s_forL {tl : TE} {g : TG} {tb : TS} (J : Nat → St → Hp → ML → Prop) (S : Sep G H M) (h : EvX K cl p tl σ G M (.lst ds) M1) (h0 : ∀ G' H', Go p M M1 G H G' H' → J 0 σ G' M1)
    (hs : ∀ G2, Same G G2 → ∀ i x d σ' G' H' M', ds[i]? = some d → Same G2 G' → Sep G' H' M' → Rep K cl G' x d → J i σ' G' M' → g x σ' H' fun σ2 H2 => tb ⟨Nx G2 J (i + 1), rt, nx, Nx G2 J (i + 1)⟩ σ2 H2)
    (hd : ∀ σ' G' H' M', Same G G' → Sep G' H' M' → J ds.length σ' G' M' → nx σ' H') : tFor (iSeq K tl) g tb ⟨nx, rt, bk, ct⟩ σ H :=
  .inl (h G H (Same.refl _) S _ fun x G2 H2 g2 rx => by
    obtain ⟨a, vs, e, sq, rs⟩ := rx.of_lst
    refine ⟨a, e, ⟨vs, g2.sep.sub.seq sq⟩, for_list (xs := vs) (Nx G2 J) ⟨G2, M1, Same.refl _, g2.sep, h0 G2 H2 g2⟩ ?_ ?_ ?_⟩
    · rintro i σ' H' hi ⟨G', M', s', S', j⟩
      exact (s'.trans S'.sub).seq sq
    · rintro i y σ' H' hy ⟨G', M', s', S', j⟩
      obtain ⟨d, hd', rd⟩ := rs.get hy
      exact hs G2 g2.same i y d σ' G' H' M' hd' s' S' (rd.mono s') j
    · rintro σ' H' ⟨G', M', s', S', j⟩
      rw [rs.length] at j
      exact hd σ' G' H' M' (g2.same.trans s') S' j)
theorem s_forT {tl : TE} {g : TG} {tb : TS} (J : Nat → St → Hp → ML → Prop) (S : Sep G H M) (h : EvX K cl p tl σ G M (.tup ds) M1) (h0 : ∀ G' H', Go p M M1 G H G' H' → J 0 σ G' M1)
    (hs : ∀ G2, Same G G2 → ∀ i x d σ' G' H' M', ds[i]? = some d → Same G2 G' → Sep G' H' M' → Rep K cl G' x d → J i σ' G' M' → g x σ' H' fun σ2 H2 => tb ⟨Nx G2 J (i + 1), rt, nx, Nx G2 J (i + 1)⟩ σ2 H2)
    (hd : ∀ σ' G' H' M', Same G G' → Sep G' H' M' → J ds.length σ' G' M' → nx σ' H') : tFor (iSeq K tl) g tb ⟨nx, rt, bk, ct⟩ σ H :=
  .inr (h G H (Same.refl _) S _ fun x G2 H2 g2 rx => by
    obtain ⟨a, vs, e, sq, rs⟩ := rx.of_tup
    refine ⟨a, e, ⟨vs, Same.seqT g2.sep.sub sq⟩, for_tup (xs := vs) (Nx G2 J) ⟨G2, M1, Same.refl _, g2.sep, h0 G2 H2 g2⟩ ?_ ?_ ?_⟩
    · rintro i σ' H' hi ⟨G', M', s', S', j⟩
      exact Same.seqT (s'.trans S'.sub) sq
    · rintro i y σ' H' hy ⟨G', M', s', S', j⟩
      obtain ⟨d, hd', rd⟩ := rs.get hy
      exact hs G2 g2.same i y d σ' G' H' M' hd' s' S' (rd.mono s') j
    · rintro σ' H' ⟨G', M', s', S', j⟩
      rw [rs.length] at j
      exact hd σ' G' H' M' (g2.same.trans s') S' j)
theorem s_forR1 {g : TG} {tb : TS} {n : Int} (J : Nat → St → Hp → ML → Prop) (S : Sep G H M) (h : EvA K cl p tx σ G M [.int n] M1) (hn : -1000000000000 ≤ n ∧ n ≤ 1000000000000) (h0 : ∀ G' H', Go p M M1 G H G' H' → J 0 σ G' M1)
    (hs : ∀ G2, Same G G2 → ∀ (i : Nat) σ' G' H' M', (i : Int) < n → Same G2 G' → Sep G' H' M' → J i σ' G' M' → g (.int (i : Int)) σ' H' fun σ2 H2 => tb ⟨Nx G2 J (i + 1), rt, nx, Nx G2 J (i + 1)⟩ σ2 H2)
    (hd : ∀ σ' G' H' M', Same G G' → Sep G' H' M' → J n.toNat σ' G' M' → nx σ' H') : tFor (iRng1 tx) g tb ⟨nx, rt, bk, ct⟩ σ H :=
  h G H (Same.refl _) S _ fun xs G2 H2 g2 rx => by
    obtain ⟨u, rfl, hu⟩ := reps1 rx
    refine ⟨n, by rw [hu.of_int], by omega, by omega, for_range (lo := 0) (n := n.toNat) (Nx G2 J) ⟨G2, M1, Same.refl _, g2.sep, h0 G2 H2 g2⟩ ?_ ?_⟩
    · rintro i σ' H' hi ⟨G', M', s', S', j⟩
      rw [Int.zero_add]
      exact hs G2 g2.same i σ' G' H' M' (by omega) s' S' j
    · rintro σ' H' ⟨G', M', s', S', j⟩
      exact hd σ' G' H' M' (g2.same.trans s') S' j
theorem s_forR2 {g : TG} {tb : TS} {lo n : Int} (J : Nat → St → Hp → ML → Prop) (S : Sep G H M) (h : EvA K cl p tx σ G M [.int lo, .int n] M1) (hn : -1000000000000000 ≤ lo ∧ lo ≤ 1000000000000000 ∧ -1000000000000000 ≤ n ∧ n ≤ 1000000000000000) (h0 : ∀ G' H', Go p M M1 G H G' H' → J 0 σ G' M1)
    (hs : ∀ G2, Same G G2 → ∀ (i : Nat) σ' G' H' M', lo + (i : Int) < n → Same G2 G' → Sep G' H' M' → J i σ' G' M' → g (.int (lo + (i : Int))) σ' H' fun σ2 H2 => tb ⟨Nx G2 J (i + 1), rt, nx, Nx G2 J (i + 1)⟩ σ2 H2)
    (hd : ∀ σ' G' H' M', Same G G' → Sep G' H' M' → J (n - lo).toNat σ' G' M' → nx σ' H') : tFor (iRng2 tx) g tb ⟨nx, rt, bk, ct⟩ σ H :=
  h G H (Same.refl _) S _ fun xs G2 H2 g2 rx => by
    obtain ⟨u, v, rfl, hu, hv⟩ := reps2 rx
    refine ⟨lo, n, by rw [hu.of_int, hv.of_int], ⟨by omega, by omega, by omega, by omega⟩, for_range (lo := lo) (n := (n - lo).toNat) (Nx G2 J) ⟨G2, M1, Same.refl _, g2.sep, h0 G2 H2 g2⟩ ?_ ?_⟩
    · rintro i σ' H' hi ⟨G', M', s', S', j⟩
      exact hs G2 g2.same i σ' G' H' M' (by omega) s' S' j
    · rintro σ' H' ⟨G', M', s', S', j⟩
      exact hd σ' G' H' M' (g2.same.trans s') S' j
theorem op1_dummy : True := trivial
theorem s_gname {i : Nat} {v : V} {Q : St → Hp → Prop} (h : Q (σ.set i (some v)) H) : gName i v σ H Q := h
end
end Cp
/-! Cp4: truth of values, items of owned lists, comprehensions, while, == of data, tuples taken apart. -/
namespace Cp
open PySem L2

section
variable {K : PySem.W.Frag} {cl : Nat → Addr} {p q r : Bool} {M M1 M2 M3 M4 : ML} {G G1 G2 G3 H H1 H2 H3 : Hp} {σ : St} {ta tb te : TE} {tx : TA} {tt tu : TT} {d d1 d2 d3 : D} {ds es : List D}

theorem reps3 {us : List V} {d1 d2 d3 : D} (h : Reps K cl G us [d1, d2, d3]) : ∃ u1 u2 u3, us = [u1, u2, u3] ∧ Rep K cl G u1 d1 ∧ Rep K cl G u2 d2 ∧ Rep K cl G u3 d3 := by
  obtain ⟨u1, ws, rfl, h1, hw⟩ := h.uncons
  obtain ⟨u2, u3, rfl, h2, h3⟩ := reps2 hw
  exact ⟨u1, u2, u3, rfl, h1, h2, h3⟩
theorem reps4 {us : List V} {d1 d2 d3 d4 : D} (h : Reps K cl G us [d1, d2, d3, d4]) : ∃ u1 u2 u3 u4, us = [u1, u2, u3, u4] ∧ Rep K cl G u1 d1 ∧ Rep K cl G u2 d2 ∧ Rep K cl G u3 d3 ∧ Rep K cl G u4 d4 := by
  obtain ⟨u1, ws, rfl, h1, hw⟩ := h.uncons
  obtain ⟨u2, u3, u4, rfl, h2, h3, h4⟩ := reps3 hw
  exact ⟨u1, u2, u3, u4, rfl, h1, h2, h3, h4⟩
theorem reps5 {us : List V} {d1 d2 d3 d4 d5 : D} (h : Reps K cl G us [d1, d2, d3, d4, d5]) : ∃ u1 u2 u3 u4 u5, us = [u1, u2, u3, u4, u5] ∧ Rep K cl G u1 d1 ∧ Rep K cl G u2 d2 ∧ Rep K cl G u3 d3 ∧ Rep K cl G u4 d4 ∧ Rep K cl G u5 d5 := by
  obtain ⟨u1, ws, rfl, h1, hw⟩ := h.uncons
  obtain ⟨u2, u3, u4, u5, rfl, h2, h3, h4, h5⟩ := reps4 hw
  exact ⟨u1, u2, u3, u4, u5, rfl, h1, h2, h3, h4, h5⟩
theorem reps6 {us : List V} {d1 d2 d3 d4 d5 d6 : D} (h : Reps K cl G us [d1, d2, d3, d4, d5, d6]) : ∃ u1 u2 u3 u4 u5 u6, us = [u1, u2, u3, u4, u5, u6] ∧ Rep K cl G u1 d1 ∧ Rep K cl G u2 d2 ∧ Rep K cl G u3 d3 ∧ Rep K cl G u4 d4 ∧ Rep K cl G u5 d5 ∧ Rep K cl G u6 d6 := by
  obtain ⟨u1, ws, rfl, h1, hw⟩ := h.uncons
  obtain ⟨u2, u3, u4, u5, u6, rfl, h2, h3, h4, h5, h6⟩ := reps5 hw
  exact ⟨u1, u2, u3, u4, u5, u6, rfl, h1, h2, h3, h4, h5, h6⟩
theorem reps7 {us : List V} {d1 d2 d3 d4 d5 d6 d7 : D} (h : Reps K cl G us [d1, d2, d3, d4, d5, d6, d7]) : ∃ u1 u2 u3 u4 u5 u6 u7, us = [u1, u2, u3, u4, u5, u6, u7] ∧ Rep K cl G u1 d1 ∧ Rep K cl G u2 d2 ∧ Rep K cl G u3 d3 ∧ Rep K cl G u4 d4 ∧ Rep K cl G u5 d5 ∧ Rep K cl G u6 d6 ∧ Rep K cl G u7 d7 := by
  obtain ⟨u1, ws, rfl, h1, hw⟩ := h.uncons
  obtain ⟨u2, u3, u4, u5, u6, u7, rfl, h2, h3, h4, h5, h6, h7⟩ := reps6 hw
  exact ⟨u1, u2, u3, u4, u5, u6, u7, rfl, h1, h2, h3, h4, h5, h6, h7⟩
theorem reps8 {us : List V} {d1 d2 d3 d4 d5 d6 d7 d8 : D} (h : Reps K cl G us [d1, d2, d3, d4, d5, d6, d7, d8]) : ∃ u1 u2 u3 u4 u5 u6 u7 u8, us = [u1, u2, u3, u4, u5, u6, u7, u8] ∧ Rep K cl G u1 d1 ∧ Rep K cl G u2 d2 ∧ Rep K cl G u3 d3 ∧ Rep K cl G u4 d4 ∧ Rep K cl G u5 d5 ∧ Rep K cl G u6 d6 ∧ Rep K cl G u7 d7 ∧ Rep K cl G u8 d8 := by
  obtain ⟨u1, ws, rfl, h1, hw⟩ := h.uncons
  obtain ⟨u2, u3, u4, u5, u6, u7, u8, rfl, h2, h3, h4, h5, h6, h7, h8⟩ := reps7 hw
  exact ⟨u1, u2, u3, u4, u5, u6, u7, u8, rfl, h1, h2, h3, h4, h5, h6, h7, h8⟩
theorem reps9 {us : List V} {d1 d2 d3 d4 d5 d6 d7 d8 d9 : D} (h : Reps K cl G us [d1, d2, d3, d4, d5, d6, d7, d8, d9]) : ∃ u1 u2 u3 u4 u5 u6 u7 u8 u9, us = [u1, u2, u3, u4, u5, u6, u7, u8, u9] ∧ Rep K cl G u1 d1 ∧ Rep K cl G u2 d2 ∧ Rep K cl G u3 d3 ∧ Rep K cl G u4 d4 ∧ Rep K cl G u5 d5 ∧ Rep K cl G u6 d6 ∧ Rep K cl G u7 d7 ∧ Rep K cl G u8 d8 ∧ Rep K cl G u9 d9 := by
  obtain ⟨u1, ws, rfl, h1, hw⟩ := h.uncons
  obtain ⟨u2, u3, u4, u5, u6, u7, u8, u9, rfl, h2, h3, h4, h5, h6, h7, h8, h9⟩ := reps8 hw
  exact ⟨u1, u2, u3, u4, u5, u6, u7, u8, u9, rfl, h1, h2, h3, h4, h5, h6, h7, h8, h9⟩
theorem reps10 {us : List V} {d1 d2 d3 d4 d5 d6 d7 d8 d9 d10 : D} (h : Reps K cl G us [d1, d2, d3, d4, d5, d6, d7, d8, d9, d10]) : ∃ u1 u2 u3 u4 u5 u6 u7 u8 u9 u10, us = [u1, u2, u3, u4, u5, u6, u7, u8, u9, u10] ∧ Rep K cl G u1 d1 ∧ Rep K cl G u2 d2 ∧ Rep K cl G u3 d3 ∧ Rep K cl G u4 d4 ∧ Rep K cl G u5 d5 ∧ Rep K cl G u6 d6 ∧ Rep K cl G u7 d7 ∧ Rep K cl G u8 d8 ∧ Rep K cl G u9 d9 ∧ Rep K cl G u10 d10 := by
  obtain ⟨u1, ws, rfl, h1, hw⟩ := h.uncons
  obtain ⟨u2, u3, u4, u5, u6, u7, u8, u9, u10, rfl, h2, h3, h4, h5, h6, h7, h8, h9, h10⟩ := reps9 hw
  exact ⟨u1, u2, u3, u4, u5, u6, u7, u8, u9, u10, rfl, h1, h2, h3, h4, h5, h6, h7, h8, h9, h10⟩
/-! ### truth -/
def tTr (K : PySem.W.Frag) (ta : TE) : TT := fun σ H Q => ta σ H fun x H' => ∃ k, TruV K x H' k ∧ Q k H'
theorem pt_tr {X : Cx} {a : Expr} (ha : PE X a ta) (he : ∀ whole, isTrue a X.env whole = (do let v ← whole; standAt a.pos; holding [v] (truthy v)) := by intro _; rfl) : PT X a (tTr X.K ta) := pt_truth ha he
def D.tru : D → Option Bool
  | .non => some false
  | .bl b => some b
  | .int i => some (i != 0)
  | .lst ds => some (!ds.isEmpty)
  | .tup ds => some (!ds.isEmpty)
  | _ => none
theorem Reps.isEmpty {vs : List V} (h : Reps K cl G vs ds) : vs.isEmpty = ds.isEmpty := by
  cases ds with
  | nil => simp only [Reps] at h; rw [h]; rfl
  | cons d ds => obtain ⟨v, ws, rfl, _, _⟩ := h.uncons; rfl
theorem et_tr {b : Bool} (h : EvX K cl p ta σ G M d M1) (hb : d.tru = some b) : EvT K cl p (tTr K ta) σ G M b M1 := fun G1 H1 s S Q k => h G1 H1 s S _ fun x G2 H2 g2 rx => by
  refine ⟨b, ?_, k G2 H2 g2⟩
  cases d with
  | non => rw [rx.of_non]; exact (Option.some.inj hb).symm
  | bl c => rw [rx.of_bl]; exact (Option.some.inj hb).symm
  | int i => rw [rx.of_int]; exact (Option.some.inj hb).symm
  | str s => cases hb
  | lst ds => obtain ⟨a, vs, rfl, sq, rs⟩ := rx.of_lst; exact .inl ⟨vs, g2.sep.sub.seq sq, by rw [rs.isEmpty]; exact (Option.some.inj hb).symm⟩
  | tup ds => obtain ⟨a, vs, rfl, sq, rs⟩ := rx.of_tup; exact .inr (.inl ⟨vs, Same.seqT g2.sep.sub sq, by rw [rs.isEmpty]; exact (Option.some.inj hb).symm⟩)
  | ins c ns ds => cases hb
  | loc a => cases hb
  | dic ks ds => cases hb
theorem et_trM {a : Addr} {vs : List V} (h : EvX K cl p ta σ G M (.loc a) M1) (hm : At M1 a (.lst vs)) : EvT K cl p (tTr K ta) σ G M (!vs.isEmpty) M1 := fun G1 H1 s S Q k => h G1 H1 s S _ fun x G2 H2 g2 rx => by
  rw [rx.of_loc]
  exact ⟨_, .inl ⟨vs, .inl (.inl (g2.sep.look hm)), rfl⟩, k G2 H2 g2⟩

/-! ### an item of an owned list, told by its data -/
theorem ev_ixMD {a : Addr} {vs : List V} {i : Int} (ha : EvX K cl p ta σ G M (.loc a) M1) (hb : EvX K cl q tb σ G M1 (.int i) M2) (hm : At M2 a (.lst vs)) (hr : Reps K cl G vs ds) (hi : atI ds i = some d) : EvX K cl (p && q) (tOp (rIx K) ta tb) σ G M d M2 := by
  obtain ⟨v, hv, rv⟩ := hr.atI hi
  exact ev_ixM ha hb hm hv rv
theorem atI_last' {α : Type} {xs : List α} {x : α} (h : xs.getLast? = some x) : atI xs (-1) = some x := by
  have hne : xs ≠ [] := fun e => by rw [e] at h; cases h
  have e1 : xs.getLast hne = x := by
    rw [List.getLast?_eq_some_getLast hne] at h
    exact Option.some.inj h
  have e2 := List.dropLast_concat_getLast hne
  rw [e1] at e2
  rw [← e2]
  exact atI_last _ _

/-! ### tuples taken apart -/
def gNames : List Nat → TGs
  | [] => gNil
  | i :: is => gCons (gName i) (gNames is)
def setAll : St → List Nat → List V → St
  | σ, i :: is, v :: vs => setAll (σ.set i (some v)) is vs
  | σ, _, _ => σ
theorem g_names {Q : St → Hp → Prop} : ∀ {is : List Nat} {vs : List V} {σ : St}, vs.length = is.length → Q (setAll σ is vs) H → gNames is vs σ H Q
  | [], [], σ, _, h => ⟨rfl, h⟩
  | i :: is, v :: vs, σ, hl, h => ⟨v, vs, rfl, g_names (Nat.succ.inj hl) h⟩
theorem g_tup {x : V} {is : List Nat} {n : Nat} {Q : St → Hp → Prop} (S : Sep G H M) (rx : Rep K cl G x (.tup ds)) (hn : ds.length = n) (hi : is.length = n) (k : ∀ vs, Reps K cl G vs ds → Q (setAll σ is vs) H) : gTup K n (gNames is) x σ H Q := by
  obtain ⟨a, vs, e, sq, rs⟩ := rx.of_tup
  exact ⟨a, vs, e, Same.seqT S.sub sq, by rw [rs.length, hn], g_names (by rw [rs.length, hn, hi]) (k vs rs)⟩
theorem s_asgT {is : List Nat} {n : Nat} {nx : St → Hp → Prop} {rt : VK} {bk ct : St → Hp → Prop} (S : Sep G H M) (h : EvX K cl p te σ G M (.tup ds) M1) (hn : ds.length = n) (hi : is.length = n) (k : ∀ vs G' H', Go p M M1 G H G' H' → Reps K cl G' vs ds → nx (setAll σ is vs) H') :
    tAsg te (gTup K n (gNames is)) ⟨nx, rt, bk, ct⟩ σ H := h G H (Same.refl _) S _ fun x G2 H2 g2 rx => g_tup g2.sep rx hn hi fun vs rs => k vs G2 H2 g2 rs

/-! ### a list that is made and then given away -/
theorem s_retF {i : Nat} {u : Addr} {vs : List V} {nx : St → Hp → Prop} {rt : VK} {bk ct : St → Hp → Prop} (S : Sep G H ((u, .lst vs) :: M)) (hi : σ[i]? = some (some (.ref u))) (hr : Reps K cl G vs ds) (k : ∀ G', Same G G' → Sep G' H M → Rep K cl G' (.ref u) (.lst ds) → rt (.ref u) H) : tRet (tVar i) ⟨nx, rt, bk, ct⟩ σ H := by
  obtain ⟨S', s'⟩ := S.freeze
  exact ⟨.ref u, hi, k _ s' S' (Rep.lst (.inl (.inl upd_same)) (hr.mono s'))⟩

/-! ### while -/
theorem s_while {tb : TS} {nx : St → Hp → Prop} {rt : VK} {bk ct : St → Hp → Prop} (J : Nat → St → Hp → ML → Prop) (m0 : Nat) (S : Sep G H M) (h0 : J m0 σ G M)
    (hs : ∀ m σ' G' H' M', Same G G' → Sep G' H' M' → J m σ' G' M' → ∃ b p M1, EvT K cl p tt σ' G' M' b M1 ∧ (b = true → ∀ G2 H2, Go p M' M1 G' H' G2 H2 → tb ⟨fun σ H => ∃ m', m' < m ∧ Nx G (fun _ => J m') 0 σ H, rt, nx, fun σ H => ∃ m', m' < m ∧ Nx G (fun _ => J m') 0 σ H⟩ σ' H2) ∧
      (b = false → ∀ G2 H2, Go p M' M1 G' H' G2 H2 → nx σ' H2)) : tWhile tt tb ⟨nx, rt, bk, ct⟩ σ H := by
  refine ⟨fun m σ H => Nx G (fun _ => J m) 0 σ H, ⟨m0, G, M, Same.refl _, S, h0⟩, ?_⟩
  rintro m σ' H' ⟨G', M', s', S', j⟩
  obtain ⟨b, p, M1, ht, h1, h2⟩ := hs m σ' G' H' M' s' S' j
  refine ht G' H' (Same.refl _) S' _ fun G2 H2 g2 => ?_
  cases b with
  | true => exact ⟨_, fun σ2 H2 h => h, h1 rfl G2 H2 g2⟩
  | false => exact h2 rfl G2 H2 g2

theorem wh_turn {b : Bool} {C : Bool → Bool → ML → Prop} (h : EvT K cl p tt σ G M b M1) (hC : C b p M1) : ∃ b p M1, EvT K cl p tt σ G M b M1 ∧ C b p M1 := ⟨b, p, M1, h, hC⟩
/-! ### comprehensions over frozen lists and tuples -/
/-- one turn of a comprehension: the target, the test, the element -/
def LcT (K : PySem.W.Frag) (cl : Nat → Addr) (g : TG) (tt : TT) (te : TE) (vs : List Nat) (σ : St) (G : Hp) (M : ML) (x : V) (keep : Bool) (y : D) : Prop :=
  ∃ σ2 p q, wipe σ2 vs = wipe σ vs ∧ (∀ H (Kk : St → Hp → Prop), Sep G H M → Kk σ2 H → g x (wipe σ vs) H Kk) ∧ EvT K cl p tt σ2 G M keep M ∧ (keep = true → EvX K cl q te σ2 G M y M)
theorem ev_lc {tl : TE} {g : TG} {vs : List Nat} {f : D → D} {keep : D → Bool} (h : EvX K cl p tl σ G M d1 M1) (hd : d1 = .lst ds ∨ d1 = .tup ds) (hl : ds.length ≤ 10000000)
    (hs : ∀ G1 e x d, Same G G1 → d ∈ ds → Rep K cl G1 x d → LcT K cl g tt te vs σ G1 (e :: M1) x (keep d) (f d)) : EvX K cl false (tLc (iSeq K tl) g tt te vs) σ G M (.lst ((ds.filter keep).map f)) M1 := fun G1 H1 s S Q k => by
  have main : ∀ G2 H2 (us : List V) (Dl : Addr), Same G G2 → Same G1 G2 → Sep G2 H2 M1 → Reps K cl G2 us ds → H2 Dl = none → ∀ (Pv : Nat → Hp → Prop), (Pv = fun i H => ∃ G' acc, Same G2 G' ∧ Sep G' H ((Dl, .lst acc) :: M1) ∧ Reps K cl G' acc (((ds.take i).filter keep).map f)) →
      Pv 0 (upd H2 Dl (.lst [])) ∧ (∀ i x H, us[i]? = some x → Pv i H → g x (wipe σ vs) H fun σ2 H2 => wipe σ2 vs = wipe σ vs ∧ tt σ2 H2 fun b H3 =>
        if b = true then te σ2 H3 fun y H4 => ∃ acc, H4 Dl = some (.lst acc) ∧ acc.length < sizeLine ∧ Pv (i + 1) (upd H4 Dl (.lst (acc ++ [y]))) else Pv (i + 1) H3) ∧ (∀ H, Pv us.length H → Q (.ref Dl) H) := by
    rintro G2 H2 us Dl s2 s12 S2 rs hD Pv rfl
    refine ⟨⟨G2, [], Same.refl _, S2.newM hD, Reps.nil⟩, ?_, ?_⟩
    · rintro i x H hx ⟨G', acc, s', S', ra⟩
      obtain ⟨d, hdi, rd⟩ := rs.get hx
      have hmem : d ∈ ds := List.mem_of_getElem? hdi
      obtain ⟨σ2, p', q', hw, hg, ht, he⟩ := hs G' (Dl, .lst acc) x d (s2.trans s') hmem (rd.mono s')
      refine hg H _ S' ⟨hw, ht G' H (Same.refl _) S' _ fun G3 H3 g3 => ?_⟩
      have e1 : ds.take (i + 1) = ds.take i ++ [d] := by rw [List.take_add_one, hdi]; rfl
      have hal : acc.length ≤ ds.length := by
        rw [ra.length, List.length_map]
        exact Nat.le_trans (List.length_filter_le _ _) (by rw [List.length_take]; omega)
      cases hk : keep d with
      | true =>
        rw [if_pos rfl]
        refine he hk G3 H3 g3.same g3.sep _ fun y G4 H4 g4 ry => ?_
        have sA := g3.same.trans g4.same
        refine ⟨acc, g4.sep.look .hd, Nat.lt_of_le_of_lt (Nat.le_trans hal hl) (by decide), G4, acc ++ [y], s'.trans sA, g4.sep.ch .hd, ?_⟩
        rw [e1, List.filter_append, List.map_append]
        refine Reps.append (ra.mono sA) ?_
        rw [List.filter_cons, if_pos hk]
        exact Reps.one ry
      | false =>
        rw [if_neg (by decide)]
        refine ⟨G3, acc, s'.trans g3.same, g3.sep, ?_⟩
        rw [e1, List.filter_append, List.map_append, List.filter_cons, if_neg (by rw [hk]; decide)]
        show Reps K cl G3 acc (_ ++ [])
        rw [List.append_nil]
        exact ra.mono g3.same
    · rintro H ⟨G', acc, s', S', ra⟩
      rw [rs.length, List.take_length] at ra
      obtain ⟨S3, s3⟩ := S'.freeze
      exact k (.ref Dl) _ H (Go.of ((s12.trans s').trans s3) S3) (Rep.lst (.inl (.inl upd_same)) (ra.mono s3))
  rcases hd with rfl | rfl
  · refine .inl (h G1 H1 s S _ fun x G2 H2 g2 rx => ?_)
    obtain ⟨a, us, e, sq, rs⟩ := rx.of_lst
    refine ⟨a, e, ⟨us, g2.sep.sub.seq sq⟩, fun Dl hD => ?_⟩
    obtain ⟨h0, ht, hd⟩ := main G2 H2 us Dl (s.trans g2.same) g2.same g2.sep rs hD _ rfl
    refine lc_list (xs := us) _ h0 ?_ ht hd
    rintro i H hi ⟨G', acc, s', S', ra⟩
    exact (s'.trans S'.sub).seq sq
  · refine .inr (h G1 H1 s S _ fun x G2 H2 g2 rx => ?_)
    obtain ⟨a, us, e, sq, rs⟩ := rx.of_tup
    refine ⟨a, e, ⟨us, Same.seqT g2.sep.sub sq⟩, fun Dl hD => ?_⟩
    obtain ⟨h0, ht, hd⟩ := main G2 H2 us Dl (s.trans g2.same) g2.same g2.sep rs hD _ rfl
    refine lc_tup (xs := us) _ h0 ?_ ht hd
    rintro i H hi ⟨G', acc, s', S', ra⟩
    exact Same.seqT (s'.trans S'.sub) sq
theorem lcT1 {vs : List Nat} {x : V} {keep : Bool} {y : D} {j : Nat} (hw : wipe ((wipe σ vs).set j (some x)) vs = wipe σ vs) (ht : EvT K cl p tt ((wipe σ vs).set j (some x)) G M keep M) (he : keep = true → EvX K cl q te ((wipe σ vs).set j (some x)) G M y M) : LcT K cl (gName j) tt te vs σ G M x keep y :=
  ⟨_, p, q, hw, fun H Kk _ h => h, ht, he⟩
theorem lcTt {vs : List Nat} {x : V} {keep : Bool} {y : D} {is : List Nat} {n : Nat} (rx : Rep K cl G x (.tup ds)) (hn : ds.length = n) (hi : is.length = n) (k : ∀ xs, Reps K cl G xs ds → wipe (setAll (wipe σ vs) is xs) vs = wipe σ vs ∧ ∃ p q, EvT K cl p tt (setAll (wipe σ vs) is xs) G M keep M ∧ (keep = true → EvX K cl q te (setAll (wipe σ vs) is xs) G M y M)) : LcT K cl (gTup K n (gNames is)) tt te vs σ G M x keep y := by
  obtain ⟨a, us, e, sq, rs⟩ := rx.of_tup
  obtain ⟨hw, p, q, ht, he⟩ := k us rs
  exact ⟨_, p, q, hw, fun H Kk S h => ⟨a, us, e, Same.seqT S.sub sq, by rw [rs.length, hn], g_names (by rw [rs.length, hn, hi]) h⟩, ht, he⟩
theorem lc_pair {vs : List Nat} {keep : Bool} {y : D} {σ2 : St} (hw : wipe σ2 vs = wipe σ vs) (ht : EvT K cl p tt σ2 G M keep M) (he : keep = true → EvX K cl q te σ2 G M y M) : wipe σ2 vs = wipe σ vs ∧ ∃ p q, EvT K cl p tt σ2 G M keep M ∧ (keep = true → EvX K cl q te σ2 G M y M) := ⟨hw, p, q, ht, he⟩
theorem et_yes : EvT K cl true tYes σ G M true M := fun G1 H1 s S Q k => k G1 H1 (Go.refl S)

/-! ### == of data -/
mutual
def D.isDat : D → Bool
  | .lst ds => D.areDat ds
  | .tup ds => D.areDat ds
  | .ins _ _ _ => false
  | .loc _ => false
  | .dic _ _ => false
  | .str x => x.cps.all (· < 0x110000)
  | _ => true
def D.areDat : List D → Bool
  | [] => true
  | d :: ds => d.isDat && D.areDat ds
end
mutual
def D.dep : D → Nat
  | .lst ds => D.deps ds + 1
  | .tup ds => D.deps ds + 1
  | _ => 0
def D.deps : List D → Nat
  | [] => 0
  | d :: ds => max d.dep (D.deps ds)
end
mutual
def D.pyd : D → PyData
  | .non => .none
  | .bl b => .bool b
  | .int i => .int i
  | .str s => .str s
  | .lst ds => .list (D.pyds ds)
  | .tup ds => .tuple (D.pyds ds)
  | _ => .none
def D.pyds : List D → List PyData
  | [] => []
  | d :: ds => d.pyd :: D.pyds ds
end
mutual
theorem Rep.dp : ∀ {v : V} {d : D}, Rep K cl G v d → d.isDat = true → Dp K G v d.pyd
  | _, .non, h, _ => by rw [h.of_non]; simp only [D.pyd]; exact .non
  | _, .bl b, h, _ => by rw [h.of_bl]; simp only [D.pyd]; exact .bl b
  | _, .int i, h, _ => by rw [h.of_int]; simp only [D.pyd]; exact .int i
  | _, .str x, h, _ => by rw [h.of_str]; simp only [D.pyd]; exact .str x
  | _, .lst ds, h, e => by
    obtain ⟨a, vs, rfl, sq, rs⟩ := h.of_lst
    simp only [D.pyd]
    exact .lst sq (Reps.dps rs (by simpa only [D.isDat] using e))
  | _, .tup ds, h, e => by
    obtain ⟨a, vs, rfl, sq, rs⟩ := h.of_tup
    simp only [D.pyd]
    exact .tup sq (Reps.dps rs (by simpa only [D.isDat] using e))
  | _, .ins _ _ _, _, e => by simp [D.isDat] at e
  | _, .loc _, _, e => by simp [D.isDat] at e
  | _, .dic _ _, _, e => by simp [D.isDat] at e
theorem Reps.dps : ∀ {vs : List V} {ds : List D}, Reps K cl G vs ds → D.areDat ds = true → DpAll K G vs (D.pyds ds)
  | _, [], h, _ => by simp only [Reps] at h; rw [h]; simp only [D.pyds]; exact .nil
  | _, d :: ds, h, e => by
    obtain ⟨v, ws, rfl, rv, rs⟩ := h.uncons
    simp only [D.areDat, Bool.and_eq_true] at e
    simp only [D.pyds]
    exact .cons (rv.dp e.1) (rs.dps e.2)
end
mutual
theorem lay_pyd : ∀ {d : D}, d.isDat = true → PyData.canLay0 d.pyd = true
  | .non, _ => by simp [D.pyd, PyData.canLay0]
  | .bl _, _ => by simp [D.pyd, PyData.canLay0]
  | .int _, _ => by simp [D.pyd, PyData.canLay0]
  | .str x, h => by simp only [D.isDat] at h; simp only [D.pyd, PyData.canLay0]; exact h
  | .lst ds, h => by simp only [D.isDat] at h; simp only [D.pyd, PyData.canLay0]; exact lay_pyds h
  | .tup ds, h => by simp only [D.isDat] at h; simp only [D.pyd, PyData.canLay0]; exact lay_pyds h
  | .ins _ _ _, h => by simp [D.isDat] at h
  | .loc _, h => by simp [D.isDat] at h
  | .dic _ _, h => by simp [D.isDat] at h
theorem lay_pyds : ∀ {ds : List D}, D.areDat ds = true → PyData.canLayAll0 (D.pyds ds) = true
  | [], _ => by simp [D.pyds, PyData.canLayAll0]
  | d :: ds, h => by
    simp only [D.areDat, Bool.and_eq_true] at h
    simp only [D.pyds, PyData.canLayAll0, Bool.and_eq_true]
    exact ⟨lay_pyd h.1, lay_pyds h.2⟩
end
mutual
theorem dep_pyd : ∀ {d : D}, PyData.depth d.pyd = d.dep
  | .non => by simp [D.pyd, PyData.depth, D.dep]
  | .bl _ => by simp [D.pyd, PyData.depth, D.dep]
  | .int _ => by simp [D.pyd, PyData.depth, D.dep]
  | .str _ => by simp [D.pyd, PyData.depth, D.dep]
  | .lst ds => by simp only [D.pyd, PyData.depth, D.dep]; rw [dep_pyds]
  | .tup ds => by simp only [D.pyd, PyData.depth, D.dep]; rw [dep_pyds]
  | .ins _ _ _ => by simp [D.pyd, PyData.depth, D.dep]
  | .loc _ => by simp [D.pyd, PyData.depth, D.dep]
  | .dic _ _ => by simp [D.pyd, PyData.depth, D.dep]
theorem dep_pyds : ∀ {ds : List D}, PyData.depthAll (D.pyds ds) = D.deps ds
  | [] => by simp [D.pyds, PyData.depthAll, D.deps]
  | d :: ds => by simp only [D.pyds, PyData.depthAll, D.deps]; rw [dep_pyd, dep_pyds]
end
theorem shaped_of (h : d.isDat = true) (hd : d.dep ≤ 64) : SeqAt.shaped d.pyd = true := by
  unfold SeqAt.shaped
  rw [lay_pyd h, dep_pyd, decide_eq_true hd]
  rfl
/-! == tells data as trees -/
mutual
def D.eqb : D → D → Bool
  | .non, .non => true
  | .bl a, .bl b => a == b
  | .bl a, .int j => (if a then 1 else 0) == j
  | .int i, .bl b => i == (if b then 1 else 0)
  | .int i, .int j => i == j
  | .str x, .str y => x == y
  | .lst xs, .lst ys => D.eqbs xs ys
  | .tup xs, .tup ys => D.eqbs xs ys
  | _, _ => false
def D.eqbs : List D → List D → Bool
  | [], [] => true
  | x :: xs, y :: ys => D.eqb x y && D.eqbs xs ys
  | _, _ => false
end
mutual
theorem eqv_eqb : ∀ (x y : D), x.isDat = true → y.isDat = true → PyData.eqv x.pyd y.pyd = D.eqb x y
  | .lst xs, y, hx, hy => by
    cases y with
    | lst ys => simp only [D.pyd, PyData.eqv, D.eqb]; exact eqvs_eqbs xs ys (by simpa only [D.isDat] using hx) (by simpa only [D.isDat] using hy)
    | ins _ _ _ => simp [D.isDat] at hy
    | loc _ => simp [D.isDat] at hy
    | dic _ _ => simp [D.isDat] at hy
    | _ => simp [D.pyd, PyData.eqv, D.eqb]
  | .tup xs, y, hx, hy => by
    cases y with
    | tup ys => simp only [D.pyd, PyData.eqv, D.eqb]; exact eqvs_eqbs xs ys (by simpa only [D.isDat] using hx) (by simpa only [D.isDat] using hy)
    | ins _ _ _ => simp [D.isDat] at hy
    | loc _ => simp [D.isDat] at hy
    | dic _ _ => simp [D.isDat] at hy
    | _ => simp [D.pyd, PyData.eqv, D.eqb]
  | .non, y, _, hy => by
    cases y with
    | ins _ _ _ => simp [D.isDat] at hy
    | loc _ => simp [D.isDat] at hy
    | dic _ _ => simp [D.isDat] at hy
    | _ => simp [D.pyd, PyData.eqv, D.eqb]
  | .bl b, y, _, hy => by
    cases y with
    | ins _ _ _ => simp [D.isDat] at hy
    | loc _ => simp [D.isDat] at hy
    | dic _ _ => simp [D.isDat] at hy
    | _ => simp [D.pyd, PyData.eqv, D.eqb]
  | .int i, y, _, hy => by
    cases y with
    | ins _ _ _ => simp [D.isDat] at hy
    | loc _ => simp [D.isDat] at hy
    | dic _ _ => simp [D.isDat] at hy
    | _ => simp [D.pyd, PyData.eqv, D.eqb]
  | .str s, y, _, hy => by
    cases y with
    | ins _ _ _ => simp [D.isDat] at hy
    | loc _ => simp [D.isDat] at hy
    | dic _ _ => simp [D.isDat] at hy
    | _ => simp [D.pyd, PyData.eqv, D.eqb]
  | .ins _ _ _, _, h, _ => by simp [D.isDat] at h
  | .loc _, _, h, _ => by simp [D.isDat] at h
  | .dic _ _, _, h, _ => by simp [D.isDat] at h
theorem eqvs_eqbs : ∀ (xs ys : List D), D.areDat xs = true → D.areDat ys = true → PyData.eqvAll (D.pyds xs) (D.pyds ys) = D.eqbs xs ys
  | [], [], _, _ => by simp [D.pyds, PyData.eqvAll, D.eqbs]
  | [], _ :: _, _, _ => by simp [D.pyds, PyData.eqvAll, D.eqbs]
  | _ :: _, [], _, _ => by simp [D.pyds, PyData.eqvAll, D.eqbs]
  | x :: xs, y :: ys, hx, hy => by
    simp only [D.areDat, Bool.and_eq_true] at hx hy
    simp only [D.pyds, PyData.eqvAll, D.eqbs]
    rw [eqv_eqb x y hx.1 hy.1, eqvs_eqbs xs ys hx.2 hy.2]
end
mutual
theorem D.eqb_refl : ∀ {x : D}, x.isDat = true → D.eqb x x = true
  | .non, _ => by simp [D.eqb]
  | .bl _, _ => by simp [D.eqb]
  | .int _, _ => by simp [D.eqb]
  | .str _, _ => by simp [D.eqb]
  | .lst ds, h => by simp only [D.eqb]; exact D.eqbs_refl (by simpa only [D.isDat] using h)
  | .tup ds, h => by simp only [D.eqb]; exact D.eqbs_refl (by simpa only [D.isDat] using h)
  | .ins _ _ _, h => by simp [D.isDat] at h
  | .loc _, h => by simp [D.isDat] at h
  | .dic _ _, h => by simp [D.isDat] at h
theorem D.eqbs_refl : ∀ {xs : List D}, D.areDat xs = true → D.eqbs xs xs = true
  | [], _ => by simp [D.eqbs]
  | x :: xs, h => by
    simp only [D.areDat, Bool.and_eq_true] at h
    simp only [D.eqbs, Bool.and_eq_true]
    exact ⟨D.eqb_refl h.1, D.eqbs_refl h.2⟩
end
theorem o_eqD {x y : D} (hx : x.isDat = true) (hy : y.isDat = true) (dx : x.dep ≤ 64) (dy : y.dep ≤ 64) : Op2 K cl true (rEqA K) M x y (.bl (D.eqb x y)) := o_r (op2_val fun G1 H1 S u v ru rv => ⟨_, Rep.bl, fun Q q => ⟨x.pyd, y.pyd, (ru.mono S.sub).dp hx, (rv.mono S.sub).dp hy, shaped_of hx dx, shaped_of hy dy, by rw [eqv_eqb x y hx hy]; exact q⟩⟩)
theorem o_neD {x y : D} (hx : x.isDat = true) (hy : y.isDat = true) (dx : x.dep ≤ 64) (dy : y.dep ≤ 64) : Op2 K cl true (rNeA K) M x y (.bl (!D.eqb x y)) := o_r (op2_val fun G1 H1 S u v ru rv => ⟨_, Rep.bl, fun Q q => ⟨x.pyd, y.pyd, (ru.mono S.sub).dp hx, (rv.mono S.sub).dp hy, shaped_of hx dx, shaped_of hy dy, by rw [eqv_eqb x y hx hy]; exact q⟩⟩)
theorem D.areDat_mem : ∀ {ds : List D}, (∀ d ∈ ds, d.isDat = true) → D.areDat ds = true
  | [], _ => by simp [D.areDat]
  | d :: ds, h => by
    simp only [D.areDat, Bool.and_eq_true]
    exact ⟨h d (List.mem_cons_self ..), D.areDat_mem fun x hx => h x (List.mem_cons_of_mem _ hx)⟩
theorem D.deps_mem {n : Nat} : ∀ {ds : List D}, (∀ d ∈ ds, d.dep ≤ n) → D.deps ds ≤ n
  | [], _ => by simp [D.deps]
  | d :: ds, h => by
    simp only [D.deps]
    exact Nat.max_le.mpr ⟨h d (List.mem_cons_self ..), D.deps_mem fun x hx => h x (List.mem_cons_of_mem _ hx)⟩
end
end Cp
/-! Cp5: dicts whose keys are nested tuples (nD), as owned cells; the world that hashes (Wo). -/
namespace Cp
open PySem L2

/-- the program and the world of the run -/
class Wo where
  p : Program
  w : World

/-! ### keys -/
mutual
def keyD : NestedKey → D
  | .none => .non
  | .num i => .int i
  | .text x => .str x
  | .tup ks => .tup (keyDs ks)
def keyDs : List NestedKey → List D
  | [] => []
  | k :: ks => keyD k :: keyDs ks
end
section
variable {X : Cx} {pins : List (Addr × Obj)} {σ : St} {H : Hp} {s : Shared} {cl : Nat → Addr}
mutual
theorem nested_is (I : Inv X pins σ H s) : ∀ (k : NestedKey) (v : V) (u : Value), Rep X.K cl H v (keyD k) → RelV v u → NestedIs s.heap k u
  | .none, v, u, r, q => by
    simp only [keyD] at r
    rw [r.of_non] at q
    obtain rfl : u = Value.none := q
    exact .none
  | .num i, v, u, r, q => by
    simp only [keyD] at r
    rw [r.of_int] at q
    obtain ⟨t, rfl⟩ := q
    exact .int i t
  | .text x, v, u, r, q => by
    simp only [keyD] at r
    rw [r.of_str] at q
    obtain ⟨t, rfl⟩ := q
    exact .text x t
  | .tup ks, v, u, r, q => by
    simp only [keyD] at r
    obtain ⟨a, vs, rfl, sq, rs⟩ := r.of_tup
    obtain rfl : u = Value.ref a := q
    obtain ⟨its, rv, ⟨o, ho, hc, n, hd⟩, z⟩ := I.tuple sq
    exact .tup ho hc hd (nested_are I ks vs its rs rv)
theorem nested_are (I : Inv X pins σ H s) : ∀ (ks : List NestedKey) (vs : List V) (us : List Value), Reps X.K cl H vs (keyDs ks) → Vals vs us → NestedAll s.heap ks us
  | [], vs, us, r, q => by
    simp only [keyDs, Reps] at r
    subst r
    cases q
    exact .nil
  | k :: ks, vs, us, r, q => by
    simp only [keyDs] at r
    obtain ⟨v, ws, rfl, r1, r2⟩ := r.uncons
    cases q with
    | cons q1 q2 => exact .cons (nested_is I k v _ r1 q1) (nested_are I ks ws _ r2 q2)
end
end

/-! ### the object -/
abbrev NKV := List (NestedKey × Addr × V)
abbrev NRel : NKV → List (NestedKey × Addr × Value) → Prop := Paired fun p q => p.1 = q.1 ∧ p.2.1 = q.2.1 ∧ RelV p.2.2 q.2.2
section
variable [Wo]
def nIs (a : Addr) (ep : Nat) (kvs : NKV) (h : Heap) : Prop :=
  (a == sysModules) = false ∧ kvs.length ≤ sizeLine ∧ ∃ xs, NRel kvs xs ∧ (xs.map (·.1)).Nodup ∧ ∃ o es, h.get? a = some o ∧ o.ExactDict ∧ o.data = .dict es ep ∧ es.toList = xs.map (entryOfKey (nestedKind Wo.p Wo.w))
/-- a dict with tuples as keys: its epoch, its entries -/
def nD (a : Addr) (ep : Nat) (kvs : NKV) : HO := .ext (nIs a ep kvs)
end
theorem nD_mut [Wo] {a : Addr} {ep : Nat} {kvs : NKV} : Mut (some (nD a ep kvs)) := True.intro
theorem nD_ok [Wo] {P : Program} {w : World} {H : Hp} {h : Heap} {a : Addr} {ep : Nat} {kvs : NKV} (x : nIs a ep kvs h) : ObjOk P w H h a (nD a ep kvs) := by
  refine ⟨x, ?_, fun h1 h2 y k => ?_⟩
  · obtain ⟨_, _, _, _, _, o, _, e, _⟩ := x
    exact ⟨o, e⟩
  · obtain ⟨y1, y2, xs, y3, y4, o, es, y5, y6⟩ := y
    exact ⟨y1, y2, xs, y3, y4, o, es, k o y5, y6⟩
/-- every key is there -/
def NKeys (K : PySem.W.Frag) (cl : Nat → Addr) (H : Hp) (kvs : NKV) : Prop := ∀ e ∈ kvs, Rep K cl H (.ref e.2.1) (keyD e.1) ∧ e.1.depth ≤ 8
theorem NRel.keys {K : PySem.W.Frag} {cl : Nat → Addr} {H : Hp} {kvs : NKV} {xs : List (NestedKey × Addr × Value)} (r : NRel kvs xs) (n : NKeys K cl H kvs) : ∀ x ∈ xs, Rep K cl H (.ref x.2.1) (keyD x.1) ∧ x.1.depth ≤ 8 := by
  induction r with
  | nil => intro x hx; exact nomatch hx
  | @cons p q ps qs hq t ih =>
    intro x hx
    rcases List.mem_cons.mp hx with e | hx
    · rw [e, ← hq.1, ← hq.2.1]
      exact n p (List.mem_cons_self ..)
    · exact ih (fun e he => n e (List.mem_cons_of_mem _ he)) x hx

def valN (kvs : NKV) (k : NestedKey) : Option V := (kvs.find? fun x => decide (x.1 = k)).map (·.2.2)
def putN (kvs : NKV) (k : NestedKey) (b : Addr) (v : V) : NKV := if (valN kvs k).isSome then kvs.map (fun x => if x.1 = k then (x.1, x.2.1, v) else x) else kvs ++ [(k, b, v)]
def dropN (kvs : NKV) (k : NestedKey) : NKV := kvs.filter fun x => decide (x.1 ≠ k)
theorem NRel.val {kvs : NKV} {xs : List (NestedKey × Addr × Value)} (r : NRel kvs xs) (k : NestedKey) : RelO (valN kvs k) ((atKey xs k).map (·.2)) := by
  induction r with
  | nil => exact True.intro
  | @cons p q ps qs hq t ih =>
    unfold valN atKey
    rw [List.find?_cons, List.find?_cons, ← hq.1]
    by_cases e : p.1 = k
    · rw [decide_eq_true e]
      exact hq.2.2
    · rw [decide_eq_false e]
      exact ih
theorem NRel.isSome {kvs : NKV} {xs : List (NestedKey × Addr × Value)} (r : NRel kvs xs) (k : NestedKey) : (atKey xs k).isSome = (valN kvs k).isSome := by
  have h := (r.val k).isSome_eq
  rw [Option.isSome_map] at h
  exact h.symm
theorem NRel.put {kvs : NKV} {xs : List (NestedKey × Addr × Value)} (r : NRel kvs xs) (k : NestedKey) (b : Addr) {v : V} {u : Value} (rv : RelV v u) : NRel (putN kvs k b v) (storedH xs k b u) := by
  unfold putN storedH
  rw [r.isSome k]
  cases (valN kvs k).isSome with
  | true =>
    simp only [if_true]
    induction r with
    | nil => exact .nil
    | @cons p q ps qs hq t ih =>
      refine .cons ?_ ih
      show ((if p.1 = k then (p.1, p.2.1, v) else p).1 = _ ∧ (if p.1 = k then (p.1, p.2.1, v) else p).2.1 = _ ∧ RelV (if p.1 = k then (p.1, p.2.1, v) else p).2.2 _)
      unfold putAt
      by_cases e : p.1 = k
      · rw [if_pos e, if_pos (hq.1 ▸ e)]
        exact ⟨hq.1, hq.2.1, rv⟩
      · rw [if_neg e, if_neg (hq.1 ▸ e)]
        exact hq
  | false =>
    simp only [Bool.false_eq_true, if_false]
    induction r with
    | nil => exact .cons ⟨rfl, rfl, rv⟩ .nil
    | cons hq t ih => exact .cons hq ih
theorem NRel.drop {kvs : NKV} {xs : List (NestedKey × Addr × Value)} (r : NRel kvs xs) (k : NestedKey) : NRel (dropN kvs k) (withoutH xs k) := by
  unfold dropN withoutH
  induction r with
  | nil => exact .nil
  | @cons p q ps qs hq t ih =>
    rw [List.filter_cons, List.filter_cons]
    by_cases e : p.1 = k
    · rw [if_neg (by simp [e]), if_neg (by rw [← hq.1]; simp [e])]
      exact ih
    · rw [if_pos (by simp [e]), if_pos (by rw [← hq.1]; simp [e])]
      exact .cons hq ih
theorem putN_length (kvs : NKV) (k : NestedKey) (b : Addr) (v : V) : (putN kvs k b v).length ≤ kvs.length + 1 := by
  unfold putN
  split
  · rw [List.length_map]; omega
  · rw [List.length_append]; simp
theorem putN_mem {kvs : NKV} {k : NestedKey} {b : Addr} {v : V} {e : NestedKey × Addr × V} (h : e ∈ putN kvs k b v) : (e.1 = k ∧ e.2.1 = b) ∨ ∃ f ∈ kvs, f.1 = e.1 ∧ f.2.1 = e.2.1 := by
  unfold putN at h
  split at h
  · obtain ⟨f, hf, q⟩ := List.mem_map.mp h
    right
    refine ⟨f, hf, ?_⟩
    split at q <;> (rw [← q]; exact ⟨rfl, rfl⟩)
  · rcases List.mem_append.mp h with q | q
    · exact .inr ⟨e, q, rfl, rfl⟩
    · rw [List.mem_singleton] at q
      rw [q]
      exact .inl ⟨rfl, rfl⟩

/-! ### what the operations do -/
theorem storedH_keys {xs : List (NestedKey × Addr × Value)} {k : NestedKey} {b : Addr} {u : Value} (n : (xs.map (·.1)).Nodup) : ((storedH xs k b u).map (·.1)).Nodup := by
  unfold storedH
  split
  · have e : (xs.map (putAt k u)).map (·.1) = xs.map (·.1) := by
      rw [List.map_map]
      refine List.map_congr_left fun x _ => ?_
      show (putAt k u x).1 = x.1
      unfold putAt
      split <;> rfl
    rw [e]
    exact n
  · next h =>
    rw [List.map_append]
    refine List.nodup_append.mpr ⟨n, by simp, ?_⟩
    intro a ha c hc e
    obtain ⟨x, hx, q⟩ := List.mem_map.mp ha
    have hc' : c = k := by simpa using hc
    apply h
    unfold atKey
    rw [Option.isSome_map, List.find?_isSome]
    exact ⟨x, hx, by rw [decide_eq_true_eq, q, e, hc']⟩
section
variable {X : Cx} {pins : List (Addr × Obj)} {σ : St} {H : Hp} {s : Shared} {cl : Nat → Addr} {a b : Addr} {ep : Nat} {kvs : NKV} {k : NestedKey} {A : Around} {E : Value → Shared → Prop}
theorem nd_of (I : Inv X pins σ H s) (h : H a = some (@nD ⟨X.prog, X.w⟩ a ep kvs)) : @nIs ⟨X.prog, X.w⟩ a ep kvs s.heap := (show ObjOk X.prog X.w H s.heap a (@nD ⟨X.prog, X.w⟩ a ep kvs) from I.hok a _ h).1
theorem nd_at (I : Inv X pins σ H s) (h : H a = some (@nD ⟨X.prog, X.w⟩ a ep kvs)) (n : NKeys X.K cl H kvs) :
    (a == sysModules) = false ∧ kvs.length ≤ sizeLine ∧ ∃ xs, NRel kvs xs ∧ s.heap.DictOfH (nestedKind X.prog X.w) a xs := by
  obtain ⟨h1, h2, xs, h3, h4, o, es, h5, h6, h7, h8⟩ := nd_of I h
  refine ⟨h1, h2, xs, h3, o, es, ep, h5, h6, h7, h8, fun x hx => ?_, h4⟩
  obtain ⟨q1, q2⟩ := h3.keys n x hx
  exact ⟨nested_is I _ _ _ q1 rfl, q2⟩
theorem room8 (hu : A.units + 64 < cLine) : (nestedKind X.prog X.w).room A.in1 := by
  show A.in1.units + 8 < cLine
  rw [Around.in1_units]
  omega
theorem nk_is (I : Inv X pins σ H s) (r : Rep X.K cl H (.ref b) (keyD k)) (hd : k.depth ≤ 8) : (nestedKind X.prog X.w).is s.heap k b := ⟨nested_is I _ _ _ r rfl, hd⟩
theorem nd_write {h' : Heap} {t' : Nat} {ep' : Nat} {kvs' : NKV} (I : Inv X pins σ H s) (h : H a = some (@nD ⟨X.prog, X.w⟩ a ep kvs)) (hs : Heap.SameBut a s.heap h') (new : @nIs ⟨X.prog, X.w⟩ a ep' kvs' h') :
    Inv X pins σ (upd H a (@nD ⟨X.prog, X.w⟩ a ep' kvs')) { s with heap := h', toks := t' } := by
  letI : Wo := ⟨X.prog, X.w⟩
  have he : ∃ q, h'.get? a = some q := by
    obtain ⟨_, _, _, _, _, o, _, e, _⟩ := new
    exact ⟨o, e⟩
  exact d_write I (by rw [h]; exact True.intro) hs he (nD_ok new)
end

/-! ### by values -/
section
variable [Wo] (K : PySem.W.Frag) (cl : Nat → Addr)
/-- the dict of tuples at x, asked for y -/
def NAt (x y : V) (H : Hp) (a b : Addr) (ep : Nat) (kvs : NKV) (k : NestedKey) : Prop :=
  x = .ref a ∧ y = .ref b ∧ H a = some (nD a ep kvs) ∧ NKeys K cl H kvs ∧ Rep K cl H (.ref b) (keyD k) ∧ k.depth ≤ 8
def rNIx : R2 := fun x y H Q => ∃ a b ep kvs k v, NAt K cl x y H a b ep kvs k ∧ valN kvs k = some v ∧ Q v H
def rNIn (neg : Bool) : R2 := fun y x H Q => ∃ a b ep kvs k, NAt K cl x y H a b ep kvs k ∧ Q (.bl (neg != (valN kvs k).isSome)) H
def rNSet : TSet := fun x y v H Q => ∃ a b ep kvs k, NAt K cl x y H a b ep kvs k ∧ kvs.length < sizeLine ∧ ∀ ep', Q (upd H a (nD a ep' (putN kvs k b v)))
def tNNew : TE := fun _ H Q => ∀ p, H p = none → Q (.ref p) (upd H p (nD p 0 []))
def isND (H : Hp) (a : Addr) : Prop := ∃ ep kvs, H a = some (nD a ep kvs)
/-- d.get(y), d.get(y, z): any dict -/
def tGet1 (td ty : TE) : TE := fun σ H Q => td σ H fun x H1 => ∃ a, x = .ref a ∧ (IsD H1 a ∨ isND H1 a) ∧ ty σ H1 fun y H2 =>
  (∃ o, DGet H2 a y o ∧ Q (o.getD .non) H2) ∨ ∃ b ep kvs k, NAt K cl x y H2 a b ep kvs k ∧ Q ((valN kvs k).getD .non) H2
def tGet2 (td ty tz : TE) : TE := fun σ H Q => td σ H fun x H1 => ∃ a, x = .ref a ∧ (IsD H1 a ∨ isND H1 a) ∧ ty σ H1 fun y H2 => tz σ H2 fun z H3 =>
  (∃ o, DGet H3 a y o ∧ Q (o.getD z) H3) ∨ ∃ b ep kvs k, NAt K cl x y H3 a b ep kvs k ∧ Q ((valN kvs k).getD z) H3
/-- del d[y]: any dict -/
def sDelA (td ty : TE) : TS := fun Dn σ H => td σ H fun x H1 => ty σ H1 fun y H2 =>
  (∃ a kvs k, x = .ref a ∧ H2 a = some (.dK kvs) ∧ y = kV k ∧ (valV kvs k).isSome = true ∧ Dn.nx σ (upd H2 a (.dK (dropK kvs k)))) ∨
  ∃ a b ep kvs k, NAt K cl x y H2 a b ep kvs k ∧ (valN kvs k).isSome = true ∧ ∀ ep', Dn.nx σ (upd H2 a (nD a ep' (dropN kvs k)))
/-- the keys of such a dict -/
def ItN (a : Addr) (ep : Nat) (kvs : NKV) : It :=
  ⟨fun i H => H a = some (nD a ep kvs) ∧ i < kvs.length, fun i H x H' => H' = H ∧ ∃ e, kvs[i]? = some e ∧ x = .ref e.2.1, fun i H => H a = some (nD a ep kvs) ∧ kvs.length ≤ i⟩
def iNKeys (td : TE) : TI := fun σ H R => td σ H fun x H1 => ∃ a ep kvs, x = .ref a ∧ H1 a = some (nD a ep kvs) ∧ R (ItN a ep kvs) H1
end
section
variable {X : Cx} {pins : List (Addr × Obj)} {σ : St} {H : Hp} {s : Shared} {cl : Nat → Addr} {A : Around} {E : Value → Shared → Prop} {x y : V} {v u : Value} {a b : Addr} {ep : Nat} {kvs : NKV} {k : NestedKey}
theorem nat_at (I : Inv X pins σ H s) (n : @NAt ⟨X.prog, X.w⟩ X.K cl x y H a b ep kvs k) (rx : RelV x v) (ry : RelV y u) :
    v = .ref a ∧ u = .ref b ∧ (nestedKind X.prog X.w).is s.heap k b ∧ (a == sysModules) = false ∧ kvs.length ≤ sizeLine ∧ ∃ xs, NRel kvs xs ∧ s.heap.DictOfH (nestedKind X.prog X.w) a xs := by
  obtain ⟨rfl, rfl, n1, n2, n3, n4⟩ := n
  obtain ⟨h1, h2, xs, h3, h4⟩ := nd_at I n1 n2
  exact ⟨rx, ry, nk_is I n3 n4, h1, h2, xs, h3, h4⟩
theorem n_get (hu : X.A.units + 64 < cLine) (I : Inv X pins σ H s) (n : @NAt ⟨X.prog, X.w⟩ X.K cl x y H a b ep kvs k) (rx : RelV x v) (ry : RelV y u) {w : V} (l : valN kvs k = some w) {Q : Value → Shared → Prop}
    (h : ∀ w' s', Inv X pins σ H s' → RelV w w' → Q w' s') : wpAny (model X.prog X.w) X.A (getItem v u) Q E s := by
  obtain ⟨rfl, rfl, n1, n2, n3, xs, n4, n5⟩ := nat_at I n rx ry
  obtain ⟨w', hw, rw'⟩ := RelO.some_of (v := w) (o := (atKey xs k).map (·.2)) (by rw [← l]; exact n4.val k)
  obtain ⟨p, hp, hp2⟩ := Option.map_eq_some_iff.mp hw
  refine wpAny_getItem_heap (room8 hu) n1 n5 hp ?_
  rw [hp2]
  exact h w' _ (I.tok _) rw'
theorem ix_nd (hu : X.A.units + 64 < cLine) : IxR X (@rNIx ⟨X.prog, X.w⟩ X.K cl) := by
  rintro value slice pins s σ H x y v u Q I rx ry ⟨a, b, ep, kvs, k, z, n, l, q⟩ hs
  obtain ⟨e1, e2, n1, n2, n3, xs, n4, n5⟩ := nat_at I n rx ry
  refine PyProof.Rows.tail_any (id := "dict.__getitem__") (T := "dict") (by rw [e1]; exact n5.typeIs) PySem.F.slot_dict_getitem.lookup ?_ hs
  exact n_get hu I n rx ry l fun w' s' I' r' => ⟨z, H, I', r', q⟩
theorem op_nin (hu : X.A.units + 64 < cLine) : OpR X (compareOp .In) (@rNIn ⟨X.prog, X.w⟩ X.K cl false) := by
  rintro pins s σ H y x u v Q I ry rx ⟨a, b, ep, kvs, k, n, q⟩
  obtain ⟨rfl, rfl, n1, n2, n3, xs, n4, n5⟩ := nat_at I n rx ry
  refine wpAny_in_heap (room8 hu) n1 n2 n5 ?_
  rw [n4.isSome k]
  refine ⟨_, H, I.tok _, ?_, q⟩
  cases (valN kvs k).isSome <;> rfl
theorem op_nnotin (hu : X.A.units + 64 < cLine) : OpR X (compareOp .NotIn) (@rNIn ⟨X.prog, X.w⟩ X.K cl true) := by
  rintro pins s σ H y x u v Q I ry rx ⟨a, b, ep, kvs, k, n, q⟩
  obtain ⟨rfl, rfl, n1, n2, n3, xs, n4, n5⟩ := nat_at I n rx ry
  refine PyProof.Rows.wpAny_notIn_heap (room8 hu) n1 n2 n5 ?_
  rw [n4.isSome k]
  refine ⟨_, H, I.tok _, ?_, q⟩
  cases (valN kvs k).isSome <;> rfl
theorem set_nd (hu : X.A.units + 64 < cLine) : PSet X (@rNSet ⟨X.prog, X.w⟩ X.K cl) := by
  rintro pins s σ H x y v xv yv u Q I rx ry rv ⟨a, b, ep, kvs, k, n, l, q⟩
  have hH : H a = some (@nD ⟨X.prog, X.w⟩ a ep kvs) := n.2.2.1
  obtain ⟨rfl, rfl, n1, n2, n3, xs, n4, n5⟩ := nat_at I n rx ry
  refine wpAny_setItem_heap (hsz := by rw [← Paired.length n4]; exact n3) (room8 hu) n1 n5 fun h' dd hs => ?_
  obtain ⟨o, es, ep', h1, h2, h3, h4, h5, h6⟩ := dd
  refine ⟨_, nd_write I hH hs ⟨n2, ?_, _, n4.put k b rv, h6, o, es, h1, h2, h3, h4⟩, q ep'⟩
  have := putN_length kvs k b v
  omega
theorem pe_nnew {pos : Pos} : PE X (.Dict [] [] pos) (@tNNew ⟨X.prog, X.w⟩) := by
  refine ⟨fun pins s σ H Q I h => wpAny_Dict_empty ⟨.ref s.heap.objs.size, _, I.laid (a := s.heap.objs.size) (o := @nD ⟨X.prog, X.w⟩ s.heap.objs.size 0 []) (t' := s.toks) (fun _ _ q => Heap.get?_push_of_some _ q) (Nat.le_refl _) ?_, rfl, h _ (I.hok.fresh (Nat.le_refl _))⟩⟩
  letI : Wo := ⟨X.prog, X.w⟩
  refine nD_ok ⟨beq_eq_false_iff_ne.mpr (Ne.symm (Nat.ne_of_lt I.big)), Nat.zero_le _, [], .nil, List.nodup_nil, _, #[], Heap.get?_push_size _ rfl, ⟨rfl, rfl, rfl⟩, rfl, rfl⟩

theorem isD_any {H : Hp} {a : Addr} (I : Inv X pins σ H s) (d : IsD H a ∨ @isND ⟨X.prog, X.w⟩ H a) : s.TypeIs (.ref a) "dict" ∧ (∀ b, Value.ref a = .ref b → ∃ ob, s.heap.get? b = some ob ∧ ob.dict = none) := by
  rcases d with d | ⟨ep, kvs, e⟩
  · obtain ⟨t1, t2, _⟩ := isD_at I d
    exact ⟨t1, t2⟩
  · obtain ⟨_, _, xs, _, _, o, es, e1, e2, _⟩ := nd_of I e
    refine ⟨⟨o, e1, e2.1⟩, fun b q => ?_⟩
    cases q
    exact ⟨o, e1, e2.2.1⟩
section
variable {o e f : Expr} {apos cpos pos tpos : Pos} {td ty tz : TE}
theorem pe_get1 (hu : X.A.units + 64 < cLine) (ho : PE X o td) (he : PE X e ty) (m : M1 X o "get" apos e cpos) : PE X (.Call (.Attribute o "get" apos) [e] [] cpos) (@tGet1 ⟨X.prog, X.w⟩ X.K cl td ty) := by
  refine ⟨fun pins s σ H Q I h => ?_⟩
  refine wpAny_Call_method m.base m.few m.line PySem.F.plainAttrs_dict PySem.F.slot_dict_get PySem.F.type_dict_get (thn (ho.run pins s σ H _ I h) fun u s1 ⟨x, H1, I1, rx, a, ex, d, q1⟩ => ?_)
  obtain rfl := ex
  obtain rfl : u = Value.ref a := rx
  obtain ⟨t1, t2⟩ := isD_any I1 d
  refine ⟨t1, t2, ?_⟩
  rw [m.trees]
  refine Calls.callWith_builtin rfl (Calls.evalArgs_plain (Calls.spliced_cons (thn (he.run pins s1 σ H1 _ I1 q1) fun iv s2 ⟨y, H2, I2, ry, q2⟩ => Calls.spliced_nil ?_)))
  rcases q2 with ⟨ov, g, q2⟩ | ⟨b, ep, kvs, k, n, q2⟩
  · exact d_get1 (by omega) I2 g ry fun w' s3 I3 rw' => ⟨_, H2, I3, rw', q2⟩
  · obtain ⟨-, rfl, n1, n2, n3, xs, n4, n5⟩ := nat_at I2 n rfl ry
    refine call_meetsIn PySem.F.slot_dict_get n5.typeIs PySem.F.entry_dict_get (PySem.F.args_dict_get_2 _ _) (meetsH_dict_get (nestedKind X.prog X.w) a b n2) ⟨room8 hu, k, xs, n1, n5, _, H2, I2.tok _, ?_, q2⟩
    exact (n4.val k).getD rfl
theorem pe_get2 (hu : X.A.units + 64 < cLine) (ho : PE X o td) (he : PE X e ty) (hf : PE X f tz) (m : M2 X o "get" apos e f cpos) : PE X (.Call (.Attribute o "get" apos) [e, f] [] cpos) (@tGet2 ⟨X.prog, X.w⟩ X.K cl td ty tz) := by
  refine ⟨fun pins s σ H Q I h => ?_⟩
  refine wpAny_Call_method m.base m.few m.line PySem.F.plainAttrs_dict PySem.F.slot_dict_get PySem.F.type_dict_get (thn (ho.run pins s σ H _ I h) fun u s1 ⟨x, H1, I1, rx, a, ex, d, q1⟩ => ?_)
  obtain rfl := ex
  obtain rfl : u = Value.ref a := rx
  obtain ⟨t1, t2⟩ := isD_any I1 d
  refine ⟨t1, t2, ?_⟩
  rw [m.trees]
  refine Calls.callWith_builtin rfl (Calls.evalArgs_plain (Calls.spliced_cons (thn (he.run pins s1 σ H1 _ I1 q1) fun iv s2 ⟨y, H2, I2, ry, q2⟩ => Calls.spliced_cons (thn (hf.run pins s2 σ H2 _ I2 q2) fun zv s3 ⟨z, H3, I3, rz, q3⟩ => Calls.spliced_nil ?_))))
  rcases q3 with ⟨ov, g, q3⟩ | ⟨b, ep, kvs, k, n, q3⟩
  · exact d_get2 (by omega) I3 g ry rz fun w' s4 I4 rw' => ⟨_, H3, I4, rw', q3⟩
  · obtain ⟨-, rfl, n1, n2, n3, xs, n4, n5⟩ := nat_at I3 n rfl ry
    refine call_meetsIn PySem.F.slot_dict_get n5.typeIs PySem.F.entry_dict_get (PySem.F.args_dict_get_3 _ _ _) (meetsH_dict_get_default (nestedKind X.prog X.w) a b n2 zv) ⟨room8 hu, k, xs, n1, n5, _, H3, I3.tok _, ?_, q3⟩
    exact (n4.val k).getD rz
theorem withoutH_keys {xs : List (NestedKey × Addr × Value)} {k : NestedKey} (n : (xs.map (·.1)).Nodup) : ((withoutH xs k).map (·.1)).Nodup := by
  unfold withoutH
  exact n.sublist (List.filter_sublist.map _)
theorem ps_delA (hu : X.A.units + 64 < cLine) (ho : PE X o td) (hi : PE X e ty) : PS X (.Delete [.Subscript o e tpos] pos) (@sDelA ⟨X.prog, X.w⟩ X.K cl td ty) := by
  refine ⟨fun pins s σ H D I h => ?_⟩
  refine wpAny_Delete (wpAny_deleteEach_cons (wpAny_delete_Subscript (thn (ho.run pins s σ H _ I h) fun u s1 ⟨x, H1, I1, rx, q1⟩ => thn (hi.run pins s1 σ H1 _ I1 q1) fun iv s2 ⟨y, H2, I2, ry, q2⟩ => ?_)))
  rcases q2 with ⟨a, kvs, k, ex, e, ey, l, q2⟩ | ⟨a, b, ep, kvs, k, n, l, q2⟩
  · obtain rfl := ex
    obtain rfl := ey
    obtain rfl : u = Value.ref a := rx
    exact d_delItem I2 e ry l fun s3 I3 => wpAny_deleteEach_nil ⟨σ, _, I3, q2⟩
  · have hH : H2 a = some (@nD ⟨X.prog, X.w⟩ a ep kvs) := n.2.2.1
    obtain ⟨rfl, rfl, n1, n2, n3, xs, n4, n5⟩ := nat_at I2 n rx ry
    rw [← n4.isSome k, Option.isSome_iff_exists] at l
    obtain ⟨p, hp⟩ := l
    refine wpAny_delItem_heap (hsz := by rw [← Paired.length n4]; exact n3) (room8 hu) n1 n2 n5 hp fun h' dd hs => wpAny_deleteEach_nil ?_
    obtain ⟨ob, es, ep', h1, h2, h3, h4, h5, h6⟩ := dd
    exact ⟨σ, _, nd_write I2 hH hs ⟨n2, Nat.le_trans (List.length_filter_le _ _) n3, _, n4.drop k, h6, ob, es, h1, h2, h3, h4⟩, q2 ep'⟩
end
/-! ### its keys, walked -/
theorem nrel_get {kvs : NKV} {xs : List (NestedKey × Addr × Value)} (r : NRel kvs xs) : ∀ {i : Nat} {e : NestedKey × Addr × V}, kvs[i]? = some e → ∃ f, xs[i]? = some f ∧ f.2.1 = e.2.1 := by
  induction r with
  | nil => intro i e h; simp at h
  | @cons p q ps qs hq t ih =>
    intro i e h
    cases i with
    | zero =>
      have : p = e := by simpa using h
      subst this
      exact ⟨q, rfl, hq.2.1.symm⟩
    | succ j => exact ih (by simpa using h)
theorem turn_nd {P : Program} {w : World} {K : PySem.W.Frag} {tg : Expr} (a it : Addr) (ep : Nat) (kvs : NKV) : Turn P w K tg (@ItN ⟨P, w⟩ a ep kvs) [it] it (fun i h => h.IsKeyIter it a i kvs.length ep) where
  mem := by simp
  obj := fun i h st b hb => by
    obtain rfl : b = it := by simpa using hb
    obtain ⟨oi, q1, _, q2⟩ := st
    exact ⟨oi, q1, fun v z => by rw [q2] at z; cases z⟩
  keep := fun i h h' st kp => st.at fun oi q => kp it (by simp) oi q
  item := by
    intro X hP hw hK hc i pins s σ H E I hf st hg
    subst hP hw hK
    obtain ⟨hd, hi⟩ := hg
    obtain ⟨f0, f1, f2, f3, f4, f5⟩ := hf it (by simp)
    obtain ⟨n1, n2, xs, n3, n4, o, es, n5, n6, n7, n8⟩ := nd_of I hd
    obtain ⟨e, he⟩ : ∃ e, kvs[i]? = some e := ⟨kvs[i], List.getElem?_eq_getElem hi⟩
    obtain ⟨f, hf1, hf2⟩ := nrel_get n3 he
    have hen : es[i]? = some (entryOfKey (nestedKind X.prog X.w) f) := by rw [entry_at n8 i, hf1]; rfl
    have hsz : es.size = kvs.length := (size_of_entries n8).trans (Paired.length n3).symm
    refine next_key_item st n5 n7 hsz hen fun h' st' sb => ?_
    have I1 : Inv X pins σ H { s with heap := h' } := I.turned (t' := s.toks) (fun b ob hb q => (sb.2 b hb).trans q) f0 f1 f3 f4 f5
    obtain ⟨oi, q1, q2, q3⟩ := id st'
    exact ⟨_, rfl, go_of (s := { s with heap := h' }) q1 q2 q3 (by decide) ⟨.ref e.2.1, H, I1, congrArg Value.ref hf2, ⟨rfl, e, he, rfl⟩, st', fun b hb => (hf b hb).1⟩⟩
  done := by
    intro X hP hw hK hc i pins s σ H E I hf st hg
    subst hP hw hK
    obtain ⟨hd, hi⟩ := hg
    obtain ⟨f0, f1, f2, f3, f4, f5⟩ := hf it (by simp)
    obtain ⟨n1, n2, xs, n3, n4, o, es, n5, n6, n7, n8⟩ := nd_of I hd
    have hsz : es.size = kvs.length := (size_of_entries n8).trans (Paired.length n3).symm
    exact next_key_end (I.ok.hd hc) st n5 n7 hsz hi fun h' eb => ⟨rfl, I.turned (t' := s.toks) (fun b ob hb q => eb b ob hb q) f0 f1 f3 f4 f5⟩
  self := fun A i s Q E st h => by
    refine wpAny_pyIter_slot st.typeIs PySem.F.slot_dict_keyiterator_iter (wpAny_call_entry PySem.F.slot_dict_keyiterator_iter st.typeIs PySem.F.entry_dict_keyiterator_iter ?_ (PySem.F.args_dict_keyiterator_iter_1 _))
    exact wpAny_pure ⟨_, rfl, "dict_keyiterator", _, st.typeIs, PySem.F.slot_dict_keyiterator_next.lookup, h⟩
theorem pi_nkeys {tg e : Expr} {td : TE} (he : PE X e td) : PI X tg e (@iNKeys ⟨X.prog, X.w⟩ td) := by
  refine ⟨fun pins s σ H R I h => thn (he.run pins s σ H _ I h) fun u s1 ⟨x, H1, I1, rx, a, ep, kvs, ex, hd, q⟩ => ?_⟩
  obtain rfl := ex
  obtain rfl : u = Value.ref a := rx
  obtain ⟨n1, n2, xs, n3, n4, o, es, n5, n6, n7, n8⟩ := nd_of I1 hd
  have hsz : es.size = kvs.length := (size_of_entries n8).trans (Paired.length n3).symm
  refine iter_keys n1 n5 n6 n7 (pi_one (tk := s1.toks) I1 _ (turn_nd a _ ep kvs) ⟨_, Heap.get?_push_size _ rfl, rfl, ?_⟩ q)
  rw [hsz] <;> rfl
end

/-! ### either of two readings -/
def orE (t1 t2 : TE) : TE := fun σ H Q => t1 σ H Q ∨ t2 σ H Q
theorem pe_or {X : Cx} {e : Expr} {t1 t2 : TE} (h1 : PE X e t1) (h2 : PE X e t2) : PE X e (orE t1 t2) := ⟨fun pins s σ H Q I h => h.elim (h1.run pins s σ H Q I) (h2.run pins s σ H Q I)⟩
def orI (t1 t2 : TI) : TI := fun σ H R => t1 σ H R ∨ t2 σ H R
theorem pi_or {X : Cx} {tg e : Expr} {t1 t2 : TI} (h1 : PI X tg e t1) (h2 : PI X tg e t2) : PI X tg e (orI t1 t2) := ⟨fun pins s σ H R I h => h.elim (h1.run pins s σ H R I) (h2.run pins s σ H R I)⟩
def orSet (t1 t2 : TSet) : TSet := fun o i v H Q => t1 o i v H Q ∨ t2 o i v H Q
theorem set_or {X : Cx} {t1 t2 : TSet} (h1 : PSet X t1) (h2 : PSet X t2) : PSet X (orSet t1 t2) := fun pins s σ H o i v ov iv u Q I r1 r2 r3 h => h.elim (h1 pins s σ H o i v ov iv u Q I r1 r2 r3) (h2 pins s σ H o i v ov iv u Q I r1 r2 r3)
end Cp
/-! Cp6: sorted() of data; list() and sorted() of a dict of tuples. -/
namespace Cp
open PySem L2

/-- the keys of a plain dict, as a source of items -/
theorem src_raw {P : Program} {w : World} {d : Addr} {es : Array DictEntry} {ep : Nat} (lo : (d == sysModules) = false) :
    PySem.W.KdlSrc P w "dict" d d es.size (fun i v => ∃ hi : i < es.size, v = es[i].key) (fun h => h.DictRaw d es ep) where
  type := fun _ hm => hm.typeIs
  there := fun _ hm => let ⟨_, ho, _⟩ := hm; ⟨Heap.lt_size ho, Heap.lt_size ho⟩
  keep := fun _ _ hm hk => hm.at fun o e => hk d (.inl rfl) o e
  notList := by decide
  notTuple := by decide
  hint := fun _ _ _ _ hm hq => PySem.W.kdl_hint_dict hm.typeIs hq
  iter := fun _ s hh hm => by
    have ne : d ≠ s.heap.objs.size := by
      obtain ⟨_, ho, _⟩ := hm
      exact Nat.ne_of_lt (Heap.lt_size ho)
    exact ⟨_, _, (fun _ _ hq => wpAny_pyIter_dict_raw lo hm hq), Walks.rawKeys hh _ d ne es ep, ⟨⟨_, Heap.get?_push_size _ rfl, rfl, rfl⟩, hm.at fun o e => Heap.get?_push_of_some _ e⟩⟩

abbrev refsOf (kvs : NKV) : List V := kvs.map fun e => V.ref e.2.1
theorem vals_keys {kvs : NKV} {xs : List (NestedKey × Addr × Value)} {es : Array DictEntry} {P : Program} {w : World} (r : NRel kvs xs) (he : es.toList = xs.map (entryOfKey (nestedKind P w))) {acc : Array Value}
    (h : ItemsOf (fun i v => ∃ hi : i < es.size, v = es[i].key) acc es.size) : acc.toList = kvs.map fun e => Value.ref e.2.1 := by
  have l1 : es.size = xs.length := size_of_entries he
  have l2 : kvs.length = xs.length := Paired.length r
  refine List.ext_getElem? fun i => ?_
  rw [Array.getElem?_toList, List.getElem?_map]
  by_cases hi : i < es.size
  · have hk : i < kvs.length := by omega
    have ha : i < acc.size := by rw [h.1]; exact hi
    obtain ⟨f, hf1, hf2⟩ := nrel_get r (List.getElem?_eq_getElem hk)
    have hen := entry_at he i
    rw [hf1] at hen
    obtain ⟨hi', q⟩ := h.2 i acc[i] (Array.getElem?_eq_getElem ha)
    rw [Array.getElem?_eq_getElem ha, List.getElem?_eq_getElem hk, q]
    rw [Array.getElem?_eq_getElem hi'] at hen
    have hen' := Option.some.inj hen
    rw [hen']
    exact congrArg (fun z => some (Value.ref z)) hf2
  · rw [Array.getElem?_eq_none (by rw [h.1]; omega), List.getElem?_eq_none (by omega)]
    rfl
theorem vals_refs (kvs : NKV) : Vals (refsOf kvs) (kvs.map fun e => Value.ref e.2.1) := by
  induction kvs with
  | nil => exact .nil
  | cons e kvs ih => exact .cons rfl ih

section
variable {X : Cx} {cl : Nat → Addr}
/-- list(d) -/
def rListN [Wo] : List V → Hp → VK → Prop := fun xs H Q => ∃ a ep kvs, xs = [.ref a] ∧ H a = some (nD a ep kvs) ∧ ∀ l, H l = none → Q (.ref l) (upd H l (.lst (refsOf kvs)))
theorem call_listN (hc : X.calm = true) : CallR X (.type "list") (@rListN ⟨X.prog, X.w⟩) := by
  rintro pins s σ H xs us Q I r ⟨a, ep, kvs, rfl, hd, q⟩
  obtain rfl := Vals.ref1 r
  obtain ⟨n1, n2, xs, n3, n4, o, es, n5, n6, n7, n8⟩ := nd_of I hd
  have hsz : es.size = kvs.length := (size_of_entries n8).trans (Paired.length n3).symm
  refine PySem.W.kdl_call (src_raw (es := es) (ep := ep) n1) (I.ok.hd hc) ⟨o, n5, n6, n7⟩ (by rw [hsz]; exact n2) fun h' tk acc c' hk hD hacc => ?_
  refine ⟨.ref s.heap.objs.size, _, I.laid (t' := tk) (o := .lst (refsOf kvs)) hk (Nat.le_refl _) ⟨by rw [List.length_map]; exact n2, acc.toList, c', ?_, by rw [Array.toArray_toList]; exact hD⟩, rfl, q _ (I.hok.fresh (Nat.le_refl _))⟩
  rw [vals_keys n3 n8 hacc]
  exact vals_refs kvs

/-! ### sorting -/
/-- which data sorted() takes here -/
structure Sorts (ds : List PyData) : Prop where
  alike : PySem.W.AllAlike ds
  kind : PySem.W.Sortable ds
  low : ∀ d ∈ ds, d.depth ≤ 16
def leD (x y : D) : Bool := PySem.W.dataLe false D.pyd x y
theorem reads_of {pins : List (Addr × Obj)} {σ : St} {H : Hp} {s : Shared} (I : Inv X pins σ H s) {v : V} {u : Value} {d : D} (r : Rep X.K cl H v d) (e : d.isDat = true) (q : RelV v u) : ∃ as, Reads s.heap u d.pyd as := Dp.reads I _ _ _ (r.dp e) q
theorem each_of {pins : List (Addr × Obj)} {σ : St} {H : Hp} {s : Shared} (I : Inv X pins σ H s) : ∀ {vs : List V} {us : List Value} {ds : List D}, Reps X.K cl H vs ds → D.areDat ds = true → Vals vs us →
    PySem.W.EachIs (fun u (z : V × D) => RelV z.1 u) us (vs.zip ds) ∧ PySem.W.EachIs (fun u (z : V × D) => ∃ as, Reads s.heap u z.2.pyd as) us (vs.zip ds)
  | vs, us, [], r, _, q => by
    simp only [Reps] at r
    subst r
    cases q
    exact ⟨.nil, .nil⟩
  | vs, us, d :: ds, r, e, q => by
    obtain ⟨v, ws, rfl, r1, r2⟩ := r.uncons
    simp only [D.areDat, Bool.and_eq_true] at e
    cases q with
    | cons q1 q2 =>
      obtain ⟨h1, h2⟩ := each_of I r2 e.2 q2
      exact ⟨.cons q1 h1, .cons (reads_of I r1 e.1 q1) h2⟩
theorem each_vals : ∀ {us : List Value} {zs : List (V × D)}, PySem.W.EachIs (fun u (z : V × D) => RelV z.1 u) us zs → Vals (zs.map (·.1)) us
  | _, _, .nil => .nil
  | _, _, .cons h t => .cons h (each_vals t)
theorem reps_zip {K : PySem.W.Frag} {G : Hp} : ∀ {vs : List V} {ds : List D}, Reps K cl G vs ds → ∀ z ∈ vs.zip ds, Rep K cl G z.1 z.2
  | vs, [], r, z, h => by
    rw [List.zip_nil_right] at h
    exact nomatch h
  | vs, d :: ds, r, z, h => by
    obtain ⟨v, ws, rfl, r1, r2⟩ := r.uncons
    rw [List.zip_cons_cons] at h
    rcases List.mem_cons.mp h with rfl | h
    · exact r1
    · exact reps_zip r2 z h
theorem zip_reps {K : PySem.W.Frag} {G : Hp} : ∀ {zs : List (V × D)}, (∀ z ∈ zs, Rep K cl G z.1 z.2) → Reps K cl G (zs.map (·.1)) (zs.map (·.2))
  | [], _ => Reps.nil
  | z :: zs, h => Reps.cons (h z (List.mem_cons_self ..)) (zip_reps fun y hy => h y (List.mem_cons_of_mem _ hy))
theorem zip_snd {K : PySem.W.Frag} {G : Hp} {vs : List V} {ds : List D} (r : Reps K cl G vs ds) : (vs.zip ds).map (·.2) = ds := by
  rw [List.map_snd_zip]
  rw [r.length]
  exact Nat.le_refl _
def sortZ (zs : List (V × D)) : List (V × D) := zs.mergeSort (PySem.W.dataLe false fun z => z.2.pyd)
theorem sortZ_snd {zs : List (V × D)} : (sortZ zs).map (·.2) = (zs.map (·.2)).mergeSort leD := List.map_mergeSort fun a _ b _ => rfl
/-- sorted(xs), xs a list of data -/
def rSortD (K : PySem.W.Frag) (cl : Nat → Addr) : List V → Hp → VK → Prop := fun xs H Q => ∃ a vs ds, xs = [.ref a] ∧ SqL K H a vs ∧ Reps K cl H vs ds ∧ D.areDat ds = true ∧ Sorts (ds.map D.pyd) ∧ ∀ l, H l = none → Q (.ref l) (upd H l (.lst ((sortZ (vs.zip ds)).map (·.1))))
theorem call_sortD (hu : X.A.units + 64 < cLine) : CallR X (.builtin "sorted") (rSortD X.K cl) := by
  rintro pins s σ H xs us Q I r ⟨a, vs, ds, rfl, sq, rs, hd, so, q⟩
  obtain rfl := Vals.ref1 r
  obtain ⟨its, rv, pl, hz⟩ := I.list sq
  obtain ⟨e1, e2⟩ := each_of I rs hd rv
  have hmap : ((vs.zip ds).map fun z => z.2.pyd) = ds.map D.pyd := by
    have h1 : ((vs.zip ds).map fun z => z.2.pyd) = ((vs.zip ds).map (·.2)).map D.pyd := by rw [List.map_map]; rfl
    rw [h1, zip_snd rs]
  have hlen : (vs.zip ds).length = ds.length := by rw [List.length_zip, rs.length, Nat.min_self]
  refine PySem.W.sorted_data (enc := fun z : V × D => z.2.pyd) pl.isList e1 e2 (by rw [hmap]; exact so.alike) (by rw [hmap]; exact so.kind) (by rw [hlen, ← rs.length]; exact hz) (fun b hb => ?_) fun out ho eo => ?_
  · have := so.low b.2.pyd (by rw [← hmap]; exact List.mem_map.mpr ⟨b, hb, rfl⟩)
    omega
  · obtain ⟨c, hc⟩ := PyProof.Rows.sortedAll_at s.heap its out.toArray
    have hl2 : ((sortZ (vs.zip ds)).map (·.1)).length ≤ sizeLine := by
      rw [List.length_map]
      unfold sortZ
      rw [List.length_mergeSort, hlen, ← rs.length]
      exact hz
    exact ⟨.ref (s.heap.objs.size + 1), _, I.laid (t' := s.toks) (o := .lst ((sortZ (vs.zip ds)).map (·.1))) (fun _ _ => PyProof.Rows.sortedAll_old) (Nat.le_succ _) ⟨hl2, out, c, each_vals eo, hc⟩, rfl, q _ (I.hok.fresh (Nat.le_succ _))⟩
mutual
theorem key_noas {h : Heap} : ∀ (k : NestedKey) (u : Value) (as : List Addr), Reads h u (keyD k).pyd as → as = []
  | .none, _, _, r => by simp only [keyD, D.pyd] at r; cases r; rfl
  | .num _, _, _, r => by simp only [keyD, D.pyd] at r; cases r; rfl
  | .text _, _, _, r => by simp only [keyD, D.pyd] at r; cases r; rfl
  | .tup ks, _, _, r => by
    simp only [keyD, D.pyd] at r
    cases r with
    | tuple h1 h2 h3 h4 => exact keys_noas ks _ _ h4
theorem keys_noas {h : Heap} : ∀ (ks : List NestedKey) (us : List Value) (as : List Addr), ReadsAll h us (D.pyds (keyDs ks)) as → as = []
  | [], _, _, r => by simp only [keyDs, D.pyds] at r; cases r; rfl
  | k :: ks, _, _, r => by
    simp only [keyDs, D.pyds] at r
    cases r with
    | cons h1 h2 => rw [key_noas k _ _ h1, keys_noas ks _ _ h2]; rfl
end
/-- sorted(d), d a dict of tuples -/
def sortN (kvs : NKV) : NKV := kvs.mergeSort (PySem.W.dataLe false fun e => (keyD e.1).pyd)
def rSortN [Wo] (K : PySem.W.Frag) (cl : Nat → Addr) : List V → Hp → VK → Prop := fun xs H Q => ∃ a ep kvs, xs = [.ref a] ∧ H a = some (nD a ep kvs) ∧ NKeys K cl H kvs ∧ (∀ e ∈ kvs, (keyD e.1).isDat = true) ∧ Sorts (kvs.map fun e => (keyD e.1).pyd) ∧
  ∀ l, H l = none → Q (.ref l) (upd H l (.lst (refsOf (sortN kvs))))
theorem call_sortN (hc : X.calm = true) (hu : X.A.units + 64 < cLine) : CallR X (.builtin "sorted") (@rSortN ⟨X.prog, X.w⟩ X.K cl) := by
  rintro pins s σ H xs us Q I r ⟨a, ep, kvs, rfl, hd, nk, hdat, so, q⟩
  obtain rfl := Vals.ref1 r
  obtain ⟨n1, n2, xs, n3, n4, o, es, n5, n6, n7, n8⟩ := nd_of I hd
  have hsz : es.size = kvs.length := (size_of_entries n8).trans (Paired.length n3).symm
  refine Calls.call_function_entry PyProof.Rows.kind_sorted PyProof.Rows.plain_sorted PyProof.Rows.entry_sorted (PyProof.Rows.args_sorted1 _) ?_
  unfold Builtin.«sorted»
  refine wpAny_bind (m := checkCount "sorted" 1 1 _) (wpAny_pure ?_)
  refine wpAny_bind (PySem.W.kdu_collect (A := X.A.in1) (src_raw (es := es) (ep := ep) n1) (I.ok.hd hc) ⟨o, n5, n6, n7⟩ (by rw [hsz]; exact n2) fun h' tk acc hk hacc => ?_)
  have hacc' := vals_keys n3 n8 hacc
  have I1 : Inv X pins σ H { s with heap := h', toks := tk } := I.kept hk
  have hl : acc.toList.length = kvs.length := by rw [hacc', List.length_map]
  refine wpAny_bind (wpAny_newList ?_ (by rw [hl]; exact n2))
  have hoL : (h'.push (PyProof.Rows.seqObj "list" acc.toList.toArray 0)).get? h'.objs.size = some (PyProof.Rows.seqObj "list" acc.toList.toArray 0) := Heap.get?_push_size _ rfl
  have keep : ∀ b u, h'.get? b = some u → (h'.push (PyProof.Rows.seqObj "list" acc.toList.toArray 0)).get? b = some u := fun b u e => Heap.get?_push_of_some _ e
  have eI : ∀ (l : NKV), (∀ e ∈ l, e ∈ kvs) → PySem.W.EachIs (fun u (e : NestedKey × Addr × V) => u = Value.ref e.2.1) (l.map fun e => Value.ref e.2.1) l ∧
      PySem.W.EachIs (fun u (e : NestedKey × Addr × V) => ∃ as, Reads (h'.push (PyProof.Rows.seqObj "list" acc.toList.toArray 0)) u (keyD e.1).pyd as ∧ h'.objs.size ∉ as) (l.map fun e => Value.ref e.2.1) l := by
    intro l hl
    induction l with
    | nil => exact ⟨.nil, .nil⟩
    | cons e l ih =>
      obtain ⟨h1, h2⟩ := ih fun f hf => hl f (List.mem_cons_of_mem _ hf)
      have he := hl e (List.mem_cons_self ..)
      obtain ⟨as, ra⟩ := reads_of I1 (nk e he).1 (hdat e he) (u := Value.ref e.2.1) rfl
      refine ⟨.cons rfl h1, .cons ⟨as, PyProof.Rows.Reads.keeps keep ra, fun hm => ?_⟩ h2⟩
      rw [key_noas _ _ _ ra] at hm
      exact nomatch hm
  obtain ⟨e1, e2⟩ := eI kvs fun _ h => h
  rw [← hacc'] at e1 e2
  refine wpAny_bind (wpAny_holding (PySem.W.list_sort_data (A := X.A.in1) (s := { s with heap := h'.push (PyProof.Rows.seqObj "list" acc.toList.toArray 0), toks := tk }) (enc := fun e : NestedKey × Addr × V => (keyD e.1).pyd)
    hoL e1 e2 so.alike so.kind n2 (fun b hb => ?_) fun out ho eo => ?_))
  · have := so.low (keyD b.1).pyd (List.mem_map.mpr ⟨b, hb, rfl⟩)
    rw [Around.in1_units]
    omega
  · obtain ⟨c, hc'⟩ := PyProof.Rows.sortedHeap_at (vs := acc.toList) (out := out.toArray) hoL
    have hlen : (refsOf (sortN kvs)).length ≤ sizeLine := by
      rw [List.length_map]
      unfold sortN
      rw [List.length_mergeSort]
      exact n2
    have hv : Vals (refsOf (sortN kvs)) out := by
      have : out = (sortN kvs).map fun e => Value.ref e.2.1 := by
        have go : ∀ {us : List Value} {l : NKV}, PySem.W.EachIs (fun u (e : NestedKey × Addr × V) => u = Value.ref e.2.1) us l → us = l.map fun e => Value.ref e.2.1 := by
          intro us l h
          induction h with
          | nil => rfl
          | cons h t ih => rw [h, ih]; rfl
        exact go eo
      rw [this]
      exact vals_refs _
    refine wpAny_pure ⟨_, rfl, .ref h'.objs.size, _, I1.laid (t' := tk) (o := .lst (refsOf (sortN kvs))) (fun b u e => ?_) (Nat.le_refl _) ⟨hlen, out, c, hv, hc'⟩, rfl, q _ (I1.hok.fresh (Nat.le_refl _))⟩
    have hb : b < h'.objs.size := Heap.lt_size e
    rw [PyProof.Rows.sortedHeap_old (Nat.ne_of_lt hb) (by rw [Heap.size_push]; exact Nat.lt_succ_of_lt hb)]
    exact Heap.get?_push_of_some _ e
end
end Cp
/-! Cp7: dicts as data: what is asked, written and walked. -/
namespace Cp
open PySem L2

/-! ### association lists -/
section
variable {κ : Type} [DecidableEq κ] {β : Type}
def valG (kds : List (κ × β)) (k : κ) : Option β := (kds.find? fun x => decide (x.1 = k)).map (·.2)
def putG (kds : List (κ × β)) (k : κ) (d : β) : List (κ × β) := if (valG kds k).isSome then kds.map (fun x => if x.1 = k then (x.1, d) else x) else kds ++ [(k, d)]
def dropG (kds : List (κ × β)) (k : κ) : List (κ × β) := kds.filter fun x => decide (x.1 ≠ k)
end
section
variable (K : PySem.W.Frag) (cl : Nat → Addr)
def NRep (G : Hp) : NKV → List (NestedKey × D) → Prop := Paired fun p q => p.1 = q.1 ∧ Rep K cl G (.ref p.2.1) (keyD p.1) ∧ p.1.depth ≤ 8 ∧ Rep K cl G p.2.2 q.2
def KRep (G : Hp) : List (Key × V) → List (Key × D) → Prop := Paired fun p q => p.1 = q.1 ∧ Rep K cl G p.2 q.2
end
section
variable {K : PySem.W.Frag} {cl : Nat → Addr} {G G' : Hp} {kvs : NKV} {kds : List (NestedKey × D)} {kws : List (Key × V)} {kes : List (Key × D)}
theorem NRep.mono (s : Same G G') (r : NRep K cl G kvs kds) : NRep K cl G' kvs kds := Paired.mapP r fun _ _ h => ⟨h.1, h.2.1.mono s, h.2.2.1, h.2.2.2.mono s⟩
theorem KRep.mono (s : Same G G') (r : KRep K cl G kws kes) : KRep K cl G' kws kes := Paired.mapP r fun _ _ h => ⟨h.1, h.2.mono s⟩
theorem NRep.keys (r : NRep K cl G kvs kds) : NKeys K cl G kvs := by
  induction r with
  | nil => intro e he; exact nomatch he
  | cons h t ih =>
    intro e he
    rcases List.mem_cons.mp he with rfl | he
    · exact ⟨h.2.1, h.2.2.1⟩
    · exact ih e he
theorem NKeys.mono (s : Same G G') (n : NKeys K cl G kvs) : NKeys K cl G' kvs := fun e he => ⟨(n e he).1.mono s, (n e he).2⟩
theorem NRep.length (r : NRep K cl G kvs kds) : kvs.length = kds.length := Paired.length r
theorem KRep.length (r : KRep K cl G kws kes) : kws.length = kes.length := Paired.length r
theorem NRep.val (r : NRep K cl G kvs kds) (k : NestedKey) : (valN kvs k = none ∧ valG kds k = none) ∨ ∃ v d, valN kvs k = some v ∧ valG kds k = some d ∧ Rep K cl G v d := by
  induction r with
  | nil => exact .inl ⟨rfl, rfl⟩
  | @cons p q ps qs h t ih =>
    unfold valN valG
    rw [List.find?_cons, List.find?_cons, ← h.1]
    by_cases e : p.1 = k
    · rw [decide_eq_true e]
      exact .inr ⟨_, _, rfl, rfl, h.2.2.2⟩
    · rw [decide_eq_false e]
      exact ih
theorem KRep.val (r : KRep K cl G kws kes) (k : Key) : (valV kws k = none ∧ valG kes k = none) ∨ ∃ v d, valV kws k = some v ∧ valG kes k = some d ∧ Rep K cl G v d := by
  induction r with
  | nil => exact .inl ⟨rfl, rfl⟩
  | @cons p q ps qs h t ih =>
    unfold valV valG
    rw [List.find?_cons, List.find?_cons, ← h.1]
    by_cases e : p.1 = k
    · rw [decide_eq_true e]
      exact .inr ⟨_, _, rfl, rfl, h.2⟩
    · rw [decide_eq_false e]
      exact ih
theorem NRep.some (r : NRep K cl G kvs kds) {k : NestedKey} {d : D} (h : valG kds k = some d) : ∃ v, valN kvs k = .some v ∧ Rep K cl G v d := by
  rcases r.val k with ⟨_, e⟩ | ⟨v, d', e1, e2, rv⟩
  · rw [e] at h; cases h
  · rw [e2] at h
    exact ⟨v, e1, (Option.some.inj h) ▸ rv⟩
theorem KRep.some (r : KRep K cl G kws kes) {k : Key} {d : D} (h : valG kes k = some d) : ∃ v, valV kws k = .some v ∧ Rep K cl G v d := by
  rcases r.val k with ⟨_, e⟩ | ⟨v, d', e1, e2, rv⟩
  · rw [e] at h; cases h
  · rw [e2] at h
    exact ⟨v, e1, (Option.some.inj h) ▸ rv⟩
theorem NRep.isSome (r : NRep K cl G kvs kds) (k : NestedKey) : (valN kvs k).isSome = (valG kds k).isSome := by
  rcases r.val k with ⟨e1, e2⟩ | ⟨v, d', e1, e2, rv⟩ <;> rw [e1, e2] <;> rfl
theorem KRep.isSome (r : KRep K cl G kws kes) (k : Key) : (valV kws k).isSome = (valG kes k).isSome := by
  rcases r.val k with ⟨e1, e2⟩ | ⟨v, d', e1, e2, rv⟩ <;> rw [e1, e2] <;> rfl
theorem NRep.getD (r : NRep K cl G kvs kds) (k : NestedKey) {z : V} {c : D} (hz : Rep K cl G z c) : Rep K cl G ((valN kvs k).getD z) ((valG kds k).getD c) := by
  rcases r.val k with ⟨e1, e2⟩ | ⟨v, d', e1, e2, rv⟩ <;> rw [e1, e2]
  · exact hz
  · exact rv
theorem KRep.getD (r : KRep K cl G kws kes) (k : Key) {z : V} {c : D} (hz : Rep K cl G z c) : Rep K cl G ((valV kws k).getD z) ((valG kes k).getD c) := by
  rcases r.val k with ⟨e1, e2⟩ | ⟨v, d', e1, e2, rv⟩ <;> rw [e1, e2]
  · exact hz
  · exact rv
theorem NRep.put (r : NRep K cl G kvs kds) {k : NestedKey} {b : Addr} {v : V} {d : D} (hk : Rep K cl G (.ref b) (keyD k)) (h8 : k.depth ≤ 8) (hv : Rep K cl G v d) : NRep K cl G (putN kvs k b v) (putG kds k d) := by
  unfold putN putG
  rw [r.isSome k]
  cases (valG kds k).isSome with
  | true =>
    simp only [if_true]
    induction r with
    | nil => exact .nil
    | @cons p q ps qs h t ih =>
      refine .cons ?_ ih
      dsimp only
      by_cases e : p.1 = k
      · rw [if_pos e, if_pos (h.1 ▸ e)]
        exact ⟨h.1, h.2.1, h.2.2.1, hv⟩
      · rw [if_neg e, if_neg (h.1 ▸ e)]
        exact h
  | false =>
    simp only [Bool.false_eq_true, if_false]
    induction r with
    | nil => exact .cons ⟨rfl, hk, h8, hv⟩ .nil
    | cons h t ih => exact .cons h ih
theorem KRep.put (r : KRep K cl G kws kes) {k : Key} {v : V} {d : D} (hv : Rep K cl G v d) : KRep K cl G (putK kws k v) (putG kes k d) := by
  unfold putK putG
  rw [valV_any, r.isSome k]
  cases (valG kes k).isSome with
  | true =>
    simp only [if_true]
    induction r with
    | nil => exact .nil
    | @cons p q ps qs h t ih =>
      refine .cons ?_ ih
      dsimp only
      by_cases e : p.1 = k
      · rw [if_pos e, if_pos (h.1 ▸ e)]
        exact ⟨h.1, hv⟩
      · rw [if_neg e, if_neg (h.1 ▸ e)]
        exact h
  | false =>
    simp only [Bool.false_eq_true, if_false]
    induction r with
    | nil => exact .cons ⟨rfl, hv⟩ .nil
    | cons h t ih => exact .cons h ih
theorem NRep.drop (r : NRep K cl G kvs kds) (k : NestedKey) : NRep K cl G (dropN kvs k) (dropG kds k) := by
  unfold dropN dropG
  induction r with
  | nil => exact .nil
  | @cons p q ps qs h t ih =>
    rw [List.filter_cons, List.filter_cons]
    by_cases e : p.1 = k
    · rw [if_neg (by simp [e]), if_neg (by rw [← h.1]; simp [e])]
      exact ih
    · rw [if_pos (by simp [e]), if_pos (by rw [← h.1]; simp [e])]
      exact .cons h ih
theorem KRep.drop (r : KRep K cl G kws kes) (k : Key) : KRep K cl G (dropK kws k) (dropG kes k) := by
  unfold dropK dropG
  induction r with
  | nil => exact .nil
  | @cons p q ps qs h t ih =>
    rw [List.filter_cons, List.filter_cons]
    by_cases e : p.1 = k
    · rw [if_neg (by simp [e]), if_neg (by rw [← h.1]; simp [e])]
      exact ih
    · rw [if_pos (by simp [e]), if_pos (by rw [← h.1]; simp [e])]
      exact .cons h ih
theorem NRep.refs (r : NRep K cl G kvs kds) : Reps K cl G (refsOf kvs) (kds.map fun e => keyD e.1) := by
  induction r with
  | nil => exact Reps.nil
  | @cons p q ps qs h t ih =>
    refine Reps.cons ?_ ih
    show Rep K cl G (.ref p.2.1) (keyD q.1)
    rw [← h.1]
    exact h.2.1
theorem NRep.fst (r : NRep K cl G kvs kds) : kvs.map (fun e => keyD e.1) = kds.map fun e => keyD e.1 := by
  induction r with
  | nil => rfl
  | cons h t ih => rw [List.map_cons, List.map_cons, ih, h.1]
theorem NKeys.refs (n : NKeys K cl G kvs) : Reps K cl G (refsOf kvs) (kvs.map fun e => keyD e.1) := Reps.map fun e he => (n e he).1
theorem NRep.sorted (r : NRep K cl G kvs kds) : Reps K cl G (refsOf (sortN kvs)) ((kds.map fun e => keyD e.1).mergeSort leD) := by
  have h1 : NKeys K cl G (sortN kvs) := fun e he => r.keys e ((List.mergeSort_perm _ _).mem_iff.mp he)
  have h2 := h1.refs
  have h3 : (sortN kvs).map (fun e => keyD e.1) = (kvs.map fun e => keyD e.1).mergeSort leD := List.map_mergeSort fun a _ b _ => rfl
  rw [h3, r.fst] at h2
  exact h2
end

/-! ### the readings, either kind of dict -/
section
variable [Wo] (K : PySem.W.Frag) (cl : Nat → Addr)
def rIxK : R2 := fun x y H Q => ∃ a v, x = .ref a ∧ DGet H a y (some v) ∧ Q v H
/-- d[k] of a dict -/
def rIxA : R2 := orR rIxK (rNIx K cl)
def rInK (neg : Bool) : R2 := fun y x H Q => ∃ a o, x = .ref a ∧ DGet H a y o ∧ Q (.bl (neg != o.isSome)) H
/-- k in d of a dict -/
def rInA (neg : Bool) : R2 := orR (rInK neg) (rNIn K cl neg)
/-- d[k] = v of a dict -/
def rSetA : TSet := orSet rSetD (rNSet K cl)
/-- {} -/
def tNew : TE := orE tDNewK tNNew
/-- list(d), sorted(d) of a list or a dict -/
def rListD : List V → Hp → VK → Prop := fun xs H Q => rListN xs H Q
def rSortA : List V → Hp → VK → Prop := fun xs H Q => rSortD K cl xs H Q ∨ rSortN K cl xs H Q
end
section
variable {X : Cx} {cl : Nat → Addr}
theorem ix_dict (hu : X.A.units + 64 < cLine) : IxR X rIxK := by
  rintro value slice pins s σ H x y v u Q I rx ry ⟨a, z, rfl, g, q⟩ hs
  obtain rfl : v = Value.ref a := rx
  exact PyProof.Rows.tail_any (id := "dict.__getitem__") (T := "dict") (dict_typeIs I g) PySem.F.slot_dict_getitem.lookup (d_getItem (by omega) I g ry fun w' s' I' r' => ⟨z, H, I', r', q⟩) hs
theorem ix_dictA (hu : X.A.units + 64 < cLine) : IxR X (@rIxA ⟨X.prog, X.w⟩ X.K cl) := (ix_dict hu).or (ix_nd hu)
theorem op_inK (hu : X.A.units + 64 < cLine) : OpR X (compareOp .In) (rInK false) := by
  rintro pins s σ H y x u v Q I ry rx ⟨a, o, rfl, g, q⟩
  obtain rfl : v = Value.ref a := rx
  refine d_in (by omega) I g ry fun s' I' => ⟨.bl o.isSome, H, I', rfl, ?_⟩
  cases o <;> exact q
theorem op_notInK (hu : X.A.units + 64 < cLine) : OpR X (compareOp .NotIn) (rInK true) := by
  rintro pins s σ H y x u v Q I ry rx ⟨a, o, rfl, g, q⟩
  obtain rfl : v = Value.ref a := rx
  refine d_notIn (by omega) I g ry fun s' I' => ⟨.bl (!o.isSome), H, I', rfl, ?_⟩
  cases o <;> exact q
theorem op_inA (hu : X.A.units + 64 < cLine) : OpR X (compareOp .In) (@rInA ⟨X.prog, X.w⟩ X.K cl false) := op_or (op_inK hu) (op_nin hu)
theorem op_notInA (hu : X.A.units + 64 < cLine) : OpR X (compareOp .NotIn) (@rInA ⟨X.prog, X.w⟩ X.K cl true) := op_or (op_notInK hu) (op_nnotin hu)
theorem set_dictA (hu : X.A.units + 64 < cLine) : PSet X (@rSetA ⟨X.prog, X.w⟩ X.K cl) := set_or (set_dict (by omega)) (set_nd hu)
theorem pe_new {pos : Pos} : PE X (.Dict [] [] pos) (@tNew ⟨X.prog, X.w⟩) := pe_or pe_dnewK pe_nnew
theorem call_sortA (hc : X.calm = true) (hu : X.A.units + 64 < cLine) : CallR X (.builtin "sorted") (@rSortA ⟨X.prog, X.w⟩ X.K cl) := fun pins s σ H xs us Q I r h => h.elim (call_sortD hu pins s σ H xs us Q I r) (call_sortN hc hu pins s σ H xs us Q I r)
end

/-! ### rules -/
section
variable [Wo] {K : PySem.W.Frag} {cl : Nat → Addr} {p q r : Bool} {M M1 M2 M3 M4 : ML} {G G1 G2 G3 H H1 H2 H3 : Hp} {σ : St} {ta tb tc te : TE} {tx : TA} {tt tu : TT} {d d1 d2 d3 : D} {ds es : List D}
variable {a : Addr} {ep : Nat} {kvs : NKV} {kds : List (NestedKey × D)} {kws : List (Key × V)} {kes : List (Key × D)} {nx : St → Hp → Prop} {rt : VK} {bk ct : St → Hp → Prop}
def kD : Key → D
  | .inl i => .int i
  | .inr x => .str x
theorem rep_kD {G : Hp} {v : V} {k : Key} (h : Rep K cl G v (kD k)) : v = kV k := by
  cases k with
  | inl i => exact h.of_int
  | inr x => exact h.of_str
/-- a key is a tuple, not too deep -/
structure IsNK (k : NestedKey) : Prop where
  tup : ∃ ks, k = .tup ks
  low : k.depth ≤ 8
theorem nkey_ref {G : Hp} {v : V} {k : NestedKey} (h : Rep K cl G v (keyD k)) (i : IsNK k) : ∃ b, v = .ref b := by
  obtain ⟨ks, rfl⟩ := i.tup
  simp only [keyD] at h
  obtain ⟨b, vs, e, _⟩ := h.of_tup
  exact ⟨b, e⟩
theorem nat_mk {G1 G2 H2 : Hp} {y : V} {k : NestedKey} (S : Sep G2 H2 M2) (hm : At M2 a (nD a ep kvs)) (hr : NRep K cl G1 kvs kds) (s : Same G1 G2) (ry : Rep K cl G2 y (keyD k)) (i : IsNK k) : ∃ b, y = .ref b ∧ NAt K cl (.ref a) y H2 a b ep kvs k := by
  obtain ⟨b, rfl⟩ := nkey_ref ry i
  exact ⟨b, rfl, rfl, rfl, S.look hm, ((hr.mono s).mono S.sub).keys, ry.mono S.sub, i.low⟩
theorem ev_nget {k : NestedKey} (ha : EvX K cl p ta σ G M (.loc a) M1) (hb : EvX K cl q tb σ G M1 d1 M2) (hk : d1 = keyD k) (i : IsNK k) (hm : At M2 a (nD a ep kvs)) (hr : NRep K cl G kvs kds) (hv : valG kds k = some d) :
    EvX K cl (p && q) (tOp (rIxA K cl) ta tb) σ G M d M2 := fun G1 H1 s S Q kk =>
  ha G1 H1 s S _ fun x G2 H2 g2 rx => hb G2 H2 (s.trans g2.same) g2.sep _ fun y G3 H3 g3 ry => by
    obtain rfl := rx.of_loc
    rw [hk] at ry
    obtain ⟨b, rfl, n⟩ := nat_mk g3.sep hm hr ((s.trans g2.same).trans g3.same) ry i
    obtain ⟨v, e, rv⟩ := hr.some hv
    exact .inr ⟨a, b, ep, kvs, k, v, n, e, kk v G3 H3 (g2.trans g3) (rv.mono ((s.trans g2.same).trans g3.same))⟩
theorem ev_kget {k : Key} (ha : EvX K cl p ta σ G M (.loc a) M1) (hb : EvX K cl q tb σ G M1 d1 M2) (hk : d1 = kD k) (hm : At M2 a (.dK kws)) (hr : KRep K cl G kws kes) (hv : valG kes k = some d) :
    EvX K cl (p && q) (tOp (rIxA K cl) ta tb) σ G M d M2 := fun G1 H1 s S Q kk =>
  ha G1 H1 s S _ fun x G2 H2 g2 rx => hb G2 H2 (s.trans g2.same) g2.sep _ fun y G3 H3 g3 ry => by
    obtain rfl := rx.of_loc
    rw [hk] at ry
    obtain ⟨v, e, rv⟩ := hr.some hv
    exact .inl ⟨a, v, rfl, .inl ⟨kws, k, .inl (g3.sep.look hm), rep_kD ry, e.symm⟩, kk v G3 H3 (g2.trans g3) (rv.mono ((s.trans g2.same).trans g3.same))⟩
theorem ev_nin {k : NestedKey} {neg : Bool} (hb : EvX K cl p tb σ G M d1 M1) (ha : EvX K cl q ta σ G M1 (.loc a) M2) (hk : d1 = keyD k) (i : IsNK k) (hm : At M2 a (nD a ep kvs)) (hr : NRep K cl G kvs kds) :
    EvX K cl (p && q) (tOp (rInA K cl neg) tb ta) σ G M (.bl (neg != (valG kds k).isSome)) M2 := fun G1 H1 s S Q kk =>
  hb G1 H1 s S _ fun y G2 H2 g2 ry => ha G2 H2 (s.trans g2.same) g2.sep _ fun x G3 H3 g3 rx => by
    obtain rfl := rx.of_loc
    rw [hk] at ry
    obtain ⟨b, rfl, n⟩ := nat_mk g3.sep hm hr ((s.trans g2.same).trans g3.same) (ry.mono g3.same) i
    refine .inr ⟨a, b, ep, kvs, k, n, ?_⟩
    rw [hr.isSome]
    exact kk _ G3 H3 (g2.trans g3) Rep.bl
theorem ev_kin {k : Key} {neg : Bool} (hb : EvX K cl p tb σ G M d1 M1) (ha : EvX K cl q ta σ G M1 (.loc a) M2) (hk : d1 = kD k) (hm : At M2 a (.dK kws)) (hr : KRep K cl G kws kes) :
    EvX K cl (p && q) (tOp (rInA K cl neg) tb ta) σ G M (.bl (neg != (valG kes k).isSome)) M2 := fun G1 H1 s S Q kk =>
  hb G1 H1 s S _ fun y G2 H2 g2 ry => ha G2 H2 (s.trans g2.same) g2.sep _ fun x G3 H3 g3 rx => by
    obtain rfl := rx.of_loc
    rw [hk] at ry
    refine .inl ⟨a, _, rfl, .inl ⟨kws, k, .inl (g3.sep.look hm), rep_kD ry, rfl⟩, ?_⟩
    rw [hr.isSome]
    exact kk _ G3 H3 (g2.trans g3) Rep.bl
theorem ev_nget1 {k : NestedKey} (ha : EvX K cl p ta σ G M (.loc a) M1) (hb : EvX K cl q tb σ G M1 d1 M2) (hk : d1 = keyD k) (i : IsNK k) (hm1 : At M1 a (nD a ep kvs)) (hm : At M2 a (nD a ep kvs)) (hr : NRep K cl G kvs kds) :
    EvX K cl (p && q) (tGet1 K cl ta tb) σ G M ((valG kds k).getD .non) M2 := fun G1 H1 s S Q kk =>
  ha G1 H1 s S _ fun x G2 H2 g2 rx => ⟨a, rx.of_loc, .inr ⟨ep, kvs, g2.sep.look hm1⟩, hb G2 H2 (s.trans g2.same) g2.sep _ fun y G3 H3 g3 ry => by
    obtain rfl := rx.of_loc
    rw [hk] at ry
    obtain ⟨b, rfl, n⟩ := nat_mk g3.sep hm hr ((s.trans g2.same).trans g3.same) ry i
    exact .inr ⟨b, ep, kvs, k, n, kk _ G3 H3 (g2.trans g3) ((hr.getD k Rep.non).mono ((s.trans g2.same).trans g3.same))⟩⟩
theorem ev_kget1 {k : Key} (ha : EvX K cl p ta σ G M (.loc a) M1) (hb : EvX K cl q tb σ G M1 d1 M2) (hk : d1 = kD k) (hm1 : At M1 a (.dK kws)) (hm : At M2 a (.dK kws)) (hr : KRep K cl G kws kes) :
    EvX K cl (p && q) (tGet1 K cl ta tb) σ G M ((valG kes k).getD .non) M2 := fun G1 H1 s S Q kk =>
  ha G1 H1 s S _ fun x G2 H2 g2 rx => ⟨a, rx.of_loc, .inl (.inl ⟨kws, .inl (g2.sep.look hm1)⟩), hb G2 H2 (s.trans g2.same) g2.sep _ fun y G3 H3 g3 ry => by
    rw [hk] at ry
    exact .inl ⟨_, .inl ⟨kws, k, .inl (g3.sep.look hm), rep_kD ry, rfl⟩, kk _ G3 H3 (g2.trans g3) ((hr.getD k Rep.non).mono ((s.trans g2.same).trans g3.same))⟩⟩
theorem ev_nget2 {k : NestedKey} (ha : EvX K cl p ta σ G M (.loc a) M1) (hb : EvX K cl q tb σ G M1 d1 M2) (hz : EvX K cl r tc σ G M2 d2 M3) (hk : d1 = keyD k) (i : IsNK k) (hm1 : At M1 a (nD a ep kvs)) (hm : At M3 a (nD a ep kvs)) (hr : NRep K cl G kvs kds) :
    EvX K cl (p && q && r) (tGet2 K cl ta tb tc) σ G M ((valG kds k).getD d2) M3 := fun G1 H1 s S Q kk =>
  ha G1 H1 s S _ fun x G2 H2 g2 rx => ⟨a, rx.of_loc, .inr ⟨ep, kvs, g2.sep.look hm1⟩, hb G2 H2 (s.trans g2.same) g2.sep _ fun y G3 H3 g3 ry => hz G3 H3 ((s.trans g2.same).trans g3.same) g3.sep _ fun z G4 H4 g4 rz => by
    obtain rfl := rx.of_loc
    rw [hk] at ry
    have sA := ((s.trans g2.same).trans g3.same).trans g4.same
    obtain ⟨b, rfl, n⟩ := nat_mk g4.sep hm hr sA (ry.mono g4.same) i
    exact .inr ⟨b, ep, kvs, k, n, kk _ G4 H4 ((g2.trans g3).trans g4) ((hr.mono sA).getD k rz)⟩⟩
theorem ev_kget2 {k : Key} (ha : EvX K cl p ta σ G M (.loc a) M1) (hb : EvX K cl q tb σ G M1 d1 M2) (hz : EvX K cl r tc σ G M2 d2 M3) (hk : d1 = kD k) (hm1 : At M1 a (.dK kws)) (hm : At M3 a (.dK kws)) (hr : KRep K cl G kws kes) :
    EvX K cl (p && q && r) (tGet2 K cl ta tb tc) σ G M ((valG kes k).getD d2) M3 := fun G1 H1 s S Q kk =>
  ha G1 H1 s S _ fun x G2 H2 g2 rx => ⟨a, rx.of_loc, .inl (.inl ⟨kws, .inl (g2.sep.look hm1)⟩), hb G2 H2 (s.trans g2.same) g2.sep _ fun y G3 H3 g3 ry => hz G3 H3 ((s.trans g2.same).trans g3.same) g3.sep _ fun z G4 H4 g4 rz => by
    rw [hk] at ry
    have sA := ((s.trans g2.same).trans g3.same).trans g4.same
    exact .inl ⟨_, .inl ⟨kws, k, .inl (g4.sep.look hm), rep_kD (ry.mono g4.same), rfl⟩, kk _ G4 H4 ((g2.trans g3).trans g4) ((hr.mono sA).getD k rz)⟩⟩
theorem eg_newN {F : V → Hp → ML → Prop} (hF : ∀ u, F (.ref u) G ((u, nD u 0 []) :: M)) (hm : ∀ v G' M', Same G G' → F v G M' → F v G' M') : EvG tNew σ G M F := fun G1 H1 s S Q k =>
  .inr fun u hu => k (.ref u) G1 _ _ (Same.refl _) (S.newM hu) (hm _ _ _ s (hF u))
theorem eg_newK {F : V → Hp → ML → Prop} (hF : ∀ u, F (.ref u) G ((u, .dK []) :: M)) (hm : ∀ v G' M', Same G G' → F v G M' → F v G' M') : EvG tNew σ G M F := fun G1 H1 s S Q k =>
  .inl fun u hu => k (.ref u) G1 _ _ (Same.refl _) (S.newM hu) (hm _ _ _ s (hF u))
/-- d[k] = e -/
theorem s_nput {k : NestedKey} {M' : Nat → Addr → V → ML} (S : Sep G H M) (he : EvX K cl p te σ G M d M1) (ha : EvX K cl q ta σ G M1 (.loc a) M2) (hi : EvX K cl r tb σ G M2 d1 M3) (hk : d1 = keyD k) (i : IsNK k) (hr : NRep K cl G kvs kds) (hl : kds.length ≤ 100000)
    (hm : ∀ ep' b v, Ch M3 a (nD a ep kvs) (nD a ep' (putN kvs k b v)) (M' ep' b v)) (kk : ∀ ep' b v G' H', Same G G' → Sep G' H' (M' ep' b v) → NRep K cl G' (putN kvs k b v) (putG kds k d) → nx σ H') : tAsg te (gSub ta tb (rSetA K cl)) ⟨nx, rt, bk, ct⟩ σ H :=
  he G H (Same.refl _) S _ fun v G2 H2 g2 rv => ha G2 H2 g2.same g2.sep _ fun x G3 H3 g3 rx => hi G3 H3 (g2.same.trans g3.same) g3.sep _ fun y G4 H4 g4 ry => by
    obtain rfl := rx.of_loc
    rw [hk] at ry
    have sA := (g2.same.trans g3.same).trans g4.same
    obtain ⟨b, rfl, n⟩ := nat_mk (kds := kds) g4.sep (hm 0 0 v).at hr sA ry i
    refine .inr ⟨a, b, ep, kvs, k, n, ?_, fun ep' => kk ep' b v G4 _ sA (g4.sep.ch (hm ep' b v)) ((hr.mono sA).put ry i.low (rv.mono (g3.same.trans g4.same)))⟩
    rw [hr.length]
    exact Nat.lt_of_le_of_lt hl (by decide)
theorem s_kput {k : Key} {M' : V → ML} (S : Sep G H M) (he : EvX K cl p te σ G M d M1) (ha : EvX K cl q ta σ G M1 (.loc a) M2) (hi : EvX K cl r tb σ G M2 d1 M3) (hk : d1 = kD k) (hr : KRep K cl G kws kes) (hl : kes.length ≤ 100000)
    (hm : ∀ v, Ch M3 a (.dK kws) (.dK (putK kws k v)) (M' v)) (kk : ∀ v G' H', Same G G' → Sep G' H' (M' v) → KRep K cl G' (putK kws k v) (putG kes k d) → nx σ H') : tAsg te (gSub ta tb (rSetA K cl)) ⟨nx, rt, bk, ct⟩ σ H :=
  he G H (Same.refl _) S _ fun v G2 H2 g2 rv => ha G2 H2 g2.same g2.sep _ fun x G3 H3 g3 rx => hi G3 H3 (g2.same.trans g3.same) g3.sep _ fun y G4 H4 g4 ry => by
    obtain rfl := rx.of_loc
    rw [hk] at ry
    have sA := (g2.same.trans g3.same).trans g4.same
    refine .inl ⟨a, _, rfl, .inl ⟨kws, k, g4.sep.look (hm v).at, rep_kD ry, ?_, rfl⟩, kk v G4 _ sA (g4.sep.ch (hm v)) ((hr.mono sA).put (rv.mono (g3.same.trans g4.same)))⟩
    rw [hr.length]
    exact Nat.lt_of_le_of_lt hl (by decide)
theorem s_ndel {k : NestedKey} {M' : Nat → ML} (S : Sep G H M) (ha : EvX K cl p ta σ G M (.loc a) M1) (hi : EvX K cl q tb σ G M1 d1 M2) (hk : d1 = keyD k) (i : IsNK k) (hr : NRep K cl G kvs kds) (hv : (valG kds k).isSome = true)
    (hm : ∀ ep', Ch M2 a (nD a ep kvs) (nD a ep' (dropN kvs k)) (M' ep')) (kk : ∀ ep' G' H', Same G G' → Sep G' H' (M' ep') → NRep K cl G' (dropN kvs k) (dropG kds k) → nx σ H') : sDelA K cl ta tb ⟨nx, rt, bk, ct⟩ σ H :=
  ha G H (Same.refl _) S _ fun x G3 H3 g3 rx => hi G3 H3 g3.same g3.sep _ fun y G4 H4 g4 ry => by
    obtain rfl := rx.of_loc
    rw [hk] at ry
    have sA := g3.same.trans g4.same
    obtain ⟨b, rfl, n⟩ := nat_mk (kds := kds) g4.sep (hm 0).at hr sA ry i
    exact .inr ⟨a, b, ep, kvs, k, n, by rw [hr.isSome]; exact hv, fun ep' => kk ep' G4 _ sA (g4.sep.ch (hm ep')) ((hr.mono sA).drop k)⟩
theorem s_kdel {k : Key} {M' : ML} (S : Sep G H M) (ha : EvX K cl p ta σ G M (.loc a) M1) (hi : EvX K cl q tb σ G M1 d1 M2) (hk : d1 = kD k) (hr : KRep K cl G kws kes) (hv : (valG kes k).isSome = true)
    (hm : Ch M2 a (.dK kws) (.dK (dropK kws k)) M') (kk : ∀ G' H', Same G G' → Sep G' H' M' → KRep K cl G' (dropK kws k) (dropG kes k) → nx σ H') : sDelA K cl ta tb ⟨nx, rt, bk, ct⟩ σ H :=
  ha G H (Same.refl _) S _ fun x G3 H3 g3 rx => hi G3 H3 g3.same g3.sep _ fun y G4 H4 g4 ry => by
    obtain rfl := rx.of_loc
    rw [hk] at ry
    have sA := g3.same.trans g4.same
    exact .inl ⟨a, kws, k, rfl, g4.sep.look hm.at, rep_kD ry, by rw [hr.isSome]; exact hv, kk G4 _ sA (g4.sep.ch hm) ((hr.mono sA).drop k)⟩
end
end Cp
/-! Cp8: loops over the keys of a dict of tuples, over owned lists; sorted() as data. -/
namespace Cp
open PySem L2

/-- J yields the things xs, one by one, while ok holds -/
structure Yields (J : It) (xs : List V) (ok : Hp → Prop) : Prop where
  go : ∀ i H, i < xs.length → ok H → J.go i H
  stop : ∀ H, ok H → J.stop xs.length H
  yld : ∀ i H x H', i < xs.length → ok H → J.yld i H x H' → H' = H ∧ xs[i]? = some x
theorem yields_nd [Wo] {a : Addr} {ep : Nat} {kvs : NKV} : Yields (ItN a ep kvs) (refsOf kvs) (fun H => H a = some (nD a ep kvs)) where
  go := fun i H hi e => ⟨e, by simpa using hi⟩
  stop := fun H e => ⟨e, by simp⟩
  yld := fun i H x H' _ _ y => ⟨y.1, by
    obtain ⟨e, he, rfl⟩ := y.2
    rw [List.getElem?_map, he]; rfl⟩
theorem yields_lst {K : PySem.W.Frag} {a : Addr} {xs : List V} : Yields (Itl K a) xs (fun H => SqL K H a xs) where
  go := fun i H hi e => ⟨xs, xs[i], e, List.getElem?_eq_getElem hi⟩
  stop := fun H e => ⟨xs, e, Nat.le_refl _⟩
  yld := fun i H x H' _ e y => ⟨y.1, y.2 xs e⟩
theorem for_y {J : It} {xs : List V} {ok : Hp → Prop} {g : TG} {tb : TS} {Dn : Ends} {σ : St} {H : Hp} (Y : Yields J xs ok) (Pv : Nat → St → Hp → Prop) (h0 : Pv 0 σ H) (hl : ∀ i σ H, i ≤ xs.length → Pv i σ H → ok H)
    (hs : ∀ i x σ H, xs[i]? = some x → Pv i σ H → g x σ H fun σ2 H2 => tb { Dn with nx := Pv (i + 1), ct := Pv (i + 1), bk := Dn.nx } σ2 H2) (hd : ∀ σ H, Pv xs.length σ H → Dn.nx σ H) :
    ∃ W : Nat → Nat → St → Hp → Prop, (∃ m, W 0 m σ H) ∧ ∀ i m σ H, W i m σ H →
      (J.stop i H ∧ Dn.nx σ H) ∨ (J.go i H ∧ ∃ N : St → Hp → Prop, (∀ σ' H', N σ' H' → ∃ m', m' < m ∧ W (i + 1) m' σ' H') ∧ ∀ x H', J.yld i H x H' → g x σ H' fun σ2 H2 => tb { Dn with nx := N, ct := N, bk := Dn.nx } σ2 H2) := by
  refine ⟨fun i m σ H => m = xs.length - i ∧ i ≤ xs.length ∧ Pv i σ H, ⟨_, rfl, Nat.zero_le _, h0⟩, ?_⟩
  rintro i m σ H ⟨rfl, hi, p⟩
  have q := hl i σ H hi p
  rcases Nat.lt_or_ge i xs.length with lt | ge
  · refine .inr ⟨Y.go i H lt q, Pv (i + 1), fun σ' H' p' => ⟨xs.length - (i + 1), by omega, rfl, lt, p'⟩, fun x H' y => ?_⟩
    obtain ⟨e, hx⟩ := Y.yld i H x H' lt q y
    rw [e]
    exact hs i x σ H hx p
  · obtain rfl : i = xs.length := Nat.le_antisymm hi ge
    exact .inl ⟨Y.stop H q, hd σ H p⟩
theorem lc_y {J : It} {xs : List V} {ok : Hp → Prop} {g : TG} {tt : TT} {te : TE} {vs : List Nat} {σ : St} {H1 : Hp} {Da : Addr} {Qd : Hp → Prop} (Y : Yields J xs ok) (Pv : Nat → Hp → Prop) (h0 : Pv 0 (upd H1 Da (.lst []))) (hl : ∀ i H, i ≤ xs.length → Pv i H → ok H)
    (hs : ∀ i x H, xs[i]? = some x → Pv i H → g x (wipe σ vs) H fun σ2 H2 => wipe σ2 vs = wipe σ vs ∧ tt σ2 H2 fun b H3 =>
      if b = true then te σ2 H3 fun y H4 => ∃ acc, H4 Da = some (.lst acc) ∧ acc.length < sizeLine ∧ Pv (i + 1) (upd H4 Da (.lst (acc ++ [y]))) else Pv (i + 1) H3) (hd : ∀ H, Pv xs.length H → Qd H) :
    ∃ W : Nat → Nat → Hp → Prop, (∃ m, W 0 m (upd H1 Da (.lst []))) ∧ ∀ i m H, W i m H →
      (J.stop i H ∧ Qd H) ∨ (J.go i H ∧ ∃ Nx : Hp → Prop, (∀ H', Nx H' → ∃ m', m' < m ∧ W (i + 1) m' H') ∧ ∀ x H', J.yld i H x H' → g x (wipe σ vs) H' fun σ2 H2 => wipe σ2 vs = wipe σ vs ∧ tt σ2 H2 fun b H3 =>
        if b = true then te σ2 H3 fun y H4 => ∃ acc, H4 Da = some (.lst acc) ∧ acc.length < sizeLine ∧ Nx (upd H4 Da (.lst (acc ++ [y]))) else Nx H3) := by
  refine ⟨fun i m H => m = xs.length - i ∧ i ≤ xs.length ∧ Pv i H, ⟨_, rfl, Nat.zero_le _, h0⟩, ?_⟩
  rintro i m H ⟨rfl, hi, p⟩
  have q := hl i H hi p
  rcases Nat.lt_or_ge i xs.length with lt | ge
  · refine .inr ⟨Y.go i H lt q, Pv (i + 1), fun H' p' => ⟨xs.length - (i + 1), by omega, rfl, lt, p'⟩, fun x H' y => ?_⟩
    obtain ⟨e, hx⟩ := Y.yld i H x H' lt q y
    rw [e]
    exact hs i x H hx p
  · obtain rfl : i = xs.length := Nat.le_antisymm hi ge
    exact .inl ⟨Y.stop H q, hd H p⟩

section
variable [Wo] {K : PySem.W.Frag} {cl : Nat → Addr} {p q r : Bool} {M M1 M2 M3 M4 : ML} {G G1 G2 G3 H H1 H2 H3 : Hp} {σ : St} {ta tb tc te tl : TE} {tx : TA} {tt tu : TT} {d d1 d2 d3 : D} {ds es : List D}
variable {a : Addr} {ep : Nat} {kvs : NKV} {kds : List (NestedKey × D)} {nx : St → Hp → Prop} {rt : VK} {bk ct : St → Hp → Prop} {vs : List V} {g : TG} {tg : TS}
/-- for k in d, d a dict of tuples that the loop does not change -/
theorem s_forN {tb : TS} (J : Nat → St → Hp → ML → Prop) (S : Sep G H M) (h : EvX K cl p tl σ G M (.loc a) M1) (hm : At M1 a (nD a ep kvs)) (hr : NRep K cl G kvs kds) (h0 : ∀ G' H', Go p M M1 G H G' H' → J 0 σ G' M1)
    (hk : ∀ i σ' G' M', J i σ' G' M' → At M' a (nD a ep kvs))
    (hs : ∀ G2, Same G G2 → ∀ i x e σ' G' H' M', kds[i]? = some e → Same G2 G' → Sep G' H' M' → Rep K cl G' x (keyD e.1) → J i σ' G' M' → g x σ' H' fun σ2 H2 => tb ⟨Nx G2 J (i + 1), rt, nx, Nx G2 J (i + 1)⟩ σ2 H2)
    (hd : ∀ σ' G' H' M', Same G G' → Sep G' H' M' → J kds.length σ' G' M' → nx σ' H') : tFor (iNKeys tl) g tb ⟨nx, rt, bk, ct⟩ σ H :=
  h G H (Same.refl _) S _ fun x G2 H2 g2 rx => by
    have rs := (hr.mono g2.same).refs
    have hl : (refsOf kvs).length = kds.length := by rw [List.length_map, hr.length]
    refine ⟨a, ep, kvs, rx.of_loc, g2.sep.look hm, for_y yields_nd (Nx G2 J) ⟨G2, M1, Same.refl _, g2.sep, h0 G2 H2 g2⟩ ?_ ?_ ?_⟩
    · rintro i σ' H' hi ⟨G', M', s', S', j⟩
      exact S'.look (hk _ _ _ _ j)
    · rintro i y σ' H' hy ⟨G', M', s', S', j⟩
      obtain ⟨d, hd', rd⟩ := rs.get hy
      rw [List.getElem?_map] at hd'
      cases he : kds[i]? with
      | none => rw [he] at hd'; cases hd'
      | some e =>
        rw [he] at hd'
        have hd2 : keyD e.1 = d := Option.some.inj hd'
        subst hd2
        exact hs G2 g2.same i y e σ' G' H' M' he s' S' (rd.mono s') j
    · rintro σ' H' ⟨G', M', s', S', j⟩
      rw [hl] at j
      exact hd σ' G' H' M' (g2.same.trans s') S' j
/-- for x in xs, xs an owned list that the loop does not change -/
theorem s_forM {tb : TS} (J : Nat → St → Hp → ML → Prop) (S : Sep G H M) (h : EvX K cl p tl σ G M (.loc a) M1) (hm : At M1 a (.lst vs)) (hr : Reps K cl G vs ds) (h0 : ∀ G' H', Go p M M1 G H G' H' → J 0 σ G' M1)
    (hk : ∀ i σ' G' M', J i σ' G' M' → At M' a (.lst vs))
    (hs : ∀ G2, Same G G2 → ∀ i x d σ' G' H' M', ds[i]? = some d → Same G2 G' → Sep G' H' M' → Rep K cl G' x d → J i σ' G' M' → g x σ' H' fun σ2 H2 => tb ⟨Nx G2 J (i + 1), rt, nx, Nx G2 J (i + 1)⟩ σ2 H2)
    (hd : ∀ σ' G' H' M', Same G G' → Sep G' H' M' → J ds.length σ' G' M' → nx σ' H') : tFor (iSeq K tl) g tb ⟨nx, rt, bk, ct⟩ σ H :=
  .inl (h G H (Same.refl _) S _ fun x G2 H2 g2 rx => by
    have rs := hr.mono g2.same
    refine ⟨a, rx.of_loc, ⟨vs, .inl (.inl (g2.sep.look hm))⟩, for_y (yields_lst (xs := vs)) (Nx G2 J) ⟨G2, M1, Same.refl _, g2.sep, h0 G2 H2 g2⟩ ?_ ?_ ?_⟩
    · rintro i σ' H' hi ⟨G', M', s', S', j⟩
      exact .inl (.inl (S'.look (hk _ _ _ _ j)))
    · rintro i y σ' H' hy ⟨G', M', s', S', j⟩
      obtain ⟨d, hd', rd⟩ := rs.get hy
      exact hs G2 g2.same i y d σ' G' H' M' hd' s' S' (rd.mono s') j
    · rintro σ' H' ⟨G', M', s', S', j⟩
      rw [rs.length] at j
      exact hd σ' G' H' M' (g2.same.trans s') S' j)
/-- a comprehension over things that stay as they are -/
theorem ev_lcY {vs : List Nat} {f : D → D} {keep : D → Bool} {J : It} {us : List V} {ok : Hp → Prop} (Y : Yields J us ok) (hok : ∀ e G' H', Same G G' → Sep G' H' (e :: M1) → ok H') (rs : Reps K cl G us ds) (hl : ds.length ≤ 10000000) (sG : Same G G2) (S2 : Sep G2 H2 M1)
    (hs : ∀ G1 e x d, Same G G1 → d ∈ ds → Rep K cl G1 x d → LcT K cl g tt te vs σ G1 (e :: M1) x (keep d) (f d)) {Q : VK} (k : ∀ v G' H', Go false M1 M1 G2 H2 G' H' → Rep K cl G' v (.lst ((ds.filter keep).map f)) → Q v H') :
    ∀ Da, H2 Da = none → ∃ W : Nat → Nat → Hp → Prop, (∃ m, W 0 m (upd H2 Da (.lst []))) ∧ ∀ i m H, W i m H →
      (J.stop i H ∧ Q (.ref Da) H) ∨ (J.go i H ∧ ∃ Nx : Hp → Prop, (∀ H', Nx H' → ∃ m', m' < m ∧ W (i + 1) m' H') ∧ ∀ x H', J.yld i H x H' → g x (wipe σ vs) H' fun σ2 H2 => wipe σ2 vs = wipe σ vs ∧ tt σ2 H2 fun b H3 =>
        if b = true then te σ2 H3 fun y H4 => ∃ acc, H4 Da = some (.lst acc) ∧ acc.length < sizeLine ∧ Nx (upd H4 Da (.lst (acc ++ [y]))) else Nx H3) := fun Da hD => by
  refine lc_y Y (fun i H => ∃ G' acc, Same G2 G' ∧ Sep G' H ((Da, .lst acc) :: M1) ∧ Reps K cl G' acc (((ds.take i).filter keep).map f)) ⟨G2, [], Same.refl _, S2.newM hD, Reps.nil⟩ ?_ ?_ ?_
  · rintro i H hi ⟨G', acc, s', S', ra⟩
    exact hok _ G' H (sG.trans s') S'
  · rintro i x H hx ⟨G', acc, s', S', ra⟩
    obtain ⟨d, hdi, rd⟩ := rs.get hx
    obtain ⟨σ2, p', q', hw, hg, ht, he⟩ := hs G' (Da, .lst acc) x d (sG.trans s') (List.mem_of_getElem? hdi) (rd.mono (sG.trans s'))
    refine hg H _ S' ⟨hw, ht G' H (Same.refl _) S' _ fun G3 H3 g3 => ?_⟩
    have e1 : ds.take (i + 1) = ds.take i ++ [d] := by rw [List.take_add_one, hdi]; rfl
    have hal : acc.length ≤ ds.length := by
      rw [ra.length, List.length_map]
      exact Nat.le_trans (List.length_filter_le _ _) (by rw [List.length_take]; omega)
    cases hk : keep d with
    | true =>
      rw [if_pos rfl]
      refine he hk G3 H3 g3.same g3.sep _ fun y G4 H4 g4 ry => ?_
      have sA := g3.same.trans g4.same
      refine ⟨acc, g4.sep.look .hd, Nat.lt_of_le_of_lt (Nat.le_trans hal hl) (by decide), G4, acc ++ [y], s'.trans sA, g4.sep.ch .hd, ?_⟩
      rw [e1, List.filter_append, List.map_append]
      refine Reps.append (ra.mono sA) ?_
      rw [List.filter_cons, if_pos hk]
      exact Reps.one ry
    | false =>
      rw [if_neg (by decide)]
      refine ⟨G3, acc, s'.trans g3.same, g3.sep, ?_⟩
      rw [e1, List.filter_append, List.map_append, List.filter_cons, if_neg (by rw [hk]; decide)]
      show Reps K cl G3 acc (_ ++ [])
      rw [List.append_nil]
      exact ra.mono g3.same
  · rintro H ⟨G', acc, s', S', ra⟩
    rw [rs.length, List.take_length] at ra
    obtain ⟨S3, s3⟩ := S'.freeze
    exact k (.ref Da) _ H (Go.of (s'.trans s3) S3) (Rep.lst (.inl (.inl upd_same)) (ra.mono s3))
theorem ev_lcN {vs : List Nat} {f : D → D} {keep : D → Bool} (h : EvX K cl p tl σ G M (.loc a) M1) (hm : At M1 a (nD a ep kvs)) (hr : NRep K cl G kvs kds) (hl : kds.length ≤ 10000000)
    (hs : ∀ G1 e x d, Same G G1 → d ∈ kds.map (fun e => keyD e.1) → Rep K cl G1 x d → LcT K cl g tt te vs σ G1 (e :: M1) x (keep d) (f d)) : EvX K cl false (tLc (iNKeys tl) g tt te vs) σ G M (.lst (((kds.map fun e => keyD e.1).filter keep).map f)) M1 := fun G1 H1 s S Q k =>
  h G1 H1 s S _ fun x G2 H2 g2 rx => ⟨a, ep, kvs, rx.of_loc, g2.sep.look hm, ev_lcY yields_nd (fun e G' H' _ S' => S'.look (.tl hm)) hr.refs (by rw [List.length_map]; exact hl) (s.trans g2.same) g2.sep hs fun v G' H' g' rv => k v G' H' (Go.of (g2.same.trans g'.same) g'.sep) rv⟩
theorem ev_lcM {us : List V} {vs : List Nat} {f : D → D} {keep : D → Bool} (h : EvX K cl p tl σ G M (.loc a) M1) (hm : At M1 a (.lst us)) (hr : Reps K cl G us ds) (hl : ds.length ≤ 10000000)
    (hs : ∀ G1 e x d, Same G G1 → d ∈ ds → Rep K cl G1 x d → LcT K cl g tt te vs σ G1 (e :: M1) x (keep d) (f d)) : EvX K cl false (tLc (iSeq K tl) g tt te vs) σ G M (.lst ((ds.filter keep).map f)) M1 := fun G1 H1 s S Q k =>
  .inl (h G1 H1 s S _ fun x G2 H2 g2 rx => ⟨a, rx.of_loc, ⟨us, .inl (.inl (g2.sep.look hm))⟩, ev_lcY (yields_lst (xs := us)) (fun e G' H' _ S' => .inl (.inl (S'.look (.tl hm)))) hr hl (s.trans g2.same) g2.sep hs fun v G' H' g' rv => k v G' H' (Go.of (g2.same.trans g'.same) g'.sep) rv⟩)

/-! ### sorted(), list() -/
theorem sortZ_reps {G : Hp} {us : List V} (r : Reps K cl G us ds) : Reps K cl G ((sortZ (us.zip ds)).map (·.1)) (ds.mergeSort leD) := by
  have h := zip_reps (zs := sortZ (us.zip ds)) (K := K) (cl := cl) (G := G) fun z hz => reps_zip r z ((List.mergeSort_perm _ _).mem_iff.mp hz)
  rw [sortZ_snd, zip_snd r] at h
  exact h
theorem on_sort (hd : D.areDat ds = true) (so : Sorts (ds.map D.pyd)) : OpN K cl false (rSortA K cl) M [.lst ds] (.lst (ds.mergeSort leD)) M := fun G1 H1 S us ru Q k => by
  obtain ⟨u, rfl, hu⟩ := reps1 ru
  obtain ⟨a, vs, rfl, sq, rs⟩ := hu.of_lst
  exact .inl ⟨a, vs, ds, rfl, S.sub.seq sq, rs.mono S.sub, hd, so, fun l hl => k _ _ _ (Go.of (Same.upd (S.freshG hl)) (S.newG hl)) (Rep.lst (.inl (.inl upd_same)) ((sortZ_reps rs).mono (Same.upd (S.freshG hl))))⟩
theorem ev_sortM (ha : EvX K cl p ta σ G M (.loc a) M1) (hm : At M1 a (.lst vs)) (hr : Reps K cl G vs ds) (hd : D.areDat ds = true) (so : Sorts (ds.map D.pyd)) : EvX K cl false (tCB (rSortA K cl) (tCons ta tNil)) σ G M (.lst (ds.mergeSort leD)) M1 := fun G1 H1 s S Q k =>
  ha G1 H1 s S _ fun x G2 H2 g2 rx => by
    rw [rx.of_loc]
    have rs := hr.mono (s.trans g2.same)
    exact .inl ⟨a, vs, ds, rfl, .inl (.inl (g2.sep.look hm)), rs.mono g2.sep.sub, hd, so, fun l hl => k _ _ _ (Go.of (g2.same.trans (Same.upd (g2.sep.freshG hl))) (g2.sep.newG hl)) (Rep.lst (.inl (.inl upd_same)) ((sortZ_reps rs).mono (Same.upd (g2.sep.freshG hl))))⟩
theorem ev_sortN (ha : EvX K cl p ta σ G M (.loc a) M1) (hm : At M1 a (nD a ep kvs)) (hr : NRep K cl G kvs kds) (hd : ∀ e ∈ kds, (keyD e.1).isDat = true) (so : Sorts (kds.map fun e => (keyD e.1).pyd)) : EvX K cl false (tCB (rSortA K cl) (tCons ta tNil)) σ G M (.lst ((kds.map fun e => keyD e.1).mergeSort leD)) M1 := fun G1 H1 s S Q k =>
  ha G1 H1 s S _ fun x G2 H2 g2 rx => by
    rw [rx.of_loc]
    have rs := hr.mono (s.trans g2.same)
    have e1 := rs.fst
    have e2 : (kvs.map fun e => (keyD e.1).pyd) = kds.map fun e => (keyD e.1).pyd := by
      have h := congrArg (List.map D.pyd) e1
      rw [List.map_map, List.map_map] at h
      exact h
    refine .inr ⟨a, ep, kvs, rfl, g2.sep.look hm, (rs.mono g2.sep.sub).keys, fun e he => ?_, by rw [e2]; exact so, fun l hl => k _ _ _ (Go.of (g2.same.trans (Same.upd (g2.sep.freshG hl))) (g2.sep.newG hl)) (Rep.lst (.inl (.inl upd_same)) (rs.sorted.mono (Same.upd (g2.sep.freshG hl))))⟩
    have h1 : keyD e.1 ∈ kvs.map fun e => keyD e.1 := List.mem_map.mpr ⟨e, he, rfl⟩
    rw [e1] at h1
    obtain ⟨f, hf, q⟩ := List.mem_map.mp h1
    rw [← q]
    exact hd f hf
theorem ev_listN (ha : EvX K cl p ta σ G M (.loc a) M1) (hm : At M1 a (nD a ep kvs)) (hr : NRep K cl G kvs kds) : EvX K cl false (tCB rListN (tCons ta tNil)) σ G M (.lst (kds.map fun e => keyD e.1)) M1 := fun G1 H1 s S Q k =>
  ha G1 H1 s S _ fun x G2 H2 g2 rx => by
    rw [rx.of_loc]
    have rs := (hr.mono (s.trans g2.same)).refs
    exact ⟨a, ep, kvs, rfl, g2.sep.look hm, fun l hl => k _ _ _ (Go.of (g2.same.trans (Same.upd (g2.sep.freshG hl))) (g2.sep.newG hl)) (Rep.lst (.inl (.inl upd_same)) (rs.mono (Same.upd (g2.sep.freshG hl))))⟩
end
end Cp
/-! Cp9: calls of defs and methods that change owned cells. -/
namespace Cp
open PySem L2
section
variable {K : PySem.W.Frag} {cl : Nat → Addr} {p q r : Bool} {M M1 M2 M3 M4 : ML} {G G1 G2 G3 H H1 H2 H3 : Hp} {σ : St} {ta tb tc te tl : TE} {tx : TA} {tt tu : TT} {d d1 d2 d3 : D} {ds es : List D}
abbrev RG := List V → Hp → ML → (V → Hp → ML → Prop) → Prop
/-- a def over cells in an order of its own -/
theorem eg_callP {R : RG} {E : XK} {F : V → Hp → ML → Prop} (ha : EvA K cl p tx σ G M ds M1) (pm : M1.Perm M2)
    (hR : ∀ vs G' (T : V → Hp → ML → Prop), Same G G' → Reps K cl G' vs ds → (∀ v G'' M'', Same G' G'' → F v G'' M'' → T v G'' M'') → R vs G' M2 T) : EvG (tCall (GSp R) [] E tx) σ G M F := fun G1 H1 s S Q k =>
  ha G1 H1 s S _ fun xs G2 H2 g2 rx => ⟨G2, M2, g2.sep.perm pm, by
    rw [List.append_nil]
    refine hR xs G2 _ (s.trans g2.same) rx fun v G'' M'' s'' hF sm H' S' => k v G'' H' M'' (g2.same.trans sm) S' hF⟩
theorem ev_callP {R : RG} {E : XK} (ha : EvA K cl p tx σ G M ds M1) (pm : M1.Perm M2) (pm' : M3.Perm M4)
    (hR : ∀ vs G' (T : V → Hp → ML → Prop), Same G G' → Reps K cl G' vs ds → (∀ v G'', Same G' G'' → Rep K cl G'' v d → T v G'' M3) → R vs G' M2 T) : EvX K cl false (tCall (GSp R) [] E tx) σ G M d M4 := fun G1 H1 s S Q k =>
  ha G1 H1 s S _ fun xs G2 H2 g2 rx => ⟨G2, M2, g2.sep.perm pm, by
    rw [List.append_nil]
    exact hR xs G2 _ (s.trans g2.same) rx fun v G'' s'' rv sm H' S' => k v G'' H' (Go.of (g2.same.trans s'') (S'.perm pm')) rv⟩
/-- a method of an owned instance -/
theorem eg_methP {R : RG} {E : XK} {F : V → Hp → ML → Prop} {C x dx : Addr} {fs : List (Str × V)} {m : Str} (he : EvX K cl p ta σ G M (.loc x) M1) (hm : At M1 x (.ins C dx fs)) (hn : fs.lookup m = none) (ha : EvA K cl q tx σ G M1 ds M2) (pm : M2.Perm M3)
    (hR : ∀ vs G' (T : V → Hp → ML → Prop), Same G G' → Reps K cl G' vs ds → (∀ v G'' M'', Same G' G'' → F v G'' M'' → T v G'' M'') → R (.ref x :: vs) G' M3 T) : EvG (tMeth C m (GSp R) [] E ta tx) σ G M F := fun G1 H1 s S Q k =>
  he G1 H1 s S _ fun y G2 H2 g2 ry => by
    obtain rfl := ry.of_loc
    exact ⟨x, dx, fs, rfl, g2.sep.look hm, hn, ha G2 H2 (s.trans g2.same) g2.sep _ fun xs G3 H3 g3 rxs => ⟨G3, M3, g3.sep.perm pm, by
      rw [List.append_nil]
      exact hR xs G3 _ ((s.trans g2.same).trans g3.same) rxs fun v G'' M'' s'' hF sm H' S' => k v G'' H' M'' ((g2.same.trans g3.same).trans sm) S' hF⟩⟩
theorem ev_methP {R : RG} {E : XK} {C x dx : Addr} {fs : List (Str × V)} {m : Str} (he : EvX K cl p ta σ G M (.loc x) M1) (hm : At M1 x (.ins C dx fs)) (hn : fs.lookup m = none) (ha : EvA K cl q tx σ G M1 ds M2) (pm : M2.Perm M3) (pm' : M.Perm M4)
    (hR : ∀ vs G' (T : V → Hp → ML → Prop), Same G G' → Reps K cl G' vs ds → (∀ v G'', Same G' G'' → Rep K cl G'' v d → T v G'' M4) → R (.ref x :: vs) G' M3 T) : EvX K cl false (tMeth C m (GSp R) [] E ta tx) σ G M d M4 := fun G1 H1 s S Q k =>
  he G1 H1 s S _ fun y G2 H2 g2 ry => by
    obtain rfl := ry.of_loc
    exact ⟨x, dx, fs, rfl, g2.sep.look hm, hn, ha G2 H2 (s.trans g2.same) g2.sep _ fun xs G3 H3 g3 rxs => ⟨G3, M3, g3.sep.perm pm, by
      rw [List.append_nil]
      exact hR xs G3 _ ((s.trans g2.same).trans g3.same) rxs fun v G'' s'' rv sm H' S' => k v G'' H' (Go.of ((g2.same.trans g3.same).trans sm) S') rv⟩⟩
/-- a new instance whose __init__ lays cells of its own -/
theorem eg_makeG {R : RG} {E : XK} {C : Addr} {F : V → Hp → ML → Prop} (ha : EvA K cl p tx σ G M ds M1)
    (hR : ∀ x dx vs G' (T : V → Hp → ML → Prop), Same G G' → Reps K cl G' vs ds → (∀ G'' M'', Same G' G'' → F (.ref x) G'' M'' → T .non G'' M'') → R (.ref x :: vs) G' ((x, .ins C dx []) :: M1) T) : EvG (tMake C (GSp R) [] E tx) σ G M F := fun G1 H1 s S Q k =>
  ha G1 H1 s S _ fun xs G2 H2 g2 rx => fun x dx nx ndx ne => by
    have ndG := g2.sep.freshG ndx
    have S1 : Sep (upd G2 dx (.own x)) (upd H2 dx (.own x)) M1 := g2.sep.newG ndx
    have nx' : upd H2 dx (.own x) x = none := by rw [upd_ne ne.symm]; exact nx
    have S2 := S1.newM (o := .ins C dx []) nx'
    have s2 : Same G2 (upd G2 dx (.own x)) := Same.upd ndG
    refine ⟨_, _, S2, ?_⟩
    rw [List.append_nil]
    exact hR x dx xs _ _ ((s.trans g2.same).trans s2) (rx.mono s2) fun G'' M'' s'' hF sm H' S' => ⟨rfl, k (.ref x) G'' H' M'' ((g2.same.trans s2).trans sm) S' hF⟩
/-- self.f = e, a new field, e something that is laid -/
theorem s_fldGN {a C dx : Addr} {ns : List Str} {vs : List V} {f : Str} {tv : TE} {F : V → Hp → ML → Prop} {nx : St → Hp → Prop} {rt : VK} {bk ct : St → Hp → Prop} (S : Sep G H M) (hv : EvG tv σ G M F) (hc : Cls K C) (hn : NoAttr K C f) (hl : ns.length = vs.length) (hx : ns.contains f = false) (hk : ns.length < 1000)
    (k : ∀ v G' H' M', Same G G' → Sep G' H' M' → F v G' M' → ∃ p M2 M3, EvX K cl p ta σ G' M' (.loc a) M2 ∧ Ch M2 a (.ins C dx (ns.zip vs)) (.ins C dx ((ns ++ [f]).zip (vs ++ [v]))) M3 ∧ ∀ G'' H'', Same G' G'' → Sep G'' H'' M3 → nx σ H'') : sFld K ta tv f ⟨nx, rt, bk, ct⟩ σ H :=
  hv G H (Same.refl _) S _ fun v G2 H2 M2 s2 S2 hF => by
    obtain ⟨p, M3, M4, he, hch, kk⟩ := k v G2 H2 M2 s2 S2 hF
    refine he G2 H2 (Same.refl _) S2 _ fun x G3 H3 g3 rx => ?_
    refine ⟨a, C, dx, _, rx.of_loc, g3.sep.look hch.at, hc, hn, by rw [List.length_zip]; omega, kk G3 _ g3.same ?_⟩
    rw [putF_zip_new hl hx]
    exact g3.sep.ch hch
end

section
variable [Wo] {K : PySem.W.Frag} {cl : Nat → Addr} {p q r : Bool} {M M1 M2 M3 M4 : ML} {G G1 G2 G3 H H1 H2 H3 : Hp} {σ : St} {ta tb tc te tl : TE} {tx : TA} {tt tu : TT} {d d1 d2 d3 : D} {ds es : List D}
variable {a : Addr} {ep : Nat} {kvs : NKV} {kds : List (NestedKey × D)} {g : TG}
/-- the same, told by what the things stand for -/
theorem ev_lcZ {β : Type} {l : List β} {enc : β → D} {vs : List Nat} {f : β → D} {keep : β → Bool} {J : It} {us : List V} {ok : Hp → Prop} (Y : Yields J us ok) (hok : ∀ e G' H', Same G G' → Sep G' H' (e :: M1) → ok H') (rs : Reps K cl G us (l.map enc)) (hl : l.length ≤ 10000000) (sG : Same G G2) (S2 : Sep G2 H2 M1)
    (hs : ∀ G1 e x b, Same G G1 → b ∈ l → Rep K cl G1 x (enc b) → LcT K cl g tt te vs σ G1 (e :: M1) x (keep b) (f b)) {Q : VK} (k : ∀ v G' H', Go false M1 M1 G2 H2 G' H' → Rep K cl G' v (.lst ((l.filter keep).map f)) → Q v H') :
    ∀ Da, H2 Da = none → ∃ W : Nat → Nat → Hp → Prop, (∃ m, W 0 m (upd H2 Da (.lst []))) ∧ ∀ i m H, W i m H →
      (J.stop i H ∧ Q (.ref Da) H) ∨ (J.go i H ∧ ∃ Nx : Hp → Prop, (∀ H', Nx H' → ∃ m', m' < m ∧ W (i + 1) m' H') ∧ ∀ x H', J.yld i H x H' → g x (wipe σ vs) H' fun σ2 H2 => wipe σ2 vs = wipe σ vs ∧ tt σ2 H2 fun b H3 =>
        if b = true then te σ2 H3 fun y H4 => ∃ acc, H4 Da = some (.lst acc) ∧ acc.length < sizeLine ∧ Nx (upd H4 Da (.lst (acc ++ [y]))) else Nx H3) := fun Da hD => by
  refine lc_y Y (fun i H => ∃ G' acc, Same G2 G' ∧ Sep G' H ((Da, .lst acc) :: M1) ∧ Reps K cl G' acc (((l.take i).filter keep).map f)) ⟨G2, [], Same.refl _, S2.newM hD, Reps.nil⟩ ?_ ?_ ?_
  · rintro i H hi ⟨G', acc, s', S', ra⟩
    exact hok _ G' H (sG.trans s') S'
  · rintro i x H hx ⟨G', acc, s', S', ra⟩
    obtain ⟨d, hdi', rd'⟩ := rs.get hx
    rw [List.getElem?_map] at hdi'
    obtain ⟨b, hdi, rfl⟩ := Option.map_eq_some_iff.mp hdi'
    have rd := rd'
    obtain ⟨σ2, p', q', hw, hg, ht, he⟩ := hs G' (Da, .lst acc) x b (sG.trans s') (List.mem_of_getElem? hdi) (rd.mono (sG.trans s'))
    refine hg H _ S' ⟨hw, ht G' H (Same.refl _) S' _ fun G3 H3 g3 => ?_⟩
    have e1 : l.take (i + 1) = l.take i ++ [b] := by rw [List.take_add_one, hdi]; rfl
    have hal : acc.length ≤ l.length := by
      rw [ra.length, List.length_map]
      exact Nat.le_trans (List.length_filter_le _ _) (by rw [List.length_take]; omega)
    cases hk : keep b with
    | true =>
      rw [if_pos rfl]
      refine he hk G3 H3 g3.same g3.sep _ fun y G4 H4 g4 ry => ?_
      have sA := g3.same.trans g4.same
      refine ⟨acc, g4.sep.look .hd, Nat.lt_of_le_of_lt (Nat.le_trans hal hl) (by decide), G4, acc ++ [y], s'.trans sA, g4.sep.ch .hd, ?_⟩
      rw [e1, List.filter_append, List.map_append]
      refine Reps.append (ra.mono sA) ?_
      rw [List.filter_cons, if_pos hk]
      exact Reps.one ry
    | false =>
      rw [if_neg (by decide)]
      refine ⟨G3, acc, s'.trans g3.same, g3.sep, ?_⟩
      rw [e1, List.filter_append, List.map_append, List.filter_cons, if_neg (by rw [hk]; decide)]
      show Reps K cl G3 acc (_ ++ [])
      rw [List.append_nil]
      exact ra.mono g3.same
  · rintro H ⟨G', acc, s', S', ra⟩
    rw [rs.length, List.length_map, List.take_length] at ra
    obtain ⟨S3, s3⟩ := S'.freeze
    exact k (.ref Da) _ H (Go.of (s'.trans s3) S3) (Rep.lst (.inl (.inl upd_same)) (ra.mono s3))
theorem ev_lcNG {vs : List Nat} {f : NestedKey × D → D} {keep : NestedKey × D → Bool} (h : EvX K cl p tl σ G M (.loc a) M1) (hm : At M1 a (nD a ep kvs)) (hr : NRep K cl G kvs kds) (hl : kds.length ≤ 10000000)
    (hs : ∀ G1 e x b, Same G G1 → b ∈ kds → Rep K cl G1 x (keyD b.1) → LcT K cl g tt te vs σ G1 (e :: M1) x (keep b) (f b)) : EvX K cl false (tLc (iNKeys tl) g tt te vs) σ G M (.lst ((kds.filter keep).map f)) M1 := fun G1 H1 s S Q k =>
  h G1 H1 s S _ fun x G2 H2 g2 rx => ⟨a, ep, kvs, rx.of_loc, g2.sep.look hm, ev_lcZ (enc := fun e : NestedKey × D => keyD e.1) yields_nd (fun e G' H' _ S' => S'.look (.tl hm)) hr.refs hl (s.trans g2.same) g2.sep hs fun v G' H' g' rv => k v G' H' (Go.of (g2.same.trans g'.same) g'.sep) rv⟩
theorem ev_lcG {β : Type} {l : List β} {enc : β → D} {vs : List Nat} {f : β → D} {keep : β → Bool} (h : EvX K cl p tl σ G M d1 M1) (hd : d1 = .lst (l.map enc)) (hl : l.length ≤ 10000000)
    (hs : ∀ G1 e x b, Same G G1 → b ∈ l → Rep K cl G1 x (enc b) → LcT K cl g tt te vs σ G1 (e :: M1) x (keep b) (f b)) : EvX K cl false (tLc (iSeq K tl) g tt te vs) σ G M (.lst ((l.filter keep).map f)) M1 := fun G1 H1 s S Q k =>
  .inl (h G1 H1 s S _ fun x G2 H2 g2 rx => by
    rw [hd] at rx
    obtain ⟨a, us, e, sq, rs⟩ := rx.of_lst
    exact ⟨a, e, ⟨us, g2.sep.sub.seq sq⟩, ev_lcZ (G := G2) (yields_lst (xs := us)) (fun e G' H' s' S' => (s'.trans S'.sub).seq sq) rs hl (Same.refl _) g2.sep (fun G3 e x b s3 => hs G3 e x b ((s.trans g2.same).trans s3)) fun v G' H' g' rv => k v G' H' (Go.of (g2.same.trans g'.same) g'.sep) rv⟩)
theorem reps_ints {G : Hp} : ∀ {us : List V} {ns : List Int}, Reps K cl G us (ns.map D.int) → us = ns.map V.int
  | us, [], h => by simpa only [List.map_nil, Reps] using h
  | us, n :: ns, h => by
    obtain ⟨v, ws, rfl, r1, r2⟩ := Reps.uncons h
    rw [r1.of_int, reps_ints r2]
    rfl
theorem on_sum {ns : List Int} : OpN K cl true (rSum K) M [.lst (ns.map D.int)] (.int ns.sum) M := on_val fun G1 H1 S us ru => by
  obtain ⟨u, rfl, hu⟩ := reps1 ru
  obtain ⟨a, vs, rfl, sq, rs⟩ := hu.of_lst
  refine ⟨_, Rep.int, fun Q q => ⟨a, ns, rfl, ?_, q⟩⟩
  rw [← reps_ints rs]
  exact S.sub.seq sq
/-- a test whose outcome is not told -/
theorem s_ifB {t u : TS} {nx : St → Hp → Prop} {rt : VK} {bk ct : St → Hp → Prop} (S : Sep G H M) (h : EvG te σ G M fun v G' M' => ∃ b, v = .bl b ∧ M' = M1) (h1 : ∀ G' H', Same G G' → Sep G' H' M1 → t ⟨nx, rt, bk, ct⟩ σ H') (h2 : ∀ G' H', Same G G' → Sep G' H' M1 → u ⟨nx, rt, bk, ct⟩ σ H') :
    tIfS (tTr K te) t u ⟨nx, rt, bk, ct⟩ σ H := h G H (Same.refl _) S _ fun v G' H' M' s' S' hb => by
  obtain ⟨b, rfl, rfl⟩ := hb
  refine ⟨b, rfl, ?_⟩
  cases b with
  | true => exact h1 G' H' s' S'
  | false => exact h2 G' H' s' S'
mutual
theorem eqb_key : ∀ a b : NestedKey, D.eqb (keyD a) (keyD b) = NestedKey.beq a b
  | .none, .none => by simp [keyD, D.eqb, NestedKey.beq]
  | .none, .num _ => by simp [keyD, D.eqb, NestedKey.beq]
  | .none, .text _ => by simp [keyD, D.eqb, NestedKey.beq]
  | .none, .tup _ => by simp [keyD, D.eqb, NestedKey.beq]
  | .num _, .none => by simp [keyD, D.eqb, NestedKey.beq]
  | .num a, .num b => by simp only [keyD, D.eqb, NestedKey.beq]; by_cases h : a = b <;> simp [h]
  | .num _, .text _ => by simp [keyD, D.eqb, NestedKey.beq]
  | .num _, .tup _ => by simp [keyD, D.eqb, NestedKey.beq]
  | .text _, .none => by simp [keyD, D.eqb, NestedKey.beq]
  | .text _, .num _ => by simp [keyD, D.eqb, NestedKey.beq]
  | .text a, .text b => by simp only [keyD, D.eqb, NestedKey.beq]; by_cases h : a = b <;> simp [h]
  | .text _, .tup _ => by simp [keyD, D.eqb, NestedKey.beq]
  | .tup _, .none => by simp [keyD, D.eqb, NestedKey.beq]
  | .tup _, .num _ => by simp [keyD, D.eqb, NestedKey.beq]
  | .tup _, .text _ => by simp [keyD, D.eqb, NestedKey.beq]
  | .tup a, .tup b => by simp only [keyD, D.eqb, NestedKey.beq]; exact eqbs_key a b
theorem eqbs_key : ∀ a b : List NestedKey, D.eqbs (keyDs a) (keyDs b) = NestedKey.beqAll a b
  | [], [] => by simp [keyDs, D.eqbs, NestedKey.beqAll]
  | [], _ :: _ => by simp [keyDs, D.eqbs, NestedKey.beqAll]
  | _ :: _, [] => by simp [keyDs, D.eqbs, NestedKey.beqAll]
  | a :: as, b :: bs => by simp only [keyDs, D.eqbs, NestedKey.beqAll]; rw [eqb_key a b, eqbs_key as bs]
end
theorem eqb_keyD (a b : NestedKey) : D.eqb (keyD a) (keyD b) = decide (a = b) := by rw [eqb_key, NestedKey.decide_eq]
end
end Cp
/-! Cp10: displays of dicts with ints and texts as keys; more of association lists. -/
namespace Cp
open PySem L2
section
variable {κ α : Type} [DecidableEq κ]
theorem valG_put {st : List (κ × α)} {k j : κ} {v : α} : valG (putG st k v) j = if k = j then some v else valG st j := by
  unfold putG
  cases h : (valG st k).isSome with
  | true =>
    simp only [if_true]
    induction st with
    | nil => simp [valG] at h
    | cons e st ih =>
      have un : ∀ (f : κ × α) (l : List (κ × α)) (i : κ), valG (f :: l) i = if f.1 = i then some f.2 else valG l i := by
        intro f l i
        unfold valG
        rw [List.find?_cons]
        by_cases q : f.1 = i
        · simp [q]
        · simp [q]
      rw [List.map_cons, un, un]
      by_cases q : e.1 = k
      · simp only [q, if_true]
        by_cases r : k = j
        · simp [r]
        · simp only [r, if_false]
          clear ih h
          induction st with
          | nil => rfl
          | cons f st ih2 =>
            rw [List.map_cons, un, un]
            by_cases q2 : f.1 = k
            · have : ¬ f.1 = j := fun z => r (q2 ▸ z)
              simp only [q2, if_true, r, if_false]
              exact ih2
            · simp only [q2, if_false]
              rw [ih2]
      · have h' : (valG st k).isSome = true := by
          rw [un, if_neg q] at h
          exact h
        have ih' := ih h'
        rw [if_neg q, ih']
        by_cases r : k = j
        · have : ¬ e.1 = j := fun z => q (z.trans r.symm)
          simp [r, this]
        · simp [r]
  | false =>
    simp only [Bool.false_eq_true, if_false]
    have hn : valG st k = none := by simpa using h
    unfold valG at hn ⊢
    rw [List.find?_append]
    by_cases r : k = j
    · subst r
      rw [Option.map_eq_none_iff] at hn
      rw [hn]
      simp
    · simp only [r, if_false]
      cases h2 : List.find? (fun x => decide (x.1 = j)) st with
      | some e => rfl
      | none => simp [r]
def mergeG (kds more : List (κ × α)) : List (κ × α) := more.foldl (fun acc e => putG acc e.1 e.2) kds
end
theorem KRep.merge {K : PySem.W.Frag} {cl : Nat → Addr} {G : Hp} : ∀ {more : List (Key × V)} {mds : List (Key × D)} {kws : List (Key × V)} {kes : List (Key × D)}, KRep K cl G more mds → KRep K cl G kws kes → KRep K cl G (mergeK kws more) (mergeG kes mds)
  | _, _, _, _, .nil, r => r
  | p :: more, q :: mds, kws, kes, .cons h t, r => by
    show KRep K cl G (mergeK (putK kws p.1 p.2) more) (mergeG (putG kes q.1 q.2) mds)
    rw [h.1]
    exact KRep.merge t (r.put h.2)
section
variable [Wo] {K : PySem.W.Frag} {cl : Nat → Addr} {p q r : Bool} {M M1 M2 M3 M4 : ML} {G G1 G2 G3 H H1 H2 H3 : Hp} {σ : St} {ta tb tc te tk tv : TE} {d d1 d2 d3 : D}
/-- the pairs of a display -/
def EvP (K : PySem.W.Frag) (cl : Nat → Addr) (trs : List (TE × TE)) (σ : St) (G : Hp) (M : ML) (kds : List (Key × D)) (M1 : ML) : Prop :=
  ∀ G1 H1, Same G G1 → Sep G1 H1 M → ∀ Q : List (V × V) → Hp → Prop, (∀ kvs G2 H2, Same G1 G2 → Sep G2 H2 M1 → KRep K cl G2 kvs kds → Q (kvs.map fun kv => (kV kv.1, kv.2)) H2) → tPairs trs σ H1 Q
theorem ep_nil : EvP K cl [] σ G M [] M := fun G1 H1 s S Q k => k [] G1 H1 (Same.refl _) S .nil
theorem ep_cons {trs : List (TE × TE)} {k : Key} {kds : List (Key × D)} (h1 : EvX K cl p tk σ G M d1 M1) (hk : d1 = kD k) (h2 : EvX K cl q tv σ G M1 d2 M2) (h3 : EvP K cl trs σ G M2 kds M3) : EvP K cl ((tk, tv) :: trs) σ G M ((k, d2) :: kds) M3 := fun G1 H1 s S Q kk =>
  h1 G1 H1 s S _ fun x G2 H2 g2 rx => h2 G2 H2 (s.trans g2.same) g2.sep _ fun y G3 H3 g3 ry => h3 G3 H3 ((s.trans g2.same).trans g3.same) g3.sep _ fun kvs G4 H4 s4 S4 r4 => by
    rw [hk] at rx
    have e := rep_kD rx
    subst e
    exact kk ((k, y) :: kvs) G4 H4 ((g2.same.trans g3.same).trans s4) S4 (.cons ⟨rfl, ry.mono s4⟩ r4)
/-- {k: v, ..} -/
theorem eg_disp {trs : List (TE × TE)} {kds : List (Key × D)} {F : V → Hp → ML → Prop} (h : ∀ u, EvP K cl trs σ G ((u, .dK []) :: M) kds ((u, .dK []) :: M1)) (hl : kds.length ≤ 15)
    (hF : ∀ u kws G', Same G G' → KRep K cl G' kws (mergeG [] kds) → F (.ref u) G' ((u, .dK kws) :: M1)) : EvG (tDisp trs) σ G M F := fun G1 H1 s S Q k => fun u hu =>
  h u G1 _ s (S.newM hu) _ fun kvs G2 H2 s2 S2 r2 => ⟨S2.look .hd, kvs, rfl, by rw [r2.length]; exact hl, k (.ref u) G2 _ _ s2 (S2.ch .hd) (hF u _ G2 (s.trans s2) (KRep.merge r2 .nil))⟩
end
end Cp
/-! Cp11: what is laid on the way: operations, tests, loops and unpackings over things told by a postcondition (EvG). -/
namespace Cp
open PySem L2
section
variable {K : PySem.W.Frag} {cl : Nat → Addr} {p q r : Bool} {M M1 M2 M3 M4 : ML} {G G1 G2 G3 H H1 H2 H3 : Hp} {σ : St} {ta tb tc te tl : TE} {tx : TA} {tt tu : TT} {d d1 d2 d3 : D} {ds es : List D}
variable {nx : St → Hp → Prop} {rt : VK} {bk ct : St → Hp → Prop} {g : TG} {tbd : TS}
abbrev FG := V → Hp → ML → Prop
/-- int(b), b a truth value that is not told -/
theorem eg_intB (h : EvG te σ G M fun v G' M' => ∃ b, v = .bl b ∧ M' = M1) : EvG (tCB rInt1 (tCons te tNil)) σ G M fun v G' M' => ∃ b : Bool, v = .int (if b then 1 else 0) ∧ M' = M1 := fun G1 H1 s S Q k =>
  h G1 H1 s S _ fun v G' H' M' s' S' hb => by
    obtain ⟨b, rfl, rfl⟩ := hb
    exact .inr ⟨b, rfl, k _ G' H' _ s' S' ⟨b, rfl, rfl⟩⟩
/-- a pure def of one argument, the argument laid on the way -/
theorem eg_pcall {R : List D → D → Prop} {E : XK} {F F2 : FG} (h : EvG te σ G M F) (hR : ∀ v G' M', Same G G' → F v G' M' → ∃ d d', Rep K cl G' v d ∧ R [d] d' ∧ ∀ w G'', Same G' G'' → Rep K cl G'' w d' → F2 w G'' M') : EvG (tCall (PSp K cl R) [] E (tCons te tNil)) σ G M F2 := fun G1 H1 s S Q k =>
  h G1 H1 s S _ fun v G2 H2 M2 s2 S2 hF => by
    obtain ⟨d, d', rv, hd, hk⟩ := hR v G2 M2 (s.trans s2) hF
    refine ⟨[d], d', G2, M2, hd, S2, by rw [List.append_nil]; exact Reps.one rv, fun w G' H' s' S' rw' => k w G' H' M2 (s2.trans s') S' (hk w G' s' rw')⟩
/-- a op b, a laid on the way -/
theorem eg_op {rr : R2} {F1 F : FG} (h1 : EvG ta σ G M F1) (h2 : ∀ v G1 M1, Same G G1 → F1 v G1 M1 → ∃ d1 d2 d p q M2, Rep K cl G1 v d1 ∧ EvX K cl p tb σ G1 M1 d2 M2 ∧ Op2 K cl q rr M2 d1 d2 d ∧ ∀ w G2, Same G1 G2 → Rep K cl G2 w d → F w G2 M2) : EvG (tOp rr ta tb) σ G M F := fun G1 H1 s S Q k =>
  h1 G1 H1 s S _ fun v G2 H2 M2 s2 S2 hF => by
    obtain ⟨d1, d2, d, p, q, M3, rv, he, ho, hk⟩ := h2 v G2 M2 (s.trans s2) hF
    exact he G2 H2 (Same.refl _) S2 _ fun y G3 H3 g3 ry => ho G3 H3 g3.sep v y (rv.mono g3.same) ry _ fun w G4 H4 g4 rw' => k w G4 H4 M3 ((s2.trans g3.same).trans g4.same) g4.sep (hk w G4 (g3.same.trans g4.same) rw')
/-- tests told by a postcondition -/
def EvU (tt : TT) (σ : St) (G : Hp) (M : ML) (F : Bool → Hp → ML → Prop) : Prop :=
  ∀ G1 H1, Same G G1 → Sep G1 H1 M → ∀ Q : Bool → Hp → Prop, (∀ b G2 H2 M2, Same G1 G2 → Sep G2 H2 M2 → F b G2 M2 → Q b H2) → tt σ H1 Q
theorem eu_of {b : Bool} {F : Bool → Hp → ML → Prop} (h : EvT K cl p tt σ G M b M1) (hF : ∀ G', Same G G' → F b G' M1) : EvU tt σ G M F := fun G1 H1 s S Q k => h G1 H1 s S _ fun G2 H2 g2 => k b G2 H2 M1 g2.same g2.sep (hF G2 (s.trans g2.same))
theorem eu_test {F : Bool → Hp → ML → Prop} (h : EvG te σ G M fun v G' M' => ∃ b, v = .bl b ∧ F b G' M') : EvU (tTest te) σ G M F := fun G1 H1 s S Q k => h G1 H1 s S _ fun v G2 H2 M2 s2 S2 hb => by
  obtain ⟨b, rfl, hb⟩ := hb
  exact ⟨b, rfl, k b G2 H2 M2 s2 S2 hb⟩
theorem eu_or {F1 F : Bool → Hp → ML → Prop} (h1 : EvU tt σ G M F1) (ht : ∀ G' M', Same G G' → F1 true G' M' → F true G' M') (hf : ∀ G' M', Same G G' → F1 false G' M' → EvU tu σ G' M' F) : EvU (tOr tt tu) σ G M F := fun G1 H1 s S Q k => h1 G1 H1 s S _ fun b G2 H2 M2 s2 S2 hb => by
  cases b with
  | true => exact k true G2 H2 M2 s2 S2 (ht G2 M2 (s.trans s2) hb)
  | false =>
    show tu σ H2 Q
    exact hf G2 M2 (s.trans s2) hb G2 H2 (Same.refl _) S2 Q fun b G3 H3 M3 s3 S3 hb3 => k b G3 H3 M3 (s2.trans s3) S3 hb3
theorem s_ifU {t u : TS} {F : Bool → Hp → ML → Prop} (S : Sep G H M) (h : EvU tt σ G M F) (h1 : ∀ G' H' M', Same G G' → Sep G' H' M' → F true G' M' → t ⟨nx, rt, bk, ct⟩ σ H') (h2 : ∀ G' H' M', Same G G' → Sep G' H' M' → F false G' M' → u ⟨nx, rt, bk, ct⟩ σ H') : tIfS tt t u ⟨nx, rt, bk, ct⟩ σ H :=
  h G H (Same.refl _) S _ fun b G2 H2 M2 s2 S2 hb => by
    cases b with
    | true => exact h1 G2 H2 M2 s2 S2 hb
    | false => exact h2 G2 H2 M2 s2 S2 hb
/-- a, b, .. = e, e laid on the way -/
theorem s_asgTG {F : FG} {is : List Nat} {n : Nat} (S : Sep G H M) (h : EvG te σ G M F) (k : ∀ v G1 H1 M1, Same G G1 → Sep G1 H1 M1 → F v G1 M1 → ∃ ds, Rep K cl G1 v (.tup ds) ∧ ds.length = n ∧ is.length = n ∧ ∀ vs, Reps K cl G1 vs ds → nx (setAll σ is vs) H1) : tAsg te (gTup K n (gNames is)) ⟨nx, rt, bk, ct⟩ σ H :=
  h G H (Same.refl _) S _ fun v G1 H1 M1 s1 S1 hF => by
    obtain ⟨ds, rv, hn, hi, kk⟩ := k v G1 H1 M1 s1 S1 hF
    exact g_tup S1 rv hn hi kk
/-- for x in e, e a list that is laid on the way -/
theorem s_forE {F : FG} (S : Sep G H M) (h : EvG tl σ G M F)
    (k : ∀ v G1 H1 M1, Same G G1 → Sep G1 H1 M1 → F v G1 M1 → ∃ (ds : List D) (J : Nat → St → Hp → ML → Prop), Rep K cl G1 v (.lst ds) ∧ J 0 σ G1 M1 ∧
      (∀ i x d σ' G' H' M', ds[i]? = some d → Same G1 G' → Sep G' H' M' → Rep K cl G' x d → J i σ' G' M' → g x σ' H' fun σ2 H2 => tbd ⟨Nx G1 J (i + 1), rt, nx, Nx G1 J (i + 1)⟩ σ2 H2) ∧
      (∀ σ' G' H' M', Same G1 G' → Sep G' H' M' → J ds.length σ' G' M' → nx σ' H')) : tFor (iSeq K tl) g tbd ⟨nx, rt, bk, ct⟩ σ H :=
  .inl (h G H (Same.refl _) S _ fun v G1 H1 M1 s1 S1 hF => by
    obtain ⟨ds, J, rv, h0, hs, hd⟩ := k v G1 H1 M1 s1 S1 hF
    obtain ⟨a, vs, e, sq, rs⟩ := rv.of_lst
    refine ⟨a, e, ⟨vs, S1.sub.seq sq⟩, for_list (xs := vs) (Nx G1 J) ⟨G1, M1, Same.refl _, S1, h0⟩ ?_ ?_ ?_⟩
    · rintro i σ' H' hi ⟨G', M', s', S', j⟩
      exact (s'.trans S'.sub).seq sq
    · rintro i y σ' H' hy ⟨G', M', s', S', j⟩
      obtain ⟨d, hd', rd⟩ := rs.get hy
      exact hs i y d σ' G' H' M' hd' s' S' (rd.mono s') j
    · rintro σ' H' ⟨G', M', s', S', j⟩
      rw [rs.length] at j
      exact hd σ' G' H' M' s' S' j)
end
end Cp
/-! Cp12: sorted(xs, key=f), f a pure def of the program. -/
namespace Cp
open PySem L2

section
variable {X : Cx} {cl : Nat → Addr} {pins : List (Addr × Obj)} {σ : St} {H : Hp} {s : Shared}
/-- the key's def, called from within list.sort -/
theorem key_call {k : Nat} {fa : Addr} {fd : FuncData} {ps : List Str} {sp : Sp} {Q : VK} {v : V} {u : Value} (F : FnOk X.prog X.w X.K X.mg X.base CX0 k fa fd ps sp) (hr : Room (k + 2) X.A) (hb : Binds X.K fd ps [])
    (I : Inv X pins σ H s) (r : RelV v u) (h : sp [v] H Q E0) : wpAny (model X.prog X.w) X.A.in1.in1 (call (.ref fa) [u]) (EP X pins σ Q) (fun _ _ => False) s := by
  have r1 : Vals [v] [u] := .cons r .nil
  have hl : ([u] ++ ([] : List Value)).length = ps.length := by
    rw [List.append_nil, ← r1.length]
    exact F.len _ _ _ _ h
  have hb' := hb s [u] I.kIn hl
  rw [List.append_nil] at hb'
  refine wpAny_call (codeAny_mono (F.run X.A.in1.in1 X.stack s H ⟨[u], []⟩ [u] [v] Q E0 (Room.in1 (Room.in1 hr)) I.env0.in1.in1 hb' r1 h) fun r s' hq => ?_)
  rcases r with e | (_ | _ | _ | w)
  · exact False.elim hq
  · exact False.elim hq
  · exact False.elim hq
  · exact False.elim hq
  · exact I.after hq
/-- the heap without the object at b -/
def sans (h : Heap) (b : Addr) : Heap := h.update b fun _ => { cls := .none, data := .freed }
theorem sans_ne {h : Heap} {b c : Addr} (n : c ≠ b) : (sans h b).get? c = h.get? c := Heap.get?_update_ne _ _ _ _ n
theorem sans_self {h : Heap} {b : Addr} : (sans h b).get? b = none := by
  obtain ⟨objs, l⟩ := h
  unfold sans Heap.update Heap.get?
  dsimp only
  rw [Array.getElem?_modify]
  cases objs[b]? with
  | none => simp
  | some o => simp
/-- the objects that the sort holds for itself -/
structure Own2 (X : Cx) (pins : List (Addr × Obj)) (H : Hp) (s : Shared) (b : Addr) (o : Obj) : Prop where
  there : s.heap.get? b = some o
  un : H b = none
  loc : b ≠ X.env.locals
  fs : b ∉ X.fs
  dat : ∀ v, o.data ≠ .cell v
  new : X.s_0.heap.objs.size ≤ b
  cell : ∀ x c, X.env.cells.lookup x = some c → c ≠ b
  pin : ∀ p ∈ X.pn ++ pins, p.1 ≠ b
theorem Own2.of {pins' : List (Addr × Obj)} (I : Inv X pins σ H s) {b : Addr} {o : Obj} (hb : s.heap.objs.size ≤ b) {s' : Shared} {H' : Hp} (e : s'.heap.get? b = some o) (hu : H' b = none) (hd : ∀ v, o.data ≠ .cell v) (hp : ∀ p ∈ pins', p ∈ pins) : Own2 X pins' H' s' b o := by
  refine ⟨e, hu, fun z => ?_, I.nofs hb, hd, Nat.le_trans I.sz hb, fun x c hc z => ?_, fun p hp' z => ?_⟩
  · have := I.lt
    rw [z] at hb
    exact absurd this (Nat.not_lt.mpr hb)
  · obtain ⟨v, o', ho', _⟩ := I.cell x c hc
    have := Heap.lt_size ho'
    rw [z] at this
    exact absurd this (Nat.not_lt.mpr hb)
  · have hp2 : p ∈ X.pn ++ pins := (List.mem_append.mp hp').elim (fun q => List.mem_append_left _ q) fun q => List.mem_append_right _ (hp p q)
    have h1 := (I.pin p hp2).1
    have := Heap.lt_size h1
    rw [z] at this
    exact absurd this (Nat.not_lt.mpr hb)
theorem seq_nocell {n : String} {xs : Array Value} {e : Nat} : ∀ v, (PyProof.Rows.seqObj n xs e).data ≠ .cell v := fun v z => by cases z
end

section
variable (K : PySem.W.Frag) (cl : Nat → Addr)
/-- sorted(xs, key=f): f at fa answers by R; the items l, laid as enc, their keys key -/
def rSortKey (fa : Addr) (R : List D → D → Prop) : List V → List V → Hp → VK → Prop := fun xs zs H Q => ∃ (a : Addr) (vs : List V) (β : Type) (l : List β) (enc key : β → D) (G : Hp) (M : ML),
  xs = [.ref a] ∧ zs = [.ref fa] ∧ Sep G H M ∧ SqL K H a vs ∧ Reps K cl G vs (l.map enc) ∧ (∀ b ∈ l, R [enc b] (key b)) ∧ D.areDat (l.map key) = true ∧ Sorts (l.map fun b => (key b).pyd) ∧
  ∀ G' H' ws p, Same G G' → Sep G' H' M → Reps K cl G' ws ((l.mergeSort (PySem.W.dataLe false fun b => (key b).pyd)).map enc) → H' p = none → Q (.ref p) (upd H' p (.lst ws))
end
theorem reps_mapT {K : PySem.W.Frag} {cl : Nat → Addr} {G : Hp} {β : Type} {enc : β → D} : ∀ {vs : List V} {l : List β}, Reps K cl G vs (l.map enc) → ∃ zs : List (V × β), vs = zs.map (·.1) ∧ l = zs.map (·.2) ∧ ∀ z ∈ zs, Rep K cl G z.1 (enc z.2)
  | vs, [], h => by
    simp only [List.map_nil, Reps] at h
    exact ⟨[], h, rfl, fun z hz => nomatch hz⟩
  | vs, b :: l, h => by
    rw [List.map_cons] at h
    obtain ⟨v, ws, rfl, r1, r2⟩ := h.uncons
    obtain ⟨zs, e1, e2, h3⟩ := reps_mapT r2
    refine ⟨(v, b) :: zs, by rw [e1]; rfl, by rw [e2]; rfl, fun z hz => ?_⟩
    rcases List.mem_cons.mp hz with rfl | hz
    · exact r1
    · exact h3 z hz
theorem each_of_vals {β : Type} : ∀ {zs : List (V × β)} {us : List Value}, Vals (zs.map (·.1)) us → PySem.W.EachIs (fun u (z : V × β) => RelV z.1 u) us zs
  | [], us, h => by
    cases h
    exact .nil
  | z :: zs, us, h => by
    cases h with
    | cons h1 h2 => exact .cons h1 (each_of_vals h2)
theorem each_back {β : Type} : ∀ {us : List Value} {zs : List (V × β)}, PySem.W.EachIs (fun u (z : V × β) => RelV z.1 u) us zs → Vals (zs.map (·.1)) us
  | _, _, .nil => .nil
  | _, _, .cons h t => .cons h (each_back t)
theorem vals_get {vs : List V} {us : List Value} (h : Vals vs us) : ∀ {i : Nat} {u : Value}, us[i]? = some u → ∃ v, vs[i]? = some v ∧ RelV v u := by
  induction h with
  | nil => intro i u e; simp at e
  | @cons v u vs us h t ih =>
    intro i w e
    cases i with
    | zero =>
      have : u = w := by simpa using e
      exact ⟨v, rfl, this ▸ h⟩
    | succ j => exact ih (by simpa using e)

theorem reps_reads {X : Cx} {cl : Nat → Addr} {pins : List (Addr × Obj)} {σ : St} {H : Hp} {s : Shared} (I : Inv X pins σ H s) : ∀ {vs : List V} {us : List Value} {ds : List D}, Reps X.K cl H vs ds → D.areDat ds = true → Vals vs us →
    PySem.W.EachIs (fun u d => ∃ as, Reads s.heap u d as) us (ds.map D.pyd)
  | vs, us, [], r, _, q => by
    simp only [Reps] at r
    subst r
    cases q
    exact .nil
  | vs, us, d :: ds, r, e, q => by
    obtain ⟨v, ws, rfl, r1, r2⟩ := r.uncons
    simp only [D.areDat, Bool.and_eq_true] at e
    cases q with
    | cons q1 q2 => exact .cons (reads_of I r1 e.1 q1) (reps_reads I r2 e.2 q2)

section
variable {X : Cx} {cl : Nat → Addr} {pins : List (Addr × Obj)} {σ : St} {H : Hp} {s : Shared}
theorem Own2.pinned {a b : Addr} {oa ob : Obj} (x : Own2 X pins H s a oa) (y : Own2 X pins H s b ob) (I : Inv X pins σ H s) : Inv X ((a, oa) :: (b, ob) :: pins) σ H s :=
  I.pins_of fun p hp => by
    rcases List.mem_cons.mp hp with rfl | hp
    · exact ⟨x.there, x.un, x.loc, x.fs, x.dat⟩
    · rcases List.mem_cons.mp hp with rfl | hp
      · exact ⟨y.there, y.un, y.loc, y.fs, y.dat⟩
      · exact I.pin p (List.mem_append_right _ hp)
theorem Inv.unpin2 {a b : Addr × Obj} (I : Inv X (a :: b :: pins) σ H s) : Inv X pins σ H s :=
  I.pins_of fun p hp => I.pin p (List.mem_append_right _ (List.mem_cons_of_mem _ (List.mem_cons_of_mem _ hp)))
theorem Own2.next {b : Addr} {ob o' : Obj} {H' : Hp} {s' : Shared} (y : Own2 X pins H s b ob) (e : s'.heap.get? b = some o') (n : H' b = none) (d : ∀ v, o'.data ≠ .cell v) : Own2 X pins H' s' b o' := ⟨e, n, y.loc, y.fs, d, y.new, y.cell, y.pin⟩
/-- the object at kS goes, the one at a is tracked from now on -/
theorem Inv.given {a kS : Addr} {oa ok : Obj} {o : HO} {h' : Heap} {t' : Nat} (I : Inv X pins σ H s) (x : Own2 X pins H s a oa) (y : Own2 X pins H s kS ok) (k : PySem.W.KeepsBut a (sans s.heap kS) h') (new : ObjOk X.prog X.w (upd H a o) h' a o) :
    Inv X pins σ (upd H a o) { s with heap := h', toks := t' } := by
  have kp : ∀ b u, b ≠ a → b ≠ kS → s.heap.get? b = some u → h'.get? b = some u := fun b u h1 h2 e => k b u h1 ((sans_ne h2).trans e)
  have nc : ∀ {b : Addr}, b ∉ [a, kS] → b ≠ a ∧ b ≠ kS := fun {b} hb => ⟨fun z => hb (by simp [z]), fun z => hb (by simp [z])⟩
  have tr : ∀ {b : Addr} {u : HO}, H b = some u → b ≠ a ∧ b ≠ kS := fun {b u} e => ⟨ne_of_none e x.un, ne_of_none e y.un⟩
  refine I.step (g' := s.gens) (d' := s.drawn) (ch := [a, kS]) (fun b hb => ?_) (fun b u _ _ hc e _ => kp b u (nc hc).1 (nc hc).2 e) (fun b u _ _ hc e _ => ⟨u.slots, kp b u (nc hc).1 (nc hc).2 e⟩)
    (fun b u hc _ n => by rw [upd_ne (nc hc).1]; exact n) (fun b u hc e => ⟨u, kp b u (nc hc).1 (nc hc).2 e⟩) (fun b xs e => by rw [upd_ne (tr e).1]; exact e) (fun b u xs e => by rw [upd_ne (tr e).1]; exact e)
    (fun b qs e => ⟨#[], by rw [upd_ne (tr e).1, e]; simp⟩) (fun m hm => ?_) (fun b u e => ?_) I.bare
  · have hb' : b = a ∨ b = kS := by simpa using hb
    rcases hb' with rfl | rfl
    · exact ⟨.inr x.new, x.loc, x.cell, x.pin⟩
    · exact ⟨.inr y.new, y.loc, y.cell, y.pin⟩
  · obtain ⟨u, es, ep, ho, r⟩ := hm
    exact ⟨u, es, ep, kp _ u (Ne.symm x.loc) (Ne.symm y.loc) ho, r⟩
  · by_cases hb : b = a
    · subst hb
      rw [upd_same] at e
      cases e
      exact new
    · rw [upd_ne hb] at e
      refine (I.hok b u e).stay (fun c v hc q => ?_) (fun c q => by rw [upd_ne (tr q).1]; exact q) fun c xs q => by rw [upd_ne (tr q).1]; exact q
      rcases hc with rfl | z
      · exact kp _ v (tr e).1 (tr e).2 q
      · exact kp _ v (tr z).1 (tr z).2 q
end

section
variable {X : Cx} {cl : Nat → Addr} {pins : List (Addr × Obj)} {σ : St} {H : Hp} {s : Shared} {β : Type} {zs : List (V × β)} {enc key : β → D} {R : List D → D → Prop} {k : Nat} {fa : Addr} {fd : FuncData} {ps : List Str} {G : Hp} {M : ML}
/-- the keys are made, then the items sorted by them -/
theorem key_rest (F : FnOk X.prog X.w X.K X.mg X.base CX0 k fa fd ps (PSp X.K cl R)) (hr : Room (k + 2) X.A) (hu : X.A.units + 64 < cLine) (hb : Binds X.K fd ps []) {vs : List Value} (ev : PySem.W.EachIs (fun u (z : V × β) => RelV z.1 u) vs zs) (rz : ∀ z ∈ zs, Rep X.K cl G z.1 (enc z.2)) (hR : ∀ z ∈ zs, R [enc z.2] (key z.2))
    (hd : D.areDat (zs.map fun z => key z.2) = true) (so : Sorts (zs.map fun z => (key z.2).pyd)) (hZ : vs.length ≤ sizeLine) {a kS : Addr} {e1 : Nat} (hka : kS ≠ a) (S : Sep G H M) (I : Inv X pins σ H s)
    (oa : Own2 X pins H s a (PyProof.Rows.seqObj "list" #[] e1)) (ok : Own2 X pins H s kS (PyProof.Rows.seqObj "list" #[] 0)) {P : PySem.Fin → Shared → Prop} {E : Value → Shared → Prop}
    (h : ∀ G' H' s', Same G G' → Sep G' H' M → H' a = none → Inv X pins σ (upd H' a (.lst ((zs.mergeSort (PySem.W.dataLe false fun z => (key z.2).pyd)).map (·.1)))) s' → P (.done (.ret .none)) s') :
    wpAny (model X.prog X.w) X.A.in1.in1 (PyProof.Rows.ksk_rest a (.ref fa) false vs.toArray e1 (.ref kS)) P E s := by
  have hzl : zs.length = vs.length := ev.length.symm
  unfold PyProof.Rows.ksk_rest
  refine wpAny_bind (wpAny_rule ?_)
  rw [List.forIn_toArray]
  refine wpAny_bind (PyProof.Rows.ksk_fold (fun i s' => ∃ G' H' ka e kvs, Same G G' ∧ Sep G' H' M ∧ Inv X pins σ H' s' ∧ Own2 X pins H' s' a (PyProof.Rows.seqObj "list" #[] e1) ∧ Own2 X pins H' s' kS (PyProof.Rows.seqObj "list" ka e) ∧ Vals kvs ka.toList ∧ Reps X.K cl G' kvs ((zs.take i).map fun z => key z.2)) vs 0 s
    ⟨G, H, #[], 0, [], Same.refl _, S, I.tok _, oa.next oa.there oa.un seq_nocell, ok.next ok.there ok.un seq_nocell, .nil, Reps.nil⟩ ?turn ?last)
  case turn =>
    rintro j x s' hx ⟨G', H', ka, e, kvs, s1, S1, I1, o1, o2, hv, rk⟩
    simp only [Nat.zero_add] at rk ⊢
    have hj : j < vs.length := (List.getElem?_eq_some_iff.mp hx).1
    obtain ⟨z, hz⟩ : ∃ z, zs[j]? = some z := ⟨_, List.getElem?_eq_getElem (by omega)⟩
    have hzm : z ∈ zs := List.mem_of_getElem? hz
    have rx : RelV z.1 x := ev.zip (x, z) (List.mem_of_getElem? (i := j) (by rw [List.getElem?_zip_eq_some]; exact ⟨hx, hz⟩))
    have hkl : ka.size ≤ vs.length := by
      have h1 := hv.length
      have h0 : ka.toList.length = ka.size := Array.length_toList
      rw [rk.length, List.length_map, List.length_take] at h1
      omega
    refine wpAny_bind (wpAny_attempt (wpAny_mono (key_call (pins := (a, PyProof.Rows.seqObj "list" #[] e1) :: (kS, PyProof.Rows.seqObj "list" ka e) :: pins) (Q := fun v H2 => ∃ G2, Same G' G2 ∧ Sep G2 H2 M ∧ Rep X.K cl G2 v (key z.2)) F hr hb (o1.pinned o2 I1) rx
      ⟨[enc z.2], key z.2, G', M, hR z hzm, S1, Reps.one ((rz z hzm).mono s1), fun v G2 H2 s2 S2 r2 => ⟨G2, s2, S2, r2⟩⟩) (fun w st2 hw => ?_) fun _ _ f => f.elim))
    obtain ⟨v, H2, I2, rw', G2, s2, S2, r2⟩ := hw
    have p1 := I2.pin (a, PyProof.Rows.seqObj "list" #[] e1) (List.mem_append_right _ (List.mem_cons_self ..))
    have p2 := I2.pin (kS, PyProof.Rows.seqObj "list" ka e) (List.mem_append_right _ (List.mem_cons_of_mem _ (List.mem_cons_self ..)))
    have I3 := Inv.unpin2 I2
    have q1 := o1.next p1.1 p1.2.1 seq_nocell
    have q2 := o2.next p2.1 p2.2.1 seq_nocell
    dsimp only
    have sb := Heap.SameBut.update st2.heap kS (Obj.mapSeq (·.push w))
    obtain ⟨c2, hc2⟩ : ∃ c2, (st2.heap.update kS (Obj.mapSeq (·.push w))).get? kS = some (PyProof.Rows.seqObj "list" (ka.push w) c2) := ⟨_, PyProof.Rows.get?_update_seq q2.there (·.push w)⟩
    refine wpAny_bind (PyProof.Rows.listUpdate_at q2.there rfl ?_ (Nat.le_trans hkl hZ) (Nat.le_trans (Nat.le_of_eq (Array.size_push ..)) (Nat.succ_le_succ (Nat.le_trans hkl hZ))))
    refine wpAny_pure ⟨rfl, G2, H2, ka.push w, c2, kvs ++ [v], s1.trans s2, S2, I3.turned (t' := st2.toks) (fun b o hb q => (sb.2 b hb).trans q) q2.un q2.loc (.inr q2.new) q2.cell q2.pin, q1.next ((sb.2 a (Ne.symm hka)).trans q1.there) q1.un seq_nocell, q2.next hc2 q2.un seq_nocell, ?_, ?_⟩
    · rw [Array.toList_push]
      exact hv.append (.cons rw' .nil)
    · rw [List.take_add_one, hz, List.map_append]
      exact (rk.mono s2).append (Reps.one r2)
  case last =>
    rintro s' ⟨G', H', ka, e, kvs, s1, S1, I1, o1, o2, hv, rk⟩
    rw [Nat.zero_add, List.take_of_length_le (by omega)] at rk
    have er := reps_reads I1 (rk.mono S1.sub) hd hv
    have em : (zs.map fun z => key z.2).map D.pyd = zs.map fun z => (key z.2).pyd := by rw [List.map_map]; rfl
    rw [em] at er
    have hks : ka.size = vs.length := by
      have h1 := hv.length
      have h0 : ka.toList.length = ka.size := Array.length_toList
      rw [rk.length, List.length_map] at h1
      omega
    refine wpAny_bind (PyProof.Rows.listItems_at o2.there rfl ?_)
    refine PySem.W.keyH_end (κ := PySem.W.dataKind s'.heap (zs.map fun z => (key z.2).pyd)) (h₁ := sans s'.heap kS) (fun b o _ q => ?_) sans_self o2.there o1.there hka (PySem.W.SortsAt.data er so.alike so.kind fun d hm => ?_) hks hZ fun h' tk c kb he => ?_
    · by_cases hbk : b = kS
      · rw [hbk, sans_self] at q
        cases q
      · rw [sans_ne hbk] at q
        exact q
    · have h1 := so.low d hm
      have h2 : X.A.in1.in1.units = X.A.units + 2 := rfl
      omega
    · have eo : PySem.W.EachIs (fun u (z : V × β) => RelV z.1 u) (PySem.W.sortVals (PySem.W.dataKind s'.heap (zs.map fun z => (key z.2).pyd)) false ka.toList vs) (zs.mergeSort (PySem.W.dataLe false fun z => (key z.2).pyd)) :=
        PySem.W.keyedOut_each (fun z => (key z.2).pyd) ⟨s'.heap, ka.toList, so.alike, rfl, er⟩ ev
      refine h G' H' _ s1 S1 o1.un (Inv.given (t' := tk) I1 o1 o2 kb ⟨?_, _, c, each_back eo, he⟩)
      rw [List.length_map, List.length_mergeSort, hzl]
      exact hZ
/-- sorted(xs, key=f) -/
theorem call_sortKey (F : FnOk X.prog X.w X.K X.mg X.base CX0 k fa fd ps (PSp X.K cl R)) (hr : Room (k + 2) X.A) (hu : X.A.units + 64 < cLine) (hb : Binds X.K fd ps []) : CallRK X (.builtin "sorted") [Str.ofString "key"] (rSortKey X.K cl fa R) := by
  rintro pins s σ H xs zs us ws Q I r rw' ⟨a, vs, β, l, enc, key, G, M, rfl, rfl, S, sq, rs, hR, hd, so, q⟩
  obtain rfl := Vals.ref1 r
  obtain ⟨w1, rfl, e1⟩ := vals1 rw'
  obtain rfl : w1 = Value.ref fa := e1
  obtain ⟨its, rv, pl, hz⟩ := I.list sq
  obtain ⟨zs, rfl, rfl, hzr⟩ := reps_mapT rs
  have hil : its.length ≤ sizeLine := by rw [← rv.length]; exact hz
  have keep : ∀ b u, s.heap.get? b = some u → (PySem.W.copyHeap s.heap its).get? b = some u := fun b u e => PySem.W.copyHeap_old e
  have I1 : Inv X pins σ H { s with heap := PySem.W.copyHeap s.heap its } := I.kept (t' := s.toks) keep
  refine PySem.W.sorted_of_sort pl.isList hil (PyProof.Rows.ksk_s1 _ _) (fun _ => PyProof.Rows.ksk_l1 _ _) fun E' => ?_
  show wpAny _ _ (Builtin.«list.sort» ⟨[.ref (s.heap.objs.size + 1)], [(Str.ofString "key", .ref fa)]⟩) _ _ _
  rw [PyProof.Rows.ksk_t1]
  have hcs : (PySem.W.copyHeap s.heap its).objs.size = s.heap.objs.size + 2 := by
    unfold PySem.W.copyHeap
    rw [Heap.size_push, Heap.size_update, Heap.size_push]
  have ho := PySem.W.copyHeap_at s.heap its
  obtain ⟨e1, ho1⟩ : ∃ e1, ((PySem.W.copyHeap s.heap its).update (s.heap.objs.size + 1) (Obj.mapSeq fun _ => (#[] : Array Value))).get? (s.heap.objs.size + 1) = some (PyProof.Rows.seqObj "list" #[] e1) := ⟨_, PyProof.Rows.get?_update_seq ho fun _ => #[]⟩
  unfold PyProof.Rows.ksk_tree
  refine wpAny_bind (PyProof.Rows.listItems_at ho rfl ?_)
  refine wpAny_bind (PyProof.Rows.listUpdate_at ho rfl ?_ (by rw [List.size_toArray]; exact hil) (Nat.zero_le _))
  refine wpAny_bind (PyProof.Rows.seqEpoch_at ho1 rfl ?_)
  refine wpAny_bind (wpAny_newTuple ?_ (by show its.length ≤ _; exact hil))
  refine wpAny_bind (wpAny_newList ?_ (Nat.zero_le _))
  refine wpAny_holding ?_
  have hk : (((PySem.W.copyHeap s.heap its).update (s.heap.objs.size + 1) (Obj.mapSeq fun _ => (#[] : Array Value))).push (PyProof.Rows.seqObj "tuple" its.toArray 0)).objs.size = s.heap.objs.size + 3 := by rw [Heap.size_push, Heap.size_update, hcs]
  have keep4 : ∀ b u, s.heap.get? b = some u → ((((PySem.W.copyHeap s.heap its).update (s.heap.objs.size + 1) (Obj.mapSeq fun _ => (#[] : Array Value))).push (PyProof.Rows.seqObj "tuple" its.toArray 0)).push (PyProof.Rows.seqObj "list" #[] 0)).get? b = some u := fun b u e => by
    have hlt := Heap.lt_size e
    refine Heap.get?_push_of_some _ (Heap.get?_push_of_some _ ?_)
    rw [Heap.get?_update_ne _ _ _ _ (Nat.ne_of_lt (Nat.lt_succ_of_lt hlt))]
    exact keep b u e
  have I4 := I.kept (t' := s.toks) keep4
  have fr : ∀ {b : Addr}, s.heap.objs.size ≤ b → H b = none := fun {b} hb => I.hok.fresh hb
  refine key_rest (pins := pins) (σ := σ) (H := H) (M := M) F hr hu hb (each_of_vals rv) hzr (fun z hz => hR z.2 (List.mem_map.mpr ⟨z, hz, rfl⟩)) (by rw [List.map_map] at hd; exact hd) (by rw [List.map_map] at so; exact so) hil (by rw [hk]; exact Nat.ne_of_gt (Nat.add_lt_add_left (show 1 < 3 by decide) _)) S I4
    (Own2.of I (Nat.le_succ _) (Heap.get?_push_of_some _ (Heap.get?_push_of_some _ ho1)) (fr (Nat.le_succ _)) seq_nocell (fun _ h => h)) (Own2.of I (by rw [hk]; exact Nat.le_add_right _ _) (Heap.get?_push_size _ rfl) (fr (by rw [hk]; exact Nat.le_add_right _ _)) seq_nocell (fun _ h => h)) ?_
  intro G' H' s' s1 S1 hn I'
  refine ⟨rfl, .ref _, _, I', rfl, q G' H' _ _ s1 S1 ?_ hn⟩
  have em : ((zs.map (·.2)).mergeSort (PySem.W.dataLe false fun b => (key b).pyd)).map enc = (zs.mergeSort (PySem.W.dataLe false fun z => (key z.2).pyd)).map fun z => enc z.2 := by
    rw [← List.map_mergeSort (f := fun z : V × β => z.2) (r := PySem.W.dataLe false fun z : V × β => (key z.2).pyd) fun _ _ _ _ => rfl, List.map_map]
    rfl
  rw [em]
  exact Reps.map fun z hz => (hzr z ((List.mergeSort_perm _ _).mem_iff.mp hz)).mono s1
end
/-! ### its rule -/
section
variable {K : PySem.W.Frag} {cl : Nat → Addr} {p q : Bool} {M M1 : ML} {G : Hp} {σ : St} {ta : TE} {d : D} {β : Type} {l : List β} {enc key : β → D} {R : List D → D → Prop} {fa : Addr}
theorem ev_sortKey (ha : EvX K cl p ta σ G M d M1) (hd : d = .lst (l.map enc)) (hR : ∀ b ∈ l, R [enc b] (key b)) (hk : D.areDat (l.map key) = true) (so : Sorts (l.map fun b => (key b).pyd)) :
    EvX K cl false (tCKw (rSortKey K cl fa R) (tCons ta tNil) (tCons (tC (.ref fa)) tNil)) σ G M (.lst ((l.mergeSort (PySem.W.dataLe false fun b => (key b).pyd)).map enc)) M1 := fun G1 H1 s S Q k =>
  ha G1 H1 s S _ fun x G2 H2 g2 rx => by
    rw [hd] at rx
    obtain ⟨a, vs, rfl, sq, rs⟩ := rx.of_lst
    refine ⟨a, vs, β, l, enc, key, G2, M1, rfl, rfl, g2.sep, g2.sep.sub.seq sq, rs, hR, hk, so, fun G' H' ws p s' S' r' hn => ?_⟩
    exact k _ _ _ (Go.of ((g2.same.trans s').trans (Same.upd (S'.freshG hn))) (S'.newG hn)) (Rep.lst (.inl (.inl upd_same)) (r'.mono (Same.upd (S'.freshG hn))))
theorem ev_sortKeyM {a : Addr} {vs : List V} (ha : EvX K cl p ta σ G M (.loc a) M1) (hm : At M1 a (.lst vs)) (hr : Reps K cl G vs (l.map enc)) (hR : ∀ b ∈ l, R [enc b] (key b)) (hk : D.areDat (l.map key) = true) (so : Sorts (l.map fun b => (key b).pyd)) :
    EvX K cl false (tCKw (rSortKey K cl fa R) (tCons ta tNil) (tCons (tC (.ref fa)) tNil)) σ G M (.lst ((l.mergeSort (PySem.W.dataLe false fun b => (key b).pyd)).map enc)) M1 := fun G1 H1 s S Q k =>
  ha G1 H1 s S _ fun x G2 H2 g2 rx => by
    rw [rx.of_loc]
    refine ⟨a, vs, β, l, enc, key, G2, M1, rfl, rfl, g2.sep, .inl (.inl (g2.sep.look hm)), hr.mono (s.trans g2.same), hR, hk, so, fun G' H' ws p s' S' r' hn => ?_⟩
    exact k _ _ _ (Go.of ((g2.same.trans s').trans (Same.upd (S'.freshG hn))) (S'.newG hn)) (Rep.lst (.inl (.inl upd_same)) (r'.mono (Same.upd (S'.freshG hn))))
end
end Cp
/-! Cp13: dicts that are never changed, as data; comprehensions told by a relation; arguments laid on the way; == of things of one shape; what is never reached. -/
namespace Cp
open PySem L2

/-! ### what is never reached -/
def tNope : TS := fun _ _ _ => False
theorem ps_nope {X : Cx} {st : Stmt} : PS X st tNope := ⟨fun _ _ _ _ _ _ h => h.elim⟩
def eNope : TE := fun _ _ _ => False
theorem pe_nope {X : Cx} {e : Expr} : PE X e eNope := ⟨fun _ _ _ _ _ _ h => h.elim⟩

/-- sorted(xs, key=f), its reading: wherever f stands -/
def tSortKey (K : PySem.W.Frag) (cl : Nat → Addr) (R : List D → D → Prop) (t : TA) : TE := fun σ H Q => ∀ fa, tCKw (rSortKey K cl fa R) t (tCons (tC (.ref fa)) tNil) σ H Q
theorem pe_sortKey {X : Cx} {cl : Nat → Addr} {R : List D → D → Prop} {k : Nat} {fa : Addr} {fd : FuncData} {ps : List Str} {x y : Str} {p q pos kp : Pos} {e : Expr} {t : TA} (F : FnOk X.prog X.w X.K X.mg X.base CX0 k fa fd ps (PSp X.K cl R)) (hr : Room (k + 2) X.A) (hu : X.A.units + 64 < cLine) (hb : Binds X.K fd ps [])
    (hg : Gl X x) (hm : X.mg x = none) (hv : bootBuiltins x = some (.builtin "sorted")) (my : X.mg y = some (.ref fa)) (ha : PA X [e] t) (hg2 : Gl X y := by rfl) (hn : x ≠ "__name__" := by decide) (hdb : (x == ("__debug__" : Str)) = false := by decide) (hdy : (y == ("__debug__" : Str)) = false := by decide)
    (he : backTo pos (starEach (e :: []) X.env) = (false, eval e X.env) :: backTo pos (starEach [] X.env) := by rfl) (hpl : (backTo pos (starEach (e :: []) X.env)).any (·.1) = false := by rfl)
    (hall : (backToKw pos (keywordEach [⟨some "key", .Name y q, kp⟩] X.env)).all (·.1.isSome) = true := by rfl) (hnone : (backToKw pos (keywordEach [⟨some "key", .Name y q, kp⟩] X.env)).any (·.1.isNone) = false := by rfl) (hks : (backToKw pos (keywordEach [⟨some "key", .Name y q, kp⟩] X.env)).filterMap (·.1) = [Str.ofString "key"] := by rfl) :
    PE X (.Call (.Name x p) [e] [⟨some "key", .Name y q, kp⟩] pos) (tSortKey X.K cl R t) := by
  refine ⟨fun pins s σ H Q I h => ?_⟩
  exact (pe_callBK (p := p) (call_sortKey F hr hu hb) hg hm hv ha (pk_cons (nm := some "key") (kpos := kp) (pe_glob (pos := q) (v := .ref fa) hg2 my rfl hdy) pk_nil) hn hdb he hpl hall hnone hks).run pins s σ H Q I (h fa)
theorem ev_keyed {K : PySem.W.Frag} {cl : Nat → Addr} {p : Bool} {M M1 : ML} {G : Hp} {σ : St} {ta : TE} {d : D} {β : Type} {l : List β} {enc key : β → D} {R : List D → D → Prop} (ha : EvX K cl p ta σ G M d M1) (hd : d = .lst (l.map enc)) (hR : ∀ b ∈ l, R [enc b] (key b)) (hk : D.areDat (l.map key) = true) (so : Sorts (l.map fun b => (key b).pyd)) :
    EvX K cl false (tSortKey K cl R (tCons ta tNil)) σ G M (.lst ((l.mergeSort (PySem.W.dataLe false fun b => (key b).pyd)).map enc)) M1 := fun G1 H1 s S Q k fa => ev_sortKey ha hd hR hk so G1 H1 s S Q k
theorem ev_keyedM {K : PySem.W.Frag} {cl : Nat → Addr} {p : Bool} {M M1 : ML} {G : Hp} {σ : St} {ta : TE} {a : Addr} {vs : List V} {β : Type} {l : List β} {enc key : β → D} {R : List D → D → Prop} (ha : EvX K cl p ta σ G M (.loc a) M1) (hm : At M1 a (.lst vs)) (hr : Reps K cl G vs (l.map enc)) (hR : ∀ b ∈ l, R [enc b] (key b)) (hk : D.areDat (l.map key) = true) (so : Sorts (l.map fun b => (key b).pyd)) :
    EvX K cl false (tSortKey K cl R (tCons ta tNil)) σ G M (.lst ((l.mergeSort (PySem.W.dataLe false fun b => (key b).pyd)).map enc)) M1 := fun G1 H1 s S Q k fa => ev_sortKeyM ha hm hr hR hk so G1 H1 s S Q k

/-! ### dicts as data -/
section
variable {K : PySem.W.Frag} {cl : Nat → Addr} {G G' : Hp} {a : Addr}
theorem KRep.fst {kws : List (Key × V)} {kes : List (Key × D)} (r : KRep K cl G kws kes) : kws.map (·.1) = kes.map (·.1) := by
  induction r with
  | nil => rfl
  | cons h t ih => rw [List.map_cons, List.map_cons, ih, h.1]
theorem KRep.snd {kws : List (Key × V)} {kes : List (Key × D)} (r : KRep K cl G kws kes) : Reps K cl G (kws.map (·.2)) (kes.map (·.2)) := by
  induction r with
  | nil => exact Reps.nil
  | cons h t ih => exact Reps.cons h.2 ih
/-- a dict as data -/
abbrev dicD (kes : List (Key × D)) : D := .dic (kes.map (·.1)) (kes.map (·.2))
theorem KRep.dic {kws : List (Key × V)} {kes : List (Key × D)} (r : KRep K cl G kws kes) (h : G a = Option.some (.dK kws)) : Rep K cl G (.ref a) (dicD kes) := Rep.dic h r.fst r.snd
theorem krep_of : ∀ {kws : List (Key × V)} {kes : List (Key × D)}, kws.map (·.1) = kes.map (·.1) → Reps K cl G (kws.map (·.2)) (kes.map (·.2)) → KRep K cl G kws kes
  | [], [], _, _ => .nil
  | [], _ :: _, h, _ => by simp at h
  | _ :: _, [], h, _ => by simp at h
  | p :: kws, q :: kes, h, r => by
    rw [List.map_cons, List.map_cons, List.cons.injEq] at h
    obtain ⟨v, ws, e, r1, r2⟩ := r.uncons
    rw [List.map_cons, List.cons.injEq] at e
    rw [← e.1] at r1
    rw [← e.2] at r2
    exact .cons ⟨h.1, r1⟩ (krep_of h.2 r2)
theorem Rep.of_dicD {x : V} {kes : List (Key × D)} (h : Rep K cl G x (dicD kes)) : ∃ a kws, x = .ref a ∧ G a = some (.dK kws) ∧ KRep K cl G kws kes := by
  obtain ⟨a, kws, e, q, l, r⟩ := h.of_dic
  exact ⟨a, kws, e, q, krep_of l r⟩
/-- an owned dict becomes data -/
theorem Sep.dic {H : Hp} {M : ML} {kws : List (Key × V)} {kes : List (Key × D)} (S : Sep G H ((a, .dK kws) :: M)) (r : KRep K cl G kws kes) : ∃ G', Same G G' ∧ Sep G' H M ∧ Rep K cl G' (.ref a) (dicD kes) := by
  obtain ⟨S', s'⟩ := S.freeze
  exact ⟨_, s', S', (r.mono s').dic upd_same⟩
theorem Sep.ins {H : Hp} {M : ML} {c : Nat} {dx : Addr} {ns : List Str} {vs : List V} {ds : List D} (S : Sep G H ((a, .ins (cl c) dx (ns.zip vs)) :: M)) (l : ns.length = vs.length) (r : Reps K cl G vs ds) : ∃ G', Same G G' ∧ Sep G' H M ∧ Rep K cl G' (.ref a) (.ins c ns ds) := by
  obtain ⟨S', s'⟩ := S.freeze
  exact ⟨_, s', S', Rep.ins upd_same l (r.mono s')⟩
theorem Sep.lst {H : Hp} {M : ML} {vs : List V} {ds : List D} (S : Sep G H ((a, .lst vs) :: M)) (r : Reps K cl G vs ds) : ∃ G', Same G G' ∧ Sep G' H M ∧ Rep K cl G' (.ref a) (.lst ds) := by
  obtain ⟨S', s'⟩ := S.freeze
  exact ⟨_, s', S', Rep.lst (.inl (.inl upd_same)) (r.mono s')⟩
end
section
variable [Wo] {K : PySem.W.Frag} {cl : Nat → Addr} {p q r : Bool} {M M1 M2 M3 M4 : ML} {G G1 G2 G3 H H1 H2 H3 : Hp} {σ : St} {ta tb tc te tl : TE} {tx : TA} {tt tu : TT} {d d1 d2 d3 : D} {ds es : List D}
variable {a : Addr} {kes : List (Key × D)} {k : Key}
theorem ev_dget (ha : EvX K cl p ta σ G M d2 M1) (hb : EvX K cl q tb σ G M1 d1 M2) (hd : d2 = dicD kes) (hk : d1 = kD k) (hv : valG kes k = some d) : EvX K cl (p && q) (tOp (rIxA K cl) ta tb) σ G M d M2 := fun G1 H1 s S Q kk =>
  ha G1 H1 s S _ fun x G2 H2 g2 rx => hb G2 H2 (s.trans g2.same) g2.sep _ fun y G3 H3 g3 ry => by
    rw [hd] at rx
    obtain ⟨a, kws, rfl, ea, r⟩ := rx.of_dicD
    rw [hk] at ry
    obtain ⟨v, e, rv⟩ := r.some hv
    exact .inl ⟨a, v, rfl, .inl ⟨kws, k, .inl (g3.sep.sub _ _ (g3.same _ _ ea)), rep_kD ry, e.symm⟩, kk v G3 H3 (g2.trans g3) (rv.mono g3.same)⟩
theorem ev_din {neg : Bool} (hb : EvX K cl p tb σ G M d1 M1) (ha : EvX K cl q ta σ G M1 d2 M2) (hd : d2 = dicD kes) (hk : d1 = kD k) : EvX K cl (p && q) (tOp (rInA K cl neg) tb ta) σ G M (.bl (neg != (valG kes k).isSome)) M2 := fun G1 H1 s S Q kk =>
  hb G1 H1 s S _ fun y G2 H2 g2 ry => ha G2 H2 (s.trans g2.same) g2.sep _ fun x G3 H3 g3 rx => by
    rw [hd] at rx
    obtain ⟨a, kws, rfl, ea, r⟩ := rx.of_dicD
    rw [hk] at ry
    refine .inl ⟨a, _, rfl, .inl ⟨kws, k, .inl (g3.sep.sub _ _ ea), rep_kD ry, rfl⟩, ?_⟩
    rw [r.isSome]
    exact kk _ G3 H3 (g2.trans g3) Rep.bl
theorem ev_dget1 (ha : EvX K cl p ta σ G M d2 M1) (hb : EvX K cl q tb σ G M1 d1 M2) (hd : d2 = dicD kes) (hk : d1 = kD k) : EvX K cl (p && q) (tGet1 K cl ta tb) σ G M ((valG kes k).getD .non) M2 := fun G1 H1 s S Q kk =>
  ha G1 H1 s S _ fun x G2 H2 g2 rx => by
    rw [hd] at rx
    obtain ⟨a, kws, rfl, ea, r⟩ := rx.of_dicD
    refine ⟨a, rfl, .inl (.inl ⟨kws, .inl (g2.sep.sub _ _ ea)⟩), hb G2 H2 (s.trans g2.same) g2.sep _ fun y G3 H3 g3 ry => ?_⟩
    rw [hk] at ry
    exact .inl ⟨_, .inl ⟨kws, k, .inl (g3.sep.sub _ _ (g3.same _ _ ea)), rep_kD ry, rfl⟩, kk _ G3 H3 (g2.trans g3) ((r.getD k Rep.non).mono g3.same)⟩
theorem ev_dget2 (ha : EvX K cl p ta σ G M d2 M1) (hb : EvX K cl q tb σ G M1 d1 M2) (hz : EvX K cl r tc σ G M2 d3 M3) (hd : d2 = dicD kes) (hk : d1 = kD k) : EvX K cl (p && q && r) (tGet2 K cl ta tb tc) σ G M ((valG kes k).getD d3) M3 := fun G1 H1 s S Q kk =>
  ha G1 H1 s S _ fun x G2 H2 g2 rx => by
    rw [hd] at rx
    obtain ⟨a, kws, rfl, ea, r⟩ := rx.of_dicD
    refine ⟨a, rfl, .inl (.inl ⟨kws, .inl (g2.sep.sub _ _ ea)⟩), hb G2 H2 (s.trans g2.same) g2.sep _ fun y G3 H3 g3 ry => hz G3 H3 ((s.trans g2.same).trans g3.same) g3.sep _ fun z G4 H4 g4 rz => ?_⟩
    rw [hk] at ry
    have sA := g3.same.trans g4.same
    exact .inl ⟨_, .inl ⟨kws, k, .inl (g4.sep.sub _ _ (sA _ _ ea)), rep_kD (ry.mono g4.same), rfl⟩, kk _ G4 H4 ((g2.trans g3).trans g4) ((r.mono sA).getD k rz)⟩
/-- list(xs) -/
theorem on_listL : OpN K cl false (rListA K) M [.lst ds] (.lst ds) M := fun G1 H1 S us ru Q k => by
  obtain ⟨u, rfl, hu⟩ := reps1 ru
  obtain ⟨a, vs, rfl, sq, rs⟩ := hu.of_lst
  exact ⟨a, vs, rfl, .inl (S.sub.seq sq), fun l hl => k _ _ _ (Go.of (Same.upd (S.freshG hl)) (S.newG hl)) (Rep.lst (.inl (.inl upd_same)) (rs.mono (Same.upd (S.freshG hl))))⟩
/-- dict(d) of a dict as data -/
abbrev rDictD : List V → Hp → VK → Prop := fun xs H Q => ∃ (a : Addr) (kvs : List (Key × V)), xs = [.ref a] ∧ Rd H a (.dK kvs) ∧ ∀ p, H p = none → Q (.ref p) (upd H p (.dK kvs))
theorem on_dictD : OpN K cl false rDictD M [dicD kes] (dicD kes) M := fun G1 H1 S us ru Q k => by
  obtain ⟨u, rfl, hu⟩ := reps1 ru
  obtain ⟨a, kws, rfl, ea, r⟩ := hu.of_dicD
  exact ⟨a, kws, rfl, .inl (S.sub _ _ ea), fun l hl => k _ _ _ (Go.of (Same.upd (S.freshG hl)) (S.newG hl)) ((r.mono (Same.upd (S.freshG hl))).dic upd_same)⟩

/-! ### laid on the way -/
theorem EvG.imp {F F' : FG} (h : EvG te σ G M F) (hF : ∀ v G' H' M', Same G G' → Sep G' H' M' → F v G' M' → ∃ G2 M2, Same G' G2 ∧ Sep G2 H' M2 ∧ F' v G2 M2) : EvG te σ G M F' := fun G1 H1 s S Q k =>
  h G1 H1 s S _ fun v G2 H2 M2 s2 S2 f => by
    obtain ⟨G3, M3, s3, S3, f3⟩ := hF v G2 H2 M2 (s.trans s2) S2 f
    exact k v G3 H2 M3 (s2.trans s3) S3 f3
theorem ev_of {F : FG} (h : EvG te σ G M F) (hF : ∀ v G' H' M', Same G G' → Sep G' H' M' → F v G' M' → ∃ G2, Same G' G2 ∧ Sep G2 H' M ∧ Rep K cl G2 v d) : EvX K cl false te σ G M d M := fun G1 H1 s S Q k =>
  h G1 H1 s S _ fun v G2 H2 M2 s2 S2 f => by
    obtain ⟨G3, s3, S3, r3⟩ := hF v G2 H2 M2 (s.trans s2) S2 f
    exact k v G3 H2 (Go.of (s2.trans s3) S3) r3
abbrev AG := List V → Hp → ML → Prop
def EvAG (ta : TA) (σ : St) (G : Hp) (M : ML) (F : AG) : Prop :=
  ∀ G1 H1, Same G G1 → Sep G1 H1 M → ∀ Q : List V → Hp → Prop, (∀ vs G2 H2 M2, Same G1 G2 → Sep G2 H2 M2 → F vs G2 M2 → Q vs H2) → ta σ H1 Q
theorem ag_of {F : AG} (h : EvA K cl p tx σ G M ds M1) (hF : ∀ vs G', Same G G' → Reps K cl G' vs ds → F vs G' M1) : EvAG tx σ G M F := fun G1 H1 s S Q k =>
  h G1 H1 s S Q fun vs G2 H2 g2 rs => k vs G2 H2 M1 g2.same g2.sep (hF vs G2 (s.trans g2.same) rs)
theorem ag_cons {tr : TA} {F1 : FG} {F : AG} (h : EvG te σ G M F1) (hr : ∀ v G' M', Same G G' → F1 v G' M' → EvAG tr σ G' M' fun vs G2 M2 => F (v :: vs) G2 M2) : EvAG (tCons te tr) σ G M F := fun G1 H1 s S Q k =>
  h G1 H1 s S _ fun v G2 H2 M2 s2 S2 f => hr v G2 M2 (s.trans s2) f G2 H2 (Same.refl _) S2 _ fun vs G3 H3 M3 s3 S3 f3 => k (v :: vs) G3 H3 M3 (s2.trans s3) S3 f3
/-- a def over what was laid for it -/
theorem eg_callAG {R : RG} {E : XK} {F : FG} {Fa : AG} (ha : EvAG tx σ G M Fa)
    (hR : ∀ vs G' H' M' (T : V → Hp → ML → Prop), Same G G' → Sep G' H' M' → Fa vs G' M' → (∀ v G'' M'', Same G' G'' → F v G'' M'' → T v G'' M'') → ∃ M2, M'.Perm M2 ∧ R vs G' M2 T) : EvG (tCall (GSp R) [] E tx) σ G M F := fun G1 H1 s S Q k =>
  ha G1 H1 s S _ fun xs G2 H2 M2 s2 S2 fa => by
    obtain ⟨M3, pm, hh⟩ := hR xs G2 H2 M2 (fun v G' M' => Same G2 G' → ∀ H', Sep G' H' M' → Q v H') (s.trans s2) S2 fa fun v G'' M'' s'' hF sm H' S' => k v G'' H' M'' (s2.trans sm) S' hF
    refine ⟨G2, M3, S2.perm pm, ?_⟩
    rw [List.append_nil]
    exact hh
/-- a pure def over what was laid for it -/
theorem eg_pcallAG {R : List D → D → Prop} {E : XK} {F : FG} {Fa : AG} (ha : EvAG tx σ G M Fa)
    (hR : ∀ vs G' M', Same G G' → Fa vs G' M' → ∃ ds d, Reps K cl G' vs ds ∧ R ds d ∧ ∀ w G'', Same G' G'' → Rep K cl G'' w d → F w G'' M') : EvG (tCall (PSp K cl R) [] E tx) σ G M F := fun G1 H1 s S Q k =>
  ha G1 H1 s S _ fun xs G2 H2 M2 s2 S2 fa => by
    obtain ⟨ds, d, rs, hd, hk⟩ := hR xs G2 M2 (s.trans s2) fa
    exact ⟨ds, d, G2, M2, hd, S2, by rw [List.append_nil]; exact rs, fun w G' H' s' S' rw' => k w G' H' M2 (s2.trans s') S' (hk w G' s' rw')⟩

/-! ### comprehensions told by a relation -/
def LcG (K : PySem.W.Frag) (cl : Nat → Addr) (g : TG) (tt : TT) (te : TE) (vs : List Nat) (σ : St) (G : Hp) (M : ML) (x : V) (keep : Bool) (F : V → Hp → Prop) : Prop :=
  ∃ σ2 p, wipe σ2 vs = wipe σ vs ∧ (∀ H (Kk : St → Hp → Prop), Sep G H M → Kk σ2 H → g x (wipe σ vs) H Kk) ∧ EvT K cl p tt σ2 G M keep M ∧ (keep = true → EvG te σ2 G M fun v G' M' => M' = M ∧ F v G')
theorem lcG1 {vs : List Nat} {x : V} {keep : Bool} {j : Nat} {F : V → Hp → Prop} (hw : wipe ((wipe σ vs).set j (some x)) vs = wipe σ vs) (ht : EvT K cl p tt ((wipe σ vs).set j (some x)) G M keep M) (he : keep = true → EvG te ((wipe σ vs).set j (some x)) G M fun v G' M' => M' = M ∧ F v G') : LcG K cl (gName j) tt te vs σ G M x keep F :=
  ⟨_, p, hw, fun H Kk _ h => h, ht, he⟩
theorem eg_lcY {β γ : Type} {l : List β} {U : V → β → Hp → Prop} {encY : γ → D} {P : β → γ → Prop} {vs : List Nat} {keep : β → Bool} {g : TG} {J : It} {us : List V} {ok : Hp → Prop} (Y : Yields J us ok) (hok : ∀ e G' H', Same G G' → Sep G' H' (e :: M1) → ok H')
    (hus : ∀ (i : Nat) (x : V), us[i]? = some x → ∃ b, l[i]? = some b ∧ U x b G) (hul : us.length = l.length) (hU : ∀ x b G', Same G G' → U x b G → U x b G') (hl : l.length ≤ 10000000) (sG : Same G G2) (S2 : Sep G2 H2 M1)
    (hs : ∀ G1 e x b, Same G G1 → b ∈ l → U x b G1 → LcG K cl g tt te vs σ G1 (e :: M1) x (keep b) fun v G' => ∃ c, P b c ∧ Rep K cl G' v (encY c)) {Q : VK} (k : ∀ v G' H', Same G2 G' → Sep G' H' M1 → (∃ cs, Paired P (l.filter keep) cs ∧ Rep K cl G' v (.lst (cs.map encY))) → Q v H') :
    ∀ Da, H2 Da = none → ∃ W : Nat → Nat → Hp → Prop, (∃ m, W 0 m (upd H2 Da (.lst []))) ∧ ∀ i m H, W i m H →
      (J.stop i H ∧ Q (.ref Da) H) ∨ (J.go i H ∧ ∃ Nx : Hp → Prop, (∀ H', Nx H' → ∃ m', m' < m ∧ W (i + 1) m' H') ∧ ∀ x H', J.yld i H x H' → g x (wipe σ vs) H' fun σ2 H2 => wipe σ2 vs = wipe σ vs ∧ tt σ2 H2 fun b H3 =>
        if b = true then te σ2 H3 fun y H4 => ∃ acc, H4 Da = some (.lst acc) ∧ acc.length < sizeLine ∧ Nx (upd H4 Da (.lst (acc ++ [y]))) else Nx H3) := fun Da hD => by
  have pl : ∀ {l : List β} {cs : List γ}, Paired P l cs → l.length = cs.length := fun h => by
    induction h with
    | nil => rfl
    | cons h t ih => rw [List.length_cons, List.length_cons, ih]
  have pa : ∀ {l l' : List β} {cs cs' : List γ}, Paired P l cs → Paired P l' cs' → Paired P (l ++ l') (cs ++ cs') := fun h h' => by
    induction h with
    | nil => exact h'
    | cons h t ih => exact .cons h ih
  refine lc_y Y (fun i H => ∃ G' acc cs, Same G2 G' ∧ Sep G' H ((Da, .lst acc) :: M1) ∧ Paired P ((l.take i).filter keep) cs ∧ Reps K cl G' acc (cs.map encY)) ⟨G2, [], [], Same.refl _, S2.newM hD, .nil, Reps.nil⟩ ?_ ?_ ?_
  · rintro i H hi ⟨G', acc, cs, s', S', _, ra⟩
    exact hok _ G' H (sG.trans s') S'
  · rintro i x H hx ⟨G', acc, cs, s', S', hp, ra⟩
    obtain ⟨b, hdi, ub⟩ := hus i x hx
    obtain ⟨σ2, p', hw, hg, ht, he⟩ := hs G' (Da, .lst acc) x b (sG.trans s') (List.mem_of_getElem? hdi) (hU x b G' (sG.trans s') ub)
    refine hg H _ S' ⟨hw, ht G' H (Same.refl _) S' _ fun G3 H3 g3 => ?_⟩
    have e1 : l.take (i + 1) = l.take i ++ [b] := by rw [List.take_add_one, hdi]; rfl
    have hal : acc.length ≤ l.length := by
      rw [ra.length, List.length_map, ← pl hp]
      exact Nat.le_trans (List.length_filter_le _ _) (by rw [List.length_take]; omega)
    cases hk : keep b with
    | true =>
      rw [if_pos rfl]
      refine he hk G3 H3 g3.same g3.sep _ fun y G4 H4 M4 s4 S4 f4 => ?_
      obtain ⟨rfl, c, hc, ry⟩ := f4
      have sA := g3.same.trans s4
      refine ⟨acc, S4.look .hd, Nat.lt_of_le_of_lt (Nat.le_trans hal hl) (by decide), G4, acc ++ [y], cs ++ [c], s'.trans sA, S4.ch .hd, ?_, ?_⟩
      · rw [e1, List.filter_append, List.filter_cons, if_pos hk]
        exact pa hp (.cons hc .nil)
      · rw [List.map_append]
        exact Reps.append (ra.mono sA) (Reps.one ry)
    | false =>
      rw [if_neg (by decide)]
      refine ⟨G3, acc, cs, s'.trans g3.same, g3.sep, ?_, ra.mono g3.same⟩
      rw [e1, List.filter_append, List.filter_cons, if_neg (by rw [hk]; decide)]
      show Paired P (_ ++ []) cs
      rw [List.append_nil]
      exact hp
  · rintro H ⟨G', acc, cs, s', S', hp, ra⟩
    rw [hul, List.take_length] at hp
    obtain ⟨S3, s3⟩ := S'.freeze
    exact k (.ref Da) _ H (s'.trans s3) S3 ⟨cs, hp, Rep.lst (.inl (.inl upd_same)) (ra.mono s3)⟩
theorem eg_lcR {β γ : Type} {l : List β} {enc : β → D} {encY : γ → D} {P : β → γ → Prop} {vs : List Nat} {keep : β → Bool} {g : TG} (h : EvX K cl p tl σ G M d1 M1) (hd : d1 = .lst (l.map enc)) (hl : l.length ≤ 10000000)
    (hs : ∀ G1 e x b, Same G G1 → b ∈ l → Rep K cl G1 x (enc b) → LcG K cl g tt te vs σ G1 (e :: M1) x (keep b) fun v G' => ∃ c, P b c ∧ Rep K cl G' v (encY c)) :
    EvG (tLc (iSeq K tl) g tt te vs) σ G M fun v G' M' => M' = M1 ∧ ∃ cs, Paired P (l.filter keep) cs ∧ Rep K cl G' v (.lst (cs.map encY)) := fun G1 H1 s S Q k =>
  .inl (h G1 H1 s S _ fun x G2 H2 g2 rx => by
    rw [hd] at rx
    obtain ⟨a, us, e, sq, rs⟩ := rx.of_lst
    exact ⟨a, e, ⟨us, g2.sep.sub.seq sq⟩, eg_lcY (K := K) (cl := cl) (G := G2) (U := fun x b G => Rep K cl G x (enc b)) (yields_lst (xs := us)) (fun e G' H' s' S' => (s'.trans S'.sub).seq sq)
      (fun i x hx => by
        obtain ⟨d, hdi, rd⟩ := rs.get hx
        rw [List.getElem?_map] at hdi
        obtain ⟨b, hb, rfl⟩ := Option.map_eq_some_iff.mp hdi
        exact ⟨b, hb, rd⟩) (by rw [rs.length, List.length_map]) (fun x b G' s' r' => r'.mono s') hl (Same.refl _) g2.sep (fun G3 e x b s3 => hs G3 e x b ((s.trans g2.same).trans s3)) fun v G' H' s' S' hc => k v G' H' M1 (g2.same.trans s') S' ⟨rfl, hc⟩⟩)
theorem yields_rng {n : Nat} : Yields (Itr 0 n) ((List.range n).map fun i : Nat => V.int (i : Int)) (fun _ => True) where
  go := fun i H hi _ => by
    rw [List.length_map, List.length_range] at hi
    exact hi
  stop := fun H _ => by
    rw [List.length_map, List.length_range]
    exact Nat.le_refl n
  yld := fun i H x H' hi _ y => ⟨y.1, by
    rw [List.length_map, List.length_range] at hi
    rw [List.getElem?_map, List.getElem?_range hi, y.2, Int.zero_add]
    rfl⟩
/-- [e for k in range(n)] -/
theorem eg_lcRng {γ : Type} {n : Int} {encY : γ → D} {P : Nat → γ → Prop} {vs : List Nat} {g : TG} (h : EvA K cl p tx σ G M [.int n] M1) (hn : -1000000 ≤ n ∧ n ≤ 1000000)
    (hs : ∀ G1 e (i : Nat), Same G G1 → (i : Int) < n → LcG K cl g tYes te vs σ G1 (e :: M1) (.int (i : Int)) true fun v G' => ∃ c, P i c ∧ Rep K cl G' v (encY c)) :
    EvG (tLc (iRng1 tx) g tYes te vs) σ G M fun v G' M' => M' = M1 ∧ ∃ cs, Paired P (List.range n.toNat) cs ∧ Rep K cl G' v (.lst (cs.map encY)) := fun G1 H1 s S Q k =>
  h G1 H1 s S _ fun xs G2 H2 g2 rx => by
    obtain ⟨u, rfl, hu⟩ := reps1 rx
    refine ⟨n, by rw [hu.of_int], by omega, by omega, ?_⟩
    have e0 : (List.range n.toNat).filter (fun _ => true) = List.range n.toNat := List.filter_eq_self.mpr fun _ _ => rfl
    refine eg_lcY (K := K) (cl := cl) (G := G2) (l := List.range n.toNat) (keep := fun _ => true) (U := fun x i _ => x = .int (i : Int)) yields_rng (fun _ _ _ _ _ => trivial)
      (fun i x hx => ?_) (by rw [List.length_map]) (fun _ _ _ _ r => r) (by rw [List.length_range]; omega) (Same.refl _) g2.sep (fun G3 e x i s3 hi hx => ?_) fun v G' H' s' S' hc => k v G' H' M1 (g2.same.trans s') S' ⟨rfl, by rw [e0] at hc; exact hc⟩
    · rw [List.getElem?_map] at hx
      obtain ⟨j, hj, rfl⟩ := Option.map_eq_some_iff.mp hx
      exact ⟨j, hj, rfl⟩
    · subst hx
      have := List.mem_range.mp hi
      exact hs G3 e i ((s.trans g2.same).trans s3) (by omega)

/-! ### == of things of one shape -/
/-- a thing that == finds equal to itself at once -/
def simpV : V → Bool
  | .byt _ => false
  | .flt _ => false
  | .ty _ => false
  | _ => true
section
variable (K : PySem.W.Frag)
mutual
/-- at most n deep alike: == says True -/
inductive Like (H : Hp) : Nat → V → V → Prop
  | eq {n : Nat} {v : V} : simpV v = true → Like H n v v
  | lists {n : Nat} {a b : Addr} {vs ws : List V} : SqL K H a vs → SqL K H b ws → Likes H n vs ws → Like H (n + 1) (.ref a) (.ref b)
  | tups {n : Nat} {a b : Addr} {vs ws : List V} : SqT K H a vs → SqT K H b ws → Likes H n vs ws → Like H (n + 1) (.ref a) (.ref b)
  | dicts {n : Nat} {a b : Addr} {kvs kws : List (Key × V)} : H a = some (.dK kvs) → H b = some (.dK kws) → kvs.map (·.1) = kws.map (·.1) → Likes H n (kvs.map (·.2)) (kws.map (·.2)) → Like H (n + 1) (.ref a) (.ref b)
inductive Likes (H : Hp) : Nat → List V → List V → Prop
  | nil {n : Nat} : Likes H n [] []
  | cons {n : Nat} {v w : V} {vs ws : List V} : Like H n v w → Likes H n vs ws → Likes H n (v :: vs) (w :: ws)
end
end
end
theorem rep_simp {K : PySem.W.Frag} {cl : Nat → Addr} {G : Hp} {v : V} {d : D} (h : Rep K cl G v d) : simpV v = true := by
  cases d with
  | non => rw [h.of_non]; rfl
  | bl b => rw [h.of_bl]; rfl
  | int i => rw [h.of_int]; rfl
  | str s => rw [h.of_str]; rfl
  | loc a => rw [h.of_loc]; rfl
  | lst ds => obtain ⟨a, vs, rfl, _⟩ := h.of_lst; rfl
  | tup ds => obtain ⟨a, vs, rfl, _⟩ := h.of_tup; rfl
  | ins c ns ds => obtain ⟨a, dx, vs, rfl, _⟩ := h.of_ins; rfl
  | dic ks ds => obtain ⟨a, kws, rfl, _⟩ := h.of_dic; rfl
theorem likes_reps {K K' : PySem.W.Frag} {cl : Nat → Addr} {G H : Hp} {n : Nat} : ∀ {vs : List V} {ds : List D}, Reps K cl G vs ds → Likes K' H n vs vs
  | vs, [], h => by
    simp only [Reps] at h
    subst h
    exact .nil
  | vs, d :: ds, h => by
    obtain ⟨v, ws, rfl, r1, r2⟩ := h.uncons
    exact .cons (.eq (rep_simp r1)) (likes_reps r2)
/-! its proof -/
theorem valueAt_pair {κ : Type} [DecidableEq κ] {T : Value → Value → Prop} : ∀ {ka kb : List (κ × Value)}, Paired (fun p q => p.1 = q.1 ∧ T p.2 q.2) ka kb → (ka.map (·.1)).Nodup → ∀ k v y, (k, v) ∈ ka → PySem.valueAt kb k = some y → T v y
  | _, _, .nil, _, _, _, _, h, _ => nomatch h
  | p :: ka, q :: kb, .cons h t, nd, k, v, y, hm, hv => by
    rw [List.map_cons, List.nodup_cons] at nd
    unfold PySem.valueAt at hv
    rw [List.find?_cons] at hv
    rcases List.mem_cons.mp hm with e | hm
    · have e1 : q.1 = k := by rw [← h.1, ← e]
      rw [decide_eq_true e1] at hv
      have e2 : q.2 = y := Option.some.inj hv
      rw [← e2]
      have := h.2
      rw [← e] at this
      exact this
    · have e1 : ¬ q.1 = k := fun z => nd.1 (by rw [h.1, z]; exact List.mem_map.mpr ⟨_, hm, rfl⟩)
      rw [decide_eq_false e1] at hv
      exact valueAt_pair t nd.2 k v y hm hv
theorem valueAt_isSome {κ : Type} [DecidableEq κ] : ∀ {kb : List (κ × Value)} {k : κ}, k ∈ kb.map (·.1) → (PySem.valueAt kb k).isSome = true
  | [], k, h => nomatch h
  | q :: kb, k, h => by
    unfold PySem.valueAt
    rw [List.find?_cons]
    by_cases e : q.1 = k
    · rw [decide_eq_true e]; rfl
    · rw [decide_eq_false e]
      rw [List.map_cons] at h
      rcases List.mem_cons.mp h with z | z
      · exact absurd z.symm e
      · exact valueAt_isSome z
theorem kv_vals {κ : Type} {kvs : List (κ × V)} {vs : List (κ × Value)} (h : KV kvs vs) : Vals (kvs.map (·.2)) (vs.map (·.2)) := by
  induction h with
  | nil => exact .nil
  | cons h t ih => exact .cons h.2 ih
theorem kv_keys {κ : Type} {kvs : List (κ × V)} {vs : List (κ × Value)} (h : KV kvs vs) : kvs.map (·.1) = vs.map (·.1) := by
  induction h with
  | nil => rfl
  | cons h t ih => rw [List.map_cons, List.map_cons, ih, h.1]
theorem paired_at {κ : Type} {T : Value → Value → Prop} : ∀ {va vb : List (κ × Value)}, va.map (·.1) = vb.map (·.1) → (∀ (j : Nat) (h1 : j < (va.map (·.2)).length) (h2 : j < (vb.map (·.2)).length), T (va.map (·.2))[j] (vb.map (·.2))[j]) → Paired (fun p q => p.1 = q.1 ∧ T p.2 q.2) va vb
  | [], [], _, _ => .nil
  | [], _ :: _, h, _ => by simp at h
  | _ :: _, [], h, _ => by simp at h
  | p :: va, q :: vb, h, t => by
    rw [List.map_cons, List.map_cons, List.cons.injEq] at h
    exact .cons ⟨h.1, t 0 (by simp) (by simp)⟩ (paired_at h.2 fun j h1 h2 => t (j + 1) (by simpa using h1) (by simpa using h2))
section
variable {X : Cx} {pins : List (Addr × Obj)} {σ : St} {H : Hp} {s : Shared}
mutual
theorem Like.tree (I : Inv X pins σ H s) : ∀ {n : Nat} {v w : V} {u t : Value}, Like X.K H n v w → RelV v u → RelV w t → PySem.W.EqTree X.prog X.w s n u t true
  | n, v, _, u, t, .eq hv, ru, rt => by
    cases v with
    | non => obtain rfl : u = Value.none := ru; obtain rfl : t = Value.none := rt; exact .same
    | bl b => obtain rfl : u = Value.bool b := ru; obtain rfl : t = Value.bool b := rt; exact .same
    | int i =>
      obtain ⟨a, rfl⟩ := ru
      obtain ⟨b, rfl⟩ := rt
      refine .leaf fun A _ => ?_
      have h := SeqAt.EqAt.int_int (A := A) (s := s) i a i b
      rw [beq_self_eq_true] at h
      exact h
    | str x =>
      obtain ⟨a, rfl⟩ := ru
      obtain ⟨b, rfl⟩ := rt
      refine .leaf fun A _ => ?_
      have h := SeqAt.EqAt.str_str (A := A) (s := s) x a x b
      rw [beq_self_eq_true] at h
      exact h
    | ref a => obtain rfl : u = Value.ref a := ru; obtain rfl : t = Value.ref a := rt; exact .same
    | byt _ => cases hv
    | flt _ => cases hv
    | ty _ => cases hv
  | _, _, _, u, t, .lists (a := a) (b := b) (n := n) ha hb hl, ru, rt => by
    obtain rfl : u = Value.ref a := ru
    obtain rfl : t = Value.ref b := rt
    by_cases e : a = b
    · subst e; exact .same
    obtain ⟨ua, ra, pa, _⟩ := I.list ha
    obtain ⟨ub, rb, pb, _⟩ := I.list hb
    obtain ⟨hz, tr⟩ := Likes.trees I hl ra rb
    have h := PySem.W.EqTree.lists (e := fun _ => true) e pa.isList pb.isList (by rw [List.size_toArray, List.size_toArray]; exact hz) (n := n) fun j h1 h2 => tr j (by simpa using h1) (by simpa using h2)
    rwa [List.all_eq_true.mpr fun _ _ => rfl] at h
  | _, _, _, u, t, .tups (a := a) (b := b) (n := n) ha hb hl, ru, rt => by
    obtain rfl : u = Value.ref a := ru
    obtain rfl : t = Value.ref b := rt
    by_cases e : a = b
    · subst e; exact .same
    obtain ⟨ua, ra, pa, _⟩ := I.tuple ha
    obtain ⟨ub, rb, pb, _⟩ := I.tuple hb
    obtain ⟨hz, tr⟩ := Likes.trees I hl ra rb
    have h := PySem.W.EqTree.tuples (e := fun _ => true) e pa pb (n := n) fun j h1 h2 => tr j (by simpa using h1) (by simpa using h2)
    rwa [List.all_eq_true.mpr fun _ _ => rfl, List.size_toArray, List.size_toArray, hz, beq_self_eq_true] at h
  | _, _, _, u, t, .dicts (a := a) (b := b) (n := n) (kvs := kvs) (kws := kws) ha hb hk hl, ru, rt => by
    obtain rfl : u = Value.ref a := ru
    obtain rfl : t = Value.ref b := rt
    by_cases e : a = b
    · subst e; exact .same
    obtain ⟨_, sa, va, ka, da⟩ := dk_of I.hok ha
    obtain ⟨_, sb, vb, kb, db⟩ := dk_of I.hok hb
    obtain ⟨hz, tr⟩ := Likes.trees I hl (kv_vals ka) (kv_vals kb)
    have hkk : va.map (·.1) = vb.map (·.1) := by rw [← kv_keys ka, ← kv_keys kb]; exact hk
    have hp := paired_at (T := fun u t => PySem.W.EqTree X.prog X.w s n u t true) hkk tr
    obtain ⟨_, _, _, _, _, _, _, _, nda⟩ := id da
    have h := PySem.W.EqTree.dicts (e := fun _ => true) e sa sb da db (n := n) fun k v y hm hv => valueAt_pair (T := fun u t => PySem.W.EqTree X.prog X.w s n u t true) hp nda k v y hm hv
    have e1 : va.length = vb.length := by simpa using congrArg List.length hkk
    have e2 : va.all (fun p => (PySem.valueAt vb p.1).isSome && true) = true := by
      rw [List.all_eq_true]
      intro p hp'
      rw [Bool.and_true]
      exact valueAt_isSome (by rw [← hkk]; exact List.mem_map.mpr ⟨p, hp', rfl⟩)
    rw [e2, e1] at h
    simpa using h
theorem Likes.trees (I : Inv X pins σ H s) : ∀ {n : Nat} {vs ws : List V} {us ts : List Value}, Likes X.K H n vs ws → Vals vs us → Vals ws ts → us.length = ts.length ∧ ∀ (j : Nat) (h1 : j < us.length) (h2 : j < ts.length), PySem.W.EqTree X.prog X.w s n us[j] ts[j] true
  | _, _, _, _, _, .nil, .nil, .nil => ⟨rfl, fun j h => absurd h (Nat.not_lt_zero _)⟩
  | _, _, _, _, _, .cons h t, .cons r1 q1, .cons r2 q2 => by
    obtain ⟨hz, tr⟩ := Likes.trees I t q1 q2
    refine ⟨by rw [List.length_cons, List.length_cons, hz], fun j h1 h2 => ?_⟩
    cases j with
    | zero => exact h.tree I r1 r2
    | succ i => exact tr i (by simpa using h1) (by simpa using h2)
end
end
/-- x == y, two tuples or two lists of one shape -/
def rEqL (K : PySem.W.Frag) : R2 := fun x y H Q => ∃ a b vs ws, x = .ref a ∧ y = .ref b ∧ ((SqT K H a vs ∧ SqT K H b ws) ∨ (SqL K H a vs ∧ SqL K H b ws)) ∧ Likes K H 16 vs ws ∧ Q (.bl true) H
theorem op_eqL {X : Cx} (hu : X.A.units + 64 < cLine) : OpR X (compareOp .Eq) (rEqL X.K) := by
  rintro pins s σ H x y v u Q I rx ry ⟨a, b, vs, ws, rfl, rfl, hs, hl, q⟩
  obtain rfl : v = Value.ref a := rx
  obtain rfl : u = Value.ref b := ry
  rcases hs with ⟨ha, hb⟩ | ⟨ha, hb⟩
  · obtain ⟨ua, ra, pa, _⟩ := I.tuple ha
    obtain ⟨ub, rb, pb, _⟩ := I.tuple hb
    obtain ⟨hz, tr⟩ := Likes.trees I hl ra rb
    refine PySem.W.eq_tuplesT (e := fun _ => true) (n := 16) pa pb (fun j h1 h2 => tr j (by simpa using h1) (by simpa using h2)) (by omega) ?_
    rw [List.all_eq_true.mpr fun _ _ => rfl, List.size_toArray, List.size_toArray, hz, beq_self_eq_true]
    exact ⟨.bl true, H, I, rfl, q⟩
  · obtain ⟨ua, ra, pa, _⟩ := I.list ha
    obtain ⟨ub, rb, pb, _⟩ := I.list hb
    obtain ⟨hz, tr⟩ := Likes.trees I hl ra rb
    refine PySem.W.eq_listsT (e := fun _ => true) (n := 16) pa.isList pb.isList (by rw [List.size_toArray, List.size_toArray]; exact hz) (fun j h1 h2 => tr j (by simpa using h1) (by simpa using h2)) (by omega) ?_
    rw [List.all_eq_true.mpr fun _ _ => rfl]
    exact ⟨.bl true, H, I, rfl, q⟩
end Cp
/-! Cp14: smaller rules. -/
namespace Cp
open PySem L2
theorem EvA.is {K : PySem.W.Frag} {cl : Nat → Addr} {p : Bool} {M M1 : ML} {G : Hp} {σ : St} {tx : TA} {ds es : List D} (h : EvA K cl p tx σ G M ds M1) (hd : ds = es) : EvA K cl p tx σ G M es M1 := hd ▸ h
theorem Op2.is {K : PySem.W.Frag} {cl : Nat → Addr} {p : Bool} {r : R2} {M : ML} {x y z x' y' z' : D} (h : Op2 K cl p r M x y z) (hx : x' = x) (hy : y' = y) : Op2 K cl p r M x' y' z := by
  rw [hx, hy]
  exact h
theorem s_dropG {te : TE} {σ : St} {G H : Hp} {M : ML} {F : FG} {nx : St → Hp → Prop} {rt : VK} {bk ct : St → Hp → Prop} (S : Sep G H M) (h : EvG te σ G M F) (k : ∀ v G' H' M', Same G G' → Sep G' H' M' → F v G' M' → nx σ H') : tDrop te ⟨nx, rt, bk, ct⟩ σ H :=
  h G H (Same.refl _) S _ fun v G2 H2 M2 s S2 f => k v G2 H2 M2 s S2 f
section
variable [Wo] {K : PySem.W.Frag} {cl : Nat → Addr} {p q r : Bool} {M M1 M2 M3 M4 : ML} {G G1 G2 G3 H H1 H2 H3 : Hp} {σ : St} {ta tb tc te tk tv tl : TE} {tx tr : TA} {tt tu : TT} {d d1 d2 d3 : D} {ds es : List D}
theorem ag_nil {F : AG} (h : ∀ G', Same G G' → F [] G' M) : EvAG tNil σ G M F := fun G1 H1 s S Q k => k [] G1 H1 M (Same.refl _) S (h G1 s)
theorem ag_consX {F : AG} (h : EvX K cl p te σ G M d M1) (hr : ∀ v G', Same G G' → Rep K cl G' v d → EvAG tr σ G' M1 fun vs G2 M2 => F (v :: vs) G2 M2) : EvAG (tCons te tr) σ G M F := fun G1 H1 s S Q k =>
  h G1 H1 s S _ fun v G2 H2 g2 rv => hr v G2 (s.trans g2.same) rv G2 H2 (Same.refl _) g2.sep _ fun vs G3 H3 M3 s3 S3 f3 => k (v :: vs) G3 H3 M3 (g2.same.trans s3) S3 f3
/-- a new instance over what was laid for it, as data -/
theorem eg_imakeAG {R : List D → List D → Prop} {E : XK} {c : Nat} {ns : List Str} {F : FG} {Fa : AG} (ha : EvAG tx σ G M Fa)
    (hR : ∀ vs G' M', Same G G' → Fa vs G' M' → ∃ ds es, Reps K cl G' vs ds ∧ R ds es ∧ ∀ w G'', Same G' G'' → Rep K cl G'' w (.ins c ns es) → F w G'' M') : EvG (tMake (cl c) (ISp K cl c ns R) [] E tx) σ G M F := fun G1 H1 s S Q k =>
  ha G1 H1 s S _ fun xs G2 H2 M2 s2 S2 fa => fun x dx nx ndx ne => by
    obtain ⟨ds, es, rs, hes, hk⟩ := hR xs G2 M2 (s.trans s2) fa
    have ndG := S2.freshG ndx
    have S1 : Sep (upd G2 dx (.own x)) (upd H2 dx (.own x)) M2 := S2.newG ndx
    have nx' : upd H2 dx (.own x) x = none := by rw [upd_ne ne.symm]; exact nx
    have S3 := S1.newM (o := .ins (cl c) dx []) nx'
    refine ⟨x, dx, xs, ds, es, _, M2, by rw [List.append_nil], hes, S3, rs.mono (Same.upd ndG), fun ws G' H' s' S' hl rs' => ⟨rfl, ?_⟩⟩
    obtain ⟨S4, s4⟩ := S'.freeze
    have sA := ((Same.upd ndG).trans s').trans s4
    exact k (.ref x) _ H' M2 (s2.trans sA) S4 (hk _ _ sA (Rep.ins upd_same hl (rs'.mono s4)))
/-- a method of an owned instance over what was laid for it -/
theorem eg_methAG {R : RG} {E : XK} {F : FG} {Fa : AG} {C x dx : Addr} {fs : List (Str × V)} {m : Str} (he : EvX K cl p ta σ G M (.loc x) M1) (hm : At M1 x (.ins C dx fs)) (hn : fs.lookup m = none) (ha : EvAG tx σ G M1 Fa)
    (hR : ∀ vs G' H' M' (T : V → Hp → ML → Prop), Same G G' → Sep G' H' M' → Fa vs G' M' → (∀ v G'' M'', Same G' G'' → F v G'' M'' → T v G'' M'') → ∃ M2, M'.Perm M2 ∧ R (.ref x :: vs) G' M2 T) : EvG (tMeth C m (GSp R) [] E ta tx) σ G M F := fun G1 H1 s S Q k =>
  he G1 H1 s S _ fun y G2 H2 g2 ry => by
    obtain rfl := ry.of_loc
    refine ⟨x, dx, fs, rfl, g2.sep.look hm, hn, ha G2 H2 (s.trans g2.same) g2.sep _ fun xs G3 H3 M3 s3 S3 fa => ?_⟩
    obtain ⟨M4, pm, hh⟩ := hR xs G3 H3 M3 (fun v G' M' => Same G3 G' → ∀ H', Sep G' H' M' → Q v H') ((s.trans g2.same).trans s3) S3 fa fun v G'' M'' s'' hF sm H' S' => k v G'' H' M'' ((g2.same.trans s3).trans sm) S' hF
    refine ⟨G3, M4, S3.perm pm, ?_⟩
    rw [List.append_nil]
    exact hh
/-- a < b < c -/
theorem ev_chain {rr r2 : R2} {f g : Bool} (ha : EvX K cl true ta σ G M d1 M) (hb : EvX K cl true tb σ G M d2 M) (hc : EvX K cl true tc σ G M d3 M) (h1 : Op2 K cl true rr M d1 d2 (.bl f)) (h2 : Op2 K cl true r2 M d2 d3 (.bl g)) : EvX K cl true (tChain rr r2 ta tb tc) σ G M (.bl (f && g)) M := fun G1 H1 s S Q k =>
  ha G1 H1 s S _ fun x G2 H2 g2 rx => by
    obtain ⟨rfl, rfl, -⟩ := g2.eq rfl
    refine hb _ _ s S _ fun y G3 H3 g3 ry => ?_
    obtain ⟨rfl, rfl, -⟩ := g3.eq rfl
    refine h1 _ _ S x y rx ry _ fun z G4 H4 g4 rz => ?_
    obtain ⟨rfl, rfl, -⟩ := g4.eq rfl
    refine ⟨f, rz.of_bl, ?_⟩
    cases f with
    | false => exact k _ _ _ (Go.refl S) Rep.bl
    | true =>
      show tc σ _ _
      refine hc _ _ s S _ fun w G5 H5 g5 rw' => ?_
      obtain ⟨rfl, rfl, -⟩ := g5.eq rfl
      exact h2 _ _ S y w ry rw' Q k
/-- the pairs of a display, laid on the way -/
def EvPG (trs : List (TE × TE)) (σ : St) (G : Hp) (M : ML) (F : List (Key × V) → Hp → ML → Prop) : Prop :=
  ∀ G1 H1, Same G G1 → Sep G1 H1 M → ∀ Q : List (V × V) → Hp → Prop, (∀ kvs G2 H2 M2, Same G1 G2 → Sep G2 H2 M2 → F kvs G2 M2 → Q (kvs.map fun kv => (kV kv.1, kv.2)) H2) → tPairs trs σ H1 Q
theorem epg_nil {F : List (Key × V) → Hp → ML → Prop} (h : ∀ G', Same G G' → F [] G' M) : EvPG [] σ G M F := fun G1 H1 s S Q k => k [] G1 H1 M (Same.refl _) S (h G1 s)
theorem epg_cons {trs : List (TE × TE)} {k : Key} {F : List (Key × V) → Hp → ML → Prop} {F1 : FG} (h1 : EvX K cl p tk σ G M d1 M1) (hk : d1 = kD k) (h2 : EvG tv σ G M1 F1) (h3 : ∀ v G' M', Same G G' → F1 v G' M' → EvPG trs σ G' M' fun kvs G2 M2 => F ((k, v) :: kvs) G2 M2) : EvPG ((tk, tv) :: trs) σ G M F := fun G1 H1 s S Q kk =>
  h1 G1 H1 s S _ fun x G2 H2 g2 rx => h2 G2 H2 (s.trans g2.same) g2.sep _ fun y G3 H3 M3 s3 S3 f3 => h3 y G3 M3 ((s.trans g2.same).trans s3) f3 G3 H3 (Same.refl _) S3 _ fun kvs G4 H4 M4 s4 S4 f4 => by
    rw [hk] at rx
    have e := rep_kD rx
    subst e
    exact kk ((k, y) :: kvs) G4 H4 M4 ((g2.same.trans s3).trans s4) S4 f4
theorem eg_dispG {trs : List (TE × TE)} {F : FG} (h : ∀ u, EvPG trs σ G ((u, .dK []) :: M) fun kvs G' M' => kvs.length ≤ 15 ∧ ∃ M2, Ch M' u (.dK []) (.dK (mergeK [] kvs)) M2 ∧ F (.ref u) G' M2) : EvG (tDisp trs) σ G M F := fun G1 H1 s S Q k => fun u hu =>
  h u G1 _ s (S.newM hu) _ fun kvs G2 H2 M2 s2 S2 ⟨hl, M3, hc, f⟩ => ⟨S2.look hc.at, kvs, rfl, hl, k (.ref u) G2 _ M3 s2 (S2.ch hc) f⟩
end
theorem cut_take {xs : List D} {n : Nat} : cutD xs none (some (n : Int)) = xs.take n := by
  unfold cutD
  rw [HT.sIx_none, HT.sIx_nat, List.drop_zero, Nat.sub_zero]
  rcases Nat.le_total n xs.length with h | h
  · rw [Nat.min_eq_left h]
  · rw [Nat.min_eq_right h, List.take_of_length_le (Nat.le_refl _), List.take_of_length_le h]
theorem cut_drop {xs : List D} {n : Nat} : cutD xs (some (n : Int)) none = xs.drop n := by
  unfold cutD
  rw [HT.sIx_none, HT.sIx_nat]
  rcases Nat.le_total n xs.length with h | h
  · rw [Nat.min_eq_left h, List.take_of_length_le (by rw [List.length_drop]; exact Nat.le_refl _)]
  · rw [Nat.min_eq_right h, List.drop_of_length_le (Nat.le_refl _), List.drop_of_length_le h, List.take_nil]
section
variable [Wo] {K : PySem.W.Frag} {cl : Nat → Addr} {p q r : Bool} {M M1 M2 M3 M4 : ML} {G G1 G2 G3 H H1 H2 H3 : Hp} {σ : St} {ta tb tc te tk tv tl : TE} {tx tr : TA} {tt tu : TT} {d d1 d2 d3 : D} {ds es : List D}
/-- a op b, b laid on the way -/
theorem eg_opR {rr : R2} {F1 F : FG} (ha : EvX K cl p ta σ G M d1 M1) (hb : EvG tb σ G M1 F1) (hk : ∀ v G' M', Same G G' → F1 v G' M' → ∃ d2 d q, Rep K cl G' v d2 ∧ Op2 K cl q rr M' d1 d2 d ∧ ∀ w G'', Same G' G'' → Rep K cl G'' w d → F w G'' M') : EvG (tOp rr ta tb) σ G M F := fun G1 H1 s S Q k =>
  ha G1 H1 s S _ fun x G2 H2 g2 rx => hb G2 H2 (s.trans g2.same) g2.sep _ fun y G3 H3 M3 s3 S3 f3 => by
    obtain ⟨d2, d, q, ry, ho, hf⟩ := hk y G3 M3 ((s.trans g2.same).trans s3) f3
    exact ho G3 H3 S3 x y (rx.mono s3) ry _ fun w G4 H4 g4 rw' => k w G4 H4 M3 ((g2.same.trans s3).trans g4.same) g4.sep (hf w G4 g4.same rw')
/-- (list(xs), dict(d)): the same things again -/
theorem eg_before {i j : Nat} {a e : Addr} {vs : List V} {kws : List (Key × V)} (hi : σ[i]? = some (some (.ref a))) (hj : σ[j]? = some (some (.ref e))) (ha : SqL K G a vs) (he : G e = some (.dK kws)) :
    EvG (tTup (tCons (tCB (rListA K) (tCons (tVar i) tNil)) (tCons (tCB rDictD (tCons (tVar j) tNil)) tNil))) σ G M fun v G' M' => M' = M ∧ ∃ t b f, v = .ref t ∧ SqT K G' t [.ref b, .ref f] ∧ SqL K G' b vs ∧ G' f = some (.dK kws) := fun G1 H1 s S Q k => by
  refine ⟨_, hi, a, vs, rfl, .inl ((s.trans S.sub).seq ha), fun l hl => ?_⟩
  have nl := S.freshG hl
  have S1 := S.newG (o := .lst vs) hl
  have s1 : Same G1 (upd G1 l (.lst vs)) := Same.upd nl
  refine ⟨_, hj, e, kws, rfl, .inl (S1.sub _ _ (s1 _ _ (s _ _ he))), fun m hm => ?_⟩
  have nm := S1.freshG hm
  have S2 := S1.newG (o := .dK kws) hm
  have s2 := Same.upd (o := .dK kws) nm
  refine ⟨by show 2 ≤ sizeLine; decide, fun t ht => ?_⟩
  have nt := S2.freshG ht
  have S3 := S2.newG (o := .tup [.ref l, .ref m]) ht
  have s3 := Same.upd (o := .tup [V.ref l, V.ref m]) nt
  refine k (.ref t) _ _ M ((s1.trans s2).trans s3) S3 ⟨rfl, t, l, m, rfl, .inl (.inl upd_same), ?_, s3 _ _ upd_same⟩
  exact (s2.trans s3).seq (.inl (.inl upd_same))
/-- (xs, d) == what was kept of them -/
theorem ev_likeT {i j k0 : Nat} {a e t b f : Addr} {vs : List V} {kws : List (Key × V)} {kes : List (Key × D)} (hi : σ[i]? = some (some (.ref a))) (hj : σ[j]? = some (some (.ref e))) (hk : σ[k0]? = some (some (.ref t))) (ha : SqL K G a vs) (rs : Reps K cl G vs ds) (he : G e = some (.dK kws)) (rk : KRep K cl G kws kes)
    (ht : SqT K G t [.ref b, .ref f]) (hb : SqL K G b vs) (hf : G f = some (.dK kws)) : EvX K cl false (tOp (rEqL K) (tTup (tCons (tVar i) (tCons (tVar j) tNil))) (tVar k0)) σ G M (.bl true) M := fun G1 H1 s S Q k => by
  refine ⟨_, hi, _, hj, by show 2 ≤ sizeLine; decide, fun p hp => ⟨_, hk, p, t, [.ref a, .ref e], [.ref b, .ref f], rfl, rfl, .inl ⟨.inl (.inl upd_same), ?_⟩, ?_, ?_⟩⟩
  · exact Same.seqT ((s.trans S.sub).trans (Same.upd hp)) ht
  · have sH := (s.trans S.sub).trans (Same.upd (o := .tup [V.ref a, V.ref e]) hp)
    exact .cons (.lists (n := 15) (sH.seq ha) (sH.seq hb) (likes_reps rs)) (.cons (.dicts (n := 15) (sH _ _ he) (sH _ _ hf) rfl (likes_reps rk.snd)) .nil)
  · have n := S.freshG hp
    exact k _ _ _ (Go.of (Same.upd n) (S.newG hp)) Rep.bl
end
theorem perm_map_inv {α β : Type} {f : α → β} : ∀ {es : List β} {l : List α}, es.Perm (l.map f) → ∃ l' : List α, es = l'.map f ∧ l'.Perm l := by
  have gen : ∀ {es ds : List β}, es.Perm ds → ∀ l : List α, ds = l.map f → ∃ l' : List α, es = l'.map f ∧ l'.Perm l := by
    intro es ds h
    induction h with
    | nil =>
      intro l e
      cases l with
      | nil => exact ⟨[], rfl, List.Perm.refl _⟩
      | cons a l => cases e
    | cons x h ih =>
      intro l e
      cases l with
      | nil => cases e
      | cons a l =>
        rw [List.map_cons, List.cons.injEq] at e
        obtain ⟨l', e', p'⟩ := ih l e.2
        exact ⟨a :: l', by rw [e', e.1]; rfl, p'.cons a⟩
    | swap x y t =>
      intro l e
      cases l with
      | nil => cases e
      | cons a l =>
        cases l with
        | nil => cases e
        | cons b l =>
          rw [List.map_cons, List.map_cons, List.cons.injEq, List.cons.injEq] at e
          exact ⟨b :: a :: l, by rw [e.1, e.2.1, e.2.2]; rfl, List.Perm.swap a b l⟩
    | trans h1 h2 ih1 ih2 =>
      intro l e
      obtain ⟨l2, e2, p2⟩ := ih2 l e
      obtain ⟨l1, e1, p1⟩ := ih1 l2 e2
      exact ⟨l1, e1, p1.trans p2⟩
  intro es l h
  exact gen h l rfl
theorem any_eqb {x : D} (hx : x.isDat = true) : ∀ {ds : List D}, D.areDat ds = true → ((D.pyds ds).any fun z => PyData.eqv z x.pyd) = ds.any fun z => D.eqb z x
  | [], _ => by simp [D.pyds]
  | d :: ds, h => by
    simp only [D.areDat, Bool.and_eq_true] at h
    simp only [D.pyds, List.any_cons]
    rw [eqv_eqb d x h.1 hx, any_eqb hx h.2]
theorem o_inDat {K : PySem.W.Frag} {cl : Nat → Addr} {M : ML} {x : D} {ds : List D} (hx : x.isDat = true) (dx : x.dep ≤ 64) (hd : D.areDat ds = true) (dd : D.deps ds ≤ 63) : Op2 K cl true (rInD K) M x (.lst ds) (.bl (ds.any fun z => D.eqb z x)) := op2_val fun G1 H1 S u v ru rv => ⟨_, Rep.bl, fun Q q => by
  have hl : (D.lst ds).isDat = true := by simp only [D.isDat]; exact hd
  have hp := (rv.mono S.sub).dp hl
  simp only [D.pyd] at hp
  have h2 := shaped_of hl (by simp only [D.dep]; omega)
  simp only [D.pyd] at h2
  exact ⟨x.pyd, D.pyds ds, (ru.mono S.sub).dp hx, hp, shaped_of hx dx, h2, by rw [any_eqb hx hd]; exact q⟩⟩
theorem o_notInDat {K : PySem.W.Frag} {cl : Nat → Addr} {M : ML} {x : D} {ds : List D} (hx : x.isDat = true) (dx : x.dep ≤ 64) (hd : D.areDat ds = true) (dd : D.deps ds ≤ 63) : Op2 K cl true (rNotInD K) M x (.lst ds) (.bl (!ds.any fun z => D.eqb z x)) := op2_val fun G1 H1 S u v ru rv => ⟨_, Rep.bl, fun Q q => by
  have hl : (D.lst ds).isDat = true := by simp only [D.isDat]; exact hd
  have hp := (rv.mono S.sub).dp hl
  simp only [D.pyd] at hp
  have h2 := shaped_of hl (by simp only [D.dep]; omega)
  simp only [D.pyd] at h2
  exact ⟨x.pyd, D.pyds ds, (ru.mono S.sub).dp hx, hp, shaped_of hx dx, h2, by rw [any_eqb hx hd]; exact q⟩⟩
/-- xs * n: a new list that is owned -/
theorem eg_rep {K : PySem.W.Frag} {cl : Nat → Addr} {p q : Bool} {M : ML} {G : Hp} {σ : St} {tx : TA} {tb : TE} {ds : List D} {n : Int} {F : FG} (ha : EvA K cl p tx σ G M ds M) (hl : ds.length ≤ 100) (hb : ∀ u vs, EvX K cl q tb σ G ((u, .lst vs) :: M) (.int n) ((u, .lst vs) :: M)) (h0 : 0 ≤ n) (h1 : n ≤ 100000)
    (hF : ∀ u vs G', Same G G' → Reps K cl G' vs ds → F (.ref u) G' ((u, .lst (List.replicate n.toNat vs).flatten) :: M)) : EvG (tOp rRep (tLst tx) tb) σ G M F := fun G1 H1 s S Q k =>
  ha G1 H1 s S _ fun vs G2 H2 g2 rs => ⟨by rw [rs.length]; exact Nat.le_trans hl (by decide), fun u hu => by
    have S2 := g2.sep.newM (o := .lst vs) hu
    refine hb u vs G2 _ (s.trans g2.same) S2 _ fun y G3 H3 g3 ry => ?_
    refine ⟨u, n, vs, rfl, ry.of_int, g3.sep.look .hd, by omega, by omega, ?_, fun p hp => ?_⟩
    · rw [rs.length]
      have : ds.length * n.toNat ≤ 100 * 100000 := Nat.mul_le_mul hl (by omega)
      exact Nat.le_trans this (by decide)
    · have S4 := g3.sep.drop
      exact k (.ref p) G3 _ _ (g2.same.trans g3.same) (S4.newM hp) (hF p vs G3 ((s.trans g2.same).trans g3.same) (rs.mono g3.same))⟩
/-- str(x), x a text or None -/
def rStrO : List V → Hp → VK → Prop := fun xs H Q => (xs = [.non] ∧ Q (.str "None") H) ∨ ∃ a, xs = [.str a] ∧ Q (.str a) H
theorem call_strO {X : Cx} : CallR X (.type "str") rStrO := by
  rintro pins s σ H xs us Q I r (⟨rfl, q⟩ | ⟨a, rfl, q⟩)
  · obtain ⟨u, rfl, e⟩ := vals1 r
    obtain rfl : u = Value.none := e
    exact PySem.P.str_of_none ⟨.str "None", H, I.tok _, ⟨_, rfl⟩, q⟩
  · obtain ⟨u, rfl, t, rfl⟩ := vals1 r
    exact PySem.P.str_of_str ⟨.str a, H, I, ⟨t, rfl⟩, q⟩
theorem units65 {k : Nat} {A : Around} (r : Room k A) : A.units + 65 < cLine := by have := r.un; omega
end Cp
namespace L87
open PySem L2 Cp
/-! the words of the walk (local, by strings) -/
local macro_rules | `(tactic| walk_at "at") => `(tactic| first | exact At.hd | ((with_reducible apply At.tl); walk_at "at"))
local macro_rules | `(tactic| walk_at "ch") => `(tactic| first | exact Ch.hd | ((with_reducible apply Ch.tl); walk_at "ch"))
local macro_rules | `(tactic| walk_at "same") => `(tactic| first | assumption | exact Same.refl _ | ((with_reducible apply same_tr); assumption; walk_at "same"))
local macro_rules | `(tactic| walk_at "repc") => `(tactic| first | assumption | ((with_reducible apply Rep.mono); assumption; walk_at "repc"))
local macro_rules | `(tactic| walk_at "repsc") => `(tactic| first | assumption | ((with_reducible apply Reps.mono); assumption; walk_at "repsc"))
local macro_rules | `(tactic| walk_at "rep") => `(tactic| first | exact Rep.int | exact Rep.str | exact Rep.bl | exact Rep.non | walk_at "repc" | exact Rep.loc)
local macro_rules | `(tactic| walk_at "num") => `(tactic| first | omega | assumption | decide)
local macro_rules | `(tactic| walk_at "mul") => `(tactic| first | exact .inr ⟨by omega, by omega⟩ | exact .inl ⟨by omega, by omega⟩)
local macro_rules | `(tactic| walk_at "slen") => `(tactic| first | omega | assumption | decide)
local macro_rules | `(tactic| walk_at "op2") => `(tactic| first
  | with_reducible exact o_add_int | with_reducible exact o_sub | with_reducible exact o_lt | with_reducible exact o_le | with_reducible exact o_gt | with_reducible exact o_ge | with_reducible exact o_isN | with_reducible exact o_notN
  | ((with_reducible apply o_mul); walk_at "mul") | ((with_reducible apply o_div); exact ⟨by walk_at "num", by walk_at "num"⟩) | ((with_reducible apply o_mod); walk_at "num")
  | ((with_reducible apply o_eq); exact rfl) | ((with_reducible apply o_ne); exact rfl)
  | ((with_reducible apply o_add_str); walk_at "slen") | ((with_reducible apply o_ixT); walk_at "ix") | ((with_reducible apply o_ixL); walk_at "ix"))
local macro_rules | `(tactic| walk_at "opN") => `(tactic| first
  | with_reducible exact on_int | with_reducible exact on_intB | ((with_reducible apply on_str); first | (exact num_log (by omega) (by omega)) | walk_at "num") | with_reducible exact on_min | with_reducible exact on_max | ((with_reducible apply on_lenS); walk_at "num") | with_reducible exact on_lenL | with_reducible exact on_lenT
  | ((with_reducible apply on_lenM); walk_at "at") | with_reducible exact on_tupL | with_reducible exact on_tupT)
local macro_rules | `(tactic| walk_at "cf") => `(tactic| assumption)
local macro_rules | `(tactic| walk_at "evcall") => `(tactic| fail)
local macro_rules | `(tactic| walk_at "ev") => `(tactic| first
  | with_reducible exact ev_int | with_reducible exact ev_str | with_reducible exact ev_bl | with_reducible exact ev_non
  | ((with_reducible apply ev_var); exact rfl; walk_at "rep")
  | ((with_reducible apply ev_op); walk_at "ev"; walk_at "ev"; walk_at "op2")
  | ((with_reducible apply ev_fld); walk_at "ev"; walk_at "cf"; walk_at "cf"; exact rfl)
  | ((with_reducible apply ev_fldM); walk_at "ev"; walk_at "at"; walk_at "cf"; walk_at "cf"; exact rfl; walk_at "rep")
  | ((with_reducible apply ev_ixM); walk_at "ev"; walk_at "ev"; walk_at "at"; exact rfl; walk_at "rep")
  | ((with_reducible apply ev_ixMD); walk_at "ev"; walk_at "ev"; walk_at "at"; walk_at "repsc"; first | assumption | exact rfl)
  | walk_at "evcall"
  | ((with_reducible apply ev_tupM); walk_at "ev"; walk_at "at"; walk_at "repsc")
  | ((with_reducible apply ev_cb); walk_at "ea"; walk_at "opN")
  | ((with_reducible apply ev_un); walk_at "ev"; exact o1_neg)
  | ((with_reducible apply ev_tup); walk_at "ea"; exact Nat.le_of_ble_eq_true rfl)
  | ((with_reducible apply ev_andV); walk_at "ev"; intro _; walk_at "ev")
  | ((with_reducible apply ev_orV); walk_at "ev"; intro _; walk_at "ev")
  | ((with_reducible apply ev_notV); walk_at "ev")
  | ((with_reducible apply ev_starts); walk_at "ev"; walk_at "ev")
  | ((with_reducible apply ev_slS); walk_at "ev"; walk_at "eo"; walk_at "eo"; walk_at "num")
  | ((with_reducible apply ev_slL); walk_at "ev"; walk_at "eo"; walk_at "eo"))
local macro_rules | `(tactic| walk_at "eo") => `(tactic| first | with_reducible exact eo_none | ((with_reducible apply eo_some); walk_at "ev"))
local macro_rules | `(tactic| walk_at "ea") => `(tactic| first | with_reducible exact ea_nil | ((with_reducible apply ea_cons); walk_at "ev"; walk_at "ea"))
local macro_rules | `(tactic| walk_at "et") => `(tactic| first
  | with_reducible exact et_yes
  | ((with_reducible apply et_tr); walk_at "ev"; exact rfl) | ((with_reducible apply et_trM); walk_at "ev"; walk_at "at")
  | ((with_reducible apply et_test); walk_at "ev") | ((with_reducible apply et_B); walk_at "ev") | ((with_reducible apply et_not); walk_at "et")
  | ((with_reducible apply et_and); walk_at "et"; intro _; walk_at "et")
  | ((with_reducible apply et_or); walk_at "et"; intro _; walk_at "et"))
section
variable [Wo]
/-! ### the cells of the script, a state of one number, its digits -/
abbrev sp_law_cell (K : PySem.W.Frag) (cl : Nat → Addr) : Sp := PSp K cl fun ds d => ∃ (ns : List Int) (k : Int), ds = [.lst (ns.map D.int), .int k] ∧ 0 ≤ k ∧ d = .int (ns.getD k.toNat 0)
abbrev sp_law_state (K : PySem.W.Frag) (cl : Nat → Addr) : Sp := GSp fun vs G M T => ∃ c k, vs = [.int c, .int k] ∧ ∀ p s G', Same G G' → T (.ref p) G' ((p, .lst [.int s]) :: M)
abbrev sp_law_digit (K : PySem.W.Frag) (cl : Nat → Addr) : Sp := GSp fun vs G M T => ∃ a s m M0, vs = [.ref a, .int m] ∧ M = (a, .lst [.int s]) :: M0 ∧ 0 < m ∧ m < 1000000 ∧ ∀ G', Same G G' → T (.int (s % m)) G' ((a, .lst [.int (s / m)]) :: M0)
abbrev sp_law_large (K : PySem.W.Frag) (cl : Nat → Addr) : Sp := GSp fun vs G M T => ∃ v ns, vs = [v] ∧ Rep K cl G v (.lst (List.map D.int ns)) ∧ ∀ b G', Same G G' → T (.bl b) G' M
section
variable {K : PySem.W.Frag} {cl : Nat → Addr} {p q : Bool} {M M1 M2 : ML} {G : Hp} {σ : St} {tx : TA} {te : TE}
theorem ev_digit {E : XK} {a : Addr} {s m : Int} (ha : EvA K cl p tx σ G M [.loc a, .int m] M1) (hc : Ch M1 a (.lst [.int s]) (.lst [.int (s / m)]) M2) (h0 : 0 < m) (h1 : m < 1000000) : EvX K cl false (tCall (sp_law_digit K cl) [] E tx) σ G M (.int (s % m)) M2 := fun G1 H1 s1 S Q k =>
  ha G1 H1 s1 S _ fun xs G2 H2 g2 rx => by
    obtain ⟨u, v, rfl, hu, hv⟩ := reps2 rx
    obtain ⟨M0, p1, p2⟩ := hc.perm
    refine ⟨G2, (a, .lst [.int s]) :: M0, g2.sep.perm p1, a, s, m, M0, by rw [hu.of_loc, hv.of_int]; rfl, rfl, h0, h1, fun G' s' _ H' S' => ?_⟩
    exact k _ G' H' (Go.of (g2.same.trans s') (S'.perm p2.symm)) Rep.int
theorem eg_state {E : XK} {c k : Int} (ha : EvA K cl p tx σ G M [.int c, .int k] M1) : EvG (tCall (sp_law_state K cl) [] E tx) σ G M fun v G' M' => ∃ p s, v = .ref p ∧ M' = (p, .lst [.int s]) :: M1 := fun G1 H1 s1 S Q kk =>
  ha G1 H1 s1 S _ fun xs G2 H2 g2 rx => by
    obtain ⟨u, v, rfl, hu, hv⟩ := reps2 rx
    exact ⟨G2, M1, g2.sep, c, k, by rw [hu.of_int, hv.of_int]; rfl, fun p s G' s' _ H' S' => kk (.ref p) G' H' _ (g2.same.trans s') S' ⟨p, s, rfl, rfl⟩⟩
theorem eg_large {E : XK} {ns : List Int} (ha : EvA K cl p tx σ G M [.lst (ns.map D.int)] M1) : EvG (tCall (sp_law_large K cl) [] E tx) σ G M fun v G' M' => ∃ b, v = .bl b ∧ M' = M1 := fun G1 H1 s1 S Q kk =>
  ha G1 H1 s1 S _ fun xs G2 H2 g2 rx => by
    obtain ⟨u, rfl, hu⟩ := reps1 rx
    exact ⟨G2, M1, g2.sep, u, ns, rfl, hu, fun b G' s' _ H' S' => kk (.bl b) G' H' _ (g2.same.trans s') S' ⟨b, rfl, rfl⟩⟩
end
local macro_rules | `(tactic| walk_at "evcall") => `(tactic| ((with_reducible apply ev_digit); walk_at "ea"; walk_at "ch"; walk_at "num"; walk_at "num"))
local macro_rules | `(tactic| walk_at "R cell") => `(tactic| exact ⟨_, _, rfl, by walk_at "num", rfl⟩)
local macro_rules | `(tactic| walk_at "evcall") => `(tactic| ((with_reducible apply ev_call (R := fun ds d => ∃ (ns : List Int) (k : Int), ds = [.lst (ns.map D.int), .int k] ∧ 0 ≤ k ∧ d = .int (ns.getD k.toNat 0))); walk_at "ea"; walk_at "R cell"))
structure Band where
  label : Str
  pre : Str
  lo : Int
  hi : Int
  price : Int
structure Tariff where
  setup : Int
  bands : List Band
@[reducible] def Band.d (b : Band) : D := .ins 0 ["label", "prefix", "from_hour", "to_hour", "price"] [.str b.label, .str b.pre, .int b.lo, .int b.hi, .int b.price]
@[reducible] def Tariff.d (t : Tariff) : D := .ins 1 ["setup_price", "bands"] [.int t.setup, .tup (t.bands.map Band.d)]
def optD {α : Type} (f : α → D) : Option α → D
  | none => .non
  | some x => f x
def Band.holds (b : Band) (c : Str) (t : Int) : Bool := Txt.startswith c b.pre && (decide (b.lo ≤ t % 86400 / 3600) && decide (t % 86400 / 3600 < b.hi))
def beats (b : Band) : Option Band → Bool
  | none => true
  | some x => decide ((x.pre.length : Int) < b.pre.length)
def better (c : Str) (t : Int) (best : Option Band) (b : Band) : Option Band := if (b.holds c t && beats b best) = true then some b else best
def Tariff.at (tf : Tariff) (c : Str) (t : Int) : Option Band := tf.bands.foldl (better c t) none
/-- signs that a text may hold -/
def okS (x : Str) : Bool := x.cps.all (· < 0x110000)
def Band.Ok (b : Band) : Prop := b.pre.length ≤ 1000 ∧ okS b.label = true
def Tariff.Ok (tf : Tariff) : Prop := ∀ b ∈ tf.bands, b.Ok
def LabOk (l : Str) : Prop := l ≠ "setup" ∧ l ≠ "free"
def Tariff.Uniq (tf : Tariff) : Prop := (tf.bands.map Band.label).Nodup ∧ ∀ l ∈ tf.bands.map Band.label, LabOk l
theorem better_mem {c : Str} {t : Int} : ∀ {bs : List Band} {o : Option Band} {x : Band}, bs.foldl (better c t) o = some x → x ∈ bs ∨ o = some x
  | [], o, x, e => .inr e
  | b :: bs, o, x, e => by
    rcases better_mem (bs := bs) e with h | h
    · exact .inl (List.mem_cons_of_mem _ h)
    · unfold better at h
      by_cases q : (b.holds c t && beats b o) = true
      · rw [if_pos q] at h
        cases h
        exact .inl (List.mem_cons_self ..)
      · rw [if_neg q] at h
        exact .inr h
theorem Tariff.at_mem {tf : Tariff} {c : Str} {t : Int} {b : Band} (h : tf.at c t = some b) : b ∈ tf.bands := by
  rcases better_mem h with q | q
  · exact q
  · cases q
theorem optD_isNon {o : Option Band} : (optD Band.d o).isNon = o.isNone := by cases o <;> rfl
abbrev sp_Band_init (K : PySem.W.Frag) (cl : Nat → Addr) : Sp := ISp K cl 0 ["label", "prefix", "from_hour", "to_hour", "price"] fun ds es => ds.length = 5 ∧ es = ds
abbrev sp_Band_holds (K : PySem.W.Frag) (cl : Nat → Addr) : Sp := PSp K cl fun ds d => ∃ b c t, ds = [Band.d b, .str c, .int t] ∧ d = .bl (b.holds c t)
abbrev sp_Tariff_init (K : PySem.W.Frag) (cl : Nat → Addr) : Sp := ISp K cl 1 ["setup_price", "bands"] fun ds es => ∃ x bs, ds = [x, .tup bs] ∧ es = [x, .tup bs]
abbrev sp_Tariff_band_at (K : PySem.W.Frag) (cl : Nat → Addr) : Sp := PSp K cl fun ds d => ∃ tf c t, ds = [Tariff.d tf, .str c, .int t] ∧ tf.Ok ∧ d = optD Band.d (tf.at c t)
abbrev sp_law_tariff (K : PySem.W.Frag) (cl : Nat → Addr) : Sp := GSp fun vs G M T => ∃ a s M0, vs = [.ref a] ∧ M = (a, .lst [.int s]) :: M0 ∧ ∀ v tf s' G', Same G G' → tf.Ok → tf.Uniq → Rep K cl G' v (Tariff.d tf) → T v G' ((a, .lst [.int s']) :: M0)
abbrev sp_law_called (K : PySem.W.Frag) (cl : Nat → Addr) : Sp := GSp fun vs G M T => ∃ a s M0, vs = [.ref a] ∧ M = (a, .lst [.int s]) :: M0 ∧ ∀ x s' G', Same G G' → x.length ≤ 1000 → T (.str x) G' ((a, .lst [.int s']) :: M0)
abbrev sp_law_band (K : PySem.W.Frag) (cl : Nat → Addr) : Sp := PSp K cl fun ds d => ∃ tf c t, ds = [Tariff.d tf, .str c, .int t] ∧ tf.Ok ∧ c.length ≤ 1000 ∧ d = optD Band.d (tf.at c t)
abbrev sp_law_many (K : PySem.W.Frag) (cl : Nat → Addr) : Sp := GSp fun vs G M T => ∃ c u, vs = [.str c, .int u] ∧ c.length ≤ 1000 ∧ -1000000000000 < u ∧ u < 1000000000000 ∧ ∀ v tf G', Same G G' → tf.Ok → tf.Uniq → Rep K cl G' v (Tariff.d tf) → T v G' M
/-! ### stretches -/
abbrev St3 := Band × Int × Int
@[reducible] def stD (x : St3) : D := .tup [Band.d x.1, .int x.2.1, .int x.2.2]
abbrev L3 := Str × Int × Int
@[reducible] def lD (x : L3) : D := .tup [.str x.1, .int x.2.1, .int x.2.2]
def lbl (x : St3) : L3 := (x.1.label, x.2)
/-- the label of a second -/
def lab (tf : Tariff) (c : Str) (start k : Int) : Option Str := (tf.at c (start + k)).map Band.label
def push {α : Type} [DecidableEq β] (lb : α → β) (f : List (α × Int × Int)) (b : α) (lo hi : Int) : List (α × Int × Int) :=
  match f.getLast? with
  | some x => if lb x.1 = lb b then f.set (f.length - 1) (b, x.2.1, hi) else f ++ [(b, lo, hi)]
  | none => f ++ [(b, lo, hi)]
def nextH (start till place : Int) : Int := if place + 3600 - (start + place) % 3600 < till then place + 3600 - (start + place) % 3600 else till
def strGo (tf : Tariff) (c : Str) (start till : Int) : Nat → Int → List St3 → Option (List St3)
  | 0, _, f => some f
  | n + 1, place, f => if place < till then
      match tf.at c (start + place) with
      | none => none
      | some b => strGo tf c start till n (nextH start till place) (push Band.label f b place (nextH start till place))
    else some f
def stretchesF (tf : Tariff) (c : Str) (start begin till : Int) : Option (List St3) := strGo tf c start till (till - begin).toNat begin []
/-- second by second -/
def secF (tf : Tariff) (c : Str) (start begin : Int) : Nat → Option (List L3)
  | 0 => some []
  | i + 1 => match secF tf c start begin i with
    | none => none
    | some f => match lab tf c start (begin + i) with
      | none => none
      | some l => some (push id f l (begin + i) (begin + i + 1))
theorem Tariff.at_day {tf : Tariff} {c : Str} {s t : Int} (h : s / 3600 = t / 3600) : tf.at c s = tf.at c t := by
  have e : s % 86400 / 3600 = t % 86400 / 3600 := by omega
  have hb : ∀ b : Band, b.holds c s = b.holds c t := fun b => by unfold Band.holds; rw [e]
  have hf : better c s = better c t := by
    funext o b
    unfold better
    rw [hb]
  unfold Tariff.at
  rw [hf]
theorem nextH_gt {start till place : Int} (h : place < till) : place < nextH start till place := by
  unfold nextH
  split <;> omega
theorem nextH_le {start till place : Int} : nextH start till place ≤ till := by
  unfold nextH
  split <;> omega
theorem nextH_hour {start till place k : Int} (h1 : place ≤ k) (h2 : k < nextH start till place) : (start + k) / 3600 = (start + place) / 3600 := by
  unfold nextH at h2
  split at h2 <;> omega
theorem nextH_end {start till place : Int} (h : nextH start till place < till) : (start + nextH start till place) % 3600 = 0 := by
  unfold nextH at h ⊢
  split
  · omega
  · next q => rw [if_neg q] at h; omega
theorem push_map {f : List St3} {b : Band} {lo hi : Int} : (push Band.label f b lo hi).map lbl = push id (f.map lbl) b.label lo hi := by
  unfold push
  rw [List.getLast?_map]
  cases f.getLast? with
  | none => simp [lbl]
  | some x =>
    show _ = if x.1.label = b.label then _ else _
    by_cases h : x.1.label = b.label
    · simp [h, lbl]
    · simp [h, lbl]
theorem push_nil {α β : Type} [DecidableEq β] {lb : α → β} {b : α} {lo hi : Int} : push lb [] b lo hi = [(b, lo, hi)] := rfl
theorem push_one {α β : Type} [DecidableEq β] {lb : α → β} {b y : α} {u v lo hi : Int} : push lb [(y, u, v)] b lo hi = if lb y = lb b then [(b, u, hi)] else [(y, u, v), (b, lo, hi)] := rfl
theorem push_cons {α β : Type} [DecidableEq β] {lb : α → β} {b : α} {x y : α × Int × Int} {f : List (α × Int × Int)} {lo hi : Int} : push lb (x :: y :: f) b lo hi = x :: push lb (y :: f) b lo hi := by
  unfold push
  rw [List.getLast?_cons_cons]
  cases h : (y :: f).getLast? with
  | none => rfl
  | some z =>
    show (if _ then _ else _) = _ :: (if _ then _ else _)
    by_cases e : lb z.1 = lb b
    · rw [if_pos e, if_pos e]
      rfl
    · rw [if_neg e, if_neg e]
      rfl
theorem push_twice {l : Str} {a b c : Int} : ∀ {f : List L3}, push id (push id f l a b) l b c = push id f l a c
  | [] => by rw [push_nil, push_nil, push_one, if_pos rfl]
  | [(y, u, v)] => by
    rw [push_one, push_one]
    by_cases e : id y = id l
    · rw [if_pos e, if_pos e, push_one, if_pos rfl]
    · rw [if_neg e, if_neg e, push_cons, push_one, if_pos rfl]
  | x :: y :: f => by
    have ih := push_twice (l := l) (a := a) (b := b) (c := c) (f := y :: f)
    rw [push_cons, push_cons]
    cases h : push id (y :: f) l a b with
    | nil =>
      exfalso
      have : (push id (y :: f) l a b).length ≠ 0 := by
        unfold push
        split
        · split <;> simp
        · simp
      rw [h] at this
      exact this rfl
    | cons z g =>
      rw [h] at ih
      rw [push_cons, ih]
/-- a block of seconds with one label -/
theorem secF_block {tf : Tariff} {c : Str} {start begin place : Int} {f : List L3} {l : Str} (h0 : begin ≤ place) (hf : secF tf c start begin (place - begin).toNat = some f) :
    ∀ (j : Nat), (∀ k : Int, place ≤ k → k < place + (j + 1) → lab tf c start k = some l) → secF tf c start begin (place + (j + 1) - begin).toNat = some (push id f l place (place + (j + 1)))
  | 0, h => by
    have e : (place + ((0 : Nat) + 1) - begin).toNat = (place - begin).toNat + 1 := by omega
    rw [e, secF, hf]
    have e2 : begin + ((place - begin).toNat : Int) = place := by omega
    rw [e2]
    simp only [h place (Int.le_refl _) (by omega)]
    rfl
  | j + 1, h => by
    have ih := secF_block h0 hf j fun k h1 h2 => h k h1 (by omega)
    have e : (place + (((j + 1 : Nat) : Int) + 1) - begin).toNat = (place + (j + 1) - begin).toNat + 1 := by omega
    rw [e, secF, ih]
    have e2 : begin + ((place + ((j : Int) + 1) - begin).toNat : Int) = place + (j + 1) := by omega
    rw [e2]
    simp only [h (place + (j + 1)) (by omega) (by omega)]
    rw [push_twice]
    have e3 : place + ((j : Int) + 1) + 1 = place + (((j + 1 : Nat) : Int) + 1) := by omega
    rw [e3]
theorem secF_none {tf : Tariff} {c : Str} {start begin : Int} {n : Nat} (h : secF tf c start begin n = none) : ∀ m, n ≤ m → secF tf c start begin m = none
  | 0, hm => by
    have e : n = 0 := Nat.le_zero.mp hm
    rw [e] at h
    exact h
  | m + 1, hm => by
    by_cases e : n = m + 1
    · rw [← e]
      exact h
    · rw [secF, secF_none h m (by omega)]
theorem lab_block {tf : Tariff} {c : Str} {start till place k : Int} (h1 : place ≤ k) (h2 : k < nextH start till place) : lab tf c start k = lab tf c start place := by
  unfold lab
  rw [Tariff.at_day (nextH_hour h1 h2)]
/-- hour by hour, or second by second -/
theorem strGo_sec {tf : Tariff} {c : Str} {start begin till : Int} : ∀ (n : Nat) (place : Int) (f : List St3), begin ≤ place → place ≤ till → till - place ≤ n → secF tf c start begin (place - begin).toNat = some (f.map lbl) →
    (strGo tf c start till n place f).map (List.map lbl) = secF tf c start begin (till - begin).toNat
  | 0, place, f, h0, h1, h2, hf => by
    have e : place = till := by omega
    rw [strGo, ← e, hf]
    rfl
  | n + 1, place, f, h0, h1, h2, hf => by
    rw [strGo]
    by_cases hp : place < till
    · rw [if_pos hp]
      have g1 := nextH_gt (start := start) hp
      have g2 := nextH_le (start := start) (till := till) (place := place)
      cases hb : tf.at c (start + place) with
      | none =>
        have hn : secF tf c start begin ((place - begin).toNat + 1) = none := by
          rw [secF, hf]
          have e2 : begin + ((place - begin).toNat : Int) = place := by omega
          rw [e2]
          have : lab tf c start place = none := by unfold lab; rw [hb]; rfl
          simp only [this]
        exact (secF_none hn _ (by omega)).symm
      | some b =>
        show (strGo tf c start till n (nextH start till place) (push Band.label f b place (nextH start till place))).map (List.map lbl) = _
        refine strGo_sec n _ _ (by omega) g2 (by omega) ?_
        rw [push_map]
        obtain ⟨j, hj⟩ : ∃ j : Nat, nextH start till place = place + (j + 1) := ⟨(nextH start till place - place - 1).toNat, by omega⟩
        have hl : lab tf c start place = some b.label := by unfold lab; rw [hb]; rfl
        have := secF_block h0 hf j fun k k1 k2 => (lab_block (till := till) k1 (by omega)).trans hl
        rw [hj]
        exact this
    · rw [if_neg hp]
      have e : place = till := by omega
      rw [← e, hf]
      rfl
/-- the stretches follow one another -/
def Chain (L : Int → Option Str) : Int → List L3 → Int → Prop
  | a, [], z => a = z
  | a, x :: r, z => x.2.1 = a ∧ x.2.1 < x.2.2 ∧ (∀ k, x.2.1 ≤ k → k < x.2.2 → L k = some x.1) ∧ (∀ y, r.head? = some y → x.1 ≠ y.1) ∧ Chain L x.2.2 r z
theorem push_head {l : Str} {a b : Int} : ∀ {f : List L3} {y : L3}, (push id (y :: f) l a b).head?.map (·.1) = some y.1
  | [], (y, u, v) => by
    rw [push_one]
    split
    · next h =>
      have : y = l := h
      rw [this]
      rfl
    · rfl
  | x :: f, y => by rw [push_cons]; rfl
theorem Chain.push {L : Int → Option Str} {l : Str} {z z' : Int} (hz : z < z') (hl : ∀ k, z ≤ k → k < z' → L k = some l) : ∀ {f : List L3} {a : Int}, Chain L a f z → Chain L a (push id f l z z') z'
  | [], a, h => by
    have e : a = z := h
    rw [push_nil]
    exact ⟨e.symm, hz, hl, (fun _ h => by cases h), rfl⟩
  | [(y, u, v)], a, ⟨h1, h2, h3, h4, h5⟩ => by
    have e : v = z := h5
    subst e
    rw [push_one]
    by_cases q : y = l
    · subst q
      rw [if_pos rfl]
      refine ⟨h1, Int.lt_trans h2 hz, fun k k1 k2 => ?_, (fun _ h => by cases h), rfl⟩
      by_cases hk : k < v
      · exact h3 k k1 hk
      · exact hl k (by omega) k2
    · rw [if_neg (show ¬ id y = id l from q)]
      exact ⟨h1, h2, h3, (fun w hw => by cases hw; exact q), rfl, hz, hl, (fun _ h => by cases h), rfl⟩
  | x :: y :: f, a, ⟨h1, h2, h3, h4, h5⟩ => by
    rw [push_cons]
    refine ⟨h1, h2, h3, fun w hw => ?_, Chain.push hz hl h5⟩
    have e := push_head (l := l) (a := z) (b := z') (f := f) (y := y)
    rw [hw] at e
    have e2 : w.1 = y.1 := Option.some.inj e
    rw [e2]
    exact h4 y rfl
theorem secF_chain {tf : Tariff} {c : Str} {start begin : Int} : ∀ (n : Nat) (f : List L3), secF tf c start begin n = some f → Chain (lab tf c start) begin f (begin + n)
  | 0, f, h => by
    have e : [] = f := Option.some.inj h
    rw [← e]
    show begin = begin + (0 : Nat)
    omega
  | n + 1, f, h => by
    rw [secF] at h
    cases h1 : secF tf c start begin n with
    | none => rw [h1] at h; cases h
    | some g =>
      rw [h1] at h
      cases h2 : lab tf c start (begin + n) with
      | none => simp only [h2] at h; cases h
      | some l =>
        simp only [h2] at h
        have e := Option.some.inj h
        rw [← e]
        have := Chain.push (L := lab tf c start) (l := l) (z := begin + n) (z' := begin + n + 1) (by omega) (fun k k1 k2 => by
          have : k = begin + n := by omega
          rw [this, h2]) (secF_chain n g h1)
        have e3 : begin + (n : Int) + 1 = begin + ((n + 1 : Nat) : Int) := by omega
        rw [← e3]
        exact this
theorem Chain.all {L : Int → Option Str} : ∀ {f : List L3} {a z : Int}, Chain L a f z → ∀ k, a ≤ k → k < z → (L k).isSome = true
  | [], a, z, h, k, h1, h2 => by
    have e : a = z := h
    omega
  | x :: f, a, z, ⟨h1, h2, h3, h4, h5⟩, k, k1, k2 => by
    by_cases hk : k < x.2.2
    · rw [h3 k (by omega) hk]
      rfl
    · exact Chain.all h5 k (by omega) k2
/-- where no band is, a block begins that has none: at the beginning or at a whole hour -/
theorem strGo_none {tf : Tariff} {c : Str} {start till : Int} : ∀ (n : Nat) (place : Int) (f : List St3), strGo tf c start till n place f = none → ∃ p, place ≤ p ∧ p < till ∧ tf.at c (start + p) = none ∧ (p = place ∨ (start + p) % 3600 = 0)
  | 0, place, f, h => by cases h
  | n + 1, place, f, h => by
    rw [strGo] at h
    by_cases hp : place < till
    · rw [if_pos hp] at h
      cases hb : tf.at c (start + place) with
      | none => exact ⟨place, Int.le_refl _, hp, hb, .inl rfl⟩
      | some b =>
        simp only [hb] at h
        obtain ⟨p, h1, h2, h3, h4⟩ := strGo_none n _ _ h
        have g1 := nextH_gt (start := start) hp
        refine ⟨p, by omega, h2, h3, .inr ?_⟩
        rcases h4 with h4 | h4
        · rw [h4]
          exact nextH_end (by omega)
        · exact h4
    · rw [if_neg hp] at h
      cases h
theorem strGo_mem {tf : Tariff} {c : Str} {start till : Int} : ∀ (n : Nat) (place : Int) (f g : List St3), (∀ x ∈ f, x.1 ∈ tf.bands) → strGo tf c start till n place f = some g → ∀ x ∈ g, x.1 ∈ tf.bands
  | 0, place, f, g, hf, h => by
    have e : f = g := Option.some.inj h
    rw [← e]
    exact hf
  | n + 1, place, f, g, hf, h => by
    rw [strGo] at h
    by_cases hp : place < till
    · rw [if_pos hp] at h
      cases hb : tf.at c (start + place) with
      | none => simp only [hb] at h; cases h
      | some b =>
        simp only [hb] at h
        refine strGo_mem n _ _ g (fun x hx => ?_) h
        have hbm : b ∈ tf.bands := Tariff.at_mem hb
        unfold push at hx
        cases hl : f.getLast? with
        | none =>
          simp only [hl] at hx
          rcases List.mem_append.mp hx with q | q
          · exact hf x q
          · rw [List.mem_singleton.mp q]
            exact hbm
        | some y =>
          simp only [hl] at hx
          split at hx
          · rcases List.mem_or_eq_of_mem_set hx with q | q
            · exact hf x q
            · rw [q]
              exact hbm
          · rcases List.mem_append.mp hx with q | q
            · exact hf x q
            · rw [List.mem_singleton.mp q]
              exact hbm
    · rw [if_neg hp] at h
      have e : f = g := Option.some.inj h
      rw [← e]
      exact hf
theorem push_len {α β : Type} [DecidableEq β] {lb : α → β} {f : List (α × Int × Int)} {b : α} {lo hi : Int} : (push lb f b lo hi).length ≤ f.length + 1 := by
  unfold push
  split
  · split
    · simp
    · simp
  · simp
abbrev sp_stretches (K : PySem.W.Frag) (cl : Nat → Addr) : Sp := PSp K cl fun ds d => ∃ tf c start begin till, ds = [Tariff.d tf, .str c, .int start, .int begin, .int till] ∧ tf.Ok ∧ 0 ≤ begin ∧ begin < till ∧ till ≤ 1000000 ∧ d = optD (fun l => .lst (List.map stD l)) (stretchesF tf c start begin till)
abbrev sp_law_stretches (K : PySem.W.Frag) (cl : Nat → Addr) : Sp := PSp K cl fun ds d => ∃ tf c start begin till, ds = [Tariff.d tf, .str c, .int start, .int begin, .int till] ∧ tf.Ok ∧ c.length ≤ 1000 ∧ 0 ≤ begin ∧ begin < till ∧ till ≤ 1000000 ∧ d = optD (fun l => .lst (List.map lD l)) (secF tf c start begin (till - begin).toNat)
theorem secF_isSome_le {tf : Tariff} {c : Str} {start begin : Int} {n m : Nat} {f : List L3} (h : secF tf c start begin n = some f) (hm : m ≤ n) : ∃ g, secF tf c start begin m = some g := by
  cases e : secF tf c start begin m with
  | some g => exact ⟨g, rfl⟩
  | none => rw [secF_none e n hm] at h; cases h
theorem secF_len {tf : Tariff} {c : Str} {start begin : Int} : ∀ {n : Nat} {f : List L3}, secF tf c start begin n = some f → f.length ≤ n
  | 0, f, h => by
    have e : [] = f := Option.some.inj h
    rw [← e]
    exact Nat.le_refl _
  | n + 1, f, h => by
    rw [secF] at h
    cases h1 : secF tf c start begin n with
    | none => rw [h1] at h; cases h
    | some g =>
      rw [h1] at h
      cases h2 : lab tf c start (begin + n) with
      | none => simp only [h2] at h; cases h
      | some l =>
        simp only [h2] at h
        have e := Option.some.inj h
        rw [← e]
        have := push_len (lb := id) (f := g) (b := l) (lo := begin + n) (hi := begin + n + 1)
        have := secF_len h1
        omega
theorem Chain.get {L : Int → Option Str} : ∀ {f : List L3} {a z : Int} {k : Nat} {x : L3}, Chain L a f z → f[k]? = some x → x.2.1 < x.2.2 ∧ ∀ s, x.2.1 ≤ s → s < x.2.2 → L s = some x.1
  | [], _, _, _, _, _, h => by simp at h
  | y :: f, a, z, 0, x, ⟨h1, h2, h3, h4, h5⟩, h => by
    have e : y = x := by simpa using h
    rw [← e]
    exact ⟨h2, h3⟩
  | y :: f, a, z, k + 1, x, ⟨h1, h2, h3, h4, h5⟩, h => Chain.get h5 (by simpa using h)
/-- where the k-th stretch begins -/
theorem Chain.drop {L : Int → Option Str} : ∀ {f : List L3} {a z : Int} {k : Nat} {x : L3}, Chain L a f z → f[k]? = some x → Chain L x.2.1 (f.drop k) z
  | [], _, _, _, _, _, h => by simp at h
  | y :: f, a, z, 0, x, c, h => by
    have e : y = x := by simpa using h
    obtain ⟨h1, _⟩ := id c
    rw [← e, h1]
    exact c
  | y :: f, a, z, k + 1, x, ⟨h1, h2, h3, h4, h5⟩, h => Chain.drop (k := k) h5 (by simpa using h)
theorem Chain.next {L : Int → Option Str} {f : List L3} {a z : Int} {k : Nat} {x y : L3} (c : Chain L a f z) (h1 : f[k]? = some x) (h2 : f[k + 1]? = some y) : y.2.1 = x.2.2 ∧ x.1 ≠ y.1 := by
  have d := c.drop h1
  have hk : k < f.length := (List.getElem?_eq_some_iff.mp h1).1
  have hk2 : k + 1 < f.length := (List.getElem?_eq_some_iff.mp h2).1
  have e1 : f.drop k = x :: f.drop (k + 1) := by
    rw [List.drop_eq_getElem_cons hk]
    rw [List.getElem?_eq_getElem hk] at h1
    rw [Option.some.inj h1]
  have e2 : f.drop (k + 1) = y :: f.drop (k + 2) := by
    rw [List.drop_eq_getElem_cons hk2]
    rw [List.getElem?_eq_getElem hk2] at h2
    rw [Option.some.inj h2]
  rw [e1, e2] at d
  obtain ⟨_, _, _, h4, h5, _⟩ := d
  exact ⟨h5, h4 y rfl⟩
theorem Chain.last {L : Int → Option Str} : ∀ {f : List L3} {a z : Int} {x : L3}, Chain L a f z → f.getLast? = some x → x.2.2 = z
  | [], _, _, _, _, h => by cases h
  | [y], a, z, x, ⟨h1, h2, h3, h4, h5⟩, h => by
    have e : y = x := by simpa using h
    rw [← e]
    exact h5
  | y :: w :: f, a, z, x, ⟨h1, h2, h3, h4, h5⟩, h => by
    rw [List.getLast?_cons_cons] at h
    exact Chain.last h5 h
theorem stretches_two {tf : Tariff} {c : Str} {start begin till : Int} (h : begin < till) : secF tf c start begin (till - begin).toNat = (stretchesF tf c start begin till).map (List.map lbl) := by
  have := strGo_sec (tf := tf) (c := c) (start := start) (begin := begin) (till := till) (till - begin).toNat begin [] (Int.le_refl _) (Int.le_of_lt h) (by omega) (by rw [Int.sub_self]; rfl)
  rw [← this]
  rfl
theorem Chain.le {L : Int → Option Str} : ∀ {f : List L3} {a z : Int}, Chain L a f z → a ≤ z
  | [], _, _, h => Int.le_of_eq h
  | y :: f, a, z, ⟨h1, h2, h3, h4, h5⟩ => by
    have := Chain.le h5
    omega
theorem Chain.bounds {L : Int → Option Str} : ∀ {f : List L3} {a z : Int}, Chain L a f z → ∀ x ∈ f, a ≤ x.2.1 ∧ x.2.1 < x.2.2 ∧ x.2.2 ≤ z
  | [], _, _, _, x, hx => absurd hx List.not_mem_nil
  | y :: f, a, z, c, x, hx => by
    obtain ⟨h1, h2, h3, h4, h5⟩ := id c
    have hyz : y.2.2 ≤ z := Chain.le h5
    rcases List.mem_cons.mp hx with rfl | hx
    · exact ⟨Int.le_of_eq h1.symm, h2, hyz⟩
    · have := Chain.bounds h5 x hx
      exact ⟨by omega, this.2.1, this.2.2⟩
/-! ### price lines -/
abbrev L4 := Str × Int × Int × Int
@[reducible] def l4D (x : L4) : D := .tup [.str x.1, .int x.2.1, .int x.2.2.1, .int x.2.2.2]
def mins (lo hi : Int) : Int := (hi - lo + 60 - 1) / 60
def pl (x : St3) : L4 := (x.1.label, x.2.1, x.2.2, x.1.price * mins x.2.1 x.2.2)
def priceF (tf : Tariff) (c : Str) (start begin till : Int) : Option (List L4) := (stretchesF tf c start begin till).map fun f => ("setup", begin, begin, tf.setup) :: f.map pl
abbrev sp_price_lines (K : PySem.W.Frag) (cl : Nat → Addr) : Sp := PSp K cl fun ds d => ∃ tf c start begin till, ds = [Tariff.d tf, .str c, .int start, .int begin, .int till] ∧ tf.Ok ∧ 0 ≤ begin ∧ begin < till ∧ till ≤ 1000000 ∧ d = optD (fun l => .lst (List.map l4D l)) (priceF tf c start begin till)
abbrev sp_law_price (K : PySem.W.Frag) (cl : Nat → Addr) : Sp := PSp K cl fun ds d => ∃ tf l, ds = [Tariff.d tf, .str l] ∧ d = optD (fun b => .int (Band.price b)) (tf.bands.find? fun b => decide (b.label = l))
/-- what is known of the stretches -/
theorem stretches_facts {tf : Tariff} {c : Str} {start begin till : Int} {f : List St3} (h1 : begin < till) (h : stretchesF tf c start begin till = some f) : f.length ≤ (till - begin).toNat ∧ (∀ x ∈ f, x.1 ∈ tf.bands) ∧ ∀ x ∈ f, begin ≤ x.2.1 ∧ x.2.1 < x.2.2 ∧ x.2.2 ≤ till := by
  have hs : secF tf c start begin (till - begin).toNat = some (f.map lbl) := by
    rw [stretches_two h1, h]
    rfl
  refine ⟨by have := secF_len hs; rw [List.length_map] at this; exact this, strGo_mem _ _ _ _ (fun _ h => absurd h List.not_mem_nil) h, fun x hx => ?_⟩
  have hc := secF_chain _ _ hs
  have e : begin + ((till - begin).toNat : Int) = till := by omega
  rw [e] at hc
  exact Chain.bounds hc (lbl x) (List.mem_map.mpr ⟨x, hx, rfl⟩)
theorem find_label {bs : List Band} (h : (bs.map Band.label).Nodup) {b : Band} (hb : b ∈ bs) : bs.find? (fun x => decide (x.label = b.label)) = some b := by
  induction bs with
  | nil => cases hb
  | cons y bs ih =>
    rw [List.map_cons, List.nodup_cons] at h
    rw [List.find?_cons]
    rcases List.mem_cons.mp hb with rfl | hb
    · simp
    · have hne : ¬ y.label = b.label := fun e => h.1 (by rw [e]; exact List.mem_map.mpr ⟨b, hb, rfl⟩)
      rw [decide_eq_false hne]
      exact ih h.2 hb
/-! ### lists of pairs -/
theorem valG_map {κ α β : Type} [DecidableEq κ] (f : α → β) (k : κ) : ∀ (st : List (κ × α)), valG (st.map fun e => (e.1, f e.2)) k = (valG st k).map f
  | [] => rfl
  | e :: st => by
    unfold valG
    rw [List.map_cons, List.find?_cons, List.find?_cons]
    by_cases h : e.1 = k
    · simp [h]
    · simp only [h, decide_false]
      exact valG_map f k st
theorem putG_map {κ α β : Type} [DecidableEq κ] (f : α → β) (k : κ) (d : α) (st : List (κ × α)) : putG (st.map fun e => (e.1, f e.2)) k (f d) = (putG st k d).map fun e => (e.1, f e.2) := by
  unfold putG
  rw [valG_map, Option.isSome_map]
  split
  · rw [List.map_map, List.map_map]
    refine List.map_congr_left fun e _ => ?_
    show (if e.1 = k then (e.1, f d) else (e.1, f e.2)) = ((if e.1 = k then (e.1, d) else e).1, f (if e.1 = k then (e.1, d) else e).2)
    split <;> rfl
  · rw [List.map_append]; rfl
theorem valG_text {α : Type} (x : Str) : ∀ (st : List (Str × α)), valG (st.map fun e => ((.inr e.1 : Key), e.2)) (.inr x) = valG st x
  | [] => rfl
  | e :: st => by
    unfold valG
    rw [List.map_cons, List.find?_cons, List.find?_cons]
    by_cases h : e.1 = x
    · have h' : (Sum.inr e.1 : Key) = .inr x := by rw [h]
      simp [h]
    · have h' : ¬ (Sum.inr e.1 : Key) = .inr x := fun z => h (Sum.inr.inj z)
      simp only [h, h', decide_false]
      exact valG_text x st
theorem putG_text {α : Type} (x : Str) (d : α) (st : List (Str × α)) : putG (st.map fun e => ((.inr e.1 : Key), e.2)) (.inr x) d = (putG st x d).map fun e => ((.inr e.1 : Key), e.2) := by
  unfold putG
  rw [valG_text]
  split
  · rw [List.map_map, List.map_map]
    refine List.map_congr_left fun e _ => ?_
    by_cases h : e.1 = x
    · have h' : (Sum.inr e.1 : Key) = .inr x := by rw [h]
      simp [h]
    · have h' : ¬ (Sum.inr e.1 : Key) = .inr x := fun z => h (Sum.inr.inj z)
      simp [h]
  · rw [List.map_append]; rfl
theorem valG_mem1 {κ α : Type} [DecidableEq κ] {st : List (κ × α)} {k : κ} {v : α} (h : valG st k = some v) : (k, v) ∈ st := by
  unfold valG at h
  obtain ⟨e, he, q⟩ := Option.map_eq_some_iff.mp h
  have h1 := List.mem_of_find?_eq_some he
  have h2 := List.find?_some he
  have h3 : e.1 = k := of_decide_eq_true h2
  rw [← h3, ← q]
  exact h1
/-! ### contracts -/
abbrev Row3 := Int × Option Str × Str
def optS : Option Str → D
  | none => .non
  | some x => .str x
theorem optS_isNon {o : Option Str} : (optS o).isNon = o.isNone := by cases o <;> rfl
@[reducible] def rowD (r : Row3) : D := .tup [.int r.1, optS r.2.1, .str r.2.2]
abbrev Hist := List (Str × List Row3)
def histK (h : Hist) : List (Key × D) := h.map fun e => ((.inr e.1 : Key), D.tup (e.2.map rowD))
@[reducible] def conD (h : Hist) : D := .ins 6 ["histories"] [dicD (histK h)]
theorem histK_val {h : Hist} {x : Str} : valG (histK h) (.inr x) = (valG h x).map fun rows => D.tup (rows.map rowD) := by
  have e : histK h = (h.map fun e => (e.1, D.tup (e.2.map rowD))).map fun e => ((.inr e.1 : Key), e.2) := by
    unfold histK
    rw [List.map_map]
    rfl
  rw [e, valG_text, valG_map (fun rows : List Row3 => D.tup (rows.map rowD))]
def lastF (rows : List Row3) (clock : Int) : Option (Option Str × Str) := rows.foldl (fun f r => if r.1 ≤ clock then some r.2 else f) none
def inF (h : Hist) (line : Str) (clock : Int) : Option (Str × Str) :=
  match lastF ((valG h line).getD []) clock with
  | some (some a, n) => some (a, n)
  | _ => none
def optC : Option (Str × Str) → D
  | none => .non
  | some x => .tup [.str x.1, .str x.2]
theorem optC_isNon {o : Option (Str × Str)} : (optC o).isNon = o.isNone := by cases o <;> rfl
abbrev sp_Contracts_in_force (K : PySem.W.Frag) (cl : Nat → Addr) : Sp := PSp K cl fun ds d => ∃ h line clock, ds = [conD h, .str line, .int clock] ∧ d = optC (inF h line clock)
abbrev sp_Contracts_init (K : PySem.W.Frag) (cl : Nat → Addr) : Sp := GSp fun vs G M T => ∃ x dx M0, vs = [.ref x] ∧ M = (x, .ins (cl 6) dx (List.zip [] [])) :: M0 ∧ ∀ G' h, Same G G' → T .non G' ((x, .ins (cl 6) dx (List.zip ["histories"] [.ref h])) :: (h, .dK []) :: M0)
/-- times that ascend -/
def Asc (rows : List Row3) : Prop := ∀ i : Nat, ∀ r r' : Row3, rows[i]? = some r → rows[i + 1]? = some r' → r.1 < r'.1
def setF (h : Hist) (line : Str) (rows : List Row3) : Hist := if rows.isEmpty then dropG h line else putG h line rows
abbrev sp_Contracts_set_history (K : PySem.W.Frag) (cl : Nat → Addr) : Sp := GSp fun vs G M T => ∃ x dx h kws hist M0 line vr rows, vs = [.ref x, .str line, vr] ∧ M = (x, .ins (cl 6) dx (List.zip ["histories"] [.ref h])) :: (h, .dK kws) :: M0 ∧
  KRep K cl G kws (histK hist) ∧ Rep K cl G vr (.lst (List.map rowD rows)) ∧ Asc rows ∧ rows.length ≤ 1000 ∧ hist.length ≤ 1000 ∧
  ∀ G' kws', Same G G' → KRep K cl G' kws' (histK (setF hist line rows)) → T .non G' ((x, .ins (cl 6) dx (List.zip ["histories"] [.ref h])) :: (h, .dK kws') :: M0)
/-! ### sections -/
abbrev Own := Int × Int × Int
@[reducible] def ownD (o : Own) : D := .tup [.int o.1, .int o.2.1, .int o.2.2]
structure Sect where
  owner : Own
  payer : Option Str
  called : Str
  opened : Int
  start : Int
  seconds : Int
abbrev sns : List Str := ["owner", "payer", "called", "opened", "start", "seconds"]
@[reducible] def Sect.d (s : Sect) : D := .ins 7 sns [ownD s.owner, optS s.payer, .str s.called, .int s.opened, .int s.start, .int s.seconds]
def Sect.free (s : Sect) : Bool := s.payer.isNone || decide (s.seconds = 0)
structure Sect.Ok (s : Sect) : Prop where
  s0 : 0 ≤ s.seconds
  s1 : s.seconds ≤ 20000
  c : s.called.length ≤ 1000
abbrev sp_Section_init (K : PySem.W.Frag) (cl : Nat → Addr) : Sp := ISp K cl 7 sns fun ds es => ds.length = 6 ∧ es = ds
abbrev sp_Section_is_free (K : PySem.W.Frag) (cl : Nat → Addr) : Sp := PSp K cl fun ds d => ∃ s, ds = [Sect.d s] ∧ d = .bl (Sect.free s)
@[reducible] def placeD (s : Sect) : D := .tup [.int s.opened, ownD s.owner]
abbrev R_section_place : List D → D → Prop := fun ds d => ∃ s, ds = [Sect.d s] ∧ d = placeD s
abbrev sp_section_place (K : PySem.W.Frag) (cl : Nat → Addr) : Sp := PSp K cl R_section_place
/-- the sections in the order in which they are charged -/
def inOrder (l : List Sect) : List Sect := l.mergeSort (PySem.W.dataLe false fun s => (placeD s).pyd)
theorem inOrder_mem {l : List Sect} {s : Sect} : s ∈ inOrder l ↔ s ∈ l := (List.mergeSort_perm _ _).mem_iff
theorem inOrder_len {l : List Sect} : (inOrder l).length = l.length := List.length_mergeSort _
/-! ### charges -/
abbrev Chg := (Own × Int × Str) × Str × Int × Int
@[reducible] def ckeyD (k : Own × Int × Str) : D := .tup [ownD k.1, .int k.2.1, .str k.2.2]
abbrev cns : List Str := ["key", "account", "till", "mills"]
@[reducible] def chgD (c : Chg) : D := .ins 2 cns [ckeyD c.1, .str c.2.1, .int c.2.2.1, .int c.2.2.2]
@[reducible] def chgT (c : Chg) : D := .tup [ckeyD c.1, .str c.2.1, .int c.2.2.1, .int c.2.2.2]
abbrev Lft := Own × Str
@[reducible] def lftD (x : Lft) : D := .tup [ownD x.1, .str x.2]
abbrev sp_Charge_init (K : PySem.W.Frag) (cl : Nat → Addr) : Sp := ISp K cl 2 cns fun ds es => ds.length = 4 ∧ es = ds
/-- the office's view: contracts, tariffs, free seconds -/
structure Env5 where
  hist : Hist
  tfs : List (Str × Tariff)
  alw : List (Str × Int)
def tfsK (l : List (Str × Tariff)) : List (Key × D) := l.map fun e => ((.inr e.1 : Key), Tariff.d e.2)
def alwK (l : List (Str × Int)) : List (Key × D) := l.map fun e => ((.inr e.1 : Key), D.int e.2)
theorem tfsK_val {l : List (Str × Tariff)} {x : Str} : valG (tfsK l) (.inr x) = (valG l x).map Tariff.d := by
  have e : tfsK l = (l.map fun e => (e.1, Tariff.d e.2)).map fun e => ((.inr e.1 : Key), e.2) := by
    unfold tfsK
    rw [List.map_map]
    rfl
  rw [e, valG_text, valG_map Tariff.d]
theorem alwK_val {l : List (Str × Int)} {x : Str} : valG (alwK l) (.inr x) = (valG l x).map D.int := by
  have e : alwK l = (l.map fun e => (e.1, D.int e.2)).map fun e => ((.inr e.1 : Key), e.2) := by
    unfold alwK
    rw [List.map_map]
    rfl
  rw [e, valG_text, valG_map D.int]
structure Env5.Ok (E : Env5) : Prop where
  t : ∀ e ∈ E.tfs, e.2.Ok
  u : ∀ e ∈ E.tfs, e.2.Uniq
  a : ∀ e ∈ E.alw, 0 ≤ e.2
abbrev Used := List (NestedKey × Int)
def ukey (a : Str) (m : Int) : NestedKey := .tup [.text a, .num m]
theorem isNK_ukey {a : Str} {m : Int} : IsNK (ukey a m) := ⟨⟨_, rfl⟩, by show (1 : Nat) ≤ 8; decide⟩
theorem ukey_inj {a b : Str} {m n : Int} : ukey a m = ukey b n ↔ a = b ∧ m = n := by
  unfold ukey
  constructor
  · intro h
    injection h with h
    injection h with h1 h2
    injection h2 with h2 h3
    injection h1 with h1
    injection h2 with h2
    exact ⟨h1, h2⟩
  · rintro ⟨rfl, rfl⟩
    rfl
def usedD (u : Used) : List (NestedKey × D) := u.map fun e => (e.1, D.int e.2)
def uval (u : Used) (a : Str) (m : Int) : Int := (valG u (ukey a m)).getD 0
def alwF (E : Env5) (a : Str) : Int := (valG E.alw a).getD 0
def leftF (E : Env5) (u : Used) (a : Str) (m : Int) : Int := alwF E a - uval u a m
theorem usedD_val {u : Used} {k : NestedKey} : ((valG (usedD u) k).getD (.int 0)) = .int ((valG u k).getD 0) := by
  unfold usedD
  rw [valG_map D.int]
  cases valG u k <;> rfl
theorem usedD_put {u : Used} {k : NestedKey} {x : Int} : putG (usedD u) k (.int x) = usedD (putG u k x) := putG_map D.int k x u
def linesF (tf : Tariff) (s : Sect) (free : Int) : Option (List L4) :=
  (if free < s.seconds then priceF tf s.called s.start free s.seconds else some []).map fun l => if 0 < free then (("free", 0, free, 0) : L4) :: l else l
def optL : Option (List L4) → D := optD fun l => .lst (List.map l4D l)
def freeF (E : Env5) (u : Used) (s : Sect) (a : Str) : Int := if leftF E u a (s.opened / 2592000) < s.seconds then leftF E u a (s.opened / 2592000) else s.seconds
/-- what becomes of a section: a reason, or an account, the free seconds, the lines -/
def oneF (E : Env5) (u : Used) (s : Sect) : Str ⊕ (Str × Int × List L4) :=
  match inF E.hist (s.payer.getD "") s.opened with
  | none => .inl "no contract"
  | some (a, n) =>
    match valG E.tfs n with
    | none => .inl "no tariff"
    | some tf =>
      match linesF tf s (freeF E u s a) with
      | none => .inl "no band"
      | some l => .inr (a, freeF E u s a, l)
structure St5 where
  used : Used
  charges : List Chg
  left : List Lft
def mkChg (o : Own) (a : Str) (l : L4) : Chg := ((o, l.2.1, l.1), a, l.2.2.1, l.2.2.2)
def takeF (E : Env5) (st : St5) (s : Sect) : St5 :=
  match oneF E st.used s with
  | .inl r => { st with left := st.left ++ [(s.owner, r)] }
  | .inr (a, f, l) => { st with used := putG st.used (ukey a (s.opened / 2592000)) (uval st.used a (s.opened / 2592000) + f), charges := st.charges ++ l.map (mkChg s.owner a) }
def stepF (E : Env5) (st : St5) (s : Sect) : St5 := if s.free then st else takeF E st s
def chargeF (E : Env5) (l : List Sect) : St5 := (inOrder l).foldl (stepF E) ⟨[], [], []⟩
/-- no account uses more than it has -/
def Fair (E : Env5) (u : Used) : Prop := ∀ a m, 0 ≤ uval u a m ∧ uval u a m ≤ alwF E a
theorem alwF_pos {E : Env5} (ok : E.Ok) (a : Str) : 0 ≤ alwF E a := by
  unfold alwF
  cases h : valG E.alw a with
  | none => exact Int.le_refl 0
  | some x => exact ok.a _ (valG_mem1 h)
theorem uval_put {u : Used} {a b : Str} {m n : Int} {x : Int} : uval (putG u (ukey a m) x) b n = if a = b ∧ m = n then x else uval u b n := by
  unfold uval
  rw [valG_put]
  by_cases h : a = b ∧ m = n
  · rw [if_pos (ukey_inj.mpr h), if_pos h]
    rfl
  · rw [if_neg fun z => h (ukey_inj.mp z), if_neg h]
theorem freeF_bounds {E : Env5} {u : Used} {s : Sect} (hs : 0 ≤ s.seconds) (f : Fair E u) (a : Str) : 0 ≤ freeF E u s a ∧ freeF E u s a ≤ s.seconds ∧ freeF E u s a ≤ leftF E u a (s.opened / 2592000) := by
  have h := f a (s.opened / 2592000)
  unfold freeF leftF
  split <;> omega
theorem Fair.step {E : Env5} {st : St5} {s : Sect} (hs : 0 ≤ s.seconds) (f : Fair E st.used) : Fair E (stepF E st s).used := by
  unfold stepF
  split
  · exact f
  unfold takeF
  cases h : oneF E st.used s with
  | inl r => exact f
  | inr x =>
    obtain ⟨a, fr, l⟩ := x
    have hfr : fr = freeF E st.used s a := by
      unfold oneF at h
      split at h
      · cases h
      · split at h
        · cases h
        · split at h
          · cases h
          · cases h
            rfl
    intro b n
    show 0 ≤ uval (putG st.used (ukey a (s.opened / 2592000)) _) b n ∧ _
    rw [uval_put]
    split
    · next e =>
      obtain ⟨rfl, rfl⟩ := e
      have h1 := freeF_bounds (E := E) hs f a
      have h2 := f a (s.opened / 2592000)
      unfold leftF at h1
      omega
    · exact f b n
/-- the lines of a section are few -/
theorem priceF_len {tf : Tariff} {c : Str} {start begin till : Int} {l : List L4} (h1 : begin < till) (h : priceF tf c start begin till = some l) : (l.length : Int) ≤ till - begin + 1 := by
  unfold priceF at h
  obtain ⟨f, hf, rfl⟩ := Option.map_eq_some_iff.mp h
  have := (stretches_facts h1 hf).1
  rw [List.length_cons, List.length_map]
  omega
theorem linesF_len {tf : Tariff} {s : Sect} {free : Int} {l : List L4} (h0 : 0 ≤ free) (hs : s.seconds ≤ 20000) (h : linesF tf s free = some l) : l.length ≤ 20002 := by
  unfold linesF at h
  obtain ⟨f, hf, rfl⟩ := Option.map_eq_some_iff.mp h
  have hl : f.length ≤ 20001 := by
    split at hf
    · next q =>
      have := priceF_len q hf
      omega
    · cases hf
      exact Nat.zero_le _
  split
  · rw [List.length_cons]; omega
  · omega
theorem oneF_lines {E : Env5} {u : Used} {s : Sect} {a : Str} {f : Int} {l : List L4} (h : oneF E u s = .inr (a, f, l)) : f = freeF E u s a ∧ ∃ n tf, inF E.hist (s.payer.getD "") s.opened = some (a, n) ∧ valG E.tfs n = some tf ∧ linesF tf s f = some l := by
  unfold oneF at h
  split at h
  · cases h
  · next a' n' hi =>
    split at h
    · cases h
    · next tf ht =>
      split at h
      · cases h
      · next l' hl =>
        cases h
        exact ⟨rfl, n', tf, hi, ht, hl⟩
theorem stepF_len {E : Env5} {st : St5} {s : Sect} (ok : s.Ok) (f : Fair E st.used) : (stepF E st s).charges.length ≤ st.charges.length + 20002 ∧ (stepF E st s).left.length ≤ st.left.length + 1 ∧ (stepF E st s).used.length ≤ st.used.length + 1 := by
  unfold stepF
  split
  · omega
  unfold takeF
  cases h : oneF E st.used s with
  | inl r =>
    dsimp only
    rw [List.length_append]
    simp
  | inr x =>
    obtain ⟨a, fr, l⟩ := x
    obtain ⟨hfr, n, tf, h1, h2, h3⟩ := oneF_lines h
    have hl := linesF_len (hfr ▸ (freeF_bounds ok.s0 f a).1) ok.s1 h3
    dsimp only
    rw [List.length_append, List.length_map]
    refine ⟨by omega, by omega, ?_⟩
    unfold putG
    split
    · rw [List.length_map]; omega
    · rw [List.length_append]; simp
/-! ### the run -/
abbrev rns : List Str := ["contracts", "tariffs", "allowances", "used", "charges", "left_out"]
abbrev RunM (cl : Nat → Addr) (x dx us ch lo : Addr) (vc vt va : V) (ep : Nat) (kvs : NKV) (cs los : List V) (M0 : ML) : ML :=
  (x, .ins (cl 3) dx (rns.zip [vc, vt, va, .ref us, .ref ch, .ref lo])) :: (us, nD us ep kvs) :: (ch, .lst cs) :: (lo, .lst los) :: M0
/-- what the run refers to -/
structure RunE (K : PySem.W.Frag) (cl : Nat → Addr) (G : Hp) (vc vt va : V) (E : Env5) : Prop where
  c : Rep K cl G vc (conD E.hist)
  t : Rep K cl G vt (dicD (tfsK E.tfs))
  a : Rep K cl G va (dicD (alwK E.alw))
theorem RunE.mono {K : PySem.W.Frag} {cl : Nat → Addr} {G G' : Hp} {vc vt va : V} {E : Env5} (s : Same G G') (h : RunE K cl G vc vt va E) : RunE K cl G' vc vt va E := ⟨h.c.mono s, h.t.mono s, h.a.mono s⟩
/-- what it has made -/
structure RunS (K : PySem.W.Frag) (cl : Nat → Addr) (G : Hp) (kvs : NKV) (cs los : List V) (st : St5) : Prop where
  u : NRep K cl G kvs (usedD st.used)
  c : Reps K cl G cs (List.map chgD st.charges)
  l : Reps K cl G los (List.map lftD st.left)
theorem RunS.mono {K : PySem.W.Frag} {cl : Nat → Addr} {G G' : Hp} {kvs : NKV} {cs los : List V} {st : St5} (s : Same G G') (h : RunS K cl G kvs cs los st) : RunS K cl G' kvs cs los st := ⟨h.u.mono s, h.c.mono s, h.l.mono s⟩
abbrev sp_ChargeRun_init (K : PySem.W.Frag) (cl : Nat → Addr) : Sp := GSp fun vs G M T => ∃ x dx M0 v1 v2 v3 E, vs = [.ref x, v1, v2, v3] ∧ M = (x, .ins (cl 3) dx (List.zip [] [])) :: M0 ∧ RunE K cl G v1 v2 v3 E ∧
  ∀ G' us ch lo w1 w2 w3, Same G G' → RunE K cl G' w1 w2 w3 E → T .non G' (RunM cl x dx us ch lo w1 w2 w3 0 [] [] [] M0)
abbrev sp_ChargeRun_free_left (K : PySem.W.Frag) (cl : Nat → Addr) : Sp := GSp fun vs G M T => ∃ x dx us ch lo vc vt va ep kvs cs los M0 E u a m, vs = [.ref x, .str a, .int m] ∧ M = RunM cl x dx us ch lo vc vt va ep kvs cs los M0 ∧ RunE K cl G vc vt va E ∧ NRep K cl G kvs (usedD u) ∧ ∀ G', Same G G' → T (.int (leftF E u a m)) G' M
abbrev sp_ChargeRun_reason_against (K : PySem.W.Frag) (cl : Nat → Addr) : Sp := GSp fun vs G M T => ∃ x dx us ch lo vc vt va ep kvs cs los M0 E vs1 vk c, vs = [.ref x, vs1, vk] ∧ M = RunM cl x dx us ch lo vc vt va ep kvs cs los M0 ∧ RunE K cl G vc vt va E ∧ Rep K cl G vk (optC c) ∧
  ∀ G' v, Same G G' → Rep K cl G' v (match c with | none => .str "no contract" | some x => if (valG E.tfs x.2).isSome then .non else .str "no tariff") → T v G' M
abbrev sp_ChargeRun_lines_of (K : PySem.W.Frag) (cl : Nat → Addr) : Sp := GSp fun vs G M T => ∃ x dx us ch lo vc vt va ep kvs cs los M0 E vs1 s n tf f, vs = [.ref x, vs1, .str n, .int f] ∧ M = RunM cl x dx us ch lo vc vt va ep kvs cs los M0 ∧ RunE K cl G vc vt va E ∧ Rep K cl G vs1 (Sect.d s) ∧ s.Ok ∧ valG E.tfs n = some tf ∧ tf.Ok ∧ 0 ≤ f ∧
  ∀ G' v, Same G G' → Rep K cl G' v (optL (linesF tf s f)) → T v G' M
abbrev sp_ChargeRun_take (K : PySem.W.Frag) (cl : Nat → Addr) : Sp := GSp fun vs G M T => ∃ x dx us ch lo vc vt va ep kvs cs los M0 E vs1 s p st, vs = [.ref x, vs1] ∧ M = RunM cl x dx us ch lo vc vt va ep kvs cs los M0 ∧ RunE K cl G vc vt va E ∧ E.Ok ∧ Rep K cl G vs1 (Sect.d s) ∧ s.Ok ∧ s.payer = some p ∧ RunS K cl G kvs cs los st ∧ Fair E st.used ∧
  st.charges.length ≤ 5000000 ∧ st.left.length ≤ 1000 ∧ st.used.length ≤ 1000 ∧
  ∀ G' ep' kvs' cs' los', Same G G' → RunS K cl G' kvs' cs' los' (takeF E st s) → T .non G' (RunM cl x dx us ch lo vc vt va ep' kvs' cs' los' M0)
abbrev sp_charge_sections (K : PySem.W.Frag) (cl : Nat → Addr) : Sp := PSp K cl fun ds d => ∃ l E, ds = [.lst (List.map Sect.d l), conD (Env5.hist E), dicD (tfsK E.tfs), dicD (alwK E.alw)] ∧ E.Ok ∧ (∀ s ∈ l, Sect.Ok s) ∧ l.length ≤ 200 ∧
  d = .tup [.lst (List.map chgD (chargeF E l).charges), .lst (List.map lftD (chargeF E l).left)]
theorem dropG_text {α : Type} (x : Str) (st : List (Str × α)) : dropG (st.map fun e => ((.inr e.1 : Key), e.2)) (.inr x) = (dropG st x).map fun e => ((.inr e.1 : Key), e.2) := by
  unfold dropG
  rw [List.filter_map]
  congr 1
  refine List.filter_congr fun e _ => ?_
  show decide ((Sum.inr e.1 : Key) ≠ .inr x) = decide (e.1 ≠ x)
  by_cases h : e.1 = x
  · have h' : (Sum.inr e.1 : Key) = .inr x := by rw [h]
    simp [h]
  · have h' : ¬ (Sum.inr e.1 : Key) = .inr x := fun z => h (Sum.inr.inj z)
    simp [h]
theorem dropG_map {κ α β : Type} [DecidableEq κ] (f : α → β) (k : κ) (st : List (κ × α)) : dropG (st.map fun e => (e.1, f e.2)) k = (dropG st k).map fun e => (e.1, f e.2) := by
  unfold dropG
  rw [List.filter_map]
  rfl
theorem dropG_none {κ α : Type} [DecidableEq κ] {st : List (κ × α)} {k : κ} (h : valG st k = none) : dropG st k = st := by
  unfold dropG
  refine List.filter_eq_self.mpr fun e he => ?_
  unfold valG at h
  rw [Option.map_eq_none_iff, List.find?_eq_none] at h
  have := h e he
  simpa using this
theorem histK_put {h : Hist} {x : Str} {rows : List Row3} : putG (histK h) (.inr x) (D.tup (rows.map rowD)) = histK (putG h x rows) := by
  have e : ∀ h : Hist, histK h = (h.map fun e => (e.1, D.tup (e.2.map rowD))).map fun e => ((.inr e.1 : Key), e.2) := fun h => by
    unfold histK
    rw [List.map_map]
    rfl
  rw [e h, e (putG h x rows), putG_text, putG_map (fun rows : List Row3 => D.tup (rows.map rowD))]
theorem histK_drop {h : Hist} {x : Str} : dropG (histK h) (.inr x) = histK (dropG h x) := by
  have e : ∀ h : Hist, histK h = (h.map fun e => (e.1, D.tup (e.2.map rowD))).map fun e => ((.inr e.1 : Key), e.2) := fun h => by
    unfold histK
    rw [List.map_map]
    rfl
  rw [e h, e (dropG h x), dropG_text, dropG_map (fun rows : List Row3 => D.tup (rows.map rowD))]
/-! ### what the law builds -/
abbrev sp_law_shuffled (K : PySem.W.Frag) (cl : Nat → Addr) : Sp := GSp fun vs G M T => ∃ (v0 v1 : V) (ns : List Int) (ds : List D), vs = [v0, v1] ∧ Rep K cl G v0 (.lst (List.map D.int ns)) ∧ Rep K cl G v1 (.lst ds) ∧ ds.length ≤ 10000 ∧ ∀ G' v es, Same G G' → List.Perm es ds → Rep K cl G' v (.lst es) → T v G' M
abbrev sp_law_lines (K : PySem.W.Frag) (cl : Nat → Addr) : Sp := PSp K cl fun ds d => ds = [] ∧ d = .lst [.str "41", .str "42", .str "43", .str "71"]
def okA (o : Option Str) : Prop := o = none ∨ o = some "ann" ∨ o = some "firm"
def RowOk (r : Row3) : Prop := okA r.2.1 ∧ (r.2.2 = "std" ∨ r.2.2 = "eve" ∨ r.2.2 = "lost")
abbrev sp_law_history (K : PySem.W.Frag) (cl : Nat → Addr) : Sp := GSp fun vs G M T => ∃ a s M0, vs = [.ref a] ∧ M = (a, .lst [.int s]) :: M0 ∧ ∀ v rows s' G', Same G G' → Asc rows → rows.length ≤ 10 → (∀ r ∈ rows, RowOk r) → Rep K cl G' v (.lst (List.map rowD rows)) → T v G' ((a, .lst [.int s']) :: M0)
/-- what is known of the law's sections -/
structure LawS (k : Nat) (s : Sect) : Prop where
  own : s.owner.2.2 = (k : Int)
  ok : s.Ok
  o0 : 3000000 ≤ s.opened
  o1 : s.opened ≤ 6000000
  pay : ∀ p, s.payer = some p → okS p = true ∧ p.length ≤ 10
abbrev sp_law_section (K : PySem.W.Frag) (cl : Nat → Addr) : Sp := GSp fun vs G M T => ∃ (a : Addr) (s : Int) (k : Nat) (M0 : ML), vs = [.ref a, .int (k : Int)] ∧ M = (a, .lst [.int s]) :: M0 ∧ k ≤ 1000 ∧ ∀ v z s' G', Same G G' → LawS k z → Rep K cl G' v (Sect.d z) → T v G' ((a, .lst [.int s']) :: M0)
abbrev sp_law_sections (K : PySem.W.Frag) (cl : Nat → Addr) : Sp := GSp fun vs G M T => ∃ (v0 : V) (ns : List Int) (n : Int), vs = [v0, .int n] ∧ Rep K cl G v0 (.lst (List.map D.int ns)) ∧ 0 ≤ n ∧ n ≤ 100 ∧ ∀ G' v l, Same G G' → Paired LawS (List.range n.toNat) l → Rep K cl G' v (.lst (List.map Sect.d l)) → T v G' M
structure TfsOk (l : List (Str × Tariff)) : Prop where
  k : l.map (·.1) = [Str.ofString "std", Str.ofString "eve"]
  t : ∀ e ∈ l, e.2.Ok
  u : ∀ e ∈ l, e.2.Uniq
abbrev sp_law_tariffs (K : PySem.W.Frag) (cl : Nat → Addr) : Sp := GSp fun vs G M T => ∃ (v0 : V) (ns : List Int), vs = [v0] ∧ Rep K cl G v0 (.lst (List.map D.int ns)) ∧ ∀ G' v l, Same G G' → TfsOk l → Rep K cl G' v (dicD (tfsK l)) → T v G' M
def HistOk (h : Hist) : Prop := ∀ e ∈ h, ∀ r ∈ e.2, RowOk r
abbrev sp_law_contracts (K : PySem.W.Frag) (cl : Nat → Addr) : Sp := GSp fun vs G M T => ∃ (v0 : V) (ns : List Int), vs = [v0] ∧ Rep K cl G v0 (.lst (List.map D.int ns)) ∧ ∀ G' v h, Same G G' → HistOk h → Rep K cl G' v (conD h) → T v G' M
structure AlwOk (l : List (Str × Int)) : Prop where
  k : l.map (·.1) = [Str.ofString "ann", Str.ofString "firm"]
  a : ∀ e ∈ l, 0 ≤ e.2 ∧ e.2 ≤ 1000
abbrev sp_law_allowances (K : PySem.W.Frag) (cl : Nat → Addr) : Sp := GSp fun vs G M T => ∃ (v0 : V) (ns : List Int), vs = [v0] ∧ Rep K cl G v0 (.lst (List.map D.int ns)) ∧ ∀ G' v l, Same G G' → AlwOk l → Rep K cl G' v (dicD (alwK l)) → T v G' M
/-! ### free seconds used -/
abbrev isF (o : Own) (c : Chg) : Bool := decide (c.1.1 = o) && decide (c.1.2.2 = "free")
def usedSum (CH : List Chg) (o : Own) : Int := ((CH.filter (isF o)).map fun c : Chg => c.2.2.1 - c.1.2.1).sum
abbrev sp_law_used (K : PySem.W.Frag) (cl : Nat → Addr) : Sp := PSp K cl fun ds d => ∃ CH o, ds = [.lst (List.map chgD CH), ownD o] ∧ d = .int (usedSum CH o)
structure SecsOk (l : List Sect) : Prop where
  ok : ∀ s ∈ l, s.Ok ∧ 3000000 ≤ s.opened ∧ s.opened ≤ 6000000
  pay : ∀ s ∈ l, ∀ p, s.payer = some p → okS p = true ∧ p.length ≤ 10
  nd : (l.map Sect.owner).Nodup
  len : l.length ≤ 100
abbrev sp_law_holds (K : PySem.W.Frag) (cl : Nat → Addr) : Sp := PSp K cl fun ds d => ∃ l E, ds = [.lst (List.map Sect.d l), conD (Env5.hist E), dicD (tfsK E.tfs), dicD (alwK E.alw)] ∧ E.Ok ∧ HistOk (Env5.hist E) ∧ SecsOk l ∧ E.alw.map (·.1) = [Str.ofString "ann", Str.ofString "firm"] ∧ d = .bl true
abbrev sp_law (K : PySem.W.Frag) (cl : Nat → Addr) : Sp := GSp fun vs G M T => ∃ v ns, vs = [v] ∧ Rep K cl G v (.lst (List.map D.int ns)) ∧ ∀ G' M', Same G G' → T (.bl true) G' M'
def t_Band_init (K : PySem.W.Frag) (cl : Nat → Addr) : TS :=
  (tSeq (sFld K (tVar 0) (tVar 1) "label") (tSeq (sFld K (tVar 0) (tVar 2) "prefix") (tSeq (sFld K (tVar 0) (tVar 3) "from_hour") (tSeq (sFld K (tVar 0) (tVar 4) "to_hour") (sFld K (tVar 0) (tVar 5) "price")))))
def t_Band_holds (K : PySem.W.Frag) (cl : Nat → Addr) : TS :=
  (tSeq (tAsg (tOp (rDivI) (tOp (rModI) (tVar 2) (tC (.int 86400))) (tC (.int 3600))) (gName 3)) (tRet ((tAndV (tM1 rStarts (tVar 1) (tFld K (tVar 0) "prefix")) (tAndV (tOp (rLeI) (tFld K (tVar 0) "from_hour") (tVar 3)) (tOp (rLtI) (tVar 3) (tFld K (tVar 0) "to_hour")))))))
def t_Tariff_init (K : PySem.W.Frag) (cl : Nat → Addr) : TS :=
  (tSeq (sFld K (tVar 0) (tVar 1) "setup_price") (sFld K (tVar 0) (tCB (rTupA K) (tCons (tVar 2) tNil)) "bands"))
def t_Charge_init (K : PySem.W.Frag) (cl : Nat → Addr) : TS :=
  (tSeq (sFld K (tVar 0) (tVar 1) "key") (tSeq (sFld K (tVar 0) (tVar 2) "account") (tSeq (sFld K (tVar 0) (tVar 3) "till") (sFld K (tVar 0) (tVar 4) "mills"))))
def t_ChargeRun_init (K : PySem.W.Frag) (cl : Nat → Addr) : TS :=
  (tSeq (sFld K (tVar 0) (tVar 1) "contracts") (tSeq (sFld K (tVar 0) (tVar 2) "tariffs") (tSeq (sFld K (tVar 0) (tVar 3) "allowances") (tSeq (sFld K (tVar 0) (tNew) "used") (tSeq (sFld K (tVar 0) (tLst tNil) "charges") (sFld K (tVar 0) (tLst tNil) "left_out"))))))
def t_ChargeRun_free_left (K : PySem.W.Frag) (cl : Nat → Addr) : TS :=
  (tRet (tOp (rSubI) (tGet2 K cl (tFld K (tVar 0) "allowances") (tVar 1) (tC (.int 0))) (tGet2 K cl (tFld K (tVar 0) "used") (tTup (tCons (tVar 1) (tCons (tVar 2) tNil))) (tC (.int 0)))))
def t_ChargeRun_reason_against (K : PySem.W.Frag) (cl : Nat → Addr) : TS :=
  (tSeq (tIfS (tTest (tOp (rIsN) (tVar 2) (tC .non))) (tRet (tC (.str "no contract"))) tNext) (tSeq (tIfS (tTest (tOp (rInA K cl true) (tOp (rIx K) (tVar 2) (tC (.int 1))) (tFld K (tVar 0) "tariffs"))) (tRet (tC (.str "no tariff"))) tNext) (tRet (tC .non))))
def t_section_place (K : PySem.W.Frag) (cl : Nat → Addr) : TS :=
  (tRet (tTup (tCons (tFld K (tVar 0) "opened") (tCons (tFld K (tVar 0) "owner") tNil))))
def t_Contracts_init (K : PySem.W.Frag) (cl : Nat → Addr) : TS :=
  (sFld K (tVar 0) (tNew) "histories")
def t_Contracts_set_history (K : PySem.W.Frag) (cl : Nat → Addr) : TS :=
  (tSeq (tFor (iRng2 (tCons (tC (.int 1)) (tCons (tCB (rLenA K) (tCons (tVar 2) tNil)) tNil))) (gName 3) (tIfS (tTest (tOp (rLeI) (tOp (rIx K) (tOp (rIx K) (tVar 2) (tVar 3)) (tC (.int 0))) (tOp (rIx K) (tOp (rIx K) (tVar 2) (tOp (rSubI) (tVar 3) (tC (.int 1)))) (tC (.int 0))))) tNope tNext)) (tIfS (tTr K (tVar 2)) (tAsg (tCB (rTupA K) (tCons (tVar 2) tNil)) (gSub (tFld K (tVar 0) "histories") (tVar 1) (rSetA K cl))) (tIfS (tTest (tOp (rInA K cl false) (tVar 1) (tFld K (tVar 0) "histories"))) (sDelA K cl (tFld K (tVar 0) "histories") (tVar 1)) tNext)))
def t_Contracts_in_force (K : PySem.W.Frag) (cl : Nat → Addr) : TS :=
  (tSeq (tAsg (tC .non) (gName 3)) (tSeq (tFor (iSeq K (tGet2 K cl (tFld K (tVar 0) "histories") (tVar 1) (tTup tNil))) (gTup K 3 (gNames [4, 5, 6])) (tIfS (tTest (tOp (rLeI) (tVar 4) (tVar 2))) (tAsg (tTup (tCons (tVar 5) (tCons (tVar 6) tNil))) (gName 3)) tNext)) (tSeq (tIfS (tOr (tTest (tOp (rIsN) (tVar 3) (tC .non))) (tTest (tOp (rIsN) (tOp (rIx K) (tVar 3) (tC (.int 0))) (tC .non)))) (tRet (tC .non)) tNext) (tRet (tVar 3)))))
def t_Section_init (K : PySem.W.Frag) (cl : Nat → Addr) : TS :=
  (tSeq (sFld K (tVar 0) (tVar 1) "owner") (tSeq (sFld K (tVar 0) (tVar 2) "payer") (tSeq (sFld K (tVar 0) (tVar 3) "called") (tSeq (sFld K (tVar 0) (tVar 4) "opened") (tSeq (sFld K (tVar 0) (tVar 5) "start") (sFld K (tVar 0) (tVar 6) "seconds"))))))
def t_Section_is_free (K : PySem.W.Frag) (cl : Nat → Addr) : TS :=
  (tRet ((tOrV (tOp (rIsN) (tFld K (tVar 0) "payer") (tC .non)) (tOp (rEqA K) (tFld K (tVar 0) "seconds") (tC (.int 0))))))
def t_law_cell (K : PySem.W.Frag) (cl : Nat → Addr) : TS :=
  (tSeq (tIfS (tTest (tOp (rLtI) (tVar 1) (tCB (rLenA K) (tCons (tVar 0) tNil)))) (tRet (tOp (rIx K) (tVar 0) (tVar 1))) tNext) (tRet (tC (.int 0))))
def t_law_state (K : PySem.W.Frag) (cl : Nat → Addr) : TS :=
  (tSeq (tIfS (tTest (tOp (rGeI) (tVar 0) (tC (.int 1000000000000000000)))) (tRet (tLst (tCons (tVar 0) tNil))) tNext) (tSeq (tAsg (tC (.int 2305843009213693951)) (gName 2)) (tSeq (tAsg (tOp (rModI) (tCB (rInt1) (tCons (tOp (rAdd K) (tOp (rAdd K) (tOp (rMulI) (tVar 0) (tC (.int 6364136223))) (tOp (rMulI) (tOp (rAdd K) (tVar 1) (tC (.int 1))) (tC (.int 104729)))) (tC (.int 77))) tNil)) (tVar 2)) (gName 3)) (tSeq (tAsg (tOp (rModI) (tCB (rInt1) (tCons (tOp (rAdd K) (tOp (rAdd K) (tOp (rMulI) (tVar 3) (tVar 3)) (tOp (rMulI) (tC (.int 1013)) (tVar 3))) (tVar 1)) tNil)) (tVar 2)) (gName 4)) (tSeq (tAsg (tOp (rModI) (tCB (rInt1) (tCons (tOp (rAdd K) (tOp (rAdd K) (tOp (rMulI) (tVar 4) (tC (.int 48271))) (tOp (rMulI) (tVar 3) (tC (.int 31)))) (tC (.int 9))) tNil)) (tVar 2)) (gName 5)) (tSeq (tAsg (tOp (rModI) (tCB (rInt1) (tCons (tOp (rAdd K) (tOp (rMulI) (tVar 5) (tVar 5)) (tVar 4)) tNil)) (tVar 2)) (gName 6)) (tRet (tLst (tCons (tOp (rAdd K) (tOp (rMulI) (tOp (rAdd K) (tOp (rMulI) (tOp (rAdd K) (tOp (rMulI) (tVar 6) (tVar 2)) (tVar 5)) (tVar 2)) (tVar 4)) (tVar 2)) (tVar 3)) tNil)))))))))
def t_law_digit (K : PySem.W.Frag) (cl : Nat → Addr) : TS :=
  (tSeq (tAsg (tOp (rModI) (tCB (rInt1) (tCons (tOp (rIx K) (tVar 0) (tC (.int 0))) tNil)) (tVar 1)) (gName 2)) (tSeq (tAsg (tOp (rDivI) (tOp (rIx K) (tVar 0) (tC (.int 0))) (tVar 1)) (gSub (tVar 0) (tC (.int 0)) rSetL)) (tRet (tVar 2))))
def t_law_lines (K : PySem.W.Frag) (cl : Nat → Addr) : TS :=
  (tRet (tLst (tCons (tC (.str "41")) (tCons (tC (.str "42")) (tCons (tC (.str "43")) (tCons (tC (.str "71")) tNil))))))
def t_law_used (K : PySem.W.Frag) (cl : Nat → Addr) : TS :=
  (tSeq (tAsg (tC (.int 0)) (gName 2)) (tSeq (tFor (iSeq K (tVar 0)) (gName 3) (tIfS (tAnd (tTest (tOp (rEqA K) (tOp (rIx K) (tFld K (tVar 3) "key") (tC (.int 0))) (tVar 1))) (tTest (tOp (rEqA K) (tOp (rIx K) (tFld K (tVar 3) "key") (tC (.int 2))) (tC (.str "free"))))) (tAsg (tOp (rSubI) (tOp (rAdd K) (tVar 2) (tFld K (tVar 3) "till")) (tOp (rIx K) (tFld K (tVar 3) "key") (tC (.int 1)))) (gName 2)) tNext)) (tRet (tVar 2))))
def t_Tariff_band_at (K : PySem.W.Frag) (cl : Nat → Addr) : TS :=
  (tSeq (tAsg (tC .non) (gName 3)) (tSeq (tFor (iSeq K (tFld K (tVar 0) "bands")) (gName 4) (tIfS (tAnd (tTr K (tMeth (cl 0) "holds" (sp_Band_holds K cl) [] E0 (tVar 4) (tCons (tVar 1) (tCons (tVar 2) tNil)))) (tOr (tTest (tOp (rIsN) (tVar 3) (tC .non))) (tTest (tOp (rGtI) (tCB (rLenA K) (tCons (tFld K (tVar 4) "prefix") tNil)) (tCB (rLenA K) (tCons (tFld K (tVar 3) "prefix") tNil)))))) (tAsg (tVar 4) (gName 3)) tNext)) (tRet (tVar 3))))
def t_law_shuffled (K : PySem.W.Frag) (cl : Nat → Addr) : TS :=
  (tSeq (tAsg (tCB (rListA K) (tCons (tVar 1) tNil)) (gName 2)) (tSeq (tAsg (tLst tNil) (gName 3)) (tSeq (tFor (iRng1 (tCons (tCB (rLenA K) (tCons (tVar 1) tNil)) tNil)) (gName 4) (tSeq (tAsg (tCall (sp_law_state K cl) [] E0 (tCons (tCall (sp_law_cell K cl) [] E0 (tCons (tVar 0) (tCons (tVar 4) tNil))) (tCons (tOp (rAdd K) (tC (.int 500)) (tVar 4)) tNil))) (gName 5)) (tSeq (tAsg (tCall (sp_law_digit K cl) [] E0 (tCons (tVar 5) (tCons (tCB (rLenA K) (tCons (tVar 2) tNil)) tNil))) (gName 6)) (tSeq (tDrop (tBM K "list" rAppend (tVar 3) (tCons (tOp (rIx K) (tVar 2) (tVar 6)) tNil))) (tAsg (tOp (rAdd K) (tSl (rSlA K) (tVar 2) tNoPart (tPart (tVar 6))) (tSl (rSlA K) (tVar 2) (tPart (tOp (rAdd K) (tVar 6) (tC (.int 1)))) tNoPart)) (gName 2)))))) (tRet (tVar 3)))))
def t_law_called (K : PySem.W.Frag) (cl : Nat → Addr) : TS :=
  (tRet (tOp (rAdd K) (tOp (rIx K) (tTup (tCons (tC (.str "5")) (tCons (tC (.str "6")) (tCons (tC (.str "512")) (tCons (tC (.str "51")) (tCons (tC (.str "62")) (tCons (tC (.str "7")) tNil))))))) (tCall (sp_law_digit K cl) [] E0 (tCons (tVar 0) (tCons (tC (.int 6)) tNil)))) (tCB (rStrI) (tCons (tCall (sp_law_digit K cl) [] E0 (tCons (tVar 0) (tCons (tC (.int 30)) tNil))) tNil))))
def t_law_history (K : PySem.W.Frag) (cl : Nat → Addr) : TS :=
  (tSeq (tAsg (tLst tNil) (gName 1)) (tSeq (tAsg (tC (.int 0)) (gName 2)) (tSeq (tFor (iRng1 (tCons (tCall (sp_law_digit K cl) [] E0 (tCons (tVar 0) (tCons (tC (.int 4)) tNil))) tNil)) (gName 3) (tSeq (tAsg (tOp (rIx K) (tTup (tCons (tC (.str "ann")) (tCons (tC (.str "firm")) (tCons (tC .non) (tCons (tC (.str "ann")) tNil))))) (tCall (sp_law_digit K cl) [] E0 (tCons (tVar 0) (tCons (tC (.int 4)) tNil)))) (gName 4)) (tSeq (tDrop (tBM K "list" rAppend (tVar 1) (tCons (tTup (tCons (tVar 2) (tCons (tVar 4) (tCons (tOp (rIx K) (tTup (tCons (tC (.str "std")) (tCons (tC (.str "eve")) (tCons (tC (.str "std")) (tCons (tC (.str "lost")) tNil))))) (tCall (sp_law_digit K cl) [] E0 (tCons (tVar 0) (tCons (tC (.int 4)) tNil)))) tNil)))) tNil))) (tAsg (tOp (rAdd K) (tOp (rAdd K) (tVar 2) (tC (.int 1))) (tOp (rMulI) (tC (.int 100000)) (tCall (sp_law_digit K cl) [] E0 (tCons (tVar 0) (tCons (tC (.int 40)) tNil))))) (gName 2))))) (tRet (tVar 1)))))
def t_law_allowances (K : PySem.W.Frag) (cl : Nat → Addr) : TS :=
  (tSeq (tAsg (tCall (sp_law_state K cl) [] E0 (tCons (tCall (sp_law_cell K cl) [] E0 (tCons (tVar 0) (tCons (tC (.int 2)) tNil))) (tCons (tC (.int 60)) tNil))) (gName 1)) (tRet (tDisp [((tC (.str "ann")), (tOp (rIx K) (tTup (tCons (tC (.int 0)) (tCons (tC (.int 30)) (tCons (tC (.int 100)) (tCons (tC (.int 700)) tNil))))) (tCall (sp_law_digit K cl) [] E0 (tCons (tVar 1) (tCons (tC (.int 4)) tNil))))), ((tC (.str "firm")), (tCall (sp_law_digit K cl) [] E0 (tCons (tVar 1) (tCons (tC (.int 300)) tNil))))])))
def t_law_large (K : PySem.W.Frag) (cl : Nat → Addr) : TS :=
  (tRet (tOp (rEqA K) (tCall (sp_law_digit K cl) [] E0 (tCons (tCall (sp_law_state K cl) [] E0 (tCons (tCall (sp_law_cell K cl) [] E0 (tCons (tVar 0) (tCons (tC (.int 0)) tNil))) (tCons (tC (.int 97)) tNil))) (tCons (tC (.int 4)) tNil))) (tC (.int 0))))
def t_stretches (K : PySem.W.Frag) (cl : Nat → Addr) : TS :=
  (tSeq (tAsg (tLst tNil) (gName 5)) (tSeq (tAsg (tVar 3) (gName 6)) (tSeq (tWhile (tTest (tOp (rLtI) (tVar 6) (tVar 4))) (tSeq (tAsg (tMeth (cl 1) "band_at" (sp_Tariff_band_at K cl) [] E0 (tVar 0) (tCons (tVar 1) (tCons (tOp (rAdd K) (tVar 2) (tVar 6)) tNil))) (gName 7)) (tSeq (tIfS (tTest (tOp (rIsN) (tVar 7) (tC .non))) (tRet (tC .non)) tNext) (tSeq (tAsg (tCB (rMin2) (tCons (tVar 4) (tCons (tOp (rSubI) (tOp (rAdd K) (tVar 6) (tC (.int 3600))) (tOp (rModI) (tOp (rAdd K) (tVar 2) (tVar 6)) (tC (.int 3600)))) tNil))) (gName 8)) (tSeq (tIfS (tAnd (tTr K (tVar 5)) (tTest (tOp (rEqA K) (tFld K (tOp (rIx K) (tOp (rIx K) (tVar 5) (tUn rNegI (tC (.int 1)))) (tC (.int 0))) "label") (tFld K (tVar 7) "label")))) (tAsg (tTup (tCons (tVar 7) (tCons (tOp (rIx K) (tOp (rIx K) (tVar 5) (tUn rNegI (tC (.int 1)))) (tC (.int 1))) (tCons (tVar 8) tNil)))) (gSub (tVar 5) (tUn rNegI (tC (.int 1))) rSetL)) (tDrop (tBM K "list" rAppend (tVar 5) (tCons (tTup (tCons (tVar 7) (tCons (tVar 6) (tCons (tVar 8) tNil)))) tNil)))) (tAsg (tVar 8) (gName 6))))))) (tRet (tVar 5)))))
def t_law_tariff (K : PySem.W.Frag) (cl : Nat → Addr) : TS :=
  (tSeq (tAsg (tLst tNil) (gName 1)) (tSeq (tFor (iRng1 (tCons (tCall (sp_law_digit K cl) [] E0 (tCons (tVar 0) (tCons (tC (.int 6)) tNil))) tNil)) (gName 2) (tSeq (tAsg (tOp (rIx K) (tTup (tCons (tC (.str "")) (tCons (tC (.str "5")) (tCons (tC (.str "51")) (tCons (tC (.str "6")) (tCons (tC (.str "62")) (tCons (tC (.str "512")) tNil))))))) (tCall (sp_law_digit K cl) [] E0 (tCons (tVar 0) (tCons (tC (.int 6)) tNil)))) (gName 3)) (tSeq (tAsg (tCall (sp_law_digit K cl) [] E0 (tCons (tVar 0) (tCons (tC (.int 24)) tNil))) (gName 4)) (tSeq (tAsg (tOp (rAdd K) (tOp (rAdd K) (tVar 4) (tC (.int 1))) (tCall (sp_law_digit K cl) [] E0 (tCons (tVar 0) (tCons (tOp (rSubI) (tC (.int 24)) (tVar 4)) tNil)))) (gName 5)) (tDrop (tBM K "list" rAppend (tVar 1) (tCons (tMake (cl 0) (sp_Band_init K cl) [] E0 (tCons (tOp (rAdd K) (tC (.str "band")) (tCB (rStrI) (tCons (tVar 2) tNil))) (tCons (tVar 3) (tCons (tVar 4) (tCons (tVar 5) (tCons (tCall (sp_law_digit K cl) [] E0 (tCons (tVar 0) (tCons (tC (.int 40)) tNil))) tNil)))))) tNil))))))) (tSeq (tIfS (tTest (tOp (rGtI) (tCall (sp_law_digit K cl) [] E0 (tCons (tVar 0) (tCons (tC (.int 3)) tNil))) (tC (.int 0)))) (tDrop (tBM K "list" rAppend (tVar 1) (tCons (tMake (cl 0) (sp_Band_init K cl) [] E0 (tCons (tC (.str "other")) (tCons (tC (.str "")) (tCons (tC (.int 0)) (tCons (tC (.int 24)) (tCons (tOp (rAdd K) (tC (.int 3)) (tCall (sp_law_digit K cl) [] E0 (tCons (tVar 0) (tCons (tC (.int 9)) tNil)))) tNil)))))) tNil))) tNext) (tRet (tMake (cl 1) (sp_Tariff_init K cl) [] E0 (tCons (tCall (sp_law_digit K cl) [] E0 (tCons (tVar 0) (tCons (tC (.int 30)) tNil))) (tCons (tCB (rTupA K) (tCons (tVar 1) tNil)) tNil)))))))
def t_law_section (K : PySem.W.Frag) (cl : Nat → Addr) : TS :=
  (tSeq (tAsg (tOp (rIx K) (tTup (tCons (tC (.str "41")) (tCons (tC (.str "42")) (tCons (tC (.str "43")) (tCons (tC (.str "71")) (tCons (tC .non) (tCons (tC (.str "49")) tNil))))))) (tCall (sp_law_digit K cl) [] E0 (tCons (tVar 0) (tCons (tC (.int 6)) tNil)))) (gName 2)) (tSeq (tAsg (tOp (rAdd K) (tC (.int 3000000)) (tOp (rMulI) (tC (.int 90000)) (tCall (sp_law_digit K cl) [] E0 (tCons (tVar 0) (tCons (tC (.int 30)) tNil))))) (gName 3)) (tSeq (tAsg (tOp (rSubI) (tOp (rAdd K) (tOp (rMulI) (tC (.int 3600)) (tCall (sp_law_digit K cl) [] E0 (tCons (tVar 0) (tCons (tC (.int 48)) tNil)))) (tC (.int 3600))) (tCall (sp_law_digit K cl) [] E0 (tCons (tVar 0) (tCons (tC (.int 90)) tNil)))) (gName 4)) (tSeq (tAsg (tOp (rIx K) (tTup (tCons (tC (.int 0)) (tCons (tC (.int 1)) (tCons (tC (.int 60)) (tCons (tC (.int 61)) (tCons (tCall (sp_law_digit K cl) [] E0 (tCons (tVar 0) (tCons (tC (.int 400)) tNil))) tNil)))))) (tCall (sp_law_digit K cl) [] E0 (tCons (tVar 0) (tCons (tC (.int 5)) tNil)))) (gName 5)) (tSeq (tIfS (tTest (tChain (rLtI) (rLtI) (tC (.int 8)) (tVar 1) (tC (.int 13)))) (tAsg (tOp (rMulI) (tVar 5) (tC (.int 40))) (gName 5)) tNext) (tRet (tMake (cl 7) (sp_Section_init K cl) [] E0 (tCons (tTup (tCons (tCall (sp_law_digit K cl) [] E0 (tCons (tVar 0) (tCons (tC (.int 4)) tNil))) (tCons (tC (.int 1)) (tCons (tVar 1) tNil)))) (tCons (tVar 2) (tCons (tCall (sp_law_called K cl) [] E0 (tCons (tVar 0) tNil)) (tCons (tVar 3) (tCons (tVar 4) (tCons (tVar 5) tNil)))))))))))))
def t_law_contracts (K : PySem.W.Frag) (cl : Nat → Addr) : TS :=
  (tSeq (tAsg (tMake (cl 6) (sp_Contracts_init K cl) [] E0 tNil) (gName 1)) (tSeq (tFor (iRng1 (tCons (tC (.int 4)) tNil)) (gName 2) (tDrop (tMeth (cl 6) "set_history" (sp_Contracts_set_history K cl) [] E0 (tVar 1) (tCons (tOp (rIx K) (tCall (sp_law_lines K cl) [] E0 tNil) (tVar 2)) (tCons (tCall (sp_law_history K cl) [] E0 (tCons (tCall (sp_law_state K cl) [] E0 (tCons (tCall (sp_law_cell K cl) [] E0 (tCons (tVar 0) (tCons (tVar 2) tNil))) (tCons (tOp (rAdd K) (tC (.int 50)) (tVar 2)) tNil))) tNil)) tNil))))) (tRet (tVar 1))))
def t_price_lines (K : PySem.W.Frag) (cl : Nat → Addr) : TS :=
  (tSeq (tAsg (tCall (sp_stretches K cl) [] E0 (tCons (tVar 0) (tCons (tVar 1) (tCons (tVar 2) (tCons (tVar 3) (tCons (tVar 4) tNil)))))) (gName 5)) (tSeq (tIfS (tTest (tOp (rIsN) (tVar 5) (tC .non))) (tRet (tC .non)) tNext) (tSeq (tAsg (tLst (tCons (tTup (tCons (tC (.str "setup")) (tCons (tVar 3) (tCons (tVar 3) (tCons (tFld K (tVar 0) "setup_price") tNil))))) tNil)) (gName 6)) (tSeq (tFor (iSeq K (tVar 5)) (gTup K 3 (gNames [7, 8, 9])) (tSeq (tAsg (tOp (rDivI) (tOp (rSubI) (tOp (rAdd K) (tOp (rSubI) (tVar 9) (tVar 8)) (tC (.int 60))) (tC (.int 1))) (tC (.int 60))) (gName 10)) (tDrop (tBM K "list" rAppend (tVar 6) (tCons (tTup (tCons (tFld K (tVar 7) "label") (tCons (tVar 8) (tCons (tVar 9) (tCons (tOp (rMulI) (tFld K (tVar 7) "price") (tVar 10)) tNil))))) tNil))))) (tRet (tVar 6))))))
def t_law_sections (K : PySem.W.Frag) (cl : Nat → Addr) : TS :=
  (tRet (tLc (iRng1 (tCons (tVar 1) tNil)) (gName 2) tYes (tCall (sp_law_section K cl) [] E0 (tCons (tCall (sp_law_state K cl) [] E0 (tCons (tCall (sp_law_cell K cl) [] E0 (tCons (tVar 0) (tCons (tVar 2) tNil))) (tCons (tOp (rAdd K) (tC (.int 900)) (tVar 2)) tNil))) (tCons (tVar 2) tNil))) [2]))
def t_law_tariffs (K : PySem.W.Frag) (cl : Nat → Addr) : TS :=
  (tRet (tDisp [((tC (.str "std")), (tCall (sp_law_tariff K cl) [] E0 (tCons (tCall (sp_law_state K cl) [] E0 (tCons (tCall (sp_law_cell K cl) [] E0 (tCons (tVar 0) (tCons (tC (.int 0)) tNil))) (tCons (tC (.int 40)) tNil))) tNil))), ((tC (.str "eve")), (tCall (sp_law_tariff K cl) [] E0 (tCons (tCall (sp_law_state K cl) [] E0 (tCons (tCall (sp_law_cell K cl) [] E0 (tCons (tVar 0) (tCons (tC (.int 1)) tNil))) (tCons (tC (.int 41)) tNil))) tNil)))]))
def t_ChargeRun_lines_of (K : PySem.W.Frag) (cl : Nat → Addr) : TS :=
  (tSeq (tAsg (tLst tNil) (gName 4)) (tSeq (tIfS (tTest (tOp (rLtI) (tVar 3) (tFld K (tVar 1) "seconds"))) (tSeq (tAsg (tOp (rIxA K cl) (tFld K (tVar 0) "tariffs") (tVar 2)) (gName 5)) (tSeq (tAsg (tCall (sp_price_lines K cl) [] E0 (tCons (tVar 5) (tCons (tFld K (tVar 1) "called") (tCons (tFld K (tVar 1) "start") (tCons (tVar 3) (tCons (tFld K (tVar 1) "seconds") tNil)))))) (gName 4)) (tIfS (tTest (tOp (rIsN) (tVar 4) (tC .non))) (tRet (tC .non)) tNext))) tNext) (tSeq (tIfS (tTest (tOp (rGtI) (tVar 3) (tC (.int 0)))) (tAsg (tOp (rAdd K) (tLst (tCons (tTup (tCons (tC (.str "free")) (tCons (tC (.int 0)) (tCons (tVar 3) (tCons (tC (.int 0)) tNil))))) tNil)) (tVar 4)) (gName 4)) tNext) (tRet (tVar 4)))))
def t_ChargeRun_take (K : PySem.W.Frag) (cl : Nat → Addr) : TS :=
  (tSeq (tAsg (tMeth (cl 6) "in_force" (sp_Contracts_in_force K cl) [] E0 (tFld K (tVar 0) "contracts") (tCons (tFld K (tVar 1) "payer") (tCons (tFld K (tVar 1) "opened") tNil))) (gName 2)) (tSeq (tAsg (tMeth (cl 3) "reason_against" (sp_ChargeRun_reason_against K cl) [] E0 (tVar 0) (tCons (tVar 1) (tCons (tVar 2) tNil))) (gName 3)) (tSeq (tIfS (tTest (tOp (rNotN) (tVar 3) (tC .non))) (tSeq (tDrop (tBM K "list" rAppend (tFld K (tVar 0) "left_out") (tCons (tTup (tCons (tFld K (tVar 1) "owner") (tCons (tVar 3) tNil))) tNil))) tRetN) tNext) (tSeq (tAsg (tVar 2) (gTup K 2 (gNames [4, 5]))) (tSeq (tAsg (tOp (rDivI) (tFld K (tVar 1) "opened") (tC (.int 2592000))) (gName 6)) (tSeq (tAsg (tCB (rMin2) (tCons (tFld K (tVar 1) "seconds") (tCons (tMeth (cl 3) "free_left" (sp_ChargeRun_free_left K cl) [] E0 (tVar 0) (tCons (tVar 4) (tCons (tVar 6) tNil))) tNil))) (gName 7)) (tSeq (tAsg (tMeth (cl 3) "lines_of" (sp_ChargeRun_lines_of K cl) [] E0 (tVar 0) (tCons (tVar 1) (tCons (tVar 5) (tCons (tVar 7) tNil)))) (gName 8)) (tSeq (tIfS (tTest (tOp (rIsN) (tVar 8) (tC .non))) (tSeq (tDrop (tBM K "list" rAppend (tFld K (tVar 0) "left_out") (tCons (tTup (tCons (tFld K (tVar 1) "owner") (tCons (tC (.str "no band")) tNil))) tNil))) tRetN) tNext) (tSeq (tAsg (tOp (rAdd K) (tGet2 K cl (tFld K (tVar 0) "used") (tTup (tCons (tVar 4) (tCons (tVar 6) tNil))) (tC (.int 0))) (tVar 7)) (gSub (tFld K (tVar 0) "used") (tTup (tCons (tVar 4) (tCons (tVar 6) tNil))) (rSetA K cl))) (tFor (iSeq K (tVar 8)) (gTup K 4 (gNames [9, 10, 11, 12])) (tDrop (tBM K "list" rAppend (tFld K (tVar 0) "charges") (tCons (tMake (cl 2) (sp_Charge_init K cl) [] E0 (tCons (tTup (tCons (tFld K (tVar 1) "owner") (tCons (tVar 10) (tCons (tVar 9) tNil)))) (tCons (tVar 4) (tCons (tVar 11) (tCons (tVar 12) tNil))))) tNil)))))))))))))
def t_charge_sections (K : PySem.W.Frag) (cl : Nat → Addr) : TS :=
  (tSeq (tAsg (tMake (cl 3) (sp_ChargeRun_init K cl) [] E0 (tCons (tVar 1) (tCons (tVar 2) (tCons (tVar 3) tNil)))) (gName 4)) (tSeq (tFor (iSeq K (tSortKey K cl R_section_place (tCons (tVar 0) tNil))) (gName 5) (tIfS (tNot (tTr K (tMeth (cl 7) "is_free" (sp_Section_is_free K cl) [] E0 (tVar 5) tNil))) (tDrop (tMeth (cl 3) "take" (sp_ChargeRun_take K cl) [] E0 (tVar 4) (tCons (tVar 5) tNil))) tNext)) (tRet (tTup (tCons (tFld K (tVar 4) "charges") (tCons (tFld K (tVar 4) "left_out") tNil))))))
def t_law_holds (K : PySem.W.Frag) (cl : Nat → Addr) : TS :=
  (tSeq (tAsg (tCall (sp_charge_sections K cl) [] E0 (tCons (tVar 0) (tCons (tVar 1) (tCons (tVar 2) (tCons (tVar 3) tNil))))) (gTup K 2 (gNames [4, 5]))) (tSeq (tAsg (tLc (iSeq K (tVar 4)) (gName 18) tYes (tOp (rIx K) (tFld K (tVar 18) "key") (tC (.int 0))) [18]) (gName 6)) (tSeq (tFor (iSeq K (tTup (tCons (tC (.str "ann")) (tCons (tC (.str "firm")) tNil)))) (gName 7) (tFor (iRng2 (tCons (tC (.int 1)) (tCons (tC (.int 4)) tNil))) (gName 8) (tSeq (tAsg (tC (.bl false)) (gName 9)) (tSeq (tAsg (tC (.int 0)) (gName 10)) (tSeq (tAsg (tC (.int 0)) (gName 11)) (tSeq (tFor (iSeq K (tCB (rSortA K cl) (tCons (tLc (iSeq K (tVar 0)) (gName 19) tYes (tTup (tCons (tFld K (tVar 19) "opened") (tCons (tFld K (tVar 19) "owner") (tCons (tFld K (tVar 19) "seconds") (tCons (tCB (rStrO) (tCons (tFld K (tVar 19) "payer") tNil)) tNil))))) [19]) tNil))) (gTup K 4 (gNames [12, 13, 14, 15])) (tSeq (tAsg (tMeth (cl 6) "in_force" (sp_Contracts_in_force K cl) [] E0 (tVar 1) (tCons (tVar 15) (tCons (tVar 12) tNil))) (gName 16)) (tIfS (tAnd (tTest (tOp (rInD K) (tVar 13) (tVar 6))) (tAnd (tTest (tOp (rEqA K) (tOp (rDivI) (tVar 12) (tC (.int 2592000))) (tVar 8))) (tTest (tOp (rEqA K) (tOp (rIx K) (tVar 16) (tC (.int 0))) (tVar 7))))) (tSeq (tAsg (tCall (sp_law_used K cl) [] E0 (tCons (tVar 4) (tCons (tVar 13) tNil))) (gName 17)) (tSeq (tIfS (tAnd (tTest (tOp (rGtI) (tVar 17) (tC (.int 0)))) (tTr K (tVar 9))) (tRet (tC (.bl false))) tNext) (tSeq (tAsg ((tOrV (tVar 9) (tOp (rLtI) (tVar 17) (tVar 14)))) (gName 9)) (tSeq (tAsg (tOp (rAdd K) (tVar 10) (tVar 17)) (gName 10)) (tAsg (tOp (rAdd K) (tVar 11) (tVar 14)) (gName 11)))))) tNext))) (tIfS (tTest (tOp (rNeA K) (tVar 10) (tCB (rMin2) (tCons (tVar 11) (tCons (tOp (rIxA K cl) (tVar 3) (tVar 7)) tNil))))) (tRet (tC (.bl false))) tNext))))))) (tRet (tC (.bl true))))))
def t_law (K : PySem.W.Frag) (cl : Nat → Addr) : TS :=
  (tSeq (tAsg (tCall (sp_law_shuffled K cl) [] E0 (tCons (tVar 0) (tCons (tCall (sp_law_sections K cl) [] E0 (tCons (tVar 0) (tCons (tOp (rAdd K) (tCB (rMin2) (tCons (tC (.int 9)) (tCons (tOp (rAdd K) (tC (.int 3)) (tCB (rLenA K) (tCons (tVar 0) tNil))) tNil))) (tOp (rMulI) (tC (.int 41)) (tCB (rInt1) (tCons (tCall (sp_law_large K cl) [] E0 (tCons (tVar 0) tNil)) tNil)))) tNil))) tNil))) (gName 1)) (tSeq (tAsg (tCall (sp_law_contracts K cl) [] E0 (tCons (tVar 0) tNil)) (gName 2)) (tSeq (tAsg (tCall (sp_law_tariffs K cl) [] E0 (tCons (tVar 0) tNil)) (gName 3)) (tSeq (tAsg (tCall (sp_law_allowances K cl) [] E0 (tCons (tVar 0) tNil)) (gName 4)) (tSeq (tAsg (tDisp [((tC (.str "ann")), (tOp (rAdd K) (tOp (rIxA K cl) (tVar 4) (tC (.str "ann"))) (tC (.int 50)))), ((tC (.str "firm")), (tOp (rAdd K) (tOp (rMulI) (tC (.int 2)) (tOp (rIxA K cl) (tVar 4) (tC (.str "firm")))) (tC (.int 1))))]) (gName 5)) (tSeq (tIfS (tNot (tTr K (tCall (sp_law_holds K cl) [] E0 (tCons (tVar 1) (tCons (tVar 2) (tCons (tVar 3) (tCons (tVar 4) tNil))))))) (tRet (tC (.bl false))) tNext) (tRet (tCall (sp_law_holds K cl) [] E0 (tCons (tVar 1) (tCons (tVar 2) (tCons (tVar 3) (tCons (tVar 5) tNil))))))))))))
class Cf (K : PySem.W.Frag) (cl : Nat → Addr) : Prop where
  cl_Band : Cls K (cl 0)
  nf_Band_label : NoAttr K (cl 0) "label"
  nf_Band_prefix : NoAttr K (cl 0) "prefix"
  nf_Band_from_hour : NoAttr K (cl 0) "from_hour"
  nf_Band_to_hour : NoAttr K (cl 0) "to_hour"
  nf_Band_price : NoAttr K (cl 0) "price"
  cl_Tariff : Cls K (cl 1)
  nf_Tariff_setup_price : NoAttr K (cl 1) "setup_price"
  nf_Tariff_bands : NoAttr K (cl 1) "bands"
  cl_Charge : Cls K (cl 2)
  nf_Charge_key : NoAttr K (cl 2) "key"
  nf_Charge_account : NoAttr K (cl 2) "account"
  nf_Charge_till : NoAttr K (cl 2) "till"
  nf_Charge_mills : NoAttr K (cl 2) "mills"
  cl_ChargeRun : Cls K (cl 3)
  nf_ChargeRun_contracts : NoAttr K (cl 3) "contracts"
  nf_ChargeRun_tariffs : NoAttr K (cl 3) "tariffs"
  nf_ChargeRun_allowances : NoAttr K (cl 3) "allowances"
  nf_ChargeRun_used : NoAttr K (cl 3) "used"
  nf_ChargeRun_charges : NoAttr K (cl 3) "charges"
  nf_ChargeRun_left_out : NoAttr K (cl 3) "left_out"
  cl_Contracts : Cls K (cl 6)
  nf_Contracts_histories : NoAttr K (cl 6) "histories"
  cl_Section : Cls K (cl 7)
  nf_Section_owner : NoAttr K (cl 7) "owner"
  nf_Section_payer : NoAttr K (cl 7) "payer"
  nf_Section_called : NoAttr K (cl 7) "called"
  nf_Section_opened : NoAttr K (cl 7) "opened"
  nf_Section_start : NoAttr K (cl 7) "start"
  nf_Section_seconds : NoAttr K (cl 7) "seconds"
local macro_rules | `(tactic| walk_at "cf") => `(tactic| with_reducible first | exact Cf.cl_Band | exact Cf.nf_Band_label | exact Cf.nf_Band_prefix | exact Cf.nf_Band_from_hour | exact Cf.nf_Band_to_hour | exact Cf.nf_Band_price | exact Cf.cl_Tariff | exact Cf.nf_Tariff_setup_price | exact Cf.nf_Tariff_bands | exact Cf.cl_Charge | exact Cf.nf_Charge_key | exact Cf.nf_Charge_account | exact Cf.nf_Charge_till | exact Cf.nf_Charge_mills | exact Cf.cl_ChargeRun | exact Cf.nf_ChargeRun_contracts | exact Cf.nf_ChargeRun_tariffs | exact Cf.nf_ChargeRun_allowances | exact Cf.nf_ChargeRun_used | exact Cf.nf_ChargeRun_charges | exact Cf.nf_ChargeRun_left_out | exact Cf.cl_Contracts | exact Cf.nf_Contracts_histories | exact Cf.cl_Section | exact Cf.nf_Section_owner | exact Cf.nf_Section_payer | exact Cf.nf_Section_called | exact Cf.nf_Section_opened | exact Cf.nf_Section_start | exact Cf.nf_Section_seconds)
theorem rd_law_cell {K : PySem.W.Frag} {cl : Nat → Addr} {vs H Q E} (h : sp_law_cell K cl vs H Q E) : t_law_cell K cl ⟨fun _ H' => Q .non H', Q, fun _ _ => False, fun _ _ => False⟩ (start ["script", "k"] vs) H := by
  obtain ⟨ds, d, G, M, ⟨ns, k, rfl, hk, rfl⟩, S, rs, q⟩ := h
  obtain ⟨v0, v1, rfl, r0, r1⟩ := reps2 rs
  obtain rfl := r1.of_int
  unfold t_law_cell
  refine s_seq ?_
  refine s_if S (by walk_at "et") ?_ ?_
  · intro G1 H1 g hc
    obtain ⟨rfl, rfl, -⟩ := g.eq rfl
    have hl : k < (ns.length : Int) := by
      have := of_decide_eq_true hc
      simpa using this
    have hx : atI (List.map D.int ns) k = some (.int (ns.getD k.toNat 0)) := by
      rw [atI_getD (D.int 0) hk (by simpa using hl)]
      simp [List.getD]
    exact s_ret S (ev_op (by walk_at "ev") (by walk_at "ev") (o_ixL hx)) fun v G1 H1 g r => q v G1 H1 g.same g.sep r
  · intro G1 H1 g hc
    obtain ⟨rfl, rfl, -⟩ := g.eq rfl
    have hl : (ns.length : Int) ≤ k := by
      have := of_decide_eq_false hc
      simp at this
      omega
    refine s_next ?_
    refine s_ret (K := K) (cl := cl) S (by walk_at "ev") fun v G1 H1 g r => q v G1 H1 g.same g.sep ?_
    rw [List.getD_eq_getElem?_getD, List.getElem?_eq_none (by omega)]
    exact r
theorem rd_law_state {K : PySem.W.Frag} {cl : Nat → Addr} {vs H Q E} (h : sp_law_state K cl vs H Q E) : t_law_state K cl ⟨fun _ H' => Q .non H', Q, fun _ _ => False, fun _ _ => False⟩ (start ["cell", "k", "prime", "first", "second", "third", "fourth"] vs) H := by
  obtain ⟨G, M, S, c, k, rfl, q⟩ := h
  unfold t_law_state
  refine s_seq ?_
  refine s_if (K := K) (cl := cl) S (by walk_at "et") ?_ ?_
  · intro G1 H1 g hc
    refine s_retG g.sep (eg_lst (K := K) (cl := cl) (F := fun v G' M' => ∃ p s, v = .ref p ∧ M' = (p, .lst [.int s]) :: M) (by walk_at "ea") (Nat.le_of_ble_eq_true rfl) fun u vs G' s r => ⟨u, c, rfl, ?_⟩) ?_
    · obtain ⟨x, rfl, hx⟩ := reps1 r
      rw [hx.of_int]
    · rintro v G' H' M' s' S' ⟨p, z, rfl, rfl⟩
      exact q p z G' (g.same.trans s') (g.same.trans s') H' S'
  · intro G1 H1 g hc
    obtain ⟨rfl, rfl, -⟩ := g.eq rfl
    refine s_next ?_
    refine s_seq ?_
    refine s_asg (K := K) (cl := cl) S (by walk_at "ev") ?_
    intro w1 G1 H1 g1 r1
    obtain ⟨rfl, rfl, -⟩ := g1.eq rfl
    obtain rfl := r1.of_int
    refine s_seq ?_
    refine s_asg (K := K) (cl := cl) S (by walk_at "ev") ?_
    intro w2 G2 H2 g2 r2
    obtain ⟨rfl, rfl, -⟩ := g2.eq rfl
    obtain ⟨z1, rfl, h10, h11⟩ : ∃ z, w2 = .int z ∧ 0 ≤ z ∧ z < 2305843009213693951 := ⟨_, r2.of_int, Int.emod_nonneg _ (by decide), Int.emod_lt_of_pos _ (by decide)⟩
    refine s_seq ?_
    refine s_asg (K := K) (cl := cl) S (by walk_at "ev") ?_
    intro w3 G3 H3 g3 r3
    obtain ⟨rfl, rfl, -⟩ := g3.eq rfl
    obtain ⟨z2, rfl, h20, h21⟩ : ∃ z, w3 = .int z ∧ 0 ≤ z ∧ z < 2305843009213693951 := ⟨_, r3.of_int, Int.emod_nonneg _ (by decide), Int.emod_lt_of_pos _ (by decide)⟩
    refine s_seq ?_
    refine s_asg (K := K) (cl := cl) S (by walk_at "ev") ?_
    intro w4 G4 H4 g4 r4
    obtain ⟨rfl, rfl, -⟩ := g4.eq rfl
    obtain ⟨z3, rfl, h30, h31⟩ : ∃ z, w4 = .int z ∧ 0 ≤ z ∧ z < 2305843009213693951 := ⟨_, r4.of_int, Int.emod_nonneg _ (by decide), Int.emod_lt_of_pos _ (by decide)⟩
    refine s_seq ?_
    refine s_asg (K := K) (cl := cl) S (by walk_at "ev") ?_
    intro w5 G5 H5 g5 r5
    obtain ⟨rfl, rfl, -⟩ := g5.eq rfl
    obtain ⟨z4, rfl, h40, h41⟩ : ∃ z, w5 = .int z ∧ 0 ≤ z ∧ z < 2305843009213693951 := ⟨_, r5.of_int, Int.emod_nonneg _ (by decide), Int.emod_lt_of_pos _ (by decide)⟩
    refine s_retG S (eg_lst (K := K) (cl := cl) (F := fun v G' M' => ∃ p s, v = .ref p ∧ M' = (p, .lst [.int s]) :: M) (by walk_at "ea") (Nat.le_of_ble_eq_true rfl) fun u vs G' s r => ?_) ?_
    · obtain ⟨x, rfl, hx⟩ := reps1 r
      rw [hx.of_int]
      exact ⟨u, _, rfl, rfl⟩
    · rintro v G' H' M' s' S' ⟨p, z, rfl, rfl⟩
      exact q p z G' s' s' H' S'
theorem rd_law_digit {K : PySem.W.Frag} {cl : Nat → Addr} {vs H Q E} (h : sp_law_digit K cl vs H Q E) : t_law_digit K cl ⟨fun _ H' => Q .non H', Q, fun _ _ => False, fun _ _ => False⟩ (start ["state", "many", "digit"] vs) H := by
  obtain ⟨G, M, S, a, s, m, M0, rfl, rfl, h0, h1, q⟩ := h
  unfold t_law_digit
  refine s_seq ?_
  refine s_asg (K := K) (cl := cl) S (by walk_at "ev") ?_
  intro v G1 H1 g r
  obtain ⟨rfl, rfl, -⟩ := g.eq rfl
  obtain rfl := r.of_int
  refine s_seq ?_
  refine s_set (K := K) (cl := cl) (j := 0) S (by walk_at "ev") (by walk_at "ev") (by walk_at "ev") (fun v => Ch.hd) rfl ?_
  intro v G1 H1 s1 S1 r
  obtain rfl := r.of_int
  refine s_ret (K := K) (cl := cl) S1 (by walk_at "ev") fun w G2 H2 g2 r2 => ?_
  obtain ⟨rfl, rfl, -⟩ := g2.eq rfl
  obtain rfl := r2.of_int
  exact q _ s1 s1 _ S1
theorem rd_law_large {K : PySem.W.Frag} {cl : Nat → Addr} {vs H Q E} (h : sp_law_large K cl vs H Q E) : t_law_large K cl ⟨fun _ H' => Q .non H', Q, fun _ _ => False, fun _ _ => False⟩ (start ["script"] vs) H := by
  obtain ⟨G, M, S, v, ns, rfl, r0, q⟩ := h
  unfold t_law_large
  refine eg_state (K := K) (cl := cl) (M1 := M) (c := ns.getD 0 0) (k := 97) (E := E0) (by walk_at "ea") G H (Same.refl _) S _ ?_
  rintro x G1 H1 M1 s1 S1 ⟨p, s, rfl, rfl⟩
  refine ⟨G1, _, S1, p, s, 4, M, rfl, rfl, by decide, by decide, fun G2 s2 _ H2 S2 => ?_⟩
  refine .inl ⟨rfl, ?_⟩
  exact q _ G2 (s1.trans s2) (s1.trans s2) H2 S2.drop
theorem pick_str {ds : List D} {n : Nat} (h : ds.all (fun d => match d with | .str x => decide (x.length ≤ 100) | _ => false) = true) (hn : n < ds.length) : ∃ x, ds.getD n .non = .str x ∧ x.length ≤ 100 := by
  have h1 := List.all_eq_true.mp h (ds[n]) (List.getElem_mem hn)
  have e : ds.getD n .non = ds[n] := by simp [List.getD, hn]
  rw [e]
  cases q : ds[n] <;> rw [q] at h1 <;> simp at h1
  exact ⟨_, rfl, h1⟩
local macro_rules | `(tactic| walk_at "ix") => `(tactic| first | assumption | exact rfl | ((refine atI_getD D.non ?_ ?_); omega; (simp only [List.length_cons, List.length_nil]; omega)))
section
variable {K : PySem.W.Frag} {cl : Nat → Addr}
theorem ev_mkBand {p : Bool} {M M1 : ML} {G : Hp} {σ : St} {tx : TA} {E : XK} {a b c d e : D} (ha : EvA K cl p tx σ G M [a, b, c, d, e] M1) : EvX K cl false (tMake (cl 0) (sp_Band_init K cl) [] E tx) σ G M (.ins 0 ["label", "prefix", "from_hour", "to_hour", "price"] [a, b, c, d, e]) M1 := ev_make ha ⟨rfl, rfl⟩
theorem ev_mkTariff {p : Bool} {M M1 : ML} {G : Hp} {σ : St} {tx : TA} {E : XK} {a : D} {bs : List D} (ha : EvA K cl p tx σ G M [a, .tup bs] M1) : EvX K cl false (tMake (cl 1) (sp_Tariff_init K cl) [] E tx) σ G M (.ins 1 ["setup_price", "bands"] [a, .tup bs]) M1 := ev_make ha ⟨_, _, rfl, rfl⟩
theorem ev_holds {p q : Bool} {M M1 M2 : ML} {G : Hp} {σ : St} {ta : TE} {tx : TA} {E : XK} {b : Band} {c : Str} {t : Int} (he : EvX K cl p ta σ G M (Band.d b) M1) (ha : EvA K cl q tx σ G M1 [.str c, .int t] M2) : EvX K cl false (tMeth (cl 0) "holds" (sp_Band_holds K cl) [] E ta tx) σ G M (.bl (b.holds c t)) M2 :=
  ev_meth he ha (by decide +kernel) ⟨_, _, _, rfl, rfl⟩
theorem ev_bandat {p q : Bool} {M M1 M2 : ML} {G : Hp} {σ : St} {ta : TE} {tx : TA} {E : XK} {tf : Tariff} {c : Str} {t : Int} (he : EvX K cl p ta σ G M (Tariff.d tf) M1) (ha : EvA K cl q tx σ G M1 [.str c, .int t] M2) (ok : tf.Ok) : EvX K cl false (tMeth (cl 1) "band_at" (sp_Tariff_band_at K cl) [] E ta tx) σ G M (optD Band.d (tf.at c t)) M2 :=
  ev_meth he ha (by decide +kernel) ⟨_, _, _, rfl, ok, rfl⟩
theorem ev_lawband {p : Bool} {M M1 : ML} {G : Hp} {σ : St} {tx : TA} {E : XK} {tf : Tariff} {c : Str} {t : Int} (ha : EvA K cl p tx σ G M [Tariff.d tf, .str c, .int t] M1) (ok : tf.Ok) (hc : c.length ≤ 1000) : EvX K cl false (tCall (sp_law_band K cl) [] E tx) σ G M (optD Band.d (tf.at c t)) M1 :=
  ev_call ha ⟨_, _, _, rfl, ok, hc, rfl⟩
end
local macro_rules | `(tactic| walk_at "evcall") => `(tactic| first
  | ((with_reducible apply ev_mkBand); walk_at "ea") | ((with_reducible apply ev_mkTariff); walk_at "ea")
  | ((with_reducible apply ev_holds); walk_at "ev"; walk_at "ea") | ((with_reducible apply ev_bandat); walk_at "ev"; walk_at "ea"; assumption) | ((with_reducible apply ev_lawband); walk_at "ea"; assumption; assumption))
theorem rd_Charge_init {K : PySem.W.Frag} {cl : Nat → Addr} [Cf K cl] {vs H Q E} (h : sp_Charge_init K cl vs H Q E) : t_Charge_init K cl ⟨fun _ H' => Q .non H', Q, fun _ _ => False, fun _ _ => False⟩ (start ["self", "key", "account", "till", "mills"] vs) H := by
  obtain ⟨x, dx, us, ds, es, G, M, rfl, ⟨hl, rfl⟩, S, rs, k⟩ := h
  obtain ⟨v1, v2, v3, v4, rfl⟩ : ∃ a0 a1 a2 a3, us = [a0, a1, a2, a3] := by
    rw [← rs.length] at hl
    match us, hl with
    | [a0, a1, a2, a3], _ => exact ⟨a0, a1, a2, a3, rfl⟩
  match es, hl, rs with
  | [d1, d2, d3, d4], _, rs =>
  obtain ⟨_, _, e, r1, rs1⟩ := rs.uncons; cases e
  obtain ⟨_, _, e, r2, rs2⟩ := rs1.uncons; cases e
  obtain ⟨_, _, e, r3, rs3⟩ := rs2.uncons; cases e
  obtain ⟨_, _, e, r4, rs4⟩ := rs3.uncons; cases e
  unfold t_Charge_init
  refine s_seq ?_
  refine s_fldN S (by walk_at "ev") (by walk_at "ev") (fun v => Ch.hd) (by walk_at "cf") (by walk_at "cf") rfl (by decide +kernel) (by decide) ?_
  intro w1 G1 H1 s1 S1 q1
  refine s_seq ?_
  refine s_fldN S1 (by walk_at "ev") (by walk_at "ev") (fun v => Ch.hd) (by walk_at "cf") (by walk_at "cf") rfl (by decide +kernel) (by decide) ?_
  intro w2 G2 H2 s2 S2 q2
  refine s_seq ?_
  refine s_fldN S2 (by walk_at "ev") (by walk_at "ev") (fun v => Ch.hd) (by walk_at "cf") (by walk_at "cf") rfl (by decide +kernel) (by decide) ?_
  intro w3 G3 H3 s3 S3 q3
  refine s_fldN S3 (by walk_at "ev") (by walk_at "ev") (fun v => Ch.hd) (by walk_at "cf") (by walk_at "cf") rfl (by decide +kernel) (by decide) ?_
  intro w4 G4 H4 s4 S4 q4
  exact k [w1, w2, w3, w4] G4 H4 (by walk_at "same") S4 rfl (Reps.cons (by walk_at "repc") (Reps.cons (by walk_at "repc") (Reps.cons (by walk_at "repc") (Reps.one q4))))
theorem rd_Section_init {K : PySem.W.Frag} {cl : Nat → Addr} [Cf K cl] {vs H Q E} (h : sp_Section_init K cl vs H Q E) : t_Section_init K cl ⟨fun _ H' => Q .non H', Q, fun _ _ => False, fun _ _ => False⟩ (start ["self", "owner", "payer", "called", "opened", "start", "seconds"] vs) H := by
  obtain ⟨x, dx, us, ds, es, G, M, rfl, ⟨hl, rfl⟩, S, rs, k⟩ := h
  obtain ⟨v1, v2, v3, v4, v5, v6, rfl⟩ : ∃ a0 a1 a2 a3 a4 a5, us = [a0, a1, a2, a3, a4, a5] := by
    rw [← rs.length] at hl
    match us, hl with
    | [a0, a1, a2, a3, a4, a5], _ => exact ⟨a0, a1, a2, a3, a4, a5, rfl⟩
  match es, hl, rs with
  | [d1, d2, d3, d4, d5, d6], _, rs =>
  obtain ⟨_, _, e, r1, rs1⟩ := rs.uncons; cases e
  obtain ⟨_, _, e, r2, rs2⟩ := rs1.uncons; cases e
  obtain ⟨_, _, e, r3, rs3⟩ := rs2.uncons; cases e
  obtain ⟨_, _, e, r4, rs4⟩ := rs3.uncons; cases e
  obtain ⟨_, _, e, r5, rs5⟩ := rs4.uncons; cases e
  obtain ⟨_, _, e, r6, rs6⟩ := rs5.uncons; cases e
  unfold t_Section_init
  refine s_seq ?_
  refine s_fldN S (by walk_at "ev") (by walk_at "ev") (fun v => Ch.hd) (by walk_at "cf") (by walk_at "cf") rfl (by decide +kernel) (by decide) ?_
  intro w1 G1 H1 s1 S1 q1
  refine s_seq ?_
  refine s_fldN S1 (by walk_at "ev") (by walk_at "ev") (fun v => Ch.hd) (by walk_at "cf") (by walk_at "cf") rfl (by decide +kernel) (by decide) ?_
  intro w2 G2 H2 s2 S2 q2
  refine s_seq ?_
  refine s_fldN S2 (by walk_at "ev") (by walk_at "ev") (fun v => Ch.hd) (by walk_at "cf") (by walk_at "cf") rfl (by decide +kernel) (by decide) ?_
  intro w3 G3 H3 s3 S3 q3
  refine s_seq ?_
  refine s_fldN S3 (by walk_at "ev") (by walk_at "ev") (fun v => Ch.hd) (by walk_at "cf") (by walk_at "cf") rfl (by decide +kernel) (by decide) ?_
  intro w4 G4 H4 s4 S4 q4
  refine s_seq ?_
  refine s_fldN S4 (by walk_at "ev") (by walk_at "ev") (fun v => Ch.hd) (by walk_at "cf") (by walk_at "cf") rfl (by decide +kernel) (by decide) ?_
  intro w5 G5 H5 s5 S5 q5
  refine s_fldN S5 (by walk_at "ev") (by walk_at "ev") (fun v => Ch.hd) (by walk_at "cf") (by walk_at "cf") rfl (by decide +kernel) (by decide) ?_
  intro w6 G6 H6 s6 S6 q6
  exact k [w1, w2, w3, w4, w5, w6] G6 H6 (by walk_at "same") S6 rfl (Reps.cons (by walk_at "repc") (Reps.cons (by walk_at "repc") (Reps.cons (by walk_at "repc") (Reps.cons (by walk_at "repc") (Reps.cons (by walk_at "repc") (Reps.one q6))))))
theorem permR {α : Type} (l M : List α) : (l.reverse ++ M).Perm (l ++ M) := (List.reverse_perm l).append_right M
theorem rd_Section_is_free {K : PySem.W.Frag} {cl : Nat → Addr} [Cf K cl] {vs H Q E} (h : sp_Section_is_free K cl vs H Q E) : t_Section_is_free K cl ⟨fun _ H' => Q .non H', Q, fun _ _ => False, fun _ _ => False⟩ (start ["self"] vs) H := by
  obtain ⟨ds, d, G, M, ⟨s, rfl, rfl⟩, S, rs, q⟩ := h
  obtain ⟨v0, rfl, r0⟩ := reps1 rs
  unfold t_Section_is_free
  refine s_ret (K := K) (cl := cl) (d := .bl s.free) S (EvX.is (by walk_at "ev") ?_) fun v G1 H1 g r => q v G1 H1 g.same g.sep r
  rw [optS_isNon]
  rfl
theorem rd_section_place {K : PySem.W.Frag} {cl : Nat → Addr} [Cf K cl] {vs H Q E} (h : sp_section_place K cl vs H Q E) : t_section_place K cl ⟨fun _ H' => Q .non H', Q, fun _ _ => False, fun _ _ => False⟩ (start ["section"] vs) H := by
  obtain ⟨ds, d, G, M, ⟨s, rfl, rfl⟩, S, rs, q⟩ := h
  obtain ⟨v0, rfl, r0⟩ := reps1 rs
  unfold t_section_place
  exact s_ret (K := K) (cl := cl) S (by walk_at "ev") fun v G1 H1 g r => q v G1 H1 g.same g.sep r
theorem rd_Contracts_init {K : PySem.W.Frag} {cl : Nat → Addr} [Cf K cl] {vs H Q E} (h : sp_Contracts_init K cl vs H Q E) : t_Contracts_init K cl ⟨fun _ H' => Q .non H', Q, fun _ _ => False, fun _ _ => False⟩ (start ["self"] vs) H := by
  obtain ⟨G, M, S, x, dx, M0, rfl, rfl, q⟩ := h
  unfold t_Contracts_init
  refine s_fldGN (K := K) (cl := cl) (a := x) (C := cl 6) (dx := dx) (ns := []) (vs := []) (F := fun v G' M' => ∃ u, v = .ref u ∧ M' = (u, .dK []) :: (x, .ins (cl 6) dx (List.zip [] [])) :: M0) S (eg_newK (fun u => ⟨u, rfl, rfl⟩) fun v G' M' _ h => h) (by walk_at "cf") (by walk_at "cf") rfl (by decide +kernel) (by decide) ?_
  rintro _ G2 H2 _ s2 S2 ⟨u, rfl, rfl⟩
  refine ⟨_, _, _, by walk_at "ev", Ch.tl Ch.hd, fun G3 H3 s3 S3 => ?_⟩
  exact q G3 u (by walk_at "same") (by walk_at "same") _ (S3.perm (List.Perm.swap _ _ _))
theorem lastF_take {rows : List Row3} {i : Nat} {r : Row3} {c : Int} (h : rows[i]? = some r) : lastF (rows.take (i + 1)) c = if r.1 ≤ c then some r.2 else lastF (rows.take i) c := by
  unfold lastF
  rw [List.take_add_one, h, List.foldl_append]
  rfl
def optR : Option (Option Str × Str) → D
  | none => .non
  | some x => .tup [optS x.1, .str x.2]
theorem rd_Contracts_in_force {K : PySem.W.Frag} {cl : Nat → Addr} [Cf K cl] {vs H Q E} (h : sp_Contracts_in_force K cl vs H Q E) : t_Contracts_in_force K cl ⟨fun _ H' => Q .non H', Q, fun _ _ => False, fun _ _ => False⟩ (start ["self", "line", "clock", "found", "since", "account", "name"] vs) H := by
  obtain ⟨ds, d, G, M, ⟨h, line, clock, rfl, rfl⟩, S, rs, q⟩ := h
  obtain ⟨v0, _, _, rfl, r0, r1, r2⟩ := reps3 rs
  clear rs
  obtain rfl := r1.of_str
  obtain rfl := r2.of_int
  unfold t_Contracts_in_force
  refine s_seq ?_
  refine s_asg (K := K) (cl := cl) S (by walk_at "ev") ?_
  intro w1 G1 H1 g1 q1
  obtain ⟨rfl, rfl, -⟩ := g1.eq rfl
  obtain rfl := q1.of_non
  refine s_seq ?_
  have hv : (valG (histK h) (.inr line)).getD (.tup []) = .tup (((valG h line).getD []).map rowD) := by
    rw [histK_val]
    cases valG h line <;> rfl
  generalize hR : (valG h line).getD [] = rows at hv
  have hin : inF h line clock = (match lastF rows clock with | some (some a, n) => some (a, n) | _ => none) := by rw [← hR]; rfl
  rw [hin] at q
  clear hin hR
  apply s_forT (K := K) (cl := cl) (p := false) (ds := rows.map rowD) (fun i σ G' M' => M' = M ∧ ∃ w y4 y5 y6, σ = [some v0, some (.str line), some (.int clock), some w, y4, y5, y6] ∧ Rep K cl G' w (optR (lastF (rows.take i) clock))) S
  · (with_reducible apply EvX.is)
    · exact ev_dget2 (k := .inr line) (p := true) (q := true) (r := false) (kes := histK h) (by walk_at "ev") (by walk_at "ev") (ev_tup ea_nil (Nat.zero_le _)) rfl rfl
    · exact hv
  · intro G2 H2 g2
    exact ⟨rfl, _, _, _, _, rfl, Rep.non⟩
  · rintro G2 s2 i x d σ' G3 H3 M3 hd s3 S3 r3 ⟨rfl, w, y4, y5, y6, rfl, rw'⟩
    rw [List.getElem?_map] at hd
    cases hx : rows[i]? with
    | none => rw [hx] at hd; cases hd
    | some y =>
    rw [hx] at hd
    cases hd
    refine g_tup S3 r3 rfl rfl fun xs rxs => ?_
    obtain ⟨x1, x2, x3, rfl, q1, q2, q3⟩ := reps3 rxs
    obtain rfl := q1.of_int
    refine s_if (K := K) (cl := cl) S3 (by walk_at "et") ?_ ?_
    · intro G4 H4 g4 hc
      obtain ⟨rfl, rfl, -⟩ := g4.eq rfl
      refine s_asg (K := K) (cl := cl) S3 (by walk_at "ev") ?_
      intro w5 G5 H5 g5 q5
      refine ⟨_, _, s3.trans g5.same, g5.sep, rfl, _, _, _, _, rfl, ?_⟩
      rw [lastF_take hx, if_pos (of_decide_eq_true hc)]
      exact q5
    · intro G4 H4 g4 hc
      obtain ⟨rfl, rfl, -⟩ := g4.eq rfl
      refine s_next ⟨_, _, s3, S3, rfl, _, _, _, _, rfl, ?_⟩
      rw [lastF_take hx, if_neg (of_decide_eq_false hc)]
      exact rw'
  rintro σ' G3 H3 M3 s3 S3 ⟨rfl, w, y4, y5, y6, rfl, rw'⟩
  rw [List.length_map, List.take_length] at rw'
  refine s_seq ?_
  cases hl : lastF rows clock with
  | none =>
    rw [hl] at rw' q
    refine s_if (K := K) (cl := cl) (b := true) (M1 := M3) S3 (et_or (p := true) (q := true) (a := true) (b := true) (et_test (by
      (with_reducible apply EvX.is)
      · exact ev_op (p := true) (q := true) (r := true) (ev_var (i := 3) rfl rw') ev_non o_isN
      · rfl)) (fun h => nomatch h)) ?_ ?_
    · intro G4 H4 g4 _
      refine s_ret (K := K) (cl := cl) g4.sep (by walk_at "ev") fun v G5 H5 g5 q5 => ?_
      exact q v G5 H5 ((s3.trans g4.same).trans g5.same) g5.sep q5
    · intro G4 H4 g4 hc
      cases hc
  | some x =>
    obtain ⟨o, n⟩ := x
    rw [hl] at rw' q
    refine s_if (K := K) (cl := cl) (b := false || o.isNone) (M1 := M3) S3 (et_or (p := true) (q := true) (a := false) (b := o.isNone) (et_test (by
      (with_reducible apply EvX.is)
      · exact ev_op (p := true) (q := true) (r := true) (ev_var (i := 3) rfl rw') ev_non o_isN
      · rfl)) (fun _ => et_test (by
      (with_reducible apply EvX.is)
      · exact ev_op (p := true) (q := true) (r := true) (ev_op (p := true) (q := true) (r := true) (d3 := optS o) (ev_var (i := 3) rfl rw') (ev_int (i := 0)) (o_ixT (i := 0) rfl)) ev_non o_isN
      · rw [optS_isNon]))) ?_ ?_
    · intro G4 H4 g4 hc
      have ho : o = none := by
        cases o with
        | none => rfl
        | some a => cases hc
      subst ho
      refine s_ret (K := K) (cl := cl) g4.sep (by walk_at "ev") fun v G5 H5 g5 q5 => ?_
      exact q v G5 H5 ((s3.trans g4.same).trans g5.same) g5.sep q5
    · intro G4 H4 g4 hc
      obtain ⟨a, rfl⟩ : ∃ a, o = some a := by
        cases o with
        | none => cases hc
        | some a => exact ⟨a, rfl⟩
      refine s_next ?_
      refine s_ret (K := K) (cl := cl) g4.sep (ev_var rfl (rw'.mono g4.same)) fun v G5 H5 g5 q5 => ?_
      exact q v G5 H5 ((s3.trans g4.same).trans g5.same) g5.sep q5
theorem okS_app {x y : Str} (hx : okS x = true) (hy : okS y = true) : okS (x ++ y) = true := by
  unfold okS at hx hy ⊢
  have e : (x ++ y).cps = x.cps ++ y.cps := rfl
  rw [e, Array.all_append, hx, hy]
  rfl
def bandL (i : Nat) : Str := "band" ++ Str.ofString (toString (i : Int))
theorem labels_40 : ((List.range 40).map bandL ++ [Str.ofString "other"]).Nodup := by decide +kernel
theorem labels_nd {n : Nat} (h : n ≤ 40) : ((List.range n).map bandL ++ [Str.ofString "other"]).Nodup := by
  refine List.Nodup.sublist ?_ labels_40
  refine List.Sublist.append (List.Sublist.map _ ?_) (List.Sublist.refl _)
  exact List.range_sublist.mpr h
theorem lab_40 : ∀ l ∈ (List.range 40).map bandL ++ [Str.ofString "other"], decide (l ≠ "setup") = true ∧ decide (l ≠ "free") = true := by decide +kernel
theorem labels_lab {n : Nat} (h : n ≤ 40) : ∀ l ∈ (List.range n).map bandL ++ [Str.ofString "other"], LabOk l := by
  intro l hl
  have h1 : l ∈ (List.range 40).map bandL ++ [Str.ofString "other"] := by
    rcases List.mem_append.mp hl with q | q
    · obtain ⟨i, hi, rfl⟩ := List.mem_map.mp q
      exact List.mem_append_left _ (List.mem_map.mpr ⟨i, List.mem_range.mpr (Nat.lt_of_lt_of_le (List.mem_range.mp hi) h), rfl⟩)
    · exact List.mem_append_right _ q
  obtain ⟨a, b⟩ := lab_40 l h1
  exact ⟨of_decide_eq_true a, of_decide_eq_true b⟩
theorem other_ok {a b c : Int} : Band.Ok ⟨"other", "", a, b, c⟩ := ⟨(by decide +kernel : (Str.ofString "").length ≤ 1000), (by decide +kernel : okS "other" = true)⟩
theorem okS_num (n : Int) : okS (Str.ofString (toString n)) = true := by
  unfold okS
  rw [Str.ofString_eq_toList]
  simp only [List.all_toArray, List.all_map, List.all_eq_true]
  intro c hc
  have := int_ascii n c hc
  simp
  omega
theorem rd_Band_holds {K : PySem.W.Frag} {cl : Nat → Addr} [Cf K cl] {vs H Q E} (h : sp_Band_holds K cl vs H Q E) : t_Band_holds K cl ⟨fun _ H' => Q .non H', Q, fun _ _ => False, fun _ _ => False⟩ (start ["self", "called", "clock", "hour"] vs) H := by
  obtain ⟨ds, d, G, M, ⟨b, c, t, rfl, rfl⟩, S, rs, k⟩ := h
  obtain ⟨v0, vs, rfl, r0, rs⟩ := rs.uncons
  obtain ⟨v1, v2, rfl, r1, r2⟩ := reps2 rs
  obtain rfl := r1.of_str
  obtain rfl := r2.of_int
  unfold t_Band_holds
  refine s_seq ?_
  refine s_asg (K := K) (cl := cl) S (by walk_at "ev") ?_
  intro v3 G1 H1 g1 r3
  obtain ⟨rfl, rfl, -⟩ := g1.eq rfl
  obtain rfl := r3.of_int
  refine s_ret (K := K) (cl := cl) S (by walk_at "ev") ?_
  intro v G1 H1 g r
  exact k v G1 H1 g.same g.sep r
theorem rd_Band_init {K : PySem.W.Frag} {cl : Nat → Addr} [Cf K cl] {vs H Q E} (h : sp_Band_init K cl vs H Q E) : t_Band_init K cl ⟨fun _ H' => Q .non H', Q, fun _ _ => False, fun _ _ => False⟩ (start ["self", "label", "prefix", "from_hour", "to_hour", "price"] vs) H := by
  obtain ⟨x, dx, us, ds, es, G, M, rfl, ⟨hl, rfl⟩, S, rs, k⟩ := h
  obtain ⟨v1, v2, v3, v4, v5, rfl⟩ : ∃ a b c d e, us = [a, b, c, d, e] := by
    rw [← rs.length] at hl
    match us, hl with
    | [a, b, c, d, e], _ => exact ⟨a, b, c, d, e, rfl⟩
  match es, hl, rs with
  | [d1, d2, d3, d4, d5], _, rs =>
  obtain ⟨_, _, e, r1, rs1⟩ := rs.uncons; cases e
  obtain ⟨_, _, e, r2, rs2⟩ := rs1.uncons; cases e
  obtain ⟨_, _, e, r3, rs3⟩ := rs2.uncons; cases e
  obtain ⟨_, _, e, r4, rs4⟩ := rs3.uncons; cases e
  obtain ⟨_, _, e, r5, rs5⟩ := rs4.uncons; cases e
  unfold t_Band_init
  refine s_seq ?_
  refine s_fldN S (by walk_at "ev") (by walk_at "ev") (fun v => Ch.hd) (by walk_at "cf") (by walk_at "cf") rfl (by decide +kernel) (by decide) ?_
  intro w1 G1 H1 s1 S1 q1
  refine s_seq ?_
  refine s_fldN S1 (by walk_at "ev") (by walk_at "ev") (fun v => Ch.hd) (by walk_at "cf") (by walk_at "cf") rfl (by decide +kernel) (by decide) ?_
  intro w2 G2 H2 s2 S2 q2
  refine s_seq ?_
  refine s_fldN S2 (by walk_at "ev") (by walk_at "ev") (fun v => Ch.hd) (by walk_at "cf") (by walk_at "cf") rfl (by decide +kernel) (by decide) ?_
  intro w3 G3 H3 s3 S3 q3
  refine s_seq ?_
  refine s_fldN S3 (by walk_at "ev") (by walk_at "ev") (fun v => Ch.hd) (by walk_at "cf") (by walk_at "cf") rfl (by decide +kernel) (by decide) ?_
  intro w4 G4 H4 s4 S4 q4
  refine s_fldN S4 (by walk_at "ev") (by walk_at "ev") (fun v => Ch.hd) (by walk_at "cf") (by walk_at "cf") rfl (by decide +kernel) (by decide) ?_
  intro w5 G5 H5 s5 S5 q5
  exact k [w1, w2, w3, w4, w5] G5 H5 (by walk_at "same") S5 rfl (Reps.cons (by walk_at "repc") (Reps.cons (by walk_at "repc") (Reps.cons (by walk_at "repc") (Reps.cons (by walk_at "repc") (Reps.one q5)))))
theorem rd_Tariff_init {K : PySem.W.Frag} {cl : Nat → Addr} [Cf K cl] {vs H Q E} (h : sp_Tariff_init K cl vs H Q E) : t_Tariff_init K cl ⟨fun _ H' => Q .non H', Q, fun _ _ => False, fun _ _ => False⟩ (start ["self", "setup_price", "bands"] vs) H := by
  obtain ⟨x, dx, us, ds, es, G, M, rfl, ⟨y, bs, rfl, rfl⟩, S, rs, k⟩ := h
  obtain ⟨v1, v2, rfl, r1, r2⟩ := reps2 rs
  unfold t_Tariff_init
  refine s_seq ?_
  refine s_fldN S (by walk_at "ev") (by walk_at "ev") (fun v => Ch.hd) (by walk_at "cf") (by walk_at "cf") rfl (by decide +kernel) (by decide) ?_
  intro w1 G1 H1 s1 S1 q1
  refine s_fldN S1 (by walk_at "ev") (by walk_at "ev") (fun v => Ch.hd) (by walk_at "cf") (by walk_at "cf") rfl (by decide +kernel) (by decide) ?_
  intro w2 G2 H2 s2 S2 q2
  exact k [w1, w2] G2 H2 (by walk_at "same") S2 rfl (Reps.cons (by walk_at "repc") (Reps.one q2))
theorem Tariff.at_ok {c : Str} {t : Int} : ∀ {bs : List Band} {o : Option Band} {x : Band}, (∀ b ∈ bs, Band.Ok b) → (∀ b, o = some b → Band.Ok b) → bs.foldl (better c t) o = some x → Band.Ok x
  | [], o, x, _, h, e => h x e
  | b :: bs, o, x, hb, h, e => by
    refine Tariff.at_ok (bs := bs) (fun y hy => hb y (List.mem_cons_of_mem _ hy)) (fun y hy => ?_) e
    unfold better at hy
    by_cases q : (b.holds c t && beats b o) = true
    · rw [if_pos q] at hy
      cases hy
      exact hb _ (List.mem_cons_self ..)
    · rw [if_neg q] at hy
      exact h y hy
theorem rd_Tariff_band_at {K : PySem.W.Frag} {cl : Nat → Addr} [Cf K cl] {vs H Q E} (h : sp_Tariff_band_at K cl vs H Q E) : t_Tariff_band_at K cl ⟨fun _ H' => Q .non H', Q, fun _ _ => False, fun _ _ => False⟩ (start ["self", "called", "clock", "best", "band"] vs) H := by
  obtain ⟨ds, d, G, M, ⟨tf, c, t, rfl, ok, rfl⟩, S, rs, k⟩ := h
  obtain ⟨v0, vs, rfl, r0, rs⟩ := rs.uncons
  obtain ⟨v1, v2, rfl, r1, r2⟩ := reps2 rs
  obtain rfl := r1.of_str
  obtain rfl := r2.of_int
  unfold t_Tariff_band_at
  refine s_seq ?_
  refine s_asg (K := K) (cl := cl) S (by walk_at "ev") ?_
  intro w1 G1 H1 g1 q1
  obtain ⟨rfl, rfl, -⟩ := g1.eq rfl
  obtain rfl := q1.of_non
  refine s_seq ?_
  refine s_forT (K := K) (cl := cl) (fun i σ G' M' => M' = M ∧ ∃ b w, σ = [some v0, some (.str c), some (.int t), some b, w] ∧ Rep K cl G' b (optD Band.d ((tf.bands.take i).foldl (better c t) none))) S (by walk_at "ev") ?_ ?_ ?_
  · intro G2 H2 g2
    exact ⟨rfl, _, _, rfl, Rep.non⟩
  · rintro G2 s2 i x d σ' G3 H3 M3 hd s3 S3 r3 ⟨rfl, b, w, rfl, rb⟩
    rw [List.getElem?_map] at hd
    cases hb : tf.bands[i]? with
    | none => rw [hb] at hd; cases hd
    | some y =>
    rw [hb] at hd
    cases hd
    refine s_gname ?_
    have hy : y.pre.length ≤ 1000 := (ok y (List.mem_of_getElem? hb)).1
    have e1 : (tf.bands.take (i + 1)).foldl (better c t) none = better c t ((tf.bands.take i).foldl (better c t) none) y := by
      rw [List.take_add_one, hb, List.foldl_append]
      rfl
    have hbst : ∀ z, (tf.bands.take i).foldl (better c t) none = some z → z.pre.length ≤ 1000 := fun z hz => And.left <| Tariff.at_ok (fun y hy => ok y (List.mem_of_mem_take hy)) (fun _ e => by cases e) hz
    generalize (tf.bands.take i).foldl (better c t) none = best at rb e1 hbst
    apply s_if (K := K) (cl := cl) (b := y.holds c t && (best.isNone || beats y best)) S3
    · apply et_and
      · walk_at "et"
      intro _
      apply et_or
      · rw [← optD_isNon]
        walk_at "et"
      intro hn
      obtain ⟨z, rfl⟩ : ∃ z, best = some z := by cases best with
        | none => cases hn
        | some z => exact ⟨z, rfl⟩
      have hz := hbst z rfl
      simp only [optD] at rb
      simp only [beats]
      walk_at "et"
    · intro G4 H4 g4 hc
      refine s_asg (K := K) (cl := cl) g4.sep (by have := g4.same; walk_at "ev") ?_
      intro w2 G5 H5 g5 q5
      obtain ⟨rfl, rfl, -⟩ := g5.eq rfl
      refine ⟨_, _, s3.trans g4.same, g4.sep, rfl, _, _, rfl, ?_⟩
      rw [e1]
      rw [better, if_pos (by cases best <;> simpa [beats] using hc)]
      exact q5
    · intro G4 H4 g4 hc
      refine s_next ⟨_, _, s3.trans g4.same, g4.sep, rfl, _, _, rfl, ?_⟩
      rw [e1]
      rw [better, if_neg (by cases best <;> simpa [beats] using hc)]
      exact rb.mono g4.same
  · rintro σ' G3 H3 M3 s3 S3 ⟨rfl, b, w, rfl, rb⟩
    rw [List.length_map, List.take_length] at rb
    refine s_ret (K := K) (cl := cl) S3 (by walk_at "ev") fun v G4 H4 g4 q4 => ?_
    exact k v G4 H4 (s3.trans g4.same) g4.sep q4
theorem starts_cut (x y : Str) : decide (cutS x none (some (y.length : Int)) = y) = Txt.startswith x y := by
  have hx : x.cps.toList.length = x.length := by simp [Str.length]
  have hy : y.cps.toList.length = y.length := by simp [Str.length]
  have e1 : (cutS x none (some (y.length : Int))).cps.toList = x.cps.toList.take y.length := by
    unfold cutS
    rw [HT.sIx_none, HT.sIx_nat, List.drop_zero, Nat.sub_zero]
    show (List.take (min y.length x.length) x.cps.toList) = _
    rw [← hx]
    exact List.take_eq_take_min.symm
  unfold Txt.startswith
  rw [PySem.StrLaws.subAt_eq, List.drop_zero]
  by_cases h : cutS x none (some (y.length : Int)) = y
  · rw [decide_eq_true h]
    rw [h] at e1
    have hl : y.length ≤ x.length := by
      have := congrArg List.length e1
      rw [hy, List.length_take, hx] at this
      omega
    rw [← e1]
    simp [hl]
  · rw [decide_eq_false h]
    symm
    rw [Bool.and_eq_false_iff]
    right
    rw [beq_eq_false_iff_ne]
    intro q
    rw [← e1] at q
    exact h (PySem.Str.ext' (Array.toList_inj.mp q))
theorem holds_law {b : Band} {c : Str} {t : Int} : (decide (cutS c none (some (b.pre.length : Int)) = b.pre) && (decide (b.lo ≤ t % 86400 / 3600) && decide (t % 86400 / 3600 < b.hi))) = b.holds c t := by rw [starts_cut, Band.holds]
theorem eg_tariff {K : PySem.W.Frag} {cl : Nat → Addr} {p : Bool} {M M1 : ML} {M2 : Int → ML} {G : Hp} {σ : St} {tx : TA} {E : XK} {a : Addr} {s : Int} (ha : EvA K cl p tx σ G M [.loc a] M1) (hc : ∀ z, Ch M1 a (.lst [.int s]) (.lst [.int z]) (M2 z)) :
    EvG (tCall (sp_law_tariff K cl) [] E tx) σ G M fun v G' M' => ∃ tf z, tf.Ok ∧ tf.Uniq ∧ Rep K cl G' v (Tariff.d tf) ∧ M' = M2 z := fun G1 H1 s1 S Q kk =>
  ha G1 H1 s1 S _ fun xs G2 H2 g2 rx => by
    obtain ⟨u, rfl, hu⟩ := reps1 rx
    obtain ⟨M0, p1, p2⟩ := (hc 0).perm
    refine ⟨G2, (a, .lst [.int s]) :: M0, g2.sep.perm p1, a, s, M0, by rw [hu.of_loc]; rfl, rfl, fun v tf z G' s' ok uq r _ H' S' => ?_⟩
    have p3 : (M2 z).Perm ((a, .lst [.int z]) :: M0) := Ch.perm_to (hc z) p1
    exact kk v G' H' _ (g2.same.trans s') (S'.perm p3.symm) ⟨tf, z, ok, uq, r, rfl⟩
theorem eg_called {K : PySem.W.Frag} {cl : Nat → Addr} {p : Bool} {M M1 : ML} {M2 : Int → ML} {G : Hp} {σ : St} {tx : TA} {E : XK} {a : Addr} {s : Int} (ha : EvA K cl p tx σ G M [.loc a] M1) (hc : ∀ z, Ch M1 a (.lst [.int s]) (.lst [.int z]) (M2 z)) :
    EvG (tCall (sp_law_called K cl) [] E tx) σ G M fun v G' M' => ∃ x z, v = .str x ∧ x.length ≤ 1000 ∧ M' = M2 z := fun G1 H1 s1 S Q kk =>
  ha G1 H1 s1 S _ fun xs G2 H2 g2 rx => by
    obtain ⟨u, rfl, hu⟩ := reps1 rx
    obtain ⟨M0, p1, p2⟩ := (hc 0).perm
    refine ⟨G2, (a, .lst [.int s]) :: M0, g2.sep.perm p1, a, s, M0, by rw [hu.of_loc]; rfl, rfl, fun x z G' s' ok _ H' S' => ?_⟩
    have p3 : (M2 z).Perm ((a, .lst [.int z]) :: M0) := Ch.perm_to (hc z) p1
    exact kk _ G' H' _ (g2.same.trans s') (S'.perm p3.symm) ⟨x, z, rfl, ok, rfl⟩
theorem eg_many {K : PySem.W.Frag} {cl : Nat → Addr} {p : Bool} {M M1 : ML} {G : Hp} {σ : St} {tx : TA} {E : XK} {c : Str} {u : Int} (ha : EvA K cl p tx σ G M [.str c, .int u] M1) (hc : c.length ≤ 1000) (h0 : -1000000000000 < u) (h1 : u < 1000000000000) :
    EvG (tCall (sp_law_many K cl) [] E tx) σ G M fun v G' M' => ∃ tf, tf.Ok ∧ tf.Uniq ∧ Rep K cl G' v (Tariff.d tf) ∧ M' = M1 := fun G1 H1 s1 S Q kk =>
  ha G1 H1 s1 S _ fun xs G2 H2 g2 rx => by
    obtain ⟨x, y, rfl, hx, hy⟩ := reps2 rx
    exact ⟨G2, M1, g2.sep, c, u, by rw [hx.of_str, hy.of_int]; rfl, hc, h0, h1, fun v tf G' s' ok uq r _ H' S' => kk v G' H' _ (g2.same.trans s') S' ⟨tf, ok, uq, r, rfl⟩⟩
theorem rd_law_tariff {K : PySem.W.Frag} {cl : Nat → Addr} [Cf K cl] {vs H Q E} (h : sp_law_tariff K cl vs H Q E) : t_law_tariff K cl ⟨fun _ H' => Q .non H', Q, fun _ _ => False, fun _ _ => False⟩ (start ["state", "bands", "k", "prefix", "low", "high"] vs) H := by
  obtain ⟨G, M, S, a, s, M0, rfl, rfl, q⟩ := h
  unfold t_law_tariff
  refine s_seq ?_
  refine s_asgG S eg_nil ?_
  rintro _ G1 H1 M1 s1 S1 ⟨p, rfl, rfl⟩
  refine s_seq ?_
  apply s_forR1 (K := K) (cl := cl) (fun i σ G' M' => ∃ z vs bs y2 y3 y4 y5, σ = [some (.ref a), some (.ref p), y2, y3, y4, y5] ∧ M' = (p, .lst vs) :: (a, .lst [.int z]) :: M0 ∧ Reps K cl G' vs (List.map Band.d bs) ∧ (∀ b ∈ bs, Band.Ok b) ∧ bs.map Band.label = (List.range i).map bandL ∧ bs.length = i) S1
  · walk_at "ea"
  · omega
  · intro G2 H2 g2
    exact ⟨_, [], [], _, _, _, _, rfl, rfl, Reps.nil, fun _ h => absurd h List.not_mem_nil, rfl, rfl⟩
  · rintro G2 s2 i σ' G3 H3 M3 hi s3 S3 ⟨z, vs, bs, y2, y3, y4, y5, rfl, rfl, rb, hb, hbl, hlen⟩
    refine s_gname ?_
    have hvl := rb.length
    rw [List.length_map] at hvl
    refine s_seq ?_
    refine s_asg (K := K) (cl := cl) S3 (by walk_at "ev") ?_
    intro w4 G4 H4 g4 r4
    have s4 := g4.same
    have S4 := g4.sep
    clear g4
    obtain ⟨x, hx, hxl⟩ := pick_str (ds := [D.str "", D.str "5", D.str "51", D.str "6", D.str "62", D.str "512"]) (n := (z % 6).toNat) rfl (by show _ < 6; omega)
    rw [hx] at r4
    obtain rfl := r4.of_str
    generalize z / 6 = z1 at S4
    refine s_seq ?_
    refine s_asg (K := K) (cl := cl) S4 (by walk_at "ev") ?_
    intro w5 G5 H5 g5 r5
    have s5 := g5.same
    have S5 := g5.sep
    clear g5
    obtain ⟨low, rfl, hl0, hl1⟩ : ∃ x, w5 = .int x ∧ 0 ≤ x ∧ x < 24 := ⟨_, r5.of_int, by omega, by omega⟩
    generalize z1 / 24 = z2 at S5
    refine s_seq ?_
    refine s_asg (K := K) (cl := cl) S5 (by walk_at "ev") ?_
    intro w6 G6 H6 g6 r6
    have s6 := g6.same
    have S6 := g6.sep
    clear g6
    obtain ⟨high, rfl⟩ : ∃ x, w6 = .int x := ⟨_, r6.of_int⟩
    generalize z2 / (24 - low) = z3 at S6
    have hsl := num_len (n := (i : Int)) (by omega) (by omega)
    have hsb : (Str.ofString "band").length = 4 := by decide +kernel
    refine s_app (K := K) (cl := cl) S6 (by walk_at "ev") (by walk_at "at") (by walk_at "ev") (fun v => Ch.hd) (by omega) ?_
    intro w7 G7 H7 s7 S7 r7
    obtain ⟨b7, r7, hb7⟩ : ∃ b : Band, Rep K cl G7 w7 (Band.d b) ∧ Band.Ok b ∧ b.label = bandL i := ⟨⟨_, _, _, _, _⟩, r7, ⟨Nat.le_trans hxl (by decide), okS_app (by decide +kernel) (okS_num _)⟩, rfl⟩
    refine ⟨G7, _, by walk_at "same", S7, _, vs ++ [w7], bs ++ [b7], _, _, _, _, rfl, rfl, ?_, ?_, ?_, ?_⟩
    · rw [List.map_append]
      exact (Reps.append (by walk_at "repsc") (Reps.one r7))
    · intro b hb'
      rcases List.mem_append.mp hb' with h | h
      · exact hb b h
      · rw [List.mem_singleton.mp h]
        exact hb7.1
    · rw [List.map_append, hbl, List.range_succ, List.map_append]
      show _ ++ [b7.label] = _ ++ [bandL i]
      rw [hb7.2]
    · rw [List.length_append, hlen]
      rfl
  · rintro σ' G3 H3 M3 s3 S3 ⟨z, vs, bs, y2, y3, y4, y5, rfl, rfl, rb, hb, hbl, hlen⟩
    have hvl := rb.length
    rw [List.length_map] at hvl
    have fin : ∀ {nx : St → Hp → Prop} {bk ct : St → Hp → Prop} (z' : Int) (vs' : List V) (bs' : List Band) (y2 y3 y4 y5 : Option V) (G' H' : Hp), Same G G' → Sep G' H' ((p, .lst vs') :: (a, .lst [.int z']) :: M0) → Reps K cl G' vs' (List.map Band.d bs') → (∀ b ∈ bs', Band.Ok b) → ((bs'.map Band.label).Nodup ∧ ∀ l ∈ bs'.map Band.label, LabOk l) →
        tRet (tMake (cl 1) (sp_Tariff_init K cl) [] E0 (tCons (tCall (sp_law_digit K cl) [] E0 (tCons (tVar 0) (tCons (tC (.int 30)) tNil))) (tCons (tCB (rTupA K) (tCons (tVar 1) tNil)) tNil))) ⟨nx, Q, bk, ct⟩ [some (.ref a), some (.ref p), y2, y3, y4, y5] H' := by
      intro nx bk ct z' vs' bs' y2 y3 y4 y5 G' H' s' S' rb' hb' hu'
      refine s_ret (K := K) (cl := cl) S' (by walk_at "ev") fun v G4 H4 g4 r4 => ?_
      obtain ⟨tf, rt, htf⟩ : ∃ tf : Tariff, Rep K cl G4 v (Tariff.d tf) ∧ tf.bands = bs' := ⟨⟨_, _⟩, r4, rfl⟩
      have s4 := g4.same
      exact q v tf _ G4 (by walk_at "same") (fun b hb => hb' b (htf ▸ hb)) (by unfold Tariff.Uniq; rw [htf]; exact hu') rt (by walk_at "same") H4 g4.sep.drop
    refine s_seq ?_
    refine s_if (K := K) (cl := cl) S3 (by walk_at "et") ?_ ?_
    · intro G4 H4 g4 hc
      have s4 := g4.same
      have S4 := g4.sep
      refine s_app (K := K) (cl := cl) S4 (by walk_at "ev") (by walk_at "at") (by walk_at "ev") (fun v => Ch.hd) (by omega) ?_
      intro w7 G7 H7 s7 S7 r7
      obtain ⟨b7, r7, hb7⟩ : ∃ b : Band, Rep K cl G7 w7 (Band.d b) ∧ Band.Ok b ∧ b.label = "other" := ⟨⟨_, _, _, _, _⟩, r7, other_ok, rfl⟩
      refine fin _ _ (bs ++ [b7]) _ _ _ _ G7 H7 (by walk_at "same") S7 ?_ ?_ ?_
      · rw [List.map_append]
        exact (Reps.append (by walk_at "repsc") (Reps.one r7))
      · intro b hb'
        rcases List.mem_append.mp hb' with h | h
        · exact hb b h
        · rw [List.mem_singleton.mp h]
          exact hb7.1
      · rw [List.map_append, hbl]
        show (_ ++ [b7.label]).Nodup ∧ ∀ l ∈ _ ++ [b7.label], LabOk l
        rw [hb7.2]
        exact ⟨labels_nd (by omega), labels_lab (by omega)⟩
    · intro G4 H4 g4 hc
      have s4 := g4.same
      exact s_next (fin _ _ bs _ _ _ _ G4 H4 (by walk_at "same") g4.sep (by walk_at "repsc") hb (by rw [hbl]; exact ⟨(List.nodup_append.mp (labels_nd (by omega))).1, fun l hl => labels_lab (by omega) l (List.mem_append_left _ hl)⟩))
theorem rd_law_called {K : PySem.W.Frag} {cl : Nat → Addr} [Cf K cl] {vs H Q E} (h : sp_law_called K cl vs H Q E) : t_law_called K cl ⟨fun _ H' => Q .non H', Q, fun _ _ => False, fun _ _ => False⟩ (start ["state"] vs) H := by
  obtain ⟨G, M, S, a, s, M0, rfl, rfl, q⟩ := h
  unfold t_law_called
  obtain ⟨x, hx, hxl⟩ := pick_str (ds := [D.str "5", D.str "6", D.str "512", D.str "51", D.str "62", D.str "7"]) (n := (s % 6).toNat) rfl (by show _ < 6; omega)
  have hsl := num_len (n := s / 6 % 30) (by omega) (by omega)
  refine s_ret (K := K) (cl := cl) S (ev_op (EvX.is (by walk_at "ev") hx) (by walk_at "ev") (by walk_at "op2")) fun v G1 H1 g r => ?_
  obtain rfl := r.of_str
  exact q _ _ G1 g.same (app_len hxl hsl (by omega)) g.same H1 g.sep
theorem cutS_len {x : Str} {a b : Option Int} {n : Nat} (h : x.length ≤ n) : (cutS x a b).length ≤ n := by
  have hx : x.cps.toList.length = x.length := by simp [Str.length]
  unfold cutS
  show (List.toArray _).size ≤ n
  rw [List.size_toArray, List.length_take, List.length_drop, hx]
  omega
theorem pick_int {ds : List D} {n : Nat} (h : ds.all (fun d => match d with | .int _ => true | _ => false) = true) (hn : n < ds.length) : ∃ x, ds.getD n .non = .int x := by
  have h1 := List.all_eq_true.mp h (ds[n]) (List.getElem_mem hn)
  have e : ds.getD n .non = ds[n] := by simp [List.getD, hn]
  rw [e]
  cases q : ds[n] <;> rw [q] at h1 <;> simp at h1
  exact ⟨_, rfl⟩
theorem ev_stretches {K : PySem.W.Frag} {cl : Nat → Addr} {p : Bool} {M M1 : ML} {G : Hp} {σ : St} {tx : TA} {E : XK} {tf : Tariff} {c : Str} {start begin till : Int} (ha : EvA K cl p tx σ G M [Tariff.d tf, .str c, .int start, .int begin, .int till] M1) (ok : tf.Ok) (h0 : 0 ≤ begin) (h1 : begin < till) (h2 : till ≤ 1000000) :
    EvX K cl false (tCall (sp_stretches K cl) [] E tx) σ G M (optD (fun l => .lst (List.map stD l)) (stretchesF tf c start begin till)) M1 := ev_call ha ⟨_, _, _, _, _, rfl, ok, h0, h1, h2, rfl⟩
theorem ev_law_stretches {K : PySem.W.Frag} {cl : Nat → Addr} {p : Bool} {M M1 : ML} {G : Hp} {σ : St} {tx : TA} {E : XK} {tf : Tariff} {c : Str} {start begin till : Int} (ha : EvA K cl p tx σ G M [Tariff.d tf, .str c, .int start, .int begin, .int till] M1) (ok : tf.Ok) (hc : c.length ≤ 1000) (h0 : 0 ≤ begin) (h1 : begin < till) (h2 : till ≤ 1000000) :
    EvX K cl false (tCall (sp_law_stretches K cl) [] E tx) σ G M (optD (fun l => .lst (List.map lD l)) (secF tf c start begin (till - begin).toNat)) M1 := ev_call ha ⟨_, _, _, _, _, rfl, ok, hc, h0, h1, h2, rfl⟩
local macro_rules | `(tactic| walk_at "evcall") => `(tactic| first
  | ((with_reducible apply ev_stretches); walk_at "ea"; assumption; walk_at "num"; walk_at "num"; walk_at "num")
  | ((with_reducible apply ev_law_stretches); walk_at "ea"; assumption; walk_at "num"; walk_at "num"; walk_at "num"; walk_at "num"))
theorem getLast_map {α β : Type} {f : α → β} {l : List α} {x : α} (h : l.getLast? = some x) : atI (l.map f) (-1) = some (f x) := atI_last' (by rw [List.getLast?_map, h]; rfl)
theorem ixN_last {n : Nat} (h : 0 < n) : ixN n (-1) = some (n - 1) := by
  unfold ixN
  rw [if_neg (by decide), if_pos (by omega)]
  congr 1
  omega
theorem rd_stretches {K : PySem.W.Frag} {cl : Nat → Addr} [Cf K cl] {vs H Q E} (h : sp_stretches K cl vs H Q E) : t_stretches K cl ⟨fun _ H' => Q .non H', Q, fun _ _ => False, fun _ _ => False⟩ (start ["tariff", "called", "start", "begin", "till", "found", "place", "band", "after"] vs) H := by
  obtain ⟨ds, d, G, M, ⟨tf, c, st, begin, till, rfl, ok, h0, h1, h2, rfl⟩, S, rs, q⟩ := h
  obtain ⟨v0, _, _, _, _, rfl, r0, r1, r2, r3, r4⟩ := reps5 rs
  clear rs
  obtain rfl := r1.of_str
  obtain rfl := r2.of_int
  obtain rfl := r3.of_int
  obtain rfl := r4.of_int
  unfold t_stretches
  refine s_seq ?_
  refine s_asgG S eg_nil ?_
  rintro _ G1 H1 M1 s1 S1 ⟨p, rfl, rfl⟩
  refine s_seq ?_
  refine s_asg (K := K) (cl := cl) S1 (by walk_at "ev") ?_
  intro w2 G2 H2 g2 q2
  obtain ⟨rfl, rfl, -⟩ := g2.eq rfl
  obtain rfl := q2.of_int
  refine s_seq ?_
  refine s_while (K := K) (cl := cl) (fun m σ G' M' => ∃ place f us y7 y8, σ = [some v0, some (.str c), some (.int st), some (.int begin), some (.int till), some (.ref p), some (.int place), y7, y8] ∧ M' = (p, .lst us) :: M ∧ Reps K cl G' us (List.map stD f) ∧ begin ≤ place ∧ place ≤ till ∧ till - place ≤ m ∧ f.length ≤ (place - begin).toNat ∧
    strGo tf c st till m place f = stretchesF tf c st begin till) (till - begin).toNat S1 ⟨begin, [], [], _, _, rfl, rfl, Reps.nil, Int.le_refl _, Int.le_of_lt h1, by omega, Nat.zero_le _, rfl⟩ ?_
  rintro m σ' G3 H3 M3 s3 S3 ⟨place, f, us, y7, y8, rfl, rfl, rf, hp0, hp1, hm, hfl, hgo⟩
  refine wh_turn (b := decide (place < till)) (by walk_at "et") ⟨fun hc G4 H4 g4 => ?_, fun hc G4 H4 g4 => ?_⟩
  · obtain ⟨rfl, rfl, -⟩ := g4.eq rfl
    have hlt : place < till := of_decide_eq_true hc
    obtain ⟨n, rfl⟩ : ∃ n, m = n + 1 := ⟨m - 1, by omega⟩
    rw [strGo, if_pos hlt] at hgo
    have g1 := nextH_gt (start := st) hlt
    have g2 := nextH_le (start := st) (till := till) (place := place)
    refine s_seq ?_
    refine s_asg (K := K) (cl := cl) S3 (by walk_at "ev") ?_
    intro w5 G5 H5 g5 q5
    have s5 := g5.same
    have S5 := g5.sep
    clear g5
    cases hb : tf.at c (st + place) with
    | none =>
      rw [hb] at q5 hgo
      obtain rfl := q5.of_non
      refine s_seq ?_
      refine s_if (K := K) (cl := cl) S5 (by walk_at "et") ?_ ?_
      · intro G6 H6 g6 _
        obtain ⟨rfl, rfl, -⟩ := g6.eq rfl
        refine s_ret (K := K) (cl := cl) S5 (by walk_at "ev") fun v G7 H7 g7 r7 => ?_
        obtain ⟨rfl, rfl, -⟩ := g7.eq rfl
        refine q v G7 H7 (by walk_at "same") S5.drop ?_
        rw [← hgo]
        exact r7
      · intro G6 H6 g6 hc6
        cases hc6
    | some b =>
    rw [hb] at q5 hgo
    simp only [optD] at q5
    have hbok := (Tariff.at_mem hb)
    refine s_seq ?_
    refine s_if (K := K) (cl := cl) S5 (by walk_at "et") ?_ ?_
    · intro G6 H6 g6 hc6
      cases hc6
    intro G6 H6 g6 _
    obtain ⟨rfl, rfl, -⟩ := g6.eq rfl
    refine s_next ?_
    refine s_seq ?_
    refine s_asg (K := K) (cl := cl) S5 (by walk_at "ev") ?_
    intro w7 G7 H7 g7 q7
    obtain ⟨rfl, rfl, -⟩ := g7.eq rfl
    obtain rfl : w7 = .int (nextH st till place) := q7.of_int
    clear q7
    generalize hnx : nextH st till place = nx at *
    have hul := rf.length
    rw [List.length_map] at hul
    refine s_seq ?_
    apply s_ifJ (K := K) (cl := cl) (fun σ G' M' => ∃ us', σ = [some v0, some (.str c), some (.int st), some (.int begin), some (.int till), some (.ref p), some (.int place), some w5, some (.int nx)] ∧ M' = (p, .lst us') :: M ∧ Reps K cl G' us' (List.map stD (push Band.label f b place nx))) S5 (b := !us.isEmpty && (match f.getLast? with | none => false | some x => decide (x.1.label = b.label)))
    · apply et_and
      · walk_at "et"
      intro hne
      cases hgl : f.getLast? with
      | none =>
        have : f = [] := List.getLast?_eq_none_iff.mp hgl
        rw [this] at hul
        have : us = [] := List.length_eq_zero_iff.mp hul
        rw [this] at hne
        cases hne
      | some x =>
        have hix := getLast_map (f := stD) hgl
        walk_at "et"
    · intro kk G8 H8 g8 hc8
      obtain ⟨rfl, rfl, -⟩ := g8.eq rfl
      cases hgl : f.getLast? with
      | none => simp [hgl] at hc8
      | some x =>
      have hlb : x.1.label = b.label := by simp [hgl] at hc8; exact hc8.2
      have hix := getLast_map (f := stD) hgl
      have hpos : 0 < us.length := by
        rw [hul]
        cases f with
        | nil => cases hgl
        | cons _ _ => simp
      refine s_set (K := K) (cl := cl) (j := us.length - 1) S5 (by walk_at "ev") (by walk_at "ev") (by walk_at "ev") (fun v => Ch.hd) (ixN_last hpos) ?_
      intro w9 G9 H9 s9 S9 r9
      refine kk _ G9 H9 _ s9 S9 ⟨_, rfl, rfl, ?_⟩
      have e : push Band.label f b place nx = f.set (f.length - 1) (b, x.2.1, nx) := by
        unfold push
        simp only [hgl]
        rw [if_pos hlb]
      rw [e, List.map_set, hul]
      exact Reps.set _ (by walk_at "repsc") r9
    · intro kk G8 H8 g8 hc8
      obtain ⟨rfl, rfl, -⟩ := g8.eq rfl
      have e : push Band.label f b place nx = f ++ [(b, place, nx)] := by
        unfold push
        cases hgl : f.getLast? with
        | none => rfl
        | some x =>
          have hne : us.isEmpty = false := by
            cases us with
            | nil =>
              have : f = [] := List.length_eq_zero_iff.mp hul.symm
              rw [this] at hgl
              cases hgl
            | cons _ _ => rfl
          simp [hgl, hne] at hc8
          show (if x.1.label = b.label then _ else _) = _
          rw [if_neg hc8]
      refine s_app (K := K) (cl := cl) S5 (by walk_at "ev") (by walk_at "at") (by walk_at "ev") (fun v => Ch.hd) (by omega) ?_
      intro w9 G9 H9 s9 S9 r9
      refine kk _ G9 H9 _ s9 S9 ⟨_, rfl, rfl, ?_⟩
      rw [e, List.map_append]
      exact Reps.append (by walk_at "repsc") (Reps.one r9)
    rintro σ' G8 H8 M8 s8 S8 ⟨us', rfl, rfl, rf'⟩
    refine s_asg (K := K) (cl := cl) S8 (by walk_at "ev") ?_
    intro w9 G9 H9 g9 q9
    obtain ⟨rfl, rfl, -⟩ := g9.eq rfl
    obtain rfl := q9.of_int
    refine ⟨n, by omega, _, _, by walk_at "same", S8, nx, _, us', _, _, rfl, rfl, rf', by omega, g2, by omega, ?_, hgo⟩
    have := push_len (lb := Band.label) (f := f) (b := b) (lo := place) (hi := nx)
    omega
  · obtain ⟨rfl, rfl, -⟩ := g4.eq rfl
    have hge : ¬ place < till := of_decide_eq_false hc
    have hres : stretchesF tf c st begin till = some f := by
      rw [← hgo]
      cases m with
      | zero => rfl
      | succ n => rw [strGo, if_neg hge]
    refine s_retF S3 rfl rf fun G5 s5 S5 r5 => ?_
    rw [hres] at q
    exact q _ G5 _ (by walk_at "same") S5 r5
theorem rd_price_lines {K : PySem.W.Frag} {cl : Nat → Addr} [Cf K cl] {vs H Q E} (h : sp_price_lines K cl vs H Q E) : t_price_lines K cl ⟨fun _ H' => Q .non H', Q, fun _ _ => False, fun _ _ => False⟩ (start ["tariff", "called", "start", "begin", "till", "pieces", "lines", "band", "low", "high", "minutes"] vs) H := by
  obtain ⟨ds, d, G, M, ⟨tf, c, st, begin, till, rfl, ok, h0, h1, h2, rfl⟩, S, rs, q⟩ := h
  obtain ⟨v0, _, _, _, _, rfl, r0, r1, r2, r3, r4⟩ := reps5 rs
  clear rs
  obtain rfl := r1.of_str
  obtain rfl := r2.of_int
  obtain rfl := r3.of_int
  obtain rfl := r4.of_int
  unfold t_price_lines
  refine s_seq ?_
  refine s_asg (K := K) (cl := cl) S (by walk_at "ev") ?_
  intro w5 G1 H1 g1 q5
  have s1 := g1.same
  have S1 := g1.sep
  clear g1
  unfold priceF at q
  cases hst : stretchesF tf c st begin till with
  | none =>
    rw [hst] at q5 q
    obtain rfl := q5.of_non
    refine s_seq ?_
    refine s_if (K := K) (cl := cl) S1 (by walk_at "et") ?_ ?_
    · intro G6 H6 g6 _
      obtain ⟨rfl, rfl, -⟩ := g6.eq rfl
      refine s_ret (K := K) (cl := cl) S1 (by walk_at "ev") fun v G7 H7 g7 r7 => ?_
      obtain ⟨rfl, rfl, -⟩ := g7.eq rfl
      exact q v G7 H7 (by walk_at "same") S1 r7
    · intro G6 H6 g6 hc6
      cases hc6
  | some f =>
  rw [hst] at q5 q
  simp only [optD, Option.map_some] at q5 q
  obtain ⟨hfl, hmem, hbd⟩ := stretches_facts h1 hst
  refine s_seq ?_
  refine s_if (K := K) (cl := cl) S1 (by walk_at "et") ?_ ?_
  · intro G6 H6 g6 hc6
    cases hc6
  intro G6 H6 g6 _
  obtain ⟨rfl, rfl, -⟩ := g6.eq rfl
  refine s_next ?_
  refine s_seq ?_
  refine s_asgG S1 (eg_lst (K := K) (cl := cl) (F := fun v G' M' => ∃ p us, v = .ref p ∧ M' = (p, .lst us) :: M ∧ Reps K cl G' us [l4D ("setup", begin, begin, tf.setup)]) (by walk_at "ea") (Nat.le_of_ble_eq_true rfl) fun u vs G' s r => ⟨u, vs, rfl, rfl, r⟩) ?_
  rintro _ G2 H2 M2 s2 S2 ⟨p, us, rfl, rfl, ru⟩
  refine s_seq ?_
  apply s_forL (K := K) (cl := cl) (fun i σ G' M' => ∃ us y7 y8 y9 y10, σ = [some v0, some (.str c), some (.int st), some (.int begin), some (.int till), some w5, some (.ref p), y7, y8, y9, y10] ∧ M' = (p, .lst us) :: M ∧ Reps K cl G' us (List.map l4D (("setup", begin, begin, tf.setup) :: (f.take i).map pl))) S2
  · walk_at "ev"
  · intro G3 H3 g3
    obtain ⟨rfl, rfl, -⟩ := g3.eq rfl
    exact ⟨us, _, _, _, _, rfl, rfl, ru⟩
  · rintro G3 s3 i x d σ' G4 H4 M4 hd s4 S4 r4' ⟨us, y7, y8, y9, y10, rfl, rfl, ru⟩
    rw [List.getElem?_map] at hd
    cases hx : f[i]? with
    | none => rw [hx] at hd; cases hd
    | some y =>
    rw [hx] at hd
    cases hd
    have hym := List.mem_of_getElem? hx
    have hyb := hbd y hym
    have hul := ru.length
    have hil : i < f.length := (List.getElem?_eq_some_iff.mp hx).1
    simp only [List.length_map, List.length_cons, List.length_take] at hul
    refine g_tup S4 r4' rfl rfl fun xs rxs => ?_
    obtain ⟨x1, x2, x3, rfl, q1, q2, q3⟩ := reps3 rxs
    obtain rfl := q2.of_int
    obtain rfl := q3.of_int
    refine s_seq ?_
    refine s_asg (K := K) (cl := cl) S4 (by walk_at "ev") ?_
    intro w10 G5 H5 g5 q10
    obtain ⟨rfl, rfl, -⟩ := g5.eq rfl
    obtain rfl := q10.of_int
    refine s_app (K := K) (cl := cl) S4 (by walk_at "ev") (by walk_at "at") (by walk_at "ev") (fun v => Ch.hd) (by omega) ?_
    intro w11 G6 H6 s6 S6 r6
    refine ⟨G6, _, by walk_at "same", S6, _, _, _, _, _, rfl, rfl, ?_⟩
    rw [List.take_add_one, hx, List.map_append, ← List.cons_append, List.map_append]
    exact Reps.append (by walk_at "repsc") (Reps.one r6)
  · rintro σ' G4 H4 M4 s4 S4 ⟨us, y7, y8, y9, y10, rfl, rfl, ru⟩
    rw [List.length_map, List.take_length] at ru
    refine s_retF S4 rfl ru fun G5 s5 S5 r5 => ?_
    exact q _ G5 _ (by walk_at "same") S5 r5
theorem rd_Contracts_set_history {K : PySem.W.Frag} {cl : Nat → Addr} [Cf K cl] {vs H Q E} (h : sp_Contracts_set_history K cl vs H Q E) : t_Contracts_set_history K cl ⟨fun _ H' => Q .non H', Q, fun _ _ => False, fun _ _ => False⟩ (start ["self", "line", "rows", "place"] vs) H := by
  obtain ⟨G, M, S, x, dx, h, kws, hist, M0, line, vr, rows, rfl, rfl, rk, rr, ha, hl, hh, q⟩ := h
  unfold t_Contracts_set_history
  refine s_seq ?_
  apply s_forR2 (K := K) (cl := cl) (lo := 1) (n := (rows.length : Int)) (fun i σ G' M' => ∃ y3, σ = [some (.ref x), some (.str line), some vr, y3] ∧ M' = (x, .ins (cl 6) dx (List.zip ["histories"] [.ref h])) :: (h, .dK kws) :: M0) S
  · (with_reducible apply EvA.is)
    · walk_at "ea"
    · rw [List.length_map]
  · omega
  · intro G1 H1 g1
    exact ⟨_, rfl, rfl⟩
  · rintro G1 s1 i σ' G2 H2 M2 hi s2 S2 ⟨y3, rfl, rfl⟩
    have hi1 : i < rows.length := by omega
    have hi2 : i + 1 < rows.length := by omega
    have e1 : atI (List.map rowD rows) (1 + (i : Int)) = some (rowD rows[i + 1]) := by
      have : (1 + (i : Int)) = ((i + 1 : Nat) : Int) := by omega
      rw [this]
      exact atI_nat (by simp [hi2])
    have e2 : atI (List.map rowD rows) (1 + (i : Int) - 1) = some (rowD rows[i]) := by
      have : (1 + (i : Int) - 1) = (i : Int) := by omega
      rw [this]
      exact atI_nat (by simp [hi1])
    have hlt := ha i rows[i] rows[i + 1] (List.getElem?_eq_getElem hi1) (List.getElem?_eq_getElem hi2)
    have r2 := (rr.mono s1).mono s2
    refine s_gname ?_
    refine s_if (K := K) (cl := cl) (b := decide (rows[i + 1].1 ≤ rows[i].1)) S2 (by walk_at "et") ?_ ?_
    · intro G3 H3 g3 hc
      have := of_decide_eq_true hc
      omega
    · intro G3 H3 g3 _
      exact s_next ⟨_, _, s2.trans g3.same, g3.sep, _, rfl, rfl⟩
  rintro σ' G2 H2 M2 s2 S2 ⟨y3, rfl, rfl⟩
  have r2 := rr.mono s2
  have rk2 := rk.mono s2
  refine s_if (K := K) (cl := cl) (b := !(List.map rowD rows).isEmpty) S2 (et_tr (ev_var (i := 2) rfl r2) rfl) ?_ ?_
  · intro G3 H3 g3 hc
    have hne : rows.isEmpty = false := by simpa using hc
    refine s_kput (K := K) (cl := cl) (k := .inr line) (kes := histK hist) (d := .tup (List.map rowD rows)) g3.sep (ev_cb (p := true) (q := false) (ea_cons (p := true) (ev_var (i := 2) rfl (r2.mono g3.same)) ea_nil) on_tupL) (by walk_at "ev") (by walk_at "ev") rfl (rk2.mono g3.same) (by unfold histK; rw [List.length_map]; omega) (fun v => .tl .hd) ?_
    intro v G4 H4 s4 S4 r4
    rw [histK_put] at r4
    refine q G4 _ ((s2.trans g3.same).trans s4) ?_ ((s2.trans g3.same).trans s4) _ S4
    unfold setF
    rw [hne]
    exact r4
  · intro G3 H3 g3 hc
    have hne : rows.isEmpty = true := by simpa using hc
    have rk3 := rk2.mono g3.same
    refine s_if (K := K) (cl := cl) (b := (false != (valG (histK hist) (.inr line)).isSome)) g3.sep (et_test (ev_kin (k := .inr line) (by walk_at "ev") (by walk_at "ev") rfl (.tl .hd) rk3)) ?_ ?_
    · intro G4 H4 g4 hb
      have hsome : (valG (histK hist) (.inr line)).isSome = true := by
        revert hb
        cases (valG (histK hist) (.inr line)).isSome <;> intro hb <;> first | rfl | cases hb
      refine s_kdel (K := K) (cl := cl) (k := .inr line) (kes := histK hist) g4.sep (by walk_at "ev") (by walk_at "ev") rfl (rk3.mono g4.same) hsome (.tl .hd) ?_
      intro G5 H5 s5 S5 r5
      rw [histK_drop] at r5
      refine q G5 _ (((s2.trans g3.same).trans g4.same).trans s5) ?_ (((s2.trans g3.same).trans g4.same).trans s5) _ S5
      unfold setF
      rw [hne]
      exact r5
    · intro G4 H4 g4 hb
      have hnone : valG (histK hist) (.inr line) = none := by
        revert hb
        cases valG (histK hist) (.inr line) with
        | none => intro _; rfl
        | some x => intro hb; cases hb
      refine s_next ?_
      refine q G4 kws ((s2.trans g3.same).trans g4.same) ?_ ((s2.trans g3.same).trans g4.same) _ g4.sep
      have : histK (setF hist line rows) = histK hist := by
        unfold setF
        rw [hne]
        show histK (dropG hist line) = _
        rw [← histK_drop, dropG_none hnone]
      rw [this]
      exact rk3.mono g4.same
theorem rd_ChargeRun_init {K : PySem.W.Frag} {cl : Nat → Addr} [Cf K cl] {vs H Q E} (h : sp_ChargeRun_init K cl vs H Q E) : t_ChargeRun_init K cl ⟨fun _ H' => Q .non H', Q, fun _ _ => False, fun _ _ => False⟩ (start ["self", "contracts", "tariffs", "allowances"] vs) H := by
  obtain ⟨G, M, S, x, dx, M0, v1, v2, v3, E, rfl, rfl, ⟨c1, c2, c3⟩, q⟩ := h
  unfold t_ChargeRun_init
  refine s_seq ?_
  refine s_fldN (K := K) (cl := cl) S (ev_var (i := 1) rfl c1) (by walk_at "ev") (fun v => Ch.hd) (by walk_at "cf") (by walk_at "cf") rfl (by decide +kernel) (by decide) ?_
  intro w1 G1 H1 s1 S1 q1
  refine s_seq ?_
  refine s_fldN (K := K) (cl := cl) S1 (ev_var (i := 2) rfl (c2.mono s1)) (by walk_at "ev") (fun v => Ch.hd) (by walk_at "cf") (by walk_at "cf") rfl (by decide +kernel) (by decide) ?_
  intro w2 G2 H2 s2 S2 q2
  refine s_seq ?_
  refine s_fldN (K := K) (cl := cl) S2 (ev_var (i := 3) rfl ((c3.mono s1).mono s2)) (by walk_at "ev") (fun v => Ch.hd) (by walk_at "cf") (by walk_at "cf") rfl (by decide +kernel) (by decide) ?_
  intro w3 G3 H3 s3 S3 q3
  refine s_seq ?_
  refine s_fldGN (K := K) (cl := cl) (a := x) (C := cl 3) (dx := dx) (ns := ["contracts", "tariffs", "allowances"]) (vs := [w1, w2, w3]) (F := fun v G' M' => ∃ u, v = .ref u ∧ M' = (u, nD u 0 []) :: (x, .ins (cl 3) dx (List.zip ["contracts", "tariffs", "allowances"] [w1, w2, w3])) :: M0) S3 (eg_newN (fun u => ⟨u, rfl, rfl⟩) fun v G' M' _ h => h) (by walk_at "cf") (by walk_at "cf") rfl (by decide +kernel) (by decide) ?_
  rintro _ G4 H4 _ s4 S4 ⟨us, rfl, rfl⟩
  refine ⟨_, _, _, ev_var (i := 0) rfl Rep.loc, Ch.tl Ch.hd, fun G5 H5 s5 S5 => ?_⟩
  refine s_seq ?_
  refine s_fldGN (K := K) (cl := cl) (a := x) (C := cl 3) (dx := dx) (ns := ["contracts", "tariffs", "allowances", "used"]) (vs := [w1, w2, w3, .ref us]) S5 eg_nil (by walk_at "cf") (by walk_at "cf") rfl (by decide +kernel) (by decide) ?_
  rintro _ G6 H6 _ s6 S6 ⟨ch, rfl, rfl⟩
  refine ⟨_, _, _, ev_var (i := 0) rfl Rep.loc, Ch.tl (Ch.tl Ch.hd), fun G7 H7 s7 S7 => ?_⟩
  refine s_fldGN (K := K) (cl := cl) (a := x) (C := cl 3) (dx := dx) (ns := ["contracts", "tariffs", "allowances", "used", "charges"]) (vs := [w1, w2, w3, .ref us, .ref ch]) S7 eg_nil (by walk_at "cf") (by walk_at "cf") rfl (by decide +kernel) (by decide) ?_
  rintro _ G8 H8 _ s8 S8 ⟨lo, rfl, rfl⟩
  refine ⟨_, _, _, ev_var (i := 0) rfl Rep.loc, Ch.tl (Ch.tl (Ch.tl Ch.hd)), fun G9 H9 s9 S9 => ?_⟩
  have sA := ((((s4.trans s5).trans s6).trans s7).trans s8).trans s9
  refine q G9 us ch lo w1 w2 w3 (((s1.trans s2).trans s3).trans sA) ⟨((q1.mono s2).mono s3).mono sA, (q2.mono s3).mono sA, q3.mono sA⟩ (((s1.trans s2).trans s3).trans sA) _ (S9.perm ?_)
  exact permR [(x, _), (us, _), (ch, _), (lo, _)] M0
theorem alwK_get {E : Env5} {a : Str} : (valG (alwK E.alw) (.inr a)).getD (.int 0) = .int (alwF E a) := by
  rw [alwK_val]
  unfold alwF
  cases valG E.alw a <;> rfl
theorem ev_price5 {K : PySem.W.Frag} {cl : Nat → Addr} {p : Bool} {M M1 : ML} {G : Hp} {σ : St} {tx : TA} {E : XK} {tf : Tariff} {c : Str} {start begin till : Int} (ha : EvA K cl p tx σ G M [Tariff.d tf, .str c, .int start, .int begin, .int till] M1) (ok : tf.Ok) (h0 : 0 ≤ begin) (h1 : begin < till) (h2 : till ≤ 1000000) :
    EvX K cl false (tCall (sp_price_lines K cl) [] E tx) σ G M (optL (priceF tf c start begin till)) M1 := ev_call ha ⟨_, _, _, _, _, rfl, ok, h0, h1, h2, rfl⟩
theorem rd_ChargeRun_free_left {K : PySem.W.Frag} {cl : Nat → Addr} [Cf K cl] {vs H Q E} (h : sp_ChargeRun_free_left K cl vs H Q E) : t_ChargeRun_free_left K cl ⟨fun _ H' => Q .non H', Q, fun _ _ => False, fun _ _ => False⟩ (start ["self", "account", "month"] vs) H := by
  obtain ⟨G, M, S, x, dx, us, ch, lo, vc, vt, va, ep, kvs, cs, los, M0, E, u, a, m, rfl, rfl, ⟨c1, c2, c3⟩, ru, q⟩ := h
  unfold t_ChargeRun_free_left
  apply s_ret (K := K) (cl := cl) (d := .int (leftF E u a m)) S
  · (with_reducible apply EvX.is)
    · apply ev_op
      · (with_reducible apply EvX.is)
        · apply ev_dget2 (k := .inr a) (kes := alwK E.alw)
          · walk_at "ev"
          · walk_at "ev"
          · walk_at "ev"
          · rfl
          · rfl
        · exact alwK_get
      · (with_reducible apply EvX.is)
        · apply ev_nget2 (k := ukey a m) (kds := usedD u)
          · walk_at "ev"
          · walk_at "ev"
          · walk_at "ev"
          · rfl
          · exact isNK_ukey
          · walk_at "at"
          · walk_at "at"
          · exact ru
        · exact usedD_val
      · exact o_sub
    · rfl
  · intro v G1 H1 g r
    obtain rfl := r.of_int
    exact q G1 g.same g.same _ g.sep
theorem rd_ChargeRun_reason_against {K : PySem.W.Frag} {cl : Nat → Addr} [Cf K cl] {vs H Q E} (h : sp_ChargeRun_reason_against K cl vs H Q E) : t_ChargeRun_reason_against K cl ⟨fun _ H' => Q .non H', Q, fun _ _ => False, fun _ _ => False⟩ (start ["self", "section", "contract"] vs) H := by
  obtain ⟨G, M, S, x, dx, us, ch, lo, vc, vt, va, ep, kvs, cs, los, M0, E, v1, vk, c, rfl, rfl, ⟨c1, c2, c3⟩, rc, q⟩ := h
  unfold t_ChargeRun_reason_against
  refine s_seq ?_
  refine s_if (K := K) (cl := cl) (b := c.isNone) S (by
    (with_reducible apply EvT.is)
    · walk_at "et"
    · exact optC_isNon) ?_ ?_
  · intro G1 H1 g1 hc
    obtain rfl : c = none := by cases c with
      | none => rfl
      | some x => cases hc
    refine s_ret (K := K) (cl := cl) g1.sep (by walk_at "ev") fun v G2 H2 g2 r2 => ?_
    exact q G2 v (g1.same.trans g2.same) r2 (g1.same.trans g2.same) _ g2.sep
  · intro G1 H1 g1 hc
    obtain ⟨y, rfl⟩ : ∃ y, c = some y := by cases c with
      | none => cases hc
      | some x => exact ⟨x, rfl⟩
    refine s_next ?_
    refine s_seq ?_
    have rc1 := rc.mono g1.same
    have c21 := c2.mono g1.same
    refine s_if (K := K) (cl := cl) (b := !(valG E.tfs y.2).isSome) g1.sep (by
      apply et_test
      (with_reducible apply EvX.is)
      · apply ev_din (k := .inr y.2) (kes := tfsK E.tfs)
        · apply ev_op
          · exact ev_var (i := 2) rfl rc1
          · exact ev_int (i := 1)
          · exact o_ixT (i := 1) (d := .str y.2) rfl
        · walk_at "ev"
        · rfl
        · rfl
      · rw [tfsK_val, Option.isSome_map]
        cases (valG E.tfs y.2).isSome <;> rfl) ?_ ?_
    · intro G2 H2 g2 hb
      refine s_ret (K := K) (cl := cl) g2.sep (by walk_at "ev") fun v G3 H3 g3 r3 => ?_
      have sA := (g1.same.trans g2.same).trans g3.same
      refine q G3 v sA ?_ sA _ g3.sep
      have : (valG E.tfs y.2).isSome = false := by simpa using hb
      show Rep K cl G3 v (if (valG E.tfs y.2).isSome = true then _ else _)
      rw [if_neg (by rw [this]; decide)]
      exact r3
    · intro G2 H2 g2 hb
      refine s_next ?_
      refine s_ret (K := K) (cl := cl) g2.sep (by walk_at "ev") fun v G3 H3 g3 r3 => ?_
      have sA := (g1.same.trans g2.same).trans g3.same
      refine q G3 v sA ?_ sA _ g3.sep
      have : (valG E.tfs y.2).isSome = true := by simpa using hb
      show Rep K cl G3 v (if (valG E.tfs y.2).isSome = true then _ else _)
      rw [if_pos this]
      exact r3
theorem optL_isNon {o : Option (List L4)} : (optL o).isNon = o.isNone := by cases o <;> rfl
theorem rd_ChargeRun_lines_of {K : PySem.W.Frag} {cl : Nat → Addr} [Cf K cl] {vs H Q E} (h : sp_ChargeRun_lines_of K cl vs H Q E) : t_ChargeRun_lines_of K cl ⟨fun _ H' => Q .non H', Q, fun _ _ => False, fun _ _ => False⟩ (start ["self", "section", "name", "free", "lines", "tariff"] vs) H := by
  obtain ⟨G, M, S, x, dx, us, ch, lo, vc, vt, va, ep, kvs, cs, los, M0, E, v1, s, n, tf, f, rfl, rfl, ⟨c1, c2, c3⟩, r1, ok, hn, tok, hf, q⟩ := h
  unfold t_ChargeRun_lines_of
  refine s_seq ?_
  refine s_asg (K := K) (cl := cl) (d := .lst (List.map l4D [])) S (ev_lst ea_nil (Nat.zero_le _)) ?_
  intro w4 G1 H1 g1 q4
  have s1 := g1.same
  have S1 := g1.sep
  clear g1
  refine s_seq ?_
  obtain ⟨L, hL⟩ : ∃ L, (if f < s.seconds then priceF tf s.called s.start f s.seconds else some []) = L := ⟨_, rfl⟩
  have hq : linesF tf s f = L.map fun l => if 0 < f then (("free", 0, f, 0) : L4) :: l else l := by rw [← hL]; rfl
  have hlen : ∀ l, L = some l → l.length ≤ 20001 := fun l e => by
    rw [← hL] at e
    split at e
    · next h => have := priceF_len h e; have := ok.s1; omega
    · cases e; exact Nat.zero_le _
  have s0 := ok.s0
  have s2 := ok.s1
  refine s_ifJ (K := K) (cl := cl) (b := decide (f < s.seconds)) (fun σ G' M' => ∃ w y5 l, L = some l ∧ σ = [some (.ref x), some v1, some (.str n), some (.int f), some w, y5] ∧ M' = RunM cl x dx us ch lo vc vt va ep kvs cs los M0 ∧ Rep K cl G' w (.lst (List.map l4D l))) S1 (by walk_at "et") ?_ ?_ ?_
  · intro kk G2 H2 g2 hc
    have hlt : f < s.seconds := of_decide_eq_true hc
    rw [if_pos hlt] at hL
    refine s_seq ?_
    have c22 := (c2.mono s1).mono g2.same
    have r12 := (r1.mono s1).mono g2.same
    refine s_asg (K := K) (cl := cl) (d := Tariff.d tf) g2.sep (by
      apply ev_dget (k := .inr n) (kes := tfsK E.tfs)
      · walk_at "ev"
      · walk_at "ev"
      · rfl
      · rfl
      · rw [tfsK_val, hn]; rfl) ?_
    intro w5 G3 H3 g3 q5
    refine s_seq ?_
    have r13 := r12.mono g3.same
    refine s_asg (K := K) (cl := cl) (d := optL (priceF tf s.called s.start f s.seconds)) g3.sep (ev_price5 (by walk_at "ea") tok hf hlt (by omega)) ?_
    intro w6 G4 H4 g4 q6
    rw [hL] at q6
    refine s_if (K := K) (cl := cl) (b := L.isNone) g4.sep (by
      (with_reducible apply EvT.is)
      · walk_at "et"
      · exact optL_isNon) ?_ ?_
    · intro G5 H5 g5 hb
      have : L = none := by
        cases L with
        | none => rfl
        | some l => cases hb
      refine s_ret (K := K) (cl := cl) g5.sep (by walk_at "ev") fun v G6 H6 g6 r6 => ?_
      have sA := ((((s1.trans g2.same).trans g3.same).trans g4.same).trans g5.same).trans g6.same
      refine q G6 v sA ?_ sA _ g6.sep
      rw [hq, this]
      exact r6
    · intro G5 H5 g5 hb
      obtain ⟨l, hl⟩ : ∃ l, L = some l := by
        cases L with
        | none => cases hb
        | some l => exact ⟨l, rfl⟩
      refine s_next (kk _ G5 _ _ (((g2.same.trans g3.same).trans g4.same).trans g5.same) g5.sep ⟨_, _, l, hl, rfl, rfl, ?_⟩)
      rw [hl] at q6
      exact Rep.mono g5.same q6
  · intro kk G2 H2 g2 hc
    have hlt : ¬ f < s.seconds := of_decide_eq_false hc
    rw [if_neg hlt] at hL
    exact s_next (kk _ G2 _ _ g2.same g2.sep ⟨_, _, [], hL.symm, rfl, rfl, q4.mono g2.same⟩)
  rintro σ' G2 H2 M2 s3 S2 ⟨w, y5, l, hl, rfl, rfl, rw'⟩
  have hll := hlen l hl
  rw [hl] at hq
  rw [hq] at q
  refine s_seq ?_
  refine s_ifJ (K := K) (cl := cl) (b := decide (0 < f)) (fun σ G' M' => ∃ w y5, σ = [some (.ref x), some v1, some (.str n), some (.int f), some w, y5] ∧ M' = RunM cl x dx us ch lo vc vt va ep kvs cs los M0 ∧ Rep K cl G' w (.lst (List.map l4D (if 0 < f then (("free", 0, f, 0) : L4) :: l else l)))) S2 (by walk_at "et") ?_ ?_ ?_
  · intro kk G3 H3 g3 hc
    have hlt : 0 < f := of_decide_eq_true hc
    have rw3 := rw'.mono g3.same
    refine s_asg (K := K) (cl := cl) (d := .lst (List.map l4D (("free", 0, f, 0) :: l))) g3.sep (by
      (with_reducible apply EvX.is)
      · apply ev_op
        · apply ev_lst (ds := [l4D ("free", 0, f, 0)])
          · walk_at "ea"
          · exact Nat.le_of_ble_eq_true rfl
        · exact ev_var (i := 4) rfl (rw3)
        · apply o_catL
          rw [List.length_map]
          simp only [List.length_cons, List.length_nil]
          omega
      · rfl) ?_
    intro w7 G4 H4 g4 q7
    refine kk _ G4 _ _ (g3.same.trans g4.same) g4.sep ⟨_, _, rfl, rfl, ?_⟩
    rw [if_pos hlt]
    exact q7
  · intro kk G3 H3 g3 hc
    have hlt : ¬ 0 < f := of_decide_eq_false hc
    refine s_next (kk _ G3 _ _ g3.same g3.sep ⟨_, _, rfl, rfl, ?_⟩)
    rw [if_neg hlt]
    exact rw'.mono g3.same
  rintro σ' G3 H3 M3 s4 S3 ⟨w, y5, rfl, rfl, rw'⟩
  refine s_ret (K := K) (cl := cl) S3 (ev_var (i := 4) rfl rw') fun v G4 H4 g4 r4 => ?_
  have sA := ((s1.trans s3).trans s4).trans g4.same
  exact q G4 v sA r4 sA _ g4.sep
section
variable {K : PySem.W.Frag} {cl : Nat → Addr} [Cf K cl] {G : Hp} {M0 M M1 : ML} {σ : St} {x dx us ch lo : Addr} {vc vt va : V} {ep : Nat} {kvs : NKV} {cs los : List V} {E : Env5} {ta : TE} {tx : TA} {p q : Bool}
theorem ev_in_force {h : Hist} {line : Str} {clock : Int} {XX : XK} (he : EvX K cl p ta σ G M (conD h) M) (ha : EvA K cl q tx σ G M [.str line, .int clock] M) : EvX K cl false (tMeth (cl 6) "in_force" (sp_Contracts_in_force K cl) [] XX ta tx) σ G M (optC (inF h line clock)) M :=
  ev_meth he ha rfl ⟨h, line, clock, rfl, rfl⟩
theorem ev_free_left {u : Used} {a : Str} {m : Int} {XX : XK} (he : EvX K cl p ta σ G (RunM cl x dx us ch lo vc vt va ep kvs cs los M0) (.loc x) (RunM cl x dx us ch lo vc vt va ep kvs cs los M0)) (ha : EvA K cl q tx σ G (RunM cl x dx us ch lo vc vt va ep kvs cs los M0) [.str a, .int m] (RunM cl x dx us ch lo vc vt va ep kvs cs los M0))
    (re : RunE K cl G vc vt va E) (ru : NRep K cl G kvs (usedD u)) : EvX K cl false (tMeth (cl 3) "free_left" (sp_ChargeRun_free_left K cl) [] XX ta tx) σ G (RunM cl x dx us ch lo vc vt va ep kvs cs los M0) (.int (leftF E u a m)) (RunM cl x dx us ch lo vc vt va ep kvs cs los M0) := by
  refine ev_methP (K := K) (cl := cl) (M4 := RunM cl x dx us ch lo vc vt va ep kvs cs los M0) he .hd rfl ha (List.Perm.refl _) (List.Perm.refl _) ?_
  intro vs G' T sB rsB hT
  obtain ⟨u1, u2, rfl, h1, h2⟩ := reps2 rsB
  obtain rfl := h1.of_str
  obtain rfl := h2.of_int
  exact ⟨x, dx, us, ch, lo, vc, vt, va, ep, kvs, cs, los, M0, E, u, a, m, rfl, rfl, re.mono sB, ru.mono sB, fun G2 s2 => hT _ G2 s2 Rep.int⟩
def whyD (E : Env5) : Option (Str × Str) → D
  | none => .str "no contract"
  | some x => if (valG E.tfs x.2).isSome then .non else .str "no tariff"
theorem ev_reason {d1 : D} {c : Option (Str × Str)} {XX : XK} (he : EvX K cl p ta σ G (RunM cl x dx us ch lo vc vt va ep kvs cs los M0) (.loc x) (RunM cl x dx us ch lo vc vt va ep kvs cs los M0)) (ha : EvA K cl q tx σ G (RunM cl x dx us ch lo vc vt va ep kvs cs los M0) [d1, optC c] (RunM cl x dx us ch lo vc vt va ep kvs cs los M0))
    (re : RunE K cl G vc vt va E) : EvX K cl false (tMeth (cl 3) "reason_against" (sp_ChargeRun_reason_against K cl) [] XX ta tx) σ G (RunM cl x dx us ch lo vc vt va ep kvs cs los M0) (whyD E c) (RunM cl x dx us ch lo vc vt va ep kvs cs los M0) := by
  refine ev_methP (K := K) (cl := cl) (M4 := RunM cl x dx us ch lo vc vt va ep kvs cs los M0) he .hd rfl ha (List.Perm.refl _) (List.Perm.refl _) ?_
  intro vs G' T sB rsB hT
  obtain ⟨u1, u2, rfl, h1, h2⟩ := reps2 rsB
  exact ⟨x, dx, us, ch, lo, vc, vt, va, ep, kvs, cs, los, M0, E, u1, u2, c, rfl, rfl, re.mono sB, h2, fun G2 v s2 r => hT _ G2 s2 (by unfold whyD; cases c <;> exact r)⟩
theorem ev_lines_of {s : Sect} {n : Str} {tf : Tariff} {f : Int} {XX : XK} (he : EvX K cl p ta σ G (RunM cl x dx us ch lo vc vt va ep kvs cs los M0) (.loc x) (RunM cl x dx us ch lo vc vt va ep kvs cs los M0)) (ha : EvA K cl q tx σ G (RunM cl x dx us ch lo vc vt va ep kvs cs los M0) [Sect.d s, .str n, .int f] (RunM cl x dx us ch lo vc vt va ep kvs cs los M0))
    (re : RunE K cl G vc vt va E) (ok : s.Ok) (hn : valG E.tfs n = some tf) (tok : tf.Ok) (hf : 0 ≤ f) : EvX K cl false (tMeth (cl 3) "lines_of" (sp_ChargeRun_lines_of K cl) [] XX ta tx) σ G (RunM cl x dx us ch lo vc vt va ep kvs cs los M0) (optL (linesF tf s f)) (RunM cl x dx us ch lo vc vt va ep kvs cs los M0) := by
  refine ev_methP (K := K) (cl := cl) (M4 := RunM cl x dx us ch lo vc vt va ep kvs cs los M0) he .hd rfl ha (List.Perm.refl _) (List.Perm.refl _) ?_
  intro vs G' T sB rsB hT
  obtain ⟨u1, u2, u3, rfl, h1, h2, h3⟩ := reps3 rsB
  obtain rfl := h2.of_str
  obtain rfl := h3.of_int
  exact ⟨x, dx, us, ch, lo, vc, vt, va, ep, kvs, cs, los, M0, E, u1, s, n, tf, f, rfl, rfl, re.mono sB, h1, ok, hn, tok, hf, fun G2 v s2 r => hT _ G2 s2 r⟩
end
theorem rd_ChargeRun_take {K : PySem.W.Frag} {cl : Nat → Addr} [Cf K cl] {vs H Q E} (h : sp_ChargeRun_take K cl vs H Q E) : t_ChargeRun_take K cl ⟨fun _ H' => Q .non H', Q, fun _ _ => False, fun _ _ => False⟩ (start ["self", "section", "contract", "reason", "account", "name", "month", "free", "lines", "label", "low", "high", "mills"] vs) H := by
  obtain ⟨G, M, S, x, dx, us, ch, lo, vc, vt, va, ep, kvs, cs, los, M0, E, v1, s, p, st, rfl, rfl, re, eok, r1, ok, hp, rs, fair, l1, l2, l3, q⟩ := h
  have hlc : los.length ≤ 1000 := by rw [rs.l.length, List.length_map]; exact l2
  unfold t_ChargeRun_take
  refine s_seq ?_
  refine s_asg (K := K) (cl := cl) (d := optC (inF E.hist p s.opened)) S (ev_in_force (by have := re.c; walk_at "ev") (by
    (with_reducible apply EvA.is)
    · walk_at "ea"
    · rw [hp]; rfl)) ?_
  intro w2 G1 H1 g1 q2
  have s1 := g1.same
  have S1 := g1.sep
  clear g1
  refine s_seq ?_
  refine s_asg (K := K) (cl := cl) S1 (ev_reason (d1 := Sect.d s) (c := inF E.hist p s.opened) (ev_var (i := 0) rfl Rep.loc) (ea_cons (ev_var (i := 1) rfl (r1.mono s1)) (ea_cons (ev_var (i := 2) rfl q2) ea_nil)) (re.mono s1)) ?_
  intro w3 G2 H2 g2 q3
  have s2 := g2.same
  have S2 := g2.sep
  clear g2
  have sA := s1.trans s2
  have re2 := re.mono sA
  have rs2 := rs.mono sA
  have r12 := r1.mono sA
  have q22 := q2.mono s2
  have hone : oneF E st.used s = (match inF E.hist p s.opened with
    | none => .inl "no contract"
    | some (a, n) => match valG E.tfs n with
      | none => .inl "no tariff"
      | some tf => match linesF tf s (freeF E st.used s a) with
        | none => .inl "no band"
        | some l => .inr (a, freeF E st.used s a, l)) := by unfold oneF; rw [hp]; rfl
  clear re rs r1 q2 S S1
  -- how a reason is told
  have bad : ∀ (r : Str) (G' : Hp) (cs' los' : List V) (v : V), oneF E st.used s = .inl r → Same G2 G' → Rep K cl G' v (.tup [ownD s.owner, .str r]) → RunS K cl G' kvs cs los st → RunS K cl G' kvs cs (los ++ [v]) (takeF E st s) := by
    intro r G' _ _ v h1 s' rv rs'
    unfold takeF
    rw [h1]
    refine ⟨rs'.u, rs'.c, ?_⟩
    rw [List.map_append]
    exact rs'.l.append (Reps.one rv)
  refine s_seq ?_
  cases hc : inF E.hist p s.opened with
  | none =>
    rw [hc] at hone q3
    refine s_if (K := K) (cl := cl) (b := true) S2 (et_test (ev_op (p := true) (q := true) (r := true) (ev_var (i := 3) rfl q3) ev_non o_notN)) ?_ ?_
    · intro G3 H3 g3 _
      have q33 := q3.mono g3.same
      have r13 := r12.mono g3.same
      refine s_seq ?_
      refine s_app (K := K) (cl := cl) (d := .tup [ownD s.owner, .str "no contract"]) g3.sep (by walk_at "ev") (by walk_at "at") (by
        (with_reducible apply EvX.is)
        · walk_at "ev"
        · rfl) (fun v => .tl (.tl (.tl .hd))) (by omega) ?_
      intro v G4 H4 s4 S4 r4
      have sB := (sA.trans g3.same).trans s4
      exact s_retN (q G4 _ _ _ _ sB (bad _ G4 cs los v hone (g3.same.trans s4) r4 (rs2.mono (g3.same.trans s4))) sB _ S4)
    · intro G3 H3 g3 hb
      cases hb
  | some x2 =>
  obtain ⟨a, n⟩ := x2
  rw [hc] at hone q3 q22
  dsimp only at hone
  cases ht : valG E.tfs n with
  | none =>
    rw [ht] at hone
    dsimp only at hone
    have q3' : Rep K cl G2 w3 (.str "no tariff") := by
      unfold whyD at q3
      dsimp only at q3
      rw [ht] at q3
      exact q3
    refine s_if (K := K) (cl := cl) (b := true) S2 (et_test (ev_op (p := true) (q := true) (r := true) (ev_var (i := 3) rfl q3') ev_non o_notN)) ?_ ?_
    · intro G3 H3 g3 _
      have q33 := q3'.mono g3.same
      have r13 := r12.mono g3.same
      refine s_seq ?_
      refine s_app (K := K) (cl := cl) (d := .tup [ownD s.owner, .str "no tariff"]) g3.sep (by walk_at "ev") (by walk_at "at") (ev_tup (ea_cons (by walk_at "ev") (ea_cons (ev_var (i := 3) rfl q33) ea_nil)) (Nat.le_of_ble_eq_true rfl)) (fun v => .tl (.tl (.tl .hd))) (by omega) ?_
      intro v G4 H4 s4 S4 r4
      have sB := (sA.trans g3.same).trans s4
      exact s_retN (q G4 _ _ _ _ sB (bad _ G4 cs los v hone (g3.same.trans s4) r4 (rs2.mono (g3.same.trans s4))) sB _ S4)
    · intro G3 H3 g3 hb
      cases hb
  | some tf =>
  rw [ht] at hone
  dsimp only at hone
  have q3' : Rep K cl G2 w3 .non := by
    unfold whyD at q3
    dsimp only at q3
    rw [ht] at q3
    exact q3
  have tok : tf.Ok := eok.t _ (valG_mem1 ht)
  have hfb := freeF_bounds (E := E) ok.s0 fair a
  obtain ⟨fr, hfr⟩ : ∃ f, freeF E st.used s a = f := ⟨_, rfl⟩
  rw [hfr] at hone hfb
  refine s_if (K := K) (cl := cl) (b := false) S2 (et_test (ev_op (p := true) (q := true) (r := true) (ev_var (i := 3) rfl q3') ev_non o_notN)) ?_ ?_
  · intro G3 H3 g3 hb
    cases hb
  intro G3 H3 g3 _
  refine s_next ?_
  refine s_seq ?_
  refine s_asgT (K := K) (cl := cl) (ds := [.str a, .str n]) g3.sep (ev_var (i := 2) rfl (q22.mono g3.same)) rfl rfl ?_
  intro vs G4 H4 g4 rvs
  obtain ⟨u1, u2, rfl, h1, h2⟩ := reps2 rvs
  obtain rfl := h1.of_str
  obtain rfl := h2.of_str
  have s4 := g3.same.trans g4.same
  have S4 := g4.sep
  clear g3 g4 rvs
  have re4 := re2.mono s4
  have rs4 := rs2.mono s4
  have r14 := r12.mono s4
  have q24 := q22.mono s4
  have q34 := q3'.mono s4
  refine s_seq ?_
  refine s_asg (K := K) (cl := cl) (d := .int (s.opened / 2592000)) S4 (by walk_at "ev") ?_
  intro w6 G5 H5 g5 q6
  obtain ⟨rfl, rfl, -⟩ := g5.eq rfl
  obtain rfl := q6.of_int
  refine s_seq ?_
  refine s_asg (K := K) (cl := cl) (d := .int fr) S4 (by
    (with_reducible apply EvX.is)
    · apply ev_cb
      · apply ea_cons
        · walk_at "ev"
        · apply ea_cons
          · exact ev_free_left (a := a) (m := s.opened / 2592000) (ev_var (i := 0) rfl Rep.loc) (ea_cons (ev_var (i := 4) rfl Rep.str) (ea_cons (ev_var (i := 6) rfl Rep.int) ea_nil)) re4 rs4.u
          · exact ea_nil
      · exact on_min
    · rw [← hfr]; rfl) ?_
  intro w7 G6 H6 g6 q7
  obtain rfl := q7.of_int
  have s6 := g6.same
  have S6 := g6.sep
  clear g6
  refine s_seq ?_
  refine s_asg (K := K) (cl := cl) S6 (ev_lines_of (s := s) (n := n) (tf := tf) (f := fr) (ev_var (i := 0) rfl Rep.loc) (ea_cons (ev_var (i := 1) rfl (r14.mono s6)) (ea_cons (ev_var (i := 5) rfl Rep.str) (ea_cons (ev_var (i := 7) rfl Rep.int) ea_nil))) (re4.mono s6) ok ht tok hfb.1) ?_
  intro w8 G7 H7 g7 q8
  have s7 := s6.trans g7.same
  have S7 := g7.sep
  clear g7
  have rs7 := rs4.mono s7
  have r17 := r14.mono s7
  have sC := (sA.trans s4).trans s7
  refine s_seq ?_
  cases hL : linesF tf s fr with
  | none =>
    rw [hL] at hone q8
    dsimp only at hone
    refine s_if (K := K) (cl := cl) (b := true) S7 (et_test (ev_op (p := true) (q := true) (r := true) (ev_var (i := 8) rfl q8) ev_non o_isN)) ?_ ?_
    · intro G8 H8 g8 _
      have r18 := r17.mono g8.same
      refine s_seq ?_
      refine s_app (K := K) (cl := cl) (d := .tup [ownD s.owner, .str "no band"]) g8.sep (by walk_at "ev") (by walk_at "at") (by
        (with_reducible apply EvX.is)
        · walk_at "ev"
        · rfl) (fun v => .tl (.tl (.tl .hd))) (by omega) ?_
      intro v G9 H9 s9 S9 r9
      have sB := (sC.trans g8.same).trans s9
      exact s_retN (q G9 _ _ _ _ sB (bad _ G9 cs los v hone ((s4.trans s7).trans (g8.same.trans s9)) r9 (rs7.mono (g8.same.trans s9))) sB _ S9)
    · intro G8 H8 g8 hb
      cases hb
  | some L =>
  rw [hL] at hone q8
  dsimp only at hone
  have hLl := linesF_len hfb.1 ok.s1 hL
  refine s_if (K := K) (cl := cl) (b := false) S7 (et_test (ev_op (p := true) (q := true) (r := true) (ev_var (i := 8) rfl q8) ev_non o_isN)) ?_ ?_
  · intro G8 H8 g8 hb
    cases hb
  intro G8 H8 g8 _
  have q88 : Rep K cl G8 w8 (.lst (List.map l4D L)) := q8.mono g8.same
  have rs8 := rs7.mono g8.same
  have r18 := r17.mono g8.same
  refine s_next ?_
  refine s_seq ?_
  refine s_nput (K := K) (cl := cl) (k := ukey a (s.opened / 2592000)) (kds := usedD st.used) (d := .int (uval st.used a (s.opened / 2592000) + fr)) g8.sep (by
    apply ev_op
    · (with_reducible apply EvX.is)
      · apply ev_nget2 (k := ukey a (s.opened / 2592000)) (kds := usedD st.used)
        · walk_at "ev"
        · walk_at "ev"
        · walk_at "ev"
        · rfl
        · exact isNK_ukey
        · walk_at "at"
        · walk_at "at"
        · exact rs8.u
      · exact usedD_val
    · walk_at "ev"
    · exact o_add_int) (by walk_at "ev") (ev_tup (ea_cons (ev_var (i := 4) rfl Rep.str) (ea_cons (ev_var (i := 6) rfl Rep.int) ea_nil)) (Nat.le_of_ble_eq_true rfl)) rfl isNK_ukey rs8.u (by unfold usedD; rw [List.length_map]; omega) (fun ep' b v => .tl .hd) ?_
  intro ep' b v G9 H9 s9 S9 r9
  rw [usedD_put] at r9
  have s89 := g8.same.trans s9
  have q89 := q88.mono s9
  have r19 := r18.mono s9
  have rc9 := rs8.c.mono s9
  have rl9 := rs8.l.mono s9
  have hcl : cs.length ≤ 5000000 := by rw [rc9.length, List.length_map]; exact l1
  apply s_forL (K := K) (cl := cl) (ds := List.map l4D L) (fun i σ G' M' => ∃ cs' y9 y10 y11 y12, σ = [some (.ref x), some v1, some w2, some w3, some (.str a), some (.str n), some (.int (s.opened / 2592000)), some (.int fr), some w8, y9, y10, y11, y12] ∧
    M' = RunM cl x dx us ch lo vc vt va ep' (putN kvs (ukey a (s.opened / 2592000)) b v) cs' los M0 ∧ Reps K cl G' cs' (List.map chgD (st.charges ++ (L.take i).map (mkChg s.owner a)))) S9
  · exact ev_var (i := 8) rfl q89
  · intro Ga Ha ga
    obtain ⟨rfl, rfl, -⟩ := ga.eq rfl
    refine ⟨cs, _, _, _, _, rfl, rfl, ?_⟩
    rw [List.take_zero, List.map_nil, List.append_nil]
    exact rc9
  · rintro Ga sa i y d σ' Gb Hb Mb hd sb Sb rb ⟨cs', y9, y10, y11, y12, rfl, rfl, rc'⟩
    rw [List.getElem?_map] at hd
    cases hx : L[i]? with
    | none => rw [hx] at hd; cases hd
    | some z =>
    rw [hx] at hd
    cases hd
    have hcl' : cs'.length ≤ 5100000 := by
      rw [rc'.length, List.length_map, List.length_append, List.length_map, List.length_take]
      omega
    refine g_tup Sb rb rfl rfl fun xs rxs => ?_
    obtain ⟨x1, x2, x3, x4, rfl, p1, p2, p3, p4⟩ := reps4 rxs
    obtain rfl := p1.of_str
    obtain rfl := p2.of_int
    obtain rfl := p3.of_int
    obtain rfl := p4.of_int
    have r1b := (r19.mono sa).mono sb
    refine s_app (K := K) (cl := cl) (d := chgD (mkChg s.owner a z)) Sb (by walk_at "ev") (by walk_at "at") (by
      apply ev_make (es := [ckeyD (s.owner, z.2.1, z.1), .str a, .int z.2.2.1, .int z.2.2.2])
      · walk_at "ea"
      · exact ⟨rfl, rfl⟩) (fun v => .tl (.tl .hd)) (by omega) ?_
    intro v' Gc Hc sc Sc rc
    refine ⟨Gc, _, sb.trans sc, Sc, cs' ++ [v'], _, _, _, _, rfl, rfl, ?_⟩
    have e : st.charges ++ (L.take (i + 1)).map (mkChg s.owner a) = (st.charges ++ (L.take i).map (mkChg s.owner a)) ++ [mkChg s.owner a z] := by
      rw [List.take_add_one, hx, List.map_append, List.append_assoc]
      rfl
    rw [e, List.map_append]
    exact (rc'.mono sc).append (Reps.one rc)
  rintro σ' Gb Hb Mb sb Sb ⟨cs', y9, y10, y11, y12, rfl, rfl, rc'⟩
  rw [List.length_map, List.take_length] at rc'
  have sD := ((sC.trans s89).trans sb)
  refine q Gb ep' _ cs' los sD ?_ sD _ Sb
  unfold takeF
  rw [hone]
  exact ⟨r9.mono sb, rc', rl9.mono sb⟩
theorem place_sorts {l : List Sect} : Sorts (l.map fun s => (placeD s).pyd) := by
  refine ⟨fun d hd d' hd' => ?_, .inl fun d hd => ?_, fun d hd => ?_⟩
  · obtain ⟨a, _, rfl⟩ := List.mem_map.mp hd
    obtain ⟨b, _, rfl⟩ := List.mem_map.mp hd'
    simp [placeD, ownD, D.pyd, D.pyds, PySem.W.alike, PySem.W.alikeAll]
  · obtain ⟨a, _, rfl⟩ := List.mem_map.mp hd
    exact ⟨(D.int a.opened).pyd, D.pyds [ownD a.owner], by simp only [placeD, D.pyd, D.pyds]⟩
  · obtain ⟨a, _, rfl⟩ := List.mem_map.mp hd
    simp [placeD, ownD, D.pyd, D.pyds, PyData.depth, PyData.depthAll]
theorem place_dat {l : List Sect} : D.areDat (l.map placeD) = true := D.areDat_mem fun d hd => by
  obtain ⟨a, _, rfl⟩ := List.mem_map.mp hd
  rfl
theorem foldl_take {α β : Type} {f : β → α → β} {z : β} {l : List α} {i : Nat} {x : α} (h : l[i]? = some x) : (l.take (i + 1)).foldl f z = f ((l.take i).foldl f z) x := by
  rw [List.take_add_one, h, List.foldl_append]
  rfl
theorem rep_pair {K : PySem.W.Frag} {cl : Nat → Addr} {G G' : Hp} {v : V} {a b : Addr} {x y : D} (h : Rep K cl G v (.tup [.loc a, .loc b])) (s : Same G G') (ha : Rep K cl G' (.ref a) x) (hb : Rep K cl G' (.ref b) y) : Rep K cl G' v (.tup [x, y]) := by
  obtain ⟨p, vs, rfl, sq, rs⟩ := h.of_tup
  obtain ⟨u1, u2, rfl, h1, h2⟩ := reps2 rs
  obtain rfl := h1.of_loc
  obtain rfl := h2.of_loc
  exact Rep.tup (Same.seqT s sq) (Reps.cons ha (Reps.one hb))
theorem perm_chlo {α : Type} {a b c d : α} {M : List α} : (a :: b :: c :: d :: M).Perm (c :: d :: a :: b :: M) := (List.perm_append_comm (l₁ := [a, b]) (l₂ := [c, d])).append_right M
theorem rd_charge_sections {K : PySem.W.Frag} {cl : Nat → Addr} [Cf K cl] {vs H Q E} (h : sp_charge_sections K cl vs H Q E) : t_charge_sections K cl ⟨fun _ H' => Q .non H', Q, fun _ _ => False, fun _ _ => False⟩ (start ["sections", "contracts", "tariffs", "allowances", "run", "section"] vs) H := by
  obtain ⟨ds, d, G, M, ⟨l, E, rfl, eok, hok, hl, rfl⟩, S, rs, q⟩ := h
  obtain ⟨v0, v1, v2, v3, rfl, r0, r1, r2, r3⟩ := reps4 rs
  clear rs
  unfold t_charge_sections
  refine s_seq ?_
  refine s_asgG S (eg_makeG (K := K) (cl := cl) (F := fun v G' M' => ∃ x dx us ch lo w1 w2 w3, v = .ref x ∧ M' = RunM cl x dx us ch lo w1 w2 w3 0 [] [] [] M ∧ RunE K cl G' w1 w2 w3 E) (ea_cons (ev_var (i := 1) rfl r1) (ea_cons (ev_var (i := 2) rfl r2) (ea_cons (ev_var (i := 3) rfl r3) ea_nil))) ?_) ?_
  · intro x dx vs G' T s1 rs hT
    obtain ⟨u1, u2, u3, rfl, h1, h2, h3⟩ := reps3 rs
    exact ⟨x, dx, M, u1, u2, u3, E, rfl, rfl, ⟨h1, h2, h3⟩, fun G2 us ch lo w1 w2 w3 s2 re => hT G2 _ s2 ⟨x, dx, us, ch, lo, w1, w2, w3, rfl, rfl, re⟩⟩
  rintro _ G1 H1 _ s1 S1 ⟨x, dx, us, ch, lo, w1, w2, w3, rfl, rfl, re⟩
  refine s_seq ?_
  have hil : (inOrder l).length ≤ 200 := by rw [inOrder_len]; exact hl
  apply s_forL (K := K) (cl := cl) (ds := (inOrder l).map Sect.d) (fun i σ G' M' => ∃ ep kvs cs los st y5, σ = [some v0, some v1, some v2, some v3, some (.ref x), y5] ∧ M' = RunM cl x dx us ch lo w1 w2 w3 ep kvs cs los M ∧ RunS K cl G' kvs cs los st ∧
    st = ((inOrder l).take i).foldl (stepF E) ⟨[], [], []⟩ ∧ Fair E st.used ∧ st.charges.length ≤ i * 20002 ∧ st.left.length ≤ i ∧ st.used.length ≤ i) S1
  · exact ev_keyed (l := l) (enc := Sect.d) (key := placeD) (ev_var (i := 0) rfl (r0.mono s1)) rfl (fun b _ => ⟨b, rfl, rfl⟩) place_dat place_sorts
  · intro G2 H2 g2
    refine ⟨0, [], [], [], ⟨[], [], []⟩, _, rfl, rfl, ⟨.nil, Reps.nil, Reps.nil⟩, rfl, fun a m => ⟨Int.le_refl _, alwF_pos eok a⟩, Nat.zero_le _, Nat.zero_le _, Nat.zero_le _⟩
  · rintro G2 s2 i y d σ' G3 H3 M3 hd s3 S3 r4 ⟨ep, kvs, cs, los, st, y5, rfl, rfl, rS, hst, fair, l1, l2, l3⟩
    rw [List.getElem?_map] at hd
    cases hx : (inOrder l)[i]? with
    | none => rw [hx] at hd; cases hd
    | some s =>
    rw [hx] at hd
    cases hd
    have hi : i < 200 := Nat.lt_of_lt_of_le (List.getElem?_eq_some_iff.mp hx).1 hil
    have sok := hok s (inOrder_mem.mp (List.mem_of_getElem? hx))
    have re3 := (re.mono s2).mono s3
    have hstep : stepF E st s = ((inOrder l).take (i + 1)).foldl (stepF E) ⟨[], [], []⟩ := by rw [foldl_take hx, ← hst]
    have hlen := stepF_len sok fair
    have hfair := fair.step (s := s) sok.s0
    refine s_gname ?_
    refine s_if (K := K) (cl := cl) (b := !s.free) S3 (et_not (et_tr (d := .bl s.free) (ev_meth (ds := []) (ev_var (i := 5) rfl r4) ea_nil (by decide +kernel) ⟨s, rfl, rfl⟩) rfl)) ?_ ?_
    · intro G4 H4 g4 hb
      have hfree : s.free = false := by simpa using hb
      obtain ⟨p, hp⟩ : ∃ p, s.payer = some p := by
        unfold Sect.free at hfree
        cases hp : s.payer with
        | none => rw [hp] at hfree; cases hfree
        | some p => exact ⟨p, rfl⟩
      have hstep2 : stepF E st s = takeF E st s := by unfold stepF; rw [hfree]; rfl
      refine s_dropG g4.sep (eg_methP (K := K) (cl := cl) (x := x) (F := fun v G' M' => ∃ ep kvs cs los, M' = RunM cl x dx us ch lo w1 w2 w3 ep kvs cs los M ∧ RunS K cl G' kvs cs los (takeF E st s)) (ev_var (i := 4) rfl Rep.loc) .hd rfl (ea_cons (ev_var (i := 5) rfl (r4.mono g4.same)) ea_nil) (List.Perm.refl _) ?_) ?_
      · intro vs G' T sB rsB hT
        obtain ⟨u1, rfl, h1⟩ := reps1 rsB
        exact ⟨x, dx, us, ch, lo, w1, w2, w3, ep, kvs, cs, los, M, E, u1, s, p, st, rfl, rfl, (re3.mono g4.same).mono sB, eok, h1, sok, hp, (rS.mono g4.same).mono sB, fair, by omega, by omega, by omega, fun G2 ep' kvs' cs' los' s' r' => hT _ G2 _ s' ⟨ep', kvs', cs', los', rfl, r'⟩⟩
      · rintro v G5 H5 _ s5 S5 ⟨ep', kvs', cs', los', rfl, rS'⟩
        rw [← hstep2] at rS'
        refine ⟨G5, _, (s3.trans g4.same).trans s5, S5, ep', kvs', cs', los', stepF E st s, _, rfl, rfl, rS', hstep, hfair, by omega, by omega, by omega⟩
    · intro G4 H4 g4 hb
      have hfree : s.free = true := by simpa using hb
      have hstep2 : stepF E st s = st := by unfold stepF; rw [hfree]; rfl
      rw [hstep2] at hstep
      exact s_next ⟨G4, _, s3.trans g4.same, g4.sep, ep, kvs, cs, los, st, _, rfl, rfl, rS.mono g4.same, hstep, fair, by omega, by omega, by omega⟩
  rintro σ' G3 H3 M3 s3 S3 ⟨ep, kvs, cs, los, st, y5, rfl, rfl, rS, hst, fair, l1, l2, l3⟩
  have hst' : st = chargeF E l := by
    rw [List.length_map, List.take_length] at hst
    exact hst
  rw [← hst'] at q
  refine s_ret (K := K) (cl := cl) (d := .tup [.loc ch, .loc lo]) S3 (ev_tup (by walk_at "ea") (Nat.le_of_ble_eq_true rfl)) fun v G4 H4 g4 r4 => ?_
  have rS4 := rS.mono g4.same
  obtain ⟨G5, s5, S5, r5⟩ := (g4.sep.perm perm_chlo).lst rS4.c
  obtain ⟨G6, s6, S6, r6⟩ := S5.lst (rS4.l.mono s5)
  exact q v G6 H4 ((s1.trans s3).trans (g4.same.trans (s5.trans s6))) S6.drop.drop (rep_pair r4 (s5.trans s6) (r5.mono s6) r6)
theorem cut_perm {L : List D} {n : Nat} (h : n < L.length) : (L[n] :: (L.take n ++ L.drop (n + 1))).Perm L := by
  have e : L.take n ++ L[n] :: L.drop (n + 1) = L := by rw [← List.drop_eq_getElem_cons h, List.take_append_drop]
  exact (List.perm_middle.symm).trans (List.Perm.of_eq e)
theorem rd_law_shuffled {K : PySem.W.Frag} {cl : Nat → Addr} [Cf K cl] {vs H Q E} (h : sp_law_shuffled K cl vs H Q E) : t_law_shuffled K cl ⟨fun _ H' => Q .non H', Q, fun _ _ => False, fun _ _ => False⟩ (start ["script", "things", "left", "found", "k", "state", "place"] vs) H := by
  obtain ⟨G, M, S, v0, v1, ns, ds, rfl, r0, r1, hl, q⟩ := h
  unfold t_law_shuffled
  refine s_seq ?_
  refine s_asg (K := K) (cl := cl) S (ev_cb (p := true) (ea_cons (p := true) (ev_var (i := 1) rfl r1) ea_nil) on_listL) ?_
  intro w2 G1 H1 g1 q2
  have s1 := g1.same
  have S1 := g1.sep
  clear g1
  have r01 := r0.mono s1
  have r11 := r1.mono s1
  refine s_seq ?_
  refine s_asgG S1 eg_nil ?_
  rintro _ G2 H2 _ s2 S2 ⟨f, rfl, rfl⟩
  refine s_seq ?_
  apply s_forR1 (K := K) (cl := cl) (n := (ds.length : Int)) (fun i σ G' M' => ∃ w L F us y4 y5 y6, σ = [some v0, some v1, some w, some (.ref f), y4, y5, y6] ∧ M' = (f, .lst us) :: M ∧ Rep K cl G' w (.lst L) ∧ Reps K cl G' us F ∧ (F ++ L).Perm ds ∧ L.length + i = ds.length) S2
  · have r12 := r11.mono s2
    walk_at "ea"
  · omega
  · intro G3 H3 g3
    exact ⟨w2, ds, [], [], _, _, _, rfl, rfl, (q2.mono s2).mono g3.same, Reps.nil, List.Perm.refl _, rfl⟩
  · rintro G3 s3 i σ' G4 H4 M4 hi s4 S4 ⟨w, L, F, us, y4, y5, y6, rfl, rfl, rw', ru, hp, hll⟩
    have r04 := ((r01.mono s2).mono s3).mono s4
    have hL0 : 0 < L.length := by omega
    have hul : us.length ≤ 10000 := by
      have := hp.length_eq
      rw [List.length_append] at this
      rw [ru.length]
      omega
    refine s_gname ?_
    refine s_seq ?_
    refine s_asgG S4 (eg_state (K := K) (cl := cl) (by walk_at "ea")) ?_
    rintro _ G5 H5 _ s5 S5 ⟨p, z, rfl, rfl⟩
    have rw5 := rw'.mono s5
    refine s_seq ?_
    refine s_asg (K := K) (cl := cl) (d := .int (z % (L.length : Int))) (M1 := (p, .lst [.int (z / (L.length : Int))]) :: (f, .lst us) :: M) S5 (ev_digit (p := true) (ea_cons (p := true) (ev_var (i := 5) rfl Rep.loc) (ea_cons (p := true) (ev_cb (p := true) (q := true) (ea_cons (p := true) (ev_var (i := 2) rfl rw5) ea_nil) on_lenL) ea_nil)) .hd (by omega) (by omega)) ?_
    intro w6 G6 H6 g6 q6
    have s6 := g6.same
    have S6 := g6.sep
    clear g6
    obtain rfl := q6.of_int
    obtain ⟨n, hn⟩ : ∃ n : Nat, z % (L.length : Int) = (n : Int) := ⟨(z % (L.length : Int)).toNat, by have := Int.emod_nonneg z (b := (L.length : Int)) (by omega); omega⟩
    have hnl : n < L.length := by
      have := Int.emod_lt_of_pos z (b := (L.length : Int)) (by omega)
      omega
    rw [hn] at q6 ⊢
    have rw6 := rw5.mono s6
    have hx : atI L (n : Int) = some L[n] := atI_nat (by simp [hnl])
    refine s_seq ?_
    refine s_app (K := K) (cl := cl) (d := L[n]) S6 (by walk_at "ev") (by walk_at "at") (ev_op (p := true) (q := true) (r := true) (ev_var (i := 2) rfl rw6) (ev_var (i := 6) rfl Rep.int) (o_ixL hx)) (fun v => .tl .hd) (by omega) ?_
    intro v G7 H7 s7 S7 r7
    have rw7 := rw6.mono s7
    refine s_asg (K := K) (cl := cl) (d := .lst (L.take n ++ L.drop (n + 1))) S7 (by
      (with_reducible apply EvX.is)
      · apply ev_op
        · apply ev_slL
          · exact ev_var (i := 2) rfl rw7
          · exact eo_none
          · exact eo_some (ev_var (i := 6) rfl Rep.int)
        · apply ev_slL
          · exact ev_var (i := 2) rfl (rw7)
          · exact eo_some (ev_op (p := true) (q := true) (r := true) (ev_var (i := 6) rfl Rep.int) (ev_int (i := 1)) o_add_int)
          · exact eo_none
        · apply o_catL
          have e1 : (n : Int) + 1 = ((n + 1 : Nat) : Int) := by omega
          rw [e1, cut_take, cut_drop, List.length_take, List.length_drop]
          omega
      · have e1 : (n : Int) + 1 = ((n + 1 : Nat) : Int) := by omega
        rw [e1, cut_take, cut_drop]) ?_
    intro w8 G8 H8 g8 q8
    refine ⟨G8, _, s4.trans (s5.trans (s6.trans (s7.trans g8.same))), g8.sep.drop, w8, L.take n ++ L.drop (n + 1), F ++ [L[n]], us ++ [v], _, _, _, rfl, rfl, q8, ((ru.mono (s5.trans (s6.trans s7))).append (Reps.one r7)).mono g8.same, ?_, ?_⟩
    · rw [List.append_assoc]
      exact ((cut_perm hnl).append_left F).trans hp
    · rw [List.length_append, List.length_take, List.length_drop]
      omega
  rintro σ' G4 H4 M4 s4 S4 ⟨w, L, F, us, y4, y5, y6, rfl, rfl, rw', ru, hp, hll⟩
  have hL : L = [] := List.length_eq_zero_iff.mp (by omega)
  subst hL
  rw [List.append_nil] at hp
  refine s_retF S4 rfl ru fun G5 s5 S5 r5 => ?_
  have sA := s1.trans (s2.trans (s4.trans s5))
  exact q G5 _ F sA hp r5 sA _ S5
theorem rd_law_lines {K : PySem.W.Frag} {cl : Nat → Addr} [Cf K cl] {vs H Q E} (h : sp_law_lines K cl vs H Q E) : t_law_lines K cl ⟨fun _ H' => Q .non H', Q, fun _ _ => False, fun _ _ => False⟩ (start [] vs) H := by
  obtain ⟨ds, d, G, M, ⟨rfl, rfl⟩, S, rs, q⟩ := h
  simp only [Reps] at rs
  subst rs
  unfold t_law_lines
  exact s_ret (K := K) (cl := cl) S (ev_lst (by walk_at "ea") (Nat.le_of_ble_eq_true rfl)) fun v G1 H1 g r => q v G1 H1 g.same g.sep r
theorem pickD {P : D → Prop} {ds : List D} {n : Nat} (h : ∀ d ∈ ds, P d) (hn : n < ds.length) : P (ds.getD n .non) := by
  have e : ds.getD n .non = ds[n] := by simp [List.getD, hn]
  rw [e]
  exact h _ (List.getElem_mem hn)
theorem rd_law_history {K : PySem.W.Frag} {cl : Nat → Addr} [Cf K cl] {vs H Q E} (h : sp_law_history K cl vs H Q E) : t_law_history K cl ⟨fun _ H' => Q .non H', Q, fun _ _ => False, fun _ _ => False⟩ (start ["state", "rows", "clock", "k", "account"] vs) H := by
  obtain ⟨G, M, S, a, s, M0, rfl, rfl, q⟩ := h
  unfold t_law_history
  refine s_seq ?_
  refine s_asgG S eg_nil ?_
  rintro _ G1 H1 _ s1 S1 ⟨p, rfl, rfl⟩
  refine s_seq ?_
  refine s_asg (K := K) (cl := cl) S1 (by walk_at "ev") ?_
  intro w2 G2 H2 g2 q2
  obtain ⟨rfl, rfl, -⟩ := g2.eq rfl
  obtain rfl := q2.of_int
  refine s_seq ?_
  apply s_forR1 (K := K) (cl := cl) (fun i σ G' M' => ∃ z us rows c y3 y4, σ = [some (.ref a), some (.ref p), some (.int c), y3, y4] ∧ M' = (p, .lst us) :: (a, .lst [.int z]) :: M0 ∧ Reps K cl G' us (List.map rowD rows) ∧ rows.length = i ∧ Asc rows ∧ (∀ r ∈ rows, RowOk r ∧ r.1 < c)) S1
  · walk_at "ea"
  · omega
  · intro G3 H3 g3
    exact ⟨_, [], [], 0, _, _, rfl, rfl, Reps.nil, rfl, (fun i r r' h => by simp at h), fun r hr => nomatch hr⟩
  · rintro G3 s3 i σ' G4 H4 M4 hi s4 S4 ⟨z, us, rows, c, y3, y4, rfl, rfl, ru, hrl, hasc, hok⟩
    have hul : us.length ≤ 10 := by rw [ru.length, List.length_map]; omega
    refine s_gname ?_
    refine s_seq ?_
    obtain ⟨o, ho, hok2⟩ : ∃ o, [D.str "ann", D.str "firm", D.non, D.str "ann"].getD (z % 4).toNat .non = optS o ∧ okA o := by
      refine pickD (P := fun d => ∃ o, d = optS o ∧ okA o) (fun d hd => ?_) (by show _ < 4; omega)
      simp only [List.mem_cons, List.not_mem_nil, or_false] at hd
      rcases hd with rfl | rfl | rfl | rfl
      · exact ⟨some "ann", rfl, .inr (.inl rfl)⟩
      · exact ⟨some "firm", rfl, .inr (.inr rfl)⟩
      · exact ⟨none, rfl, .inl rfl⟩
      · exact ⟨some "ann", rfl, .inr (.inl rfl)⟩
    refine s_asg (K := K) (cl := cl) (d := optS o) S4 (EvX.is (by walk_at "ev") ho) ?_
    intro w4 G5 H5 g5 q4
    have s5 := g5.same
    have S5 := g5.sep
    clear g5
    generalize z / 4 = z1 at S5
    refine s_seq ?_
    obtain ⟨n, hn, hn2⟩ : ∃ n, [D.str "std", D.str "eve", D.str "std", D.str "lost"].getD (z1 % 4).toNat .non = .str n ∧ (n = "std" ∨ n = "eve" ∨ n = "lost") := by
      refine pickD (P := fun d => ∃ n, d = .str n ∧ (n = "std" ∨ n = "eve" ∨ n = "lost")) (fun d hd => ?_) (by show _ < 4; omega)
      simp only [List.mem_cons, List.not_mem_nil, or_false] at hd
      rcases hd with rfl | rfl | rfl | rfl
      · exact ⟨_, rfl, .inl rfl⟩
      · exact ⟨_, rfl, .inr (.inl rfl)⟩
      · exact ⟨_, rfl, .inl rfl⟩
      · exact ⟨_, rfl, .inr (.inr rfl)⟩
    refine s_app (K := K) (cl := cl) (d := rowD (c, o, n)) S5 (by walk_at "ev") (by walk_at "at") (ev_tup (ea_cons (by walk_at "ev") (ea_cons (ev_var (i := 4) rfl q4) (ea_cons (EvX.is (by walk_at "ev") hn) ea_nil))) (Nat.le_of_ble_eq_true rfl)) (fun v => .hd) (by omega) ?_
    intro v G6 H6 s6 S6 r6
    generalize z1 / 4 = z2 at S6
    refine s_asg (K := K) (cl := cl) S6 (by walk_at "ev") ?_
    intro w7 G7 H7 g7 q7
    obtain rfl := q7.of_int
    refine ⟨G7, _, s4.trans (s5.trans (s6.trans g7.same)), g7.sep, _, us ++ [v], rows ++ [(c, o, n)], _, _, _, rfl, rfl, ?_, ?_, ?_, ?_⟩
    · rw [List.map_append]
      exact ((ru.mono (s5.trans s6)).append (Reps.one r6)).mono g7.same
    · rw [List.length_append, hrl]
      rfl
    · intro j r r' h1 h2
      by_cases hj : j + 1 < rows.length
      · rw [List.getElem?_append_left (by omega)] at h1
        rw [List.getElem?_append_left hj] at h2
        exact hasc j r r' h1 h2
      · have hj2 : j + 1 = rows.length := by
          have := (List.getElem?_eq_some_iff.mp h2).1
          rw [List.length_append, List.length_singleton] at this
          omega
        rw [List.getElem?_append_left (by omega)] at h1
        rw [hj2, List.getElem?_append_right (Nat.le_refl _), Nat.sub_self] at h2
        obtain rfl : (c, o, n) = r' := by simpa using h2
        exact (hok r (List.mem_of_getElem? h1)).2
    · intro r hr
      rcases List.mem_append.mp hr with h | h
      · have := (hok r h)
        refine ⟨this.1, ?_⟩
        have := this.2
        have h0 := Int.emod_nonneg z2 (b := 40) (by decide)
        omega
      · rw [List.mem_singleton] at h
        subst h
        refine ⟨⟨hok2, hn2⟩, ?_⟩
        have h0 := Int.emod_nonneg z2 (b := 40) (by decide)
        show c < c + 1 + 100000 * (z2 % 40)
        omega
  rintro σ' G4 H4 M4 s4 S4 ⟨z, us, rows, c, y3, y4, rfl, rfl, ru, hrl, hasc, hok⟩
  refine s_retF S4 rfl ru fun G5 s5 S5 r5 => ?_
  have sA := s1.trans (s4.trans s5)
  exact q _ rows z G5 sA hasc (by omega) (fun r hr => (hok r hr).1) r5 sA _ S5
theorem okS_num2 {n : Int} (h0 : 0 ≤ n) (h1 : n < 10000000000) (x : Str) (hx : x.length ≤ 10) : (x ++ Str.ofString (toString n)).length ≤ 1000 := app_len hx (num_len h0 h1) (by decide)
theorem rd_law_section {K : PySem.W.Frag} {cl : Nat → Addr} [Cf K cl] {vs H Q E} (h : sp_law_section K cl vs H Q E) : t_law_section K cl ⟨fun _ H' => Q .non H', Q, fun _ _ => False, fun _ _ => False⟩ (start ["state", "k", "payer", "opened", "start", "seconds"] vs) H := by
  obtain ⟨G, M, S, a, s, k, M0, rfl, rfl, hk, q⟩ := h
  unfold t_law_section
  refine s_seq ?_
  obtain ⟨o, ho, hok⟩ : ∃ o, [D.str "41", D.str "42", D.str "43", D.str "71", D.non, D.str "49"].getD (s % 6).toNat .non = optS o ∧ ∀ p, o = some p → okS p = true ∧ p.length ≤ 10 := by
    refine pickD (P := fun d => ∃ o, d = optS o ∧ ∀ p, o = some p → okS p = true ∧ p.length ≤ 10) (fun d hd => ?_) (by show _ < 6; omega)
    simp only [List.mem_cons, List.not_mem_nil, or_false] at hd
    have mk : ∀ x : Str, okS x = true ∧ x.length ≤ 10 → ∃ o, D.str x = optS o ∧ ∀ p, o = some p → okS p = true ∧ p.length ≤ 10 := fun x hx => ⟨some x, rfl, fun p e => by cases e; exact hx⟩
    rcases hd with rfl | rfl | rfl | rfl | rfl | rfl
    · exact mk _ (by decide +kernel)
    · exact mk _ (by decide +kernel)
    · exact mk _ (by decide +kernel)
    · exact mk _ (by decide +kernel)
    · exact ⟨none, rfl, fun p e => by cases e⟩
    · exact mk _ (by decide +kernel)
  refine s_asg (K := K) (cl := cl) (d := optS o) S (EvX.is (by walk_at "ev") ho) ?_
  intro w2 G2 H2 g2 q2
  have s2 := g2.same
  have S2 := g2.sep
  clear g2
  generalize s / 6 = z1 at S2
  refine s_seq ?_
  refine s_asg (K := K) (cl := cl) S2 (by walk_at "ev") ?_
  intro w3 G3 H3 g3 q3
  have s3 := g3.same
  have S3 := g3.sep
  clear g3
  obtain ⟨op, rfl, ho0, ho1⟩ : ∃ x, w3 = .int x ∧ 3000000 ≤ x ∧ x ≤ 6000000 := ⟨_, q3.of_int, by have := Int.emod_nonneg z1 (b := 30) (by decide); omega, by have := Int.emod_lt_of_pos z1 (b := 30) (by decide); omega⟩
  replace q3 : Rep K cl G3 (.int op) (.int op) := Rep.int
  generalize z1 / 30 = z2 at S3
  refine s_seq ?_
  refine s_asg (K := K) (cl := cl) S3 (by walk_at "ev") ?_
  intro w4 G4 H4 g4 q4
  have s4 := g4.same
  have S4 := g4.sep
  clear g4
  obtain ⟨sta, rfl⟩ : ∃ x, w4 = .int x := ⟨_, q4.of_int⟩
  replace q4 : Rep K cl G4 (.int sta) (.int sta) := Rep.int
  generalize z2 / 48 / 90 = z3 at S4
  refine s_seq ?_
  obtain ⟨sec, hsec, hs0, hs1⟩ : ∃ x, [D.int 0, D.int 1, D.int 60, D.int 61, D.int (z3 % 400)].getD (z3 / 400 % 5).toNat .non = .int x ∧ 0 ≤ x ∧ x ≤ 400 := by
    refine pickD (P := fun d => ∃ x, d = .int x ∧ 0 ≤ x ∧ x ≤ 400) (fun d hd => ?_) (by show _ < 5; omega)
    simp only [List.mem_cons, List.not_mem_nil, or_false] at hd
    rcases hd with rfl | rfl | rfl | rfl | rfl <;> exact ⟨_, rfl, by omega, by omega⟩
  refine s_asg (K := K) (cl := cl) (d := .int sec) S4 (EvX.is (by walk_at "ev") hsec) ?_
  intro w5 G5 H5 g5 q5
  have s5 := g5.same
  have S5 := g5.sep
  clear g5
  obtain rfl := q5.of_int
  generalize z3 / 400 / 5 = z4 at S5
  refine s_seq ?_
  refine s_ifJ (K := K) (cl := cl) (b := decide (8 < (k : Int)) && decide ((k : Int) < 13)) (fun σ G' M' => ∃ x, σ = [some (.ref a), some (.int (k : Int)), some w2, some (.int op), some (.int sta), some (.int x)] ∧ M' = (a, .lst [.int z4]) :: M0 ∧ 0 ≤ x ∧ x ≤ 20000) S5 (et_test (ev_chain ev_int (ev_var (i := 1) rfl Rep.int) ev_int o_lt o_lt)) ?_ ?_ ?_
  · intro kk G6 H6 g6 _
    refine s_asg (K := K) (cl := cl) g6.sep (by walk_at "ev") ?_
    intro w6 G7 H7 g7 q7
    obtain rfl := q7.of_int
    exact kk _ G7 _ _ (g6.same.trans g7.same) g7.sep ⟨_, rfl, rfl, by omega, by omega⟩
  · intro kk G6 H6 g6 _
    exact s_next (kk _ G6 _ _ g6.same g6.sep ⟨_, rfl, rfl, hs0, by omega⟩)
  rintro σ' G6 H6 M6 s6 S6 ⟨x, rfl, rfl, hx0, hx1⟩
  have q26 : Rep K cl G6 w2 (optS o) := q2.mono (s3.trans (s4.trans (s5.trans s6)))
  have sP := s2.trans (s3.trans (s4.trans (s5.trans s6)))
  refine s_retG S6 (F := fun v G' M' => ∃ (z : Sect) (s' : Int), LawS k z ∧ Rep K cl G' v (Sect.d z) ∧ M' = (a, .lst [.int s']) :: M0) (eg_imakeAG (K := K) (cl := cl) (R := fun ds es => ds.length = 6 ∧ es = ds) (Fa := fun vs G' M' => ∃ (o1 : Int) (c : Str) (s' : Int), Reps K cl G' vs [ownD (o1, 1, (k : Int)), optS o, .str c, .int op, .int sta, .int x] ∧ c.length ≤ 1000 ∧ M' = (a, .lst [.int s']) :: M0) ?_ ?_) ?_
  · refine ag_consX (K := K) (cl := cl) (d := ownD (z4 % 4, 1, (k : Int))) (M1 := (a, .lst [.int (z4 / 4)]) :: M0) (ev_tup (ea_cons (ev_digit (p := true) (ea_cons (p := true) (ev_var (i := 0) rfl Rep.loc) (ea_cons (p := true) ev_int ea_nil)) .hd (by decide) (by decide)) (ea_cons ev_int (ea_cons (ev_var (i := 1) rfl Rep.int) ea_nil))) (Nat.le_of_ble_eq_true rfl)) ?_
    intro v1 G7 s7 r1
    refine ag_consX (K := K) (cl := cl) (ev_var (i := 2) rfl (q26.mono s7)) ?_
    intro v2 G8 s8 r2
    refine ag_cons (eg_called (K := K) (cl := cl) (p := true) (M2 := fun z => (a, .lst [.int z]) :: M0) (ea_cons (p := true) (ev_var (i := 0) rfl Rep.loc) ea_nil) (fun z => .hd)) ?_
    rintro _ G9 _ s9 ⟨c, s', rfl, hc, rfl⟩
    refine ag_of (K := K) (cl := cl) (p := true) (ds := [.int op, .int sta, .int x]) (ea_cons (p := true) (ev_var (i := 3) rfl Rep.int) (ea_cons (p := true) (ev_var (i := 4) rfl Rep.int) (ea_cons (p := true) (ev_var (i := 5) rfl Rep.int) ea_nil))) ?_
    intro vs G' sV rvs
    exact ⟨z4 % 4, c, s', Reps.cons ((r1.mono s8).mono (s9.trans sV)) (Reps.cons (r2.mono (s9.trans sV)) (Reps.cons Rep.str rvs)), hc, rfl⟩
  · rintro vs G' _ sV ⟨o1, c, s', rvs, hc, rfl⟩
    exact ⟨_, _, rvs, ⟨rfl, rfl⟩, fun w G'' s'' rw' => ⟨⟨(o1, 1, (k : Int)), o, c, op, sta, x⟩, s', ⟨rfl, ⟨hx0, hx1, hc⟩, ho0, ho1, hok⟩, rw', rfl⟩⟩
  · rintro v G7 H7 _ s7 S7 ⟨z, s', hz, rz, rfl⟩
    exact q v z s' G7 (sP.trans s7) hz rz (sP.trans s7) _ S7
theorem rd_law_sections {K : PySem.W.Frag} {cl : Nat → Addr} [Cf K cl] {vs H Q E} (h : sp_law_sections K cl vs H Q E) : t_law_sections K cl ⟨fun _ H' => Q .non H', Q, fun _ _ => False, fun _ _ => False⟩ (start ["script", "many", "k"] vs) H := by
  obtain ⟨G, M, S, v0, ns, n, rfl, r0, h0, h1, q⟩ := h
  unfold t_law_sections
  refine s_retG S (eg_lcRng (K := K) (cl := cl) (n := n) (p := true) (encY := Sect.d) (P := LawS) (M1 := M) (ea_cons (p := true) (ev_var (i := 1) rfl Rep.int) ea_nil) (by omega) ?_) ?_
  · intro G1 e i s1 hi
    refine lcG1 (p := true) rfl et_yes fun _ => ?_
    have r01 := r0.mono s1
    refine EvG.imp (F := fun v G' M' => ∃ z a s', LawS i z ∧ Rep K cl G' v (Sect.d z) ∧ M' = (a, .lst [.int s']) :: e :: M) (eg_callAG (Fa := fun vs G' M' => ∃ p z, vs = [.ref p, .int (i : Int)] ∧ M' = (p, .lst [.int z]) :: e :: M) ?_ ?_) ?_
    · refine ag_cons (eg_state (K := K) (cl := cl) (M1 := e :: M) (by walk_at "ea")) ?_
      rintro _ G2 _ s2 ⟨p, z, rfl, rfl⟩
      refine ag_of (K := K) (cl := cl) (p := true) (ds := [.int (i : Int)]) (ea_cons (p := true) (ev_var (i := 2) rfl Rep.int) ea_nil) ?_
      intro vs G' sV rvs
      obtain ⟨u, rfl, hu⟩ := reps1 rvs
      exact ⟨p, z, by rw [hu.of_int], rfl⟩
    · rintro vs G' H' _ T sV SV ⟨p, z, rfl, rfl⟩ hT
      exact ⟨_, List.Perm.refl _, p, z, i, e :: M, rfl, rfl, by omega, fun v y s' G'' s'' hy ry => hT v G'' _ s'' ⟨y, p, s', hy, ry, rfl⟩⟩
    · rintro v G' H' _ s' S' ⟨z, a, s'', hz, rz, rfl⟩
      exact ⟨G', _, Same.refl _, S'.drop, rfl, z, hz, rz⟩
  · rintro v G1 H1 _ s1 S1 ⟨rfl, l, hl, rl⟩
    exact q G1 v l s1 hl rl s1 _ S1
theorem merge2K {a b : Str} (h : a ≠ b) {x y : V} : mergeK [] [((.inr a : Key), x), (.inr b, y)] = [(.inr a, x), (.inr b, y)] := by
  have hk : ¬ (Sum.inr a : Key) = .inr b := fun e => h (Sum.inr.inj e)
  simp [mergeK, putK, h, hk]
theorem merge2D {a b : Str} (h : a ≠ b) {x y : D} : mergeG [] [((.inr a : Key), x), (.inr b, y)] = [(.inr a, x), (.inr b, y)] := by
  simp [mergeG, putG, valG, h]
theorem rd_law_tariffs {K : PySem.W.Frag} {cl : Nat → Addr} [Cf K cl] {vs H Q E} (h : sp_law_tariffs K cl vs H Q E) : t_law_tariffs K cl ⟨fun _ H' => Q .non H', Q, fun _ _ => False, fun _ _ => False⟩ (start ["script"] vs) H := by
  obtain ⟨G, M, S, v0, ns, rfl, r0, q⟩ := h
  unfold t_law_tariffs
  have mk : ∀ (G' : Hp) (M' : ML) (i k : Int), Same G G' → 0 ≤ i → EvG (tCall (sp_law_tariff K cl) [] E0 (tCons (tCall (sp_law_state K cl) [] E0 (tCons (tCall (sp_law_cell K cl) [] E0 (tCons (tVar 0) (tCons (tC (.int i)) tNil))) (tCons (tC (.int k)) tNil))) tNil)) (start ["script"] [v0]) G' M' fun v G2 M2 => ∃ tf p z, tf.Ok ∧ tf.Uniq ∧ Rep K cl G2 v (Tariff.d tf) ∧ M2 = (p, .lst [.int z]) :: M' := by
    intro G' M' i k s' hi
    have r01 := r0.mono s'
    refine eg_callAG (Fa := fun vs G2 M2 => ∃ p z, vs = [.ref p] ∧ M2 = (p, .lst [.int z]) :: M') ?_ ?_
    · refine ag_cons (eg_state (K := K) (cl := cl) (M1 := M') (c := ns.getD i.toNat 0) (k := k) (by walk_at "ea")) ?_
      rintro _ G2 _ s2 ⟨p, z, rfl, rfl⟩
      exact ag_nil fun G3 _ => ⟨p, z, rfl, rfl⟩
    · rintro vs G2 H2 _ T sV SV ⟨p, z, rfl, rfl⟩ hT
      exact ⟨_, List.Perm.refl _, p, z, M', rfl, rfl, fun v tf s2 G'' s'' ok uq r => hT v G'' _ s'' ⟨tf, p, s2, ok, uq, r, rfl⟩⟩
  refine s_retG S (eg_dispG (F := fun v G' M' => ∃ u x y tf tf2 e f, v = .ref u ∧ tf.Ok ∧ tf.Uniq ∧ tf2.Ok ∧ tf2.Uniq ∧ Rep K cl G' x (Tariff.d tf) ∧ Rep K cl G' y (Tariff.d tf2) ∧ M' = e :: f :: (u, .dK [(.inr "std", x), (.inr "eve", y)]) :: M) fun u => ?_) ?_
  · refine epg_cons (K := K) (cl := cl) (k := .inr "std") (ev_str) rfl (mk G _ 0 40 (Same.refl _) (by decide)) ?_
    rintro x G2 _ s2 ⟨tf, p, z, ok, uq, r, rfl⟩
    refine epg_cons (K := K) (cl := cl) (k := .inr "eve") (ev_str) rfl (mk G2 _ 1 41 s2 (by decide)) ?_
    rintro y G3 _ s3 ⟨tf2, p2, z2, ok2, uq2, r2, rfl⟩
    refine epg_nil fun G4 s4 => ⟨Nat.le_of_ble_eq_true rfl, _, .tl (.tl .hd), u, x, y, tf, tf2, (p2, .lst [.int z2]), (p, .lst [.int z]), rfl, ok, uq, ok2, uq2, r.mono (s3.trans s4), r2.mono s4, ?_⟩
    rw [merge2K (by decide +kernel)]
  · rintro v G1 H1 _ s1 S1 ⟨u, x, y, tf, tf2, e, f, rfl, ok, uq, ok2, uq2, r, r2, rfl⟩
    obtain ⟨G2, s2, S2, rd⟩ := Sep.dic (K := K) (cl := cl) (kes := tfsK [(Str.ofString "std", tf), (Str.ofString "eve", tf2)]) S1.drop.drop (.cons ⟨rfl, r⟩ (.cons ⟨rfl, r2⟩ .nil))
    refine q G2 _ [(Str.ofString "std", tf), (Str.ofString "eve", tf2)] (s1.trans s2) ⟨rfl, fun e he => ?_, fun e he => ?_⟩ rd (s1.trans s2) _ S2
    · simp only [List.mem_cons, List.not_mem_nil, or_false] at he
      rcases he with rfl | rfl
      · exact ok
      · exact ok2
    · simp only [List.mem_cons, List.not_mem_nil, or_false] at he
      rcases he with rfl | rfl
      · exact uq
      · exact uq2
theorem histOk_set {h : Hist} {line : Str} {rows : List Row3} (hh : HistOk h) (hr : ∀ r ∈ rows, RowOk r) : HistOk (setF h line rows) := by
  unfold setF
  split
  · intro e he
    exact hh e (List.mem_filter.mp he).1
  · intro e he
    unfold putG at he
    split at he
    · obtain ⟨f, hf, rfl⟩ := List.mem_map.mp he
      by_cases q : f.1 = line
      · rw [if_pos q]
        exact hr
      · rw [if_neg q]
        exact hh f hf
    · rcases List.mem_append.mp he with q | q
      · exact hh e q
      · rw [List.mem_singleton] at q
        subst q
        exact hr
theorem setF_len {h : Hist} {line : Str} {rows : List Row3} : (setF h line rows).length ≤ h.length + 1 := by
  unfold setF
  split
  · exact Nat.le_succ_of_le (List.length_filter_le _ _)
  · unfold putG
    split
    · rw [List.length_map]; omega
    · rw [List.length_append]; simp
theorem rd_law_contracts {K : PySem.W.Frag} {cl : Nat → Addr} [Cf K cl] {vs H Q E} (h : sp_law_contracts K cl vs H Q E) : t_law_contracts K cl ⟨fun _ H' => Q .non H', Q, fun _ _ => False, fun _ _ => False⟩ (start ["script", "contracts", "k"] vs) H := by
  obtain ⟨G, M, S, v0, ns, rfl, r0, q⟩ := h
  unfold t_law_contracts
  refine s_seq ?_
  refine s_asgG S (eg_makeG (K := K) (cl := cl) (F := fun v G' M' => ∃ x dx h, v = .ref x ∧ M' = (x, .ins (cl 6) dx (List.zip ["histories"] [.ref h])) :: (h, .dK []) :: M) ea_nil ?_) ?_
  · intro x dx vs G' T s1 rs hT
    simp only [Reps] at rs
    subst rs
    exact ⟨x, dx, M, rfl, rfl, fun G2 h s2 => hT G2 _ s2 ⟨x, dx, h, rfl, rfl⟩⟩
  rintro _ G1 H1 _ s1 S1 ⟨x, dx, h, rfl, rfl⟩
  refine s_seq ?_
  apply s_forR1 (K := K) (cl := cl) (fun i σ G' M' => ∃ kws hist y2, σ = [some v0, some (.ref x), y2] ∧ M' = (x, .ins (cl 6) dx (List.zip ["histories"] [.ref h])) :: (h, .dK kws) :: M ∧ KRep K cl G' kws (histK hist) ∧ HistOk hist ∧ hist.length ≤ i) S1
  · walk_at "ea"
  · omega
  · intro G2 H2 g2
    exact ⟨[], [], _, rfl, rfl, .nil, (fun e he => nomatch he), Nat.zero_le _⟩
  · rintro G2 s2 i σ' G3 H3 M3 hi s3 S3 ⟨kws, hist, y2, rfl, rfl, rk, hh, hl⟩
    have r03 := ((r0.mono s1).mono s2).mono s3
    have hi4 : i < 4 := by omega
    obtain ⟨line, hline⟩ : ∃ line : Str, atI [D.str "41", D.str "42", D.str "43", D.str "71"] (i : Int) = some (.str line) := by
      match i, hi4 with
      | 0, _ => exact ⟨_, rfl⟩
      | 1, _ => exact ⟨_, rfl⟩
      | 2, _ => exact ⟨_, rfl⟩
      | 3, _ => exact ⟨_, rfl⟩
    refine s_gname ?_
    refine s_dropG S3 (eg_methAG (K := K) (cl := cl) (x := x) (F := fun v G' M' => ∃ kws' rows e, M' = (x, .ins (cl 6) dx (List.zip ["histories"] [.ref h])) :: (h, .dK kws') :: e :: M ∧ KRep K cl G' kws' (histK (setF hist line rows)) ∧ ∀ r ∈ rows, RowOk r)
      (Fa := fun vs G' M' => ∃ vr rows e, vs = [.str line, vr] ∧ M' = e :: (x, .ins (cl 6) dx (List.zip ["histories"] [.ref h])) :: (h, .dK kws) :: M ∧ Rep K cl G' vr (.lst (List.map rowD rows)) ∧ Asc rows ∧ rows.length ≤ 10 ∧ ∀ r ∈ rows, RowOk r) (ev_var (i := 1) rfl Rep.loc) .hd rfl ?_ ?_) ?_
    · refine ag_consX (K := K) (cl := cl) (p := false) (d := .str line) (ev_op (p := false) (q := true) (r := true) (ev_call (ds := []) (d := .lst [.str "41", .str "42", .str "43", .str "71"]) ea_nil ⟨rfl, rfl⟩) (ev_var (i := 2) rfl Rep.int) (o_ixL hline)) ?_
      intro v1 G4 s4 r1
      obtain rfl := r1.of_str
      refine ag_cons (F1 := fun v G' M' => ∃ rows e, M' = e :: (x, .ins (cl 6) dx (List.zip ["histories"] [.ref h])) :: (h, .dK kws) :: M ∧ Rep K cl G' v (.lst (List.map rowD rows)) ∧ Asc rows ∧ rows.length ≤ 10 ∧ ∀ r ∈ rows, RowOk r) (eg_callAG (Fa := fun vs G' M' => ∃ p z, vs = [.ref p] ∧ M' = (p, .lst [.int z]) :: (x, .ins (cl 6) dx (List.zip ["histories"] [.ref h])) :: (h, .dK kws) :: M) ?_ ?_) ?_
      · refine ag_cons (eg_state (K := K) (cl := cl) (M1 := (x, .ins (cl 6) dx (List.zip ["histories"] [.ref h])) :: (h, .dK kws) :: M) (by have r04 := r03.mono s4; walk_at "ea")) ?_
        rintro _ G5 _ s5 ⟨p, z, rfl, rfl⟩
        exact ag_nil fun G6 _ => ⟨p, z, rfl, rfl⟩
      · rintro vs G5 H5 _ T s5 S5 ⟨p, z, rfl, rfl⟩ hT
        exact ⟨_, List.Perm.refl _, p, z, _, rfl, rfl, fun v rows s' G'' s'' ha hl hr rv => hT v G'' _ s'' ⟨rows, _, rfl, rv, ha, hl, hr⟩⟩
      · rintro vr G5 _ s5 ⟨rows, e, rfl, rr, ha, hrl, hr⟩
        exact ag_nil fun G6 s6 => ⟨vr, rows, e, rfl, rfl, rr.mono s6, ha, hrl, hr⟩
    · rintro vs G5 H5 _ T s5 S5 ⟨vr, rows, e, rfl, rfl, rr, ha, hrl, hr⟩ hT
      exact ⟨_, (List.perm_append_comm (l₁ := [e]) (l₂ := [(x, _), (h, _)])).append_right M, x, dx, h, kws, hist, e :: M, line, vr, rows, rfl, rfl, (rk.mono s5), rr, ha, by omega, by omega, fun G'' kws' s'' rk' => hT .non G'' _ s'' ⟨kws', rows, e, rfl, rk', hr⟩⟩
    · rintro v G4 H4 _ s4 S4 ⟨kws', rows, e, rfl, rk', hr⟩
      refine ⟨G4, _, s3.trans s4, (S4.perm ((List.perm_append_comm (l₁ := [(x, _), (h, _)]) (l₂ := [e])).append_right M)).drop, kws', setF hist line rows, _, rfl, rfl, rk', histOk_set hh hr, ?_⟩
      have := setF_len (h := hist) (line := line) (rows := rows)
      omega
  rintro σ' G3 H3 M3 s3 S3 ⟨kws, hist, y2, rfl, rfl, rk, hh, hl⟩
  refine s_ret (K := K) (cl := cl) (d := .loc x) S3 (ev_var (i := 1) rfl Rep.loc) fun v G4 H4 g4 r4 => ?_
  obtain rfl := r4.of_loc
  obtain ⟨G5, s5, S5, r5⟩ := (g4.sep.perm (List.Perm.swap _ _ _)).dic (rk.mono g4.same)
  obtain ⟨G6, s6, S6, r6⟩ := Sep.ins (K := K) (cl := cl) (c := 6) (ns := ["histories"]) (vs := [.ref h]) (ds := [dicD (histK hist)]) S5 rfl (Reps.one r5)
  have sA := s1.trans (s3.trans (g4.same.trans (s5.trans s6)))
  exact q G6 _ hist sA hh r6 sA _ S6
theorem rd_law_allowances {K : PySem.W.Frag} {cl : Nat → Addr} [Cf K cl] {vs H Q E} (h : sp_law_allowances K cl vs H Q E) : t_law_allowances K cl ⟨fun _ H' => Q .non H', Q, fun _ _ => False, fun _ _ => False⟩ (start ["script", "state"] vs) H := by
  obtain ⟨G, M, S, v0, ns, rfl, r0, q⟩ := h
  unfold t_law_allowances
  refine s_seq ?_
  refine s_asgG S (eg_state (K := K) (cl := cl) (M1 := M) (by walk_at "ea")) ?_
  rintro _ G1 H1 _ s1 S1 ⟨p, z, rfl, rfl⟩
  obtain ⟨x, hx, hx0, hx1⟩ : ∃ x, [D.int 0, D.int 30, D.int 100, D.int 700].getD (z % 4).toNat .non = .int x ∧ 0 ≤ x ∧ x ≤ 1000 := by
    refine pickD (P := fun d => ∃ x, d = .int x ∧ 0 ≤ x ∧ x ≤ 1000) (fun d hd => ?_) (by show _ < 4; omega)
    simp only [List.mem_cons, List.not_mem_nil, or_false] at hd
    rcases hd with rfl | rfl | rfl | rfl <;> exact ⟨_, rfl, by omega, by omega⟩
  have hy0 := Int.emod_nonneg (z / 4) (b := 300) (by decide)
  have hy1 := Int.emod_lt_of_pos (z / 4) (b := 300) (by decide)
  have hix : atI [D.int 0, D.int 30, D.int 100, D.int 700] (z % 4) = some (.int x) := by
    rw [← hx]
    exact atI_getD D.non (by omega) (by simp only [List.length_cons, List.length_nil]; omega)
  refine s_retG S1 (eg_disp (K := K) (cl := cl) (kds := [(.inr "ann", .int x), (.inr "firm", .int (z / 4 % 300))]) (M1 := (p, .lst [.int (z / 4 / 300)]) :: M) (F := fun v G' M' => ∃ u kws, v = .ref u ∧ M' = (u, .dK kws) :: (p, .lst [.int (z / 4 / 300)]) :: M ∧ KRep K cl G' kws (alwK [(Str.ofString "ann", x), (Str.ofString "firm", z / 4 % 300)]))
    (fun u => ep_cons (p := true) (q := false) ev_str rfl (ev_op (p := false) (q := false) (r := true) (ev_tup (by walk_at "ea") (Nat.le_of_ble_eq_true rfl)) (ev_digit (p := true) (m := 4) (ea_cons (p := true) (ev_var (i := 1) rfl Rep.loc) (ea_cons (p := true) ev_int ea_nil)) (.tl .hd) (by decide) (by decide)) (o_ixT hix)) (ep_cons (p := true) (q := false) ev_str rfl (ev_digit (p := true) (m := 300) (ea_cons (p := true) (ev_var (i := 1) rfl Rep.loc) (ea_cons (p := true) ev_int ea_nil)) (.tl .hd) (by decide) (by decide)) ep_nil)) (Nat.le_of_ble_eq_true rfl) ?_) ?_
  · intro u kws G' s' rk
    rw [merge2D (by decide +kernel)] at rk
    exact ⟨u, kws, rfl, rfl, rk⟩
  · rintro v G2 H2 _ s2 S2 ⟨u, kws, rfl, rfl, rk⟩
    obtain ⟨G3, s3, S3, r3⟩ := (S2.perm (List.Perm.refl _)).dic rk
    have sA := s1.trans (s2.trans s3)
    refine q G3 _ [(Str.ofString "ann", x), (Str.ofString "firm", z / 4 % 300)] sA ⟨rfl, fun e he => ?_⟩ r3 sA _ S3.drop
    simp only [List.mem_cons, List.not_mem_nil, or_false] at he
    rcases he with rfl | rfl
    · exact ⟨hx0, hx1⟩
    · exact ⟨hy0, by omega⟩
theorem lastF_mem {rows : List Row3} {c : Int} {x : Option Str × Str} (h : lastF rows c = some x) : ∃ r ∈ rows, r.2 = x := by
  have gen : ∀ (rows : List Row3) (f : Option (Option Str × Str)), rows.foldl (fun f r => if r.1 ≤ c then some r.2 else f) f = some x → (∃ r ∈ rows, r.2 = x) ∨ f = some x := by
    intro rows
    induction rows with
    | nil => intro f h; exact .inr h
    | cons r rows ih =>
      intro f h
      rcases ih _ h with ⟨y, hy, e⟩ | e
      · exact .inl ⟨y, List.mem_cons_of_mem _ hy, e⟩
      · dsimp only at e
        split at e
        · exact .inl ⟨r, List.mem_cons_self .., Option.some.inj e⟩
        · exact .inr e
  rcases gen rows none h with h | h
  · exact h
  · cases h
theorem inF_ok {h : Hist} (hh : HistOk h) {line : Str} {c : Int} {a n : Str} (e : inF h line c = some (a, n)) : (a = "ann" ∨ a = "firm") ∧ (n = "std" ∨ n = "eve" ∨ n = "lost") := by
  unfold inF at e
  cases hl : lastF ((valG h line).getD []) c with
  | none => rw [hl] at e; cases e
  | some x =>
    obtain ⟨o, n'⟩ := x
    rw [hl] at e
    cases o with
    | none => cases e
    | some a' =>
      cases e
      obtain ⟨r, hr, hx⟩ := lastF_mem hl
      cases hv : valG h line with
      | none => rw [hv] at hr; exact nomatch hr
      | some rows =>
        rw [hv] at hr
        have := hh _ (valG_mem1 hv) r hr
        obtain ⟨h1, h2⟩ := this
        rw [hx] at h1 h2
        refine ⟨?_, h2⟩
        rcases h1 with q | q | q
        · cases q
        · exact .inl (Option.some.inj q)
        · exact .inr (Option.some.inj q)
theorem month_ok {o : Int} (h0 : 3000000 ≤ o) (h1 : o ≤ 6000000) : o / 2592000 = 1 ∨ o / 2592000 = 2 ∨ o / 2592000 = 3 := by omega
theorem reps_strs {K : PySem.W.Frag} {cl : Nat → Addr} {G : Hp} : ∀ {vs : List V} {xs : List Str}, Reps K cl G vs (xs.map D.str) → vs = xs.map V.str
  | vs, [], h => by simpa only [List.map_nil, Reps] using h
  | vs, x :: xs, h => by
    obtain ⟨v, ws, rfl, r1, r2⟩ := Reps.uncons h
    rw [r1.of_str, reps_strs r2]
    rfl
theorem o_inS {K : PySem.W.Frag} {cl : Nat → Addr} {M : ML} {w : Str} {xs : List Str} : Op2 K cl true (rIn K false) M (.str w) (.tup (xs.map D.str)) (.bl (decide (w ∈ xs))) := op2_val fun G1 H1 S u v ru rv => by
  obtain ⟨p, vs, rfl, sq, rs⟩ := rv.of_tup
  obtain rfl := reps_strs rs
  obtain rfl := ru.of_str
  refine ⟨_, Rep.bl, fun Q q => ⟨p, xs.map V.str, rfl, .inr (Same.seqT S.sub sq), rfl, ?_, ?_⟩⟩
  · rw [List.all_eq_true]
    intro x hx
    obtain ⟨y, _, rfl⟩ := List.mem_map.mp hx
    rfl
  · have e : inV (.str w) (xs.map V.str) = decide (w ∈ xs) := by
      unfold inV
      rw [List.any_map, Bool.eq_iff_iff, List.any_eq_true, decide_eq_true_iff]
      constructor
      · rintro ⟨y, hy, h⟩
        have : y = w := by simpa [eqV] using h
        exact this ▸ hy
      · intro h
        exact ⟨w, h, by simp [eqV]⟩
    simp only [Bool.false_eq_true, if_false]
    rw [e]
    exact q
theorem own_eqb {o o' : Own} : D.eqb (ownD o) (ownD o') = decide (o = o') := by
  obtain ⟨a, b, c⟩ := o
  obtain ⟨a', b', c'⟩ := o'
  simp only [ownD, D.eqb, D.eqbs, Bool.and_true]
  by_cases h : (a, b, c) = (a', b', c')
  · cases h
    simp
  · rw [decide_eq_false h]
    simp only [Prod.mk.injEq] at h
    simp only [Bool.and_eq_false_iff, beq_eq_false_iff_ne, ne_eq]
    by_cases h1 : a = a'
    · by_cases h2 : b = b'
      · exact .inr (.inr fun h3 => h ⟨h1, h2, h3⟩)
      · exact .inr (.inl h2)
    · exact .inl h1
theorem filter_own {l : List Sect} (nd : (l.map Sect.owner).Nodup) {s : Sect} (hs : s ∈ l) : l.filter (fun z => decide (z.owner = s.owner)) = [s] := by
  induction l with
  | nil => cases hs
  | cons z l ih =>
    rw [List.map_cons, List.nodup_cons] at nd
    rcases List.mem_cons.mp hs with rfl | hs
    · rw [List.filter_cons, if_pos (by simp)]
      have : l.filter (fun z => decide (z.owner = s.owner)) = [] := List.filter_eq_nil_iff.mpr fun y hy => by
        have : y.owner ≠ s.owner := fun e => nd.1 (by rw [← e]; exact List.mem_map.mpr ⟨y, hy, rfl⟩)
        simp [this]
      rw [this]
    · have hne : z.owner ≠ s.owner := fun e => nd.1 (by rw [e]; exact List.mem_map.mpr ⟨s, hs, rfl⟩)
      rw [List.filter_cons, if_neg (by simp [hne])]
      exact ih nd.2 hs
theorem inOrder_place {l : List Sect} : (l.map placeD).mergeSort leD = (inOrder l).map placeD := (List.map_mergeSort (f := placeD) fun _ _ _ _ => rfl).symm
theorem sorts_place {l : List Sect} : Sorts ((l.map placeD).map D.pyd) := by
  have h := place_sorts (l := l)
  rw [List.map_map]
  exact h
theorem putG_len {κ α : Type} [DecidableEq κ] {st : List (κ × α)} {k : κ} {v : α} : (putG st k v).length ≤ st.length + 1 := by
  unfold putG
  split
  · rw [List.length_map]; omega
  · rw [List.length_append]; simp
abbrev twoS : List Str := [Str.ofString "ann", Str.ofString "firm"]
theorem twoS_at {j : Nat} {d : D} (h : (twoS.map D.str)[j]? = some d) : ∃ a, d = .str a ∧ twoS[j]? = some a := by
  rw [List.getElem?_map] at h
  cases hx : twoS[j]? with
  | none => rw [hx] at h; cases h
  | some a => rw [hx] at h; cases h; exact ⟨a, rfl, rfl⟩
theorem alw_two {l : List (Str × Int)} (h : AlwOk l) {a : Str} (ha : a ∈ twoS) : ∃ x, valG l a = some x := by
  obtain ⟨hk, -⟩ := h
  obtain ⟨x, y, rfl⟩ : ∃ x y, l = [x, y] := by
    cases l with
    | nil => simp at hk
    | cons x l =>
      cases l with
      | nil => simp at hk
      | cons y l =>
        cases l with
        | nil => exact ⟨x, y, rfl⟩
        | cons z l => simp at hk
  rw [List.map_cons, List.map_cons, List.map_nil, List.cons.injEq, List.cons.injEq] at hk
  obtain ⟨h1, h2, -⟩ := hk
  unfold valG
  simp only [List.mem_cons, List.not_mem_nil, or_false] at ha
  rw [List.find?_cons, List.find?_cons]
  rcases ha with rfl | rfl
  · rw [h1, decide_eq_true rfl]
    exact ⟨_, rfl⟩
  · by_cases e : x.1 = Str.ofString "firm"
    · rw [decide_eq_true e]; exact ⟨_, rfl⟩
    · rw [decide_eq_false e, h2, decide_eq_true rfl]
      exact ⟨_, rfl⟩
/-! ### what is known of the charges -/
structure ChgOk (E : Env5) (l : List Sect) (st : St5) : Prop where
  c : ∀ c ∈ st.charges, okS c.1.2.2 = true ∧ okS c.2.1 = true
  l : ∀ x ∈ st.left, okS x.2 = true
theorem priceF_ok {tf : Tariff} (ok : tf.Ok) {c : Str} {start begin till : Int} {l : List L4} (h1 : begin < till) (h : priceF tf c start begin till = some l) : ∀ x ∈ l, okS x.1 = true := by
  unfold priceF at h
  obtain ⟨f, hf, rfl⟩ := Option.map_eq_some_iff.mp h
  obtain ⟨_, hm, _⟩ := stretches_facts h1 hf
  intro x hx
  rcases List.mem_cons.mp hx with rfl | hx
  · exact (by decide +kernel : okS "setup" = true)
  · obtain ⟨y, hy, rfl⟩ := List.mem_map.mp hx
    exact (ok y.1 (hm y hy)).2
theorem linesF_ok {tf : Tariff} (ok : tf.Ok) {s : Sect} {free : Int} {l : List L4} (h : linesF tf s free = some l) : ∀ x ∈ l, okS x.1 = true := by
  unfold linesF at h
  obtain ⟨f, hf, rfl⟩ := Option.map_eq_some_iff.mp h
  have hl : ∀ x ∈ f, okS x.1 = true := by
    split at hf
    · next q => exact priceF_ok ok q hf
    · cases hf
      exact fun x hx => nomatch hx
  intro x hx
  split at hx
  · rcases List.mem_cons.mp hx with rfl | hx
    · exact (by decide +kernel : okS "free" = true)
    · exact hl x hx
  · exact hl x hx
theorem oneF_why {E : Env5} {u : Used} {s : Sect} {r : Str} (h : oneF E u s = .inl r) : r = "no contract" ∨ r = "no tariff" ∨ r = "no band" := by
  unfold oneF at h
  split at h
  · cases h; exact .inl rfl
  · split at h
    · cases h; exact .inr (.inl rfl)
    · split at h
      · cases h; exact .inr (.inr rfl)
      · cases h
theorem stepF_ok {E : Env5} (eok : E.Ok) (hh : HistOk E.hist) {l : List Sect} {st : St5} {s : Sect} (h : ChgOk E l st) : ChgOk E l (stepF E st s) := by
  unfold stepF
  split
  · exact h
  unfold takeF
  cases ho : oneF E st.used s with
  | inl r =>
    refine ⟨h.c, fun x hx => ?_⟩
    rcases List.mem_append.mp hx with q | q
    · exact h.l x q
    · rw [List.mem_singleton] at q
      subst q
      show okS r = true
      rcases oneF_why ho with rfl | rfl | rfl <;> exact (by decide +kernel)
  | inr x =>
    obtain ⟨a, f, L⟩ := x
    obtain ⟨hf, n, tf, hin, ht, hL⟩ := oneF_lines ho
    refine ⟨fun c hc => ?_, h.l⟩
    rcases List.mem_append.mp hc with q | q
    · exact h.c c q
    · obtain ⟨z, hz, rfl⟩ := List.mem_map.mp q
      refine ⟨linesF_ok (eok.t _ (valG_mem1 ht)) hL z hz, ?_⟩
      show okS a = true
      rcases (inF_ok hh hin).1 with rfl | rfl <;> exact (by decide +kernel)
theorem chargeF_ok {E : Env5} (eok : E.Ok) (hh : HistOk E.hist) (l : List Sect) : ChgOk E l (chargeF E l) := by
  unfold chargeF
  have gen : ∀ (m : List Sect) (st : St5), ChgOk E l st → ChgOk E l (m.foldl (stepF E) st) := by
    intro m
    induction m with
    | nil => exact fun st h => h
    | cons s m ih => exact fun st h => ih _ (stepF_ok eok hh h)
  exact gen _ _ ⟨(fun c hc => nomatch hc), fun x hx => nomatch hx⟩
theorem due_dat {st : St5} {E : Env5} {l : List Sect} (h : ChgOk E l st) : (D.tup [.lst (List.map chgT st.charges), .lst (List.map lftD st.left)]).isDat = true ∧ (D.tup [.lst (List.map chgT st.charges), .lst (List.map lftD st.left)]).dep ≤ 64 := by
  have h1 : D.areDat (List.map chgT st.charges) = true := D.areDat_mem fun d hd => by
    obtain ⟨c, hc, rfl⟩ := List.mem_map.mp hd
    obtain ⟨a, b⟩ := h.c c hc
    simp only [D.isDat, D.areDat, Bool.and_true, Bool.true_and, Bool.and_eq_true]
    exact ⟨a, b⟩
  have h2 : D.areDat (List.map lftD st.left) = true := D.areDat_mem fun d hd => by
    obtain ⟨c, hc, rfl⟩ := List.mem_map.mp hd
    simp only [D.isDat, D.areDat, Bool.and_true, Bool.true_and]
    exact h.l c hc
  have h3 : D.deps (List.map chgT st.charges) ≤ 3 := D.deps_mem fun d hd => by
    obtain ⟨c, hc, rfl⟩ := List.mem_map.mp hd
    simp [D.dep, D.deps]
  have h4 : D.deps (List.map lftD st.left) ≤ 3 := D.deps_mem fun d hd => by
    obtain ⟨c, hc, rfl⟩ := List.mem_map.mp hd
    simp [D.dep, D.deps]
  refine ⟨?_, ?_⟩
  · simp only [D.isDat, D.areDat, Bool.and_true]
    rw [h1, h2]
    rfl
  · simp only [D.dep, D.deps]
    omega
theorem paired_len {α β : Type} {P : α → β → Prop} {l : List α} {m : List β} (h : Paired P l m) : l.length = m.length := by
  induction h with
  | nil => rfl
  | cons h t ih => rw [List.length_cons, List.length_cons, ih]
theorem paired_mem {α β : Type} {P : α → β → Prop} {l : List α} {m : List β} (h : Paired P l m) : ∀ b ∈ m, ∃ a ∈ l, P a b := by
  induction h with
  | nil => intro b hb; exact nomatch hb
  | @cons a b l m h t ih =>
    intro c hc
    rcases List.mem_cons.mp hc with rfl | hc
    · exact ⟨a, List.mem_cons_self .., h⟩
    · obtain ⟨x, hx, hp⟩ := ih c hc
      exact ⟨x, List.mem_cons_of_mem _ hx, hp⟩
theorem laws_third {ks : List Nat} {l : List Sect} (h : Paired LawS ks l) : l.map (fun s => s.owner.2.2) = ks.map fun k : Nat => (k : Int) := by
  induction h with
  | nil => rfl
  | cons h t ih => rw [List.map_cons, List.map_cons, ih, h.own]
theorem laws_nd {n : Nat} {l : List Sect} (h : Paired LawS (List.range n) l) : (l.map Sect.owner).Nodup := by
  have h1 : ((l.map Sect.owner).map fun o => o.2.2).Nodup := by
    rw [List.map_map]
    show (l.map fun s => s.owner.2.2).Nodup
    rw [laws_third h]
    refine List.Pairwise.map _ (fun a b hab z => hab (by exact_mod_cast z)) List.nodup_range
  exact List.Pairwise.of_map _ (fun a b hab z => hab (by rw [z])) h1
theorem SecsOk.of {n : Nat} {l m : List Sect} (h : Paired LawS (List.range n) l) (hn : n ≤ 100) (p : m.Perm l) : SecsOk m := by
  refine ⟨fun s hs => ?_, fun s hs => ?_, ?_, ?_⟩
  · obtain ⟨k, _, hk⟩ := paired_mem h s (p.mem_iff.mp hs)
    exact ⟨hk.ok, hk.o0, hk.o1⟩
  · obtain ⟨k, _, hk⟩ := paired_mem h s (p.mem_iff.mp hs)
    exact hk.pay
  · exact ((p.map Sect.owner).nodup_iff).mpr (laws_nd h)
  · rw [p.length_eq, ← paired_len h, List.length_range]
    exact hn
/-- the sections of the law, shuffled -/
theorem eg_sections {K : PySem.W.Frag} {cl : Nat → Addr} [Cf K cl] {G : Hp} {M : ML} {σ : St} {v0 : V} {ns : List Int} (h0 : σ[0]? = some (some v0)) (r0 : Rep K cl G v0 (.lst (List.map D.int ns))) :
    EvG (tCall (sp_law_shuffled K cl) [] E0 (tCons (tVar 0) (tCons (tCall (sp_law_sections K cl) [] E0 (tCons (tVar 0) (tCons (tOp (rAdd K) (tCB (rMin2) (tCons (tC (.int 9)) (tCons (tOp (rAdd K) (tC (.int 3)) (tCB (rLenA K) (tCons (tVar 0) tNil))) tNil))) (tOp (rMulI) (tC (.int 41)) (tCB (rInt1) (tCons (tCall (sp_law_large K cl) [] E0 (tCons (tVar 0) tNil)) tNil)))) tNil))) tNil))) σ G M
      fun v G' M' => M' = M ∧ ∃ l, SecsOk l ∧ Rep K cl G' v (.lst (List.map Sect.d l)) := by
  refine eg_callAG (Fa := fun vs G' M' => ∃ v0 v1 n l, vs = [v0, v1] ∧ M' = M ∧ Rep K cl G' v0 (.lst (List.map D.int ns)) ∧ Rep K cl G' v1 (.lst (List.map Sect.d l)) ∧ n ≤ 100 ∧ Paired LawS (List.range n) l) ?_ ?_
  · refine ag_consX (K := K) (cl := cl) (M1 := M) (ev_var h0 r0) ?_
    intro v1 G1 s1 r1
    refine ag_cons (F1 := fun v G' M' => M' = M ∧ ∃ n l, Rep K cl G' v (.lst (List.map Sect.d l)) ∧ n ≤ 100 ∧ Paired LawS (List.range n) l) (eg_callAG (Fa := fun vs G' M' => ∃ v0 n, vs = [v0, .int n] ∧ M' = M ∧ Rep K cl G' v0 (.lst (List.map D.int ns)) ∧ 0 ≤ n ∧ n ≤ 100) ?_ ?_) ?_
    · refine ag_consX (K := K) (cl := cl) (M1 := M) (ev_var h0 (r0.mono s1)) ?_
      intro v2 G2 s2 r2
      have r02 := r0.mono (s1.trans s2)
      obtain ⟨p, hp⟩ : ∃ p, EvX K cl p (tCB rMin2 (tCons (tC (.int 9)) (tCons (tOp (rAdd K) (tC (.int 3)) (tCB (rLenA K) (tCons (tVar 0) tNil))) tNil))) σ G2 M (.int (if 3 + (ns.length : Int) < 9 then 3 + (ns.length : Int) else 9)) M := by
        refine ⟨_, EvX.is (ev_cb (ea_cons ev_int (ea_cons (ev_op ev_int (ev_cb (ea_cons (ev_var h0 r02) ea_nil) on_lenL) o_add_int) ea_nil)) on_min) ?_⟩
        rw [List.length_map]
      refine ag_cons (F1 := fun v G' M' => ∃ n, v = .int n ∧ M' = M ∧ 0 ≤ n ∧ n ≤ 100) (eg_opR (K := K) (cl := cl) (M1 := M) (p := p) (d1 := .int (if 3 + (ns.length : Int) < 9 then 3 + (ns.length : Int) else 9)) (F1 := fun v G' M' => ∃ n, v = .int n ∧ M' = M ∧ 0 ≤ n ∧ n ≤ 41) hp (eg_opR (K := K) (cl := cl) (p := true) (M1 := M) ev_int (eg_intB (eg_large (K := K) (cl := cl) (ns := ns) (p := true) (ea_cons (p := true) (ev_var h0 r02) ea_nil))) ?_) ?_) ?_
      · rintro v G3 _ s3 ⟨b, rfl, rfl⟩
        refine ⟨_, _, true, Rep.int, o_mul (.inl ⟨by decide, by decide⟩), fun w G4 s4 rw' => ⟨_, rw'.of_int, rfl, ?_, ?_⟩⟩ <;> cases b <;> decide
      · rintro v G3 _ s3 ⟨n, rfl, rfl, hn0, hn1⟩
        refine ⟨_, _, true, Rep.int, o_add_int, fun w G4 s4 rw' => ⟨_, rw'.of_int, rfl, ?_, ?_⟩⟩ <;> split <;> omega
      · rintro v G3 _ s3 ⟨n, rfl, rfl, hn0, hn1⟩
        exact ag_nil fun G4 s4 => ⟨v2, n, rfl, rfl, r2.mono (s3.trans s4), hn0, hn1⟩
    · rintro vs G2 H2 _ T s2 S2 ⟨v2, n, rfl, rfl, r2, hn0, hn1⟩ hT
      exact ⟨_, List.Perm.refl _, v2, ns, n, rfl, r2, hn0, hn1, fun G3 v l s3 hp rv => hT v G3 _ s3 ⟨rfl, n.toNat, l, rv, by omega, hp⟩⟩
    · rintro v G2 _ s2 ⟨rfl, n, l, rl, hn, hp⟩
      exact ag_nil fun G3 s3 => ⟨v1, v, n, l, rfl, rfl, r1.mono (s2.trans s3), rl.mono s3, hn, hp⟩
  · rintro vs G1 H1 _ T s1 S1 ⟨v1, v2, n, l, rfl, rfl, r1, r2, hn, hp⟩ hT
    refine ⟨_, List.Perm.refl _, v1, v2, ns, _, rfl, r1, r2, ?_, fun G2 v es s2 pe rv => ?_⟩
    · rw [List.length_map, ← paired_len hp, List.length_range]
      omega
    · obtain ⟨l', rfl, p'⟩ := perm_map_inv pe
      exact hT v G2 _ s2 ⟨rfl, l', SecsOk.of hp hn p', rv⟩
theorem eg_script {K : PySem.W.Frag} {cl : Nat → Addr} {R : RG} {G : Hp} {M : ML} {σ : St} {v0 : V} {ns : List Int} {F : V → Hp → Prop} (h0 : σ[0]? = some (some v0)) (r0 : Rep K cl G v0 (.lst (List.map D.int ns)))
    (hR : ∀ v0 G' (T : V → Hp → ML → Prop), Rep K cl G' v0 (.lst (List.map D.int ns)) → (∀ v G2, Same G' G2 → F v G2 → T v G2 M) → R [v0] G' M T) : EvG (tCall (GSp R) [] E0 (tCons (tVar 0) tNil)) σ G M fun v G' M' => M' = M ∧ F v G' := by
  refine eg_call (K := K) (cl := cl) (p := true) (ea_cons (p := true) (ev_var h0 r0) ea_nil) ?_
  intro vs G' T s rs hT
  obtain ⟨u, rfl, hu⟩ := reps1 rs
  exact hR u G' T hu fun v G2 s2 hF => hT v G2 M s2 ⟨rfl, hF⟩
/-! ### what covers a section -/
def Cov : Int → List L4 → Int → Prop
  | lo, [], hi => lo = hi
  | lo, l :: L, hi => if l.1 = "setup" then l.2.2.1 = l.2.1 ∧ Cov lo L hi else l.2.1 = lo ∧ lo < l.2.2.1 ∧ Cov l.2.2.1 L hi
theorem Cov.le : ∀ {L : List L4} {lo hi : Int}, Cov lo L hi → lo ≤ hi
  | [], lo, hi, h => by simp only [Cov] at h; omega
  | l :: L, lo, hi, h => by
    simp only [Cov] at h
    split at h
    · exact Cov.le h.2
    · have := Cov.le h.2.2
      omega
/-! ### what became of each section -/
abbrev Out5 := Str ⊕ (Str × Int × List L4)
def traceF (E : Env5) : St5 → List Sect → List (Sect × Out5)
  | _, [] => []
  | st, s :: m => if s.free then traceF E st m else (s, oneF E st.used s) :: traceF E (takeF E st s) m
def chgsOf : Sect × Out5 → List Chg
  | (s, .inr x) => x.2.2.map (mkChg s.owner x.1)
  | (_, .inl _) => []
def lftOf : Sect × Out5 → List Lft
  | (s, .inl r) => [(s.owner, r)]
  | (_, .inr _) => []
theorem trace_all (E : Env5) : ∀ (m : List Sect) (st : St5), (m.foldl (stepF E) st).charges = st.charges ++ (traceF E st m).flatMap chgsOf ∧ (m.foldl (stepF E) st).left = st.left ++ (traceF E st m).flatMap lftOf
  | [], st => by simp [traceF]
  | s :: m, st => by
    rw [List.foldl_cons]
    unfold traceF
    cases hf : s.free with
    | true =>
      have : stepF E st s = st := by unfold stepF; rw [hf]; rfl
      rw [this]
      exact trace_all E m st
    | false =>
      have e1 : stepF E st s = takeF E st s := by unfold stepF; rw [hf]; rfl
      rw [e1]
      obtain ⟨h1, h2⟩ := trace_all E m (takeF E st s)
      rw [h1, h2]
      simp only [Bool.false_eq_true, if_false, List.flatMap_cons]
      unfold takeF
      cases ho : oneF E st.used s with
      | inl r => simp [chgsOf, lftOf]
      | inr x => simp [chgsOf, lftOf]
theorem trace_mem {E : Env5} : ∀ {m : List Sect} {st : St5}, (∀ s ∈ m, s.Ok) → Fair E st.used → ∀ e ∈ traceF E st m, e.1 ∈ m ∧ e.1.free = false ∧ ∃ u, Fair E u ∧ e.2 = oneF E u e.1
  | [], st, _, _, e, h => nomatch h
  | s :: m, st, hm, hf, e, h => by
    unfold traceF at h
    have hs := hm s (List.mem_cons_self ..)
    cases hfr : s.free with
    | true =>
      rw [hfr] at h
      obtain ⟨h1, h2⟩ := trace_mem (fun z hz => hm z (List.mem_cons_of_mem _ hz)) hf e h
      exact ⟨List.mem_cons_of_mem _ h1, h2⟩
    | false =>
      rw [hfr] at h
      simp only [Bool.false_eq_true, if_false] at h
      rcases List.mem_cons.mp h with rfl | h
      · exact ⟨List.mem_cons_self .., hfr, st.used, hf, rfl⟩
      · have e1 : stepF E st s = takeF E st s := by unfold stepF; rw [hfr]; rfl
        have hf2 := hf.step (s := s) hs.s0
        rw [e1] at hf2
        obtain ⟨h1, h2⟩ := trace_mem (fun z hz => hm z (List.mem_cons_of_mem _ hz)) hf2 e h
        exact ⟨List.mem_cons_of_mem _ h1, h2⟩
theorem trace_fst {E : Env5} : ∀ {m : List Sect} {st : St5}, (traceF E st m).map (·.1) = m.filter fun s => !s.free
  | [], st => rfl
  | s :: m, st => by
    unfold traceF
    rw [List.filter_cons]
    cases hfr : s.free with
    | true =>
      simp only [if_true, Bool.not_true, Bool.false_eq_true, if_false]
      exact trace_fst
    | false =>
      simp only [Bool.false_eq_true, if_false, Bool.not_false, if_true, List.map_cons]
      rw [trace_fst]
section
variable {τ γ α : Type} [DecidableEq α] {g : τ → List γ} {κ : τ → α} {key : γ → α}
theorem flat_none : ∀ {T : List τ} {k : α}, (∀ e ∈ T, ∀ c ∈ g e, key c = κ e) → (∀ e ∈ T, κ e ≠ k) → (T.flatMap g).filter (fun c => decide (key c = k)) = [] := by
  intro T k hk hn
  refine List.filter_eq_nil_iff.mpr fun c hc => ?_
  obtain ⟨e, he, hc⟩ := List.mem_flatMap.mp hc
  have := hn e he
  rw [hk e he c hc]
  simp [this]
theorem flat_one : ∀ {T : List τ} {e0 : τ}, (T.map κ).Nodup → (∀ e ∈ T, ∀ c ∈ g e, key c = κ e) → e0 ∈ T → (T.flatMap g).filter (fun c => decide (key c = κ e0)) = g e0
  | [], _, _, _, h => nomatch h
  | e :: T, e0, nd, hk, h => by
    rw [List.map_cons, List.nodup_cons] at nd
    rw [List.flatMap_cons, List.filter_append]
    rcases List.mem_cons.mp h with rfl | h
    · rw [List.filter_eq_self.mpr fun c hc => decide_eq_true (hk e0 (List.mem_cons_self ..) c hc)]
      rw [flat_none (fun e he => hk e (List.mem_cons_of_mem _ he)) fun e he z => nd.1 (by rw [← z]; exact List.mem_map.mpr ⟨e, he, rfl⟩), List.append_nil]
    · have hne : κ e ≠ κ e0 := fun z => nd.1 (by rw [z]; exact List.mem_map.mpr ⟨e0, h, rfl⟩)
      have : (g e).filter (fun c => decide (key c = κ e0)) = [] := List.filter_eq_nil_iff.mpr fun c hc => by
        rw [hk e (List.mem_cons_self ..) c hc]
        simp [hne]
      rw [this, List.nil_append]
      exact flat_one nd.2 (fun e he => hk e (List.mem_cons_of_mem _ he)) h
theorem flat_nodup {ρ : Type} {kk : γ → ρ} {fst : ρ → α} : ∀ {T : List τ}, (T.map κ).Nodup → (∀ e ∈ T, ((g e).map kk).Nodup) → (∀ e ∈ T, ∀ c ∈ g e, fst (kk c) = κ e) → ((T.flatMap g).map kk).Nodup
  | [], _, _, _ => List.nodup_nil
  | e :: T, nd, h1, h2 => by
    rw [List.map_cons, List.nodup_cons] at nd
    rw [List.flatMap_cons, List.map_append]
    refine List.nodup_append.mpr ⟨h1 e (List.mem_cons_self ..), flat_nodup nd.2 (fun e he => h1 e (List.mem_cons_of_mem _ he)) (fun e he => h2 e (List.mem_cons_of_mem _ he)), ?_⟩
    intro a ha b hb hab
    obtain ⟨c, hc, rfl⟩ := List.mem_map.mp ha
    obtain ⟨c', hc', rfl⟩ := List.mem_map.mp hb
    obtain ⟨e', he', hc'⟩ := List.mem_flatMap.mp hc'
    have q1 := h2 e (List.mem_cons_self ..) c hc
    have q2 := h2 e' (List.mem_cons_of_mem _ he') c' hc'
    rw [hab, q2] at q1
    exact nd.1 (by rw [← q1]; exact List.mem_map.mpr ⟨e', he', rfl⟩)
theorem filter_self {l : List α} (nd : l.Nodup) {x : α} (h : x ∈ l) : l.filter (fun y => decide (y = x)) = [x] := by
  induction l with
  | nil => cases h
  | cons y l ih =>
    rw [List.nodup_cons] at nd
    rcases List.mem_cons.mp h with rfl | h
    · rw [List.filter_cons, if_pos (by simp)]
      have : l.filter (fun y => decide (y = x)) = [] := List.filter_eq_nil_iff.mpr fun z hz => by
        have : z ≠ x := fun e => nd.1 (e ▸ hz)
        simp [this]
      rw [this]
    · have hne : y ≠ x := fun e => nd.1 (e ▸ h)
      rw [List.filter_cons, if_neg (by simp [hne])]
      exact ih nd.2 h
end
/-! the lines of a section -/
theorem chain_cov {Lx : Int → Option Str} : ∀ {g : List St3} {a z : Int}, Chain Lx a (g.map lbl) z → (∀ x ∈ g, x.1.label ≠ "setup") → Cov a (g.map pl) z
  | [], a, z, h, _ => h
  | x :: g, a, z, h, hn => by
    obtain ⟨h1, h2, h3, h4, h5⟩ := h
    have h1' : x.2.1 = a := h1
    have h2' : x.2.1 < x.2.2 := h2
    show Cov a (pl x :: g.map pl) z
    unfold Cov
    rw [if_neg (show ¬ (pl x).1 = Str.ofString "setup" from hn x (List.mem_cons_self ..))]
    exact ⟨h1', by rw [← h1']; exact h2', chain_cov h5 fun y hy => hn y (List.mem_cons_of_mem _ hy)⟩
theorem chain_nd {Lx : Int → Option Str} : ∀ {g : List St3} {a z : Int}, Chain Lx a (g.map lbl) z → ((g.map pl).map fun l : L4 => (l.2.1, l.1)).Nodup ∧ ∀ l ∈ g.map pl, a ≤ l.2.1
  | [], a, z, _ => ⟨List.nodup_nil, fun l hl => nomatch hl⟩
  | x :: g, a, z, h => by
    obtain ⟨h1, h2, h3, h4, h5⟩ := h
    have h1' : x.2.1 = a := h1
    have h2' : x.2.1 < x.2.2 := h2
    obtain ⟨q1, q2⟩ := chain_nd h5
    refine ⟨?_, fun l hl => ?_⟩
    · rw [List.map_cons, List.map_cons, List.nodup_cons]
      refine ⟨fun hm => ?_, q1⟩
      obtain ⟨l, hl, e⟩ := List.mem_map.mp hm
      have := q2 l hl
      have e1 : l.2.1 = x.2.1 := congrArg Prod.fst e
      have e2 : (lbl x).2.2 = x.2.2 := rfl
      omega
    · rw [List.map_cons] at hl
      rcases List.mem_cons.mp hl with rfl | hl
      · show a ≤ x.2.1
        omega
      · have := q2 l hl
        have e2 : (lbl x).2.2 = x.2.2 := rfl
        omega
theorem linesF_facts {tf : Tariff} (uq : tf.Uniq) {s : Sect} {f : Int} {L : List L4} (h0 : 0 ≤ f) (h1 : f ≤ s.seconds) (h : linesF tf s f = some L) : (L.map fun l : L4 => (l.2.1, l.1)).Nodup ∧ Cov 0 L s.seconds ∧
    ∃ B, L = (if 0 < f then [(("free", 0, f, 0) : L4)] else []) ++ B ∧ ∀ l ∈ B, l.1 ≠ "free" := by
  unfold linesF at h
  obtain ⟨B, hB, rfl⟩ := Option.map_eq_some_iff.mp h
  have hb : (B.map fun l : L4 => (l.2.1, l.1)).Nodup ∧ Cov f B s.seconds ∧ (∀ l ∈ B, f ≤ l.2.1) ∧ ∀ l ∈ B, l.1 ≠ "free" := by
    split at hB
    · next q =>
      unfold priceF at hB
      obtain ⟨g, hg, rfl⟩ := Option.map_eq_some_iff.mp hB
      obtain ⟨_, hm, _⟩ := stretches_facts q hg
      have hs : secF tf s.called s.start f (s.seconds - f).toNat = some (g.map lbl) := by
        rw [stretches_two q, hg]
        rfl
      have hc := secF_chain _ _ hs
      have e : f + ((s.seconds - f).toNat : Int) = s.seconds := by omega
      rw [e] at hc
      have hlab : ∀ x ∈ g, LabOk x.1.label := fun x hx => uq.2 _ (List.mem_map.mpr ⟨x.1, hm x hx, rfl⟩)
      obtain ⟨n1, n2⟩ := chain_nd hc
      have hcov := chain_cov hc fun x hx => (hlab x hx).1
      refine ⟨?_, ?_, fun l hl => ?_, fun l hl => ?_⟩
      · rw [List.map_cons, List.nodup_cons]
        refine ⟨fun hmem => ?_, n1⟩
        obtain ⟨l, hl, e⟩ := List.mem_map.mp hmem
        obtain ⟨x, hx, rfl⟩ := List.mem_map.mp hl
        exact (hlab x hx).1 (congrArg Prod.snd e)
      · unfold Cov
        rw [if_pos rfl]
        exact ⟨rfl, hcov⟩
      · rcases List.mem_cons.mp hl with rfl | hl
        · exact Int.le_refl _
        · exact n2 l hl
      · rcases List.mem_cons.mp hl with rfl | hl
        · show ¬ Str.ofString "setup" = Str.ofString "free"
          decide +kernel
        · obtain ⟨x, hx, rfl⟩ := List.mem_map.mp hl
          exact (hlab x hx).2
    · cases hB
      refine ⟨List.nodup_nil, ?_, (fun l hl => nomatch hl), fun l hl => nomatch hl⟩
      show f = s.seconds
      omega
  obtain ⟨b1, b2, b3, b4⟩ := hb
  by_cases hf : 0 < f
  · rw [if_pos hf]
    refine ⟨?_, ?_, B, by rw [if_pos hf]; rfl, b4⟩
    · rw [List.map_cons, List.nodup_cons]
      refine ⟨fun hmem => ?_, b1⟩
      obtain ⟨l, hl, e⟩ := List.mem_map.mp hmem
      have := b3 l hl
      have e1 : l.2.1 = 0 := congrArg Prod.fst e
      omega
    · unfold Cov
      rw [if_neg (by decide +kernel : ¬ Str.ofString "free" = Str.ofString "setup")]
      exact ⟨rfl, hf, b2⟩
  · have e : f = 0 := by omega
    rw [if_neg hf]
    refine ⟨b1, by rw [← e]; exact b2, B, by rw [if_neg hf]; rfl, b4⟩
/-! what the law asks of each section -/
structure Told (E : Env5) (l : List Sect) (ch : List Chg) (lf : List Lft) : Prop where
  nd : (ch.map (·.1)).Nodup
  own : ∀ c ∈ ch, c.1.1 ∈ l.map Sect.owner
  lown : ∀ x ∈ lf, x.1 ∈ l.map Sect.owner
  sec : ∀ s ∈ l, (s.free = true ∧ ch.filter (fun c => decide (c.1.1 = s.owner)) = [] ∧ lf.filter (fun x => decide (x.1 = s.owner)) = []) ∨
    (s.free = false ∧ ch.filter (fun c => decide (c.1.1 = s.owner)) = [] ∧ (lf.filter (fun x => decide (x.1 = s.owner))).length = 1) ∨
    (s.free = false ∧ lf.filter (fun x => decide (x.1 = s.owner)) = [] ∧ ∃ u a n tf f L, Fair E u ∧ f = freeF E u s a ∧ inF E.hist (s.payer.getD "") s.opened = some (a, n) ∧ valG E.tfs n = some tf ∧ linesF tf s f = some L ∧ ch.filter (fun c => decide (c.1.1 = s.owner)) = L.map (mkChg s.owner a))
theorem told {E : Env5} (eok : E.Ok) {l : List Sect} (hok : ∀ s ∈ l, s.Ok) (nd : (l.map Sect.owner).Nodup) : Told E l (chargeF E l).charges (chargeF E l).left := by
  obtain ⟨h1, h2⟩ := trace_all E (inOrder l) ⟨[], [], []⟩
  have hok2 : ∀ s ∈ inOrder l, s.Ok := fun s hs => hok s (inOrder_mem.mp hs)
  have fair0 : Fair E ([] : Used) := fun a m => ⟨Int.le_refl _, alwF_pos eok a⟩
  have hmem := trace_mem (E := E) (m := inOrder l) (st := ⟨[], [], []⟩) hok2 fair0
  have hfst := trace_fst (E := E) (m := inOrder l) (st := ⟨[], [], []⟩)
  have h1' : (chargeF E l).charges = (traceF E ⟨[], [], []⟩ (inOrder l)).flatMap chgsOf := h1
  have h2' : (chargeF E l).left = (traceF E ⟨[], [], []⟩ (inOrder l)).flatMap lftOf := h2
  rw [h1', h2']
  generalize traceF E ⟨[], [], []⟩ (inOrder l) = T at hmem hfst
  have ndo : ((inOrder l).map Sect.owner).Nodup := (((List.mergeSort_perm l _).map Sect.owner).nodup_iff).mpr nd
  have ndT : (T.map fun e => e.1.owner).Nodup := by
    have e : (T.map fun e => e.1.owner) = (T.map (·.1)).map Sect.owner := by rw [List.map_map]; rfl
    rw [e, hfst]
    exact ndo.sublist (List.filter_sublist.map _)
  have hck : ∀ e ∈ T, ∀ c ∈ chgsOf e, c.1.1 = e.1.owner := by
    rintro ⟨s, o⟩ _ c hc
    cases o with
    | inl r => exact nomatch hc
    | inr x =>
      obtain ⟨z, _, rfl⟩ := List.mem_map.mp hc
      rfl
  have hlk : ∀ e ∈ T, ∀ c ∈ lftOf e, c.1 = e.1.owner := by
    rintro ⟨s, o⟩ _ c hc
    cases o with
    | inl r =>
      have : c = (s.owner, r) := by simpa [lftOf] using hc
      rw [this]
    | inr x => exact nomatch hc
  have hlin : ∀ e ∈ T, ∀ (a : Str) (f : Int) (L : List L4), e.2 = .inr (a, f, L) → ∃ u n tf, Fair E u ∧ f = freeF E u e.1 a ∧ inF E.hist (e.1.payer.getD "") e.1.opened = some (a, n) ∧ valG E.tfs n = some tf ∧ linesF tf e.1 f = some L := by
    intro e he a f L hx
    obtain ⟨_, _, u, fu, ho⟩ := hmem e he
    rw [hx] at ho
    obtain ⟨hf, n, tf, h1, h2, h3⟩ := oneF_lines ho.symm
    exact ⟨u, n, tf, fu, hf, h1, h2, h3⟩
  refine ⟨?_, ?_, ?_, ?_⟩
  · refine flat_nodup (κ := fun e : Sect × Out5 => e.1.owner) (fst := fun k : Own × Int × Str => k.1) ndT (fun e he => ?_) hck
    obtain ⟨s, o⟩ := e
    cases o with
    | inl r => exact List.nodup_nil
    | inr x =>
      obtain ⟨a, f, L⟩ := x
      obtain ⟨u, n, tf, fu, hf, h1, h2, h3⟩ := hlin _ he a f L rfl
      have sok := hok2 s (hmem _ he).1
      have hb := freeF_bounds (E := E) sok.s0 fu a
      have hn := (linesF_facts (eok.u _ (valG_mem1 h2)) (hf ▸ hb.1) (hf ▸ hb.2.1) h3).1
      show ((L.map (mkChg s.owner a)).map (·.1)).Nodup
      rw [List.map_map]
      have e : (L.map ((·.1) ∘ mkChg s.owner a)) = (L.map fun l : L4 => (l.2.1, l.1)).map fun k => (s.owner, k) := by rw [List.map_map]; rfl
      rw [e]
      exact List.Pairwise.map _ (fun a b hab z => hab (Prod.mk.inj z).2) hn
  · intro c hc
    obtain ⟨e, he, hc⟩ := List.mem_flatMap.mp hc
    rw [hck e he c hc]
    exact List.mem_map.mpr ⟨e.1, inOrder_mem.mp (hmem e he).1, rfl⟩
  · intro c hc
    obtain ⟨e, he, hc⟩ := List.mem_flatMap.mp hc
    rw [hlk e he c hc]
    exact List.mem_map.mpr ⟨e.1, inOrder_mem.mp (hmem e he).1, rfl⟩
  · intro s hs
    have inj : ∀ z ∈ l, z.owner = s.owner → z = s := fun z hz e => by
      have h1 := filter_own nd hs
      have h2 : z ∈ l.filter (fun y => decide (y.owner = s.owner)) := List.mem_filter.mpr ⟨hz, decide_eq_true e⟩
      rw [h1] at h2
      exact List.mem_singleton.mp h2
    cases hfr : s.free with
    | true =>
      have hno : ∀ e ∈ T, e.1.owner ≠ s.owner := fun e he z => by
        have := inj e.1 (inOrder_mem.mp (hmem e he).1) z
        have h2 := (hmem e he).2.1
        rw [this, hfr] at h2
        cases h2
      exact .inl ⟨rfl, flat_none (κ := fun e : Sect × Out5 => e.1.owner) (key := fun c : Chg => c.1.1) hck hno, flat_none (κ := fun e : Sect × Out5 => e.1.owner) (key := fun c : Lft => c.1) hlk hno⟩
    | false =>
      obtain ⟨e, he, hes⟩ : ∃ e ∈ T, e.1 = s := by
        have : s ∈ T.map (·.1) := by
          rw [hfst]
          exact List.mem_filter.mpr ⟨inOrder_mem.mpr hs, by rw [hfr]; rfl⟩
        obtain ⟨e, he, q⟩ := List.mem_map.mp this
        exact ⟨e, he, q⟩
      have c1 := flat_one (κ := fun e : Sect × Out5 => e.1.owner) (key := fun c : Chg => c.1.1) ndT hck he
      have c2 := flat_one (κ := fun e : Sect × Out5 => e.1.owner) (key := fun c : Lft => c.1) ndT hlk he
      obtain ⟨z, o⟩ := e
      have hes' : z = s := hes
      subst hes'
      cases o with
      | inl r =>
        refine .inr (.inl ⟨rfl, c1, ?_⟩)
        rw [c2]
        rfl
      | inr x =>
        obtain ⟨a, f, L⟩ := x
        obtain ⟨u, n, tf, fu, hf, h1, h2, h3⟩ := hlin _ he a f L rfl
        exact .inr (.inr ⟨rfl, c2, u, a, n, tf, f, L, fu, hf, h1, h2, h3, c1⟩)
theorem trace_at {E : Env5} : ∀ {m : List Sect} {st : St5} {i : Nat} {s : Sect}, m[i]? = some s → s.free = false → (s, oneF E ((m.take i).foldl (stepF E) st).used s) ∈ traceF E st m
  | [], st, i, s, h, _ => by simp at h
  | z :: m, st, 0, s, h, hf => by
    have e : z = s := by simpa using h
    subst e
    unfold traceF
    rw [hf]
    simp
  | z :: m, st, i + 1, s, h, hf => by
    have h' : m[i]? = some s := by simpa using h
    rw [List.take_succ_cons, List.foldl_cons]
    have ih := trace_at (E := E) (st := stepF E st z) h' hf
    unfold traceF
    cases hz : z.free with
    | true =>
      have : stepF E st z = st := by unfold stepF; rw [hz]; rfl
      rw [this] at ih ⊢
      simpa using ih
    | false =>
      have : stepF E st z = takeF E st z := by unfold stepF; rw [hz]; rfl
      rw [this] at ih ⊢
      simp only [Bool.false_eq_true, if_false]
      exact List.mem_cons_of_mem _ ih
/-- the charges of the i-th section -/
theorem told_at {E : Env5} (eok : E.Ok) {l : List Sect} (hok : ∀ s ∈ l, s.Ok) (nd : (l.map Sect.owner).Nodup) {i : Nat} {s : Sect} (hx : (inOrder l)[i]? = some s) :
    (s.free = true ∧ (chargeF E l).charges.filter (fun c => decide (c.1.1 = s.owner)) = []) ∨ (s.free = false ∧ (chargeF E l).charges.filter (fun c => decide (c.1.1 = s.owner)) = chgsOf (s, oneF E (((inOrder l).take i).foldl (stepF E) ⟨[], [], []⟩).used s)) := by
  have hs : s ∈ l := inOrder_mem.mp (List.mem_of_getElem? hx)
  cases hf : s.free with
  | true =>
    rcases (told eok hok nd).sec s hs with ⟨_, h, _⟩ | ⟨h, _⟩ | ⟨h, _⟩
    · exact .inl ⟨rfl, h⟩
    · rw [hf] at h; cases h
    · rw [hf] at h; cases h
  | false =>
    refine .inr ⟨rfl, ?_⟩
    have hat := trace_at (E := E) (st := ⟨[], [], []⟩) hx hf
    have hok2 : ∀ s ∈ inOrder l, s.Ok := fun s hs => hok s (inOrder_mem.mp hs)
    have hfst := trace_fst (E := E) (m := inOrder l) (st := ⟨[], [], []⟩)
    have h1' : (chargeF E l).charges = (traceF E ⟨[], [], []⟩ (inOrder l)).flatMap chgsOf := (trace_all E (inOrder l) ⟨[], [], []⟩).1
    rw [h1']
    have ndo : ((inOrder l).map Sect.owner).Nodup := (((List.mergeSort_perm l _).map Sect.owner).nodup_iff).mpr nd
    have ndT : ((traceF E ⟨[], [], []⟩ (inOrder l)).map fun e => e.1.owner).Nodup := by
      have e : ((traceF E ⟨[], [], []⟩ (inOrder l)).map fun e => e.1.owner) = ((traceF E ⟨[], [], []⟩ (inOrder l)).map (·.1)).map Sect.owner := by rw [List.map_map]; rfl
      rw [e, hfst]
      exact ndo.sublist (List.filter_sublist.map _)
    refine flat_one (κ := fun e : Sect × Out5 => e.1.owner) (key := fun c : Chg => c.1.1) ndT ?_ hat
    rintro ⟨s, o⟩ _ c hc
    cases o with
    | inl r => exact nomatch hc
    | inr x =>
      obtain ⟨z, _, rfl⟩ := List.mem_map.mp hc
      rfl
theorem usedSum_own {CH : List Chg} {o : Own} : usedSum CH o = usedSum (CH.filter fun c => decide (c.1.1 = o)) o := by
  unfold usedSum
  rw [List.filter_filter]
  congr 2
  refine List.filter_congr fun c _ => ?_
  show isF o c = (isF o c && decide (c.1.1 = o))
  unfold isF
  cases decide (c.1.1 = o) <;> simp
theorem usedSum_lines {tf : Tariff} (uq : tf.Uniq) {s : Sect} {f : Int} {L : List L4} (h0 : 0 ≤ f) (h1 : f ≤ s.seconds) (h : linesF tf s f = some L) {a : Str} : usedSum (L.map (mkChg s.owner a)) s.owner = f := by
  obtain ⟨_, _, B, rfl, hB⟩ := linesF_facts uq h0 h1 h
  unfold usedSum
  have hBn : (B.map (mkChg s.owner a)).filter (isF s.owner) = [] := List.filter_eq_nil_iff.mpr fun c hc => by
    obtain ⟨z, hz, rfl⟩ := List.mem_map.mp hc
    have := hB z hz
    simp [isF, mkChg, this]
  rw [List.map_append, List.filter_append, hBn, List.append_nil]
  by_cases hf : 0 < f
  · rw [if_pos hf]
    simp [isF, mkChg]
  · rw [if_neg hf]
    simp
    omega
@[reducible] def quadD (s : Sect) : D := .tup [.int s.opened, ownD s.owner, .int s.seconds, .str (s.payer.getD "None")]
theorem own_alike {o o' : Own} : PySem.W.alike (ownD o).pyd (ownD o').pyd = true := by simp [ownD, D.pyd, D.pyds, PySem.W.alike, PySem.W.alikeAll]
theorem quad_sorts {l : List Sect} : Sorts ((l.map quadD).map D.pyd) := by
  refine ⟨fun d hd d' hd' => ?_, .inl fun d hd => ?_, fun d hd => ?_⟩
  · obtain ⟨x, hx, rfl⟩ := List.mem_map.mp hd
    obtain ⟨y, hy, rfl⟩ := List.mem_map.mp hd'
    obtain ⟨a, _, rfl⟩ := List.mem_map.mp hx
    obtain ⟨b, _, rfl⟩ := List.mem_map.mp hy
    simp [quadD, ownD, D.pyd, D.pyds, PySem.W.alike, PySem.W.alikeAll]
  · obtain ⟨x, hx, rfl⟩ := List.mem_map.mp hd
    obtain ⟨a, _, rfl⟩ := List.mem_map.mp hx
    exact ⟨(D.int a.opened).pyd, D.pyds [ownD a.owner, .int a.seconds, .str (a.payer.getD "None")], by simp only [quadD, D.pyd, D.pyds]⟩
  · obtain ⟨x, hx, rfl⟩ := List.mem_map.mp hd
    obtain ⟨a, _, rfl⟩ := List.mem_map.mp hx
    simp [quadD, ownD, D.pyd, D.pyds, PyData.depth, PyData.depthAll]
theorem quad_lt {a b : Sect} (h : a.owner = b.owner → a = b) : PySem.W.dataLt (quadD a).pyd (quadD b).pyd = PySem.W.dataLt (placeD a).pyd (placeD b).pyd := by
  have e1 : ∀ s : Sect, (quadD s).pyd = .tuple [.int s.opened, (ownD s.owner).pyd, .int s.seconds, .str (s.payer.getD "None")] := fun s => by simp only [quadD, D.pyd, D.pyds]
  have e2 : ∀ s : Sect, (placeD s).pyd = .tuple [.int s.opened, (ownD s.owner).pyd] := fun s => by simp only [placeD, D.pyd, D.pyds]
  have hi : PySem.W.alike (.int a.opened) (.int b.opened) = true := by simp [PySem.W.alike]
  have hal := own_alike (o := a.owner) (o' := b.owner)
  rw [e1, e1, e2, e2, PySem.W.dataLt_tuple, PySem.W.dataLt_tuple]
  generalize hA : (ownD a.owner).pyd = A at hal ⊢
  generalize hB : (ownD b.owner).pyd = B at hal ⊢
  rw [PySem.W.dataLt_cons hi [A, .int a.seconds, .str (a.payer.getD "None")] [B, .int b.seconds, .str (b.payer.getD "None")], PySem.W.dataLt_cons hi [A] [B], PySem.W.dataLt_cons hal [.int a.seconds, .str (a.payer.getD "None")] [.int b.seconds, .str (b.payer.getD "None")], PySem.W.dataLt_cons hal [] []]
  by_cases e : a.owner = b.owner
  · have := h e
    subst this
    simp only [PyProof.Rows.lex_irrefl]
  · have hne : PyData.eqv A B = false := by
      rw [← hA, ← hB, eqv_eqb _ _ rfl rfl, own_eqb]
      exact decide_eq_false e
    rw [hne]
    simp
theorem inOrder_quad {l : List Sect} (nd : (l.map Sect.owner).Nodup) : (l.map quadD).mergeSort leD = (inOrder l).map quadD := by
  refine (List.map_mergeSort (f := quadD) fun a ha b hb => ?_).symm
  have inj : b.owner = a.owner → b = a := fun e => by
    have h1 := filter_own nd ha
    have h2 : b ∈ l.filter (fun y => decide (y.owner = a.owner)) := List.mem_filter.mpr ⟨hb, decide_eq_true e⟩
    rw [h1] at h2
    exact List.mem_singleton.mp h2
  show (!PySem.W.dataLt (placeD b).pyd (placeD a).pyd) = !PySem.W.dataLt (quadD b).pyd (quadD a).pyd
  rw [quad_lt inj]
theorem quad_dat {l : List Sect} (h : ∀ s ∈ l, ∀ p, s.payer = some p → okS p = true ∧ p.length ≤ 10) : D.areDat (l.map quadD) = true := D.areDat_mem fun d hd => by
  obtain ⟨s, hs, rfl⟩ := List.mem_map.mp hd
  simp only [D.isDat, D.areDat, Bool.and_true, Bool.true_and]
  cases hp : s.payer with
  | none => exact (by decide +kernel : okS "None" = true)
  | some p => exact (h s hs p hp).1
/-- what the law counts of an account in a month -/
structure Month (E : Env5) (u : Used) (A : Str) (m : Int) (paying : Bool) (used wanted : Int) : Prop where
  u : used = uval u A m
  n : paying = false → used = wanted
  p : paying = true → used = alwF E A
  w : used ≤ wanted
theorem Month.take {E : Env5} {st : St5} {A : Str} {m : Int} {paying : Bool} {used wanted : Int} (h : Month E st.used A m paying used wanted) (fair : Fair E st.used) {s : Sect} (hs : 0 ≤ s.seconds) (hf : s.free = false) {f : Int} {L : List L4} (ho : oneF E st.used s = .inr (A, f, L)) (hm : s.opened / 2592000 = m) :
    (0 < f → paying = false) ∧ Month E (stepF E st s).used A m (paying || decide (f < s.seconds)) (used + f) (wanted + s.seconds) := by
  obtain ⟨hfe, n, tf, hin, ht, hL⟩ := oneF_lines ho
  have hb := freeF_bounds (E := E) hs fair A
  rw [← hfe, hm] at hb
  have hu := h.u
  have hst : (stepF E st s).used = putG st.used (ukey A m) (uval st.used A m + f) := by
    unfold stepF takeF
    rw [hf, ho, hm]
    rfl
  have hleft : leftF E st.used A m = alwF E A - used := by unfold leftF; rw [hu]
  have hfc := fair A m
  refine ⟨fun h0 => ?_, ?_, ?_, ?_, ?_⟩
  · cases hp : paying with
    | false => rfl
    | true =>
      have := h.p hp
      omega
  · rw [hst, uval_put, if_pos ⟨rfl, rfl⟩, hu]
  · intro hp
    rw [Bool.or_eq_false_iff] at hp
    have h1 := h.n hp.1
    have h2 := of_decide_eq_false hp.2
    omega
  · intro hp
    cases hpp : paying with
    | true =>
      have := h.p hpp
      omega
    | false =>
      rw [hpp, Bool.false_or] at hp
      have h2 := of_decide_eq_true hp
      have h3 : f = leftF E st.used A m := by
        rw [hfe]
        unfold freeF
        rw [hm]
        split
        · rfl
        · next q =>
          rw [hfe] at h2
          unfold freeF at h2
          rw [hm, if_neg q] at h2
          omega
      omega
  · have := h.w
    omega
theorem Month.other {E : Env5} {st : St5} {A : Str} {m : Int} {paying : Bool} {used wanted : Int} (h : Month E st.used A m paying used wanted) {s : Sect} (hn : ∀ a f L, s.free = false → oneF E st.used s = .inr (a, f, L) → ¬ (s.opened / 2592000 = m ∧ a = A)) : Month E (stepF E st s).used A m paying used wanted := by
  refine ⟨?_, h.n, h.p, h.w⟩
  rw [h.u]
  unfold stepF
  split
  · rfl
  · next hf =>
    have hf' : s.free = false := by simpa using hf
    unfold takeF
    cases ho : oneF E st.used s with
    | inl r => rfl
    | inr x =>
      obtain ⟨a, f, L⟩ := x
      show _ = uval (putG st.used (ukey a (s.opened / 2592000)) _) A m
      rw [uval_put, if_neg fun z => hn a f L hf' ho ⟨z.2, z.1⟩]
theorem cov_ne {L : List L4} {n : Int} (h : Cov 0 L n) (hn : 0 < n) : L ≠ [] := fun e => by
  rw [e] at h
  simp only [Cov] at h
  omega
/-! ### the law of free seconds -/
theorem alw_two' {l : List (Str × Int)} (hk : l.map (·.1) = [Str.ofString "ann", Str.ofString "firm"]) {a : Str} (ha : a ∈ twoS) : ∃ x, valG l a = some x := by
  obtain ⟨x, y, rfl⟩ : ∃ x y, l = [x, y] := by
    cases l with
    | nil => simp at hk
    | cons x l =>
      cases l with
      | nil => simp at hk
      | cons y l =>
        cases l with
        | nil => exact ⟨x, y, rfl⟩
        | cons z l => simp at hk
  rw [List.map_cons, List.map_cons, List.map_nil, List.cons.injEq, List.cons.injEq] at hk
  obtain ⟨h1, h2, -⟩ := hk
  unfold valG
  simp only [List.mem_cons, List.not_mem_nil, or_false] at ha
  rw [List.find?_cons, List.find?_cons]
  rcases ha with rfl | rfl
  · rw [h1, decide_eq_true rfl]
    exact ⟨_, rfl⟩
  · by_cases e : x.1 = Str.ofString "firm"
    · rw [decide_eq_true e]; exact ⟨_, rfl⟩
    · rw [decide_eq_false e, h2, decide_eq_true rfl]
      exact ⟨_, rfl⟩
theorem Fair.fold {E : Env5} : ∀ {m : List Sect} {st : St5}, (∀ s ∈ m, s.Ok) → Fair E st.used → Fair E (m.foldl (stepF E) st).used
  | [], _, _, h => h
  | s :: m, st, hm, h => by
    rw [List.foldl_cons]
    exact Fair.fold (fun z hz => hm z (List.mem_cons_of_mem _ hz)) (h.step (hm s (List.mem_cons_self ..)).s0)
theorem usedSum_step {CH : List Chg} {o : Own} {i : Nat} {c : Chg} (h : CH[i]? = some c) : usedSum (CH.take (i + 1)) o = usedSum (CH.take i) o + if isF o c then c.2.2.1 - c.1.2.1 else 0 := by
  unfold usedSum
  rw [List.take_add_one, h, List.filter_append, List.map_append, List.sum_append]
  congr 1
  show ((List.filter (isF o) [c]).map _).sum = _
  rw [List.filter_cons]
  split <;> simp
theorem charges_len {E : Env5} (eok : E.Ok) {l : List Sect} (hok : ∀ s ∈ l, s.Ok) (hl : l.length ≤ 100) : (chargeF E l).charges.length ≤ 5000000 := by
  have gen : ∀ (m : List Sect) (st : St5), (∀ s ∈ m, s.Ok) → Fair E st.used → (m.foldl (stepF E) st).charges.length ≤ st.charges.length + m.length * 20002 := by
    intro m
    induction m with
    | nil => intro st _ _; exact Nat.le_add_right _ _
    | cons s m ih =>
      intro st hm hf
      have hs := hm s (List.mem_cons_self ..)
      have h1 := (stepF_len hs hf).1
      have h2 := ih (stepF E st s) (fun z hz => hm z (List.mem_cons_of_mem _ hz)) (hf.step hs.s0)
      rw [List.foldl_cons, List.length_cons]
      omega
  have h := gen (inOrder l) ⟨[], [], []⟩ (fun s hs => hok s (inOrder_mem.mp hs)) fun a m => ⟨Int.le_refl _, alwF_pos eok a⟩
  rw [inOrder_len] at h
  unfold chargeF
  have h3 : l.length * 20002 ≤ 100 * 20002 := Nat.mul_le_mul_right _ hl
  simp only [List.length_nil] at h
  omega
theorem rd_law_used {K : PySem.W.Frag} {cl : Nat → Addr} [Cf K cl] {vs H Q E} (h : sp_law_used K cl vs H Q E) : t_law_used K cl ⟨fun _ H' => Q .non H', Q, fun _ _ => False, fun _ _ => False⟩ (start ["charges", "owner", "used", "charge"] vs) H := by
  obtain ⟨ds, d, G, M, ⟨CH, o, rfl, rfl⟩, S, rs, q⟩ := h
  obtain ⟨v0, v1, rfl, r0, r1⟩ := reps2 rs
  clear rs
  unfold t_law_used
  refine s_seq ?_
  refine s_asg (K := K) (cl := cl) (d := .int 0) S ev_int ?_
  intro w2 G1 H1 g1 q1
  obtain rfl := q1.of_int
  refine s_seq ?_
  apply s_forL (K := K) (cl := cl) (ds := List.map chgD CH) (fun i σ G' M' => ∃ (y3 : Option V), σ = [some v0, some v1, some (.int (usedSum (CH.take i) o)), y3] ∧ M' = M) g1.sep
  · exact ev_var (i := 0) rfl (r0.mono g1.same)
  · intro G2 H2 g2
    exact ⟨_, rfl, rfl⟩
  · rintro G2 s2 i x d σ' G3 H3 M3 hd s3 S3 r3 ⟨y3, rfl, rfl⟩
    rw [List.getElem?_map] at hd
    cases hx : CH[i]? with
    | none => rw [hx] at hd; cases hd
    | some c =>
    rw [hx] at hd
    cases hd
    have r13 := r1.mono (g1.same.trans (s2.trans s3))
    have hstep := usedSum_step (o := o) hx
    refine s_gname ?_
    refine s_if (K := K) (cl := cl) (b := isF o c) S3 (EvT.is (et_and (p := true) (q := true) (a := D.eqb (ownD c.1.1) (ownD o)) (b := decide (c.1.2.2 = "free")) (et_test (ev_op (p := true) (q := true) (r := true) (ev_op (p := true) (q := true) (r := true) (ev_fld (p := true) (d := ckeyD c.1) (ev_var (i := 3) rfl r3) (by walk_at "cf") (by walk_at "cf") rfl) ev_int (o_ixT (i := 0) (d := ownD c.1.1) rfl)) (ev_var (i := 1) rfl r13) (o_eqD rfl rfl (by show (1 : Nat) ≤ 64; decide) (by show (1 : Nat) ≤ 64; decide)))) fun _ => et_test (ev_op (p := true) (q := true) (r := true) (ev_op (p := true) (q := true) (r := true) (ev_fld (p := true) (d := ckeyD c.1) (ev_var (i := 3) rfl r3) (by walk_at "cf") (by walk_at "cf") rfl) ev_int (o_ixT (i := 2) (d := .str c.1.2.2) rfl)) ev_str (o_eq rfl))) (by rw [own_eqb])) ?_ ?_
    · intro G4 H4 g4 hb
      rw [hb, if_pos rfl] at hstep
      have r34 := r3.mono g4.same
      refine s_asg (K := K) (cl := cl) g4.sep (ev_op (p := true) (q := true) (r := true) (ev_op (p := true) (q := true) (r := true) (ev_var (i := 2) rfl Rep.int) (ev_fld (p := true) (d := .int c.2.2.1) (ev_var (i := 3) rfl r34) (by walk_at "cf") (by walk_at "cf") rfl) o_add_int) (ev_op (p := true) (q := true) (r := true) (ev_fld (p := true) (d := ckeyD c.1) (ev_var (i := 3) rfl r34) (by walk_at "cf") (by walk_at "cf") rfl) ev_int (o_ixT (i := 1) (d := .int c.1.2.1) rfl)) o_sub) ?_
      intro w5 G5 H5 g5 q5
      obtain rfl := q5.of_int
      refine ⟨G5, _, s3.trans (g4.same.trans g5.same), g5.sep, some x, ?_, rfl⟩
      have e : usedSum (List.take i CH) o + c.2.2.1 - c.1.2.1 = usedSum (List.take (i + 1) CH) o := by omega
      rw [← e]
      rfl
    · intro G4 H4 g4 hb
      rw [hb] at hstep
      refine s_next ⟨G4, _, s3.trans g4.same, g4.sep, some x, ?_, rfl⟩
      have e : usedSum (List.take i CH) o = usedSum (List.take (i + 1) CH) o := by rw [hstep]; simp
      rw [← e]
      rfl
  rintro σ' G3 H3 M3 s3 S3 ⟨y3, rfl, rfl⟩
  rw [List.length_map, List.take_length]
  refine s_ret (K := K) (cl := cl) S3 (ev_var (i := 2) rfl Rep.int) fun v G4 H4 g4 r4 => ?_
  exact q v G4 H4 (g1.same.trans (s3.trans g4.same)) g4.sep r4
theorem own_any {CH : List Chg} {o : Own} : ((CH.map fun c => ownD c.1.1).any fun z => D.eqb z (ownD o)) = !(CH.filter fun c => decide (c.1.1 = o)).isEmpty := by
  rw [List.any_map]
  induction CH with
  | nil => rfl
  | cons c CH ih =>
    rw [List.any_cons, List.filter_cons]
    by_cases h : c.1.1 = o
    · simp [own_eqb, h]
    · rw [if_neg (by simp [h]), ih]
      simp [own_eqb, h]
theorem on_strO {K : PySem.W.Frag} {cl : Nat → Addr} {M : ML} {o : Option Str} : OpN K cl true rStrO M [optS o] (.str (o.getD "None")) M := on_val fun G1 H1 S us ru => by
  obtain ⟨u, rfl, hu⟩ := reps1 ru
  cases o with
  | none =>
    obtain rfl := hu.of_non
    exact ⟨_, Rep.str, fun Q q => .inl ⟨rfl, q⟩⟩
  | some a =>
    obtain rfl := hu.of_str
    exact ⟨_, Rep.str, fun Q q => .inr ⟨a, rfl, q⟩⟩
theorem rd_law_holds {K : PySem.W.Frag} {cl : Nat → Addr} [Cf K cl] {vs H Q E} (h : sp_law_holds K cl vs H Q E) : t_law_holds K cl ⟨fun _ H' => Q .non H', Q, fun _ _ => False, fun _ _ => False⟩ (start ["sections", "contracts", "tariffs", "allowances", "charges", "refused", "charged", "account", "month", "paying", "used", "wanted", "opened", "owner", "seconds", "payer", "contract", "free", "charge", "s"] vs) H := by
  obtain ⟨ds, d, G, M, ⟨l, E, rfl, eok, hh, hl, hk, rfl⟩, S, rs, q⟩ := h
  obtain ⟨v0, v1, v2, v3, rfl, r0, r1, r2, r3⟩ := reps4 rs
  clear rs
  have hok : ∀ s ∈ l, s.Ok := fun s hs => (hl.ok s hs).1
  have hlen := hl.len
  unfold t_law_holds
  refine s_seq ?_
  refine s_asgT (K := K) (cl := cl) S (ev_call (p := true) (ea_cons (p := true) (ev_var (i := 0) rfl r0) (ea_cons (p := true) (ev_var (i := 1) rfl r1) (ea_cons (p := true) (ev_var (i := 2) rfl r2) (ea_cons (p := true) (ev_var (i := 3) rfl r3) ea_nil)))) ⟨l, E, rfl, eok, hok, Nat.le_trans hlen (by decide), rfl⟩) rfl rfl ?_
  intro vs G1 H1 g1 rvs
  obtain ⟨w4, w5, rfl, q4, q5⟩ := reps2 rvs
  have s1 := g1.same
  have S1 := g1.sep
  clear g1 rvs
  have hcl := charges_len eok hok hlen
  have hTA := fun (i : Nat) (s : Sect) => told_at (i := i) (s := s) eok hok hl.nd
  have hFin : Fair E (chargeF E l).used := Fair.fold (fun s hs => hok s (inOrder_mem.mp hs)) fun a m => ⟨Int.le_refl _, alwF_pos eok a⟩
  have hEnd : (inOrder l).foldl (stepF E) ⟨[], [], []⟩ = chargeF E l := rfl
  generalize chargeF E l = ST at *
  obtain ⟨us, CH, LF⟩ := ST
  dsimp only at hcl hTA hFin q4 q5
  refine s_seq ?_
  refine s_asg (K := K) (cl := cl) (d := .lst (List.map (fun c : Chg => ownD c.1.1) CH)) S1 (by
    (with_reducible apply EvX.is)
    · apply ev_lcG (l := CH) (enc := chgD) (f := fun c => ownD c.1.1) (keep := fun _ => true)
      · exact ev_var (i := 4) rfl q4
      · rfl
      · omega
      · intro Ga ee x c sa hc rc
        exact lcT1 rfl et_yes fun _ => ev_op (p := true) (q := true) (r := true) (ev_fld (p := true) (d := ckeyD c.1) (ev_var (i := 18) rfl rc) (by walk_at "cf") (by walk_at "cf") rfl) ev_int (o_ixT (i := 0) (d := ownD c.1.1) rfl)
    · rw [List.filter_eq_self.mpr (fun _ _ => rfl)]) ?_
  intro w6 G2 H2 g2 q6
  have s2 := g2.same
  have S2 := g2.sep
  clear g2
  have howd : D.areDat (List.map (fun c : Chg => ownD c.1.1) CH) = true := D.areDat_mem fun d hd => by
    obtain ⟨o, _, rfl⟩ := List.mem_map.mp hd
    rfl
  have howp : D.deps (List.map (fun c : Chg => ownD c.1.1) CH) ≤ 63 := by
    have : D.deps (List.map (fun c : Chg => ownD c.1.1) CH) ≤ 1 := D.deps_mem fun d hd => by
      obtain ⟨o, _, rfl⟩ := List.mem_map.mp hd
      show (1 : Nat) ≤ 1
      decide
    omega
  have r02 := r0.mono (s1.trans s2)
  have r12 := r1.mono (s1.trans s2)
  have r32 := r3.mono (s1.trans s2)
  have q42 := q4.mono s2
  refine s_seq ?_
  apply s_forT (K := K) (cl := cl) (ds := List.map D.str twoS) (fun i σ G' M' => ∃ (y7 y8 y9 y10 y11 y12 y13 y14 y15 y16 y17 : Option V), σ = [some v0, some v1, some v2, some v3, some w4, some w5, some w6, y7, y8, y9, y10, y11, y12, y13, y14, y15, y16, y17, none, none] ∧ M' = M) S2
  · exact ev_tup (p := true) (ea_cons (p := true) ev_str (ea_cons (p := true) ev_str ea_nil)) (by decide)
  · intro G3 H3 g3
    exact ⟨_, _, _, _, _, _, _, _, _, _, _, rfl, rfl⟩
  · rintro G3 s3 j x d σ' G4 H4 M4 hd s4 S4 r4 ⟨y7, y8, y9, y10, y11, y12, y13, y14, y15, y16, y17, rfl, rfl⟩
    obtain ⟨A, rfl, hA⟩ := twoS_at hd
    obtain rfl := r4.of_str
    have hA2 := List.mem_of_getElem? hA
    obtain ⟨xA, hxA⟩ := alw_two' hk hA2
    have hAx : alwF E A = xA := by unfold alwF; rw [hxA]; rfl
    refine s_gname ?_
    have s34 := s3.trans s4
    apply s_forR2 (K := K) (cl := cl) (lo := 1) (n := 4) (fun i σ G' M' => ∃ (y8 y9 y10 y11 y12 y13 y14 y15 y16 y17 : Option V), σ = [some v0, some v1, some v2, some v3, some w4, some w5, some w6, some (.str A), y8, y9, y10, y11, y12, y13, y14, y15, y16, y17, none, none] ∧ M' = M4) S4
    · exact ea_cons (p := true) ev_int (ea_cons (p := true) ev_int ea_nil)
    · omega
    · intro G5 H5 g5
      exact ⟨_, _, _, _, _, _, _, _, _, _, rfl, rfl⟩
    · rintro G5 s5 mi σ' G6 H6 M6 hmi s6 S6 ⟨y8, y9, y10, y11, y12, y13, y14, y15, y16, y17, rfl, rfl⟩
      obtain ⟨m, hm⟩ : ∃ m : Int, 1 + (mi : Int) = m := ⟨_, rfl⟩
      rw [hm]
      have sB := s34.trans (s5.trans s6)
      refine s_gname ?_
      refine s_seq ?_
      refine s_asg (K := K) (cl := cl) (d := .bl false) S6 ev_bl ?_
      intro w9 G7 H7 g7 q9
      obtain rfl := q9.of_bl
      refine s_seq ?_
      refine s_asg (K := K) (cl := cl) (d := .int 0) g7.sep ev_int ?_
      intro w10 G8 H8 g8 q10
      obtain rfl := q10.of_int
      refine s_seq ?_
      refine s_asg (K := K) (cl := cl) (d := .int 0) g8.sep ev_int ?_
      intro w11 G9 H9 g9 q11
      obtain rfl := q11.of_int
      have S9 := g9.sep
      have s9 := sB.trans (g7.same.trans (g8.same.trans g9.same))
      have s69 := g7.same.trans (g8.same.trans g9.same)
      clear g7 g8 g9 q9 q10 q11
      have r09 := r02.mono s9
      refine s_seq ?_
      apply s_forL (K := K) (cl := cl) (ds := (inOrder l).map quadD) (fun i σ G' M' => ∃ (paying : Bool) (used wanted : Int) (y12 y13 y14 y15 y16 y17 : Option V), σ = [some v0, some v1, some v2, some v3, some w4, some w5, some w6, some (.str A), some (.int m), some (.bl paying), some (.int used), some (.int wanted), y12, y13, y14, y15, y16, y17, none, none] ∧ M' = M6 ∧ Month E (((inOrder l).take i).foldl (stepF E) ⟨[], [], []⟩).used A m paying used wanted) S9
      · rw [← inOrder_quad hl.nd]
        refine ev_cb (p := false) (q := false) (ea_cons (p := false) (by
          (with_reducible apply EvX.is)
          · apply ev_lcG (l := l) (enc := Sect.d) (f := quadD) (keep := fun _ => true)
            · exact ev_var (i := 0) rfl r09
            · rfl
            · omega
            · intro Ga ee x s sa hc rc
              exact lcT1 rfl et_yes fun _ => ev_tup (p := true) (ea_cons (p := true) (ev_fld (p := true) (d := .int s.opened) (ev_var (i := 19) rfl rc) (by walk_at "cf") (by walk_at "cf") rfl) (ea_cons (p := true) (ev_fld (p := true) (d := ownD s.owner) (ev_var (i := 19) rfl rc) (by walk_at "cf") (by walk_at "cf") rfl) (ea_cons (p := true) (ev_fld (p := true) (d := .int s.seconds) (ev_var (i := 19) rfl rc) (by walk_at "cf") (by walk_at "cf") rfl) (ea_cons (p := true) (ev_cb (p := true) (q := true) (ea_cons (p := true) (ev_fld (p := true) (d := optS s.payer) (ev_var (i := 19) rfl rc) (by walk_at "cf") (by walk_at "cf") rfl) ea_nil) on_strO) ea_nil)))) (Nat.le_of_ble_eq_true rfl)
          · rw [List.filter_eq_self.mpr (fun _ _ => rfl)]) ea_nil) (on_sort (quad_dat hl.pay) quad_sorts)
      · intro Ga Ha ga
        exact ⟨_, _, _, _, _, _, _, _, _, rfl, rfl, rfl, fun _ => rfl, (fun h => nomatch h), Int.le_refl _⟩
      · rintro Ga sa i x d σ' Gb Hb Mb hd sb Sb rb ⟨paying, used, wanted, y12, y13, y14, y15, y16, y17, rfl, rfl, mon⟩
        rw [List.getElem?_map] at hd
        cases hx : (inOrder l)[i]? with
        | none => rw [hx] at hd; cases hd
        | some s =>
        rw [hx] at hd
        cases hd
        have hsl := inOrder_mem.mp (List.mem_of_getElem? hx)
        have sok := hok s hsl
        have hF : Fair E (((inOrder l).take i).foldl (stepF E) ⟨[], [], []⟩).used := Fair.fold (fun s hs => hok s (inOrder_mem.mp (List.mem_of_mem_take hs))) fun a m => ⟨Int.le_refl _, alwF_pos eok a⟩
        have hnext : ((inOrder l).take (i + 1)).foldl (stepF E) ⟨[], [], []⟩ = stepF E (((inOrder l).take i).foldl (stepF E) ⟨[], [], []⟩) s := by
          rw [List.take_add_one, hx, List.foldl_append]
          rfl
        have hT := hTA i s hx
        obtain ⟨st, hst⟩ : ∃ st, ((inOrder l).take i).foldl (stepF E) ⟨[], [], []⟩ = st := ⟨_, rfl⟩
        rw [hst] at mon hF hT hnext
        have sb9 := s9.trans (sa.trans sb)
        refine g_tup Sb rb rfl rfl fun vs rvs => ?_
        obtain ⟨z0, z1, z2, z3, rfl, t0, t1, t2, t3⟩ := reps4 rvs
        obtain rfl := t0.of_int
        obtain rfl := t2.of_int
        obtain rfl := t3.of_str
        refine s_seq ?_
        refine s_asg (K := K) (cl := cl) (d := optC (inF E.hist (s.payer.getD "None") s.opened)) Sb (ev_in_force (p := true) (q := true) (ev_var (i := 1) rfl (r12.mono sb9)) (ea_cons (p := true) (ev_var (i := 15) rfl Rep.str) (ea_cons (p := true) (ev_var (i := 12) rfl Rep.int) ea_nil))) ?_
        intro w16 Gc Hc gc q16
        have Sc := gc.sep
        have sc := sb9.trans gc.same
        have sbc := sb.trans gc.same
        have t1c := t1.mono gc.same
        clear gc
        have hany := own_any (CH := CH) (o := s.owner)
        have cond : EvT K cl true (tTest (tOp (rInD K) (tVar 13) (tVar 6))) [some v0, some v1, some v2, some v3, some w4, some w5, some w6, some (.str A), some (.int m), some (.bl paying), some (.int used), some (.int wanted), some (.int s.opened), some z1, some (.int s.seconds), some (.str (s.payer.getD "None")), some w16, y17, none, none] Gc Mb (!(CH.filter fun c => decide (c.1.1 = s.owner)).isEmpty) Mb := EvT.is (et_test (ev_op (p := true) (q := true) (r := true) (ev_var (i := 13) rfl t1c) (ev_var (i := 6) rfl (q6.mono sc)) (o_inDat rfl (by show (1 : Nat) ≤ 64; decide) howd howp))) hany
        have other : (∀ a f L, s.free = false → oneF E st.used s = .inr (a, f, L) → ¬ (s.opened / 2592000 = m ∧ a = A)) → Month E (((inOrder l).take (i + 1)).foldl (stepF E) ⟨[], [], []⟩).used A m paying used wanted := fun h => hnext ▸ mon.other h
        by_cases hemp : (CH.filter fun c => decide (c.1.1 = s.owner)) = []
        · rw [hemp] at cond
          refine s_if (K := K) (cl := cl) (b := false) Sc (EvT.is (et_and (p := true) (q := true) (b := false) cond (fun h => by cases h)) rfl) ?_ ?_
          · intro Gd Hd gd hb
            cases hb
          · intro Gd Hd gd _
            refine s_next ⟨Gd, _, sbc.trans gd.same, gd.sep, _, _, _, _, _, _, _, _, _, rfl, rfl, other ?_⟩
            intro a f L hf ho
            exfalso
            rcases hT with ⟨h1, _⟩ | ⟨_, h2⟩
            · rw [h1] at hf; cases hf
            · rw [hemp, ho] at h2
              have hL : L = [] := by
                have : L.map (mkChg s.owner a) = [] := h2.symm
                simpa using this
              obtain ⟨hfe, n, tf, hin, ht, hL2⟩ := oneF_lines ho
              have hb := freeF_bounds (E := E) sok.s0 hF a
              obtain ⟨_, hcov, _⟩ := linesF_facts (eok.u _ (valG_mem1 ht)) (hfe ▸ hb.1) (hfe ▸ hb.2.1) hL2
              have hpos : 0 < s.seconds := by
                have h0 := sok.s0
                unfold Sect.free at hf
                rw [Bool.or_eq_false_iff] at hf
                have := of_decide_eq_false hf.2
                omega
              exact cov_ne hcov hpos hL
        · rcases hT with ⟨_, h2⟩ | ⟨hf, h2⟩
          · exact (hemp h2).elim
          cases ho : oneF E st.used s with
          | inl r =>
            rw [ho] at h2
            exact (hemp h2).elim
          | inr y =>
          obtain ⟨a, f, L⟩ := y
          rw [ho] at h2
          obtain ⟨hfe, n, tf, hin, ht, hL2⟩ := oneF_lines ho
          have hb := freeF_bounds (E := E) sok.s0 hF a
          have huse : usedSum CH s.owner = f := by
            rw [usedSum_own, h2]
            exact usedSum_lines (eok.u _ (valG_mem1 ht)) (hfe ▸ hb.1) (hfe ▸ hb.2.1) hL2
          have hpay : s.payer.getD "None" = s.payer.getD "" := by
            unfold Sect.free at hf
            cases hp : s.payer with
            | none => rw [hp] at hf; cases hf
            | some p => rfl
          rw [hpay, hin] at q16
          have hne : (!(CH.filter fun c => decide (c.1.1 = s.owner)).isEmpty) = true := by
            rw [Bool.not_eq_true', List.isEmpty_eq_false_iff]
            exact hemp
          rw [hne] at cond
          refine s_if (K := K) (cl := cl) (b := decide (s.opened / 2592000 = m) && decide (a = A)) Sc (EvT.is (et_and (p := true) (q := true) (b := decide (s.opened / 2592000 = m) && decide (a = A)) cond (fun _ => et_and (p := true) (q := true) (et_test (ev_op (p := true) (q := true) (r := true) (ev_op (p := true) (q := true) (r := true) (ev_var (i := 12) rfl Rep.int) ev_int (o_div ⟨by decide, by decide⟩)) (ev_var (i := 8) rfl Rep.int) (o_eq rfl))) (fun _ => et_test (ev_op (p := true) (q := true) (r := true) (ev_op (p := true) (q := true) (r := true) (ev_var (i := 16) rfl q16) ev_int (o_ixT (i := 0) (d := .str a) rfl)) (ev_var (i := 7) rfl Rep.str) (o_eq rfl))))) rfl) ?_ ?_
          · intro Gd Hd gd hb2
            rw [Bool.and_eq_true, decide_eq_true_iff, decide_eq_true_iff] at hb2
            obtain ⟨hom, rfl⟩ := hb2
            obtain ⟨hk1, hk2⟩ := mon.take hF sok.s0 hf ho hom
            rw [← hnext] at hk2
            have Sd := gd.sep
            have sd := sc.trans gd.same
            have sbd := sbc.trans gd.same
            have t1d := t1c.mono gd.same
            clear gd
            refine s_seq ?_
            refine s_asg (K := K) (cl := cl) (d := .int (usedSum CH s.owner)) Sd (ev_call (p := true) (ea_cons (p := true) (ev_var (i := 4) rfl (q42.mono sd)) (ea_cons (p := true) (ev_var (i := 13) rfl t1d) ea_nil)) ⟨CH, s.owner, rfl, rfl⟩) ?_
            intro w17 Ge He ge q17
            rw [huse] at q17
            obtain rfl := q17.of_int
            have Se := ge.sep
            have sbe := sbd.trans ge.same
            clear ge
            refine s_seq ?_
            refine s_if (K := K) (cl := cl) (b := decide (f > 0) && paying) Se (et_and (p := true) (q := true) (et_test (ev_op (p := true) (q := true) (r := true) (ev_var (i := 17) rfl Rep.int) ev_int o_gt)) (fun _ => et_tr (ev_var (i := 9) rfl Rep.bl) rfl)) ?_ ?_
            · intro Gf Hf gf hb3
              rw [Bool.and_eq_true, decide_eq_true_iff] at hb3
              rw [hk1 hb3.1] at hb3
              cases hb3.2
            intro Gf Hf gf _
            refine s_next ?_
            refine s_seq ?_
            refine s_asg (K := K) (cl := cl) (d := .bl (paying || decide (f < s.seconds))) gf.sep (ev_orV (p := true) (q := true) (ev_var (i := 9) rfl Rep.bl) (fun _ => ev_op (p := true) (q := true) (r := true) (ev_var (i := 17) rfl Rep.int) (ev_var (i := 14) rfl Rep.int) o_lt)) ?_
            intro w9 Gg Hg gg q9
            obtain rfl := q9.of_bl
            refine s_seq ?_
            refine s_asg (K := K) (cl := cl) (d := .int (used + f)) gg.sep (ev_op (p := true) (q := true) (r := true) (ev_var (i := 10) rfl Rep.int) (ev_var (i := 17) rfl Rep.int) o_add_int) ?_
            intro w10 Gh Hh gh q10
            obtain rfl := q10.of_int
            refine s_asg (K := K) (cl := cl) (d := .int (wanted + s.seconds)) gh.sep (ev_op (p := true) (q := true) (r := true) (ev_var (i := 11) rfl Rep.int) (ev_var (i := 14) rfl Rep.int) o_add_int) ?_
            intro w11 Gi Hi gi q11
            obtain rfl := q11.of_int
            exact ⟨Gi, _, sbe.trans (gf.same.trans (gg.same.trans (gh.same.trans gi.same))), gi.sep, _, _, _, _, _, _, _, _, _, rfl, rfl, hk2⟩
          · intro Gd Hd gd hb2
            refine s_next ⟨Gd, _, sbc.trans gd.same, gd.sep, _, _, _, _, _, _, _, _, _, rfl, rfl, other ?_⟩
            rintro a' f' L' _ ho' ⟨h1, rfl⟩
            rw [ho] at ho'
            cases ho'
            rw [decide_eq_true h1, decide_eq_true rfl] at hb2
            cases hb2
      rintro σ' Ga Ha Ma sa Sa ⟨paying, used, wanted, y12, y13, y14, y15, y16, y17, rfl, rfl, mon⟩
      rw [List.length_map, List.take_length, hEnd] at mon
      have hFA := hFin A m
      have hu := mon.u
      dsimp only at hu
      have hmin : used = if xA < wanted then xA else wanted := by
        have hn := mon.n
        have hp := mon.p
        have hw := mon.w
        cases paying with
        | false =>
          have := hn rfl
          split <;> omega
        | true =>
          have := hp rfl
          split <;> omega
      refine s_if (K := K) (cl := cl) (b := false) Sa (EvT.is (et_test (ev_op (p := true) (q := true) (r := true) (ev_var (i := 10) rfl Rep.int) (ev_cb (p := true) (q := true) (ea_cons (p := true) (ev_var (i := 11) rfl Rep.int) (ea_cons (p := true) (ev_dget (p := true) (q := true) (kes := alwK E.alw) (k := .inr A) (d := .int xA) (ev_var (i := 3) rfl (r32.mono (s9.trans sa))) (ev_var (i := 7) rfl Rep.str) rfl rfl (by rw [alwK_val, hxA]; rfl)) ea_nil)) on_min) (o_ne rfl))) (by rw [← hmin, decide_eq_true rfl]; rfl)) ?_ ?_
      · intro Gb Hb gb hb
        cases hb
      · intro Gb Hb gb _
        exact s_next ⟨Gb, _, s6.trans (s69.trans (sa.trans gb.same)), gb.sep, _, _, _, _, _, _, _, _, _, _, rfl, rfl⟩
    · rintro σ' G5 H5 M5 s5 S5 ⟨y8, y9, y10, y11, y12, y13, y14, y15, y16, y17, rfl, rfl⟩
      exact ⟨G5, _, s4.trans s5, S5, _, _, _, _, _, _, _, _, _, _, _, rfl, rfl⟩
  rintro σ' G3 H3 M3 s3 S3 ⟨y7, y8, y9, y10, y11, y12, y13, y14, y15, y16, y17, rfl, rfl⟩
  refine s_ret (K := K) (cl := cl) S3 ev_bl fun v G4 H4 g4 r4 => ?_
  exact q v G4 H4 (s1.trans (s2.trans (s3.trans g4.same))) g4.sep r4
theorem rd_law {K : PySem.W.Frag} {cl : Nat → Addr} [Cf K cl] {vs H Q E} (h : sp_law K cl vs H Q E) : t_law K cl ⟨fun _ H' => Q .non H', Q, fun _ _ => False, fun _ _ => False⟩ (start ["script", "sections", "contracts", "tariffs", "allowances", "more"] vs) H := by
  obtain ⟨G, M, S, v0, ns, rfl, r0, q⟩ := h
  unfold t_law
  refine s_seq ?_
  refine s_asgG S (eg_sections (K := K) (cl := cl) (v0 := v0) (ns := ns) rfl r0) ?_
  rintro v1 G1 H1 _ s1 S1 ⟨rfl, l, hl, r1⟩
  refine s_seq ?_
  refine s_asgG S1 (eg_script (K := K) (cl := cl) (v0 := v0) (ns := ns) (F := fun v G' => ∃ h, HistOk h ∧ Rep K cl G' v (conD h)) rfl (r0.mono s1) fun u G' T ru hT => ⟨u, ns, rfl, ru, fun G2 v h s2 hh rv => hT v G2 s2 ⟨h, hh, rv⟩⟩) ?_
  rintro v2 G2 H2 _ s2 S2 ⟨rfl, hist, hh, r2⟩
  refine s_seq ?_
  refine s_asgG S2 (eg_script (K := K) (cl := cl) (v0 := v0) (ns := ns) (F := fun v G' => ∃ l, TfsOk l ∧ Rep K cl G' v (dicD (tfsK l))) rfl ((r0.mono s1).mono s2) fun u G' T ru hT => ⟨u, ns, rfl, ru, fun G2 v l s2 hl rv => hT v G2 s2 ⟨l, hl, rv⟩⟩) ?_
  rintro v3 G3 H3 _ s3 S3 ⟨rfl, tfs, htf, r3⟩
  refine s_seq ?_
  refine s_asgG S3 (eg_script (K := K) (cl := cl) (v0 := v0) (ns := ns) (F := fun v G' => ∃ l, AlwOk l ∧ Rep K cl G' v (dicD (alwK l))) rfl (((r0.mono s1).mono s2).mono s3) fun u G' T ru hT => ⟨u, ns, rfl, ru, fun G2 v l s2 hl rv => hT v G2 s2 ⟨l, hl, rv⟩⟩) ?_
  rintro v4 G4 H4 Mz s4 S4 ⟨rfl, alw, hal, r4⟩
  have r14 := r1.mono (s2.trans (s3.trans s4))
  have r24 := r2.mono (s3.trans s4)
  have r34 := r3.mono s4
  have sA := s1.trans (s2.trans (s3.trans s4))
  clear r0 r1 r2 r3 s1 s2 s3 s4
  obtain ⟨x, hx⟩ := alw_two' hal.k (a := Str.ofString "ann") (List.mem_cons_self ..)
  obtain ⟨y, hy⟩ := alw_two' hal.k (a := Str.ofString "firm") (List.mem_cons_of_mem _ (List.mem_cons_self ..))
  have hx0 := (hal.a _ (valG_mem1 hx)).1
  have hy0 := (hal.a _ (valG_mem1 hy)).1
  obtain ⟨E, rfl, rfl, rfl⟩ : ∃ E : Env5, E.hist = hist ∧ E.tfs = tfs ∧ E.alw = alw := ⟨⟨hist, tfs, alw⟩, rfl, rfl, rfl⟩
  have eok : E.Ok := ⟨htf.t, htf.u, fun e he => (hal.a e he).1⟩
  obtain ⟨E2, e1, e2, e3⟩ : ∃ E2 : Env5, E2.hist = E.hist ∧ E2.tfs = E.tfs ∧ E2.alw = [(Str.ofString "ann", x + 50), (Str.ofString "firm", 2 * y + 1)] := ⟨⟨E.hist, E.tfs, [(Str.ofString "ann", x + 50), (Str.ofString "firm", 2 * y + 1)]⟩, rfl, rfl, rfl⟩
  have eok2 : E2.Ok := ⟨e2 ▸ eok.t, e2 ▸ eok.u, fun e he => by
    rw [e3] at he
    simp only [List.mem_cons, List.not_mem_nil, or_false] at he
    rcases he with rfl | rfl
    · show 0 ≤ x + 50
      omega
    · show 0 ≤ 2 * y + 1
      omega⟩
  refine s_seq ?_
  refine s_asgG S4 (eg_disp (K := K) (cl := cl) (kds := [(.inr "ann", .int (x + 50)), (.inr "firm", .int (2 * y + 1))]) (M1 := Mz) (F := fun v G' M' => ∃ u kws, v = .ref u ∧ M' = (u, .dK kws) :: Mz ∧ KRep K cl G' kws (alwK E2.alw))
    (fun u => ep_cons (p := true) (q := true) ev_str rfl (ev_op (p := true) (q := true) (r := true) (ev_dget (p := true) (q := true) (kes := alwK E.alw) (k := .inr "ann") (d := .int x) (ev_var (i := 4) rfl r4) ev_str rfl rfl (by rw [alwK_val]; exact congrArg (Option.map D.int) hx)) ev_int o_add_int) (ep_cons (p := true) (q := true) ev_str rfl (ev_op (p := true) (q := true) (r := true) (ev_op (p := true) (q := true) (r := true) ev_int (ev_dget (p := true) (q := true) (kes := alwK E.alw) (k := .inr "firm") (d := .int y) (ev_var (i := 4) rfl r4) ev_str rfl rfl (by rw [alwK_val]; exact congrArg (Option.map D.int) hy)) (o_mul (.inl ⟨by decide, by decide⟩))) ev_int o_add_int) ep_nil)) (Nat.le_of_ble_eq_true rfl) ?_) ?_
  · intro u kws G' s' rk
    rw [merge2D (by decide +kernel)] at rk
    rw [e3]
    exact ⟨u, kws, rfl, rfl, rk⟩
  rintro v5 G5 H5 _ s5 S5 ⟨u, kws, rfl, rfl, rk⟩
  obtain ⟨G6, s6, S6, r6⟩ := S5.dic rk
  have s56 := s5.trans s6
  have r16 := r14.mono s56
  have r26 := r24.mono s56
  have r36 := r34.mono s56
  have r46 := r4.mono s56
  refine s_seq ?_
  refine s_if (K := K) (cl := cl) (b := false) S6 (et_not (b := true) (et_tr (d := .bl true) (ev_call (p := true) (ea_cons (p := true) (ev_var (i := 1) rfl r16) (ea_cons (p := true) (ev_var (i := 2) rfl r26) (ea_cons (p := true) (ev_var (i := 3) rfl r36) (ea_cons (p := true) (ev_var (i := 4) rfl r46) ea_nil)))) ⟨l, E, rfl, eok, hh, hl, hal.k, rfl⟩) rfl)) ?_ ?_
  · intro G7 H7 g7 hb
    cases hb
  intro G7 H7 g7 _
  have s7 := g7.same
  refine s_next ?_
  refine s_ret (K := K) (cl := cl) (d := .bl true) g7.sep (ev_call (p := true) (ea_cons (p := true) (ev_var (i := 1) rfl (r16.mono s7)) (ea_cons (p := true) (ev_var (i := 2) rfl (r26.mono s7)) (ea_cons (p := true) (ev_var (i := 3) rfl (r36.mono s7)) (ea_cons (p := true) (ev_var (i := 5) rfl (r6.mono s7)) ea_nil)))) ⟨l, E2, by rw [e1, e2], eok2, by rw [e1]; exact hh, hl, by rw [e3]; rfl, rfl⟩) fun v G8 H8 g8 r8 => ?_
  obtain rfl := r8.of_bl
  have sZ := sA.trans (s56.trans (s7.trans g8.same))
  exact q G8 _ sZ sZ _ g8.sep
end
def sp_law0 (K : PySem.W.Frag) : Sp := fun vs H Q _ => ∃ (a : Addr) (ns : List Int), vs = [.ref a] ∧ SqL K H a (ns.map V.int) ∧ ns.length ≤ 63 ∧ ∀ H', Q (.bl true) H'
theorem sp_law_of [Wo] {K : PySem.W.Frag} {cl : Nat → Addr} {vs H Q E} (h : sp_law0 K vs H Q E) : sp_law K cl vs H Q E := by
  obtain ⟨a, ns, rfl, hS, hl, k⟩ := h
  exact ⟨H, [], Sep.nil, .ref a, ns, rfl, Rep.lst hS Reps.ints, fun G' M' _ _ H' _ => k H'⟩
local macro_rules | `(tactic| walk_at "ln") => `(tactic| (first
  | (rintro ⟨_, _, _, _, hR, _, rs, _⟩; rw [rs.length]; first | (obtain ⟨e, _⟩ := hR; rw [e]; exact rfl) | (obtain ⟨_, e, _⟩ := hR; rw [e]; exact rfl) | (obtain ⟨_, _, e, _⟩ := hR; rw [e]; exact rfl) | (obtain ⟨_, _, _, e, _⟩ := hR; rw [e]; exact rfl) | (obtain ⟨_, _, _, _, e, _⟩ := hR; rw [e]; exact rfl) | (obtain ⟨_, _, _, _, _, e, _⟩ := hR; rw [e]; exact rfl) | (obtain ⟨_, _, _, _, _, _, e, _⟩ := hR; rw [e]; exact rfl))
  | (rintro ⟨_, _, _, hR⟩; first | (obtain ⟨e, _⟩ := hR; rw [e]; exact rfl) | (obtain ⟨_, e, _⟩ := hR; rw [e]; exact rfl) | (obtain ⟨_, _, e, _⟩ := hR; rw [e]; exact rfl) | (obtain ⟨_, _, _, e, _⟩ := hR; rw [e]; exact rfl) | (obtain ⟨_, _, _, _, e, _⟩ := hR; rw [e]; exact rfl) | (obtain ⟨_, _, _, _, _, e, _⟩ := hR; rw [e]; exact rfl) | (obtain ⟨_, _, _, _, _, _, e, _⟩ := hR; rw [e]; exact rfl) | (obtain ⟨_, _, _, _, _, _, _, e, _⟩ := hR; rw [e]; exact rfl))
  | (rintro ⟨_, _, _, _, _, _, _, e0, hR, _, rs, _⟩; rw [e0, List.length_cons, rs.length]; first | (obtain ⟨hl, _⟩ := hR; rw [hl]; exact rfl) | (obtain ⟨e, _⟩ := hR; rw [e]; exact rfl) | (obtain ⟨_, e, _⟩ := hR; rw [e]; exact rfl) | (obtain ⟨_, _, e, _⟩ := hR; rw [e]; exact rfl) | (obtain ⟨_, _, _, e, _⟩ := hR; rw [e]; exact rfl) | (obtain ⟨_, _, _, _, e, _⟩ := hR; rw [e]; exact rfl))))
local macro_rules | `(tactic| walk_at "lnx") => `(tactic| first | (rintro ⟨e, _⟩; rw [e]; exact rfl) | (rintro ⟨_, h⟩; revert h; walk_at "lnx"))
local macro_rules | `(tactic| walk_at "ln") => `(tactic| (rintro ⟨_, _, _, hR⟩; revert hR; walk_at "lnx"))
def top (i : Nat) : Stmt := PySem.Challenge.pw_copperline_k87_free_seconds.main.body.getD i (.Pass ⟨0, 0, 0, 0⟩)
abbrev s_Band_init : Stmt := inClass (top 3) 0
theorem sc_Band_init : FnScope ["self", "label", "prefix", "from_hour", "to_hour", "price"] ["self", "label", "prefix", "from_hour", "to_hour", "price"] (defScope s_Band_init) := ⟨rfl, rfl, rfl, by decide +kernel, rfl, by decide +kernel, by decide +kernel⟩
abbrev s_Band_holds : Stmt := inClass (top 3) 1
theorem sc_Band_holds : FnScope ["self", "called", "clock", "hour"] ["self", "called", "clock"] (defScope s_Band_holds) := ⟨rfl, rfl, rfl, by decide +kernel, rfl, by decide +kernel, by decide +kernel⟩
abbrev s_Tariff_init : Stmt := inClass (top 4) 0
theorem sc_Tariff_init : FnScope ["self", "setup_price", "bands"] ["self", "setup_price", "bands"] (defScope s_Tariff_init) := ⟨rfl, rfl, rfl, by decide +kernel, rfl, by decide +kernel, by decide +kernel⟩
abbrev s_Charge_init : Stmt := inClass (top 11) 0
theorem sc_Charge_init : FnScope ["self", "key", "account", "till", "mills"] ["self", "key", "account", "till", "mills"] (defScope s_Charge_init) := ⟨rfl, rfl, rfl, by decide +kernel, rfl, by decide +kernel, by decide +kernel⟩
abbrev s_ChargeRun_init : Stmt := inClass (top 12) 0
theorem sc_ChargeRun_init : FnScope ["self", "contracts", "tariffs", "allowances"] ["self", "contracts", "tariffs", "allowances"] (defScope s_ChargeRun_init) := ⟨rfl, rfl, rfl, by decide +kernel, rfl, by decide +kernel, by decide +kernel⟩
abbrev s_ChargeRun_free_left : Stmt := inClass (top 12) 1
theorem sc_ChargeRun_free_left : FnScope ["self", "account", "month"] ["self", "account", "month"] (defScope s_ChargeRun_free_left) := ⟨rfl, rfl, rfl, by decide +kernel, rfl, by decide +kernel, by decide +kernel⟩
abbrev s_ChargeRun_reason_against : Stmt := inClass (top 12) 2
theorem sc_ChargeRun_reason_against : FnScope ["self", "section", "contract"] ["self", "section", "contract"] (defScope s_ChargeRun_reason_against) := ⟨rfl, rfl, rfl, by decide +kernel, rfl, by decide +kernel, by decide +kernel⟩
abbrev s_section_place : Stmt := top 13
theorem sc_section_place : FnScope ["section"] ["section"] (defScope s_section_place) := ⟨rfl, rfl, rfl, by decide +kernel, rfl, by decide +kernel, by decide +kernel⟩
abbrev s_Contracts_init : Stmt := inClass (top 19) 0
theorem sc_Contracts_init : FnScope ["self"] ["self"] (defScope s_Contracts_init) := ⟨rfl, rfl, rfl, by decide +kernel, rfl, by decide +kernel, by decide +kernel⟩
abbrev s_Contracts_set_history : Stmt := inClass (top 19) 1
theorem sc_Contracts_set_history : FnScope ["self", "line", "rows", "place"] ["self", "line", "rows"] (defScope s_Contracts_set_history) := ⟨rfl, rfl, rfl, by decide +kernel, rfl, by decide +kernel, by decide +kernel⟩
abbrev s_Contracts_in_force : Stmt := inClass (top 19) 2
theorem sc_Contracts_in_force : FnScope ["self", "line", "clock", "found", "since", "account", "name"] ["self", "line", "clock"] (defScope s_Contracts_in_force) := ⟨rfl, rfl, rfl, by decide +kernel, rfl, by decide +kernel, by decide +kernel⟩
abbrev s_Section_init : Stmt := inClass (top 21) 0
theorem sc_Section_init : FnScope ["self", "owner", "payer", "called", "opened", "start", "seconds"] ["self", "owner", "payer", "called", "opened", "start", "seconds"] (defScope s_Section_init) := ⟨rfl, rfl, rfl, by decide +kernel, rfl, by decide +kernel, by decide +kernel⟩
abbrev s_Section_is_free : Stmt := inClass (top 21) 1
theorem sc_Section_is_free : FnScope ["self"] ["self"] (defScope s_Section_is_free) := ⟨rfl, rfl, rfl, by decide +kernel, rfl, by decide +kernel, by decide +kernel⟩
abbrev s_law_cell : Stmt := top 23
theorem sc_law_cell : FnScope ["script", "k"] ["script", "k"] (defScope s_law_cell) := ⟨rfl, rfl, rfl, by decide +kernel, rfl, by decide +kernel, by decide +kernel⟩
abbrev s_law_state : Stmt := top 24
theorem sc_law_state : FnScope ["cell", "k", "prime", "first", "second", "third", "fourth"] ["cell", "k"] (defScope s_law_state) := ⟨rfl, rfl, rfl, by decide +kernel, rfl, by decide +kernel, by decide +kernel⟩
abbrev s_law_digit : Stmt := top 25
theorem sc_law_digit : FnScope ["state", "many", "digit"] ["state", "many"] (defScope s_law_digit) := ⟨rfl, rfl, rfl, by decide +kernel, rfl, by decide +kernel, by decide +kernel⟩
abbrev s_law_lines : Stmt := top 30
theorem sc_law_lines : FnScope [] [] (defScope s_law_lines) := ⟨rfl, rfl, rfl, by decide +kernel, rfl, by decide +kernel, by decide +kernel⟩
abbrev s_law_used : Stmt := top 37
theorem sc_law_used : FnScope ["charges", "owner", "used", "charge"] ["charges", "owner"] (defScope s_law_used) := ⟨rfl, rfl, rfl, by decide +kernel, rfl, by decide +kernel, by decide +kernel⟩
abbrev s_Tariff_band_at : Stmt := inClass (top 4) 1
theorem sc_Tariff_band_at : FnScope ["self", "called", "clock", "best", "band"] ["self", "called", "clock"] (defScope s_Tariff_band_at) := ⟨rfl, rfl, rfl, by decide +kernel, rfl, by decide +kernel, by decide +kernel⟩
abbrev s_law_shuffled : Stmt := top 26
theorem sc_law_shuffled : FnScope ["script", "things", "left", "found", "k", "state", "place"] ["script", "things"] (defScope s_law_shuffled) := ⟨rfl, rfl, rfl, by decide +kernel, rfl, by decide +kernel, by decide +kernel⟩
abbrev s_law_called : Stmt := top 28
theorem sc_law_called : FnScope ["state"] ["state"] (defScope s_law_called) := ⟨rfl, rfl, rfl, by decide +kernel, rfl, by decide +kernel, by decide +kernel⟩
abbrev s_law_history : Stmt := top 31
theorem sc_law_history : FnScope ["state", "rows", "clock", "k", "account"] ["state"] (defScope s_law_history) := ⟨rfl, rfl, rfl, by decide +kernel, rfl, by decide +kernel, by decide +kernel⟩
abbrev s_law_allowances : Stmt := top 36
theorem sc_law_allowances : FnScope ["script", "state"] ["script"] (defScope s_law_allowances) := ⟨rfl, rfl, rfl, by decide +kernel, rfl, by decide +kernel, by decide +kernel⟩
abbrev s_law_large : Stmt := top 39
theorem sc_law_large : FnScope ["script"] ["script"] (defScope s_law_large) := ⟨rfl, rfl, rfl, by decide +kernel, rfl, by decide +kernel, by decide +kernel⟩
abbrev s_stretches : Stmt := top 7
theorem sc_stretches : FnScope ["tariff", "called", "start", "begin", "till", "found", "place", "band", "after"] ["tariff", "called", "start", "begin", "till"] (defScope s_stretches) := ⟨rfl, rfl, rfl, by decide +kernel, rfl, by decide +kernel, by decide +kernel⟩
abbrev s_law_tariff : Stmt := top 27
theorem sc_law_tariff : FnScope ["state", "bands", "k", "prefix", "low", "high"] ["state"] (defScope s_law_tariff) := ⟨rfl, rfl, rfl, by decide +kernel, rfl, by decide +kernel, by decide +kernel⟩
abbrev s_law_section : Stmt := top 32
theorem sc_law_section : FnScope ["state", "k", "payer", "opened", "start", "seconds"] ["state", "k"] (defScope s_law_section) := ⟨rfl, rfl, rfl, by decide +kernel, rfl, by decide +kernel, by decide +kernel⟩
abbrev s_law_contracts : Stmt := top 35
theorem sc_law_contracts : FnScope ["script", "contracts", "k"] ["script"] (defScope s_law_contracts) := ⟨rfl, rfl, rfl, by decide +kernel, rfl, by decide +kernel, by decide +kernel⟩
abbrev s_price_lines : Stmt := top 8
theorem sc_price_lines : FnScope ["tariff", "called", "start", "begin", "till", "pieces", "lines", "band", "low", "high", "minutes"] ["tariff", "called", "start", "begin", "till"] (defScope s_price_lines) := ⟨rfl, rfl, rfl, by decide +kernel, rfl, by decide +kernel, by decide +kernel⟩
abbrev s_law_sections : Stmt := top 33
theorem sc_law_sections : FnScope ["script", "many", "k"] ["script", "many"] (defScope s_law_sections) := ⟨rfl, rfl, rfl, by decide +kernel, rfl, by decide +kernel, by decide +kernel⟩
abbrev s_law_tariffs : Stmt := top 34
theorem sc_law_tariffs : FnScope ["script"] ["script"] (defScope s_law_tariffs) := ⟨rfl, rfl, rfl, by decide +kernel, rfl, by decide +kernel, by decide +kernel⟩
abbrev s_ChargeRun_lines_of : Stmt := inClass (top 12) 3
theorem sc_ChargeRun_lines_of : FnScope ["self", "section", "name", "free", "lines", "tariff"] ["self", "section", "name", "free"] (defScope s_ChargeRun_lines_of) := ⟨rfl, rfl, rfl, by decide +kernel, rfl, by decide +kernel, by decide +kernel⟩
abbrev s_ChargeRun_take : Stmt := inClass (top 12) 4
theorem sc_ChargeRun_take : FnScope ["self", "section", "contract", "reason", "account", "name", "month", "free", "lines", "label", "low", "high", "mills"] ["self", "section"] (defScope s_ChargeRun_take) := ⟨rfl, rfl, rfl, by decide +kernel, rfl, by decide +kernel, by decide +kernel⟩
abbrev s_charge_sections : Stmt := top 14
theorem sc_charge_sections : FnScope ["sections", "contracts", "tariffs", "allowances", "run", "section"] ["sections", "contracts", "tariffs", "allowances"] (defScope s_charge_sections) := ⟨rfl, rfl, rfl, by decide +kernel, rfl, by decide +kernel, by decide +kernel⟩
abbrev s_law_holds : Stmt := top 38
theorem sc_law_holds : FnScope ["sections", "contracts", "tariffs", "allowances", "charges", "refused", "charged", "account", "month", "paying", "used", "wanted", "opened", "owner", "seconds", "payer", "contract", "free", "charge", "s"] ["sections", "contracts", "tariffs", "allowances"] (defScope s_law_holds) := ⟨rfl, rfl, rfl, by decide +kernel, rfl, by decide +kernel, by decide +kernel⟩
abbrev s_law : Stmt := top 40
theorem sc_law : FnScope ["script", "sections", "contracts", "tariffs", "allowances", "more"] ["script"] (defScope s_law) := ⟨rfl, rfl, rfl, by decide +kernel, rfl, by decide +kernel, by decide +kernel⟩
structure Tx (K : PySem.W.Frag) (mg : Str → Option Value) (fn : Nat → Addr) (fd : Nat → FuncData) (cl : Nat → Addr) : Prop where
  F_Band_init : Fun K "__init__" "Band.__init__" s_Band_init (fn 0) (fd 0)
  b_Band_init : Binds K (fd 0) ["self", "label", "prefix", "from_hour", "to_hour", "price"] []
  F_Band_holds : Fun K "holds" "Band.holds" s_Band_holds (fn 1) (fd 1)
  b_Band_holds : Binds K (fd 1) ["self", "called", "clock"] []
  meth_Band_holds : Meth K (cl 0) "holds" (fn 1)
  F_Tariff_init : Fun K "__init__" "Tariff.__init__" s_Tariff_init (fn 2) (fd 2)
  b_Tariff_init : Binds K (fd 2) ["self", "setup_price", "bands"] []
  F_Tariff_band_at : Fun K "band_at" "Tariff.band_at" s_Tariff_band_at (fn 3) (fd 3)
  b_Tariff_band_at : Binds K (fd 3) ["self", "called", "clock"] []
  meth_Tariff_band_at : Meth K (cl 1) "band_at" (fn 3)
  F_stretches : Fun K "stretches" "stretches" s_stretches (fn 4) (fd 4)
  b_stretches : Binds K (fd 4) ["tariff", "called", "start", "begin", "till"] []
  m_stretches : mg "stretches" = some (.ref (fn 4))
  F_price_lines : Fun K "price_lines" "price_lines" s_price_lines (fn 5) (fd 5)
  b_price_lines : Binds K (fd 5) ["tariff", "called", "start", "begin", "till"] []
  m_price_lines : mg "price_lines" = some (.ref (fn 5))
  F_Charge_init : Fun K "__init__" "Charge.__init__" s_Charge_init (fn 6) (fd 6)
  b_Charge_init : Binds K (fd 6) ["self", "key", "account", "till", "mills"] []
  F_ChargeRun_init : Fun K "__init__" "ChargeRun.__init__" s_ChargeRun_init (fn 7) (fd 7)
  b_ChargeRun_init : Binds K (fd 7) ["self", "contracts", "tariffs", "allowances"] []
  F_ChargeRun_free_left : Fun K "free_left" "ChargeRun.free_left" s_ChargeRun_free_left (fn 8) (fd 8)
  b_ChargeRun_free_left : Binds K (fd 8) ["self", "account", "month"] []
  meth_ChargeRun_free_left : Meth K (cl 3) "free_left" (fn 8)
  F_ChargeRun_reason_against : Fun K "reason_against" "ChargeRun.reason_against" s_ChargeRun_reason_against (fn 9) (fd 9)
  b_ChargeRun_reason_against : Binds K (fd 9) ["self", "section", "contract"] []
  meth_ChargeRun_reason_against : Meth K (cl 3) "reason_against" (fn 9)
  F_ChargeRun_lines_of : Fun K "lines_of" "ChargeRun.lines_of" s_ChargeRun_lines_of (fn 10) (fd 10)
  b_ChargeRun_lines_of : Binds K (fd 10) ["self", "section", "name", "free"] []
  meth_ChargeRun_lines_of : Meth K (cl 3) "lines_of" (fn 10)
  F_ChargeRun_take : Fun K "take" "ChargeRun.take" s_ChargeRun_take (fn 11) (fd 11)
  b_ChargeRun_take : Binds K (fd 11) ["self", "section"] []
  meth_ChargeRun_take : Meth K (cl 3) "take" (fn 11)
  F_section_place : Fun K "section_place" "section_place" s_section_place (fn 12) (fd 12)
  b_section_place : Binds K (fd 12) ["section"] []
  m_section_place : mg "section_place" = some (.ref (fn 12))
  F_charge_sections : Fun K "charge_sections" "charge_sections" s_charge_sections (fn 13) (fd 13)
  b_charge_sections : Binds K (fd 13) ["sections", "contracts", "tariffs", "allowances"] []
  m_charge_sections : mg "charge_sections" = some (.ref (fn 13))
  F_Contracts_init : Fun K "__init__" "Contracts.__init__" s_Contracts_init (fn 15) (fd 15)
  b_Contracts_init : Binds K (fd 15) ["self"] []
  F_Contracts_set_history : Fun K "set_history" "Contracts.set_history" s_Contracts_set_history (fn 16) (fd 16)
  b_Contracts_set_history : Binds K (fd 16) ["self", "line", "rows"] []
  meth_Contracts_set_history : Meth K (cl 6) "set_history" (fn 16)
  F_Contracts_in_force : Fun K "in_force" "Contracts.in_force" s_Contracts_in_force (fn 17) (fd 17)
  b_Contracts_in_force : Binds K (fd 17) ["self", "line", "clock"] []
  meth_Contracts_in_force : Meth K (cl 6) "in_force" (fn 17)
  F_Section_init : Fun K "__init__" "Section.__init__" s_Section_init (fn 18) (fd 18)
  b_Section_init : Binds K (fd 18) ["self", "owner", "payer", "called", "opened", "start", "seconds"] []
  F_Section_is_free : Fun K "is_free" "Section.is_free" s_Section_is_free (fn 19) (fd 19)
  b_Section_is_free : Binds K (fd 19) ["self"] []
  meth_Section_is_free : Meth K (cl 7) "is_free" (fn 19)
  F_law_cell : Fun K "_law_cell" "_law_cell" s_law_cell (fn 20) (fd 20)
  b_law_cell : Binds K (fd 20) ["script", "k"] []
  m_law_cell : mg "_law_cell" = some (.ref (fn 20))
  F_law_state : Fun K "_law_state" "_law_state" s_law_state (fn 21) (fd 21)
  b_law_state : Binds K (fd 21) ["cell", "k"] []
  m_law_state : mg "_law_state" = some (.ref (fn 21))
  F_law_digit : Fun K "_law_digit" "_law_digit" s_law_digit (fn 22) (fd 22)
  b_law_digit : Binds K (fd 22) ["state", "many"] []
  m_law_digit : mg "_law_digit" = some (.ref (fn 22))
  F_law_shuffled : Fun K "_law_shuffled" "_law_shuffled" s_law_shuffled (fn 23) (fd 23)
  b_law_shuffled : Binds K (fd 23) ["script", "things"] []
  m_law_shuffled : mg "_law_shuffled" = some (.ref (fn 23))
  F_law_tariff : Fun K "_law_tariff" "_law_tariff" s_law_tariff (fn 24) (fd 24)
  b_law_tariff : Binds K (fd 24) ["state"] []
  m_law_tariff : mg "_law_tariff" = some (.ref (fn 24))
  F_law_called : Fun K "_law_called" "_law_called" s_law_called (fn 25) (fd 25)
  b_law_called : Binds K (fd 25) ["state"] []
  m_law_called : mg "_law_called" = some (.ref (fn 25))
  F_law_lines : Fun K "_law_lines" "_law_lines" s_law_lines (fn 27) (fd 27)
  b_law_lines : Binds K (fd 27) [] []
  m_law_lines : mg "_law_lines" = some (.ref (fn 27))
  F_law_history : Fun K "_law_history" "_law_history" s_law_history (fn 28) (fd 28)
  b_law_history : Binds K (fd 28) ["state"] []
  m_law_history : mg "_law_history" = some (.ref (fn 28))
  F_law_section : Fun K "_law_section" "_law_section" s_law_section (fn 29) (fd 29)
  b_law_section : Binds K (fd 29) ["state", "k"] []
  m_law_section : mg "_law_section" = some (.ref (fn 29))
  F_law_sections : Fun K "_law_sections" "_law_sections" s_law_sections (fn 30) (fd 30)
  b_law_sections : Binds K (fd 30) ["script", "many"] []
  m_law_sections : mg "_law_sections" = some (.ref (fn 30))
  F_law_tariffs : Fun K "_law_tariffs" "_law_tariffs" s_law_tariffs (fn 31) (fd 31)
  b_law_tariffs : Binds K (fd 31) ["script"] []
  m_law_tariffs : mg "_law_tariffs" = some (.ref (fn 31))
  F_law_contracts : Fun K "_law_contracts" "_law_contracts" s_law_contracts (fn 32) (fd 32)
  b_law_contracts : Binds K (fd 32) ["script"] []
  m_law_contracts : mg "_law_contracts" = some (.ref (fn 32))
  F_law_allowances : Fun K "_law_allowances" "_law_allowances" s_law_allowances (fn 33) (fd 33)
  b_law_allowances : Binds K (fd 33) ["script"] []
  m_law_allowances : mg "_law_allowances" = some (.ref (fn 33))
  F_law_used : Fun K "_law_used" "_law_used" s_law_used (fn 34) (fd 34)
  b_law_used : Binds K (fd 34) ["charges", "owner"] []
  m_law_used : mg "_law_used" = some (.ref (fn 34))
  F_law_holds : Fun K "_law_holds" "_law_holds" s_law_holds (fn 35) (fd 35)
  b_law_holds : Binds K (fd 35) ["sections", "contracts", "tariffs", "allowances"] []
  m_law_holds : mg "_law_holds" = some (.ref (fn 35))
  F_law_large : Fun K "_law_large" "_law_large" s_law_large (fn 36) (fd 36)
  b_law_large : Binds K (fd 36) ["script"] []
  m_law_large : mg "_law_large" = some (.ref (fn 36))
  F_law : Fun K "law" "law" s_law (fn 37) (fd 37)
  b_law : Binds K (fd 37) ["script"] []
  m_law : mg "law" = some (.ref (fn 37))
  cf : Cf K cl
  m_Band : mg "Band" = some (.ref (cl 0))
  mk_Band : Mk K (cl 0) (fn 0)
  m_Tariff : mg "Tariff" = some (.ref (cl 1))
  mk_Tariff : Mk K (cl 1) (fn 2)
  m_Charge : mg "Charge" = some (.ref (cl 2))
  mk_Charge : Mk K (cl 2) (fn 6)
  m_ChargeRun : mg "ChargeRun" = some (.ref (cl 3))
  mk_ChargeRun : Mk K (cl 3) (fn 7)
  m_Contracts : mg "Contracts" = some (.ref (cl 6))
  mk_Contracts : Mk K (cl 6) (fn 15)
  m_Section : mg "Section" = some (.ref (cl 7))
  mk_Section : Mk K (cl 7) (fn 18)
  z_int : mg "int" = none
  z_len : mg "len" = none
  z_list : mg "list" = none
  z_min : mg "min" = none
  z_range : mg "range" = none
  z_sorted : mg "sorted" = none
  z_str : mg "str" = none
  z_tuple : mg "tuple" = none
  g_DAY : ∃ t, mg "DAY" = some (.int 86400 t)
  g_HOUR : ∃ t, mg "HOUR" = some (.int 3600 t)
  g_MINUTE : ∃ t, mg "MINUTE" = some (.int 60 t)
  g_MONTH : ∃ t, mg "MONTH" = some (.int 2592000 t)
section
variable {P : Program} {w : World} {K : PySem.W.Frag} {mg : Str → Option Value} {base : Heap} {fn : Nat → Addr} {fd : Nat → FuncData} {cl : Nat → Addr}
theorem ok_Band_init (T : Tx K mg fn fd cl) : letI : Wo := ⟨P, w⟩; FnOk P w K mg base CX0 1 (fn 0) (fd 0) ["self", "label", "prefix", "from_hour", "to_hour", "price"] (sp_Band_init K cl) := by
  haveI := T.cf
  letI : Wo := ⟨P, w⟩
  refine T.F_Band_init.ok sc_Band_init (fun vs H Q E h => by revert h; walk_at "ln") (fun cdv A outer s H vs Q E hr h => ⟨t_Band_init K cl, ?_, rd_Band_init h⟩)
  exact (pss_cons (ps_fld (pv 0) (pv 1) rfl) (pss_cons (ps_fld (pv 0) (pv 2) rfl) (pss_cons (ps_fld (pv 0) (pv 3) rfl) (pss_cons (ps_fld (pv 0) (pv 4) rfl) (pss_one (ps_fld (pv 0) (pv 5) rfl))))))
theorem ok_Band_holds (T : Tx K mg fn fd cl) : letI : Wo := ⟨P, w⟩; FnOk P w K mg base CX0 1 (fn 1) (fd 1) ["self", "called", "clock"] (sp_Band_holds K cl) := by
  haveI := T.cf
  letI : Wo := ⟨P, w⟩
  obtain ⟨u_DAY, g_DAY⟩ := T.g_DAY
  obtain ⟨u_HOUR, g_HOUR⟩ := T.g_HOUR
  refine T.F_Band_holds.ok sc_Band_holds (fun vs H Q E h => by revert h; walk_at "ln") (fun cdv A outer s H vs Q E hr h => ⟨t_Band_holds K cl, ?_, rd_Band_holds h⟩)
  exact (pss_cons (ps_set (i := 3) sc_Band_holds.nd rfl (.inl rfl) (pe_op op_fdiv (pe_op op_mod (pv 2) (pe_glob rfl g_DAY ⟨_, rfl⟩)) (pe_glob rfl g_HOUR ⟨_, rfl⟩))) (pss_one (ps_ret ((pe_and (pe_m1 PySem.F.slot_str_startswith PySem.F.type_str_startswith mt_startswith (pv 1) (pe_fld (pv 0) rfl)) (pe_and (pe_cmpR op_le (pe_fld (pv 0) rfl) (pv 3) (nomark _)) (pe_one (pe_cmpR op_lt (pv 3) (pe_fld (pv 0) rfl) (nomark _)))))))))
theorem ok_Tariff_init (T : Tx K mg fn fd cl) : letI : Wo := ⟨P, w⟩; FnOk P w K mg base CX0 1 (fn 2) (fd 2) ["self", "setup_price", "bands"] (sp_Tariff_init K cl) := by
  haveI := T.cf
  letI : Wo := ⟨P, w⟩
  refine T.F_Tariff_init.ok sc_Tariff_init (fun vs H Q E h => by revert h; walk_at "ln") (fun cdv A outer s H vs Q E hr h => ⟨t_Tariff_init K cl, ?_, rd_Tariff_init h⟩)
  exact (pss_cons (ps_fld (pv 0) (pv 1) rfl) (pss_one (ps_fld (pv 0) (pe_callTy call_tuple_of (by rfl) T.z_tuple (by decide +kernel) (pa_cons (pv 2) pa_nil)) rfl)))
theorem ok_Charge_init (T : Tx K mg fn fd cl) : letI : Wo := ⟨P, w⟩; FnOk P w K mg base CX0 1 (fn 6) (fd 6) ["self", "key", "account", "till", "mills"] (sp_Charge_init K cl) := by
  haveI := T.cf
  letI : Wo := ⟨P, w⟩
  refine T.F_Charge_init.ok sc_Charge_init (fun vs H Q E h => by revert h; walk_at "ln") (fun cdv A outer s H vs Q E hr h => ⟨t_Charge_init K cl, ?_, rd_Charge_init h⟩)
  exact (pss_cons (ps_fld (pv 0) (pv 1) rfl) (pss_cons (ps_fld (pv 0) (pv 2) rfl) (pss_cons (ps_fld (pv 0) (pv 3) rfl) (pss_one (ps_fld (pv 0) (pv 4) rfl)))))
theorem ok_ChargeRun_init (T : Tx K mg fn fd cl) : letI : Wo := ⟨P, w⟩; FnOk P w K mg base CX0 1 (fn 7) (fd 7) ["self", "contracts", "tariffs", "allowances"] (sp_ChargeRun_init K cl) := by
  haveI := T.cf
  letI : Wo := ⟨P, w⟩
  refine T.F_ChargeRun_init.ok sc_ChargeRun_init (fun vs H Q E h => by revert h; walk_at "ln") (fun cdv A outer s H vs Q E hr h => ⟨t_ChargeRun_init K cl, ?_, rd_ChargeRun_init h⟩)
  exact (pss_cons (ps_fld (pv 0) (pv 1) rfl) (pss_cons (ps_fld (pv 0) (pv 2) rfl) (pss_cons (ps_fld (pv 0) (pv 3) rfl) (pss_cons (ps_fld (pv 0) (pe_new) rfl) (pss_cons (ps_fld (pv 0) (pe_lst pa_nil) rfl) (pss_one (ps_fld (pv 0) (pe_lst pa_nil) rfl)))))))
theorem ok_ChargeRun_free_left (T : Tx K mg fn fd cl) : letI : Wo := ⟨P, w⟩; FnOk P w K mg base CX0 1 (fn 8) (fd 8) ["self", "account", "month"] (sp_ChargeRun_free_left K cl) := by
  haveI := T.cf
  letI : Wo := ⟨P, w⟩
  refine T.F_ChargeRun_free_left.ok sc_ChargeRun_free_left (fun vs H Q E h => by revert h; walk_at "ln") (fun cdv A outer s H vs Q E hr h => ⟨t_ChargeRun_free_left K cl, ?_, rd_ChargeRun_free_left h⟩)
  exact (pss_one (ps_ret (pe_op op_sub (pe_get2 hr.units (pe_fld (pv 0) rfl) (pv 1) (pe_int) ⟨rfl, rfl, rfl, rfl⟩) (pe_get2 hr.units (pe_fld (pv 0) rfl) (pe_tup (pa_cons (pv 1) (pa_cons (pv 2) pa_nil))) (pe_int) ⟨rfl, rfl, rfl, rfl⟩))))
theorem ok_ChargeRun_reason_against (T : Tx K mg fn fd cl) : letI : Wo := ⟨P, w⟩; FnOk P w K mg base CX0 1 (fn 9) (fd 9) ["self", "section", "contract"] (sp_ChargeRun_reason_against K cl) := by
  haveI := T.cf
  letI : Wo := ⟨P, w⟩
  refine T.F_ChargeRun_reason_against.ok sc_ChargeRun_reason_against (fun vs H Q E h => by revert h; walk_at "ln") (fun cdv A outer s H vs Q E hr h => ⟨t_ChargeRun_reason_against K cl, ?_, rd_ChargeRun_reason_against h⟩)
  exact (pss_cons (ps_if (pt_cmpR op_isN (pv 2) (pe_non) (nomark _)) (pss_one (ps_ret (pe_str))) pss_nil) (pss_cons (ps_if (pt_cmpR (op_notInA hr.units) (pe_ix ix_seq (pv 2) (pe_int) (fun _ _ => rfl)) (pe_fld (pv 0) rfl) (by rfl)) (pss_one (ps_ret (pe_str))) pss_nil) (pss_one (ps_ret (pe_non)))))
theorem ok_section_place (T : Tx K mg fn fd cl) : letI : Wo := ⟨P, w⟩; FnOk P w K mg base CX0 1 (fn 12) (fd 12) ["section"] (sp_section_place K cl) := by
  haveI := T.cf
  letI : Wo := ⟨P, w⟩
  refine T.F_section_place.ok sc_section_place (fun vs H Q E h => by revert h; walk_at "ln") (fun cdv A outer s H vs Q E hr h => ⟨t_section_place K cl, ?_, rd_section_place h⟩)
  exact (pss_one (ps_ret (pe_tup (pa_cons (pe_fld (pv 0) rfl) (pa_cons (pe_fld (pv 0) rfl) pa_nil)))))
theorem ok_Contracts_init (T : Tx K mg fn fd cl) : letI : Wo := ⟨P, w⟩; FnOk P w K mg base CX0 1 (fn 15) (fd 15) ["self"] (sp_Contracts_init K cl) := by
  haveI := T.cf
  letI : Wo := ⟨P, w⟩
  refine T.F_Contracts_init.ok sc_Contracts_init (fun vs H Q E h => by revert h; walk_at "ln") (fun cdv A outer s H vs Q E hr h => ⟨t_Contracts_init K cl, ?_, rd_Contracts_init h⟩)
  exact (pss_one (ps_fld (pv 0) (pe_new) rfl))
theorem ok_Contracts_set_history (T : Tx K mg fn fd cl) : letI : Wo := ⟨P, w⟩; FnOk P w K mg base CX0 1 (fn 16) (fd 16) ["self", "line", "rows"] (sp_Contracts_set_history K cl) := by
  haveI := T.cf
  letI : Wo := ⟨P, w⟩
  refine T.F_Contracts_set_history.ok sc_Contracts_set_history (fun vs H Q E h => by revert h; walk_at "ln") (fun cdv A outer s H vs Q E hr h => ⟨t_Contracts_set_history K cl, ?_, rd_Contracts_set_history h⟩)
  exact (pss_cons (ps_for PassesOwn.never rfl (pi_range2 (by rfl) T.z_range (pa_cons (pe_int) (pa_cons (pe_callB call_len (by rfl) T.z_len (by decide +kernel) (pa_cons (pv 2) pa_nil)) pa_nil))) (pg_name (i := 3) sc_Contracts_set_history.nd rfl (.inl rfl)) (pss_one (ps_if (pt_cmpR op_le (pe_ix ix_seq (pe_ix ix_seq (pv 2) (pv 3) (fun _ _ => rfl)) (pe_int) (fun _ _ => rfl)) (pe_ix ix_seq (pe_ix ix_seq (pv 2) (pe_op op_sub (pv 3) (pe_int)) (fun _ _ => rfl)) (pe_int) (fun _ _ => rfl)) (nomark _)) (pss_one ps_nope) pss_nil))) (pss_one (ps_if (pt_tr (pv 2)) (pss_one (ps_asg (pe_callTy call_tuple_of (by rfl) T.z_tuple (by decide +kernel) (pa_cons (pv 2) pa_nil)) (pg_sub (pe_fld (pv 0) rfl) (pv 1) (set_dictA hr.units)))) (pss_one (ps_if (pt_cmpR (op_inA hr.units) (pv 1) (pe_fld (pv 0) rfl) (by rfl)) (pss_one (ps_delA hr.units (pe_fld (pv 0) rfl) (pv 1))) pss_nil)))))
theorem ok_Contracts_in_force (T : Tx K mg fn fd cl) : letI : Wo := ⟨P, w⟩; FnOk P w K mg base CX0 1 (fn 17) (fd 17) ["self", "line", "clock"] (sp_Contracts_in_force K cl) := by
  haveI := T.cf
  letI : Wo := ⟨P, w⟩
  refine T.F_Contracts_in_force.ok sc_Contracts_in_force (fun vs H Q E h => by revert h; walk_at "ln") (fun cdv A outer s H vs Q E hr h => ⟨t_Contracts_in_force K cl, ?_, rd_Contracts_in_force h⟩)
  exact (pss_cons (ps_set (i := 3) sc_Contracts_in_force.nd rfl (.inl rfl) (pe_non)) (pss_cons (ps_for PassesOwn.never rfl (pi_seq (pe_get2 hr.units (pe_fld (pv 0) rfl) (pv 1) (pe_tup pa_nil) ⟨rfl, rfl, rfl, rfl⟩)) (pg_tup rfl (pgs_cons (pg_name (i := 4) sc_Contracts_in_force.nd rfl (.inl rfl)) (pgs_cons (pg_name (i := 5) sc_Contracts_in_force.nd rfl (.inl rfl)) (pgs_cons (pg_name (i := 6) sc_Contracts_in_force.nd rfl (.inl rfl)) pgs_nil)))) (pss_one (ps_if (pt_cmpR op_le (pv 4) (pv 2) (nomark _)) (pss_one (ps_set (i := 3) sc_Contracts_in_force.nd rfl (.inl rfl) (pe_tup (pa_cons (pv 5) (pa_cons (pv 6) pa_nil))))) pss_nil))) (pss_cons (ps_if (PW.pt (pw_or (pt_cmpR op_isN (pv 3) (pe_non) (nomark _)) (pw_or1 (pt_cmpR op_isN (pe_ix ix_seq (pv 3) (pe_int) (fun _ _ => rfl)) (pe_non) (nomark _))))) (pss_one (ps_ret (pe_non))) pss_nil) (pss_one (ps_ret (pv 3))))))
theorem ok_Section_init (T : Tx K mg fn fd cl) : letI : Wo := ⟨P, w⟩; FnOk P w K mg base CX0 1 (fn 18) (fd 18) ["self", "owner", "payer", "called", "opened", "start", "seconds"] (sp_Section_init K cl) := by
  haveI := T.cf
  letI : Wo := ⟨P, w⟩
  refine T.F_Section_init.ok sc_Section_init (fun vs H Q E h => by revert h; walk_at "ln") (fun cdv A outer s H vs Q E hr h => ⟨t_Section_init K cl, ?_, rd_Section_init h⟩)
  exact (pss_cons (ps_fld (pv 0) (pv 1) rfl) (pss_cons (ps_fld (pv 0) (pv 2) rfl) (pss_cons (ps_fld (pv 0) (pv 3) rfl) (pss_cons (ps_fld (pv 0) (pv 4) rfl) (pss_cons (ps_fld (pv 0) (pv 5) rfl) (pss_one (ps_fld (pv 0) (pv 6) rfl)))))))
theorem ok_Section_is_free (T : Tx K mg fn fd cl) : letI : Wo := ⟨P, w⟩; FnOk P w K mg base CX0 1 (fn 19) (fd 19) ["self"] (sp_Section_is_free K cl) := by
  haveI := T.cf
  letI : Wo := ⟨P, w⟩
  refine T.F_Section_is_free.ok sc_Section_is_free (fun vs H Q E h => by revert h; walk_at "ln") (fun cdv A outer s H vs Q E hr h => ⟨t_Section_is_free K cl, ?_, rd_Section_is_free h⟩)
  exact (pss_one (ps_ret ((pe_or (pe_cmpR op_isN (pe_fld (pv 0) rfl) (pe_non) (nomark _)) (pe_one (pe_cmpR (op_eqA hr.units) (pe_fld (pv 0) rfl) (pe_int) (nomark _)))))))
theorem ok_law_cell (T : Tx K mg fn fd cl) : letI : Wo := ⟨P, w⟩; FnOk P w K mg base CX0 1 (fn 20) (fd 20) ["script", "k"] (sp_law_cell K cl) := by
  haveI := T.cf
  letI : Wo := ⟨P, w⟩
  refine T.F_law_cell.ok sc_law_cell (fun vs H Q E h => by revert h; walk_at "ln") (fun cdv A outer s H vs Q E hr h => ⟨t_law_cell K cl, ?_, rd_law_cell h⟩)
  exact (pss_cons (ps_if (pt_cmpR op_lt (pv 1) (pe_callB call_len (by rfl) T.z_len (by decide +kernel) (pa_cons (pv 0) pa_nil)) (nomark _)) (pss_one (ps_ret (pe_ix ix_seq (pv 0) (pv 1) (fun _ _ => rfl)))) pss_nil) (pss_one (ps_ret (pe_int))))
theorem ok_law_state (T : Tx K mg fn fd cl) : letI : Wo := ⟨P, w⟩; FnOk P w K mg base CX0 1 (fn 21) (fd 21) ["cell", "k"] (sp_law_state K cl) := by
  haveI := T.cf
  letI : Wo := ⟨P, w⟩
  refine T.F_law_state.ok sc_law_state (fun vs H Q E h => by revert h; walk_at "ln") (fun cdv A outer s H vs Q E hr h => ⟨t_law_state K cl, ?_, rd_law_state h⟩)
  exact (pss_cons (ps_if (pt_cmpR op_ge (pv 0) (pe_int) (nomark _)) (pss_one (ps_ret (pe_lst (pa_cons (pv 0) pa_nil)))) pss_nil) (pss_cons (ps_set (i := 2) sc_law_state.nd rfl (.inl rfl) (pe_int)) (pss_cons (ps_set (i := 3) sc_law_state.nd rfl (.inl rfl) (pe_op op_mod (pe_callTy call_int1 (by rfl) T.z_int (by decide +kernel) (pa_cons (pe_op op_addA (pe_op op_addA (pe_op op_mul (pv 0) (pe_int)) (pe_op op_mul (pe_op op_addA (pv 1) (pe_int)) (pe_int))) (pe_int)) pa_nil)) (pv 2))) (pss_cons (ps_set (i := 4) sc_law_state.nd rfl (.inl rfl) (pe_op op_mod (pe_callTy call_int1 (by rfl) T.z_int (by decide +kernel) (pa_cons (pe_op op_addA (pe_op op_addA (pe_op op_mul (pv 3) (pv 3)) (pe_op op_mul (pe_int) (pv 3))) (pv 1)) pa_nil)) (pv 2))) (pss_cons (ps_set (i := 5) sc_law_state.nd rfl (.inl rfl) (pe_op op_mod (pe_callTy call_int1 (by rfl) T.z_int (by decide +kernel) (pa_cons (pe_op op_addA (pe_op op_addA (pe_op op_mul (pv 4) (pe_int)) (pe_op op_mul (pv 3) (pe_int))) (pe_int)) pa_nil)) (pv 2))) (pss_cons (ps_set (i := 6) sc_law_state.nd rfl (.inl rfl) (pe_op op_mod (pe_callTy call_int1 (by rfl) T.z_int (by decide +kernel) (pa_cons (pe_op op_addA (pe_op op_mul (pv 5) (pv 5)) (pv 4)) pa_nil)) (pv 2))) (pss_one (ps_ret (pe_lst (pa_cons (pe_op op_addA (pe_op op_mul (pe_op op_addA (pe_op op_mul (pe_op op_addA (pe_op op_mul (pv 6) (pv 2)) (pv 5)) (pv 2)) (pv 4)) (pv 2)) (pv 3)) pa_nil))))))))))
theorem ok_law_digit (T : Tx K mg fn fd cl) : letI : Wo := ⟨P, w⟩; FnOk P w K mg base CX0 1 (fn 22) (fd 22) ["state", "many"] (sp_law_digit K cl) := by
  haveI := T.cf
  letI : Wo := ⟨P, w⟩
  refine T.F_law_digit.ok sc_law_digit (fun vs H Q E h => by revert h; walk_at "ln") (fun cdv A outer s H vs Q E hr h => ⟨t_law_digit K cl, ?_, rd_law_digit h⟩)
  exact (pss_cons (ps_set (i := 2) sc_law_digit.nd rfl (.inl rfl) (pe_op op_mod (pe_callTy call_int1 (by rfl) T.z_int (by decide +kernel) (pa_cons (pe_ix ix_seq (pv 0) (pe_int) (fun _ _ => rfl)) pa_nil)) (pv 1))) (pss_cons (ps_asg (pe_op op_fdiv (pe_ix ix_seq (pv 0) (pe_int) (fun _ _ => rfl)) (pv 1)) (pg_sub (pv 0) (pe_int) set_list)) (pss_one (ps_ret (pv 2)))))
theorem ok_law_lines (T : Tx K mg fn fd cl) : letI : Wo := ⟨P, w⟩; FnOk P w K mg base CX0 1 (fn 27) (fd 27) [] (sp_law_lines K cl) := by
  haveI := T.cf
  letI : Wo := ⟨P, w⟩
  refine T.F_law_lines.ok sc_law_lines (fun vs H Q E h => by revert h; walk_at "ln") (fun cdv A outer s H vs Q E hr h => ⟨t_law_lines K cl, ?_, rd_law_lines h⟩)
  exact (pss_one (ps_ret (pe_lst (pa_cons (pe_str) (pa_cons (pe_str) (pa_cons (pe_str) (pa_cons (pe_str) pa_nil)))))))
theorem ok_law_used (T : Tx K mg fn fd cl) : letI : Wo := ⟨P, w⟩; FnOk P w K mg base CX0 1 (fn 34) (fd 34) ["charges", "owner"] (sp_law_used K cl) := by
  haveI := T.cf
  letI : Wo := ⟨P, w⟩
  refine T.F_law_used.ok sc_law_used (fun vs H Q E h => by revert h; walk_at "ln") (fun cdv A outer s H vs Q E hr h => ⟨t_law_used K cl, ?_, rd_law_used h⟩)
  exact (pss_cons (ps_set (i := 2) sc_law_used.nd rfl (.inl rfl) (pe_int)) (pss_cons (ps_for PassesOwn.never rfl (pi_seq (pv 0)) (pg_name (i := 3) sc_law_used.nd rfl (.inl rfl)) (pss_one (ps_if (PW.pt (pw_and (pt_cmpR (op_eqA hr.units) (pe_ix ix_seq (pe_fld (pv 3) rfl) (pe_int) (fun _ _ => rfl)) (pv 1) (nomark _)) (pw_and1 (pt_cmpR (op_eqA hr.units) (pe_ix ix_seq (pe_fld (pv 3) rfl) (pe_int) (fun _ _ => rfl)) (pe_str) (nomark _))))) (pss_one (ps_set (i := 2) sc_law_used.nd rfl (.inl rfl) (pe_op op_sub (pe_op op_addA (pv 2) (pe_fld (pv 3) rfl)) (pe_ix ix_seq (pe_fld (pv 3) rfl) (pe_int) (fun _ _ => rfl))))) pss_nil))) (pss_one (ps_ret (pv 2)))))
theorem ok_Tariff_band_at (T : Tx K mg fn fd cl) : letI : Wo := ⟨P, w⟩; FnOk P w K mg base CX0 2 (fn 3) (fd 3) ["self", "called", "clock"] (sp_Tariff_band_at K cl) := by
  haveI := T.cf
  letI : Wo := ⟨P, w⟩
  refine T.F_Tariff_band_at.ok sc_Tariff_band_at (fun vs H Q E h => by revert h; walk_at "ln") (fun cdv A outer s H vs Q E hr h => ⟨t_Tariff_band_at K cl, ?_, rd_Tariff_band_at h⟩)
  exact (pss_cons (ps_set (i := 3) sc_Tariff_band_at.nd rfl (.inl rfl) (pe_non)) (pss_cons (ps_for PassesOwn.never rfl (pi_seq (pe_fld (pv 0) rfl)) (pg_name (i := 4) sc_Tariff_band_at.nd rfl (.inl rfl)) (pss_one (ps_if (PW.pt (pw_and (pt_tr (pe_meth (pv 4) T.cf.cl_Band T.meth_Band_holds (ok_Band_holds T) (hr.mono (by decide)) T.b_Band_holds .nil pass0 (pa_cons (pv 1) (pa_cons (pv 2) pa_nil)))) (pw_and1 (PW.pt (pw_or (pt_cmpR op_isN (pv 3) (pe_non) (nomark _)) (pw_or1 (pt_cmpR op_gt (pe_callB call_len (by rfl) T.z_len (by decide +kernel) (pa_cons (pe_fld (pv 4) rfl) pa_nil)) (pe_callB call_len (by rfl) T.z_len (by decide +kernel) (pa_cons (pe_fld (pv 3) rfl) pa_nil)) (nomark _)))))))) (pss_one (ps_set (i := 3) sc_Tariff_band_at.nd rfl (.inl rfl) (pv 4))) pss_nil))) (pss_one (ps_ret (pv 3)))))
theorem ok_law_shuffled (T : Tx K mg fn fd cl) : letI : Wo := ⟨P, w⟩; FnOk P w K mg base CX0 2 (fn 23) (fd 23) ["script", "things"] (sp_law_shuffled K cl) := by
  haveI := T.cf
  letI : Wo := ⟨P, w⟩
  refine T.F_law_shuffled.ok sc_law_shuffled (fun vs H Q E h => by revert h; walk_at "ln") (fun cdv A outer s H vs Q E hr h => ⟨t_law_shuffled K cl, ?_, rd_law_shuffled h⟩)
  exact (pss_cons (ps_set (i := 2) sc_law_shuffled.nd rfl (.inl rfl) (pe_callTy call_list_of (by rfl) T.z_list (by decide +kernel) (pa_cons (pv 1) pa_nil))) (pss_cons (ps_set (i := 3) sc_law_shuffled.nd rfl (.inl rfl) (pe_lst pa_nil)) (pss_cons (ps_for PassesOwn.never rfl (pi_range1 (by rfl) T.z_range (pa_cons (pe_callB call_len (by rfl) T.z_len (by decide +kernel) (pa_cons (pv 1) pa_nil)) pa_nil)) (pg_name (i := 4) sc_law_shuffled.nd rfl (.inl rfl)) (pss_cons (ps_set (i := 5) sc_law_shuffled.nd rfl (.inl rfl) (pe_call (ok_law_state T) (hr.mono (by decide)) (by rfl) T.m_law_state T.F_law_state.kp T.b_law_state .nil pass0 (pa_cons (pe_call (ok_law_cell T) (hr.mono (by decide)) (by rfl) T.m_law_cell T.F_law_cell.kp T.b_law_cell .nil pass0 (pa_cons (pv 0) (pa_cons (pv 4) pa_nil))) (pa_cons (pe_op op_addA (pe_int) (pv 4)) pa_nil)))) (pss_cons (ps_set (i := 6) sc_law_shuffled.nd rfl (.inl rfl) (pe_call (ok_law_digit T) (hr.mono (by decide)) (by rfl) T.m_law_digit T.F_law_digit.kp T.b_law_digit .nil pass0 (pa_cons (pv 5) (pa_cons (pe_callB call_len (by rfl) T.z_len (by decide +kernel) (pa_cons (pv 2) pa_nil)) pa_nil)))) (pss_cons (ps_expr (pe_bm PySem.F.plainAttrs_list PySem.F.slot_list_append PySem.F.type_list_append mt_append (pv 3) (pa_cons (pe_ix ix_seq (pv 2) (pv 6) (fun _ _ => rfl)) pa_nil))) (pss_one (ps_set (i := 2) sc_law_shuffled.nd rfl (.inl rfl) (pe_op op_addA (pe_slice sl_any (pv 2) po_none (po_some (pv 6))) (pe_slice sl_any (pv 2) (po_some (pe_op op_addA (pv 6) (pe_int))) po_none)))))))) (pss_one (ps_ret (pv 3))))))
theorem ok_law_called (T : Tx K mg fn fd cl) : letI : Wo := ⟨P, w⟩; FnOk P w K mg base CX0 2 (fn 25) (fd 25) ["state"] (sp_law_called K cl) := by
  haveI := T.cf
  letI : Wo := ⟨P, w⟩
  refine T.F_law_called.ok sc_law_called (fun vs H Q E h => by revert h; walk_at "ln") (fun cdv A outer s H vs Q E hr h => ⟨t_law_called K cl, ?_, rd_law_called h⟩)
  exact (pss_one (ps_ret (pe_op op_addA (pe_ix ix_seq (pe_tup (pa_cons (pe_str) (pa_cons (pe_str) (pa_cons (pe_str) (pa_cons (pe_str) (pa_cons (pe_str) (pa_cons (pe_str) pa_nil))))))) (pe_call (ok_law_digit T) (hr.mono (by decide)) (by rfl) T.m_law_digit T.F_law_digit.kp T.b_law_digit .nil pass0 (pa_cons (pv 0) (pa_cons (pe_int) pa_nil))) (fun _ _ => rfl)) (pe_callTy call_str_int (by rfl) T.z_str (by decide +kernel) (pa_cons (pe_call (ok_law_digit T) (hr.mono (by decide)) (by rfl) T.m_law_digit T.F_law_digit.kp T.b_law_digit .nil pass0 (pa_cons (pv 0) (pa_cons (pe_int) pa_nil))) pa_nil)))))
theorem ok_law_history (T : Tx K mg fn fd cl) : letI : Wo := ⟨P, w⟩; FnOk P w K mg base CX0 2 (fn 28) (fd 28) ["state"] (sp_law_history K cl) := by
  haveI := T.cf
  letI : Wo := ⟨P, w⟩
  refine T.F_law_history.ok sc_law_history (fun vs H Q E h => by revert h; walk_at "ln") (fun cdv A outer s H vs Q E hr h => ⟨t_law_history K cl, ?_, rd_law_history h⟩)
  exact (pss_cons (ps_set (i := 1) sc_law_history.nd rfl (.inl rfl) (pe_lst pa_nil)) (pss_cons (ps_set (i := 2) sc_law_history.nd rfl (.inl rfl) (pe_int)) (pss_cons (ps_for PassesOwn.never rfl (pi_range1 (by rfl) T.z_range (pa_cons (pe_call (ok_law_digit T) (hr.mono (by decide)) (by rfl) T.m_law_digit T.F_law_digit.kp T.b_law_digit .nil pass0 (pa_cons (pv 0) (pa_cons (pe_int) pa_nil))) pa_nil)) (pg_name (i := 3) sc_law_history.nd rfl (.inl rfl)) (pss_cons (ps_set (i := 4) sc_law_history.nd rfl (.inl rfl) (pe_ix ix_seq (pe_tup (pa_cons (pe_str) (pa_cons (pe_str) (pa_cons (pe_non) (pa_cons (pe_str) pa_nil))))) (pe_call (ok_law_digit T) (hr.mono (by decide)) (by rfl) T.m_law_digit T.F_law_digit.kp T.b_law_digit .nil pass0 (pa_cons (pv 0) (pa_cons (pe_int) pa_nil))) (fun _ _ => rfl))) (pss_cons (ps_expr (pe_bm PySem.F.plainAttrs_list PySem.F.slot_list_append PySem.F.type_list_append mt_append (pv 1) (pa_cons (pe_tup (pa_cons (pv 2) (pa_cons (pv 4) (pa_cons (pe_ix ix_seq (pe_tup (pa_cons (pe_str) (pa_cons (pe_str) (pa_cons (pe_str) (pa_cons (pe_str) pa_nil))))) (pe_call (ok_law_digit T) (hr.mono (by decide)) (by rfl) T.m_law_digit T.F_law_digit.kp T.b_law_digit .nil pass0 (pa_cons (pv 0) (pa_cons (pe_int) pa_nil))) (fun _ _ => rfl)) pa_nil)))) pa_nil))) (pss_one (ps_set (i := 2) sc_law_history.nd rfl (.inl rfl) (pe_op op_addA (pe_op op_addA (pv 2) (pe_int)) (pe_op op_mul (pe_int) (pe_call (ok_law_digit T) (hr.mono (by decide)) (by rfl) T.m_law_digit T.F_law_digit.kp T.b_law_digit .nil pass0 (pa_cons (pv 0) (pa_cons (pe_int) pa_nil)))))))))) (pss_one (ps_ret (pv 1))))))
theorem ok_law_allowances (T : Tx K mg fn fd cl) : letI : Wo := ⟨P, w⟩; FnOk P w K mg base CX0 2 (fn 33) (fd 33) ["script"] (sp_law_allowances K cl) := by
  haveI := T.cf
  letI : Wo := ⟨P, w⟩
  refine T.F_law_allowances.ok sc_law_allowances (fun vs H Q E h => by revert h; walk_at "ln") (fun cdv A outer s H vs Q E hr h => ⟨t_law_allowances K cl, ?_, rd_law_allowances h⟩)
  exact (pss_cons (ps_set (i := 1) sc_law_allowances.nd rfl (.inl rfl) (pe_call (ok_law_state T) (hr.mono (by decide)) (by rfl) T.m_law_state T.F_law_state.kp T.b_law_state .nil pass0 (pa_cons (pe_call (ok_law_cell T) (hr.mono (by decide)) (by rfl) T.m_law_cell T.F_law_cell.kp T.b_law_cell .nil pass0 (pa_cons (pv 0) (pa_cons (pe_int) pa_nil))) (pa_cons (pe_int) pa_nil)))) (pss_one (ps_ret (pe_disp (pps_cons (pe_str) (pe_ix ix_seq (pe_tup (pa_cons (pe_int) (pa_cons (pe_int) (pa_cons (pe_int) (pa_cons (pe_int) pa_nil))))) (pe_call (ok_law_digit T) (hr.mono (by decide)) (by rfl) T.m_law_digit T.F_law_digit.kp T.b_law_digit .nil pass0 (pa_cons (pv 1) (pa_cons (pe_int) pa_nil))) (fun _ _ => rfl)) (pps_cons (pe_str) (pe_call (ok_law_digit T) (hr.mono (by decide)) (by rfl) T.m_law_digit T.F_law_digit.kp T.b_law_digit .nil pass0 (pa_cons (pv 1) (pa_cons (pe_int) pa_nil))) pps_nil)) rfl rfl (fun h => nomatch h) (Nat.le_of_ble_eq_true rfl)))))
theorem ok_law_large (T : Tx K mg fn fd cl) : letI : Wo := ⟨P, w⟩; FnOk P w K mg base CX0 2 (fn 36) (fd 36) ["script"] (sp_law_large K cl) := by
  haveI := T.cf
  letI : Wo := ⟨P, w⟩
  refine T.F_law_large.ok sc_law_large (fun vs H Q E h => by revert h; walk_at "ln") (fun cdv A outer s H vs Q E hr h => ⟨t_law_large K cl, ?_, rd_law_large h⟩)
  exact (pss_one (ps_ret (pe_cmpR (op_eqA hr.units) (pe_call (ok_law_digit T) (hr.mono (by decide)) (by rfl) T.m_law_digit T.F_law_digit.kp T.b_law_digit .nil pass0 (pa_cons (pe_call (ok_law_state T) (hr.mono (by decide)) (by rfl) T.m_law_state T.F_law_state.kp T.b_law_state .nil pass0 (pa_cons (pe_call (ok_law_cell T) (hr.mono (by decide)) (by rfl) T.m_law_cell T.F_law_cell.kp T.b_law_cell .nil pass0 (pa_cons (pv 0) (pa_cons (pe_int) pa_nil))) (pa_cons (pe_int) pa_nil))) (pa_cons (pe_int) pa_nil))) (pe_int) (nomark _))))
theorem ok_stretches (T : Tx K mg fn fd cl) : letI : Wo := ⟨P, w⟩; FnOk P w K mg base CX0 3 (fn 4) (fd 4) ["tariff", "called", "start", "begin", "till"] (sp_stretches K cl) := by
  haveI := T.cf
  letI : Wo := ⟨P, w⟩
  obtain ⟨u_HOUR, g_HOUR⟩ := T.g_HOUR
  refine T.F_stretches.ok sc_stretches (fun vs H Q E h => by revert h; walk_at "ln") (fun cdv A outer s H vs Q E hr h => ⟨t_stretches K cl, ?_, rd_stretches h⟩)
  exact (pss_cons (ps_set (i := 5) sc_stretches.nd rfl (.inl rfl) (pe_lst pa_nil)) (pss_cons (ps_set (i := 6) sc_stretches.nd rfl (.inl rfl) (pv 3)) (pss_cons (ps_while PassesOwn.never (pt_cmpR op_lt (pv 6) (pv 4) (nomark _)) (pss_cons (ps_set (i := 7) sc_stretches.nd rfl (.inl rfl) (pe_meth (pv 0) T.cf.cl_Tariff T.meth_Tariff_band_at (ok_Tariff_band_at T) (hr.mono (by decide)) T.b_Tariff_band_at .nil pass0 (pa_cons (pv 1) (pa_cons (pe_op op_addA (pv 2) (pv 6)) pa_nil)))) (pss_cons (ps_if (pt_cmpR op_isN (pv 7) (pe_non) (nomark _)) (pss_one (ps_ret (pe_non))) pss_nil) (pss_cons (ps_set (i := 8) sc_stretches.nd rfl (.inl rfl) (pe_callB (call_min2 rfl) (by rfl) T.z_min (by decide +kernel) (pa_cons (pv 4) (pa_cons (pe_op op_sub (pe_op op_addA (pv 6) (pe_glob rfl g_HOUR ⟨_, rfl⟩)) (pe_op op_mod (pe_op op_addA (pv 2) (pv 6)) (pe_glob rfl g_HOUR ⟨_, rfl⟩))) pa_nil)))) (pss_cons (ps_if (PW.pt (pw_and (pt_tr (pv 5)) (pw_and1 (pt_cmpR (op_eqA hr.units) (pe_fld (pe_ix ix_seq (pe_ix ix_seq (pv 5) (pe_un un_neg (pe_int)) (fun _ _ => rfl)) (pe_int) (fun _ _ => rfl)) rfl) (pe_fld (pv 7) rfl) (nomark _))))) (pss_one (ps_asg (pe_tup (pa_cons (pv 7) (pa_cons (pe_ix ix_seq (pe_ix ix_seq (pv 5) (pe_un un_neg (pe_int)) (fun _ _ => rfl)) (pe_int) (fun _ _ => rfl)) (pa_cons (pv 8) pa_nil)))) (pg_sub (pv 5) (pe_un un_neg (pe_int)) set_list))) (pss_one (ps_expr (pe_bm PySem.F.plainAttrs_list PySem.F.slot_list_append PySem.F.type_list_append mt_append (pv 5) (pa_cons (pe_tup (pa_cons (pv 7) (pa_cons (pv 6) (pa_cons (pv 8) pa_nil)))) pa_nil))))) (pss_one (ps_set (i := 6) sc_stretches.nd rfl (.inl rfl) (pv 8)))))))) (pss_one (ps_ret (pv 5))))))
theorem ok_law_tariff (T : Tx K mg fn fd cl) : letI : Wo := ⟨P, w⟩; FnOk P w K mg base CX0 3 (fn 24) (fd 24) ["state"] (sp_law_tariff K cl) := by
  haveI := T.cf
  letI : Wo := ⟨P, w⟩
  refine T.F_law_tariff.ok sc_law_tariff (fun vs H Q E h => by revert h; walk_at "ln") (fun cdv A outer s H vs Q E hr h => ⟨t_law_tariff K cl, ?_, rd_law_tariff h⟩)
  exact (pss_cons (ps_set (i := 1) sc_law_tariff.nd rfl (.inl rfl) (pe_lst pa_nil)) (pss_cons (ps_for PassesOwn.never rfl (pi_range1 (by rfl) T.z_range (pa_cons (pe_call (ok_law_digit T) (hr.mono (by decide)) (by rfl) T.m_law_digit T.F_law_digit.kp T.b_law_digit .nil pass0 (pa_cons (pv 0) (pa_cons (pe_int) pa_nil))) pa_nil)) (pg_name (i := 2) sc_law_tariff.nd rfl (.inl rfl)) (pss_cons (ps_set (i := 3) sc_law_tariff.nd rfl (.inl rfl) (pe_ix ix_seq (pe_tup (pa_cons (pe_str) (pa_cons (pe_str) (pa_cons (pe_str) (pa_cons (pe_str) (pa_cons (pe_str) (pa_cons (pe_str) pa_nil))))))) (pe_call (ok_law_digit T) (hr.mono (by decide)) (by rfl) T.m_law_digit T.F_law_digit.kp T.b_law_digit .nil pass0 (pa_cons (pv 0) (pa_cons (pe_int) pa_nil))) (fun _ _ => rfl))) (pss_cons (ps_set (i := 4) sc_law_tariff.nd rfl (.inl rfl) (pe_call (ok_law_digit T) (hr.mono (by decide)) (by rfl) T.m_law_digit T.F_law_digit.kp T.b_law_digit .nil pass0 (pa_cons (pv 0) (pa_cons (pe_int) pa_nil)))) (pss_cons (ps_set (i := 5) sc_law_tariff.nd rfl (.inl rfl) (pe_op op_addA (pe_op op_addA (pv 4) (pe_int)) (pe_call (ok_law_digit T) (hr.mono (by decide)) (by rfl) T.m_law_digit T.F_law_digit.kp T.b_law_digit .nil pass0 (pa_cons (pv 0) (pa_cons (pe_op op_sub (pe_int) (pv 4)) pa_nil))))) (pss_one (ps_expr (pe_bm PySem.F.plainAttrs_list PySem.F.slot_list_append PySem.F.type_list_append mt_append (pv 1) (pa_cons (pe_make T.mk_Band (ok_Band_init T) (hr.mono (by decide)) (by rfl) T.m_Band T.b_Band_init .nil pass0 (pa_cons (pe_op op_addA (pe_str) (pe_callTy call_str_int (by rfl) T.z_str (by decide +kernel) (pa_cons (pv 2) pa_nil))) (pa_cons (pv 3) (pa_cons (pv 4) (pa_cons (pv 5) (pa_cons (pe_call (ok_law_digit T) (hr.mono (by decide)) (by rfl) T.m_law_digit T.F_law_digit.kp T.b_law_digit .nil pass0 (pa_cons (pv 0) (pa_cons (pe_int) pa_nil))) pa_nil)))))) pa_nil)))))))) (pss_cons (ps_if (pt_cmpR op_gt (pe_call (ok_law_digit T) (hr.mono (by decide)) (by rfl) T.m_law_digit T.F_law_digit.kp T.b_law_digit .nil pass0 (pa_cons (pv 0) (pa_cons (pe_int) pa_nil))) (pe_int) (nomark _)) (pss_one (ps_expr (pe_bm PySem.F.plainAttrs_list PySem.F.slot_list_append PySem.F.type_list_append mt_append (pv 1) (pa_cons (pe_make T.mk_Band (ok_Band_init T) (hr.mono (by decide)) (by rfl) T.m_Band T.b_Band_init .nil pass0 (pa_cons (pe_str) (pa_cons (pe_str) (pa_cons (pe_int) (pa_cons (pe_int) (pa_cons (pe_op op_addA (pe_int) (pe_call (ok_law_digit T) (hr.mono (by decide)) (by rfl) T.m_law_digit T.F_law_digit.kp T.b_law_digit .nil pass0 (pa_cons (pv 0) (pa_cons (pe_int) pa_nil)))) pa_nil)))))) pa_nil)))) pss_nil) (pss_one (ps_ret (pe_make T.mk_Tariff (ok_Tariff_init T) (hr.mono (by decide)) (by rfl) T.m_Tariff T.b_Tariff_init .nil pass0 (pa_cons (pe_call (ok_law_digit T) (hr.mono (by decide)) (by rfl) T.m_law_digit T.F_law_digit.kp T.b_law_digit .nil pass0 (pa_cons (pv 0) (pa_cons (pe_int) pa_nil))) (pa_cons (pe_callTy call_tuple_of (by rfl) T.z_tuple (by decide +kernel) (pa_cons (pv 1) pa_nil)) pa_nil))))))))
theorem ok_law_section (T : Tx K mg fn fd cl) : letI : Wo := ⟨P, w⟩; FnOk P w K mg base CX0 3 (fn 29) (fd 29) ["state", "k"] (sp_law_section K cl) := by
  haveI := T.cf
  letI : Wo := ⟨P, w⟩
  refine T.F_law_section.ok sc_law_section (fun vs H Q E h => by revert h; walk_at "ln") (fun cdv A outer s H vs Q E hr h => ⟨t_law_section K cl, ?_, rd_law_section h⟩)
  exact (pss_cons (ps_set (i := 2) sc_law_section.nd rfl (.inl rfl) (pe_ix ix_seq (pe_tup (pa_cons (pe_str) (pa_cons (pe_str) (pa_cons (pe_str) (pa_cons (pe_str) (pa_cons (pe_non) (pa_cons (pe_str) pa_nil))))))) (pe_call (ok_law_digit T) (hr.mono (by decide)) (by rfl) T.m_law_digit T.F_law_digit.kp T.b_law_digit .nil pass0 (pa_cons (pv 0) (pa_cons (pe_int) pa_nil))) (fun _ _ => rfl))) (pss_cons (ps_set (i := 3) sc_law_section.nd rfl (.inl rfl) (pe_op op_addA (pe_int) (pe_op op_mul (pe_int) (pe_call (ok_law_digit T) (hr.mono (by decide)) (by rfl) T.m_law_digit T.F_law_digit.kp T.b_law_digit .nil pass0 (pa_cons (pv 0) (pa_cons (pe_int) pa_nil)))))) (pss_cons (ps_set (i := 4) sc_law_section.nd rfl (.inl rfl) (pe_op op_sub (pe_op op_addA (pe_op op_mul (pe_int) (pe_call (ok_law_digit T) (hr.mono (by decide)) (by rfl) T.m_law_digit T.F_law_digit.kp T.b_law_digit .nil pass0 (pa_cons (pv 0) (pa_cons (pe_int) pa_nil)))) (pe_int)) (pe_call (ok_law_digit T) (hr.mono (by decide)) (by rfl) T.m_law_digit T.F_law_digit.kp T.b_law_digit .nil pass0 (pa_cons (pv 0) (pa_cons (pe_int) pa_nil))))) (pss_cons (ps_set (i := 5) sc_law_section.nd rfl (.inl rfl) (pe_ix ix_seq (pe_tup (pa_cons (pe_int) (pa_cons (pe_int) (pa_cons (pe_int) (pa_cons (pe_int) (pa_cons (pe_call (ok_law_digit T) (hr.mono (by decide)) (by rfl) T.m_law_digit T.F_law_digit.kp T.b_law_digit .nil pass0 (pa_cons (pv 0) (pa_cons (pe_int) pa_nil))) pa_nil)))))) (pe_call (ok_law_digit T) (hr.mono (by decide)) (by rfl) T.m_law_digit T.F_law_digit.kp T.b_law_digit .nil pass0 (pa_cons (pv 0) (pa_cons (pe_int) pa_nil))) (fun _ _ => rfl))) (pss_cons (ps_if (pt_chain op_lt op_lt (pe_int) (pv 1) (pe_int)) (pss_one (ps_set (i := 5) sc_law_section.nd rfl (.inl rfl) (pe_op op_mul (pv 5) (pe_int)))) pss_nil) (pss_one (ps_ret (pe_make T.mk_Section (ok_Section_init T) (hr.mono (by decide)) (by rfl) T.m_Section T.b_Section_init .nil pass0 (pa_cons (pe_tup (pa_cons (pe_call (ok_law_digit T) (hr.mono (by decide)) (by rfl) T.m_law_digit T.F_law_digit.kp T.b_law_digit .nil pass0 (pa_cons (pv 0) (pa_cons (pe_int) pa_nil))) (pa_cons (pe_int) (pa_cons (pv 1) pa_nil)))) (pa_cons (pv 2) (pa_cons (pe_call (ok_law_called T) (hr.mono (by decide)) (by rfl) T.m_law_called T.F_law_called.kp T.b_law_called .nil pass0 (pa_cons (pv 0) pa_nil)) (pa_cons (pv 3) (pa_cons (pv 4) (pa_cons (pv 5) pa_nil))))))))))))))
theorem ok_law_contracts (T : Tx K mg fn fd cl) : letI : Wo := ⟨P, w⟩; FnOk P w K mg base CX0 3 (fn 32) (fd 32) ["script"] (sp_law_contracts K cl) := by
  haveI := T.cf
  letI : Wo := ⟨P, w⟩
  refine T.F_law_contracts.ok sc_law_contracts (fun vs H Q E h => by revert h; walk_at "ln") (fun cdv A outer s H vs Q E hr h => ⟨t_law_contracts K cl, ?_, rd_law_contracts h⟩)
  exact (pss_cons (ps_set (i := 1) sc_law_contracts.nd rfl (.inl rfl) (pe_make0 T.mk_Contracts (ok_Contracts_init T) (hr.mono (by decide)) (by rfl) T.m_Contracts T.b_Contracts_init .nil pass0 )) (pss_cons (ps_for PassesOwn.never rfl (pi_range1 (by rfl) T.z_range (pa_cons (pe_int) pa_nil)) (pg_name (i := 2) sc_law_contracts.nd rfl (.inl rfl)) (pss_one (ps_expr (pe_meth (pv 1) T.cf.cl_Contracts T.meth_Contracts_set_history (ok_Contracts_set_history T) (hr.mono (by decide)) T.b_Contracts_set_history .nil pass0 (pa_cons (pe_ix ix_seq (pe_call0 (ok_law_lines T) (hr.mono (by decide)) (by rfl) T.m_law_lines T.F_law_lines.kp T.b_law_lines .nil pass0 ) (pv 2) (fun _ _ => rfl)) (pa_cons (pe_call (ok_law_history T) (hr.mono (by decide)) (by rfl) T.m_law_history T.F_law_history.kp T.b_law_history .nil pass0 (pa_cons (pe_call (ok_law_state T) (hr.mono (by decide)) (by rfl) T.m_law_state T.F_law_state.kp T.b_law_state .nil pass0 (pa_cons (pe_call (ok_law_cell T) (hr.mono (by decide)) (by rfl) T.m_law_cell T.F_law_cell.kp T.b_law_cell .nil pass0 (pa_cons (pv 0) (pa_cons (pv 2) pa_nil))) (pa_cons (pe_op op_addA (pe_int) (pv 2)) pa_nil))) pa_nil)) pa_nil)))))) (pss_one (ps_ret (pv 1)))))
theorem ok_price_lines (T : Tx K mg fn fd cl) : letI : Wo := ⟨P, w⟩; FnOk P w K mg base CX0 4 (fn 5) (fd 5) ["tariff", "called", "start", "begin", "till"] (sp_price_lines K cl) := by
  haveI := T.cf
  letI : Wo := ⟨P, w⟩
  obtain ⟨u_MINUTE, g_MINUTE⟩ := T.g_MINUTE
  refine T.F_price_lines.ok sc_price_lines (fun vs H Q E h => by revert h; walk_at "ln") (fun cdv A outer s H vs Q E hr h => ⟨t_price_lines K cl, ?_, rd_price_lines h⟩)
  exact (pss_cons (ps_set (i := 5) sc_price_lines.nd rfl (.inl rfl) (pe_call (ok_stretches T) (hr.mono (by decide)) (by rfl) T.m_stretches T.F_stretches.kp T.b_stretches .nil pass0 (pa_cons (pv 0) (pa_cons (pv 1) (pa_cons (pv 2) (pa_cons (pv 3) (pa_cons (pv 4) pa_nil))))))) (pss_cons (ps_if (pt_cmpR op_isN (pv 5) (pe_non) (nomark _)) (pss_one (ps_ret (pe_non))) pss_nil) (pss_cons (ps_set (i := 6) sc_price_lines.nd rfl (.inl rfl) (pe_lst (pa_cons (pe_tup (pa_cons (pe_str) (pa_cons (pv 3) (pa_cons (pv 3) (pa_cons (pe_fld (pv 0) rfl) pa_nil))))) pa_nil))) (pss_cons (ps_for PassesOwn.never rfl (pi_seq (pv 5)) (pg_tup rfl (pgs_cons (pg_name (i := 7) sc_price_lines.nd rfl (.inl rfl)) (pgs_cons (pg_name (i := 8) sc_price_lines.nd rfl (.inl rfl)) (pgs_cons (pg_name (i := 9) sc_price_lines.nd rfl (.inl rfl)) pgs_nil)))) (pss_cons (ps_set (i := 10) sc_price_lines.nd rfl (.inl rfl) (pe_op op_fdiv (pe_op op_sub (pe_op op_addA (pe_op op_sub (pv 9) (pv 8)) (pe_glob rfl g_MINUTE ⟨_, rfl⟩)) (pe_int)) (pe_glob rfl g_MINUTE ⟨_, rfl⟩))) (pss_one (ps_expr (pe_bm PySem.F.plainAttrs_list PySem.F.slot_list_append PySem.F.type_list_append mt_append (pv 6) (pa_cons (pe_tup (pa_cons (pe_fld (pv 7) rfl) (pa_cons (pv 8) (pa_cons (pv 9) (pa_cons (pe_op op_mul (pe_fld (pv 7) rfl) (pv 10)) pa_nil))))) pa_nil)))))) (pss_one (ps_ret (pv 6)))))))
theorem ok_law_sections (T : Tx K mg fn fd cl) : letI : Wo := ⟨P, w⟩; FnOk P w K mg base CX0 4 (fn 30) (fd 30) ["script", "many"] (sp_law_sections K cl) := by
  haveI := T.cf
  letI : Wo := ⟨P, w⟩
  refine T.F_law_sections.ok sc_law_sections (fun vs H Q E h => by revert h; walk_at "ln") (fun cdv A outer s H vs Q E hr h => ⟨t_law_sections K cl, ?_, rd_law_sections h⟩)
  exact (pss_one (ps_ret (pe_lc (own := [("k", 2)]) rfl sc_law_sections.nd (pi_range1 (by rfl) T.z_range (pa_cons (pv 1) pa_nil)) (blkOk_by (own := [("k", 2)]) (N := ["script", "many", "k"]) (sc := defScope s_law_sections) (by decide +kernel)) (fun _ _ _ _ _ => (pg_name (i := 2) sc_law_sections.nd rfl (.inl rfl))) (fun _ _ _ _ _ => pts_nil) (fun _ _ _ _ _ => (pe_call (ok_law_section T) (hr.mono (by decide)) (by rfl) T.m_law_section T.F_law_section.kp T.b_law_section .nil pass0 (pa_cons (pe_call (ok_law_state T) (hr.mono (by decide)) (by rfl) T.m_law_state T.F_law_state.kp T.b_law_state .nil pass0 (pa_cons (pe_call (ok_law_cell T) (hr.mono (by decide)) (by rfl) T.m_law_cell T.F_law_cell.kp T.b_law_cell .nil pass0 (pa_cons (pv 0) (pa_cons (pv 2) pa_nil))) (pa_cons (pe_op op_addA (pe_int) (pv 2)) pa_nil))) (pa_cons (pv 2) pa_nil)))))))
theorem ok_law_tariffs (T : Tx K mg fn fd cl) : letI : Wo := ⟨P, w⟩; FnOk P w K mg base CX0 4 (fn 31) (fd 31) ["script"] (sp_law_tariffs K cl) := by
  haveI := T.cf
  letI : Wo := ⟨P, w⟩
  refine T.F_law_tariffs.ok sc_law_tariffs (fun vs H Q E h => by revert h; walk_at "ln") (fun cdv A outer s H vs Q E hr h => ⟨t_law_tariffs K cl, ?_, rd_law_tariffs h⟩)
  exact (pss_one (ps_ret (pe_disp (pps_cons (pe_str) (pe_call (ok_law_tariff T) (hr.mono (by decide)) (by rfl) T.m_law_tariff T.F_law_tariff.kp T.b_law_tariff .nil pass0 (pa_cons (pe_call (ok_law_state T) (hr.mono (by decide)) (by rfl) T.m_law_state T.F_law_state.kp T.b_law_state .nil pass0 (pa_cons (pe_call (ok_law_cell T) (hr.mono (by decide)) (by rfl) T.m_law_cell T.F_law_cell.kp T.b_law_cell .nil pass0 (pa_cons (pv 0) (pa_cons (pe_int) pa_nil))) (pa_cons (pe_int) pa_nil))) pa_nil)) (pps_cons (pe_str) (pe_call (ok_law_tariff T) (hr.mono (by decide)) (by rfl) T.m_law_tariff T.F_law_tariff.kp T.b_law_tariff .nil pass0 (pa_cons (pe_call (ok_law_state T) (hr.mono (by decide)) (by rfl) T.m_law_state T.F_law_state.kp T.b_law_state .nil pass0 (pa_cons (pe_call (ok_law_cell T) (hr.mono (by decide)) (by rfl) T.m_law_cell T.F_law_cell.kp T.b_law_cell .nil pass0 (pa_cons (pv 0) (pa_cons (pe_int) pa_nil))) (pa_cons (pe_int) pa_nil))) pa_nil)) pps_nil)) rfl rfl (fun h => nomatch h) (Nat.le_of_ble_eq_true rfl))))
theorem ok_ChargeRun_lines_of (T : Tx K mg fn fd cl) : letI : Wo := ⟨P, w⟩; FnOk P w K mg base CX0 5 (fn 10) (fd 10) ["self", "section", "name", "free"] (sp_ChargeRun_lines_of K cl) := by
  haveI := T.cf
  letI : Wo := ⟨P, w⟩
  refine T.F_ChargeRun_lines_of.ok sc_ChargeRun_lines_of (fun vs H Q E h => by revert h; walk_at "ln") (fun cdv A outer s H vs Q E hr h => ⟨t_ChargeRun_lines_of K cl, ?_, rd_ChargeRun_lines_of h⟩)
  exact (pss_cons (ps_set (i := 4) sc_ChargeRun_lines_of.nd rfl (.inl rfl) (pe_lst pa_nil)) (pss_cons (ps_if (pt_cmpR op_lt (pv 3) (pe_fld (pv 1) rfl) (nomark _)) (pss_cons (ps_set (i := 5) sc_ChargeRun_lines_of.nd rfl (.inl rfl) (pe_ix (ix_dictA hr.units) (pe_fld (pv 0) rfl) (pv 2) (fun _ _ => rfl))) (pss_cons (ps_set (i := 4) sc_ChargeRun_lines_of.nd rfl (.inl rfl) (pe_call (ok_price_lines T) (hr.mono (by decide)) (by rfl) T.m_price_lines T.F_price_lines.kp T.b_price_lines .nil pass0 (pa_cons (pv 5) (pa_cons (pe_fld (pv 1) rfl) (pa_cons (pe_fld (pv 1) rfl) (pa_cons (pv 3) (pa_cons (pe_fld (pv 1) rfl) pa_nil))))))) (pss_one (ps_if (pt_cmpR op_isN (pv 4) (pe_non) (nomark _)) (pss_one (ps_ret (pe_non))) pss_nil)))) pss_nil) (pss_cons (ps_if (pt_cmpR op_gt (pv 3) (pe_int) (nomark _)) (pss_one (ps_set (i := 4) sc_ChargeRun_lines_of.nd rfl (.inl rfl) (pe_op op_addA (pe_lst (pa_cons (pe_tup (pa_cons (pe_str) (pa_cons (pe_int) (pa_cons (pv 3) (pa_cons (pe_int) pa_nil))))) pa_nil)) (pv 4)))) pss_nil) (pss_one (ps_ret (pv 4))))))
theorem ok_ChargeRun_take (T : Tx K mg fn fd cl) : letI : Wo := ⟨P, w⟩; FnOk P w K mg base CX0 6 (fn 11) (fd 11) ["self", "section"] (sp_ChargeRun_take K cl) := by
  haveI := T.cf
  letI : Wo := ⟨P, w⟩
  obtain ⟨u_MONTH, g_MONTH⟩ := T.g_MONTH
  refine T.F_ChargeRun_take.ok sc_ChargeRun_take (fun vs H Q E h => by revert h; walk_at "ln") (fun cdv A outer s H vs Q E hr h => ⟨t_ChargeRun_take K cl, ?_, rd_ChargeRun_take h⟩)
  exact (pss_cons (ps_set (i := 2) sc_ChargeRun_take.nd rfl (.inl rfl) (pe_meth (pe_fld (pv 0) rfl) T.cf.cl_Contracts T.meth_Contracts_in_force (ok_Contracts_in_force T) (hr.mono (by decide)) T.b_Contracts_in_force .nil pass0 (pa_cons (pe_fld (pv 1) rfl) (pa_cons (pe_fld (pv 1) rfl) pa_nil)))) (pss_cons (ps_set (i := 3) sc_ChargeRun_take.nd rfl (.inl rfl) (pe_meth (pv 0) T.cf.cl_ChargeRun T.meth_ChargeRun_reason_against (ok_ChargeRun_reason_against T) (hr.mono (by decide)) T.b_ChargeRun_reason_against .nil pass0 (pa_cons (pv 1) (pa_cons (pv 2) pa_nil)))) (pss_cons (ps_if (pt_cmpR op_notN (pv 3) (pe_non) (nomark _)) (pss_cons (ps_expr (pe_bm PySem.F.plainAttrs_list PySem.F.slot_list_append PySem.F.type_list_append mt_append (pe_fld (pv 0) rfl) (pa_cons (pe_tup (pa_cons (pe_fld (pv 1) rfl) (pa_cons (pv 3) pa_nil))) pa_nil))) (pss_one ps_retN)) pss_nil) (pss_cons (ps_asg (pv 2) (pg_tup rfl (pgs_cons (pg_name (i := 4) sc_ChargeRun_take.nd rfl (.inl rfl)) (pgs_cons (pg_name (i := 5) sc_ChargeRun_take.nd rfl (.inl rfl)) pgs_nil)))) (pss_cons (ps_set (i := 6) sc_ChargeRun_take.nd rfl (.inl rfl) (pe_op op_fdiv (pe_fld (pv 1) rfl) (pe_glob rfl g_MONTH ⟨_, rfl⟩))) (pss_cons (ps_set (i := 7) sc_ChargeRun_take.nd rfl (.inl rfl) (pe_callB (call_min2 rfl) (by rfl) T.z_min (by decide +kernel) (pa_cons (pe_fld (pv 1) rfl) (pa_cons (pe_meth (pv 0) T.cf.cl_ChargeRun T.meth_ChargeRun_free_left (ok_ChargeRun_free_left T) (hr.mono (by decide)) T.b_ChargeRun_free_left .nil pass0 (pa_cons (pv 4) (pa_cons (pv 6) pa_nil))) pa_nil)))) (pss_cons (ps_set (i := 8) sc_ChargeRun_take.nd rfl (.inl rfl) (pe_meth (pv 0) T.cf.cl_ChargeRun T.meth_ChargeRun_lines_of (ok_ChargeRun_lines_of T) (hr.mono (by decide)) T.b_ChargeRun_lines_of .nil pass0 (pa_cons (pv 1) (pa_cons (pv 5) (pa_cons (pv 7) pa_nil))))) (pss_cons (ps_if (pt_cmpR op_isN (pv 8) (pe_non) (nomark _)) (pss_cons (ps_expr (pe_bm PySem.F.plainAttrs_list PySem.F.slot_list_append PySem.F.type_list_append mt_append (pe_fld (pv 0) rfl) (pa_cons (pe_tup (pa_cons (pe_fld (pv 1) rfl) (pa_cons (pe_str) pa_nil))) pa_nil))) (pss_one ps_retN)) pss_nil) (pss_cons (ps_asg (pe_op op_addA (pe_get2 hr.units (pe_fld (pv 0) rfl) (pe_tup (pa_cons (pv 4) (pa_cons (pv 6) pa_nil))) (pe_int) ⟨rfl, rfl, rfl, rfl⟩) (pv 7)) (pg_sub (pe_fld (pv 0) rfl) (pe_tup (pa_cons (pv 4) (pa_cons (pv 6) pa_nil))) (set_dictA hr.units))) (pss_one (ps_for PassesOwn.never rfl (pi_seq (pv 8)) (pg_tup rfl (pgs_cons (pg_name (i := 9) sc_ChargeRun_take.nd rfl (.inl rfl)) (pgs_cons (pg_name (i := 10) sc_ChargeRun_take.nd rfl (.inl rfl)) (pgs_cons (pg_name (i := 11) sc_ChargeRun_take.nd rfl (.inl rfl)) (pgs_cons (pg_name (i := 12) sc_ChargeRun_take.nd rfl (.inl rfl)) pgs_nil))))) (pss_one (ps_expr (pe_bm PySem.F.plainAttrs_list PySem.F.slot_list_append PySem.F.type_list_append mt_append (pe_fld (pv 0) rfl) (pa_cons (pe_make T.mk_Charge (ok_Charge_init T) (hr.mono (by decide)) (by rfl) T.m_Charge T.b_Charge_init .nil pass0 (pa_cons (pe_tup (pa_cons (pe_fld (pv 1) rfl) (pa_cons (pv 10) (pa_cons (pv 9) pa_nil)))) (pa_cons (pv 4) (pa_cons (pv 11) (pa_cons (pv 12) pa_nil))))) pa_nil)))))))))))))))
theorem ok_charge_sections (T : Tx K mg fn fd cl) : letI : Wo := ⟨P, w⟩; FnOk P w K mg base CX0 7 (fn 13) (fd 13) ["sections", "contracts", "tariffs", "allowances"] (sp_charge_sections K cl) := by
  haveI := T.cf
  letI : Wo := ⟨P, w⟩
  refine T.F_charge_sections.ok sc_charge_sections (fun vs H Q E h => by revert h; walk_at "ln") (fun cdv A outer s H vs Q E hr h => ⟨t_charge_sections K cl, ?_, rd_charge_sections h⟩)
  exact (pss_cons (ps_set (i := 4) sc_charge_sections.nd rfl (.inl rfl) (pe_make T.mk_ChargeRun (ok_ChargeRun_init T) (hr.mono (by decide)) (by rfl) T.m_ChargeRun T.b_ChargeRun_init .nil pass0 (pa_cons (pv 1) (pa_cons (pv 2) (pa_cons (pv 3) pa_nil))))) (pss_cons (ps_for PassesOwn.never rfl (pi_seq (pe_sortKey (ok_section_place T) (hr.mono (by decide)) hr.units T.b_section_place (by rfl) T.z_sorted (by decide +kernel) T.m_section_place (pa_cons (pv 0) pa_nil))) (pg_name (i := 5) sc_charge_sections.nd rfl (.inl rfl)) (pss_one (ps_if (pt_not (pt_tr (pe_meth0 (pv 5) T.cf.cl_Section T.meth_Section_is_free (ok_Section_is_free T) (hr.mono (by decide)) T.b_Section_is_free .nil pass0))) (pss_one (ps_expr (pe_meth (pv 4) T.cf.cl_ChargeRun T.meth_ChargeRun_take (ok_ChargeRun_take T) (hr.mono (by decide)) T.b_ChargeRun_take .nil pass0 (pa_cons (pv 5) pa_nil)))) pss_nil))) (pss_one (ps_ret (pe_tup (pa_cons (pe_fld (pv 4) rfl) (pa_cons (pe_fld (pv 4) rfl) pa_nil)))))))
theorem ok_law_holds (T : Tx K mg fn fd cl) : letI : Wo := ⟨P, w⟩; FnOk P w K mg base CX0 8 (fn 35) (fd 35) ["sections", "contracts", "tariffs", "allowances"] (sp_law_holds K cl) := by
  haveI := T.cf
  letI : Wo := ⟨P, w⟩
  refine T.F_law_holds.ok sc_law_holds (fun vs H Q E h => by revert h; walk_at "ln") (fun cdv A outer s H vs Q E hr h => ⟨t_law_holds K cl, ?_, rd_law_holds h⟩)
  exact (pss_cons (ps_asg (pe_call (ok_charge_sections T) (hr.mono (by decide)) (by rfl) T.m_charge_sections T.F_charge_sections.kp T.b_charge_sections .nil pass0 (pa_cons (pv 0) (pa_cons (pv 1) (pa_cons (pv 2) (pa_cons (pv 3) pa_nil))))) (pg_tup rfl (pgs_cons (pg_name (i := 4) sc_law_holds.nd rfl (.inl rfl)) (pgs_cons (pg_name (i := 5) sc_law_holds.nd rfl (.inl rfl)) pgs_nil)))) (pss_cons (ps_setLc (i := 6) (own := [("charge", 18)]) rfl sc_law_holds.nd rfl rfl (sw_true rfl rfl rfl (by decide +kernel)) (pi_seq (pv 4)) (blkOk_by (own := [("charge", 18)]) (N := ["sections", "contracts", "tariffs", "allowances", "charges", "refused", "charged", "account", "month", "paying", "used", "wanted", "opened", "owner", "seconds", "payer", "contract", "free", "charge", "s"]) (sc := defScope s_law_holds) (by decide +kernel)) (fun _ _ _ _ _ => (pg_name (i := 18) sc_law_holds.nd rfl (.inl rfl))) (fun _ _ _ _ _ => pts_nil) (fun _ _ _ _ _ => (pe_ix ix_seq (pe_fld (pv 18) rfl) (pe_int) (fun _ _ => rfl)))) (pss_cons (ps_for PassesOwn.never rfl (pi_seq (pe_tup (pa_cons (pe_str) (pa_cons (pe_str) pa_nil)))) (pg_name (i := 7) sc_law_holds.nd rfl (.inl rfl)) (pss_one (ps_for PassesOwn.never rfl (pi_range2 (by rfl) T.z_range (pa_cons (pe_int) (pa_cons (pe_int) pa_nil))) (pg_name (i := 8) sc_law_holds.nd rfl (.inl rfl)) (pss_cons (ps_set (i := 9) sc_law_holds.nd rfl (.inl rfl) (pe_bl)) (pss_cons (ps_set (i := 10) sc_law_holds.nd rfl (.inl rfl) (pe_int)) (pss_cons (ps_set (i := 11) sc_law_holds.nd rfl (.inl rfl) (pe_int)) (pss_cons (ps_for PassesOwn.never rfl (pi_seq (pe_callB (call_sortA rfl hr.units) (by rfl) T.z_sorted (by decide +kernel) (pa_cons (pe_lc (own := [("s", 19)]) rfl sc_law_holds.nd (pi_seq (pv 0)) (blkOk_by (own := [("s", 19)]) (N := ["sections", "contracts", "tariffs", "allowances", "charges", "refused", "charged", "account", "month", "paying", "used", "wanted", "opened", "owner", "seconds", "payer", "contract", "free", "charge", "s"]) (sc := defScope s_law_holds) (by decide +kernel)) (fun _ _ _ _ _ => (pg_name (i := 19) sc_law_holds.nd rfl (.inl rfl))) (fun _ _ _ _ _ => pts_nil) (fun _ _ _ _ _ => (pe_tup (pa_cons (pe_fld (pv 19) rfl) (pa_cons (pe_fld (pv 19) rfl) (pa_cons (pe_fld (pv 19) rfl) (pa_cons (pe_callTy call_strO (by rfl) T.z_str (by decide +kernel) (pa_cons (pe_fld (pv 19) rfl) pa_nil)) pa_nil))))))) pa_nil))) (pg_tup rfl (pgs_cons (pg_name (i := 12) sc_law_holds.nd rfl (.inl rfl)) (pgs_cons (pg_name (i := 13) sc_law_holds.nd rfl (.inl rfl)) (pgs_cons (pg_name (i := 14) sc_law_holds.nd rfl (.inl rfl)) (pgs_cons (pg_name (i := 15) sc_law_holds.nd rfl (.inl rfl)) pgs_nil))))) (pss_cons (ps_set (i := 16) sc_law_holds.nd rfl (.inl rfl) (pe_meth (pv 1) T.cf.cl_Contracts T.meth_Contracts_in_force (ok_Contracts_in_force T) (hr.mono (by decide)) T.b_Contracts_in_force .nil pass0 (pa_cons (pv 15) (pa_cons (pv 12) pa_nil)))) (pss_one (ps_if (PW.pt (pw_and (pt_cmpR (op_inD (units65 hr)) (pv 13) (pv 6) (by rfl)) (pw_and (pt_cmpR (op_eqA hr.units) (pe_op op_fdiv (pv 12) (pe_int)) (pv 8) (nomark _)) (pw_and1 (pt_cmpR (op_eqA hr.units) (pe_ix ix_seq (pv 16) (pe_int) (fun _ _ => rfl)) (pv 7) (nomark _)))))) (pss_cons (ps_set (i := 17) sc_law_holds.nd rfl (.inl rfl) (pe_call (ok_law_used T) (hr.mono (by decide)) (by rfl) T.m_law_used T.F_law_used.kp T.b_law_used .nil pass0 (pa_cons (pv 4) (pa_cons (pv 13) pa_nil)))) (pss_cons (ps_if (PW.pt (pw_and (pt_cmpR op_gt (pv 17) (pe_int) (nomark _)) (pw_and1 (pt_tr (pv 9))))) (pss_one (ps_ret (pe_bl))) pss_nil) (pss_cons (ps_set (i := 9) sc_law_holds.nd rfl (.inl rfl) ((pe_or (pv 9) (pe_one (pe_cmpR op_lt (pv 17) (pv 14) (nomark _)))))) (pss_cons (ps_set (i := 10) sc_law_holds.nd rfl (.inl rfl) (pe_op op_addA (pv 10) (pv 17))) (pss_one (ps_set (i := 11) sc_law_holds.nd rfl (.inl rfl) (pe_op op_addA (pv 11) (pv 14)))))))) pss_nil)))) (pss_one (ps_if (pt_cmpR (op_neA hr.units) (pv 10) (pe_callB (call_min2 rfl) (by rfl) T.z_min (by decide +kernel) (pa_cons (pv 11) (pa_cons (pe_ix (ix_dictA hr.units) (pv 3) (pv 7) (fun _ _ => rfl)) pa_nil))) (nomark _)) (pss_one (ps_ret (pe_bl))) pss_nil))))))))) (pss_one (ps_ret (pe_bl))))))
theorem ok_law (T : Tx K mg fn fd cl) : letI : Wo := ⟨P, w⟩; FnOk P w K mg base CX0 9 (fn 37) (fd 37) ["script"] (sp_law K cl) := by
  haveI := T.cf
  letI : Wo := ⟨P, w⟩
  refine T.F_law.ok sc_law (fun vs H Q E h => by revert h; walk_at "ln") (fun cdv A outer s H vs Q E hr h => ⟨t_law K cl, ?_, rd_law h⟩)
  exact (pss_cons (ps_set (i := 1) sc_law.nd rfl (.inl rfl) (pe_call (ok_law_shuffled T) (hr.mono (by decide)) (by rfl) T.m_law_shuffled T.F_law_shuffled.kp T.b_law_shuffled .nil pass0 (pa_cons (pv 0) (pa_cons (pe_call (ok_law_sections T) (hr.mono (by decide)) (by rfl) T.m_law_sections T.F_law_sections.kp T.b_law_sections .nil pass0 (pa_cons (pv 0) (pa_cons (pe_op op_addA (pe_callB (call_min2 rfl) (by rfl) T.z_min (by decide +kernel) (pa_cons (pe_int) (pa_cons (pe_op op_addA (pe_int) (pe_callB call_len (by rfl) T.z_len (by decide +kernel) (pa_cons (pv 0) pa_nil))) pa_nil))) (pe_op op_mul (pe_int) (pe_callTy call_int1 (by rfl) T.z_int (by decide +kernel) (pa_cons (pe_call (ok_law_large T) (hr.mono (by decide)) (by rfl) T.m_law_large T.F_law_large.kp T.b_law_large .nil pass0 (pa_cons (pv 0) pa_nil)) pa_nil)))) pa_nil))) pa_nil)))) (pss_cons (ps_set (i := 2) sc_law.nd rfl (.inl rfl) (pe_call (ok_law_contracts T) (hr.mono (by decide)) (by rfl) T.m_law_contracts T.F_law_contracts.kp T.b_law_contracts .nil pass0 (pa_cons (pv 0) pa_nil))) (pss_cons (ps_set (i := 3) sc_law.nd rfl (.inl rfl) (pe_call (ok_law_tariffs T) (hr.mono (by decide)) (by rfl) T.m_law_tariffs T.F_law_tariffs.kp T.b_law_tariffs .nil pass0 (pa_cons (pv 0) pa_nil))) (pss_cons (ps_set (i := 4) sc_law.nd rfl (.inl rfl) (pe_call (ok_law_allowances T) (hr.mono (by decide)) (by rfl) T.m_law_allowances T.F_law_allowances.kp T.b_law_allowances .nil pass0 (pa_cons (pv 0) pa_nil))) (pss_cons (ps_set (i := 5) sc_law.nd rfl (.inl rfl) (pe_disp (pps_cons (pe_str) (pe_op op_addA (pe_ix (ix_dictA hr.units) (pv 4) (pe_str) (fun _ _ => rfl)) (pe_int)) (pps_cons (pe_str) (pe_op op_addA (pe_op op_mul (pe_int) (pe_ix (ix_dictA hr.units) (pv 4) (pe_str) (fun _ _ => rfl))) (pe_int)) pps_nil)) rfl rfl (fun h => nomatch h) (Nat.le_of_ble_eq_true rfl))) (pss_cons (ps_if (pt_not (pt_tr (pe_call (ok_law_holds T) (hr.mono (by decide)) (by rfl) T.m_law_holds T.F_law_holds.kp T.b_law_holds .nil pass0 (pa_cons (pv 1) (pa_cons (pv 2) (pa_cons (pv 3) (pa_cons (pv 4) pa_nil))))))) (pss_one (ps_ret (pe_bl))) pss_nil) (pss_one (ps_ret (pe_call (ok_law_holds T) (hr.mono (by decide)) (by rfl) T.m_law_holds T.F_law_holds.kp T.b_law_holds .nil pass0 (pa_cons (pv 1) (pa_cons (pv 2) (pa_cons (pv 3) (pa_cons (pv 5) pa_nil)))))))))))))
end
theorem all_mk {l : PySem.W.OpenLaw} {w : World} {K : PySem.W.Frag} {h : Heap} {mg : Str → Option Value} {fa : Addr} (X : K.In h) (G : h.Ns mainGlobals mg) (hfa : mg "law" = some (.ref fa))
    {f0 f1 f2 f3 f4 f5 f6 f7 f8 f9 f10 f11 f12 f13 f15 f16 f17 f18 f19 f20 f21 f22 f23 f24 f25 f27 f28 f29 f30 f31 f32 f33 f34 f35 f36 f37 : Addr}
    {c0 c1 c2 c3 c6 c7 : Addr}
    {od0 an0 : Option Addr} {sl0 : Array (Option Value)} {oc0 kV0 dc0 pm0 cd0 ct0 : Value}
    {od1 an1 : Option Addr} {sl1 : Array (Option Value)} {oc1 kV1 dc1 pm1 cd1 ct1 : Value}
    {od2 an2 : Option Addr} {sl2 : Array (Option Value)} {oc2 kV2 dc2 pm2 cd2 ct2 : Value}
    {od3 an3 : Option Addr} {sl3 : Array (Option Value)} {oc3 kV3 dc3 pm3 cd3 ct3 : Value}
    {od4 an4 : Option Addr} {sl4 : Array (Option Value)} {oc4 kV4 dc4 pm4 cd4 ct4 : Value}
    {od5 an5 : Option Addr} {sl5 : Array (Option Value)} {oc5 kV5 dc5 pm5 cd5 ct5 : Value}
    {od6 an6 : Option Addr} {sl6 : Array (Option Value)} {oc6 kV6 dc6 pm6 cd6 ct6 : Value}
    {od7 an7 : Option Addr} {sl7 : Array (Option Value)} {oc7 kV7 dc7 pm7 cd7 ct7 : Value}
    {od8 an8 : Option Addr} {sl8 : Array (Option Value)} {oc8 kV8 dc8 pm8 cd8 ct8 : Value}
    {od9 an9 : Option Addr} {sl9 : Array (Option Value)} {oc9 kV9 dc9 pm9 cd9 ct9 : Value}
    {od10 an10 : Option Addr} {sl10 : Array (Option Value)} {oc10 kV10 dc10 pm10 cd10 ct10 : Value}
    {od11 an11 : Option Addr} {sl11 : Array (Option Value)} {oc11 kV11 dc11 pm11 cd11 ct11 : Value}
    {od12 an12 : Option Addr} {sl12 : Array (Option Value)} {oc12 kV12 dc12 pm12 cd12 ct12 : Value}
    {od13 an13 : Option Addr} {sl13 : Array (Option Value)} {oc13 kV13 dc13 pm13 cd13 ct13 : Value}
    {od15 an15 : Option Addr} {sl15 : Array (Option Value)} {oc15 kV15 dc15 pm15 cd15 ct15 : Value}
    {od16 an16 : Option Addr} {sl16 : Array (Option Value)} {oc16 kV16 dc16 pm16 cd16 ct16 : Value}
    {od17 an17 : Option Addr} {sl17 : Array (Option Value)} {oc17 kV17 dc17 pm17 cd17 ct17 : Value}
    {od18 an18 : Option Addr} {sl18 : Array (Option Value)} {oc18 kV18 dc18 pm18 cd18 ct18 : Value}
    {od19 an19 : Option Addr} {sl19 : Array (Option Value)} {oc19 kV19 dc19 pm19 cd19 ct19 : Value}
    {od20 an20 : Option Addr} {sl20 : Array (Option Value)} {oc20 kV20 dc20 pm20 cd20 ct20 : Value}
    {od21 an21 : Option Addr} {sl21 : Array (Option Value)} {oc21 kV21 dc21 pm21 cd21 ct21 : Value}
    {od22 an22 : Option Addr} {sl22 : Array (Option Value)} {oc22 kV22 dc22 pm22 cd22 ct22 : Value}
    {od23 an23 : Option Addr} {sl23 : Array (Option Value)} {oc23 kV23 dc23 pm23 cd23 ct23 : Value}
    {od24 an24 : Option Addr} {sl24 : Array (Option Value)} {oc24 kV24 dc24 pm24 cd24 ct24 : Value}
    {od25 an25 : Option Addr} {sl25 : Array (Option Value)} {oc25 kV25 dc25 pm25 cd25 ct25 : Value}
    {od27 an27 : Option Addr} {sl27 : Array (Option Value)} {oc27 kV27 dc27 pm27 cd27 ct27 : Value}
    {od28 an28 : Option Addr} {sl28 : Array (Option Value)} {oc28 kV28 dc28 pm28 cd28 ct28 : Value}
    {od29 an29 : Option Addr} {sl29 : Array (Option Value)} {oc29 kV29 dc29 pm29 cd29 ct29 : Value}
    {od30 an30 : Option Addr} {sl30 : Array (Option Value)} {oc30 kV30 dc30 pm30 cd30 ct30 : Value}
    {od31 an31 : Option Addr} {sl31 : Array (Option Value)} {oc31 kV31 dc31 pm31 cd31 ct31 : Value}
    {od32 an32 : Option Addr} {sl32 : Array (Option Value)} {oc32 kV32 dc32 pm32 cd32 ct32 : Value}
    {od33 an33 : Option Addr} {sl33 : Array (Option Value)} {oc33 kV33 dc33 pm33 cd33 ct33 : Value}
    {od34 an34 : Option Addr} {sl34 : Array (Option Value)} {oc34 kV34 dc34 pm34 cd34 ct34 : Value}
    {od35 an35 : Option Addr} {sl35 : Array (Option Value)} {oc35 kV35 dc35 pm35 cd35 ct35 : Value}
    {od36 an36 : Option Addr} {sl36 : Array (Option Value)} {oc36 kV36 dc36 pm36 cd36 ct36 : Value}
    {od37 an37 : Option Addr} {sl37 : Array (Option Value)} {oc37 kV37 dc37 pm37 cd37 ct37 : Value}
    {u_DAY : Tok}
    {u_HOUR : Tok}
    {u_MINUTE : Tok}
    {u_MONTH : Tok}
    (ca0 : PySem.W.nsIn K mainGlobals "Band" = some (some (.ref c0)))
    (mk0 : PySem.W.makesIn K c0 = true)
    (kc0 : PySem.W.keepIn K (.ref c0) = true)
    (pg0 : PySem.W.plainGet K c0 Str.empty = true)
    (hd0 : PySem.W.hasDictIn K c0 = true)
    (po0 : PySem.W.plainOver K c0 = true)
    (sa0 : PySem.W.findIn K (.ref c0) "__setattr__" = some (some (.builtin "object.__setattr__")))
    (n0_0 : PySem.W.findIn K (.ref c0) "label" = some none)
    (n0_1 : PySem.W.findIn K (.ref c0) "prefix" = some none)
    (n0_2 : PySem.W.findIn K (.ref c0) "from_hour" = some none)
    (n0_3 : PySem.W.findIn K (.ref c0) "to_hour" = some none)
    (n0_4 : PySem.W.findIn K (.ref c0) "price" = some none)
    (ca1 : PySem.W.nsIn K mainGlobals "Tariff" = some (some (.ref c1)))
    (mk1 : PySem.W.makesIn K c1 = true)
    (kc1 : PySem.W.keepIn K (.ref c1) = true)
    (pg1 : PySem.W.plainGet K c1 Str.empty = true)
    (hd1 : PySem.W.hasDictIn K c1 = true)
    (po1 : PySem.W.plainOver K c1 = true)
    (sa1 : PySem.W.findIn K (.ref c1) "__setattr__" = some (some (.builtin "object.__setattr__")))
    (n1_0 : PySem.W.findIn K (.ref c1) "setup_price" = some none)
    (n1_1 : PySem.W.findIn K (.ref c1) "bands" = some none)
    (ca2 : PySem.W.nsIn K mainGlobals "Charge" = some (some (.ref c2)))
    (mk2 : PySem.W.makesIn K c2 = true)
    (kc2 : PySem.W.keepIn K (.ref c2) = true)
    (pg2 : PySem.W.plainGet K c2 Str.empty = true)
    (hd2 : PySem.W.hasDictIn K c2 = true)
    (po2 : PySem.W.plainOver K c2 = true)
    (sa2 : PySem.W.findIn K (.ref c2) "__setattr__" = some (some (.builtin "object.__setattr__")))
    (n2_0 : PySem.W.findIn K (.ref c2) "key" = some none)
    (n2_1 : PySem.W.findIn K (.ref c2) "account" = some none)
    (n2_2 : PySem.W.findIn K (.ref c2) "till" = some none)
    (n2_3 : PySem.W.findIn K (.ref c2) "mills" = some none)
    (ca3 : PySem.W.nsIn K mainGlobals "ChargeRun" = some (some (.ref c3)))
    (mk3 : PySem.W.makesIn K c3 = true)
    (kc3 : PySem.W.keepIn K (.ref c3) = true)
    (pg3 : PySem.W.plainGet K c3 Str.empty = true)
    (hd3 : PySem.W.hasDictIn K c3 = true)
    (po3 : PySem.W.plainOver K c3 = true)
    (sa3 : PySem.W.findIn K (.ref c3) "__setattr__" = some (some (.builtin "object.__setattr__")))
    (n3_0 : PySem.W.findIn K (.ref c3) "contracts" = some none)
    (n3_1 : PySem.W.findIn K (.ref c3) "tariffs" = some none)
    (n3_2 : PySem.W.findIn K (.ref c3) "allowances" = some none)
    (n3_3 : PySem.W.findIn K (.ref c3) "used" = some none)
    (n3_4 : PySem.W.findIn K (.ref c3) "charges" = some none)
    (n3_5 : PySem.W.findIn K (.ref c3) "left_out" = some none)
    (ca6 : PySem.W.nsIn K mainGlobals "Contracts" = some (some (.ref c6)))
    (mk6 : PySem.W.makesIn K c6 = true)
    (kc6 : PySem.W.keepIn K (.ref c6) = true)
    (pg6 : PySem.W.plainGet K c6 Str.empty = true)
    (hd6 : PySem.W.hasDictIn K c6 = true)
    (po6 : PySem.W.plainOver K c6 = true)
    (sa6 : PySem.W.findIn K (.ref c6) "__setattr__" = some (some (.builtin "object.__setattr__")))
    (n6_0 : PySem.W.findIn K (.ref c6) "histories" = some none)
    (ca7 : PySem.W.nsIn K mainGlobals "Section" = some (some (.ref c7)))
    (mk7 : PySem.W.makesIn K c7 = true)
    (kc7 : PySem.W.keepIn K (.ref c7) = true)
    (pg7 : PySem.W.plainGet K c7 Str.empty = true)
    (hd7 : PySem.W.hasDictIn K c7 = true)
    (po7 : PySem.W.plainOver K c7 = true)
    (sa7 : PySem.W.findIn K (.ref c7) "__setattr__" = some (some (.builtin "object.__setattr__")))
    (n7_0 : PySem.W.findIn K (.ref c7) "owner" = some none)
    (n7_1 : PySem.W.findIn K (.ref c7) "payer" = some none)
    (n7_2 : PySem.W.findIn K (.ref c7) "called" = some none)
    (n7_3 : PySem.W.findIn K (.ref c7) "opened" = some none)
    (n7_4 : PySem.W.findIn K (.ref c7) "start" = some none)
    (n7_5 : PySem.W.findIn K (.ref c7) "seconds" = some none)
    (a0 : PySem.W.findIn K (.ref c0) "__init__" = some (some (.ref f0)))
    (i0 : PySem.W.isFn K (.ref f0) = true)
    (l0 : K.lookup f0 = some ⟨oc0, od0, .func (PySem.W.fnOf "__init__" "Band.__init__" (defArgs s_Band_init) (defBody s_Band_init) (defScope s_Band_init) .none kV0 dc0 pm0 an0 cd0 ct0), sl0⟩)
    (k0 : PySem.W.codeIn K cd0 "Band.__init__" = true)
    (p0 : PySem.W.keepIn K (.ref f0) = true)
    (a1 : PySem.W.findIn K (.ref c0) "holds" = some (some (.ref f1)))
    (i1 : PySem.W.isFn K (.ref f1) = true)
    (l1 : K.lookup f1 = some ⟨oc1, od1, .func (PySem.W.fnOf "holds" "Band.holds" (defArgs s_Band_holds) (defBody s_Band_holds) (defScope s_Band_holds) .none kV1 dc1 pm1 an1 cd1 ct1), sl1⟩)
    (k1 : PySem.W.codeIn K cd1 "Band.holds" = true)
    (p1 : PySem.W.keepIn K (.ref f1) = true)
    (a2 : PySem.W.findIn K (.ref c1) "__init__" = some (some (.ref f2)))
    (i2 : PySem.W.isFn K (.ref f2) = true)
    (l2 : K.lookup f2 = some ⟨oc2, od2, .func (PySem.W.fnOf "__init__" "Tariff.__init__" (defArgs s_Tariff_init) (defBody s_Tariff_init) (defScope s_Tariff_init) .none kV2 dc2 pm2 an2 cd2 ct2), sl2⟩)
    (k2 : PySem.W.codeIn K cd2 "Tariff.__init__" = true)
    (p2 : PySem.W.keepIn K (.ref f2) = true)
    (a3 : PySem.W.findIn K (.ref c1) "band_at" = some (some (.ref f3)))
    (i3 : PySem.W.isFn K (.ref f3) = true)
    (l3 : K.lookup f3 = some ⟨oc3, od3, .func (PySem.W.fnOf "band_at" "Tariff.band_at" (defArgs s_Tariff_band_at) (defBody s_Tariff_band_at) (defScope s_Tariff_band_at) .none kV3 dc3 pm3 an3 cd3 ct3), sl3⟩)
    (k3 : PySem.W.codeIn K cd3 "Tariff.band_at" = true)
    (p3 : PySem.W.keepIn K (.ref f3) = true)
    (a4 : PySem.W.nsIn K mainGlobals "stretches" = some (some (.ref f4)))
    (l4 : K.lookup f4 = some ⟨oc4, od4, .func (PySem.W.fnOf "stretches" "stretches" (defArgs s_stretches) (defBody s_stretches) (defScope s_stretches) .none kV4 dc4 pm4 an4 cd4 ct4), sl4⟩)
    (k4 : PySem.W.codeIn K cd4 "stretches" = true)
    (p4 : PySem.W.keepIn K (.ref f4) = true)
    (a5 : PySem.W.nsIn K mainGlobals "price_lines" = some (some (.ref f5)))
    (l5 : K.lookup f5 = some ⟨oc5, od5, .func (PySem.W.fnOf "price_lines" "price_lines" (defArgs s_price_lines) (defBody s_price_lines) (defScope s_price_lines) .none kV5 dc5 pm5 an5 cd5 ct5), sl5⟩)
    (k5 : PySem.W.codeIn K cd5 "price_lines" = true)
    (p5 : PySem.W.keepIn K (.ref f5) = true)
    (a6 : PySem.W.findIn K (.ref c2) "__init__" = some (some (.ref f6)))
    (i6 : PySem.W.isFn K (.ref f6) = true)
    (l6 : K.lookup f6 = some ⟨oc6, od6, .func (PySem.W.fnOf "__init__" "Charge.__init__" (defArgs s_Charge_init) (defBody s_Charge_init) (defScope s_Charge_init) .none kV6 dc6 pm6 an6 cd6 ct6), sl6⟩)
    (k6 : PySem.W.codeIn K cd6 "Charge.__init__" = true)
    (p6 : PySem.W.keepIn K (.ref f6) = true)
    (a7 : PySem.W.findIn K (.ref c3) "__init__" = some (some (.ref f7)))
    (i7 : PySem.W.isFn K (.ref f7) = true)
    (l7 : K.lookup f7 = some ⟨oc7, od7, .func (PySem.W.fnOf "__init__" "ChargeRun.__init__" (defArgs s_ChargeRun_init) (defBody s_ChargeRun_init) (defScope s_ChargeRun_init) .none kV7 dc7 pm7 an7 cd7 ct7), sl7⟩)
    (k7 : PySem.W.codeIn K cd7 "ChargeRun.__init__" = true)
    (p7 : PySem.W.keepIn K (.ref f7) = true)
    (a8 : PySem.W.findIn K (.ref c3) "free_left" = some (some (.ref f8)))
    (i8 : PySem.W.isFn K (.ref f8) = true)
    (l8 : K.lookup f8 = some ⟨oc8, od8, .func (PySem.W.fnOf "free_left" "ChargeRun.free_left" (defArgs s_ChargeRun_free_left) (defBody s_ChargeRun_free_left) (defScope s_ChargeRun_free_left) .none kV8 dc8 pm8 an8 cd8 ct8), sl8⟩)
    (k8 : PySem.W.codeIn K cd8 "ChargeRun.free_left" = true)
    (p8 : PySem.W.keepIn K (.ref f8) = true)
    (a9 : PySem.W.findIn K (.ref c3) "reason_against" = some (some (.ref f9)))
    (i9 : PySem.W.isFn K (.ref f9) = true)
    (l9 : K.lookup f9 = some ⟨oc9, od9, .func (PySem.W.fnOf "reason_against" "ChargeRun.reason_against" (defArgs s_ChargeRun_reason_against) (defBody s_ChargeRun_reason_against) (defScope s_ChargeRun_reason_against) .none kV9 dc9 pm9 an9 cd9 ct9), sl9⟩)
    (k9 : PySem.W.codeIn K cd9 "ChargeRun.reason_against" = true)
    (p9 : PySem.W.keepIn K (.ref f9) = true)
    (a10 : PySem.W.findIn K (.ref c3) "lines_of" = some (some (.ref f10)))
    (i10 : PySem.W.isFn K (.ref f10) = true)
    (l10 : K.lookup f10 = some ⟨oc10, od10, .func (PySem.W.fnOf "lines_of" "ChargeRun.lines_of" (defArgs s_ChargeRun_lines_of) (defBody s_ChargeRun_lines_of) (defScope s_ChargeRun_lines_of) .none kV10 dc10 pm10 an10 cd10 ct10), sl10⟩)
    (k10 : PySem.W.codeIn K cd10 "ChargeRun.lines_of" = true)
    (p10 : PySem.W.keepIn K (.ref f10) = true)
    (a11 : PySem.W.findIn K (.ref c3) "take" = some (some (.ref f11)))
    (i11 : PySem.W.isFn K (.ref f11) = true)
    (l11 : K.lookup f11 = some ⟨oc11, od11, .func (PySem.W.fnOf "take" "ChargeRun.take" (defArgs s_ChargeRun_take) (defBody s_ChargeRun_take) (defScope s_ChargeRun_take) .none kV11 dc11 pm11 an11 cd11 ct11), sl11⟩)
    (k11 : PySem.W.codeIn K cd11 "ChargeRun.take" = true)
    (p11 : PySem.W.keepIn K (.ref f11) = true)
    (a12 : PySem.W.nsIn K mainGlobals "section_place" = some (some (.ref f12)))
    (l12 : K.lookup f12 = some ⟨oc12, od12, .func (PySem.W.fnOf "section_place" "section_place" (defArgs s_section_place) (defBody s_section_place) (defScope s_section_place) .none kV12 dc12 pm12 an12 cd12 ct12), sl12⟩)
    (k12 : PySem.W.codeIn K cd12 "section_place" = true)
    (p12 : PySem.W.keepIn K (.ref f12) = true)
    (a13 : PySem.W.nsIn K mainGlobals "charge_sections" = some (some (.ref f13)))
    (l13 : K.lookup f13 = some ⟨oc13, od13, .func (PySem.W.fnOf "charge_sections" "charge_sections" (defArgs s_charge_sections) (defBody s_charge_sections) (defScope s_charge_sections) .none kV13 dc13 pm13 an13 cd13 ct13), sl13⟩)
    (k13 : PySem.W.codeIn K cd13 "charge_sections" = true)
    (p13 : PySem.W.keepIn K (.ref f13) = true)
    (a15 : PySem.W.findIn K (.ref c6) "__init__" = some (some (.ref f15)))
    (i15 : PySem.W.isFn K (.ref f15) = true)
    (l15 : K.lookup f15 = some ⟨oc15, od15, .func (PySem.W.fnOf "__init__" "Contracts.__init__" (defArgs s_Contracts_init) (defBody s_Contracts_init) (defScope s_Contracts_init) .none kV15 dc15 pm15 an15 cd15 ct15), sl15⟩)
    (k15 : PySem.W.codeIn K cd15 "Contracts.__init__" = true)
    (p15 : PySem.W.keepIn K (.ref f15) = true)
    (a16 : PySem.W.findIn K (.ref c6) "set_history" = some (some (.ref f16)))
    (i16 : PySem.W.isFn K (.ref f16) = true)
    (l16 : K.lookup f16 = some ⟨oc16, od16, .func (PySem.W.fnOf "set_history" "Contracts.set_history" (defArgs s_Contracts_set_history) (defBody s_Contracts_set_history) (defScope s_Contracts_set_history) .none kV16 dc16 pm16 an16 cd16 ct16), sl16⟩)
    (k16 : PySem.W.codeIn K cd16 "Contracts.set_history" = true)
    (p16 : PySem.W.keepIn K (.ref f16) = true)
    (a17 : PySem.W.findIn K (.ref c6) "in_force" = some (some (.ref f17)))
    (i17 : PySem.W.isFn K (.ref f17) = true)
    (l17 : K.lookup f17 = some ⟨oc17, od17, .func (PySem.W.fnOf "in_force" "Contracts.in_force" (defArgs s_Contracts_in_force) (defBody s_Contracts_in_force) (defScope s_Contracts_in_force) .none kV17 dc17 pm17 an17 cd17 ct17), sl17⟩)
    (k17 : PySem.W.codeIn K cd17 "Contracts.in_force" = true)
    (p17 : PySem.W.keepIn K (.ref f17) = true)
    (a18 : PySem.W.findIn K (.ref c7) "__init__" = some (some (.ref f18)))
    (i18 : PySem.W.isFn K (.ref f18) = true)
    (l18 : K.lookup f18 = some ⟨oc18, od18, .func (PySem.W.fnOf "__init__" "Section.__init__" (defArgs s_Section_init) (defBody s_Section_init) (defScope s_Section_init) .none kV18 dc18 pm18 an18 cd18 ct18), sl18⟩)
    (k18 : PySem.W.codeIn K cd18 "Section.__init__" = true)
    (p18 : PySem.W.keepIn K (.ref f18) = true)
    (a19 : PySem.W.findIn K (.ref c7) "is_free" = some (some (.ref f19)))
    (i19 : PySem.W.isFn K (.ref f19) = true)
    (l19 : K.lookup f19 = some ⟨oc19, od19, .func (PySem.W.fnOf "is_free" "Section.is_free" (defArgs s_Section_is_free) (defBody s_Section_is_free) (defScope s_Section_is_free) .none kV19 dc19 pm19 an19 cd19 ct19), sl19⟩)
    (k19 : PySem.W.codeIn K cd19 "Section.is_free" = true)
    (p19 : PySem.W.keepIn K (.ref f19) = true)
    (a20 : PySem.W.nsIn K mainGlobals "_law_cell" = some (some (.ref f20)))
    (l20 : K.lookup f20 = some ⟨oc20, od20, .func (PySem.W.fnOf "_law_cell" "_law_cell" (defArgs s_law_cell) (defBody s_law_cell) (defScope s_law_cell) .none kV20 dc20 pm20 an20 cd20 ct20), sl20⟩)
    (k20 : PySem.W.codeIn K cd20 "_law_cell" = true)
    (p20 : PySem.W.keepIn K (.ref f20) = true)
    (a21 : PySem.W.nsIn K mainGlobals "_law_state" = some (some (.ref f21)))
    (l21 : K.lookup f21 = some ⟨oc21, od21, .func (PySem.W.fnOf "_law_state" "_law_state" (defArgs s_law_state) (defBody s_law_state) (defScope s_law_state) .none kV21 dc21 pm21 an21 cd21 ct21), sl21⟩)
    (k21 : PySem.W.codeIn K cd21 "_law_state" = true)
    (p21 : PySem.W.keepIn K (.ref f21) = true)
    (a22 : PySem.W.nsIn K mainGlobals "_law_digit" = some (some (.ref f22)))
    (l22 : K.lookup f22 = some ⟨oc22, od22, .func (PySem.W.fnOf "_law_digit" "_law_digit" (defArgs s_law_digit) (defBody s_law_digit) (defScope s_law_digit) .none kV22 dc22 pm22 an22 cd22 ct22), sl22⟩)
    (k22 : PySem.W.codeIn K cd22 "_law_digit" = true)
    (p22 : PySem.W.keepIn K (.ref f22) = true)
    (a23 : PySem.W.nsIn K mainGlobals "_law_shuffled" = some (some (.ref f23)))
    (l23 : K.lookup f23 = some ⟨oc23, od23, .func (PySem.W.fnOf "_law_shuffled" "_law_shuffled" (defArgs s_law_shuffled) (defBody s_law_shuffled) (defScope s_law_shuffled) .none kV23 dc23 pm23 an23 cd23 ct23), sl23⟩)
    (k23 : PySem.W.codeIn K cd23 "_law_shuffled" = true)
    (p23 : PySem.W.keepIn K (.ref f23) = true)
    (a24 : PySem.W.nsIn K mainGlobals "_law_tariff" = some (some (.ref f24)))
    (l24 : K.lookup f24 = some ⟨oc24, od24, .func (PySem.W.fnOf "_law_tariff" "_law_tariff" (defArgs s_law_tariff) (defBody s_law_tariff) (defScope s_law_tariff) .none kV24 dc24 pm24 an24 cd24 ct24), sl24⟩)
    (k24 : PySem.W.codeIn K cd24 "_law_tariff" = true)
    (p24 : PySem.W.keepIn K (.ref f24) = true)
    (a25 : PySem.W.nsIn K mainGlobals "_law_called" = some (some (.ref f25)))
    (l25 : K.lookup f25 = some ⟨oc25, od25, .func (PySem.W.fnOf "_law_called" "_law_called" (defArgs s_law_called) (defBody s_law_called) (defScope s_law_called) .none kV25 dc25 pm25 an25 cd25 ct25), sl25⟩)
    (k25 : PySem.W.codeIn K cd25 "_law_called" = true)
    (p25 : PySem.W.keepIn K (.ref f25) = true)
    (a27 : PySem.W.nsIn K mainGlobals "_law_lines" = some (some (.ref f27)))
    (l27 : K.lookup f27 = some ⟨oc27, od27, .func (PySem.W.fnOf "_law_lines" "_law_lines" (defArgs s_law_lines) (defBody s_law_lines) (defScope s_law_lines) .none kV27 dc27 pm27 an27 cd27 ct27), sl27⟩)
    (k27 : PySem.W.codeIn K cd27 "_law_lines" = true)
    (p27 : PySem.W.keepIn K (.ref f27) = true)
    (a28 : PySem.W.nsIn K mainGlobals "_law_history" = some (some (.ref f28)))
    (l28 : K.lookup f28 = some ⟨oc28, od28, .func (PySem.W.fnOf "_law_history" "_law_history" (defArgs s_law_history) (defBody s_law_history) (defScope s_law_history) .none kV28 dc28 pm28 an28 cd28 ct28), sl28⟩)
    (k28 : PySem.W.codeIn K cd28 "_law_history" = true)
    (p28 : PySem.W.keepIn K (.ref f28) = true)
    (a29 : PySem.W.nsIn K mainGlobals "_law_section" = some (some (.ref f29)))
    (l29 : K.lookup f29 = some ⟨oc29, od29, .func (PySem.W.fnOf "_law_section" "_law_section" (defArgs s_law_section) (defBody s_law_section) (defScope s_law_section) .none kV29 dc29 pm29 an29 cd29 ct29), sl29⟩)
    (k29 : PySem.W.codeIn K cd29 "_law_section" = true)
    (p29 : PySem.W.keepIn K (.ref f29) = true)
    (a30 : PySem.W.nsIn K mainGlobals "_law_sections" = some (some (.ref f30)))
    (l30 : K.lookup f30 = some ⟨oc30, od30, .func (PySem.W.fnOf "_law_sections" "_law_sections" (defArgs s_law_sections) (defBody s_law_sections) (defScope s_law_sections) .none kV30 dc30 pm30 an30 cd30 ct30), sl30⟩)
    (k30 : PySem.W.codeIn K cd30 "_law_sections" = true)
    (p30 : PySem.W.keepIn K (.ref f30) = true)
    (a31 : PySem.W.nsIn K mainGlobals "_law_tariffs" = some (some (.ref f31)))
    (l31 : K.lookup f31 = some ⟨oc31, od31, .func (PySem.W.fnOf "_law_tariffs" "_law_tariffs" (defArgs s_law_tariffs) (defBody s_law_tariffs) (defScope s_law_tariffs) .none kV31 dc31 pm31 an31 cd31 ct31), sl31⟩)
    (k31 : PySem.W.codeIn K cd31 "_law_tariffs" = true)
    (p31 : PySem.W.keepIn K (.ref f31) = true)
    (a32 : PySem.W.nsIn K mainGlobals "_law_contracts" = some (some (.ref f32)))
    (l32 : K.lookup f32 = some ⟨oc32, od32, .func (PySem.W.fnOf "_law_contracts" "_law_contracts" (defArgs s_law_contracts) (defBody s_law_contracts) (defScope s_law_contracts) .none kV32 dc32 pm32 an32 cd32 ct32), sl32⟩)
    (k32 : PySem.W.codeIn K cd32 "_law_contracts" = true)
    (p32 : PySem.W.keepIn K (.ref f32) = true)
    (a33 : PySem.W.nsIn K mainGlobals "_law_allowances" = some (some (.ref f33)))
    (l33 : K.lookup f33 = some ⟨oc33, od33, .func (PySem.W.fnOf "_law_allowances" "_law_allowances" (defArgs s_law_allowances) (defBody s_law_allowances) (defScope s_law_allowances) .none kV33 dc33 pm33 an33 cd33 ct33), sl33⟩)
    (k33 : PySem.W.codeIn K cd33 "_law_allowances" = true)
    (p33 : PySem.W.keepIn K (.ref f33) = true)
    (a34 : PySem.W.nsIn K mainGlobals "_law_used" = some (some (.ref f34)))
    (l34 : K.lookup f34 = some ⟨oc34, od34, .func (PySem.W.fnOf "_law_used" "_law_used" (defArgs s_law_used) (defBody s_law_used) (defScope s_law_used) .none kV34 dc34 pm34 an34 cd34 ct34), sl34⟩)
    (k34 : PySem.W.codeIn K cd34 "_law_used" = true)
    (p34 : PySem.W.keepIn K (.ref f34) = true)
    (a35 : PySem.W.nsIn K mainGlobals "_law_holds" = some (some (.ref f35)))
    (l35 : K.lookup f35 = some ⟨oc35, od35, .func (PySem.W.fnOf "_law_holds" "_law_holds" (defArgs s_law_holds) (defBody s_law_holds) (defScope s_law_holds) .none kV35 dc35 pm35 an35 cd35 ct35), sl35⟩)
    (k35 : PySem.W.codeIn K cd35 "_law_holds" = true)
    (p35 : PySem.W.keepIn K (.ref f35) = true)
    (a36 : PySem.W.nsIn K mainGlobals "_law_large" = some (some (.ref f36)))
    (l36 : K.lookup f36 = some ⟨oc36, od36, .func (PySem.W.fnOf "_law_large" "_law_large" (defArgs s_law_large) (defBody s_law_large) (defScope s_law_large) .none kV36 dc36 pm36 an36 cd36 ct36), sl36⟩)
    (k36 : PySem.W.codeIn K cd36 "_law_large" = true)
    (p36 : PySem.W.keepIn K (.ref f36) = true)
    (a37 : PySem.W.nsIn K mainGlobals "law" = some (some (.ref f37)))
    (l37 : K.lookup f37 = some ⟨oc37, od37, .func (PySem.W.fnOf "law" "law" (defArgs s_law) (defBody s_law) (defScope s_law) .none kV37 dc37 pm37 an37 cd37 ct37), sl37⟩)
    (k37 : PySem.W.codeIn K cd37 "law" = true)
    (p37 : PySem.W.keepIn K (.ref f37) = true)
    (z_int : PySem.W.nsIn K mainGlobals "int" = some none)
    (z_len : PySem.W.nsIn K mainGlobals "len" = some none)
    (z_list : PySem.W.nsIn K mainGlobals "list" = some none)
    (z_min : PySem.W.nsIn K mainGlobals "min" = some none)
    (z_range : PySem.W.nsIn K mainGlobals "range" = some none)
    (z_sorted : PySem.W.nsIn K mainGlobals "sorted" = some none)
    (z_str : PySem.W.nsIn K mainGlobals "str" = some none)
    (z_tuple : PySem.W.nsIn K mainGlobals "tuple" = some none)
    (g_DAY : PySem.W.nsIn K mainGlobals "DAY" = some (some (.int 86400 u_DAY)))
    (g_HOUR : PySem.W.nsIn K mainGlobals "HOUR" = some (some (.int 3600 u_HOUR)))
    (g_MINUTE : PySem.W.nsIn K mainGlobals "MINUTE" = some (some (.int 60 u_MINUTE)))
    (g_MONTH : PySem.W.nsIn K mainGlobals "MONTH" = some (some (.int 2592000 u_MONTH)))
    : ∃ fd : FuncData, (∀ (s : Shared) (v : Value), BindsTo s fd ⟨[v], []⟩ [("script", v)]) ∧ ∀ base : Heap, K.In base → base.Ns mainGlobals mg → FnOk l.prog w K mg base CX0 9 fa fd ["script"] (sp_law0 K) := by
  have e := hfa.symm.trans (PySem.W.mg_of X G a37)
  cases e
  have F0 := fun_mk (st := s_Band_init) l0 k0 p0
  have b0 := F0.binds (ps := ["self", "label", "prefix", "from_hour", "to_hour", "price"]) fun _ _ _ _ _ _ us hl => match us, hl with | [_, _, _, _, _, _], _ => rfl
  have F1 := fun_mk (st := s_Band_holds) l1 k1 p1
  have b1 := F1.binds (ps := ["self", "called", "clock"]) fun _ _ _ _ _ _ us hl => match us, hl with | [_, _, _], _ => rfl
  have F2 := fun_mk (st := s_Tariff_init) l2 k2 p2
  have b2 := F2.binds (ps := ["self", "setup_price", "bands"]) fun _ _ _ _ _ _ us hl => match us, hl with | [_, _, _], _ => rfl
  have F3 := fun_mk (st := s_Tariff_band_at) l3 k3 p3
  have b3 := F3.binds (ps := ["self", "called", "clock"]) fun _ _ _ _ _ _ us hl => match us, hl with | [_, _, _], _ => rfl
  have F4 := fun_mk (st := s_stretches) l4 k4 p4
  have b4 := F4.binds (ps := ["tariff", "called", "start", "begin", "till"]) fun _ _ _ _ _ _ us hl => match us, hl with | [_, _, _, _, _], _ => rfl
  have F5 := fun_mk (st := s_price_lines) l5 k5 p5
  have b5 := F5.binds (ps := ["tariff", "called", "start", "begin", "till"]) fun _ _ _ _ _ _ us hl => match us, hl with | [_, _, _, _, _], _ => rfl
  have F6 := fun_mk (st := s_Charge_init) l6 k6 p6
  have b6 := F6.binds (ps := ["self", "key", "account", "till", "mills"]) fun _ _ _ _ _ _ us hl => match us, hl with | [_, _, _, _, _], _ => rfl
  have F7 := fun_mk (st := s_ChargeRun_init) l7 k7 p7
  have b7 := F7.binds (ps := ["self", "contracts", "tariffs", "allowances"]) fun _ _ _ _ _ _ us hl => match us, hl with | [_, _, _, _], _ => rfl
  have F8 := fun_mk (st := s_ChargeRun_free_left) l8 k8 p8
  have b8 := F8.binds (ps := ["self", "account", "month"]) fun _ _ _ _ _ _ us hl => match us, hl with | [_, _, _], _ => rfl
  have F9 := fun_mk (st := s_ChargeRun_reason_against) l9 k9 p9
  have b9 := F9.binds (ps := ["self", "section", "contract"]) fun _ _ _ _ _ _ us hl => match us, hl with | [_, _, _], _ => rfl
  have F10 := fun_mk (st := s_ChargeRun_lines_of) l10 k10 p10
  have b10 := F10.binds (ps := ["self", "section", "name", "free"]) fun _ _ _ _ _ _ us hl => match us, hl with | [_, _, _, _], _ => rfl
  have F11 := fun_mk (st := s_ChargeRun_take) l11 k11 p11
  have b11 := F11.binds (ps := ["self", "section"]) fun _ _ _ _ _ _ us hl => match us, hl with | [_, _], _ => rfl
  have F12 := fun_mk (st := s_section_place) l12 k12 p12
  have b12 := F12.binds (ps := ["section"]) fun _ _ _ _ _ _ us hl => match us, hl with | [_], _ => rfl
  have F13 := fun_mk (st := s_charge_sections) l13 k13 p13
  have b13 := F13.binds (ps := ["sections", "contracts", "tariffs", "allowances"]) fun _ _ _ _ _ _ us hl => match us, hl with | [_, _, _, _], _ => rfl
  have F15 := fun_mk (st := s_Contracts_init) l15 k15 p15
  have b15 := F15.binds (ps := ["self"]) fun _ _ _ _ _ _ us hl => match us, hl with | [_], _ => rfl
  have F16 := fun_mk (st := s_Contracts_set_history) l16 k16 p16
  have b16 := F16.binds (ps := ["self", "line", "rows"]) fun _ _ _ _ _ _ us hl => match us, hl with | [_, _, _], _ => rfl
  have F17 := fun_mk (st := s_Contracts_in_force) l17 k17 p17
  have b17 := F17.binds (ps := ["self", "line", "clock"]) fun _ _ _ _ _ _ us hl => match us, hl with | [_, _, _], _ => rfl
  have F18 := fun_mk (st := s_Section_init) l18 k18 p18
  have b18 := F18.binds (ps := ["self", "owner", "payer", "called", "opened", "start", "seconds"]) fun _ _ _ _ _ _ us hl => match us, hl with | [_, _, _, _, _, _, _], _ => rfl
  have F19 := fun_mk (st := s_Section_is_free) l19 k19 p19
  have b19 := F19.binds (ps := ["self"]) fun _ _ _ _ _ _ us hl => match us, hl with | [_], _ => rfl
  have F20 := fun_mk (st := s_law_cell) l20 k20 p20
  have b20 := F20.binds (ps := ["script", "k"]) fun _ _ _ _ _ _ us hl => match us, hl with | [_, _], _ => rfl
  have F21 := fun_mk (st := s_law_state) l21 k21 p21
  have b21 := F21.binds (ps := ["cell", "k"]) fun _ _ _ _ _ _ us hl => match us, hl with | [_, _], _ => rfl
  have F22 := fun_mk (st := s_law_digit) l22 k22 p22
  have b22 := F22.binds (ps := ["state", "many"]) fun _ _ _ _ _ _ us hl => match us, hl with | [_, _], _ => rfl
  have F23 := fun_mk (st := s_law_shuffled) l23 k23 p23
  have b23 := F23.binds (ps := ["script", "things"]) fun _ _ _ _ _ _ us hl => match us, hl with | [_, _], _ => rfl
  have F24 := fun_mk (st := s_law_tariff) l24 k24 p24
  have b24 := F24.binds (ps := ["state"]) fun _ _ _ _ _ _ us hl => match us, hl with | [_], _ => rfl
  have F25 := fun_mk (st := s_law_called) l25 k25 p25
  have b25 := F25.binds (ps := ["state"]) fun _ _ _ _ _ _ us hl => match us, hl with | [_], _ => rfl
  have F27 := fun_mk (st := s_law_lines) l27 k27 p27
  have b27 := F27.binds (ps := []) fun _ _ _ _ _ _ us hl => match us, hl with | [], _ => rfl
  have F28 := fun_mk (st := s_law_history) l28 k28 p28
  have b28 := F28.binds (ps := ["state"]) fun _ _ _ _ _ _ us hl => match us, hl with | [_], _ => rfl
  have F29 := fun_mk (st := s_law_section) l29 k29 p29
  have b29 := F29.binds (ps := ["state", "k"]) fun _ _ _ _ _ _ us hl => match us, hl with | [_, _], _ => rfl
  have F30 := fun_mk (st := s_law_sections) l30 k30 p30
  have b30 := F30.binds (ps := ["script", "many"]) fun _ _ _ _ _ _ us hl => match us, hl with | [_, _], _ => rfl
  have F31 := fun_mk (st := s_law_tariffs) l31 k31 p31
  have b31 := F31.binds (ps := ["script"]) fun _ _ _ _ _ _ us hl => match us, hl with | [_], _ => rfl
  have F32 := fun_mk (st := s_law_contracts) l32 k32 p32
  have b32 := F32.binds (ps := ["script"]) fun _ _ _ _ _ _ us hl => match us, hl with | [_], _ => rfl
  have F33 := fun_mk (st := s_law_allowances) l33 k33 p33
  have b33 := F33.binds (ps := ["script"]) fun _ _ _ _ _ _ us hl => match us, hl with | [_], _ => rfl
  have F34 := fun_mk (st := s_law_used) l34 k34 p34
  have b34 := F34.binds (ps := ["charges", "owner"]) fun _ _ _ _ _ _ us hl => match us, hl with | [_, _], _ => rfl
  have F35 := fun_mk (st := s_law_holds) l35 k35 p35
  have b35 := F35.binds (ps := ["sections", "contracts", "tariffs", "allowances"]) fun _ _ _ _ _ _ us hl => match us, hl with | [_, _, _, _], _ => rfl
  have F36 := fun_mk (st := s_law_large) l36 k36 p36
  have b36 := F36.binds (ps := ["script"]) fun _ _ _ _ _ _ us hl => match us, hl with | [_], _ => rfl
  have F37 := fun_mk (st := s_law) l37 k37 p37
  have b37 := F37.binds (ps := ["script"]) fun _ _ _ _ _ _ us hl => match us, hl with | [_], _ => rfl
  let fn : Nat → Addr := fun i => [f0, f1, f2, f3, f4, f5, f6, f7, f8, f9, f10, f11, f12, f13, 0, f15, f16, f17, f18, f19, f20, f21, f22, f23, f24, f25, 0, f27, f28, f29, f30, f31, f32, f33, f34, f35, f36, fa].getD i 0
  let fd : Nat → FuncData := fun i => [PySem.W.fnOf "__init__" "Band.__init__" (defArgs s_Band_init) (defBody s_Band_init) (defScope s_Band_init) .none kV0 dc0 pm0 an0 cd0 ct0, PySem.W.fnOf "holds" "Band.holds" (defArgs s_Band_holds) (defBody s_Band_holds) (defScope s_Band_holds) .none kV1 dc1 pm1 an1 cd1 ct1, PySem.W.fnOf "__init__" "Tariff.__init__" (defArgs s_Tariff_init) (defBody s_Tariff_init) (defScope s_Tariff_init) .none kV2 dc2 pm2 an2 cd2 ct2, PySem.W.fnOf "band_at" "Tariff.band_at" (defArgs s_Tariff_band_at) (defBody s_Tariff_band_at) (defScope s_Tariff_band_at) .none kV3 dc3 pm3 an3 cd3 ct3, PySem.W.fnOf "stretches" "stretches" (defArgs s_stretches) (defBody s_stretches) (defScope s_stretches) .none kV4 dc4 pm4 an4 cd4 ct4, PySem.W.fnOf "price_lines" "price_lines" (defArgs s_price_lines) (defBody s_price_lines) (defScope s_price_lines) .none kV5 dc5 pm5 an5 cd5 ct5, PySem.W.fnOf "__init__" "Charge.__init__" (defArgs s_Charge_init) (defBody s_Charge_init) (defScope s_Charge_init) .none kV6 dc6 pm6 an6 cd6 ct6, PySem.W.fnOf "__init__" "ChargeRun.__init__" (defArgs s_ChargeRun_init) (defBody s_ChargeRun_init) (defScope s_ChargeRun_init) .none kV7 dc7 pm7 an7 cd7 ct7, PySem.W.fnOf "free_left" "ChargeRun.free_left" (defArgs s_ChargeRun_free_left) (defBody s_ChargeRun_free_left) (defScope s_ChargeRun_free_left) .none kV8 dc8 pm8 an8 cd8 ct8, PySem.W.fnOf "reason_against" "ChargeRun.reason_against" (defArgs s_ChargeRun_reason_against) (defBody s_ChargeRun_reason_against) (defScope s_ChargeRun_reason_against) .none kV9 dc9 pm9 an9 cd9 ct9, PySem.W.fnOf "lines_of" "ChargeRun.lines_of" (defArgs s_ChargeRun_lines_of) (defBody s_ChargeRun_lines_of) (defScope s_ChargeRun_lines_of) .none kV10 dc10 pm10 an10 cd10 ct10, PySem.W.fnOf "take" "ChargeRun.take" (defArgs s_ChargeRun_take) (defBody s_ChargeRun_take) (defScope s_ChargeRun_take) .none kV11 dc11 pm11 an11 cd11 ct11, PySem.W.fnOf "section_place" "section_place" (defArgs s_section_place) (defBody s_section_place) (defScope s_section_place) .none kV12 dc12 pm12 an12 cd12 ct12, PySem.W.fnOf "charge_sections" "charge_sections" (defArgs s_charge_sections) (defBody s_charge_sections) (defScope s_charge_sections) .none kV13 dc13 pm13 an13 cd13 ct13, PySem.W.fnOf "law" "law" (defArgs s_law) (defBody s_law) (defScope s_law) .none kV37 dc37 pm37 an37 cd37 ct37, PySem.W.fnOf "__init__" "Contracts.__init__" (defArgs s_Contracts_init) (defBody s_Contracts_init) (defScope s_Contracts_init) .none kV15 dc15 pm15 an15 cd15 ct15, PySem.W.fnOf "set_history" "Contracts.set_history" (defArgs s_Contracts_set_history) (defBody s_Contracts_set_history) (defScope s_Contracts_set_history) .none kV16 dc16 pm16 an16 cd16 ct16, PySem.W.fnOf "in_force" "Contracts.in_force" (defArgs s_Contracts_in_force) (defBody s_Contracts_in_force) (defScope s_Contracts_in_force) .none kV17 dc17 pm17 an17 cd17 ct17, PySem.W.fnOf "__init__" "Section.__init__" (defArgs s_Section_init) (defBody s_Section_init) (defScope s_Section_init) .none kV18 dc18 pm18 an18 cd18 ct18, PySem.W.fnOf "is_free" "Section.is_free" (defArgs s_Section_is_free) (defBody s_Section_is_free) (defScope s_Section_is_free) .none kV19 dc19 pm19 an19 cd19 ct19, PySem.W.fnOf "_law_cell" "_law_cell" (defArgs s_law_cell) (defBody s_law_cell) (defScope s_law_cell) .none kV20 dc20 pm20 an20 cd20 ct20, PySem.W.fnOf "_law_state" "_law_state" (defArgs s_law_state) (defBody s_law_state) (defScope s_law_state) .none kV21 dc21 pm21 an21 cd21 ct21, PySem.W.fnOf "_law_digit" "_law_digit" (defArgs s_law_digit) (defBody s_law_digit) (defScope s_law_digit) .none kV22 dc22 pm22 an22 cd22 ct22, PySem.W.fnOf "_law_shuffled" "_law_shuffled" (defArgs s_law_shuffled) (defBody s_law_shuffled) (defScope s_law_shuffled) .none kV23 dc23 pm23 an23 cd23 ct23, PySem.W.fnOf "_law_tariff" "_law_tariff" (defArgs s_law_tariff) (defBody s_law_tariff) (defScope s_law_tariff) .none kV24 dc24 pm24 an24 cd24 ct24, PySem.W.fnOf "_law_called" "_law_called" (defArgs s_law_called) (defBody s_law_called) (defScope s_law_called) .none kV25 dc25 pm25 an25 cd25 ct25, PySem.W.fnOf "law" "law" (defArgs s_law) (defBody s_law) (defScope s_law) .none kV37 dc37 pm37 an37 cd37 ct37, PySem.W.fnOf "_law_lines" "_law_lines" (defArgs s_law_lines) (defBody s_law_lines) (defScope s_law_lines) .none kV27 dc27 pm27 an27 cd27 ct27, PySem.W.fnOf "_law_history" "_law_history" (defArgs s_law_history) (defBody s_law_history) (defScope s_law_history) .none kV28 dc28 pm28 an28 cd28 ct28, PySem.W.fnOf "_law_section" "_law_section" (defArgs s_law_section) (defBody s_law_section) (defScope s_law_section) .none kV29 dc29 pm29 an29 cd29 ct29, PySem.W.fnOf "_law_sections" "_law_sections" (defArgs s_law_sections) (defBody s_law_sections) (defScope s_law_sections) .none kV30 dc30 pm30 an30 cd30 ct30, PySem.W.fnOf "_law_tariffs" "_law_tariffs" (defArgs s_law_tariffs) (defBody s_law_tariffs) (defScope s_law_tariffs) .none kV31 dc31 pm31 an31 cd31 ct31, PySem.W.fnOf "_law_contracts" "_law_contracts" (defArgs s_law_contracts) (defBody s_law_contracts) (defScope s_law_contracts) .none kV32 dc32 pm32 an32 cd32 ct32, PySem.W.fnOf "_law_allowances" "_law_allowances" (defArgs s_law_allowances) (defBody s_law_allowances) (defScope s_law_allowances) .none kV33 dc33 pm33 an33 cd33 ct33, PySem.W.fnOf "_law_used" "_law_used" (defArgs s_law_used) (defBody s_law_used) (defScope s_law_used) .none kV34 dc34 pm34 an34 cd34 ct34, PySem.W.fnOf "_law_holds" "_law_holds" (defArgs s_law_holds) (defBody s_law_holds) (defScope s_law_holds) .none kV35 dc35 pm35 an35 cd35 ct35, PySem.W.fnOf "_law_large" "_law_large" (defArgs s_law_large) (defBody s_law_large) (defScope s_law_large) .none kV36 dc36 pm36 an36 cd36 ct36, PySem.W.fnOf "law" "law" (defArgs s_law) (defBody s_law) (defScope s_law) .none kV37 dc37 pm37 an37 cd37 ct37].getD i (PySem.W.fnOf "law" "law" (defArgs s_law) (defBody s_law) (defScope s_law) .none kV37 dc37 pm37 an37 cd37 ct37)
  let cl : Nat → Addr := fun i => ([c0, c1, c2, c3, 0, 0, c6, c7] : List Addr).getD i 0
  have T : Tx K mg fn fd cl := {
    F_Band_init := F0,
    b_Band_init := b0,
    F_Band_holds := F1,
    b_Band_holds := b1,
    meth_Band_holds := ⟨a1, i1, p1⟩,
    F_Tariff_init := F2,
    b_Tariff_init := b2,
    F_Tariff_band_at := F3,
    b_Tariff_band_at := b3,
    meth_Tariff_band_at := ⟨a3, i3, p3⟩,
    F_stretches := F4,
    b_stretches := b4,
    m_stretches := PySem.W.mg_of X G a4,
    F_price_lines := F5,
    b_price_lines := b5,
    m_price_lines := PySem.W.mg_of X G a5,
    F_Charge_init := F6,
    b_Charge_init := b6,
    F_ChargeRun_init := F7,
    b_ChargeRun_init := b7,
    F_ChargeRun_free_left := F8,
    b_ChargeRun_free_left := b8,
    meth_ChargeRun_free_left := ⟨a8, i8, p8⟩,
    F_ChargeRun_reason_against := F9,
    b_ChargeRun_reason_against := b9,
    meth_ChargeRun_reason_against := ⟨a9, i9, p9⟩,
    F_ChargeRun_lines_of := F10,
    b_ChargeRun_lines_of := b10,
    meth_ChargeRun_lines_of := ⟨a10, i10, p10⟩,
    F_ChargeRun_take := F11,
    b_ChargeRun_take := b11,
    meth_ChargeRun_take := ⟨a11, i11, p11⟩,
    F_section_place := F12,
    b_section_place := b12,
    m_section_place := PySem.W.mg_of X G a12,
    F_charge_sections := F13,
    b_charge_sections := b13,
    m_charge_sections := PySem.W.mg_of X G a13,
    F_Contracts_init := F15,
    b_Contracts_init := b15,
    F_Contracts_set_history := F16,
    b_Contracts_set_history := b16,
    meth_Contracts_set_history := ⟨a16, i16, p16⟩,
    F_Contracts_in_force := F17,
    b_Contracts_in_force := b17,
    meth_Contracts_in_force := ⟨a17, i17, p17⟩,
    F_Section_init := F18,
    b_Section_init := b18,
    F_Section_is_free := F19,
    b_Section_is_free := b19,
    meth_Section_is_free := ⟨a19, i19, p19⟩,
    F_law_cell := F20,
    b_law_cell := b20,
    m_law_cell := PySem.W.mg_of X G a20,
    F_law_state := F21,
    b_law_state := b21,
    m_law_state := PySem.W.mg_of X G a21,
    F_law_digit := F22,
    b_law_digit := b22,
    m_law_digit := PySem.W.mg_of X G a22,
    F_law_shuffled := F23,
    b_law_shuffled := b23,
    m_law_shuffled := PySem.W.mg_of X G a23,
    F_law_tariff := F24,
    b_law_tariff := b24,
    m_law_tariff := PySem.W.mg_of X G a24,
    F_law_called := F25,
    b_law_called := b25,
    m_law_called := PySem.W.mg_of X G a25,
    F_law_lines := F27,
    b_law_lines := b27,
    m_law_lines := PySem.W.mg_of X G a27,
    F_law_history := F28,
    b_law_history := b28,
    m_law_history := PySem.W.mg_of X G a28,
    F_law_section := F29,
    b_law_section := b29,
    m_law_section := PySem.W.mg_of X G a29,
    F_law_sections := F30,
    b_law_sections := b30,
    m_law_sections := PySem.W.mg_of X G a30,
    F_law_tariffs := F31,
    b_law_tariffs := b31,
    m_law_tariffs := PySem.W.mg_of X G a31,
    F_law_contracts := F32,
    b_law_contracts := b32,
    m_law_contracts := PySem.W.mg_of X G a32,
    F_law_allowances := F33,
    b_law_allowances := b33,
    m_law_allowances := PySem.W.mg_of X G a33,
    F_law_used := F34,
    b_law_used := b34,
    m_law_used := PySem.W.mg_of X G a34,
    F_law_holds := F35,
    b_law_holds := b35,
    m_law_holds := PySem.W.mg_of X G a35,
    F_law_large := F36,
    b_law_large := b36,
    m_law_large := PySem.W.mg_of X G a36,
    F_law := F37,
    b_law := b37,
    m_law := PySem.W.mg_of X G a37,
    m_Band := PySem.W.mg_of X G ca0,
    mk_Band := ⟨mk0, a0, i0, kc0⟩,
    m_Tariff := PySem.W.mg_of X G ca1,
    mk_Tariff := ⟨mk1, a2, i2, kc1⟩,
    m_Charge := PySem.W.mg_of X G ca2,
    mk_Charge := ⟨mk2, a6, i6, kc2⟩,
    m_ChargeRun := PySem.W.mg_of X G ca3,
    mk_ChargeRun := ⟨mk3, a7, i7, kc3⟩,
    m_Contracts := PySem.W.mg_of X G ca6,
    mk_Contracts := ⟨mk6, a15, i15, kc6⟩,
    m_Section := PySem.W.mg_of X G ca7,
    mk_Section := ⟨mk7, a18, i18, kc7⟩,
    z_int := PySem.W.mg_none_of X G z_int,
    z_len := PySem.W.mg_none_of X G z_len,
    z_list := PySem.W.mg_none_of X G z_list,
    z_min := PySem.W.mg_none_of X G z_min,
    z_range := PySem.W.mg_none_of X G z_range,
    z_sorted := PySem.W.mg_none_of X G z_sorted,
    z_str := PySem.W.mg_none_of X G z_str,
    z_tuple := PySem.W.mg_none_of X G z_tuple,
    g_DAY := ⟨_, PySem.W.mg_of X G g_DAY⟩,
    g_HOUR := ⟨_, PySem.W.mg_of X G g_HOUR⟩,
    g_MINUTE := ⟨_, PySem.W.mg_of X G g_MINUTE⟩,
    g_MONTH := ⟨_, PySem.W.mg_of X G g_MONTH⟩,
    cf := { cl_Band := ⟨pg0, hd0, po0, sa0⟩, nf_Band_label := n0_0, nf_Band_prefix := n0_1, nf_Band_from_hour := n0_2, nf_Band_to_hour := n0_3, nf_Band_price := n0_4, cl_Tariff := ⟨pg1, hd1, po1, sa1⟩, nf_Tariff_setup_price := n1_0, nf_Tariff_bands := n1_1, cl_Charge := ⟨pg2, hd2, po2, sa2⟩, nf_Charge_key := n2_0, nf_Charge_account := n2_1, nf_Charge_till := n2_2, nf_Charge_mills := n2_3, cl_ChargeRun := ⟨pg3, hd3, po3, sa3⟩, nf_ChargeRun_contracts := n3_0, nf_ChargeRun_tariffs := n3_1, nf_ChargeRun_allowances := n3_2, nf_ChargeRun_used := n3_3, nf_ChargeRun_charges := n3_4, nf_ChargeRun_left_out := n3_5, cl_Contracts := ⟨pg6, hd6, po6, sa6⟩, nf_Contracts_histories := n6_0, cl_Section := ⟨pg7, hd7, po7, sa7⟩, nf_Section_owner := n7_0, nf_Section_payer := n7_1, nf_Section_called := n7_2, nf_Section_opened := n7_3, nf_Section_start := n7_4, nf_Section_seconds := n7_5 } }
  letI : Wo := ⟨l.prog, w⟩
  exact ⟨fd 37, fun s v => .of_eq rfl, fun base _ _ => (ok_law T).imp fun vs H Q E h => sp_law_of h⟩
end L87
open PySem PySem.W PyProof.Rows
set_option maxRecDepth 100000 in
set_option maxHeartbeats 0 in
theorem PySem.Challenge.cw_copperline_k87_free_seconds_holds : PySem.Challenge.rw_copperline_k87_free_seconds.Holds := by
  w_on; o_law; k_head; (case hw => w_witness2)
  k_fill
  refine L2.walk_of (l := PySem.Challenge.rw_copperline_k87_free_seconds) (n := 63) (k := 9) (x := "script") (CX := fun _ => L2.CX0) (sp := fun w => L87.sp_law0 _) rfl (by decide) rfl ⟨rfl, by decide, by decide⟩ (fun w h Y => PySem.W.kIn_of Y) ?F (fun _ _ a ns hl _ hS => ⟨a, ns, rfl, hS, hl, fun _ => rfl⟩) (fun _ _ _ _ _ h => h)
  case F =>
    intro w mg fa h KX G hmg
    refine' L87.all_mk KX G hmg ?ca0 ?mk0 ?kc0 ?pg0 ?hd0 ?po0 ?sa0 ?n0_0 ?n0_1 ?n0_2 ?n0_3 ?n0_4 ?ca1 ?mk1 ?kc1 ?pg1 ?hd1 ?po1 ?sa1 ?n1_0 ?n1_1 ?ca2 ?mk2 ?kc2 ?pg2 ?hd2 ?po2 ?sa2 ?n2_0 ?n2_1 ?n2_2 ?n2_3 ?ca3 ?mk3 ?kc3 ?pg3 ?hd3 ?po3 ?sa3 ?n3_0 ?n3_1 ?n3_2 ?n3_3 ?n3_4 ?n3_5 ?ca6 ?mk6 ?kc6 ?pg6 ?hd6 ?po6 ?sa6 ?n6_0 ?ca7 ?mk7 ?kc7 ?pg7 ?hd7 ?po7 ?sa7 ?n7_0 ?n7_1 ?n7_2 ?n7_3 ?n7_4 ?n7_5 ?a0 ?i0 ?l0 ?k0 ?p0 ?a1 ?i1 ?l1 ?k1 ?p1 ?a2 ?i2 ?l2 ?k2 ?p2 ?a3 ?i3 ?l3 ?k3 ?p3 ?a4 ?l4 ?k4 ?p4 ?a5 ?l5 ?k5 ?p5 ?a6 ?i6 ?l6 ?k6 ?p6 ?a7 ?i7 ?l7 ?k7 ?p7 ?a8 ?i8 ?l8 ?k8 ?p8 ?a9 ?i9 ?l9 ?k9 ?p9 ?a10 ?i10 ?l10 ?k10 ?p10 ?a11 ?i11 ?l11 ?k11 ?p11 ?a12 ?l12 ?k12 ?p12 ?a13 ?l13 ?k13 ?p13 ?a15 ?i15 ?l15 ?k15 ?p15 ?a16 ?i16 ?l16 ?k16 ?p16 ?a17 ?i17 ?l17 ?k17 ?p17 ?a18 ?i18 ?l18 ?k18 ?p18 ?a19 ?i19 ?l19 ?k19 ?p19 ?a20 ?l20 ?k20 ?p20 ?a21 ?l21 ?k21 ?p21 ?a22 ?l22 ?k22 ?p22 ?a23 ?l23 ?k23 ?p23 ?a24 ?l24 ?k24 ?p24 ?a25 ?l25 ?k25 ?p25 ?a27 ?l27 ?k27 ?p27 ?a28 ?l28 ?k28 ?p28 ?a29 ?l29 ?k29 ?p29 ?a30 ?l30 ?k30 ?p30 ?a31 ?l31 ?k31 ?p31 ?a32 ?l32 ?k32 ?p32 ?a33 ?l33 ?k33 ?p33 ?a34 ?l34 ?k34 ?p34 ?a35 ?l35 ?k35 ?p35 ?a36 ?l36 ?k36 ?p36 ?a37 ?l37 ?k37 ?p37 ?z_int ?z_len ?z_list ?z_min ?z_range ?z_sorted ?z_str ?z_tuple ?g_DAY ?g_HOUR ?g_MINUTE ?g_MONTH
    (case ca0 => k_is)
    (case mk0 => k_is)
    (case kc0 => k_is)
    (case pg0 => k_is)
    (case hd0 => k_is)
    (case po0 => k_is)
    (case sa0 => k_is)
    (case n0_0 => k_is)
    (case n0_1 => k_is)
    (case n0_2 => k_is)
    (case n0_3 => k_is)
    (case n0_4 => k_is)
    (case ca1 => k_is)
    (case mk1 => k_is)
    (case kc1 => k_is)
    (case pg1 => k_is)
    (case hd1 => k_is)
    (case po1 => k_is)
    (case sa1 => k_is)
    (case n1_0 => k_is)
    (case n1_1 => k_is)
    (case ca2 => k_is)
    (case mk2 => k_is)
    (case kc2 => k_is)
    (case pg2 => k_is)
    (case hd2 => k_is)
    (case po2 => k_is)
    (case sa2 => k_is)
    (case n2_0 => k_is)
    (case n2_1 => k_is)
    (case n2_2 => k_is)
    (case n2_3 => k_is)
    (case ca3 => k_is)
    (case mk3 => k_is)
    (case kc3 => k_is)
    (case pg3 => k_is)
    (case hd3 => k_is)
    (case po3 => k_is)
    (case sa3 => k_is)
    (case n3_0 => k_is)
    (case n3_1 => k_is)
    (case n3_2 => k_is)
    (case n3_3 => k_is)
    (case n3_4 => k_is)
    (case n3_5 => k_is)
    (case ca6 => k_is)
    (case mk6 => k_is)
    (case kc6 => k_is)
    (case pg6 => k_is)
    (case hd6 => k_is)
    (case po6 => k_is)
    (case sa6 => k_is)
    (case n6_0 => k_is)
    (case ca7 => k_is)
    (case mk7 => k_is)
    (case kc7 => k_is)
    (case pg7 => k_is)
    (case hd7 => k_is)
    (case po7 => k_is)
    (case sa7 => k_is)
    (case n7_0 => k_is)
    (case n7_1 => k_is)
    (case n7_2 => k_is)
    (case n7_3 => k_is)
    (case n7_4 => k_is)
    (case n7_5 => k_is)
    (case a0 => k_is)
    (case i0 => k_is)
    (case l0 => k_is)
    (case k0 => k_is)
    (case p0 => k_is)
    (case a1 => k_is)
    (case i1 => k_is)
    (case l1 => k_is)
    (case k1 => k_is)
    (case p1 => k_is)
    (case a2 => k_is)
    (case i2 => k_is)
    (case l2 => k_is)
    (case k2 => k_is)
    (case p2 => k_is)
    (case a3 => k_is)
    (case i3 => k_is)
    (case l3 => k_is)
    (case k3 => k_is)
    (case p3 => k_is)
    (case a4 => k_is)
    (case l4 => k_is)
    (case k4 => k_is)
    (case p4 => k_is)
    (case a5 => k_is)
    (case l5 => k_is)
    (case k5 => k_is)
    (case p5 => k_is)
    (case a6 => k_is)
    (case i6 => k_is)
    (case l6 => k_is)
    (case k6 => k_is)
    (case p6 => k_is)
    (case a7 => k_is)
    (case i7 => k_is)
    (case l7 => k_is)
    (case k7 => k_is)
    (case p7 => k_is)
    (case a8 => k_is)
    (case i8 => k_is)
    (case l8 => k_is)
    (case k8 => k_is)
    (case p8 => k_is)
    (case a9 => k_is)
    (case i9 => k_is)
    (case l9 => k_is)
    (case k9 => k_is)
    (case p9 => k_is)
    (case a10 => k_is)
    (case i10 => k_is)
    (case l10 => k_is)
    (case k10 => k_is)
    (case p10 => k_is)
    (case a11 => k_is)
    (case i11 => k_is)
    (case l11 => k_is)
    (case k11 => k_is)
    (case p11 => k_is)
    (case a12 => k_is)
    (case l12 => k_is)
    (case k12 => k_is)
    (case p12 => k_is)
    (case a13 => k_is)
    (case l13 => k_is)
    (case k13 => k_is)
    (case p13 => k_is)
    (case a15 => k_is)
    (case i15 => k_is)
    (case l15 => k_is)
    (case k15 => k_is)
    (case p15 => k_is)
    (case a16 => k_is)
    (case i16 => k_is)
    (case l16 => k_is)
    (case k16 => k_is)
    (case p16 => k_is)
    (case a17 => k_is)
    (case i17 => k_is)
    (case l17 => k_is)
    (case k17 => k_is)
    (case p17 => k_is)
    (case a18 => k_is)
    (case i18 => k_is)
    (case l18 => k_is)
    (case k18 => k_is)
    (case p18 => k_is)
    (case a19 => k_is)
    (case i19 => k_is)
    (case l19 => k_is)
    (case k19 => k_is)
    (case p19 => k_is)
    (case a20 => k_is)
    (case l20 => k_is)
    (case k20 => k_is)
    (case p20 => k_is)
    (case a21 => k_is)
    (case l21 => k_is)
    (case k21 => k_is)
    (case p21 => k_is)
    (case a22 => k_is)
    (case l22 => k_is)
    (case k22 => k_is)
    (case p22 => k_is)
    (case a23 => k_is)
    (case l23 => k_is)
    (case k23 => k_is)
    (case p23 => k_is)
    (case a24 => k_is)
    (case l24 => k_is)
    (case k24 => k_is)
    (case p24 => k_is)
    (case a25 => k_is)
    (case l25 => k_is)
    (case k25 => k_is)
    (case p25 => k_is)
    (case a27 => k_is)
    (case l27 => k_is)
    (case k27 => k_is)
    (case p27 => k_is)
    (case a28 => k_is)
    (case l28 => k_is)
    (case k28 => k_is)
    (case p28 => k_is)
    (case a29 => k_is)
    (case l29 => k_is)
    (case k29 => k_is)
    (case p29 => k_is)
    (case a30 => k_is)
    (case l30 => k_is)
    (case k30 => k_is)
    (case p30 => k_is)
    (case a31 => k_is)
    (case l31 => k_is)
    (case k31 => k_is)
    (case p31 => k_is)
    (case a32 => k_is)
    (case l32 => k_is)
    (case k32 => k_is)
    (case p32 => k_is)
    (case a33 => k_is)
    (case l33 => k_is)
    (case k33 => k_is)
    (case p33 => k_is)
    (case a34 => k_is)
    (case l34 => k_is)
    (case k34 => k_is)
    (case p34 => k_is)
    (case a35 => k_is)
    (case l35 => k_is)
    (case k35 => k_is)
    (case p35 => k_is)
    (case a36 => k_is)
    (case l36 => k_is)
    (case k36 => k_is)
    (case p36 => k_is)
    (case a37 => k_is)
    (case l37 => k_is)
    (case k37 => k_is)
    (case p37 => k_is)
    (case z_int => k_is)
    (case z_len => k_is)
    (case z_list => k_is)
    (case z_min => k_is)
    (case z_range => k_is)
    (case z_sorted => k_is)
    (case z_str => k_is)
    (case z_tuple => k_is)
    (case g_DAY => k_is)
    (case g_HOUR => k_is)
    (case g_MINUTE => k_is)
    (case g_MONTH => k_is)
