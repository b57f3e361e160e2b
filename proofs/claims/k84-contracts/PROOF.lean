import PyProof.Rows.All
import Wide.All
import OpenK.AllK
import Wide.FinOn
import HandS.ForMost
import KE.KDictKeyed
import KE.SortData
import KE.SortKeyHeap
import KE.KDictSum
import HandS.Small
import HandS.SortKw
import HandS.More
import KE.KEqNest
import HandS.Deep
import HandS.ExcInit
import HandS.WordsExc
import HandS.ExcField
import HandS.FStr
import KE.KExcSuper
import PySem.Challenge.RW_copperline_k84_contracts
set_option Elab.async false
set_option linter.all false
set_option maxRecDepth 100000
set_option maxHeartbeats 4000000
/-! Cp1: frozen data and owned cells over the hand layer: Sep G H M (G: what never changes any more, M: what is owned and may change), D (data as a tree), Rep (a value stands for such a tree). -/
namespace Cp
open PySem L2

/-! ### the heap in two parts -/
structure Sep (G H : Hp) (M : List (Addr × HO)) : Prop where
  sub : Same G H
  own : ∀ e ∈ M, H e.1 = some e.2 ∧ G e.1 = none
  nd : (M.map (·.1)).Nodup

theorem Sep.nil {H : Hp} : Sep H H [] := ⟨Same.refl H, (fun _ h => absurd h List.not_mem_nil), List.nodup_nil⟩
theorem Sep.at {G H : Hp} {M : List (Addr × HO)} (S : Sep G H M) {k : Nat} {a : Addr} {o : HO} (h : M[k]? = some (a, o)) : H a = some o :=
  (S.own (a, o) (List.mem_of_getElem? h)).1
theorem Sep.out {G H : Hp} {M : List (Addr × HO)} (S : Sep G H M) {k : Nat} {a : Addr} {o : HO} (h : M[k]? = some (a, o)) : G a = none :=
  (S.own (a, o) (List.mem_of_getElem? h)).2
theorem Sep.drop {G H : Hp} {M : List (Addr × HO)} {e : Addr × HO} (S : Sep G H (e :: M)) : Sep G H M :=
  ⟨S.sub, fun x hx => S.own x (List.mem_cons_of_mem _ hx), (List.nodup_cons.mp S.nd).2⟩
theorem Sep.swap {G H : Hp} {M : List (Addr × HO)} {e f : Addr × HO} (S : Sep G H (e :: f :: M)) : Sep G H (f :: e :: M) := by
  refine ⟨S.sub, fun x hx => S.own x ?_, ?_⟩
  · simp only [List.mem_cons] at hx ⊢
    rcases hx with h | h | h
    · exact .inr (.inl h)
    · exact .inl h
    · exact .inr (.inr h)
  · exact ((List.Perm.swap f e M).map (·.1)).nodup_iff.mp S.nd
theorem Sep.perm {G H : Hp} {M N : List (Addr × HO)} (S : Sep G H M) (p : M.Perm N) : Sep G H N :=
  ⟨S.sub, fun x hx => S.own x (p.mem_iff.mpr hx), (p.map (·.1)).nodup_iff.mp S.nd⟩
theorem perm_pull {α : Type} : ∀ (M : List α) (k : Nat) (e : α), M[k]? = some e → M.Perm (e :: M.eraseIdx k)
  | [], _, _, h => by simp at h
  | x :: M, 0, e, h => by
    have : x = e := by simpa using h
    subst this
    exact List.Perm.refl _
  | x :: M, k + 1, e, h => by
    have h' : M[k]? = some e := by simpa using h
    exact ((perm_pull M k e h').cons x).trans (List.Perm.swap e x _)
theorem Sep.pull {G H : Hp} {M : List (Addr × HO)} (S : Sep G H M) (k : Nat) {e : Addr × HO} (h : M[k]? = some e) : Sep G H (e :: M.eraseIdx k) := S.perm (perm_pull M k e h)
theorem Sep.keep {G H : Hp} {M N : List (Addr × HO)} (S : Sep G H (N ++ M)) : Sep G H M := by
  induction N with
  | nil => exact S
  | cons e N ih => exact ih S.drop

theorem same_tr {H H1 H2 : Hp} (b : Same H1 H2) (a : Same H H1) : Same H H2 := a.trans b
theorem Same.upd {H : Hp} {p : Addr} {o : HO} (h : H p = none) : Same H (upd H p o) := fun b x e => by
  rw [upd_ne (ne_of_none e h)]
  exact e
/-- a new object that is frozen at once -/
theorem Sep.newG {G H : Hp} {M : List (Addr × HO)} (S : Sep G H M) {p : Addr} {o : HO} (h : H p = none) : Sep (upd G p o) (upd H p o) M := by
  refine ⟨fun b x e => ?_, fun e he => ?_, S.nd⟩
  · by_cases q : b = p
    · subst q
      rw [upd_same] at e ⊢
      exact e
    · rw [upd_ne q] at e ⊢
      exact S.sub b x e
  · have h1 := S.own e he
    have q : e.1 ≠ p := ne_of_none h1.1 h
    rw [upd_ne q, upd_ne q]
    exact h1
theorem Sep.freshG {G H : Hp} {M : List (Addr × HO)} (S : Sep G H M) {p : Addr} (h : H p = none) : G p = none := S.sub.free h
/-- a new object that is owned -/
theorem Sep.newM {G H : Hp} {M : List (Addr × HO)} (S : Sep G H M) {p : Addr} {o : HO} (h : H p = none) : Sep G (upd H p o) ((p, o) :: M) := by
  refine ⟨S.sub.trans (Same.upd h), fun e he => ?_, ?_⟩
  · rcases List.mem_cons.mp he with rfl | he
    · exact ⟨upd_same, S.freshG h⟩
    · have h1 := S.own e he
      rw [upd_ne (ne_of_none h1.1 h)]
      exact h1
  · rw [List.map_cons]
    refine List.nodup_cons.mpr ⟨fun hm => ?_, S.nd⟩
    obtain ⟨e, he, q⟩ := List.mem_map.mp hm
    have h1 := (S.own e he).1
    rw [q, h] at h1
    cases h1
/-- an owned object at the head is frozen -/
theorem Sep.freeze {G H : Hp} {M : List (Addr × HO)} {p : Addr} {o : HO} (S : Sep G H ((p, o) :: M)) : Sep (upd G p o) H M ∧ Same G (upd G p o) := by
  have h0 := S.own (p, o) (List.mem_cons_self ..)
  refine ⟨⟨fun b x e => ?_, fun e he => ?_, (List.nodup_cons.mp S.nd).2⟩, Same.upd h0.2⟩
  · by_cases q : b = p
    · subst q
      rw [upd_same] at e
      rw [← e]
      exact h0.1
    · rw [upd_ne q] at e
      exact S.sub b x e
  · have h1 := S.own e (List.mem_cons_of_mem _ he)
    have q : e.1 ≠ p := fun z => (List.nodup_cons.mp S.nd).1 (by
      show p ∈ _
      rw [← z]
      exact List.mem_map.mpr ⟨e, he, rfl⟩)
    rw [upd_ne q]
    exact h1
/-- the k-th owned object changes -/
theorem Sep.set {G H : Hp} : ∀ {M : List (Addr × HO)} (S : Sep G H M) {k : Nat} {a : Addr} {o : HO} (o' : HO), M[k]? = some (a, o) → Sep G (upd H a o') (M.set k (a, o')) := by
  intro M S k a o o' h
  have hk : k < M.length := (List.getElem?_eq_some_iff.mp h).1
  have hg := S.out h
  have hmap : (M.set k (a, o')).map (·.1) = M.map (·.1) := by
    rw [List.map_set]
    show (M.map (·.1)).set k a = _
    have : (M.map (·.1))[k]? = some a := by rw [List.getElem?_map, h]; rfl
    obtain ⟨hk2, e⟩ := List.getElem?_eq_some_iff.mp this
    rw [← e]
    exact List.set_getElem_self hk2
  refine ⟨fun b x e => ?_, fun e he => ?_, by rw [hmap]; exact S.nd⟩
  · have q : b ≠ a := fun z => by rw [z, hg] at e; cases e
    rw [upd_ne q]
    exact S.sub b x e
  · obtain ⟨j, hj, hje⟩ := List.mem_iff_getElem.mp he
    rw [List.length_set] at hj
    by_cases q : j = k
    · subst q
      rw [List.getElem_set_self] at hje
      subst hje
      exact ⟨upd_same, hg⟩
    · rw [List.getElem_set_ne (fun z => q z.symm)] at hje
      have hm : e ∈ M := hje ▸ List.getElem_mem hj
      have h1 := S.own e hm
      have hne : e.1 ≠ a := fun z => by
        have e1 : (M.map (·.1))[j]? = some a := by
          rw [List.getElem?_map, List.getElem?_eq_getElem hj, hje, ← z]; rfl
        have e2 : (M.map (·.1))[k]? = some a := by rw [List.getElem?_map, h]; rfl
        have hjl : j < (M.map (·.1)).length := by rw [List.length_map]; exact hj
        exact q ((List.getElem?_inj hjl S.nd).mp (e1.trans e2.symm))
      rw [upd_ne hne]
      exact h1

/-! ### data as trees -/
inductive D where
  | non | bl (b : Bool) | int (i : Int) | str (x : Str)
  | lst (ds : List D) | tup (ds : List D)
  | ins (c : Nat) (ns : List Str) (ds : List D)
  /-- the object at an address, whatever it holds -/
  | loc (a : Addr)
  /-- a dict that is never changed: its keys, what stands there -/
  | dic (ks : List Key) (ds : List D)

def D.isNon : D → Bool
  | .non => true
  | _ => false
section
variable (K : PySem.W.Frag) (cl : Nat → Addr)
mutual
def Rep (G : Hp) : V → D → Prop
  | x, .non => x = .non
  | x, .bl b => x = .bl b
  | x, .int i => x = .int i
  | x, .str s => x = .str s
  | x, .lst ds => ∃ a vs, x = .ref a ∧ SqL K G a vs ∧ Reps G vs ds
  | x, .tup ds => ∃ a vs, x = .ref a ∧ SqT K G a vs ∧ Reps G vs ds
  | x, .ins c ns ds => ∃ a dx vs, x = .ref a ∧ G a = some (.ins (cl c) dx (ns.zip vs)) ∧ ns.length = vs.length ∧ Reps G vs ds
  | x, .loc a => x = .ref a
  | x, .dic ks ds => ∃ a kws, x = .ref a ∧ G a = some (.dK kws) ∧ kws.map (·.1) = ks ∧ Reps G (kws.map (·.2)) ds
def Reps (G : Hp) : List V → List D → Prop
  | vs, [] => vs = []
  | vs, d :: ds => ∃ v ws, vs = v :: ws ∧ Rep G v d ∧ Reps G ws ds
end
end
section
variable {K : PySem.W.Frag} {cl : Nat → Addr} {G G' : Hp}
theorem Same.seqT {K : PySem.W.Frag} {H H' : Hp} {a : Addr} {xs : List V} (e : Same H H') (h : SqT K H a xs) : SqT K H' a xs := by
  rcases h with (h | ⟨o, h⟩) | h
  · exact .inl (.inl (e _ _ h))
  · exact .inl (.inr ⟨o, e _ _ h⟩)
  · exact .inr h
mutual
theorem Rep.mono (s : Same G G') : ∀ {x : V} {d : D}, Rep K cl G x d → Rep K cl G' x d
  | _, .non, h => by simp only [Rep] at h ⊢; exact h
  | _, .bl _, h => by simp only [Rep] at h ⊢; exact h
  | _, .int _, h => by simp only [Rep] at h ⊢; exact h
  | _, .str _, h => by simp only [Rep] at h ⊢; exact h
  | _, .loc _, h => by simp only [Rep] at h ⊢; exact h
  | _, .dic ks ds, h => by
    simp only [Rep] at h ⊢
    obtain ⟨a, kws, e, q, l, r⟩ := h
    exact ⟨a, kws, e, s _ _ q, l, Reps.mono s r⟩
  | _, .lst ds, h => by
    simp only [Rep] at h ⊢
    obtain ⟨a, vs, e, q, r⟩ := h
    exact ⟨a, vs, e, s.seq q, Reps.mono s r⟩
  | _, .tup ds, h => by
    simp only [Rep] at h ⊢
    obtain ⟨a, vs, e, q, r⟩ := h
    exact ⟨a, vs, e, Same.seqT s q, Reps.mono s r⟩
  | _, .ins c ns ds, h => by
    simp only [Rep] at h ⊢
    obtain ⟨a, dx, vs, e, q, l, r⟩ := h
    exact ⟨a, dx, vs, e, s _ _ q, l, Reps.mono s r⟩
theorem Reps.mono (s : Same G G') : ∀ {vs : List V} {ds : List D}, Reps K cl G vs ds → Reps K cl G' vs ds
  | _, [], h => by simp only [Reps] at h ⊢; exact h
  | _, d :: ds, h => by
    simp only [Reps] at h ⊢
    obtain ⟨v, ws, e, q, r⟩ := h
    exact ⟨v, ws, e, Rep.mono s q, Reps.mono s r⟩
end
theorem Reps.nil : Reps K cl G [] [] := by simp only [Reps]
theorem Reps.cons {v : V} {vs : List V} {d : D} {ds : List D} (h : Rep K cl G v d) (t : Reps K cl G vs ds) : Reps K cl G (v :: vs) (d :: ds) := by
  simp only [Reps]
  exact ⟨v, vs, rfl, h, t⟩
theorem Reps.uncons {vs : List V} {d : D} {ds : List D} (h : Reps K cl G vs (d :: ds)) : ∃ v ws, vs = v :: ws ∧ Rep K cl G v d ∧ Reps K cl G ws ds := by
  simp only [Reps] at h
  exact h
theorem Reps.length : ∀ {vs : List V} {ds : List D}, Reps K cl G vs ds → vs.length = ds.length
  | _, [], h => by simp only [Reps] at h; rw [h]; rfl
  | _, d :: ds, h => by
    obtain ⟨v, ws, rfl, _, r⟩ := h.uncons
    rw [List.length_cons, List.length_cons, r.length]
theorem Reps.get : ∀ {vs : List V} {ds : List D} {i : Nat} {v : V}, Reps K cl G vs ds → vs[i]? = some v → ∃ d, ds[i]? = some d ∧ Rep K cl G v d
  | vs, [], i, v, h, e => by simp only [Reps] at h; rw [h] at e; simp at e
  | vs, d :: ds, 0, v, h, e => by
    obtain ⟨w, ws, rfl, q, r⟩ := h.uncons
    have : w = v := by simpa using e
    exact ⟨d, rfl, this ▸ q⟩
  | vs, d :: ds, i + 1, v, h, e => by
    obtain ⟨w, ws, rfl, q, r⟩ := h.uncons
    obtain ⟨d', e', q'⟩ := r.get (i := i) (v := v) (by simpa using e)
    exact ⟨d', by simpa using e', q'⟩
theorem Reps.getD : ∀ {vs : List V} {ds : List D} {i : Nat} {d : D}, Reps K cl G vs ds → ds[i]? = some d → ∃ v, vs[i]? = some v ∧ Rep K cl G v d
  | vs, [], i, d, h, e => by simp at e
  | vs, c :: ds, 0, d, h, e => by
    obtain ⟨w, ws, rfl, q, r⟩ := h.uncons
    have : c = d := by simpa using e
    exact ⟨w, rfl, this ▸ q⟩
  | vs, c :: ds, i + 1, d, h, e => by
    obtain ⟨w, ws, rfl, q, r⟩ := h.uncons
    obtain ⟨v', e', q'⟩ := r.getD (i := i) (d := d) (by simpa using e)
    exact ⟨v', by simpa using e', q'⟩
theorem Reps.append : ∀ {vs : List V} {ds : List D} {us : List V} {es : List D}, Reps K cl G vs ds → Reps K cl G us es → Reps K cl G (vs ++ us) (ds ++ es)
  | vs, [], us, es, h, t => by
    simp only [Reps] at h
    rw [h]
    exact t
  | vs, d :: ds, us, es, h, t => by
    obtain ⟨w, ws, rfl, q, r⟩ := h.uncons
    exact Reps.cons q (r.append t)
theorem Reps.one {v : V} {d : D} (h : Rep K cl G v d) : Reps K cl G [v] [d] := Reps.cons h Reps.nil
theorem Reps.take : ∀ {vs : List V} {ds : List D} (n : Nat), Reps K cl G vs ds → Reps K cl G (vs.take n) (ds.take n)
  | _, _, 0, _ => Reps.nil
  | vs, [], n + 1, h => by
    simp only [Reps] at h
    rw [h]
    exact Reps.nil
  | vs, d :: ds, n + 1, h => by
    obtain ⟨w, ws, rfl, q, r⟩ := h.uncons
    exact Reps.cons q (r.take n)
theorem Reps.drop : ∀ {vs : List V} {ds : List D} (n : Nat), Reps K cl G vs ds → Reps K cl G (vs.drop n) (ds.drop n)
  | _, _, 0, h => h
  | vs, [], n + 1, h => by
    simp only [Reps] at h
    rw [h]
    exact Reps.nil
  | vs, d :: ds, n + 1, h => by
    obtain ⟨w, ws, rfl, q, r⟩ := h.uncons
    exact r.drop n
theorem Reps.set : ∀ {vs : List V} {ds : List D} (n : Nat) {v : V} {d : D}, Reps K cl G vs ds → Rep K cl G v d → Reps K cl G (vs.set n v) (ds.set n d)
  | vs, [], n, v, d, h, q => by
    simp only [Reps] at h
    rw [h]
    exact Reps.nil
  | vs, c :: ds, 0, v, d, h, q => by
    obtain ⟨w, ws, rfl, q', r⟩ := h.uncons
    exact Reps.cons q r
  | vs, c :: ds, n + 1, v, d, h, q => by
    obtain ⟨w, ws, rfl, q', r⟩ := h.uncons
    exact Reps.cons q' (r.set n q)
theorem Reps.map {α : Type} {f : α → V} {g : α → D} : ∀ {xs : List α}, (∀ x ∈ xs, Rep K cl G (f x) (g x)) → Reps K cl G (xs.map f) (xs.map g)
  | [], _ => Reps.nil
  | x :: xs, h => Reps.cons (h x (List.mem_cons_self ..)) (Reps.map fun y hy => h y (List.mem_cons_of_mem _ hy))
theorem Reps.ints {xs : List Int} : Reps K cl G (xs.map V.int) (xs.map D.int) := Reps.map fun x _ => by simp only [Rep]

theorem Rep.non : Rep K cl G .non .non := by simp only [Rep]
theorem Rep.bl {b : Bool} : Rep K cl G (.bl b) (.bl b) := by simp only [Rep]
theorem Rep.int {i : Int} : Rep K cl G (.int i) (.int i) := by simp only [Rep]
theorem Rep.str {x : Str} : Rep K cl G (.str x) (.str x) := by simp only [Rep]
theorem Rep.tup {a : Addr} {vs : List V} {ds : List D} (h : SqT K G a vs) (r : Reps K cl G vs ds) : Rep K cl G (.ref a) (.tup ds) := by
  simp only [Rep]
  exact ⟨a, vs, rfl, h, r⟩
theorem Rep.lst {a : Addr} {vs : List V} {ds : List D} (h : SqL K G a vs) (r : Reps K cl G vs ds) : Rep K cl G (.ref a) (.lst ds) := by
  simp only [Rep]
  exact ⟨a, vs, rfl, h, r⟩
theorem Rep.ins {a dx : Addr} {c : Nat} {ns : List Str} {vs : List V} {ds : List D} (h : G a = some (.ins (cl c) dx (ns.zip vs))) (l : ns.length = vs.length) (r : Reps K cl G vs ds) : Rep K cl G (.ref a) (.ins c ns ds) := by
  simp only [Rep]
  exact ⟨a, dx, vs, rfl, h, l, r⟩
theorem Rep.loc {a : Addr} : Rep K cl G (.ref a) (.loc a) := by simp only [Rep]
theorem Rep.dic {a : Addr} {kws : List (Key × V)} {ks : List Key} {ds : List D} (h : G a = some (.dK kws)) (l : kws.map (·.1) = ks) (r : Reps K cl G (kws.map (·.2)) ds) : Rep K cl G (.ref a) (.dic ks ds) := by
  simp only [Rep]
  exact ⟨a, kws, rfl, h, l, r⟩
theorem Rep.of_dic {x : V} {ks : List Key} {ds : List D} (h : Rep K cl G x (.dic ks ds)) : ∃ a kws, x = .ref a ∧ G a = some (.dK kws) ∧ kws.map (·.1) = ks ∧ Reps K cl G (kws.map (·.2)) ds := by simpa only [Rep] using h
theorem Rep.of_loc {x : V} {a : Addr} (h : Rep K cl G x (.loc a)) : x = .ref a := by simpa only [Rep] using h
theorem Rep.of_non {x : V} (h : Rep K cl G x .non) : x = .non := by simpa only [Rep] using h
theorem Rep.of_bl {x : V} {b : Bool} (h : Rep K cl G x (.bl b)) : x = .bl b := by simpa only [Rep] using h
theorem Rep.of_int {x : V} {i : Int} (h : Rep K cl G x (.int i)) : x = .int i := by simpa only [Rep] using h
theorem Rep.of_str {x : V} {s : Str} (h : Rep K cl G x (.str s)) : x = .str s := by simpa only [Rep] using h
theorem Rep.of_tup {x : V} {ds : List D} (h : Rep K cl G x (.tup ds)) : ∃ a vs, x = .ref a ∧ SqT K G a vs ∧ Reps K cl G vs ds := by simpa only [Rep] using h
theorem Rep.of_lst {x : V} {ds : List D} (h : Rep K cl G x (.lst ds)) : ∃ a vs, x = .ref a ∧ SqL K G a vs ∧ Reps K cl G vs ds := by simpa only [Rep] using h
theorem Rep.of_ins {x : V} {c : Nat} {ns : List Str} {ds : List D} (h : Rep K cl G x (.ins c ns ds)) : ∃ a dx vs, x = .ref a ∧ G a = some (.ins (cl c) dx (ns.zip vs)) ∧ ns.length = vs.length ∧ Reps K cl G vs ds := by simpa only [Rep] using h
/-- None is told from all else -/
theorem Rep.isNon {x : V} {d : D} (h : Rep K cl G x d) : decide (x = .non) = d.isNon := by
  cases d with
  | non => rw [h.of_non]; rfl
  | bl b => rw [h.of_bl]; rfl
  | int i => rw [h.of_int]; rfl
  | str s => rw [h.of_str]; rfl
  | loc a => rw [h.of_loc]; rfl
  | dic ks ds => obtain ⟨a, kws, rfl, _⟩ := h.of_dic; rfl
  | lst ds => obtain ⟨a, vs, rfl, _⟩ := h.of_lst; rfl
  | tup ds => obtain ⟨a, vs, rfl, _⟩ := h.of_tup; rfl
  | ins c ns ds => obtain ⟨a, dx, vs, rfl, _⟩ := h.of_ins; rfl

/-! ### data that are compared -/
def D.py : D → PyData
  | .non => .none
  | .bl b => .bool b
  | .int i => .int i
  | .str s => .str s
  | .lst ds => .list (ds.map D.py)
  | .tup ds => .tuple (ds.map D.py)
  | .ins _ _ _ => .none
  | .loc _ => .none
  | .dic _ _ => .none
end
end Cp
/-! Cp2: what an expression evaluates to, as data: EvX p te σ G M d M' (p: nothing changes), EvT, EvA; what statements do: s_*. -/
namespace Cp
open PySem L2

abbrev ML := List (Addr × HO)
/-- (a, o) stands in M -/
inductive At : ML → Addr → HO → Prop where
  | hd {a : Addr} {o : HO} {M : ML} : At ((a, o) :: M) a o
  | tl {a : Addr} {o : HO} {e : Addr × HO} {M : ML} : At M a o → At (e :: M) a o
/-- the same with another object there -/
inductive Ch : ML → Addr → HO → HO → ML → Prop where
  | hd {a : Addr} {o o' : HO} {M : ML} : Ch ((a, o) :: M) a o o' ((a, o') :: M)
  | tl {a : Addr} {o o' : HO} {e : Addr × HO} {M M' : ML} : Ch M a o o' M' → Ch (e :: M) a o o' (e :: M')
theorem At.ix {M : ML} {a : Addr} {o : HO} (h : At M a o) : ∃ k : Nat, M[k]? = some (a, o) := by
  induction h with
  | hd => exact ⟨0, rfl⟩
  | tl _ ih =>
    obtain ⟨k, e⟩ := ih
    exact ⟨k + 1, by simpa using e⟩
theorem Ch.ix {M M' : ML} {a : Addr} {o o' : HO} (h : Ch M a o o' M') : ∃ k : Nat, M[k]? = some (a, o) ∧ M' = M.set k (a, o') := by
  induction h with
  | hd => exact ⟨0, rfl, rfl⟩
  | tl _ ih =>
    obtain ⟨k, e, r⟩ := ih
    exact ⟨k + 1, by simpa using e, by rw [r]; rfl⟩
theorem Ch.at {M M' : ML} {a : Addr} {o o' : HO} (h : Ch M a o o' M') : At M a o := by
  induction h with
  | hd => exact .hd
  | tl _ ih => exact .tl ih
theorem At.ch {M : ML} {a : Addr} {o : HO} (h : At M a o) (o' : HO) : ∃ M', Ch M a o o' M' := by
  induction h with
  | hd => exact ⟨_, .hd⟩
  | tl _ ih => obtain ⟨M', c⟩ := ih; exact ⟨_, .tl c⟩
theorem Sep.look {G H : Hp} {M : ML} {a : Addr} {o : HO} (S : Sep G H M) (h : At M a o) : H a = some o := by
  obtain ⟨k, e⟩ := h.ix
  exact S.at e
theorem Sep.ch {G H : Hp} {M M' : ML} {a : Addr} {o o' : HO} (S : Sep G H M) (h : Ch M a o o' M') : Sep G (upd H a o') M' := by
  obtain ⟨k, e, r⟩ := h.ix
  rw [r]
  exact S.set o' e

section
structure Go (p : Bool) (M M' : ML) (G1 H1 G2 H2 : Hp) : Prop where
  same : Same G1 G2
  sep : Sep G2 H2 M'
  eq : p = true → G2 = G1 ∧ H2 = H1 ∧ M' = M
variable (K : PySem.W.Frag) (cl : Nat → Addr)
def EvX (p : Bool) (te : TE) (σ : St) (G : Hp) (M : ML) (d : D) (M' : ML) : Prop :=
  ∀ G1 H1, Same G G1 → Sep G1 H1 M → ∀ Q : VK, (∀ v G2 H2, Go p M M' G1 H1 G2 H2 → Rep K cl G2 v d → Q v H2) → te σ H1 Q
def EvT (_K : PySem.W.Frag) (_cl : Nat → Addr) (p : Bool) (tt : TT) (σ : St) (G : Hp) (M : ML) (b : Bool) (M' : ML) : Prop :=
  ∀ G1 H1, Same G G1 → Sep G1 H1 M → ∀ Q : Bool → Hp → Prop, (∀ G2 H2, Go p M M' G1 H1 G2 H2 → Q b H2) → tt σ H1 Q
def EvA (p : Bool) (ta : TA) (σ : St) (G : Hp) (M : ML) (ds : List D) (M' : ML) : Prop :=
  ∀ G1 H1, Same G G1 → Sep G1 H1 M → ∀ Q : List V → Hp → Prop, (∀ vs G2 H2, Go p M M' G1 H1 G2 H2 → Reps K cl G2 vs ds → Q vs H2) → ta σ H1 Q
/-- with any word of what comes out -/
def EvG (te : TE) (σ : St) (G : Hp) (M : ML) (F : V → Hp → ML → Prop) : Prop :=
  ∀ G1 H1, Same G G1 → Sep G1 H1 M → ∀ Q : VK, (∀ v G2 H2 M2, Same G1 G2 → Sep G2 H2 M2 → F v G2 M2 → Q v H2) → te σ H1 Q
/-- an operation on two data (M as it is) -/
def Op2 (p : Bool) (r : R2) (M : ML) (x y z : D) : Prop :=
  ∀ G1 H1, Sep G1 H1 M → ∀ u v, Rep K cl G1 u x → Rep K cl G1 v y → ∀ Q : VK, (∀ w G2 H2, Go p M M G1 H1 G2 H2 → Rep K cl G2 w z → Q w H2) → r u v H1 Q
def Op1 (p : Bool) (r : V → Hp → VK → Prop) (M : ML) (x z : D) : Prop :=
  ∀ G1 H1, Sep G1 H1 M → ∀ u, Rep K cl G1 u x → ∀ Q : VK, (∀ w G2 H2, Go p M M G1 H1 G2 H2 → Rep K cl G2 w z → Q w H2) → r u H1 Q
def OpN (p : Bool) (r : List V → Hp → VK → Prop) (M : ML) (xs : List D) (z : D) (M' : ML) : Prop :=
  ∀ G1 H1, Sep G1 H1 M → ∀ us, Reps K cl G1 us xs → ∀ Q : VK, (∀ w G2 H2, Go p M M' G1 H1 G2 H2 → Rep K cl G2 w z → Q w H2) → r us H1 Q
end
section
variable {K : PySem.W.Frag} {cl : Nat → Addr} {p q r : Bool} {M M1 M2 M3 M4 : ML} {G G1 G2 G3 H H1 H2 H3 : Hp} {σ : St} {ta tb te : TE} {tx : TA} {tt tu : TT} {d d1 d2 d3 : D} {ds : List D}

theorem Go.refl (S : Sep G H M) : Go true M M G H G H := ⟨Same.refl _, S, fun _ => ⟨rfl, rfl, rfl⟩⟩
theorem Go.trans (a : Go p M1 M2 G1 H1 G2 H2) (b : Go q M2 M3 G2 H2 G3 H3) : Go (p && q) M1 M3 G1 H1 G3 H3 :=
  ⟨a.same.trans b.same, b.sep, fun h => by
    obtain ⟨h1, h2⟩ := Bool.and_eq_true_iff.mp h
    obtain ⟨rfl, rfl, rfl⟩ := a.eq h1
    exact b.eq h2⟩
theorem Go.weak (a : Go p M1 M2 G1 H1 G2 H2) : Go false M1 M2 G1 H1 G2 H2 := ⟨a.same, a.sep, fun h => nomatch h⟩
theorem Go.of (s : Same G1 G2) (S : Sep G2 H2 M2) : Go false M1 M2 G1 H1 G2 H2 := ⟨s, S, fun h => nomatch h⟩

/-! ### expressions -/
theorem ev_var {i : Nat} {v : V} (h : σ[i]? = some (some v)) (hr : Rep K cl G v d) : EvX K cl true (tVar i) σ G M d M := fun G1 H1 s S Q k => ⟨v, h, k v G1 H1 (Go.refl S) (hr.mono s)⟩
theorem ev_int {i : Int} : EvX K cl true (tC (.int i)) σ G M (.int i) M := fun G1 H1 s S Q k => k _ G1 H1 (Go.refl S) Rep.int
theorem ev_str {x : Str} : EvX K cl true (tC (.str x)) σ G M (.str x) M := fun G1 H1 s S Q k => k _ G1 H1 (Go.refl S) Rep.str
theorem ev_bl {b : Bool} : EvX K cl true (tC (.bl b)) σ G M (.bl b) M := fun G1 H1 s S Q k => k _ G1 H1 (Go.refl S) Rep.bl
theorem ev_non : EvX K cl true (tC .non) σ G M .non M := fun G1 H1 s S Q k => k _ G1 H1 (Go.refl S) Rep.non
theorem ev_ref {a : Addr} : EvX K cl true (tC (.ref a)) σ G M (.loc a) M := fun G1 H1 s S Q k => k _ G1 H1 (Go.refl S) Rep.loc
theorem ev_op {rr : R2} (ha : EvX K cl p ta σ G M d1 M1) (hb : EvX K cl q tb σ G M1 d2 M2) (ho : Op2 K cl r rr M2 d1 d2 d3) : EvX K cl (p && q && r) (tOp rr ta tb) σ G M d3 M2 := fun G1 H1 s S Q k =>
  ha G1 H1 s S _ fun x G2 H2 g2 rx => hb G2 H2 (s.trans g2.same) g2.sep _ fun y G3 H3 g3 ry => ho G3 H3 g3.sep x y (rx.mono g3.same) ry Q fun w G4 H4 g4 rw' => k w G4 H4 ((g2.trans g3).trans g4) rw'
theorem ev_un {rr : V → Hp → VK → Prop} (ha : EvX K cl p ta σ G M d1 M1) (ho : Op1 K cl r rr M1 d1 d2) : EvX K cl (p && r) (tUn rr ta) σ G M d2 M1 := fun G1 H1 s S Q k =>
  ha G1 H1 s S _ fun x G2 H2 g2 rx => ho G2 H2 g2.sep x rx Q fun w G4 H4 g4 rw' => k w G4 H4 (g2.trans g4) rw'
theorem ea_nil : EvA K cl true tNil σ G M [] M := fun G1 H1 s S Q k => k [] G1 H1 (Go.refl S) Reps.nil
theorem ea_cons {tr : TA} (ha : EvX K cl p ta σ G M d M1) (hr : EvA K cl q tr σ G M1 ds M2) : EvA K cl (p && q) (tCons ta tr) σ G M (d :: ds) M2 := fun G1 H1 s S Q k =>
  ha G1 H1 s S _ fun x G2 H2 g2 rx => hr G2 H2 (s.trans g2.same) g2.sep _ fun xs G3 H3 g3 rxs => k _ G3 H3 (g2.trans g3) (Reps.cons (rx.mono g3.same) rxs)
theorem ev_cb {rr : List V → Hp → VK → Prop} (ha : EvA K cl p tx σ G M ds M1) (ho : OpN K cl q rr M1 ds d M2) : EvX K cl (p && q) (tCB rr tx) σ G M d M2 := fun G1 H1 s S Q k =>
  ha G1 H1 s S _ fun xs G2 H2 g2 rx => ho G2 H2 g2.sep xs rx Q fun w G4 H4 g4 rw' => k w G4 H4 (g2.trans g4) rw'
/-- a field of frozen data -/
theorem zip_lookup {K : PySem.W.Frag} {cl : Nat → Addr} {G : Hp} {f : Str} {d : D} : ∀ {ns : List Str} {vs : List V} {ds : List D}, Reps K cl G vs ds → (ns.zip ds).lookup f = some d → ∃ v, (ns.zip vs).lookup f = some v ∧ Rep K cl G v d
  | [], vs, ds, _, h => by simp at h
  | n :: ns, vs, [], _, h => by simp at h
  | n :: ns, vs, c :: ds, r, h => by
    obtain ⟨v, ws, rfl, rv, rr⟩ := r.uncons
    rw [List.zip_cons_cons, List.lookup_cons] at h
    rw [List.zip_cons_cons, List.lookup_cons]
    by_cases e : (f == n) = true
    · rw [e] at h ⊢
      cases h
      exact ⟨v, rfl, rv⟩
    · have e' : (f == n) = false := by simpa using e
      rw [e'] at h ⊢
      exact zip_lookup rr h
theorem ev_fld {c : Nat} {ns : List Str} {f : Str} (ha : EvX K cl p ta σ G M (.ins c ns ds) M1) (hc : Cls K (cl c)) (hn : NoAttr K (cl c) f) (hl : (ns.zip ds).lookup f = some d) : EvX K cl p (tFld K ta f) σ G M d M1 := fun G1 H1 s S Q k =>
  ha G1 H1 s S _ fun x G2 H2 g2 rx => by
    obtain ⟨a, dx, vs, e, ea, l, rs⟩ := rx.of_ins
    obtain ⟨v, lv, rv⟩ := zip_lookup rs hl
    exact ⟨a, cl c, dx, _, v, e, g2.sep.sub _ _ ea, hc, hn, lv, k v G2 H2 g2 rv⟩
/-- a field of an owned instance -/
theorem ev_fldM {a C dx : Addr} {fs : List (Str × V)} {f : Str} {v : V} (ha : EvX K cl p ta σ G M (.loc a) M1) (hm : At M1 a (.ins C dx fs)) (hc : Cls K C) (hn : NoAttr K C f) (hl : fs.lookup f = some v) (hv : Rep K cl G v d) : EvX K cl p (tFld K ta f) σ G M d M1 := fun G1 H1 s S Q k =>
  ha G1 H1 s S _ fun x G2 H2 g2 rx => ⟨a, C, dx, fs, v, rx.of_loc, g2.sep.look hm, hc, hn, hl, k v G2 H2 g2 (hv.mono (s.trans g2.same))⟩
/-- a tuple; a list that is never changed -/
theorem ev_tup (ha : EvA K cl p tx σ G M ds M1) (hl : ds.length ≤ 100000) : EvX K cl false (tTup tx) σ G M (.tup ds) M1 := fun G1 H1 s S Q k =>
  ha G1 H1 s S _ fun xs G2 H2 g2 rx => ⟨by rw [rx.length]; exact Nat.le_trans hl (by decide), fun u hu => by
    have n := g2.sep.freshG hu
    have S' := g2.sep.newG (o := .tup xs) hu
    exact k (.ref u) _ _ (Go.of (g2.same.trans (Same.upd n)) S') (Rep.tup (.inl (.inl upd_same)) (rx.mono (Same.upd n)))⟩
theorem ev_lst (ha : EvA K cl p tx σ G M ds M1) (hl : ds.length ≤ 100000) : EvX K cl false (tLst tx) σ G M (.lst ds) M1 := fun G1 H1 s S Q k =>
  ha G1 H1 s S _ fun xs G2 H2 g2 rx => ⟨by rw [rx.length]; exact Nat.le_trans hl (by decide), fun u hu => by
    have n := g2.sep.freshG hu
    have S' := g2.sep.newG (o := .lst xs) hu
    exact k (.ref u) _ _ (Go.of (g2.same.trans (Same.upd n)) S') (Rep.lst (.inl (.inl upd_same)) (rx.mono (Same.upd n)))⟩
/-- a new list that is owned -/
theorem eg_lst {F : V → Hp → ML → Prop} (ha : EvA K cl p tx σ G M ds M1) (hl : ds.length ≤ 100000) (hF : ∀ u vs G', Same G G' → Reps K cl G' vs ds → F (.ref u) G' ((u, .lst vs) :: M1)) : EvG (tLst tx) σ G M F := fun G1 H1 s S Q k =>
  ha G1 H1 s S _ fun xs G2 H2 g2 rx => ⟨by rw [rx.length]; exact Nat.le_trans hl (by decide), fun u hu =>
    k (.ref u) G2 _ _ g2.same (g2.sep.newM hu) (hF u xs G2 (s.trans g2.same) rx)⟩
theorem EvX.g {F : V → Hp → ML → Prop} (h : EvX K cl p te σ G M d M1) (hF : ∀ v G', Same G G' → Rep K cl G' v d → F v G' M1) : EvG te σ G M F := fun G1 H1 s S Q k =>
  h G1 H1 s S Q fun v G2 H2 g2 rv => k v G2 H2 M1 g2.same g2.sep (hF v G2 (s.trans g2.same) rv)
theorem EvX.mono (s : Same G G1) (h : EvX K cl p te σ G M d M1) : EvX K cl p te σ G1 M d M1 := fun G2 H2 s2 S Q k => h G2 H2 (s.trans s2) S Q k
theorem EvX.is {e : D} (h : EvX K cl p te σ G M d M1) (hd : d = e) : EvX K cl p te σ G M e M1 := hd ▸ h
theorem EvT.is {b c : Bool} (h : EvT K cl p tt σ G M b M1) (hd : b = c) : EvT K cl p tt σ G M c M1 := hd ▸ h

/-! ### tests -/
theorem et_test {b : Bool} (h : EvX K cl p te σ G M (.bl b) M1) : EvT K cl p (tTest te) σ G M b M1 := fun G1 H1 s S Q k => h G1 H1 s S _ fun x G2 H2 g2 rx => ⟨b, rx.of_bl, k G2 H2 g2⟩
theorem et_B {b : Bool} (h : EvX K cl p te σ G M (.bl b) M1) : EvT K cl p (tB te) σ G M b M1 := fun G1 H1 s S Q k => h G1 H1 s S _ fun x G2 H2 g2 rx => ⟨b, rx.of_bl, k G2 H2 g2⟩
theorem et_not {b : Bool} (h : EvT K cl p tt σ G M b M1) : EvT K cl p (tNot tt) σ G M (!b) M1 := fun G1 H1 s S Q k => h G1 H1 s S _ fun G2 H2 g2 => k G2 H2 g2
theorem et_and {a b : Bool} (h1 : EvT K cl p tt σ G M a M) (h2 : a = true → EvT K cl q tu σ G M b M) : EvT K cl (p && q) (tAnd tt tu) σ G M (a && b) M := fun G1 H1 s S Q k => h1 G1 H1 s S _ fun G2 H2 g2 => by
  cases a with
  | true =>
    show tu σ H2 Q
    exact h2 rfl G2 H2 (s.trans g2.same) g2.sep Q fun G3 H3 g3 => k G3 H3 (g2.trans g3)
  | false =>
    show Q false H2
    exact k G2 H2 ⟨g2.same, g2.sep, fun h => g2.eq (Bool.and_eq_true_iff.mp h).1⟩
theorem et_or {a b : Bool} (h1 : EvT K cl p tt σ G M a M) (h2 : a = false → EvT K cl q tu σ G M b M) : EvT K cl (p && q) (tOr tt tu) σ G M (a || b) M := fun G1 H1 s S Q k => h1 G1 H1 s S _ fun G2 H2 g2 => by
  cases a with
  | false =>
    show tu σ H2 Q
    exact h2 rfl G2 H2 (s.trans g2.same) g2.sep Q fun G3 H3 g3 => k G3 H3 (g2.trans g3)
  | true =>
    show Q true H2
    exact k G2 H2 ⟨g2.same, g2.sep, fun h => g2.eq (Bool.and_eq_true_iff.mp h).1⟩
theorem ev_andV {a b : Bool} (h1 : EvX K cl p ta σ G M (.bl a) M) (h2 : a = true → EvX K cl q tb σ G M (.bl b) M) : EvX K cl (p && q) (tAndV ta tb) σ G M (.bl (a && b)) M := fun G1 H1 s S Q k => h1 G1 H1 s S _ fun x G2 H2 g2 rx => ⟨a, rx.of_bl, by
  cases a with
  | true =>
    show tb σ H2 Q
    exact h2 rfl G2 H2 (s.trans g2.same) g2.sep Q fun v G3 H3 g3 rv => k v G3 H3 (g2.trans g3) rv
  | false =>
    show Q (.bl false) H2
    exact k _ G2 H2 ⟨g2.same, g2.sep, fun h => g2.eq (Bool.and_eq_true_iff.mp h).1⟩ Rep.bl⟩
theorem ev_orV {a b : Bool} (h1 : EvX K cl p ta σ G M (.bl a) M) (h2 : a = false → EvX K cl q tb σ G M (.bl b) M) : EvX K cl (p && q) (tOrV ta tb) σ G M (.bl (a || b)) M := fun G1 H1 s S Q k => h1 G1 H1 s S _ fun x G2 H2 g2 rx => ⟨a, rx.of_bl, by
  cases a with
  | false =>
    show tb σ H2 Q
    exact h2 rfl G2 H2 (s.trans g2.same) g2.sep Q fun v G3 H3 g3 rv => k v G3 H3 (g2.trans g3) rv
  | true =>
    show Q (.bl true) H2
    exact k _ G2 H2 ⟨g2.same, g2.sep, fun h => g2.eq (Bool.and_eq_true_iff.mp h).1⟩ Rep.bl⟩
theorem ev_notV {a : Bool} (h1 : EvX K cl p ta σ G M (.bl a) M1) : EvX K cl p (tNotV ta) σ G M (.bl (!a)) M1 := fun G1 H1 s S Q k => h1 G1 H1 s S _ fun x G2 H2 g2 rx => ⟨a, rx.of_bl, k _ G2 H2 g2 Rep.bl⟩
theorem ev_if {b : Bool} (h : EvT K cl p tt σ G M b M1) (h1 : b = true → EvX K cl q ta σ G M1 d1 M2) (h2 : b = false → EvX K cl q tb σ G M1 d2 M2) : EvX K cl (p && q) (tIf tt ta tb) σ G M (if b then d1 else d2) M2 := fun G1 H1 s S Q k => h G1 H1 s S _ fun G2 H2 g2 => by
  cases b with
  | true =>
    show ta σ H2 Q
    exact h1 rfl G2 H2 (s.trans g2.same) g2.sep Q fun v G3 H3 g3 rv => k v G3 H3 (g2.trans g3) rv
  | false =>
    show tb σ H2 Q
    exact h2 rfl G2 H2 (s.trans g2.same) g2.sep Q fun v G3 H3 g3 rv => k v G3 H3 (g2.trans g3) rv

/-! ### operations -/
theorem op2_val {rr : R2} {x y z : D} (h : ∀ G1 H1, Sep G1 H1 M → ∀ u v, Rep K cl G1 u x → Rep K cl G1 v y → ∃ w, Rep K cl G1 w z ∧ ∀ Q : VK, Q w H1 → rr u v H1 Q) : Op2 K cl true rr M x y z := fun G1 H1 S u v ru rv Q k => by
  obtain ⟨w, rw', hw⟩ := h G1 H1 S u v ru rv
  exact hw Q (k w G1 H1 (Go.refl S) rw')
theorem o_I0 {g : Int → Int → V} {i j : Int} {z : D} (hz : ∀ G, Rep K cl G (g i j) z) : Op2 K cl true (rI0 g) M (.int i) (.int j) z := op2_val fun G1 H1 S u v ru rv => ⟨g i j, hz G1, fun Q q => ⟨i, j, ru.of_int, rv.of_int, q⟩⟩
theorem o_I {C : Int → Int → Prop} {g : Int → Int → V} {i j : Int} {z : D} (hz : ∀ G, Rep K cl G (g i j) z) (hc : C i j) : Op2 K cl true (rI C g) M (.int i) (.int j) z := op2_val fun G1 H1 S u v ru rv => ⟨g i j, hz G1, fun Q q => ⟨i, j, ru.of_int, rv.of_int, hc, q⟩⟩
theorem o1_U {g : Int → V} {i : Int} {z : D} (hz : ∀ G, Rep K cl G (g i) z) : Op1 K cl true (rU g) M (.int i) z := fun G1 H1 S u ru Q k => ⟨i, ru.of_int, k _ G1 H1 (Go.refl S) (hz G1)⟩
/-- one of two rules -/
def orR (a b : R2) : R2 := fun x y H Q => a x y H Q ∨ b x y H Q
theorem o_l {a b : R2} {x y z : D} (h : Op2 K cl p a M x y z) : Op2 K cl p (orR a b) M x y z := fun G1 H1 S u v ru rv Q k => .inl (h G1 H1 S u v ru rv Q k)
theorem o_r {a b : R2} {x y z : D} (h : Op2 K cl p b M x y z) : Op2 K cl p (orR a b) M x y z := fun G1 H1 S u v ru rv Q k => .inr (h G1 H1 S u v ru rv Q k)
theorem op_or {X : Cx} {f : Value → Value → Sem Value} {a b : R2} (h1 : OpR X f a) (h2 : OpR X f b) : OpR X f (orR a b) := fun pins s σ H x y u v Q I rx ry h => h.elim (h1 pins s σ H x y u v Q I rx ry) (h2 pins s σ H x y u v Q I rx ry)

abbrev rAddI : R2 := rI0 fun i j => .int (i + j)
abbrev rAddS : R2 := fun x y H Q => ∃ i j, x = .str i ∧ y = .str j ∧ i.length + j.length ≤ sizeLine ∧ Q (.str (i ++ j)) H
/-- list + list, wherever they stand -/
def rCatA (K : PySem.W.Frag) : R2 := fun x y H Q => ∃ a b xs ys, x = .ref a ∧ y = .ref b ∧ SqL K H a xs ∧ SqL K H b ys ∧ xs.length + ys.length ≤ sizeLine ∧ ∀ l, H l = none → Q (.ref l) (upd H l (.lst (xs ++ ys)))
theorem op_catA {X : Cx} : OpR X (binaryOp .Add) (rCatA X.K) := by
  rintro pins s σ H x y v u Q I rx ry ⟨a, b, xs, ys, rfl, rfl, sa, sb, hz, q⟩
  cases rx
  cases ry
  obtain ⟨is1, r1, ⟨⟨c1, dd1, dt1, sl1⟩, n1, e1, k1, _, t1⟩, z1⟩ := I.list sa
  obtain ⟨is2, r2, ⟨⟨c2, dd2, dt2, sl2⟩, n2, e2, k2, _, t2⟩, z2⟩ := I.list sb
  simp only at k1 t1 k2 t2
  subst k1 t1 k2 t2
  have l1 := r1.length
  have l2 := r2.length
  refine PySem.concat_meets ⟨_, e1, rfl⟩ ⟨_, e2, rfl⟩ PySem.noFill_list_add PySem.seq_list_add PySem.F.slot_list_add PySem.F.entry_list_add (PySem.F.args_list_add_2 _ _) (PyProof.Rows.list_addW a b is1.toArray is2.toArray n1 n2 dd1 dd2 sl1 sl2 (by simp only [List.size_toArray]; omega)) ⟨e1, e2, ?_⟩
  have ee : is1.toArray ++ is2.toArray = (is1 ++ is2).toArray := by simp
  rw [ee]
  exact ⟨.ref _, _, I.lnew (t' := s.toks) (r1.append r2) (by rw [List.length_append]; exact hz), rfl, q _ I.fresh⟩
/-- a + b -/
def rAdd (K : PySem.W.Frag) : R2 := orR rAddI (orR rAddS (orR (rCatA K) (rCatT K)))
theorem op_addA {X : Cx} : OpR X (binaryOp .Add) (rAdd X.K) := op_or op_add (op_or op_add_str (op_or op_catA op_catT))
theorem o_catL {xs ys : List D} (h : xs.length + ys.length ≤ 100000) : Op2 K cl false (rAdd K) M (.lst xs) (.lst ys) (.lst (xs ++ ys)) := fun G1 H1 S u v ru rv Q k => by
  obtain ⟨a, us, rfl, sa, ra⟩ := ru.of_lst
  obtain ⟨b, vs, rfl, sb, rb⟩ := rv.of_lst
  refine .inr (.inr (.inl ⟨a, b, us, vs, rfl, rfl, S.sub.seq sa, S.sub.seq sb, ?_, fun l hl => ?_⟩))
  · rw [ra.length, rb.length]
    exact Nat.le_trans h (by decide)
  · have n := S.freshG hl
    exact k _ _ _ (Go.of (Same.upd n) (S.newG hl)) (Rep.lst (.inl (.inl upd_same)) ((ra.append rb).mono (Same.upd n)))
theorem o_add_int {i j : Int} : Op2 K cl true (rAdd K) M (.int i) (.int j) (.int (i + j)) := o_l (o_I0 fun _ => Rep.int)
theorem o_add_str {x y : Str} (h : x.length + y.length ≤ 100000) : Op2 K cl true (rAdd K) M (.str x) (.str y) (.str (x ++ y)) := o_r (o_l (op2_val fun G1 H1 S u v ru rv => ⟨_, Rep.str, fun Q q => ⟨x, y, ru.of_str, rv.of_str, Nat.le_trans h (by decide), q⟩⟩))
abbrev rSubI : R2 := rI0 fun i j => .int (i - j)
abbrev rMulI : R2 := rI CMul fun i j => .int (i * j)
abbrev rDivI : R2 := rI CDiv fun i j => .int (i / j)
abbrev rModI : R2 := rI (fun _ j => 0 < j) fun i j => .int (i % j)
abbrev rLtI : R2 := rI0 fun i j => .bl (decide (i < j))
abbrev rLeI : R2 := rI0 fun i j => .bl (decide (i ≤ j))
abbrev rGtI : R2 := rI0 fun i j => .bl (decide (j < i))
abbrev rGeI : R2 := rI0 fun i j => .bl (decide (j ≤ i))
abbrev rNegI : V → Hp → VK → Prop := rU fun i => .int (-i)
theorem o1_neg {i : Int} : Op1 K cl true rNegI M (.int i) (.int (-i)) := o1_U fun _ => Rep.int
theorem o_sub {i j : Int} : Op2 K cl true rSubI M (.int i) (.int j) (.int (i - j)) := o_I0 fun _ => Rep.int
theorem o_mul {i j : Int} (h : CMul i j) : Op2 K cl true rMulI M (.int i) (.int j) (.int (i * j)) := o_I (fun _ => Rep.int) h
theorem o_div {i j : Int} (h : CDiv i j) : Op2 K cl true rDivI M (.int i) (.int j) (.int (i / j)) := o_I (fun _ => Rep.int) h
theorem o_mod {i j : Int} (h : 0 < j) : Op2 K cl true rModI M (.int i) (.int j) (.int (i % j)) := o_I (fun _ => Rep.int) h
theorem o_lt {i j : Int} : Op2 K cl true rLtI M (.int i) (.int j) (.bl (decide (i < j))) := o_I0 fun _ => Rep.bl
theorem o_le {i j : Int} : Op2 K cl true rLeI M (.int i) (.int j) (.bl (decide (i ≤ j))) := o_I0 fun _ => Rep.bl
theorem o_gt {i j : Int} : Op2 K cl true rGtI M (.int i) (.int j) (.bl (decide (j < i))) := o_I0 fun _ => Rep.bl
theorem o_ge {i j : Int} : Op2 K cl true rGeI M (.int i) (.int j) (.bl (decide (j ≤ i))) := o_I0 fun _ => Rep.bl
abbrev rIsN : R2 := fun x y H Q => y = .non ∧ Q (.bl (decide (x = .non))) H
abbrev rNotN : R2 := fun x y H Q => y = .non ∧ Q (.bl (!decide (x = .non))) H
theorem o_isN {x : D} : Op2 K cl true rIsN M x .non (.bl x.isNon) := op2_val fun G1 H1 S u v ru rv => ⟨_, Rep.bl, fun Q q => ⟨rv.of_non, by rw [ru.isNon]; exact q⟩⟩
theorem o_notN {x : D} : Op2 K cl true rNotN M x .non (.bl (!x.isNon)) := op2_val fun G1 H1 S u v ru rv => ⟨_, Rep.bl, fun Q q => ⟨rv.of_non, by rw [ru.isNon]; exact q⟩⟩
/-! #### == of scalars -/
def D.scal : D → D → Option Bool
  | .int i, .int j => some (decide (i = j))
  | .str i, .str j => some (decide (i = j))
  | .bl i, .bl j => some (decide (i = j))
  | _, _ => none
theorem scal_rep {G : Hp} {x y : D} {u v : V} {b : Bool} (h : D.scal x y = some b) (ru : Rep K cl G u x) (rv : Rep K cl G v y) : scal u v = true ∧ decide (u = v) = b := by
  cases x <;> cases y <;> first | (simp [D.scal] at h; done) | skip
  · rw [ru.of_bl, rv.of_bl]; refine ⟨rfl, ?_⟩; have := Option.some.inj h; rw [← this]; simp
  · rw [ru.of_int, rv.of_int]; refine ⟨rfl, ?_⟩; have := Option.some.inj h; rw [← this]; simp
  · rw [ru.of_str, rv.of_str]; refine ⟨rfl, ?_⟩; have := Option.some.inj h; rw [← this]; simp
/-- a == b, a != b -/
def rEqA (K : PySem.W.Frag) : R2 := orR rEq (rEqD K)
def rNeA (K : PySem.W.Frag) : R2 := orR rNe (rNeD K)
theorem op_eqA {X : Cx} (hu : X.A.units + 64 < cLine) : OpR X (compareOp .Eq) (rEqA X.K) := op_or op_eq (op_eqD hu)
theorem op_neA {X : Cx} (hu : X.A.units + 64 < cLine) : OpR X (compareOp .NotEq) (rNeA X.K) := op_or op_ne (op_neD hu)
theorem o_eq {x y : D} {b : Bool} (h : D.scal x y = some b) : Op2 K cl true (rEqA K) M x y (.bl b) := o_l (op2_val fun G1 H1 S u v ru rv => ⟨_, Rep.bl, fun Q q => by
  obtain ⟨h1, h2⟩ := scal_rep h ru rv
  exact ⟨h1, by rw [h2]; exact q⟩⟩)
theorem o_ne {x y : D} {b : Bool} (h : D.scal x y = some b) : Op2 K cl true (rNeA K) M x y (.bl (!b)) := o_l (op2_val fun G1 H1 S u v ru rv => ⟨_, Rep.bl, fun Q q => by
  obtain ⟨h1, h2⟩ := scal_rep h ru rv
  exact ⟨h1, by rw [h2]; exact q⟩⟩)
/-! #### items -/
theorem Reps.atI {G : Hp} {vs : List V} {ds : List D} {i : Int} {d : D} (r : Reps K cl G vs ds) (h : atI ds i = some d) : ∃ v, atI vs i = some v ∧ Rep K cl G v d := by
  obtain ⟨j, h1, h2, h3, h4, h5⟩ := atI_get h
  obtain ⟨v, hv, rv⟩ := r.getD h2
  refine ⟨v, ?_, rv⟩
  unfold L2.atI at h ⊢
  rw [r.length]
  cases e : ixN ds.length i with
  | none => rw [e] at h; cases h
  | some k =>
    obtain ⟨e1, _⟩ := ixN_seq e
    rw [h1] at e1
    cases e1
    exact hv
theorem o_ixT {i : Int} (h : atI ds i = some d) : Op2 K cl true (rIx K) M (.tup ds) (.int i) d := op2_val fun G1 H1 S u v ru rv => by
  obtain ⟨a, vs, e, sq, rs⟩ := ru.of_tup
  obtain ⟨w, hw, rw'⟩ := rs.atI h
  exact ⟨w, rw', fun Q q => .inr (.inl ⟨a, vs, i, w, e, rv.of_int, Same.seqT S.sub sq, hw, q⟩)⟩
theorem o_ixL {i : Int} (h : atI ds i = some d) : Op2 K cl true (rIx K) M (.lst ds) (.int i) d := op2_val fun G1 H1 S u v ru rv => by
  obtain ⟨a, vs, e, sq, rs⟩ := ru.of_lst
  obtain ⟨w, hw, rw'⟩ := rs.atI h
  exact ⟨w, rw', fun Q q => .inl ⟨a, vs, i, w, e, rv.of_int, S.sub.seq sq, hw, q⟩⟩
end
end Cp
/-! Cp3: calls of defs and built-ins as data; statements. -/
namespace Cp
open PySem L2

section
variable (K : PySem.W.Frag) (cl : Nat → Addr)
/-- a def that changes nothing: from data to a datum -/
def PSp (R : List D → D → Prop) : Sp := fun vs H Q _ => ∃ ds d G M, R ds d ∧ Sep G H M ∧ Reps K cl G vs ds ∧ ∀ v G' H', Same G G' → Sep G' H' M → Rep K cl G' v d → Q v H'
/-- any def: a word over the frozen part and the owned part -/
def GSp (R : List V → Hp → ML → (V → Hp → ML → Prop) → Prop) : Sp := fun vs H Q _ => ∃ G M, Sep G H M ∧ R vs G M fun v G' M' => Same G G' → ∀ H', Sep G' H' M' → Q v H'
/-- an __init__ that stores data: the fields' names, from the arguments to the fields -/
def ISp (c : Nat) (ns : List Str) (R : List D → List D → Prop) : Sp := fun vs H Q _ => ∃ x dx us ds es G M, vs = .ref x :: us ∧ R ds es ∧ Sep G H ((x, .ins (cl c) dx (List.zip [] [])) :: M) ∧ Reps K cl G us ds ∧
  ∀ ws G' H', Same G G' → Sep G' H' ((x, .ins (cl c) dx (ns.zip ws)) :: M) → ns.length = ws.length → Reps K cl G' ws es → Q .non H'
end
section
variable {K : PySem.W.Frag} {cl : Nat → Addr} {p q r : Bool} {M M1 M2 M3 M4 : ML} {G G1 G2 G3 H H1 H2 H3 : Hp} {σ : St} {ta tb te : TE} {tx : TA} {tt tu : TT} {d d1 d2 d3 : D} {ds es : List D}

theorem ev_call {R : List D → D → Prop} {E : XK} (ha : EvA K cl p tx σ G M ds M1) (hR : R ds d) : EvX K cl false (tCall (PSp K cl R) [] E tx) σ G M d M1 := fun G1 H1 s S Q k =>
  ha G1 H1 s S _ fun xs G2 H2 g2 rx => ⟨ds, d, G2, M1, hR, g2.sep, by rw [List.append_nil]; exact rx, fun v G' H' s' S' rv => k v G' H' (Go.of (g2.same.trans s') S') rv⟩
theorem zip_none {ns : List Str} {f : Str} : ∀ {vs : List V}, ns.contains f = false → (ns.zip vs).lookup f = none := by
  induction ns with
  | nil => intro vs _; rfl
  | cons n ns ih =>
    intro vs h
    cases vs with
    | nil => rfl
    | cons v vs =>
      rw [List.contains_cons, Bool.or_eq_false_iff] at h
      rw [List.zip_cons_cons, List.lookup_cons, h.1]
      exact ih h.2
theorem ev_meth {R : List D → D → Prop} {E : XK} {c : Nat} {m : Str} {ns : List Str} {fs : List D} (he : EvX K cl p ta σ G M (.ins c ns fs) M1) (ha : EvA K cl q tx σ G M1 ds M2) (hm : ns.contains m = false) (hR : R (.ins c ns fs :: ds) d) :
    EvX K cl false (tMeth (cl c) m (PSp K cl R) [] E ta tx) σ G M d M2 := fun G1 H1 s S Q k =>
  he G1 H1 s S _ fun x G2 H2 g2 rx => by
    obtain ⟨a, dx, vs, e, ea, l, rs⟩ := rx.of_ins
    exact ⟨a, dx, _, e, g2.sep.sub _ _ ea, zip_none hm, ha G2 H2 (s.trans g2.same) g2.sep _ fun xs G3 H3 g3 rxs =>
      ⟨_, d, G3, M2, hR, g3.sep, by rw [List.append_nil]; exact Reps.cons (rx.mono g3.same) rxs, fun v G' H' s' S' rv => k v G' H' (Go.of ((g2.same.trans g3.same).trans s') S') rv⟩⟩
theorem ev_make {R : List D → List D → Prop} {E : XK} {c : Nat} {ns : List Str} (ha : EvA K cl p tx σ G M ds M1) (hR : R ds es) : EvX K cl false (tMake (cl c) (ISp K cl c ns R) [] E tx) σ G M (.ins c ns es) M1 := fun G1 H1 s S Q k =>
  ha G1 H1 s S _ fun xs G2 H2 g2 rx => fun x dx nx ndx ne => by
    have nxG := g2.sep.freshG nx
    have ndG := g2.sep.freshG ndx
    have S1 : Sep (upd G2 dx (.own x)) (upd H2 dx (.own x)) M1 := g2.sep.newG ndx
    have nx' : upd H2 dx (.own x) x = none := by rw [upd_ne ne.symm]; exact nx
    have S2 := S1.newM (o := .ins (cl c) dx []) nx'
    refine ⟨x, dx, xs, ds, es, _, M1, by rw [List.append_nil], hR, S2, rx.mono (Same.upd ndG), fun ws G' H' s' S' hl rs => ⟨rfl, ?_⟩⟩
    obtain ⟨S3, s3⟩ := S'.freeze
    exact k (.ref x) _ H' (Go.of (((g2.same.trans (Same.upd ndG)).trans s').trans s3) S3) (Rep.ins upd_same hl (rs.mono s3))
/-- the new instance is owned -/
theorem eg_make {R : List D → List D → Prop} {E : XK} {c : Nat} {ns : List Str} {F : V → Hp → ML → Prop} (ha : EvA K cl p tx σ G M ds M1) (hR : R ds es)
    (hF : ∀ x dx ws G', Same G G' → ns.length = ws.length → Reps K cl G' ws es → F (.ref x) G' ((x, .ins (cl c) dx (ns.zip ws)) :: M1)) : EvG (tMake (cl c) (ISp K cl c ns R) [] E tx) σ G M F := fun G1 H1 s S Q k =>
  ha G1 H1 s S _ fun xs G2 H2 g2 rx => fun x dx nx ndx ne => by
    have ndG := g2.sep.freshG ndx
    have S1 : Sep (upd G2 dx (.own x)) (upd H2 dx (.own x)) M1 := g2.sep.newG ndx
    have nx' : upd H2 dx (.own x) x = none := by rw [upd_ne ne.symm]; exact nx
    have S2 := S1.newM (o := .ins (cl c) dx []) nx'
    refine ⟨x, dx, xs, ds, es, _, M1, by rw [List.append_nil], hR, S2, rx.mono (Same.upd ndG), fun ws G' H' s' S' hl rs => ⟨rfl, ?_⟩⟩
    have s1 := (g2.same.trans (Same.upd ndG)).trans s'
    exact k (.ref x) G' H' _ s1 S' (hF x dx ws G' (s.trans s1) hl rs)
/-- a def of the general kind -/
theorem eg_call {R : List V → Hp → ML → (V → Hp → ML → Prop) → Prop} {E : XK} {F : V → Hp → ML → Prop} (ha : EvA K cl p tx σ G M ds M1)
    (hR : ∀ vs G' (T : V → Hp → ML → Prop), Same G G' → Reps K cl G' vs ds → (∀ v G'' M'', Same G' G'' → F v G'' M'' → T v G'' M'') → R vs G' M1 T) : EvG (tCall (GSp R) [] E tx) σ G M F := fun G1 H1 s S Q k =>
  ha G1 H1 s S _ fun xs G2 H2 g2 rx => ⟨G2, M1, g2.sep, by
    rw [List.append_nil]
    refine hR xs G2 _ (s.trans g2.same) rx fun v G'' M'' s'' hF sm H' S' => k v G'' H' M'' (g2.same.trans sm) S' hF⟩
/-- .. whose answer is a datum, and M' known ahead -/
theorem ev_callG {R : List V → Hp → ML → (V → Hp → ML → Prop) → Prop} {E : XK} (ha : EvA K cl p tx σ G M ds M1)
    (hR : ∀ vs G' (T : V → Hp → ML → Prop), Same G G' → Reps K cl G' vs ds → (∀ v G'', Same G' G'' → Rep K cl G'' v d → T v G'' M2) → R vs G' M1 T) : EvX K cl false (tCall (GSp R) [] E tx) σ G M d M2 := fun G1 H1 s S Q k =>
  ha G1 H1 s S _ fun xs G2 H2 g2 rx => ⟨G2, M1, g2.sep, by
    rw [List.append_nil]
    exact hR xs G2 _ (s.trans g2.same) rx fun v G'' s'' rv sm H' S' => k v G'' H' (Go.of (g2.same.trans s'') S') rv⟩

theorem num_len {n : Int} (h0 : 0 ≤ n) (h : n < 10000000000) : (Str.ofString (toString n)).length ≤ 10 := PyProof.Rows.toString_length_le h0 (by decide) (by omega)
theorem num_log {n : Int} (h0 : 0 ≤ n) (h : n < 10000000000) : n.natAbs.log2 < 1920 := by
  have : n.natAbs < 2 ^ 1920 := Nat.lt_of_lt_of_le (show n.natAbs < 2 ^ 40 by omega) (Nat.pow_le_pow_right (by decide) (by decide))
  by_cases e : n.natAbs = 0
  · rw [e]; decide
  · exact (Nat.log2_lt e).mpr this
theorem app_len {x y : Str} {a b c : Nat} (hx : x.length ≤ a) (hy : y.length ≤ b) (h : a + b ≤ c) : (x ++ y).length ≤ c := by
  rw [PySem.Str.length_append]
  omega
theorem Ch.perm {a : Addr} {o o' : HO} (h : Ch M a o o' M1) : ∃ M0, M.Perm ((a, o) :: M0) ∧ M1.Perm ((a, o') :: M0) := by
  induction h with
  | hd => exact ⟨_, List.Perm.refl _, List.Perm.refl _⟩
  | @tl a o o' e M M' _ ih =>
    obtain ⟨M0, p1, p2⟩ := ih
    exact ⟨e :: M0, (p1.cons e).trans (List.Perm.swap (a, o) e M0), (p2.cons e).trans (List.Perm.swap (a, o') e M0)⟩
/-- the k-th place of a change, over one arrangement -/
theorem Ch.perm_to {a : Addr} {o o' : HO} {M0 : ML} (h : Ch M a o o' M1) (p : M.Perm ((a, o) :: M0)) : M1.Perm ((a, o') :: M0) := by
  obtain ⟨M9, p1, p2⟩ := h.perm
  have : ((a, o) :: M9).Perm ((a, o) :: M0) := p1.symm.trans p
  exact p2.trans ((List.perm_cons (a, o)).mp this |>.cons _)
theorem ev_ixM {a : Addr} {vs : List V} {i : Int} {v : V} (ha : EvX K cl p ta σ G M (.loc a) M1) (hb : EvX K cl q tb σ G M1 (.int i) M2) (hm : At M2 a (.lst vs)) (hi : atI vs i = some v) (hv : Rep K cl G v d) : EvX K cl (p && q) (tOp (rIx K) ta tb) σ G M d M2 := fun G1 H1 s S Q k =>
  ha G1 H1 s S _ fun x G2 H2 g2 rx => hb G2 H2 (s.trans g2.same) g2.sep _ fun y G3 H3 g3 ry => .inl ⟨a, vs, i, v, rx.of_loc, ry.of_int, .inl (.inl (g3.sep.look hm)), hi, k v G3 H3 (g2.trans g3) (hv.mono ((s.trans g2.same).trans g3.same))⟩
theorem atI_getD {α : Type} {xs : List α} {i : Int} (x : α) (h0 : 0 ≤ i) (h1 : i < xs.length) : atI xs i = some (xs.getD i.toNat x) := by
  obtain ⟨n, rfl⟩ := Int.eq_ofNat_of_zero_le h0
  have hn : n < xs.length := by omega
  rw [atI_nat (j := n) (v := xs[n]) (by simp [hn])]
  simp [hn]
theorem eg_nil : EvG (tLst tNil) σ G M fun v G' M' => ∃ u, v = .ref u ∧ M' = (u, .lst []) :: M := fun G1 H1 s S Q k =>
  ⟨Nat.zero_le _, fun u hu => k (.ref u) G1 _ _ (Same.refl _) (S.newM hu) ⟨u, rfl, rfl⟩⟩
/-! ### built-ins -/
theorem on_val {rr : List V → Hp → VK → Prop} {xs : List D} {z : D} (h : ∀ G1 H1, Sep G1 H1 M → ∀ us, Reps K cl G1 us xs → ∃ w, Rep K cl G1 w z ∧ ∀ Q : VK, Q w H1 → rr us H1 Q) : OpN K cl true rr M xs z M := fun G1 H1 S us ru Q k => by
  obtain ⟨w, rw', hw⟩ := h G1 H1 S us ru
  exact hw Q (k w G1 H1 (Go.refl S) rw')
theorem reps1 {us : List V} (h : Reps K cl G us [d]) : ∃ u, us = [u] ∧ Rep K cl G u d := by
  obtain ⟨u, ws, rfl, hu, hw⟩ := h.uncons
  simp only [Reps] at hw
  subst hw
  exact ⟨u, rfl, hu⟩
theorem reps2 {us : List V} (h : Reps K cl G us [d1, d2]) : ∃ u v, us = [u, v] ∧ Rep K cl G u d1 ∧ Rep K cl G v d2 := by
  obtain ⟨u, ws, rfl, hu, hw⟩ := h.uncons
  obtain ⟨v, rfl, hv⟩ := reps1 hw
  exact ⟨u, v, rfl, hu, hv⟩
abbrev rLenA (K : PySem.W.Frag) : List V → Hp → VK → Prop := fun xs H Q => ∃ x n, xs = [x] ∧ LenV K x H n ∧ Q (.int n) H
abbrev rStrI : List V → Hp → VK → Prop := fun xs H Q => ∃ i, xs = [.int i] ∧ i.natAbs.log2 < 1920 ∧ Q (.str (toString i)) H
abbrev rInt1 : List V → Hp → VK → Prop := fun xs H Q => (∃ i, xs = [.int i] ∧ Q (.int i) H) ∨ ∃ k, xs = [.bl k] ∧ Q (.int (if k then 1 else 0)) H
abbrev rMin2 : List V → Hp → VK → Prop := fun xs H Q => ∃ i j, xs = [.int i, .int j] ∧ Q (.int (if j < i then j else i)) H
abbrev rMax2 : List V → Hp → VK → Prop := fun xs H Q => ∃ i j, xs = [.int i, .int j] ∧ Q (.int (if j > i then j else i)) H
abbrev rTupA (K : PySem.W.Frag) : List V → Hp → VK → Prop := fun xs H Q => ∃ p ys, xs = [.ref p] ∧ ((SqL K H p ys ∧ ∀ l, H l = none → Q (.ref l) (upd H l (.tup ys))) ∨ (SqT K H p ys ∧ Q (.ref p) H))
abbrev rListA (K : PySem.W.Frag) : List V → Hp → VK → Prop := fun xs H Q => ∃ p ys, xs = [.ref p] ∧ (SqL K H p ys ∨ SqT K H p ys) ∧ ∀ l, H l = none → Q (.ref l) (upd H l (.lst ys))
theorem on_int {i : Int} : OpN K cl true rInt1 M [.int i] (.int i) M := on_val fun G1 H1 S us ru => by
  obtain ⟨u, rfl, hu⟩ := reps1 ru
  exact ⟨_, Rep.int, fun Q q => .inl ⟨i, by rw [hu.of_int], q⟩⟩
theorem on_intB {b : Bool} : OpN K cl true rInt1 M [.bl b] (.int (if b then 1 else 0)) M := on_val fun G1 H1 S us ru => by
  obtain ⟨u, rfl, hu⟩ := reps1 ru
  exact ⟨_, Rep.int, fun Q q => .inr ⟨b, by rw [hu.of_bl], q⟩⟩
theorem on_str {i : Int} (h : i.natAbs.log2 < 1920) : OpN K cl true rStrI M [.int i] (.str (toString i)) M := on_val fun G1 H1 S us ru => by
  obtain ⟨u, rfl, hu⟩ := reps1 ru
  exact ⟨_, Rep.str, fun Q q => ⟨i, by rw [hu.of_int], h, q⟩⟩
theorem on_min {i j : Int} : OpN K cl true rMin2 M [.int i, .int j] (.int (if j < i then j else i)) M := on_val fun G1 H1 S us ru => by
  obtain ⟨u, v, rfl, hu, hv⟩ := reps2 ru
  exact ⟨_, Rep.int, fun Q q => ⟨i, j, by rw [hu.of_int, hv.of_int], q⟩⟩
theorem on_max {i j : Int} : OpN K cl true rMax2 M [.int i, .int j] (.int (if j > i then j else i)) M := on_val fun G1 H1 S us ru => by
  obtain ⟨u, v, rfl, hu, hv⟩ := reps2 ru
  exact ⟨_, Rep.int, fun Q q => ⟨i, j, by rw [hu.of_int, hv.of_int], q⟩⟩
theorem on_lenS {x : Str} (h : x.length ≤ 100000) : OpN K cl true (rLenA K) M [.str x] (.int x.length) M := on_val fun G1 H1 S us ru => by
  obtain ⟨u, rfl, hu⟩ := reps1 ru
  refine ⟨_, Rep.int, fun Q q => ⟨.str x, x.length, by rw [hu.of_str], ⟨Nat.le_trans h (by decide), rfl⟩, q⟩⟩
theorem on_lenL : OpN K cl true (rLenA K) M [.lst ds] (.int ds.length) M := on_val fun G1 H1 S us ru => by
  obtain ⟨u, rfl, hu⟩ := reps1 ru
  obtain ⟨a, vs, rfl, sq, rs⟩ := hu.of_lst
  refine ⟨_, Rep.int, fun Q q => ⟨.ref a, ds.length, rfl, .inl ⟨vs, S.sub.seq sq, rs.length.symm⟩, q⟩⟩
theorem on_lenT : OpN K cl true (rLenA K) M [.tup ds] (.int ds.length) M := on_val fun G1 H1 S us ru => by
  obtain ⟨u, rfl, hu⟩ := reps1 ru
  obtain ⟨a, vs, rfl, sq, rs⟩ := hu.of_tup
  refine ⟨_, Rep.int, fun Q q => ⟨.ref a, ds.length, rfl, .inr ⟨vs, Same.seqT S.sub sq, rs.length.symm⟩, q⟩⟩
theorem on_lenM {a : Addr} {vs : List V} (h : At M a (.lst vs)) : OpN K cl true (rLenA K) M [.loc a] (.int vs.length) M := on_val fun G1 H1 S us ru => by
  obtain ⟨u, rfl, hu⟩ := reps1 ru
  refine ⟨_, Rep.int, fun Q q => ⟨.ref a, vs.length, by rw [hu.of_loc], .inl ⟨vs, .inl (.inl (S.look h)), rfl⟩, q⟩⟩
theorem on_tupL : OpN K cl false (rTupA K) M [.lst ds] (.tup ds) M := fun G1 H1 S us ru Q k => by
  obtain ⟨u, rfl, hu⟩ := reps1 ru
  obtain ⟨a, vs, rfl, sq, rs⟩ := hu.of_lst
  exact ⟨a, vs, rfl, .inl ⟨S.sub.seq sq, fun l hl => k _ _ _ (Go.of (Same.upd (S.freshG hl)) (S.newG hl)) (Rep.tup (.inl (.inl upd_same)) (rs.mono (Same.upd (S.freshG hl))))⟩⟩
theorem on_tupT : OpN K cl true (rTupA K) M [.tup ds] (.tup ds) M := on_val fun G1 H1 S us ru => by
  obtain ⟨u, rfl, hu⟩ := reps1 ru
  obtain ⟨a, vs, rfl, sq, rs⟩ := hu.of_tup
  exact ⟨_, hu, fun Q q => ⟨a, vs, rfl, .inr ⟨Same.seqT S.sub sq, q⟩⟩⟩
/-- an owned list's items, as they stand -/
theorem on_tupM {a : Addr} {vs : List V} (h : At M a (.lst vs)) (hr : Reps K cl G vs ds) : ∀ G1 H1, Same G G1 → Sep G1 H1 M → ∀ Q : VK, (∀ w G2 H2, Go false M M G1 H1 G2 H2 → Rep K cl G2 w (.tup ds) → Q w H2) → rTupA K [.ref a] H1 Q := fun G1 H1 s S Q k =>
  ⟨a, vs, rfl, .inl ⟨.inl (.inl (S.look h)), fun l hl => k _ _ _ (Go.of (Same.upd (S.freshG hl)) (S.newG hl)) (Rep.tup (.inl (.inl upd_same)) ((hr.mono s).mono (Same.upd (S.freshG hl))))⟩⟩
theorem ev_tupM {a : Addr} {vs : List V} (ha : EvX K cl p ta σ G M (.loc a) M1) (h : At M1 a (.lst vs)) (hr : Reps K cl G vs ds) : EvX K cl false (tCB (rTupA K) (tCons ta tNil)) σ G M (.tup ds) M1 := fun G1 H1 s S Q k =>
  ha G1 H1 s S _ fun x G2 H2 g2 rx => by
    rw [rx.of_loc]
    exact on_tupM h hr G2 H2 (s.trans g2.same) g2.sep Q fun w G3 H3 g3 rw' => k w G3 H3 (Go.of (g2.same.trans g3.same) g3.sep) rw'
/-- s.startswith(t) -/
abbrev rStarts : V → List V → Hp → VK → Prop := fun x xs H Q => ∃ a b, x = .str a ∧ xs = [.str b] ∧ Q (.bl (Txt.startswith a b)) H
theorem ev_starts {x y : Str} (ha : EvX K cl p ta σ G M (.str x) M1) (hb : EvX K cl q tb σ G M1 (.str y) M2) : EvX K cl (p && q) (tM1 rStarts ta tb) σ G M (.bl (Txt.startswith x y)) M2 := fun G1 H1 s S Q k =>
  ha G1 H1 s S _ fun u G2 H2 g2 ru => ⟨⟨x, ru.of_str⟩, hb G2 H2 (s.trans g2.same) g2.sep _ fun v G3 H3 g3 rv => ⟨x, y, ru.of_str, by rw [rv.of_str], k _ G3 H3 (g2.trans g3) Rep.bl⟩⟩
/-! slices -/
def EvO (p : Bool) (K : PySem.W.Frag) (cl : Nat → Addr) (to : TO) (σ : St) (G : Hp) (M : ML) (o : Option Int) : Prop :=
  ∀ G1 H1, Same G G1 → Sep G1 H1 M → ∀ Q : Option Int → Hp → Prop, (∀ G2 H2, Go p M M G1 H1 G2 H2 → Q o H2) → to σ H1 Q
theorem eo_none : EvO true K cl tNoPart σ G M none := fun G1 H1 s S Q k => k G1 H1 (Go.refl S)
theorem eo_some {i : Int} (h : EvX K cl p te σ G M (.int i) M) : EvO p K cl (tPart te) σ G M (some i) := fun G1 H1 s S Q k => h G1 H1 s S _ fun x G2 H2 g2 rx => ⟨i, rx.of_int, k G2 H2 g2⟩
abbrev SlK := V → Option Int → Option Int → Hp → VK → Prop
def orS (a b : SlK) : SlK := fun x l u H Q => a x l u H Q ∨ b x l u H Q
theorem sl_or {X : Cx} {a b : SlK} (h1 : SlR X a) (h2 : SlR X b) : SlR X (orS a b) := fun pins s σ H x v vl vu lo hi sl Q I rx hs pl pu h => h.elim (h1 pins s σ H x v vl vu lo hi sl Q I rx hs pl pu) (h2 pins s σ H x v vl vu lo hi sl Q I rx hs pl pu)
/-- xs[lo:hi] of a list or a text -/
def rSlA (K : PySem.W.Frag) : SlK := orS (rSlL K) rSlS
theorem sl_any {X : Cx} : SlR X (rSlA X.K) := sl_or sl_list sl_str
theorem ev_slS {x : Str} {tl th : TO} {lo hi : Option Int} (ha : EvX K cl p ta σ G M (.str x) M1) (hl : EvO q K cl tl σ G M1 lo) (hh : EvO r K cl th σ G M1 hi) (hx : x.length ≤ 100000) : EvX K cl (p && q && r) (tSl (rSlA K) ta tl th) σ G M (.str (cutS x lo hi)) M1 := fun G1 H1 s S Q k =>
  ha G1 H1 s S _ fun u G2 H2 g2 ru => hl G2 H2 (s.trans g2.same) g2.sep _ fun G3 H3 g3 => hh G3 H3 ((s.trans g2.same).trans g3.same) g3.sep _ fun G4 H4 g4 =>
    .inr ⟨x, ru.of_str, Nat.le_trans hx (by decide), k _ G4 H4 ((g2.trans g3).trans g4) Rep.str⟩
def cutD (xs : List D) (lo hi : Option Int) : List D := (xs.drop (HT.sIx xs.length 0 lo)).take (HT.sIx xs.length xs.length hi - HT.sIx xs.length 0 lo)
theorem Reps.cut {vs : List V} {lo hi : Option Int} (h : Reps K cl G vs ds) : Reps K cl G (cutV vs lo hi) (cutD ds lo hi) := by
  unfold cutV cutD
  rw [h.length]
  exact (h.drop _).take _
theorem ev_slL {tl th : TO} {lo hi : Option Int} (ha : EvX K cl p ta σ G M (.lst ds) M1) (hl : EvO q K cl tl σ G M1 lo) (hh : EvO r K cl th σ G M1 hi) : EvX K cl false (tSl (rSlA K) ta tl th) σ G M (.lst (cutD ds lo hi)) M1 := fun G1 H1 s S Q k =>
  ha G1 H1 s S _ fun u G2 H2 g2 ru => hl G2 H2 (s.trans g2.same) g2.sep _ fun G3 H3 g3 => hh G3 H3 ((s.trans g2.same).trans g3.same) g3.sep _ fun G4 H4 g4 => by
    obtain ⟨a, vs, e, sq, rs⟩ := ru.of_lst
    have s4 : Same G2 G4 := g3.same.trans g4.same
    refine .inl ⟨a, vs, e, (s4.trans g4.sep.sub).seq sq, fun l hl => ?_⟩
    have n := g4.sep.freshG hl
    exact k _ _ _ (Go.of ((g2.same.trans s4).trans (Same.upd n)) (g4.sep.newG hl)) (Rep.lst (.inl (.inl upd_same)) ((rs.mono (s4.trans (Same.upd n))).cut))

/-! ### statements -/
variable {nx : St → Hp → Prop} {rt : VK} {bk ct : St → Hp → Prop} {t u : TS}
theorem s_seq (h : t ⟨u ⟨nx, rt, bk, ct⟩, rt, bk, ct⟩ σ H) : tSeq t u ⟨nx, rt, bk, ct⟩ σ H := h
theorem s_asg {i : Nat} (S : Sep G H M) (h : EvX K cl p te σ G M d M1) (k : ∀ v G' H', Go p M M1 G H G' H' → Rep K cl G' v d → nx (σ.set i (some v)) H') : tAsg te (gName i) ⟨nx, rt, bk, ct⟩ σ H :=
  h G H (Same.refl _) S _ fun v G2 H2 g rv => k v G2 H2 g rv
theorem s_asgG {i : Nat} {F : V → Hp → ML → Prop} (S : Sep G H M) (h : EvG te σ G M F) (k : ∀ v G' H' M', Same G G' → Sep G' H' M' → F v G' M' → nx (σ.set i (some v)) H') : tAsg te (gName i) ⟨nx, rt, bk, ct⟩ σ H :=
  h G H (Same.refl _) S _ fun v G2 H2 M2 s S2 f => k v G2 H2 M2 s S2 f
theorem s_ret (S : Sep G H M) (h : EvX K cl p te σ G M d M1) (k : ∀ v G' H', Go p M M1 G H G' H' → Rep K cl G' v d → rt v H') : tRet te ⟨nx, rt, bk, ct⟩ σ H :=
  h G H (Same.refl _) S _ fun v G2 H2 g rv => k v G2 H2 g rv
theorem s_retG {F : V → Hp → ML → Prop} (S : Sep G H M) (h : EvG te σ G M F) (k : ∀ v G' H' M', Same G G' → Sep G' H' M' → F v G' M' → rt v H') : tRet te ⟨nx, rt, bk, ct⟩ σ H :=
  h G H (Same.refl _) S _ fun v G2 H2 M2 s S2 f => k v G2 H2 M2 s S2 f
theorem s_drop (S : Sep G H M) (h : EvX K cl p te σ G M d M1) (k : ∀ v G' H', Go p M M1 G H G' H' → Rep K cl G' v d → nx σ H') : tDrop te ⟨nx, rt, bk, ct⟩ σ H :=
  h G H (Same.refl _) S _ fun v G2 H2 g rv => k v G2 H2 g rv
theorem s_if {b : Bool} (S : Sep G H M) (h : EvT K cl p tt σ G M b M1) (h1 : ∀ G' H', Go p M M1 G H G' H' → b = true → t ⟨nx, rt, bk, ct⟩ σ H') (h2 : ∀ G' H', Go p M M1 G H G' H' → b = false → u ⟨nx, rt, bk, ct⟩ σ H') : tIfS tt t u ⟨nx, rt, bk, ct⟩ σ H :=
  h G H (Same.refl _) S _ fun G2 H2 g => by
    cases b with
    | true => exact h1 G2 H2 g rfl
    | false => exact h2 G2 H2 g rfl
/-- both ways meet again -/
theorem s_ifJ {b : Bool} (J : St → Hp → ML → Prop) (S : Sep G H M) (h : EvT K cl p tt σ G M b M1)
    (h1 : (∀ σ' G' H' M', Same G G' → Sep G' H' M' → J σ' G' M' → nx σ' H') → ∀ G' H', Go p M M1 G H G' H' → b = true → t ⟨nx, rt, bk, ct⟩ σ H')
    (h2 : (∀ σ' G' H' M', Same G G' → Sep G' H' M' → J σ' G' M' → nx σ' H') → ∀ G' H', Go p M M1 G H G' H' → b = false → u ⟨nx, rt, bk, ct⟩ σ H')
    (k : ∀ σ' G' H' M', Same G G' → Sep G' H' M' → J σ' G' M' → nx σ' H') : tIfS tt t u ⟨nx, rt, bk, ct⟩ σ H := s_if S h (h1 k) (h2 k)
theorem s_next (h : nx σ H) : tNext ⟨nx, rt, bk, ct⟩ σ H := h
theorem s_break (h : bk σ H) : tBreak ⟨nx, rt, bk, ct⟩ σ H := h
theorem s_cont (h : ct σ H) : tCont ⟨nx, rt, bk, ct⟩ σ H := h
theorem s_retN (h : rt .non H) : tRetN ⟨nx, rt, bk, ct⟩ σ H := h
/-- self.f = e, self owned -/
theorem s_fld {a C dx : Addr} {fs : List (Str × V)} {f : Str} {tv : TE} {M' : V → ML} (S : Sep G H M) (hv : EvX K cl p tv σ G M d M1) (ha : EvX K cl q ta σ G M1 (.loc a) M2) (hm : ∀ v, Ch M2 a (.ins C dx fs) (.ins C dx (putF f v fs)) (M' v)) (hc : Cls K C) (hn : NoAttr K C f) (hl : fs.length < 1000)
    (k : ∀ v G' H', Same G G' → Sep G' H' (M' v) → Rep K cl G' v d → nx σ H') : sFld K ta tv f ⟨nx, rt, bk, ct⟩ σ H :=
  hv G H (Same.refl _) S _ fun v G2 H2 g2 rv => ha G2 H2 g2.same g2.sep _ fun x G3 H3 g3 rx =>
    ⟨a, C, dx, fs, rx.of_loc, g3.sep.look (hm v).at, hc, hn, hl, k v G3 _ (g2.same.trans g3.same) (g3.sep.ch (hm v)) (rv.mono g3.same)⟩
theorem putF_zip_new {f : Str} {v : V} : ∀ {ns : List Str} {vs : List V}, ns.length = vs.length → ns.contains f = false → putF f v (ns.zip vs) = (ns ++ [f]).zip (vs ++ [v])
  | [], [], _, _ => rfl
  | [], _ :: _, h, _ => by simp at h
  | _ :: _, [], h, _ => by simp at h
  | n :: ns, w :: vs, h, hc => by
    rw [List.contains_cons, Bool.or_eq_false_iff] at hc
    have hne : ¬ n = f := fun e => by rw [e] at hc; simp at hc
    rw [List.zip_cons_cons]
    show (if n = f then _ else _) = _
    rw [if_neg hne, putF_zip_new (Nat.succ.inj h) hc.2]
    rfl
theorem putF_zip_set {f : Str} {v : V} : ∀ {ns : List Str} {vs : List V} {i : Nat}, ns.length = vs.length → ns.findIdx? (· == f) = some i → putF f v (ns.zip vs) = ns.zip (vs.set i v)
  | [], [], i, _, h => by simp at h
  | [], _ :: _, _, h, _ => by simp at h
  | _ :: _, [], _, h, _ => by simp at h
  | n :: ns, w :: vs, i, h, hc => by
    rw [List.zip_cons_cons]
    rw [List.findIdx?_cons] at hc
    by_cases e : n = f
    · have e' : (n == f) = true := by simp [e]
      rw [e'] at hc
      simp at hc
      subst hc
      show (if n = f then _ else _) = _
      rw [if_pos e]
      rfl
    · have e' : (n == f) = false := by simp [e]
      rw [e'] at hc
      simp at hc
      obtain ⟨j, hj, rfl⟩ := hc
      show (if n = f then _ else _) = _
      rw [if_neg e, putF_zip_set (Nat.succ.inj h) hj]
      rfl
/-- self.f = e: a field that is not there yet -/
theorem s_fldN {a C dx : Addr} {ns : List Str} {vs : List V} {f : Str} {tv : TE} {M' : V → ML} (S : Sep G H M) (hv : EvX K cl p tv σ G M d M1) (ha : EvX K cl q ta σ G M1 (.loc a) M2) (hm : ∀ v, Ch M2 a (.ins C dx (ns.zip vs)) (.ins C dx ((ns ++ [f]).zip (vs ++ [v]))) (M' v)) (hc : Cls K C) (hn : NoAttr K C f)
    (hl : ns.length = vs.length) (hx : ns.contains f = false) (hk : ns.length < 1000) (k : ∀ v G' H', Same G G' → Sep G' H' (M' v) → Rep K cl G' v d → nx σ H') : sFld K ta tv f ⟨nx, rt, bk, ct⟩ σ H :=
  s_fld (fs := ns.zip vs) S hv ha (fun v => by rw [putF_zip_new hl hx]; exact hm v) hc hn (by rw [List.length_zip]; omega) k
/-- .. a field that is there -/
theorem s_fldU {a C dx : Addr} {ns : List Str} {vs : List V} {f : Str} {tv : TE} {i : Nat} {M' : V → ML} (S : Sep G H M) (hv : EvX K cl p tv σ G M d M1) (ha : EvX K cl q ta σ G M1 (.loc a) M2) (hx : ns.findIdx? (· == f) = some i) (hm : ∀ v, Ch M2 a (.ins C dx (ns.zip vs)) (.ins C dx (ns.zip (vs.set i v))) (M' v)) (hc : Cls K C) (hn : NoAttr K C f)
    (hl : ns.length = vs.length) (hk : ns.length < 1000) (k : ∀ v G' H', Same G G' → Sep G' H' (M' v) → Rep K cl G' v d → nx σ H') : sFld K ta tv f ⟨nx, rt, bk, ct⟩ σ H :=
  s_fld (fs := ns.zip vs) S hv ha (fun v => by rw [putF_zip_set hl hx]; exact hm v) hc hn (by rw [List.length_zip]; omega) k
/-- xs.append(e), xs owned -/
theorem s_app {a : Addr} {us vs : List V} {M' : V → ML} (S : Sep G H M) (ha : EvX K cl p ta σ G M (.loc a) M1) (hm0 : At M1 a (.lst us)) (he : EvX K cl q te σ G M1 d M2) (hm : ∀ v, Ch M2 a (.lst vs) (.lst (vs ++ [v])) (M' v)) (hl : vs.length < 10000000)
    (k : ∀ v G' H', Same G G' → Sep G' H' (M' v) → Rep K cl G' v d → nx σ H') : tDrop (tBM K "list" rAppend ta (tCons te tNil)) ⟨nx, rt, bk, ct⟩ σ H :=
  ha G H (Same.refl _) S _ fun x G2 H2 g2 rx => ⟨by
    rw [rx.of_loc]
    exact .inl ⟨rfl, us, .inl (.inl (g2.sep.look hm0))⟩, he G2 H2 g2.same g2.sep _ fun v G3 H3 g3 rv =>
    ⟨a, vs, v, rx.of_loc, rfl, g3.sep.look (hm v).at, Nat.lt_of_lt_of_le hl (by decide), k v G3 _ (g2.same.trans g3.same) (g3.sep.ch (hm v)) rv⟩⟩
/-- xs[i] = e, xs owned -/
theorem s_set {ti : TE} {a : Addr} {vs : List V} {i : Int} {j : Nat} {M' : V → ML} (S : Sep G H M) (he : EvX K cl p te σ G M d M1) (ha : EvX K cl q ta σ G M1 (.loc a) M2) (hi : EvX K cl r ti σ G M2 (.int i) M3) (hm : ∀ v, Ch M3 a (.lst vs) (.lst (vs.set j v)) (M' v)) (hj : ixN vs.length i = some j)
    (k : ∀ v G' H', Same G G' → Sep G' H' (M' v) → Rep K cl G' v d → nx σ H') : tAsg te (gSub ta ti rSetL) ⟨nx, rt, bk, ct⟩ σ H :=
  he G H (Same.refl _) S _ fun v G2 H2 g2 rv => ha G2 H2 g2.same g2.sep _ fun x G3 H3 g3 rx => hi G3 H3 (g2.same.trans g3.same) g3.sep _ fun y G4 H4 g4 ry =>
    ⟨a, vs, i, j, rx.of_loc, ry.of_int, g4.sep.look (hm v).at, hj, k v G4 _ ((g2.same.trans g3.same).trans g4.same) (g4.sep.ch (hm v)) (rv.mono (g3.same.trans g4.same))⟩
/-! loops -/
/-- list or tuple -/
def iSeq (K : PySem.W.Frag) (tl : TE) : TI := fun σ H R => iList K tl σ H R ∨ iTup K tl σ H R
theorem pi_seq {X : Cx} {tg l : Expr} {tl : TE} (hl : PE X l tl) : PI X tg l (iSeq X.K tl) := ⟨fun pins s σ H R I h => by
  rcases h with h | h
  · exact (pi_list hl).run pins s σ H R I h
  · exact (pi_tup hl).run pins s σ H R I h⟩
/-- what stands between two turns -/
def Nx (G : Hp) (J : Nat → St → Hp → ML → Prop) (i : Nat) : St → Hp → Prop := fun σ H => ∃ G' M', Same G G' ∧ Sep G' H M' ∧ J i σ G' M'
theorem s_forL {tl : TE} {g : TG} {tb : TS} (J : Nat → St → Hp → ML → Prop) (S : Sep G H M) (h : EvX K cl p tl σ G M (.lst ds) M1) (h0 : ∀ G' H', Go p M M1 G H G' H' → J 0 σ G' M1)
    (hs : ∀ G2, Same G G2 → ∀ i x d σ' G' H' M', ds[i]? = some d → Same G2 G' → Sep G' H' M' → Rep K cl G' x d → J i σ' G' M' → g x σ' H' fun σ2 H2 => tb ⟨Nx G2 J (i + 1), rt, nx, Nx G2 J (i + 1)⟩ σ2 H2)
    (hd : ∀ σ' G' H' M', Same G G' → Sep G' H' M' → J ds.length σ' G' M' → nx σ' H') : tFor (iSeq K tl) g tb ⟨nx, rt, bk, ct⟩ σ H :=
  .inl (h G H (Same.refl _) S _ fun x G2 H2 g2 rx => by
    obtain ⟨a, vs, e, sq, rs⟩ := rx.of_lst
    refine ⟨a, e, ⟨vs, g2.sep.sub.seq sq⟩, for_list (xs := vs) (Nx G2 J) ⟨G2, M1, Same.refl _, g2.sep, h0 G2 H2 g2⟩ ?_ ?_ ?_⟩
    · rintro i σ' H' hi ⟨G', M', s', S', j⟩
      exact (s'.trans S'.sub).seq sq
    · rintro i y σ' H' hy ⟨G', M', s', S', j⟩
      obtain ⟨d, hd', rd⟩ := rs.get hy
      exact hs G2 g2.same i y d σ' G' H' M' hd' s' S' (rd.mono s') j
    · rintro σ' H' ⟨G', M', s', S', j⟩
      rw [rs.length] at j
      exact hd σ' G' H' M' (g2.same.trans s') S' j)
theorem s_forT {tl : TE} {g : TG} {tb : TS} (J : Nat → St → Hp → ML → Prop) (S : Sep G H M) (h : EvX K cl p tl σ G M (.tup ds) M1) (h0 : ∀ G' H', Go p M M1 G H G' H' → J 0 σ G' M1)
    (hs : ∀ G2, Same G G2 → ∀ i x d σ' G' H' M', ds[i]? = some d → Same G2 G' → Sep G' H' M' → Rep K cl G' x d → J i σ' G' M' → g x σ' H' fun σ2 H2 => tb ⟨Nx G2 J (i + 1), rt, nx, Nx G2 J (i + 1)⟩ σ2 H2)
    (hd : ∀ σ' G' H' M', Same G G' → Sep G' H' M' → J ds.length σ' G' M' → nx σ' H') : tFor (iSeq K tl) g tb ⟨nx, rt, bk, ct⟩ σ H :=
  .inr (h G H (Same.refl _) S _ fun x G2 H2 g2 rx => by
    obtain ⟨a, vs, e, sq, rs⟩ := rx.of_tup
    refine ⟨a, e, ⟨vs, Same.seqT g2.sep.sub sq⟩, for_tup (xs := vs) (Nx G2 J) ⟨G2, M1, Same.refl _, g2.sep, h0 G2 H2 g2⟩ ?_ ?_ ?_⟩
    · rintro i σ' H' hi ⟨G', M', s', S', j⟩
      exact Same.seqT (s'.trans S'.sub) sq
    · rintro i y σ' H' hy ⟨G', M', s', S', j⟩
      obtain ⟨d, hd', rd⟩ := rs.get hy
      exact hs G2 g2.same i y d σ' G' H' M' hd' s' S' (rd.mono s') j
    · rintro σ' H' ⟨G', M', s', S', j⟩
      rw [rs.length] at j
      exact hd σ' G' H' M' (g2.same.trans s') S' j)
theorem s_forR1 {g : TG} {tb : TS} {n : Int} (J : Nat → St → Hp → ML → Prop) (S : Sep G H M) (h : EvA K cl p tx σ G M [.int n] M1) (hn : -1000000000000 ≤ n ∧ n ≤ 1000000000000) (h0 : ∀ G' H', Go p M M1 G H G' H' → J 0 σ G' M1)
    (hs : ∀ G2, Same G G2 → ∀ (i : Nat) σ' G' H' M', (i : Int) < n → Same G2 G' → Sep G' H' M' → J i σ' G' M' → g (.int (i : Int)) σ' H' fun σ2 H2 => tb ⟨Nx G2 J (i + 1), rt, nx, Nx G2 J (i + 1)⟩ σ2 H2)
    (hd : ∀ σ' G' H' M', Same G G' → Sep G' H' M' → J n.toNat σ' G' M' → nx σ' H') : tFor (iRng1 tx) g tb ⟨nx, rt, bk, ct⟩ σ H :=
  h G H (Same.refl _) S _ fun xs G2 H2 g2 rx => by
    obtain ⟨u, rfl, hu⟩ := reps1 rx
    refine ⟨n, by rw [hu.of_int], by omega, by omega, for_range (lo := 0) (n := n.toNat) (Nx G2 J) ⟨G2, M1, Same.refl _, g2.sep, h0 G2 H2 g2⟩ ?_ ?_⟩
    · rintro i σ' H' hi ⟨G', M', s', S', j⟩
      rw [Int.zero_add]
      exact hs G2 g2.same i σ' G' H' M' (by omega) s' S' j
    · rintro σ' H' ⟨G', M', s', S', j⟩
      exact hd σ' G' H' M' (g2.same.trans s') S' j
theorem s_forR2 {g : TG} {tb : TS} {lo n : Int} (J : Nat → St → Hp → ML → Prop) (S : Sep G H M) (h : EvA K cl p tx σ G M [.int lo, .int n] M1) (hn : -1000000000000000 ≤ lo ∧ lo ≤ 1000000000000000 ∧ -1000000000000000 ≤ n ∧ n ≤ 1000000000000000) (h0 : ∀ G' H', Go p M M1 G H G' H' → J 0 σ G' M1)
    (hs : ∀ G2, Same G G2 → ∀ (i : Nat) σ' G' H' M', lo + (i : Int) < n → Same G2 G' → Sep G' H' M' → J i σ' G' M' → g (.int (lo + (i : Int))) σ' H' fun σ2 H2 => tb ⟨Nx G2 J (i + 1), rt, nx, Nx G2 J (i + 1)⟩ σ2 H2)
    (hd : ∀ σ' G' H' M', Same G G' → Sep G' H' M' → J (n - lo).toNat σ' G' M' → nx σ' H') : tFor (iRng2 tx) g tb ⟨nx, rt, bk, ct⟩ σ H :=
  h G H (Same.refl _) S _ fun xs G2 H2 g2 rx => by
    obtain ⟨u, v, rfl, hu, hv⟩ := reps2 rx
    refine ⟨lo, n, by rw [hu.of_int, hv.of_int], ⟨by omega, by omega, by omega, by omega⟩, for_range (lo := lo) (n := (n - lo).toNat) (Nx G2 J) ⟨G2, M1, Same.refl _, g2.sep, h0 G2 H2 g2⟩ ?_ ?_⟩
    · rintro i σ' H' hi ⟨G', M', s', S', j⟩
      exact hs G2 g2.same i σ' G' H' M' (by omega) s' S' j
    · rintro σ' H' ⟨G', M', s', S', j⟩
      exact hd σ' G' H' M' (g2.same.trans s') S' j
theorem op1_dummy : True := trivial
theorem s_gname {i : Nat} {v : V} {Q : St → Hp → Prop} (h : Q (σ.set i (some v)) H) : gName i v σ H Q := h
end
end Cp
/-! Cp4: truth of values, items of owned lists, comprehensions, while, == of data, tuples taken apart. -/
namespace Cp
open PySem L2

section
variable {K : PySem.W.Frag} {cl : Nat → Addr} {p q r : Bool} {M M1 M2 M3 M4 : ML} {G G1 G2 G3 H H1 H2 H3 : Hp} {σ : St} {ta tb te : TE} {tx : TA} {tt tu : TT} {d d1 d2 d3 : D} {ds es : List D}

theorem reps3 {us : List V} {d1 d2 d3 : D} (h : Reps K cl G us [d1, d2, d3]) : ∃ u1 u2 u3, us = [u1, u2, u3] ∧ Rep K cl G u1 d1 ∧ Rep K cl G u2 d2 ∧ Rep K cl G u3 d3 := by
  obtain ⟨u1, ws, rfl, h1, hw⟩ := h.uncons
  obtain ⟨u2, u3, rfl, h2, h3⟩ := reps2 hw
  exact ⟨u1, u2, u3, rfl, h1, h2, h3⟩
theorem reps4 {us : List V} {d1 d2 d3 d4 : D} (h : Reps K cl G us [d1, d2, d3, d4]) : ∃ u1 u2 u3 u4, us = [u1, u2, u3, u4] ∧ Rep K cl G u1 d1 ∧ Rep K cl G u2 d2 ∧ Rep K cl G u3 d3 ∧ Rep K cl G u4 d4 := by
  obtain ⟨u1, ws, rfl, h1, hw⟩ := h.uncons
  obtain ⟨u2, u3, u4, rfl, h2, h3, h4⟩ := reps3 hw
  exact ⟨u1, u2, u3, u4, rfl, h1, h2, h3, h4⟩
theorem reps5 {us : List V} {d1 d2 d3 d4 d5 : D} (h : Reps K cl G us [d1, d2, d3, d4, d5]) : ∃ u1 u2 u3 u4 u5, us = [u1, u2, u3, u4, u5] ∧ Rep K cl G u1 d1 ∧ Rep K cl G u2 d2 ∧ Rep K cl G u3 d3 ∧ Rep K cl G u4 d4 ∧ Rep K cl G u5 d5 := by
  obtain ⟨u1, ws, rfl, h1, hw⟩ := h.uncons
  obtain ⟨u2, u3, u4, u5, rfl, h2, h3, h4, h5⟩ := reps4 hw
  exact ⟨u1, u2, u3, u4, u5, rfl, h1, h2, h3, h4, h5⟩
theorem reps6 {us : List V} {d1 d2 d3 d4 d5 d6 : D} (h : Reps K cl G us [d1, d2, d3, d4, d5, d6]) : ∃ u1 u2 u3 u4 u5 u6, us = [u1, u2, u3, u4, u5, u6] ∧ Rep K cl G u1 d1 ∧ Rep K cl G u2 d2 ∧ Rep K cl G u3 d3 ∧ Rep K cl G u4 d4 ∧ Rep K cl G u5 d5 ∧ Rep K cl G u6 d6 := by
  obtain ⟨u1, ws, rfl, h1, hw⟩ := h.uncons
  obtain ⟨u2, u3, u4, u5, u6, rfl, h2, h3, h4, h5, h6⟩ := reps5 hw
  exact ⟨u1, u2, u3, u4, u5, u6, rfl, h1, h2, h3, h4, h5, h6⟩
theorem reps7 {us : List V} {d1 d2 d3 d4 d5 d6 d7 : D} (h : Reps K cl G us [d1, d2, d3, d4, d5, d6, d7]) : ∃ u1 u2 u3 u4 u5 u6 u7, us = [u1, u2, u3, u4, u5, u6, u7] ∧ Rep K cl G u1 d1 ∧ Rep K cl G u2 d2 ∧ Rep K cl G u3 d3 ∧ Rep K cl G u4 d4 ∧ Rep K cl G u5 d5 ∧ Rep K cl G u6 d6 ∧ Rep K cl G u7 d7 := by
  obtain ⟨u1, ws, rfl, h1, hw⟩ := h.uncons
  obtain ⟨u2, u3, u4, u5, u6, u7, rfl, h2, h3, h4, h5, h6, h7⟩ := reps6 hw
  exact ⟨u1, u2, u3, u4, u5, u6, u7, rfl, h1, h2, h3, h4, h5, h6, h7⟩
theorem reps8 {us : List V} {d1 d2 d3 d4 d5 d6 d7 d8 : D} (h : Reps K cl G us [d1, d2, d3, d4, d5, d6, d7, d8]) : ∃ u1 u2 u3 u4 u5 u6 u7 u8, us = [u1, u2, u3, u4, u5, u6, u7, u8] ∧ Rep K cl G u1 d1 ∧ Rep K cl G u2 d2 ∧ Rep K cl G u3 d3 ∧ Rep K cl G u4 d4 ∧ Rep K cl G u5 d5 ∧ Rep K cl G u6 d6 ∧ Rep K cl G u7 d7 ∧ Rep K cl G u8 d8 := by
  obtain ⟨u1, ws, rfl, h1, hw⟩ := h.uncons
  obtain ⟨u2, u3, u4, u5, u6, u7, u8, rfl, h2, h3, h4, h5, h6, h7, h8⟩ := reps7 hw
  exact ⟨u1, u2, u3, u4, u5, u6, u7, u8, rfl, h1, h2, h3, h4, h5, h6, h7, h8⟩
theorem reps9 {us : List V} {d1 d2 d3 d4 d5 d6 d7 d8 d9 : D} (h : Reps K cl G us [d1, d2, d3, d4, d5, d6, d7, d8, d9]) : ∃ u1 u2 u3 u4 u5 u6 u7 u8 u9, us = [u1, u2, u3, u4, u5, u6, u7, u8, u9] ∧ Rep K cl G u1 d1 ∧ Rep K cl G u2 d2 ∧ Rep K cl G u3 d3 ∧ Rep K cl G u4 d4 ∧ Rep K cl G u5 d5 ∧ Rep K cl G u6 d6 ∧ Rep K cl G u7 d7 ∧ Rep K cl G u8 d8 ∧ Rep K cl G u9 d9 := by
  obtain ⟨u1, ws, rfl, h1, hw⟩ := h.uncons
  obtain ⟨u2, u3, u4, u5, u6, u7, u8, u9, rfl, h2, h3, h4, h5, h6, h7, h8, h9⟩ := reps8 hw
  exact ⟨u1, u2, u3, u4, u5, u6, u7, u8, u9, rfl, h1, h2, h3, h4, h5, h6, h7, h8, h9⟩
theorem reps10 {us : List V} {d1 d2 d3 d4 d5 d6 d7 d8 d9 d10 : D} (h : Reps K cl G us [d1, d2, d3, d4, d5, d6, d7, d8, d9, d10]) : ∃ u1 u2 u3 u4 u5 u6 u7 u8 u9 u10, us = [u1, u2, u3, u4, u5, u6, u7, u8, u9, u10] ∧ Rep K cl G u1 d1 ∧ Rep K cl G u2 d2 ∧ Rep K cl G u3 d3 ∧ Rep K cl G u4 d4 ∧ Rep K cl G u5 d5 ∧ Rep K cl G u6 d6 ∧ Rep K cl G u7 d7 ∧ Rep K cl G u8 d8 ∧ Rep K cl G u9 d9 ∧ Rep K cl G u10 d10 := by
  obtain ⟨u1, ws, rfl, h1, hw⟩ := h.uncons
  obtain ⟨u2, u3, u4, u5, u6, u7, u8, u9, u10, rfl, h2, h3, h4, h5, h6, h7, h8, h9, h10⟩ := reps9 hw
  exact ⟨u1, u2, u3, u4, u5, u6, u7, u8, u9, u10, rfl, h1, h2, h3, h4, h5, h6, h7, h8, h9, h10⟩
/-! ### truth -/
def tTr (K : PySem.W.Frag) (ta : TE) : TT := fun σ H Q => ta σ H fun x H' => ∃ k, TruV K x H' k ∧ Q k H'
theorem pt_tr {X : Cx} {a : Expr} (ha : PE X a ta) (he : ∀ whole, isTrue a X.env whole = (do let v ← whole; standAt a.pos; holding [v] (truthy v)) := by intro _; rfl) : PT X a (tTr X.K ta) := pt_truth ha he
def D.tru : D → Option Bool
  | .non => some false
  | .bl b => some b
  | .int i => some (i != 0)
  | .lst ds => some (!ds.isEmpty)
  | .tup ds => some (!ds.isEmpty)
  | _ => none
theorem Reps.isEmpty {vs : List V} (h : Reps K cl G vs ds) : vs.isEmpty = ds.isEmpty := by
  cases ds with
  | nil => simp only [Reps] at h; rw [h]; rfl
  | cons d ds => obtain ⟨v, ws, rfl, _, _⟩ := h.uncons; rfl
theorem et_tr {b : Bool} (h : EvX K cl p ta σ G M d M1) (hb : d.tru = some b) : EvT K cl p (tTr K ta) σ G M b M1 := fun G1 H1 s S Q k => h G1 H1 s S _ fun x G2 H2 g2 rx => by
  refine ⟨b, ?_, k G2 H2 g2⟩
  cases d with
  | non => rw [rx.of_non]; exact (Option.some.inj hb).symm
  | bl c => rw [rx.of_bl]; exact (Option.some.inj hb).symm
  | int i => rw [rx.of_int]; exact (Option.some.inj hb).symm
  | str s => cases hb
  | lst ds => obtain ⟨a, vs, rfl, sq, rs⟩ := rx.of_lst; exact .inl ⟨vs, g2.sep.sub.seq sq, by rw [rs.isEmpty]; exact (Option.some.inj hb).symm⟩
  | tup ds => obtain ⟨a, vs, rfl, sq, rs⟩ := rx.of_tup; exact .inr (.inl ⟨vs, Same.seqT g2.sep.sub sq, by rw [rs.isEmpty]; exact (Option.some.inj hb).symm⟩)
  | ins c ns ds => cases hb
  | loc a => cases hb
  | dic ks ds => cases hb
theorem et_trM {a : Addr} {vs : List V} (h : EvX K cl p ta σ G M (.loc a) M1) (hm : At M1 a (.lst vs)) : EvT K cl p (tTr K ta) σ G M (!vs.isEmpty) M1 := fun G1 H1 s S Q k => h G1 H1 s S _ fun x G2 H2 g2 rx => by
  rw [rx.of_loc]
  exact ⟨_, .inl ⟨vs, .inl (.inl (g2.sep.look hm)), rfl⟩, k G2 H2 g2⟩

/-! ### an item of an owned list, told by its data -/
theorem ev_ixMD {a : Addr} {vs : List V} {i : Int} (ha : EvX K cl p ta σ G M (.loc a) M1) (hb : EvX K cl q tb σ G M1 (.int i) M2) (hm : At M2 a (.lst vs)) (hr : Reps K cl G vs ds) (hi : atI ds i = some d) : EvX K cl (p && q) (tOp (rIx K) ta tb) σ G M d M2 := by
  obtain ⟨v, hv, rv⟩ := hr.atI hi
  exact ev_ixM ha hb hm hv rv
theorem atI_last' {α : Type} {xs : List α} {x : α} (h : xs.getLast? = some x) : atI xs (-1) = some x := by
  have hne : xs ≠ [] := fun e => by rw [e] at h; cases h
  have e1 : xs.getLast hne = x := by
    rw [List.getLast?_eq_some_getLast hne] at h
    exact Option.some.inj h
  have e2 := List.dropLast_concat_getLast hne
  rw [e1] at e2
  rw [← e2]
  exact atI_last _ _

/-! ### tuples taken apart -/
def gNames : List Nat → TGs
  | [] => gNil
  | i :: is => gCons (gName i) (gNames is)
def setAll : St → List Nat → List V → St
  | σ, i :: is, v :: vs => setAll (σ.set i (some v)) is vs
  | σ, _, _ => σ
theorem g_names {Q : St → Hp → Prop} : ∀ {is : List Nat} {vs : List V} {σ : St}, vs.length = is.length → Q (setAll σ is vs) H → gNames is vs σ H Q
  | [], [], σ, _, h => ⟨rfl, h⟩
  | i :: is, v :: vs, σ, hl, h => ⟨v, vs, rfl, g_names (Nat.succ.inj hl) h⟩
theorem g_tup {x : V} {is : List Nat} {n : Nat} {Q : St → Hp → Prop} (S : Sep G H M) (rx : Rep K cl G x (.tup ds)) (hn : ds.length = n) (hi : is.length = n) (k : ∀ vs, Reps K cl G vs ds → Q (setAll σ is vs) H) : gTup K n (gNames is) x σ H Q := by
  obtain ⟨a, vs, e, sq, rs⟩ := rx.of_tup
  exact ⟨a, vs, e, Same.seqT S.sub sq, by rw [rs.length, hn], g_names (by rw [rs.length, hn, hi]) (k vs rs)⟩
theorem s_asgT {is : List Nat} {n : Nat} {nx : St → Hp → Prop} {rt : VK} {bk ct : St → Hp → Prop} (S : Sep G H M) (h : EvX K cl p te σ G M (.tup ds) M1) (hn : ds.length = n) (hi : is.length = n) (k : ∀ vs G' H', Go p M M1 G H G' H' → Reps K cl G' vs ds → nx (setAll σ is vs) H') :
    tAsg te (gTup K n (gNames is)) ⟨nx, rt, bk, ct⟩ σ H := h G H (Same.refl _) S _ fun x G2 H2 g2 rx => g_tup g2.sep rx hn hi fun vs rs => k vs G2 H2 g2 rs

/-! ### a list that is made and then given away -/
theorem s_retF {i : Nat} {u : Addr} {vs : List V} {nx : St → Hp → Prop} {rt : VK} {bk ct : St → Hp → Prop} (S : Sep G H ((u, .lst vs) :: M)) (hi : σ[i]? = some (some (.ref u))) (hr : Reps K cl G vs ds) (k : ∀ G', Same G G' → Sep G' H M → Rep K cl G' (.ref u) (.lst ds) → rt (.ref u) H) : tRet (tVar i) ⟨nx, rt, bk, ct⟩ σ H := by
  obtain ⟨S', s'⟩ := S.freeze
  exact ⟨.ref u, hi, k _ s' S' (Rep.lst (.inl (.inl upd_same)) (hr.mono s'))⟩

/-! ### while -/
theorem s_while {tb : TS} {nx : St → Hp → Prop} {rt : VK} {bk ct : St → Hp → Prop} (J : Nat → St → Hp → ML → Prop) (m0 : Nat) (S : Sep G H M) (h0 : J m0 σ G M)
    (hs : ∀ m σ' G' H' M', Same G G' → Sep G' H' M' → J m σ' G' M' → ∃ b p M1, EvT K cl p tt σ' G' M' b M1 ∧ (b = true → ∀ G2 H2, Go p M' M1 G' H' G2 H2 → tb ⟨fun σ H => ∃ m', m' < m ∧ Nx G (fun _ => J m') 0 σ H, rt, nx, fun σ H => ∃ m', m' < m ∧ Nx G (fun _ => J m') 0 σ H⟩ σ' H2) ∧
      (b = false → ∀ G2 H2, Go p M' M1 G' H' G2 H2 → nx σ' H2)) : tWhile tt tb ⟨nx, rt, bk, ct⟩ σ H := by
  refine ⟨fun m σ H => Nx G (fun _ => J m) 0 σ H, ⟨m0, G, M, Same.refl _, S, h0⟩, ?_⟩
  rintro m σ' H' ⟨G', M', s', S', j⟩
  obtain ⟨b, p, M1, ht, h1, h2⟩ := hs m σ' G' H' M' s' S' j
  refine ht G' H' (Same.refl _) S' _ fun G2 H2 g2 => ?_
  cases b with
  | true => exact ⟨_, fun σ2 H2 h => h, h1 rfl G2 H2 g2⟩
  | false => exact h2 rfl G2 H2 g2

theorem wh_turn {b : Bool} {C : Bool → Bool → ML → Prop} (h : EvT K cl p tt σ G M b M1) (hC : C b p M1) : ∃ b p M1, EvT K cl p tt σ G M b M1 ∧ C b p M1 := ⟨b, p, M1, h, hC⟩
/-! ### comprehensions over frozen lists and tuples -/
/-- one turn of a comprehension: the target, the test, the element -/
def LcT (K : PySem.W.Frag) (cl : Nat → Addr) (g : TG) (tt : TT) (te : TE) (vs : List Nat) (σ : St) (G : Hp) (M : ML) (x : V) (keep : Bool) (y : D) : Prop :=
  ∃ σ2 p q, wipe σ2 vs = wipe σ vs ∧ (∀ H (Kk : St → Hp → Prop), Sep G H M → Kk σ2 H → g x (wipe σ vs) H Kk) ∧ EvT K cl p tt σ2 G M keep M ∧ (keep = true → EvX K cl q te σ2 G M y M)
theorem ev_lc {tl : TE} {g : TG} {vs : List Nat} {f : D → D} {keep : D → Bool} (h : EvX K cl p tl σ G M d1 M1) (hd : d1 = .lst ds ∨ d1 = .tup ds) (hl : ds.length ≤ 10000000)
    (hs : ∀ G1 e x d, Same G G1 → d ∈ ds → Rep K cl G1 x d → LcT K cl g tt te vs σ G1 (e :: M1) x (keep d) (f d)) : EvX K cl false (tLc (iSeq K tl) g tt te vs) σ G M (.lst ((ds.filter keep).map f)) M1 := fun G1 H1 s S Q k => by
  have main : ∀ G2 H2 (us : List V) (Dl : Addr), Same G G2 → Same G1 G2 → Sep G2 H2 M1 → Reps K cl G2 us ds → H2 Dl = none → ∀ (Pv : Nat → Hp → Prop), (Pv = fun i H => ∃ G' acc, Same G2 G' ∧ Sep G' H ((Dl, .lst acc) :: M1) ∧ Reps K cl G' acc (((ds.take i).filter keep).map f)) →
      Pv 0 (upd H2 Dl (.lst [])) ∧ (∀ i x H, us[i]? = some x → Pv i H → g x (wipe σ vs) H fun σ2 H2 => wipe σ2 vs = wipe σ vs ∧ tt σ2 H2 fun b H3 =>
        if b = true then te σ2 H3 fun y H4 => ∃ acc, H4 Dl = some (.lst acc) ∧ acc.length < sizeLine ∧ Pv (i + 1) (upd H4 Dl (.lst (acc ++ [y]))) else Pv (i + 1) H3) ∧ (∀ H, Pv us.length H → Q (.ref Dl) H) := by
    rintro G2 H2 us Dl s2 s12 S2 rs hD Pv rfl
    refine ⟨⟨G2, [], Same.refl _, S2.newM hD, Reps.nil⟩, ?_, ?_⟩
    · rintro i x H hx ⟨G', acc, s', S', ra⟩
      obtain ⟨d, hdi, rd⟩ := rs.get hx
      have hmem : d ∈ ds := List.mem_of_getElem? hdi
      obtain ⟨σ2, p', q', hw, hg, ht, he⟩ := hs G' (Dl, .lst acc) x d (s2.trans s') hmem (rd.mono s')
      refine hg H _ S' ⟨hw, ht G' H (Same.refl _) S' _ fun G3 H3 g3 => ?_⟩
      have e1 : ds.take (i + 1) = ds.take i ++ [d] := by rw [List.take_add_one, hdi]; rfl
      have hal : acc.length ≤ ds.length := by
        rw [ra.length, List.length_map]
        exact Nat.le_trans (List.length_filter_le _ _) (by rw [List.length_take]; omega)
      cases hk : keep d with
      | true =>
        rw [if_pos rfl]
        refine he hk G3 H3 g3.same g3.sep _ fun y G4 H4 g4 ry => ?_
        have sA := g3.same.trans g4.same
        refine ⟨acc, g4.sep.look .hd, Nat.lt_of_le_of_lt (Nat.le_trans hal hl) (by decide), G4, acc ++ [y], s'.trans sA, g4.sep.ch .hd, ?_⟩
        rw [e1, List.filter_append, List.map_append]
        refine Reps.append (ra.mono sA) ?_
        rw [List.filter_cons, if_pos hk]
        exact Reps.one ry
      | false =>
        rw [if_neg (by decide)]
        refine ⟨G3, acc, s'.trans g3.same, g3.sep, ?_⟩
        rw [e1, List.filter_append, List.map_append, List.filter_cons, if_neg (by rw [hk]; decide)]
        show Reps K cl G3 acc (_ ++ [])
        rw [List.append_nil]
        exact ra.mono g3.same
    · rintro H ⟨G', acc, s', S', ra⟩
      rw [rs.length, List.take_length] at ra
      obtain ⟨S3, s3⟩ := S'.freeze
      exact k (.ref Dl) _ H (Go.of ((s12.trans s').trans s3) S3) (Rep.lst (.inl (.inl upd_same)) (ra.mono s3))
  rcases hd with rfl | rfl
  · refine .inl (h G1 H1 s S _ fun x G2 H2 g2 rx => ?_)
    obtain ⟨a, us, e, sq, rs⟩ := rx.of_lst
    refine ⟨a, e, ⟨us, g2.sep.sub.seq sq⟩, fun Dl hD => ?_⟩
    obtain ⟨h0, ht, hd⟩ := main G2 H2 us Dl (s.trans g2.same) g2.same g2.sep rs hD _ rfl
    refine lc_list (xs := us) _ h0 ?_ ht hd
    rintro i H hi ⟨G', acc, s', S', ra⟩
    exact (s'.trans S'.sub).seq sq
  · refine .inr (h G1 H1 s S _ fun x G2 H2 g2 rx => ?_)
    obtain ⟨a, us, e, sq, rs⟩ := rx.of_tup
    refine ⟨a, e, ⟨us, Same.seqT g2.sep.sub sq⟩, fun Dl hD => ?_⟩
    obtain ⟨h0, ht, hd⟩ := main G2 H2 us Dl (s.trans g2.same) g2.same g2.sep rs hD _ rfl
    refine lc_tup (xs := us) _ h0 ?_ ht hd
    rintro i H hi ⟨G', acc, s', S', ra⟩
    exact Same.seqT (s'.trans S'.sub) sq
theorem lcT1 {vs : List Nat} {x : V} {keep : Bool} {y : D} {j : Nat} (hw : wipe ((wipe σ vs).set j (some x)) vs = wipe σ vs) (ht : EvT K cl p tt ((wipe σ vs).set j (some x)) G M keep M) (he : keep = true → EvX K cl q te ((wipe σ vs).set j (some x)) G M y M) : LcT K cl (gName j) tt te vs σ G M x keep y :=
  ⟨_, p, q, hw, fun H Kk _ h => h, ht, he⟩
theorem lcTt {vs : List Nat} {x : V} {keep : Bool} {y : D} {is : List Nat} {n : Nat} (rx : Rep K cl G x (.tup ds)) (hn : ds.length = n) (hi : is.length = n) (k : ∀ xs, Reps K cl G xs ds → wipe (setAll (wipe σ vs) is xs) vs = wipe σ vs ∧ ∃ p q, EvT K cl p tt (setAll (wipe σ vs) is xs) G M keep M ∧ (keep = true → EvX K cl q te (setAll (wipe σ vs) is xs) G M y M)) : LcT K cl (gTup K n (gNames is)) tt te vs σ G M x keep y := by
  obtain ⟨a, us, e, sq, rs⟩ := rx.of_tup
  obtain ⟨hw, p, q, ht, he⟩ := k us rs
  exact ⟨_, p, q, hw, fun H Kk S h => ⟨a, us, e, Same.seqT S.sub sq, by rw [rs.length, hn], g_names (by rw [rs.length, hn, hi]) h⟩, ht, he⟩
theorem lc_pair {vs : List Nat} {keep : Bool} {y : D} {σ2 : St} (hw : wipe σ2 vs = wipe σ vs) (ht : EvT K cl p tt σ2 G M keep M) (he : keep = true → EvX K cl q te σ2 G M y M) : wipe σ2 vs = wipe σ vs ∧ ∃ p q, EvT K cl p tt σ2 G M keep M ∧ (keep = true → EvX K cl q te σ2 G M y M) := ⟨hw, p, q, ht, he⟩
theorem et_yes : EvT K cl true tYes σ G M true M := fun G1 H1 s S Q k => k G1 H1 (Go.refl S)

/-! ### == of data -/
mutual
def D.isDat : D → Bool
  | .lst ds => D.areDat ds
  | .tup ds => D.areDat ds
  | .ins _ _ _ => false
  | .loc _ => false
  | .dic _ _ => false
  | .str x => x.cps.all (· < 0x110000)
  | _ => true
def D.areDat : List D → Bool
  | [] => true
  | d :: ds => d.isDat && D.areDat ds
end
mutual
def D.dep : D → Nat
  | .lst ds => D.deps ds + 1
  | .tup ds => D.deps ds + 1
  | _ => 0
def D.deps : List D → Nat
  | [] => 0
  | d :: ds => max d.dep (D.deps ds)
end
mutual
def D.pyd : D → PyData
  | .non => .none
  | .bl b => .bool b
  | .int i => .int i
  | .str s => .str s
  | .lst ds => .list (D.pyds ds)
  | .tup ds => .tuple (D.pyds ds)
  | _ => .none
def D.pyds : List D → List PyData
  | [] => []
  | d :: ds => d.pyd :: D.pyds ds
end
mutual
theorem Rep.dp : ∀ {v : V} {d : D}, Rep K cl G v d → d.isDat = true → Dp K G v d.pyd
  | _, .non, h, _ => by rw [h.of_non]; simp only [D.pyd]; exact .non
  | _, .bl b, h, _ => by rw [h.of_bl]; simp only [D.pyd]; exact .bl b
  | _, .int i, h, _ => by rw [h.of_int]; simp only [D.pyd]; exact .int i
  | _, .str x, h, _ => by rw [h.of_str]; simp only [D.pyd]; exact .str x
  | _, .lst ds, h, e => by
    obtain ⟨a, vs, rfl, sq, rs⟩ := h.of_lst
    simp only [D.pyd]
    exact .lst sq (Reps.dps rs (by simpa only [D.isDat] using e))
  | _, .tup ds, h, e => by
    obtain ⟨a, vs, rfl, sq, rs⟩ := h.of_tup
    simp only [D.pyd]
    exact .tup sq (Reps.dps rs (by simpa only [D.isDat] using e))
  | _, .ins _ _ _, _, e => by simp [D.isDat] at e
  | _, .loc _, _, e => by simp [D.isDat] at e
  | _, .dic _ _, _, e => by simp [D.isDat] at e
theorem Reps.dps : ∀ {vs : List V} {ds : List D}, Reps K cl G vs ds → D.areDat ds = true → DpAll K G vs (D.pyds ds)
  | _, [], h, _ => by simp only [Reps] at h; rw [h]; simp only [D.pyds]; exact .nil
  | _, d :: ds, h, e => by
    obtain ⟨v, ws, rfl, rv, rs⟩ := h.uncons
    simp only [D.areDat, Bool.and_eq_true] at e
    simp only [D.pyds]
    exact .cons (rv.dp e.1) (rs.dps e.2)
end
mutual
theorem lay_pyd : ∀ {d : D}, d.isDat = true → PyData.canLay0 d.pyd = true
  | .non, _ => by simp [D.pyd, PyData.canLay0]
  | .bl _, _ => by simp [D.pyd, PyData.canLay0]
  | .int _, _ => by simp [D.pyd, PyData.canLay0]
  | .str x, h => by simp only [D.isDat] at h; simp only [D.pyd, PyData.canLay0]; exact h
  | .lst ds, h => by simp only [D.isDat] at h; simp only [D.pyd, PyData.canLay0]; exact lay_pyds h
  | .tup ds, h => by simp only [D.isDat] at h; simp only [D.pyd, PyData.canLay0]; exact lay_pyds h
  | .ins _ _ _, h => by simp [D.isDat] at h
  | .loc _, h => by simp [D.isDat] at h
  | .dic _ _, h => by simp [D.isDat] at h
theorem lay_pyds : ∀ {ds : List D}, D.areDat ds = true → PyData.canLayAll0 (D.pyds ds) = true
  | [], _ => by simp [D.pyds, PyData.canLayAll0]
  | d :: ds, h => by
    simp only [D.areDat, Bool.and_eq_true] at h
    simp only [D.pyds, PyData.canLayAll0, Bool.and_eq_true]
    exact ⟨lay_pyd h.1, lay_pyds h.2⟩
end
mutual
theorem dep_pyd : ∀ {d : D}, PyData.depth d.pyd = d.dep
  | .non => by simp [D.pyd, PyData.depth, D.dep]
  | .bl _ => by simp [D.pyd, PyData.depth, D.dep]
  | .int _ => by simp [D.pyd, PyData.depth, D.dep]
  | .str _ => by simp [D.pyd, PyData.depth, D.dep]
  | .lst ds => by simp only [D.pyd, PyData.depth, D.dep]; rw [dep_pyds]
  | .tup ds => by simp only [D.pyd, PyData.depth, D.dep]; rw [dep_pyds]
  | .ins _ _ _ => by simp [D.pyd, PyData.depth, D.dep]
  | .loc _ => by simp [D.pyd, PyData.depth, D.dep]
  | .dic _ _ => by simp [D.pyd, PyData.depth, D.dep]
theorem dep_pyds : ∀ {ds : List D}, PyData.depthAll (D.pyds ds) = D.deps ds
  | [] => by simp [D.pyds, PyData.depthAll, D.deps]
  | d :: ds => by simp only [D.pyds, PyData.depthAll, D.deps]; rw [dep_pyd, dep_pyds]
end
theorem shaped_of (h : d.isDat = true) (hd : d.dep ≤ 64) : SeqAt.shaped d.pyd = true := by
  unfold SeqAt.shaped
  rw [lay_pyd h, dep_pyd, decide_eq_true hd]
  rfl
/-! == tells data as trees -/
mutual
def D.eqb : D → D → Bool
  | .non, .non => true
  | .bl a, .bl b => a == b
  | .bl a, .int j => (if a then 1 else 0) == j
  | .int i, .bl b => i == (if b then 1 else 0)
  | .int i, .int j => i == j
  | .str x, .str y => x == y
  | .lst xs, .lst ys => D.eqbs xs ys
  | .tup xs, .tup ys => D.eqbs xs ys
  | _, _ => false
def D.eqbs : List D → List D → Bool
  | [], [] => true
  | x :: xs, y :: ys => D.eqb x y && D.eqbs xs ys
  | _, _ => false
end
mutual
theorem eqv_eqb : ∀ (x y : D), x.isDat = true → y.isDat = true → PyData.eqv x.pyd y.pyd = D.eqb x y
  | .lst xs, y, hx, hy => by
    cases y with
    | lst ys => simp only [D.pyd, PyData.eqv, D.eqb]; exact eqvs_eqbs xs ys (by simpa only [D.isDat] using hx) (by simpa only [D.isDat] using hy)
    | ins _ _ _ => simp [D.isDat] at hy
    | loc _ => simp [D.isDat] at hy
    | dic _ _ => simp [D.isDat] at hy
    | _ => simp [D.pyd, PyData.eqv, D.eqb]
  | .tup xs, y, hx, hy => by
    cases y with
    | tup ys => simp only [D.pyd, PyData.eqv, D.eqb]; exact eqvs_eqbs xs ys (by simpa only [D.isDat] using hx) (by simpa only [D.isDat] using hy)
    | ins _ _ _ => simp [D.isDat] at hy
    | loc _ => simp [D.isDat] at hy
    | dic _ _ => simp [D.isDat] at hy
    | _ => simp [D.pyd, PyData.eqv, D.eqb]
  | .non, y, _, hy => by
    cases y with
    | ins _ _ _ => simp [D.isDat] at hy
    | loc _ => simp [D.isDat] at hy
    | dic _ _ => simp [D.isDat] at hy
    | _ => simp [D.pyd, PyData.eqv, D.eqb]
  | .bl b, y, _, hy => by
    cases y with
    | ins _ _ _ => simp [D.isDat] at hy
    | loc _ => simp [D.isDat] at hy
    | dic _ _ => simp [D.isDat] at hy
    | _ => simp [D.pyd, PyData.eqv, D.eqb]
  | .int i, y, _, hy => by
    cases y with
    | ins _ _ _ => simp [D.isDat] at hy
    | loc _ => simp [D.isDat] at hy
    | dic _ _ => simp [D.isDat] at hy
    | _ => simp [D.pyd, PyData.eqv, D.eqb]
  | .str s, y, _, hy => by
    cases y with
    | ins _ _ _ => simp [D.isDat] at hy
    | loc _ => simp [D.isDat] at hy
    | dic _ _ => simp [D.isDat] at hy
    | _ => simp [D.pyd, PyData.eqv, D.eqb]
  | .ins _ _ _, _, h, _ => by simp [D.isDat] at h
  | .loc _, _, h, _ => by simp [D.isDat] at h
  | .dic _ _, _, h, _ => by simp [D.isDat] at h
theorem eqvs_eqbs : ∀ (xs ys : List D), D.areDat xs = true → D.areDat ys = true → PyData.eqvAll (D.pyds xs) (D.pyds ys) = D.eqbs xs ys
  | [], [], _, _ => by simp [D.pyds, PyData.eqvAll, D.eqbs]
  | [], _ :: _, _, _ => by simp [D.pyds, PyData.eqvAll, D.eqbs]
  | _ :: _, [], _, _ => by simp [D.pyds, PyData.eqvAll, D.eqbs]
  | x :: xs, y :: ys, hx, hy => by
    simp only [D.areDat, Bool.and_eq_true] at hx hy
    simp only [D.pyds, PyData.eqvAll, D.eqbs]
    rw [eqv_eqb x y hx.1 hy.1, eqvs_eqbs xs ys hx.2 hy.2]
end
mutual
theorem D.eqb_refl : ∀ {x : D}, x.isDat = true → D.eqb x x = true
  | .non, _ => by simp [D.eqb]
  | .bl _, _ => by simp [D.eqb]
  | .int _, _ => by simp [D.eqb]
  | .str _, _ => by simp [D.eqb]
  | .lst ds, h => by simp only [D.eqb]; exact D.eqbs_refl (by simpa only [D.isDat] using h)
  | .tup ds, h => by simp only [D.eqb]; exact D.eqbs_refl (by simpa only [D.isDat] using h)
  | .ins _ _ _, h => by simp [D.isDat] at h
  | .loc _, h => by simp [D.isDat] at h
  | .dic _ _, h => by simp [D.isDat] at h
theorem D.eqbs_refl : ∀ {xs : List D}, D.areDat xs = true → D.eqbs xs xs = true
  | [], _ => by simp [D.eqbs]
  | x :: xs, h => by
    simp only [D.areDat, Bool.and_eq_true] at h
    simp only [D.eqbs, Bool.and_eq_true]
    exact ⟨D.eqb_refl h.1, D.eqbs_refl h.2⟩
end
theorem o_eqD {x y : D} (hx : x.isDat = true) (hy : y.isDat = true) (dx : x.dep ≤ 64) (dy : y.dep ≤ 64) : Op2 K cl true (rEqA K) M x y (.bl (D.eqb x y)) := o_r (op2_val fun G1 H1 S u v ru rv => ⟨_, Rep.bl, fun Q q => ⟨x.pyd, y.pyd, (ru.mono S.sub).dp hx, (rv.mono S.sub).dp hy, shaped_of hx dx, shaped_of hy dy, by rw [eqv_eqb x y hx hy]; exact q⟩⟩)
theorem o_neD {x y : D} (hx : x.isDat = true) (hy : y.isDat = true) (dx : x.dep ≤ 64) (dy : y.dep ≤ 64) : Op2 K cl true (rNeA K) M x y (.bl (!D.eqb x y)) := o_r (op2_val fun G1 H1 S u v ru rv => ⟨_, Rep.bl, fun Q q => ⟨x.pyd, y.pyd, (ru.mono S.sub).dp hx, (rv.mono S.sub).dp hy, shaped_of hx dx, shaped_of hy dy, by rw [eqv_eqb x y hx hy]; exact q⟩⟩)
theorem D.areDat_mem : ∀ {ds : List D}, (∀ d ∈ ds, d.isDat = true) → D.areDat ds = true
  | [], _ => by simp [D.areDat]
  | d :: ds, h => by
    simp only [D.areDat, Bool.and_eq_true]
    exact ⟨h d (List.mem_cons_self ..), D.areDat_mem fun x hx => h x (List.mem_cons_of_mem _ hx)⟩
theorem D.deps_mem {n : Nat} : ∀ {ds : List D}, (∀ d ∈ ds, d.dep ≤ n) → D.deps ds ≤ n
  | [], _ => by simp [D.deps]
  | d :: ds, h => by
    simp only [D.deps]
    exact Nat.max_le.mpr ⟨h d (List.mem_cons_self ..), D.deps_mem fun x hx => h x (List.mem_cons_of_mem _ hx)⟩
end
end Cp
/-! Cp5: dicts whose keys are nested tuples (nD), as owned cells; the world that hashes (Wo). -/
namespace Cp
open PySem L2

/-- the program and the world of the run -/
class Wo where
  p : Program
  w : World

/-! ### keys -/
mutual
def keyD : NestedKey → D
  | .none => .non
  | .num i => .int i
  | .text x => .str x
  | .tup ks => .tup (keyDs ks)
def keyDs : List NestedKey → List D
  | [] => []
  | k :: ks => keyD k :: keyDs ks
end
section
variable {X : Cx} {pins : List (Addr × Obj)} {σ : St} {H : Hp} {s : Shared} {cl : Nat → Addr}
mutual
theorem nested_is (I : Inv X pins σ H s) : ∀ (k : NestedKey) (v : V) (u : Value), Rep X.K cl H v (keyD k) → RelV v u → NestedIs s.heap k u
  | .none, v, u, r, q => by
    simp only [keyD] at r
    rw [r.of_non] at q
    obtain rfl : u = Value.none := q
    exact .none
  | .num i, v, u, r, q => by
    simp only [keyD] at r
    rw [r.of_int] at q
    obtain ⟨t, rfl⟩ := q
    exact .int i t
  | .text x, v, u, r, q => by
    simp only [keyD] at r
    rw [r.of_str] at q
    obtain ⟨t, rfl⟩ := q
    exact .text x t
  | .tup ks, v, u, r, q => by
    simp only [keyD] at r
    obtain ⟨a, vs, rfl, sq, rs⟩ := r.of_tup
    obtain rfl : u = Value.ref a := q
    obtain ⟨its, rv, ⟨o, ho, hc, n, hd⟩, z⟩ := I.tuple sq
    exact .tup ho hc hd (nested_are I ks vs its rs rv)
theorem nested_are (I : Inv X pins σ H s) : ∀ (ks : List NestedKey) (vs : List V) (us : List Value), Reps X.K cl H vs (keyDs ks) → Vals vs us → NestedAll s.heap ks us
  | [], vs, us, r, q => by
    simp only [keyDs, Reps] at r
    subst r
    cases q
    exact .nil
  | k :: ks, vs, us, r, q => by
    simp only [keyDs] at r
    obtain ⟨v, ws, rfl, r1, r2⟩ := r.uncons
    cases q with
    | cons q1 q2 => exact .cons (nested_is I k v _ r1 q1) (nested_are I ks ws _ r2 q2)
end
end

/-! ### the object -/
abbrev NKV := List (NestedKey × Addr × V)
abbrev NRel : NKV → List (NestedKey × Addr × Value) → Prop := Paired fun p q => p.1 = q.1 ∧ p.2.1 = q.2.1 ∧ RelV p.2.2 q.2.2
section
variable [Wo]
def nIs (a : Addr) (ep : Nat) (kvs : NKV) (h : Heap) : Prop :=
  (a == sysModules) = false ∧ kvs.length ≤ sizeLine ∧ ∃ xs, NRel kvs xs ∧ (xs.map (·.1)).Nodup ∧ ∃ o es, h.get? a = some o ∧ o.ExactDict ∧ o.data = .dict es ep ∧ es.toList = xs.map (entryOfKey (nestedKind Wo.p Wo.w))
/-- a dict with tuples as keys: its epoch, its entries -/
def nD (a : Addr) (ep : Nat) (kvs : NKV) : HO := .ext (nIs a ep kvs)
end
theorem nD_mut [Wo] {a : Addr} {ep : Nat} {kvs : NKV} : Mut (some (nD a ep kvs)) := True.intro
theorem nD_ok [Wo] {P : Program} {w : World} {H : Hp} {h : Heap} {a : Addr} {ep : Nat} {kvs : NKV} (x : nIs a ep kvs h) : ObjOk P w H h a (nD a ep kvs) := by
  refine ⟨x, ?_, fun h1 h2 y k => ?_⟩
  · obtain ⟨_, _, _, _, _, o, _, e, _⟩ := x
    exact ⟨o, e⟩
  · obtain ⟨y1, y2, xs, y3, y4, o, es, y5, y6⟩ := y
    exact ⟨y1, y2, xs, y3, y4, o, es, k o y5, y6⟩
/-- every key is there -/
def NKeys (K : PySem.W.Frag) (cl : Nat → Addr) (H : Hp) (kvs : NKV) : Prop := ∀ e ∈ kvs, Rep K cl H (.ref e.2.1) (keyD e.1) ∧ e.1.depth ≤ 8
theorem NRel.keys {K : PySem.W.Frag} {cl : Nat → Addr} {H : Hp} {kvs : NKV} {xs : List (NestedKey × Addr × Value)} (r : NRel kvs xs) (n : NKeys K cl H kvs) : ∀ x ∈ xs, Rep K cl H (.ref x.2.1) (keyD x.1) ∧ x.1.depth ≤ 8 := by
  induction r with
  | nil => intro x hx; exact nomatch hx
  | @cons p q ps qs hq t ih =>
    intro x hx
    rcases List.mem_cons.mp hx with e | hx
    · rw [e, ← hq.1, ← hq.2.1]
      exact n p (List.mem_cons_self ..)
    · exact ih (fun e he => n e (List.mem_cons_of_mem _ he)) x hx

def valN (kvs : NKV) (k : NestedKey) : Option V := (kvs.find? fun x => decide (x.1 = k)).map (·.2.2)
def putN (kvs : NKV) (k : NestedKey) (b : Addr) (v : V) : NKV := if (valN kvs k).isSome then kvs.map (fun x => if x.1 = k then (x.1, x.2.1, v) else x) else kvs ++ [(k, b, v)]
def dropN (kvs : NKV) (k : NestedKey) : NKV := kvs.filter fun x => decide (x.1 ≠ k)
theorem NRel.val {kvs : NKV} {xs : List (NestedKey × Addr × Value)} (r : NRel kvs xs) (k : NestedKey) : RelO (valN kvs k) ((atKey xs k).map (·.2)) := by
  induction r with
  | nil => exact True.intro
  | @cons p q ps qs hq t ih =>
    unfold valN atKey
    rw [List.find?_cons, List.find?_cons, ← hq.1]
    by_cases e : p.1 = k
    · rw [decide_eq_true e]
      exact hq.2.2
    · rw [decide_eq_false e]
      exact ih
theorem NRel.isSome {kvs : NKV} {xs : List (NestedKey × Addr × Value)} (r : NRel kvs xs) (k : NestedKey) : (atKey xs k).isSome = (valN kvs k).isSome := by
  have h := (r.val k).isSome_eq
  rw [Option.isSome_map] at h
  exact h.symm
theorem NRel.put {kvs : NKV} {xs : List (NestedKey × Addr × Value)} (r : NRel kvs xs) (k : NestedKey) (b : Addr) {v : V} {u : Value} (rv : RelV v u) : NRel (putN kvs k b v) (storedH xs k b u) := by
  unfold putN storedH
  rw [r.isSome k]
  cases (valN kvs k).isSome with
  | true =>
    simp only [if_true]
    induction r with
    | nil => exact .nil
    | @cons p q ps qs hq t ih =>
      refine .cons ?_ ih
      show ((if p.1 = k then (p.1, p.2.1, v) else p).1 = _ ∧ (if p.1 = k then (p.1, p.2.1, v) else p).2.1 = _ ∧ RelV (if p.1 = k then (p.1, p.2.1, v) else p).2.2 _)
      unfold putAt
      by_cases e : p.1 = k
      · rw [if_pos e, if_pos (hq.1 ▸ e)]
        exact ⟨hq.1, hq.2.1, rv⟩
      · rw [if_neg e, if_neg (hq.1 ▸ e)]
        exact hq
  | false =>
    simp only [Bool.false_eq_true, if_false]
    induction r with
    | nil => exact .cons ⟨rfl, rfl, rv⟩ .nil
    | cons hq t ih => exact .cons hq ih
theorem NRel.drop {kvs : NKV} {xs : List (NestedKey × Addr × Value)} (r : NRel kvs xs) (k : NestedKey) : NRel (dropN kvs k) (withoutH xs k) := by
  unfold dropN withoutH
  induction r with
  | nil => exact .nil
  | @cons p q ps qs hq t ih =>
    rw [List.filter_cons, List.filter_cons]
    by_cases e : p.1 = k
    · rw [if_neg (by simp [e]), if_neg (by rw [← hq.1]; simp [e])]
      exact ih
    · rw [if_pos (by simp [e]), if_pos (by rw [← hq.1]; simp [e])]
      exact .cons hq ih
theorem putN_length (kvs : NKV) (k : NestedKey) (b : Addr) (v : V) : (putN kvs k b v).length ≤ kvs.length + 1 := by
  unfold putN
  split
  · rw [List.length_map]; omega
  · rw [List.length_append]; simp
theorem putN_mem {kvs : NKV} {k : NestedKey} {b : Addr} {v : V} {e : NestedKey × Addr × V} (h : e ∈ putN kvs k b v) : (e.1 = k ∧ e.2.1 = b) ∨ ∃ f ∈ kvs, f.1 = e.1 ∧ f.2.1 = e.2.1 := by
  unfold putN at h
  split at h
  · obtain ⟨f, hf, q⟩ := List.mem_map.mp h
    right
    refine ⟨f, hf, ?_⟩
    split at q <;> (rw [← q]; exact ⟨rfl, rfl⟩)
  · rcases List.mem_append.mp h with q | q
    · exact .inr ⟨e, q, rfl, rfl⟩
    · rw [List.mem_singleton] at q
      rw [q]
      exact .inl ⟨rfl, rfl⟩

/-! ### what the operations do -/
theorem storedH_keys {xs : List (NestedKey × Addr × Value)} {k : NestedKey} {b : Addr} {u : Value} (n : (xs.map (·.1)).Nodup) : ((storedH xs k b u).map (·.1)).Nodup := by
  unfold storedH
  split
  · have e : (xs.map (putAt k u)).map (·.1) = xs.map (·.1) := by
      rw [List.map_map]
      refine List.map_congr_left fun x _ => ?_
      show (putAt k u x).1 = x.1
      unfold putAt
      split <;> rfl
    rw [e]
    exact n
  · next h =>
    rw [List.map_append]
    refine List.nodup_append.mpr ⟨n, by simp, ?_⟩
    intro a ha c hc e
    obtain ⟨x, hx, q⟩ := List.mem_map.mp ha
    have hc' : c = k := by simpa using hc
    apply h
    unfold atKey
    rw [Option.isSome_map, List.find?_isSome]
    exact ⟨x, hx, by rw [decide_eq_true_eq, q, e, hc']⟩
section
variable {X : Cx} {pins : List (Addr × Obj)} {σ : St} {H : Hp} {s : Shared} {cl : Nat → Addr} {a b : Addr} {ep : Nat} {kvs : NKV} {k : NestedKey} {A : Around} {E : Value → Shared → Prop}
theorem nd_of (I : Inv X pins σ H s) (h : H a = some (@nD ⟨X.prog, X.w⟩ a ep kvs)) : @nIs ⟨X.prog, X.w⟩ a ep kvs s.heap := (show ObjOk X.prog X.w H s.heap a (@nD ⟨X.prog, X.w⟩ a ep kvs) from I.hok a _ h).1
theorem nd_at (I : Inv X pins σ H s) (h : H a = some (@nD ⟨X.prog, X.w⟩ a ep kvs)) (n : NKeys X.K cl H kvs) :
    (a == sysModules) = false ∧ kvs.length ≤ sizeLine ∧ ∃ xs, NRel kvs xs ∧ s.heap.DictOfH (nestedKind X.prog X.w) a xs := by
  obtain ⟨h1, h2, xs, h3, h4, o, es, h5, h6, h7, h8⟩ := nd_of I h
  refine ⟨h1, h2, xs, h3, o, es, ep, h5, h6, h7, h8, fun x hx => ?_, h4⟩
  obtain ⟨q1, q2⟩ := h3.keys n x hx
  exact ⟨nested_is I _ _ _ q1 rfl, q2⟩
theorem room8 (hu : A.units + 64 < cLine) : (nestedKind X.prog X.w).room A.in1 := by
  show A.in1.units + 8 < cLine
  rw [Around.in1_units]
  omega
theorem nk_is (I : Inv X pins σ H s) (r : Rep X.K cl H (.ref b) (keyD k)) (hd : k.depth ≤ 8) : (nestedKind X.prog X.w).is s.heap k b := ⟨nested_is I _ _ _ r rfl, hd⟩
theorem nd_write {h' : Heap} {t' : Nat} {ep' : Nat} {kvs' : NKV} (I : Inv X pins σ H s) (h : H a = some (@nD ⟨X.prog, X.w⟩ a ep kvs)) (hs : Heap.SameBut a s.heap h') (new : @nIs ⟨X.prog, X.w⟩ a ep' kvs' h') :
    Inv X pins σ (upd H a (@nD ⟨X.prog, X.w⟩ a ep' kvs')) { s with heap := h', toks := t' } := by
  letI : Wo := ⟨X.prog, X.w⟩
  have he : ∃ q, h'.get? a = some q := by
    obtain ⟨_, _, _, _, _, o, _, e, _⟩ := new
    exact ⟨o, e⟩
  exact d_write I (by rw [h]; exact True.intro) hs he (nD_ok new)
end

/-! ### by values -/
section
variable [Wo] (K : PySem.W.Frag) (cl : Nat → Addr)
/-- the dict of tuples at x, asked for y -/
def NAt (x y : V) (H : Hp) (a b : Addr) (ep : Nat) (kvs : NKV) (k : NestedKey) : Prop :=
  x = .ref a ∧ y = .ref b ∧ H a = some (nD a ep kvs) ∧ NKeys K cl H kvs ∧ Rep K cl H (.ref b) (keyD k) ∧ k.depth ≤ 8
def rNIx : R2 := fun x y H Q => ∃ a b ep kvs k v, NAt K cl x y H a b ep kvs k ∧ valN kvs k = some v ∧ Q v H
def rNIn (neg : Bool) : R2 := fun y x H Q => ∃ a b ep kvs k, NAt K cl x y H a b ep kvs k ∧ Q (.bl (neg != (valN kvs k).isSome)) H
def rNSet : TSet := fun x y v H Q => ∃ a b ep kvs k, NAt K cl x y H a b ep kvs k ∧ kvs.length < sizeLine ∧ ∀ ep', Q (upd H a (nD a ep' (putN kvs k b v)))
def tNNew : TE := fun _ H Q => ∀ p, H p = none → Q (.ref p) (upd H p (nD p 0 []))
def isND (H : Hp) (a : Addr) : Prop := ∃ ep kvs, H a = some (nD a ep kvs)
/-- d.get(y), d.get(y, z): any dict -/
def tGet1 (td ty : TE) : TE := fun σ H Q => td σ H fun x H1 => ∃ a, x = .ref a ∧ (IsD H1 a ∨ isND H1 a) ∧ ty σ H1 fun y H2 =>
  (∃ o, DGet H2 a y o ∧ Q (o.getD .non) H2) ∨ ∃ b ep kvs k, NAt K cl x y H2 a b ep kvs k ∧ Q ((valN kvs k).getD .non) H2
def tGet2 (td ty tz : TE) : TE := fun σ H Q => td σ H fun x H1 => ∃ a, x = .ref a ∧ (IsD H1 a ∨ isND H1 a) ∧ ty σ H1 fun y H2 => tz σ H2 fun z H3 =>
  (∃ o, DGet H3 a y o ∧ Q (o.getD z) H3) ∨ ∃ b ep kvs k, NAt K cl x y H3 a b ep kvs k ∧ Q ((valN kvs k).getD z) H3
/-- del d[y]: any dict -/
def sDelA (td ty : TE) : TS := fun Dn σ H => td σ H fun x H1 => ty σ H1 fun y H2 =>
  (∃ a kvs k, x = .ref a ∧ H2 a = some (.dK kvs) ∧ y = kV k ∧ (valV kvs k).isSome = true ∧ Dn.nx σ (upd H2 a (.dK (dropK kvs k)))) ∨
  ∃ a b ep kvs k, NAt K cl x y H2 a b ep kvs k ∧ (valN kvs k).isSome = true ∧ ∀ ep', Dn.nx σ (upd H2 a (nD a ep' (dropN kvs k)))
/-- the keys of such a dict -/
def ItN (a : Addr) (ep : Nat) (kvs : NKV) : It :=
  ⟨fun i H => H a = some (nD a ep kvs) ∧ i < kvs.length, fun i H x H' => H' = H ∧ ∃ e, kvs[i]? = some e ∧ x = .ref e.2.1, fun i H => H a = some (nD a ep kvs) ∧ kvs.length ≤ i⟩
def iNKeys (td : TE) : TI := fun σ H R => td σ H fun x H1 => ∃ a ep kvs, x = .ref a ∧ H1 a = some (nD a ep kvs) ∧ R (ItN a ep kvs) H1
end
section
variable {X : Cx} {pins : List (Addr × Obj)} {σ : St} {H : Hp} {s : Shared} {cl : Nat → Addr} {A : Around} {E : Value → Shared → Prop} {x y : V} {v u : Value} {a b : Addr} {ep : Nat} {kvs : NKV} {k : NestedKey}
theorem nat_at (I : Inv X pins σ H s) (n : @NAt ⟨X.prog, X.w⟩ X.K cl x y H a b ep kvs k) (rx : RelV x v) (ry : RelV y u) :
    v = .ref a ∧ u = .ref b ∧ (nestedKind X.prog X.w).is s.heap k b ∧ (a == sysModules) = false ∧ kvs.length ≤ sizeLine ∧ ∃ xs, NRel kvs xs ∧ s.heap.DictOfH (nestedKind X.prog X.w) a xs := by
  obtain ⟨rfl, rfl, n1, n2, n3, n4⟩ := n
  obtain ⟨h1, h2, xs, h3, h4⟩ := nd_at I n1 n2
  exact ⟨rx, ry, nk_is I n3 n4, h1, h2, xs, h3, h4⟩
theorem n_get (hu : X.A.units + 64 < cLine) (I : Inv X pins σ H s) (n : @NAt ⟨X.prog, X.w⟩ X.K cl x y H a b ep kvs k) (rx : RelV x v) (ry : RelV y u) {w : V} (l : valN kvs k = some w) {Q : Value → Shared → Prop}
    (h : ∀ w' s', Inv X pins σ H s' → RelV w w' → Q w' s') : wpAny (model X.prog X.w) X.A (getItem v u) Q E s := by
  obtain ⟨rfl, rfl, n1, n2, n3, xs, n4, n5⟩ := nat_at I n rx ry
  obtain ⟨w', hw, rw'⟩ := RelO.some_of (v := w) (o := (atKey xs k).map (·.2)) (by rw [← l]; exact n4.val k)
  obtain ⟨p, hp, hp2⟩ := Option.map_eq_some_iff.mp hw
  refine wpAny_getItem_heap (room8 hu) n1 n5 hp ?_
  rw [hp2]
  exact h w' _ (I.tok _) rw'
theorem ix_nd (hu : X.A.units + 64 < cLine) : IxR X (@rNIx ⟨X.prog, X.w⟩ X.K cl) := by
  rintro value slice pins s σ H x y v u Q I rx ry ⟨a, b, ep, kvs, k, z, n, l, q⟩ hs
  obtain ⟨e1, e2, n1, n2, n3, xs, n4, n5⟩ := nat_at I n rx ry
  refine PyProof.Rows.tail_any (id := "dict.__getitem__") (T := "dict") (by rw [e1]; exact n5.typeIs) PySem.F.slot_dict_getitem.lookup ?_ hs
  exact n_get hu I n rx ry l fun w' s' I' r' => ⟨z, H, I', r', q⟩
theorem op_nin (hu : X.A.units + 64 < cLine) : OpR X (compareOp .In) (@rNIn ⟨X.prog, X.w⟩ X.K cl false) := by
  rintro pins s σ H y x u v Q I ry rx ⟨a, b, ep, kvs, k, n, q⟩
  obtain ⟨rfl, rfl, n1, n2, n3, xs, n4, n5⟩ := nat_at I n rx ry
  refine wpAny_in_heap (room8 hu) n1 n2 n5 ?_
  rw [n4.isSome k]
  refine ⟨_, H, I.tok _, ?_, q⟩
  cases (valN kvs k).isSome <;> rfl
theorem op_nnotin (hu : X.A.units + 64 < cLine) : OpR X (compareOp .NotIn) (@rNIn ⟨X.prog, X.w⟩ X.K cl true) := by
  rintro pins s σ H y x u v Q I ry rx ⟨a, b, ep, kvs, k, n, q⟩
  obtain ⟨rfl, rfl, n1, n2, n3, xs, n4, n5⟩ := nat_at I n rx ry
  refine PyProof.Rows.wpAny_notIn_heap (room8 hu) n1 n2 n5 ?_
  rw [n4.isSome k]
  refine ⟨_, H, I.tok _, ?_, q⟩
  cases (valN kvs k).isSome <;> rfl
theorem set_nd (hu : X.A.units + 64 < cLine) : PSet X (@rNSet ⟨X.prog, X.w⟩ X.K cl) := by
  rintro pins s σ H x y v xv yv u Q I rx ry rv ⟨a, b, ep, kvs, k, n, l, q⟩
  have hH : H a = some (@nD ⟨X.prog, X.w⟩ a ep kvs) := n.2.2.1
  obtain ⟨rfl, rfl, n1, n2, n3, xs, n4, n5⟩ := nat_at I n rx ry
  refine wpAny_setItem_heap (hsz := by rw [← Paired.length n4]; exact n3) (room8 hu) n1 n5 fun h' dd hs => ?_
  obtain ⟨o, es, ep', h1, h2, h3, h4, h5, h6⟩ := dd
  refine ⟨_, nd_write I hH hs ⟨n2, ?_, _, n4.put k b rv, h6, o, es, h1, h2, h3, h4⟩, q ep'⟩
  have := putN_length kvs k b v
  omega
theorem pe_nnew {pos : Pos} : PE X (.Dict [] [] pos) (@tNNew ⟨X.prog, X.w⟩) := by
  refine ⟨fun pins s σ H Q I h => wpAny_Dict_empty ⟨.ref s.heap.objs.size, _, I.laid (a := s.heap.objs.size) (o := @nD ⟨X.prog, X.w⟩ s.heap.objs.size 0 []) (t' := s.toks) (fun _ _ q => Heap.get?_push_of_some _ q) (Nat.le_refl _) ?_, rfl, h _ (I.hok.fresh (Nat.le_refl _))⟩⟩
  letI : Wo := ⟨X.prog, X.w⟩
  refine nD_ok ⟨beq_eq_false_iff_ne.mpr (Ne.symm (Nat.ne_of_lt I.big)), Nat.zero_le _, [], .nil, List.nodup_nil, _, #[], Heap.get?_push_size _ rfl, ⟨rfl, rfl, rfl⟩, rfl, rfl⟩

theorem isD_any {H : Hp} {a : Addr} (I : Inv X pins σ H s) (d : IsD H a ∨ @isND ⟨X.prog, X.w⟩ H a) : s.TypeIs (.ref a) "dict" ∧ (∀ b, Value.ref a = .ref b → ∃ ob, s.heap.get? b = some ob ∧ ob.dict = none) := by
  rcases d with d | ⟨ep, kvs, e⟩
  · obtain ⟨t1, t2, _⟩ := isD_at I d
    exact ⟨t1, t2⟩
  · obtain ⟨_, _, xs, _, _, o, es, e1, e2, _⟩ := nd_of I e
    refine ⟨⟨o, e1, e2.1⟩, fun b q => ?_⟩
    cases q
    exact ⟨o, e1, e2.2.1⟩
section
variable {o e f : Expr} {apos cpos pos tpos : Pos} {td ty tz : TE}
theorem pe_get1 (hu : X.A.units + 64 < cLine) (ho : PE X o td) (he : PE X e ty) (m : M1 X o "get" apos e cpos) : PE X (.Call (.Attribute o "get" apos) [e] [] cpos) (@tGet1 ⟨X.prog, X.w⟩ X.K cl td ty) := by
  refine ⟨fun pins s σ H Q I h => ?_⟩
  refine wpAny_Call_method m.base m.few m.line PySem.F.plainAttrs_dict PySem.F.slot_dict_get PySem.F.type_dict_get (thn (ho.run pins s σ H _ I h) fun u s1 ⟨x, H1, I1, rx, a, ex, d, q1⟩ => ?_)
  obtain rfl := ex
  obtain rfl : u = Value.ref a := rx
  obtain ⟨t1, t2⟩ := isD_any I1 d
  refine ⟨t1, t2, ?_⟩
  rw [m.trees]
  refine Calls.callWith_builtin rfl (Calls.evalArgs_plain (Calls.spliced_cons (thn (he.run pins s1 σ H1 _ I1 q1) fun iv s2 ⟨y, H2, I2, ry, q2⟩ => Calls.spliced_nil ?_)))
  rcases q2 with ⟨ov, g, q2⟩ | ⟨b, ep, kvs, k, n, q2⟩
  · exact d_get1 (by omega) I2 g ry fun w' s3 I3 rw' => ⟨_, H2, I3, rw', q2⟩
  · obtain ⟨-, rfl, n1, n2, n3, xs, n4, n5⟩ := nat_at I2 n rfl ry
    refine call_meetsIn PySem.F.slot_dict_get n5.typeIs PySem.F.entry_dict_get (PySem.F.args_dict_get_2 _ _) (meetsH_dict_get (nestedKind X.prog X.w) a b n2) ⟨room8 hu, k, xs, n1, n5, _, H2, I2.tok _, ?_, q2⟩
    exact (n4.val k).getD rfl
theorem pe_get2 (hu : X.A.units + 64 < cLine) (ho : PE X o td) (he : PE X e ty) (hf : PE X f tz) (m : M2 X o "get" apos e f cpos) : PE X (.Call (.Attribute o "get" apos) [e, f] [] cpos) (@tGet2 ⟨X.prog, X.w⟩ X.K cl td ty tz) := by
  refine ⟨fun pins s σ H Q I h => ?_⟩
  refine wpAny_Call_method m.base m.few m.line PySem.F.plainAttrs_dict PySem.F.slot_dict_get PySem.F.type_dict_get (thn (ho.run pins s σ H _ I h) fun u s1 ⟨x, H1, I1, rx, a, ex, d, q1⟩ => ?_)
  obtain rfl := ex
  obtain rfl : u = Value.ref a := rx
  obtain ⟨t1, t2⟩ := isD_any I1 d
  refine ⟨t1, t2, ?_⟩
  rw [m.trees]
  refine Calls.callWith_builtin rfl (Calls.evalArgs_plain (Calls.spliced_cons (thn (he.run pins s1 σ H1 _ I1 q1) fun iv s2 ⟨y, H2, I2, ry, q2⟩ => Calls.spliced_cons (thn (hf.run pins s2 σ H2 _ I2 q2) fun zv s3 ⟨z, H3, I3, rz, q3⟩ => Calls.spliced_nil ?_))))
  rcases q3 with ⟨ov, g, q3⟩ | ⟨b, ep, kvs, k, n, q3⟩
  · exact d_get2 (by omega) I3 g ry rz fun w' s4 I4 rw' => ⟨_, H3, I4, rw', q3⟩
  · obtain ⟨-, rfl, n1, n2, n3, xs, n4, n5⟩ := nat_at I3 n rfl ry
    refine call_meetsIn PySem.F.slot_dict_get n5.typeIs PySem.F.entry_dict_get (PySem.F.args_dict_get_3 _ _ _) (meetsH_dict_get_default (nestedKind X.prog X.w) a b n2 zv) ⟨room8 hu, k, xs, n1, n5, _, H3, I3.tok _, ?_, q3⟩
    exact (n4.val k).getD rz
theorem withoutH_keys {xs : List (NestedKey × Addr × Value)} {k : NestedKey} (n : (xs.map (·.1)).Nodup) : ((withoutH xs k).map (·.1)).Nodup := by
  unfold withoutH
  exact n.sublist (List.filter_sublist.map _)
theorem ps_delA (hu : X.A.units + 64 < cLine) (ho : PE X o td) (hi : PE X e ty) : PS X (.Delete [.Subscript o e tpos] pos) (@sDelA ⟨X.prog, X.w⟩ X.K cl td ty) := by
  refine ⟨fun pins s σ H D I h => ?_⟩
  refine wpAny_Delete (wpAny_deleteEach_cons (wpAny_delete_Subscript (thn (ho.run pins s σ H _ I h) fun u s1 ⟨x, H1, I1, rx, q1⟩ => thn (hi.run pins s1 σ H1 _ I1 q1) fun iv s2 ⟨y, H2, I2, ry, q2⟩ => ?_)))
  rcases q2 with ⟨a, kvs, k, ex, e, ey, l, q2⟩ | ⟨a, b, ep, kvs, k, n, l, q2⟩
  · obtain rfl := ex
    obtain rfl := ey
    obtain rfl : u = Value.ref a := rx
    exact d_delItem I2 e ry l fun s3 I3 => wpAny_deleteEach_nil ⟨σ, _, I3, q2⟩
  · have hH : H2 a = some (@nD ⟨X.prog, X.w⟩ a ep kvs) := n.2.2.1
    obtain ⟨rfl, rfl, n1, n2, n3, xs, n4, n5⟩ := nat_at I2 n rx ry
    rw [← n4.isSome k, Option.isSome_iff_exists] at l
    obtain ⟨p, hp⟩ := l
    refine wpAny_delItem_heap (hsz := by rw [← Paired.length n4]; exact n3) (room8 hu) n1 n2 n5 hp fun h' dd hs => wpAny_deleteEach_nil ?_
    obtain ⟨ob, es, ep', h1, h2, h3, h4, h5, h6⟩ := dd
    exact ⟨σ, _, nd_write I2 hH hs ⟨n2, Nat.le_trans (List.length_filter_le _ _) n3, _, n4.drop k, h6, ob, es, h1, h2, h3, h4⟩, q2 ep'⟩
end
/-! ### its keys, walked -/
theorem nrel_get {kvs : NKV} {xs : List (NestedKey × Addr × Value)} (r : NRel kvs xs) : ∀ {i : Nat} {e : NestedKey × Addr × V}, kvs[i]? = some e → ∃ f, xs[i]? = some f ∧ f.2.1 = e.2.1 := by
  induction r with
  | nil => intro i e h; simp at h
  | @cons p q ps qs hq t ih =>
    intro i e h
    cases i with
    | zero =>
      have : p = e := by simpa using h
      subst this
      exact ⟨q, rfl, hq.2.1.symm⟩
    | succ j => exact ih (by simpa using h)
theorem turn_nd {P : Program} {w : World} {K : PySem.W.Frag} {tg : Expr} (a it : Addr) (ep : Nat) (kvs : NKV) : Turn P w K tg (@ItN ⟨P, w⟩ a ep kvs) [it] it (fun i h => h.IsKeyIter it a i kvs.length ep) where
  mem := by simp
  obj := fun i h st b hb => by
    obtain rfl : b = it := by simpa using hb
    obtain ⟨oi, q1, _, q2⟩ := st
    exact ⟨oi, q1, fun v z => by rw [q2] at z; cases z⟩
  keep := fun i h h' st kp => st.at fun oi q => kp it (by simp) oi q
  item := by
    intro X hP hw hK hc i pins s σ H E I hf st hg
    subst hP hw hK
    obtain ⟨hd, hi⟩ := hg
    obtain ⟨f0, f1, f2, f3, f4, f5⟩ := hf it (by simp)
    obtain ⟨n1, n2, xs, n3, n4, o, es, n5, n6, n7, n8⟩ := nd_of I hd
    obtain ⟨e, he⟩ : ∃ e, kvs[i]? = some e := ⟨kvs[i], List.getElem?_eq_getElem hi⟩
    obtain ⟨f, hf1, hf2⟩ := nrel_get n3 he
    have hen : es[i]? = some (entryOfKey (nestedKind X.prog X.w) f) := by rw [entry_at n8 i, hf1]; rfl
    have hsz : es.size = kvs.length := (size_of_entries n8).trans (Paired.length n3).symm
    refine next_key_item st n5 n7 hsz hen fun h' st' sb => ?_
    have I1 : Inv X pins σ H { s with heap := h' } := I.turned (t' := s.toks) (fun b ob hb q => (sb.2 b hb).trans q) f0 f1 f3 f4 f5
    obtain ⟨oi, q1, q2, q3⟩ := id st'
    exact ⟨_, rfl, go_of (s := { s with heap := h' }) q1 q2 q3 (by decide) ⟨.ref e.2.1, H, I1, congrArg Value.ref hf2, ⟨rfl, e, he, rfl⟩, st', fun b hb => (hf b hb).1⟩⟩
  done := by
    intro X hP hw hK hc i pins s σ H E I hf st hg
    subst hP hw hK
    obtain ⟨hd, hi⟩ := hg
    obtain ⟨f0, f1, f2, f3, f4, f5⟩ := hf it (by simp)
    obtain ⟨n1, n2, xs, n3, n4, o, es, n5, n6, n7, n8⟩ := nd_of I hd
    have hsz : es.size = kvs.length := (size_of_entries n8).trans (Paired.length n3).symm
    exact next_key_end (I.ok.hd hc) st n5 n7 hsz hi fun h' eb => ⟨rfl, I.turned (t' := s.toks) (fun b ob hb q => eb b ob hb q) f0 f1 f3 f4 f5⟩
  self := fun A i s Q E st h => by
    refine wpAny_pyIter_slot st.typeIs PySem.F.slot_dict_keyiterator_iter (wpAny_call_entry PySem.F.slot_dict_keyiterator_iter st.typeIs PySem.F.entry_dict_keyiterator_iter ?_ (PySem.F.args_dict_keyiterator_iter_1 _))
    exact wpAny_pure ⟨_, rfl, "dict_keyiterator", _, st.typeIs, PySem.F.slot_dict_keyiterator_next.lookup, h⟩
theorem pi_nkeys {tg e : Expr} {td : TE} (he : PE X e td) : PI X tg e (@iNKeys ⟨X.prog, X.w⟩ td) := by
  refine ⟨fun pins s σ H R I h => thn (he.run pins s σ H _ I h) fun u s1 ⟨x, H1, I1, rx, a, ep, kvs, ex, hd, q⟩ => ?_⟩
  obtain rfl := ex
  obtain rfl : u = Value.ref a := rx
  obtain ⟨n1, n2, xs, n3, n4, o, es, n5, n6, n7, n8⟩ := nd_of I1 hd
  have hsz : es.size = kvs.length := (size_of_entries n8).trans (Paired.length n3).symm
  refine iter_keys n1 n5 n6 n7 (pi_one (tk := s1.toks) I1 _ (turn_nd a _ ep kvs) ⟨_, Heap.get?_push_size _ rfl, rfl, ?_⟩ q)
  rw [hsz] <;> rfl
end

/-! ### either of two readings -/
def orE (t1 t2 : TE) : TE := fun σ H Q => t1 σ H Q ∨ t2 σ H Q
theorem pe_or {X : Cx} {e : Expr} {t1 t2 : TE} (h1 : PE X e t1) (h2 : PE X e t2) : PE X e (orE t1 t2) := ⟨fun pins s σ H Q I h => h.elim (h1.run pins s σ H Q I) (h2.run pins s σ H Q I)⟩
def orI (t1 t2 : TI) : TI := fun σ H R => t1 σ H R ∨ t2 σ H R
theorem pi_or {X : Cx} {tg e : Expr} {t1 t2 : TI} (h1 : PI X tg e t1) (h2 : PI X tg e t2) : PI X tg e (orI t1 t2) := ⟨fun pins s σ H R I h => h.elim (h1.run pins s σ H R I) (h2.run pins s σ H R I)⟩
def orSet (t1 t2 : TSet) : TSet := fun o i v H Q => t1 o i v H Q ∨ t2 o i v H Q
theorem set_or {X : Cx} {t1 t2 : TSet} (h1 : PSet X t1) (h2 : PSet X t2) : PSet X (orSet t1 t2) := fun pins s σ H o i v ov iv u Q I r1 r2 r3 h => h.elim (h1 pins s σ H o i v ov iv u Q I r1 r2 r3) (h2 pins s σ H o i v ov iv u Q I r1 r2 r3)
end Cp
/-! Cp6: sorted() of data; list() and sorted() of a dict of tuples. -/
namespace Cp
open PySem L2

/-- the keys of a plain dict, as a source of items -/
theorem src_raw {P : Program} {w : World} {d : Addr} {es : Array DictEntry} {ep : Nat} (lo : (d == sysModules) = false) :
    PySem.W.KdlSrc P w "dict" d d es.size (fun i v => ∃ hi : i < es.size, v = es[i].key) (fun h => h.DictRaw d es ep) where
  type := fun _ hm => hm.typeIs
  there := fun _ hm => let ⟨_, ho, _⟩ := hm; ⟨Heap.lt_size ho, Heap.lt_size ho⟩
  keep := fun _ _ hm hk => hm.at fun o e => hk d (.inl rfl) o e
  notList := by decide
  notTuple := by decide
  hint := fun _ _ _ _ hm hq => PySem.W.kdl_hint_dict hm.typeIs hq
  iter := fun _ s hh hm => by
    have ne : d ≠ s.heap.objs.size := by
      obtain ⟨_, ho, _⟩ := hm
      exact Nat.ne_of_lt (Heap.lt_size ho)
    exact ⟨_, _, (fun _ _ hq => wpAny_pyIter_dict_raw lo hm hq), Walks.rawKeys hh _ d ne es ep, ⟨⟨_, Heap.get?_push_size _ rfl, rfl, rfl⟩, hm.at fun o e => Heap.get?_push_of_some _ e⟩⟩

abbrev refsOf (kvs : NKV) : List V := kvs.map fun e => V.ref e.2.1
theorem vals_keys {kvs : NKV} {xs : List (NestedKey × Addr × Value)} {es : Array DictEntry} {P : Program} {w : World} (r : NRel kvs xs) (he : es.toList = xs.map (entryOfKey (nestedKind P w))) {acc : Array Value}
    (h : ItemsOf (fun i v => ∃ hi : i < es.size, v = es[i].key) acc es.size) : acc.toList = kvs.map fun e => Value.ref e.2.1 := by
  have l1 : es.size = xs.length := size_of_entries he
  have l2 : kvs.length = xs.length := Paired.length r
  refine List.ext_getElem? fun i => ?_
  rw [Array.getElem?_toList, List.getElem?_map]
  by_cases hi : i < es.size
  · have hk : i < kvs.length := by omega
    have ha : i < acc.size := by rw [h.1]; exact hi
    obtain ⟨f, hf1, hf2⟩ := nrel_get r (List.getElem?_eq_getElem hk)
    have hen := entry_at he i
    rw [hf1] at hen
    obtain ⟨hi', q⟩ := h.2 i acc[i] (Array.getElem?_eq_getElem ha)
    rw [Array.getElem?_eq_getElem ha, List.getElem?_eq_getElem hk, q]
    rw [Array.getElem?_eq_getElem hi'] at hen
    have hen' := Option.some.inj hen
    rw [hen']
    exact congrArg (fun z => some (Value.ref z)) hf2
  · rw [Array.getElem?_eq_none (by rw [h.1]; omega), List.getElem?_eq_none (by omega)]
    rfl
theorem vals_refs (kvs : NKV) : Vals (refsOf kvs) (kvs.map fun e => Value.ref e.2.1) := by
  induction kvs with
  | nil => exact .nil
  | cons e kvs ih => exact .cons rfl ih

section
variable {X : Cx} {cl : Nat → Addr}
/-- list(d) -/
def rListN [Wo] : List V → Hp → VK → Prop := fun xs H Q => ∃ a ep kvs, xs = [.ref a] ∧ H a = some (nD a ep kvs) ∧ ∀ l, H l = none → Q (.ref l) (upd H l (.lst (refsOf kvs)))
theorem call_listN (hc : X.calm = true) : CallR X (.type "list") (@rListN ⟨X.prog, X.w⟩) := by
  rintro pins s σ H xs us Q I r ⟨a, ep, kvs, rfl, hd, q⟩
  obtain rfl := Vals.ref1 r
  obtain ⟨n1, n2, xs, n3, n4, o, es, n5, n6, n7, n8⟩ := nd_of I hd
  have hsz : es.size = kvs.length := (size_of_entries n8).trans (Paired.length n3).symm
  refine PySem.W.kdl_call (src_raw (es := es) (ep := ep) n1) (I.ok.hd hc) ⟨o, n5, n6, n7⟩ (by rw [hsz]; exact n2) fun h' tk acc c' hk hD hacc => ?_
  refine ⟨.ref s.heap.objs.size, _, I.laid (t' := tk) (o := .lst (refsOf kvs)) hk (Nat.le_refl _) ⟨by rw [List.length_map]; exact n2, acc.toList, c', ?_, by rw [Array.toArray_toList]; exact hD⟩, rfl, q _ (I.hok.fresh (Nat.le_refl _))⟩
  rw [vals_keys n3 n8 hacc]
  exact vals_refs kvs

/-! ### sorting -/
/-- which data sorted() takes here -/
structure Sorts (ds : List PyData) : Prop where
  alike : PySem.W.AllAlike ds
  kind : PySem.W.Sortable ds
  low : ∀ d ∈ ds, d.depth ≤ 16
def leD (x y : D) : Bool := PySem.W.dataLe false D.pyd x y
theorem reads_of {pins : List (Addr × Obj)} {σ : St} {H : Hp} {s : Shared} (I : Inv X pins σ H s) {v : V} {u : Value} {d : D} (r : Rep X.K cl H v d) (e : d.isDat = true) (q : RelV v u) : ∃ as, Reads s.heap u d.pyd as := Dp.reads I _ _ _ (r.dp e) q
theorem each_of {pins : List (Addr × Obj)} {σ : St} {H : Hp} {s : Shared} (I : Inv X pins σ H s) : ∀ {vs : List V} {us : List Value} {ds : List D}, Reps X.K cl H vs ds → D.areDat ds = true → Vals vs us →
    PySem.W.EachIs (fun u (z : V × D) => RelV z.1 u) us (vs.zip ds) ∧ PySem.W.EachIs (fun u (z : V × D) => ∃ as, Reads s.heap u z.2.pyd as) us (vs.zip ds)
  | vs, us, [], r, _, q => by
    simp only [Reps] at r
    subst r
    cases q
    exact ⟨.nil, .nil⟩
  | vs, us, d :: ds, r, e, q => by
    obtain ⟨v, ws, rfl, r1, r2⟩ := r.uncons
    simp only [D.areDat, Bool.and_eq_true] at e
    cases q with
    | cons q1 q2 =>
      obtain ⟨h1, h2⟩ := each_of I r2 e.2 q2
      exact ⟨.cons q1 h1, .cons (reads_of I r1 e.1 q1) h2⟩
theorem each_vals : ∀ {us : List Value} {zs : List (V × D)}, PySem.W.EachIs (fun u (z : V × D) => RelV z.1 u) us zs → Vals (zs.map (·.1)) us
  | _, _, .nil => .nil
  | _, _, .cons h t => .cons h (each_vals t)
theorem reps_zip {K : PySem.W.Frag} {G : Hp} : ∀ {vs : List V} {ds : List D}, Reps K cl G vs ds → ∀ z ∈ vs.zip ds, Rep K cl G z.1 z.2
  | vs, [], r, z, h => by
    rw [List.zip_nil_right] at h
    exact nomatch h
  | vs, d :: ds, r, z, h => by
    obtain ⟨v, ws, rfl, r1, r2⟩ := r.uncons
    rw [List.zip_cons_cons] at h
    rcases List.mem_cons.mp h with rfl | h
    · exact r1
    · exact reps_zip r2 z h
theorem zip_reps {K : PySem.W.Frag} {G : Hp} : ∀ {zs : List (V × D)}, (∀ z ∈ zs, Rep K cl G z.1 z.2) → Reps K cl G (zs.map (·.1)) (zs.map (·.2))
  | [], _ => Reps.nil
  | z :: zs, h => Reps.cons (h z (List.mem_cons_self ..)) (zip_reps fun y hy => h y (List.mem_cons_of_mem _ hy))
theorem zip_snd {K : PySem.W.Frag} {G : Hp} {vs : List V} {ds : List D} (r : Reps K cl G vs ds) : (vs.zip ds).map (·.2) = ds := by
  rw [List.map_snd_zip]
  rw [r.length]
  exact Nat.le_refl _
def sortZ (zs : List (V × D)) : List (V × D) := zs.mergeSort (PySem.W.dataLe false fun z => z.2.pyd)
theorem sortZ_snd {zs : List (V × D)} : (sortZ zs).map (·.2) = (zs.map (·.2)).mergeSort leD := List.map_mergeSort fun a _ b _ => rfl
/-- sorted(xs), xs a list of data -/
def rSortD (K : PySem.W.Frag) (cl : Nat → Addr) : List V → Hp → VK → Prop := fun xs H Q => ∃ a vs ds, xs = [.ref a] ∧ SqL K H a vs ∧ Reps K cl H vs ds ∧ D.areDat ds = true ∧ Sorts (ds.map D.pyd) ∧ ∀ l, H l = none → Q (.ref l) (upd H l (.lst ((sortZ (vs.zip ds)).map (·.1))))
theorem call_sortD (hu : X.A.units + 64 < cLine) : CallR X (.builtin "sorted") (rSortD X.K cl) := by
  rintro pins s σ H xs us Q I r ⟨a, vs, ds, rfl, sq, rs, hd, so, q⟩
  obtain rfl := Vals.ref1 r
  obtain ⟨its, rv, pl, hz⟩ := I.list sq
  obtain ⟨e1, e2⟩ := each_of I rs hd rv
  have hmap : ((vs.zip ds).map fun z => z.2.pyd) = ds.map D.pyd := by
    have h1 : ((vs.zip ds).map fun z => z.2.pyd) = ((vs.zip ds).map (·.2)).map D.pyd := by rw [List.map_map]; rfl
    rw [h1, zip_snd rs]
  have hlen : (vs.zip ds).length = ds.length := by rw [List.length_zip, rs.length, Nat.min_self]
  refine PySem.W.sorted_data (enc := fun z : V × D => z.2.pyd) pl.isList e1 e2 (by rw [hmap]; exact so.alike) (by rw [hmap]; exact so.kind) (by rw [hlen, ← rs.length]; exact hz) (fun b hb => ?_) fun out ho eo => ?_
  · have := so.low b.2.pyd (by rw [← hmap]; exact List.mem_map.mpr ⟨b, hb, rfl⟩)
    omega
  · obtain ⟨c, hc⟩ := PyProof.Rows.sortedAll_at s.heap its out.toArray
    have hl2 : ((sortZ (vs.zip ds)).map (·.1)).length ≤ sizeLine := by
      rw [List.length_map]
      unfold sortZ
      rw [List.length_mergeSort, hlen, ← rs.length]
      exact hz
    exact ⟨.ref (s.heap.objs.size + 1), _, I.laid (t' := s.toks) (o := .lst ((sortZ (vs.zip ds)).map (·.1))) (fun _ _ => PyProof.Rows.sortedAll_old) (Nat.le_succ _) ⟨hl2, out, c, each_vals eo, hc⟩, rfl, q _ (I.hok.fresh (Nat.le_succ _))⟩
mutual
theorem key_noas {h : Heap} : ∀ (k : NestedKey) (u : Value) (as : List Addr), Reads h u (keyD k).pyd as → as = []
  | .none, _, _, r => by simp only [keyD, D.pyd] at r; cases r; rfl
  | .num _, _, _, r => by simp only [keyD, D.pyd] at r; cases r; rfl
  | .text _, _, _, r => by simp only [keyD, D.pyd] at r; cases r; rfl
  | .tup ks, _, _, r => by
    simp only [keyD, D.pyd] at r
    cases r with
    | tuple h1 h2 h3 h4 => exact keys_noas ks _ _ h4
theorem keys_noas {h : Heap} : ∀ (ks : List NestedKey) (us : List Value) (as : List Addr), ReadsAll h us (D.pyds (keyDs ks)) as → as = []
  | [], _, _, r => by simp only [keyDs, D.pyds] at r; cases r; rfl
  | k :: ks, _, _, r => by
    simp only [keyDs, D.pyds] at r
    cases r with
    | cons h1 h2 => rw [key_noas k _ _ h1, keys_noas ks _ _ h2]; rfl
end
/-- sorted(d), d a dict of tuples -/
def sortN (kvs : NKV) : NKV := kvs.mergeSort (PySem.W.dataLe false fun e => (keyD e.1).pyd)
def rSortN [Wo] (K : PySem.W.Frag) (cl : Nat → Addr) : List V → Hp → VK → Prop := fun xs H Q => ∃ a ep kvs, xs = [.ref a] ∧ H a = some (nD a ep kvs) ∧ NKeys K cl H kvs ∧ (∀ e ∈ kvs, (keyD e.1).isDat = true) ∧ Sorts (kvs.map fun e => (keyD e.1).pyd) ∧
  ∀ l, H l = none → Q (.ref l) (upd H l (.lst (refsOf (sortN kvs))))
theorem call_sortN (hc : X.calm = true) (hu : X.A.units + 64 < cLine) : CallR X (.builtin "sorted") (@rSortN ⟨X.prog, X.w⟩ X.K cl) := by
  rintro pins s σ H xs us Q I r ⟨a, ep, kvs, rfl, hd, nk, hdat, so, q⟩
  obtain rfl := Vals.ref1 r
  obtain ⟨n1, n2, xs, n3, n4, o, es, n5, n6, n7, n8⟩ := nd_of I hd
  have hsz : es.size = kvs.length := (size_of_entries n8).trans (Paired.length n3).symm
  refine Calls.call_function_entry PyProof.Rows.kind_sorted PyProof.Rows.plain_sorted PyProof.Rows.entry_sorted (PyProof.Rows.args_sorted1 _) ?_
  unfold Builtin.«sorted»
  refine wpAny_bind (m := checkCount "sorted" 1 1 _) (wpAny_pure ?_)
  refine wpAny_bind (PySem.W.kdu_collect (A := X.A.in1) (src_raw (es := es) (ep := ep) n1) (I.ok.hd hc) ⟨o, n5, n6, n7⟩ (by rw [hsz]; exact n2) fun h' tk acc hk hacc => ?_)
  have hacc' := vals_keys n3 n8 hacc
  have I1 : Inv X pins σ H { s with heap := h', toks := tk } := I.kept hk
  have hl : acc.toList.length = kvs.length := by rw [hacc', List.length_map]
  refine wpAny_bind (wpAny_newList ?_ (by rw [hl]; exact n2))
  have hoL : (h'.push (PyProof.Rows.seqObj "list" acc.toList.toArray 0)).get? h'.objs.size = some (PyProof.Rows.seqObj "list" acc.toList.toArray 0) := Heap.get?_push_size _ rfl
  have keep : ∀ b u, h'.get? b = some u → (h'.push (PyProof.Rows.seqObj "list" acc.toList.toArray 0)).get? b = some u := fun b u e => Heap.get?_push_of_some _ e
  have eI : ∀ (l : NKV), (∀ e ∈ l, e ∈ kvs) → PySem.W.EachIs (fun u (e : NestedKey × Addr × V) => u = Value.ref e.2.1) (l.map fun e => Value.ref e.2.1) l ∧
      PySem.W.EachIs (fun u (e : NestedKey × Addr × V) => ∃ as, Reads (h'.push (PyProof.Rows.seqObj "list" acc.toList.toArray 0)) u (keyD e.1).pyd as ∧ h'.objs.size ∉ as) (l.map fun e => Value.ref e.2.1) l := by
    intro l hl
    induction l with
    | nil => exact ⟨.nil, .nil⟩
    | cons e l ih =>
      obtain ⟨h1, h2⟩ := ih fun f hf => hl f (List.mem_cons_of_mem _ hf)
      have he := hl e (List.mem_cons_self ..)
      obtain ⟨as, ra⟩ := reads_of I1 (nk e he).1 (hdat e he) (u := Value.ref e.2.1) rfl
      refine ⟨.cons rfl h1, .cons ⟨as, PyProof.Rows.Reads.keeps keep ra, fun hm => ?_⟩ h2⟩
      rw [key_noas _ _ _ ra] at hm
      exact nomatch hm
  obtain ⟨e1, e2⟩ := eI kvs fun _ h => h
  rw [← hacc'] at e1 e2
  refine wpAny_bind (wpAny_holding (PySem.W.list_sort_data (A := X.A.in1) (s := { s with heap := h'.push (PyProof.Rows.seqObj "list" acc.toList.toArray 0), toks := tk }) (enc := fun e : NestedKey × Addr × V => (keyD e.1).pyd)
    hoL e1 e2 so.alike so.kind n2 (fun b hb => ?_) fun out ho eo => ?_))
  · have := so.low (keyD b.1).pyd (List.mem_map.mpr ⟨b, hb, rfl⟩)
    rw [Around.in1_units]
    omega
  · obtain ⟨c, hc'⟩ := PyProof.Rows.sortedHeap_at (vs := acc.toList) (out := out.toArray) hoL
    have hlen : (refsOf (sortN kvs)).length ≤ sizeLine := by
      rw [List.length_map]
      unfold sortN
      rw [List.length_mergeSort]
      exact n2
    have hv : Vals (refsOf (sortN kvs)) out := by
      have : out = (sortN kvs).map fun e => Value.ref e.2.1 := by
        have go : ∀ {us : List Value} {l : NKV}, PySem.W.EachIs (fun u (e : NestedKey × Addr × V) => u = Value.ref e.2.1) us l → us = l.map fun e => Value.ref e.2.1 := by
          intro us l h
          induction h with
          | nil => rfl
          | cons h t ih => rw [h, ih]; rfl
        exact go eo
      rw [this]
      exact vals_refs _
    refine wpAny_pure ⟨_, rfl, .ref h'.objs.size, _, I1.laid (t' := tk) (o := .lst (refsOf (sortN kvs))) (fun b u e => ?_) (Nat.le_refl _) ⟨hlen, out, c, hv, hc'⟩, rfl, q _ (I1.hok.fresh (Nat.le_refl _))⟩
    have hb : b < h'.objs.size := Heap.lt_size e
    rw [PyProof.Rows.sortedHeap_old (Nat.ne_of_lt hb) (by rw [Heap.size_push]; exact Nat.lt_succ_of_lt hb)]
    exact Heap.get?_push_of_some _ e
end
end Cp
/-! Cp7: dicts as data: what is asked, written and walked. -/
namespace Cp
open PySem L2

/-! ### association lists -/
section
variable {κ : Type} [DecidableEq κ] {β : Type}
def valG (kds : List (κ × β)) (k : κ) : Option β := (kds.find? fun x => decide (x.1 = k)).map (·.2)
def putG (kds : List (κ × β)) (k : κ) (d : β) : List (κ × β) := if (valG kds k).isSome then kds.map (fun x => if x.1 = k then (x.1, d) else x) else kds ++ [(k, d)]
def dropG (kds : List (κ × β)) (k : κ) : List (κ × β) := kds.filter fun x => decide (x.1 ≠ k)
end
section
variable (K : PySem.W.Frag) (cl : Nat → Addr)
def NRep (G : Hp) : NKV → List (NestedKey × D) → Prop := Paired fun p q => p.1 = q.1 ∧ Rep K cl G (.ref p.2.1) (keyD p.1) ∧ p.1.depth ≤ 8 ∧ Rep K cl G p.2.2 q.2
def KRep (G : Hp) : List (Key × V) → List (Key × D) → Prop := Paired fun p q => p.1 = q.1 ∧ Rep K cl G p.2 q.2
end
section
variable {K : PySem.W.Frag} {cl : Nat → Addr} {G G' : Hp} {kvs : NKV} {kds : List (NestedKey × D)} {kws : List (Key × V)} {kes : List (Key × D)}
theorem NRep.mono (s : Same G G') (r : NRep K cl G kvs kds) : NRep K cl G' kvs kds := Paired.mapP r fun _ _ h => ⟨h.1, h.2.1.mono s, h.2.2.1, h.2.2.2.mono s⟩
theorem KRep.mono (s : Same G G') (r : KRep K cl G kws kes) : KRep K cl G' kws kes := Paired.mapP r fun _ _ h => ⟨h.1, h.2.mono s⟩
theorem NRep.keys (r : NRep K cl G kvs kds) : NKeys K cl G kvs := by
  induction r with
  | nil => intro e he; exact nomatch he
  | cons h t ih =>
    intro e he
    rcases List.mem_cons.mp he with rfl | he
    · exact ⟨h.2.1, h.2.2.1⟩
    · exact ih e he
theorem NKeys.mono (s : Same G G') (n : NKeys K cl G kvs) : NKeys K cl G' kvs := fun e he => ⟨(n e he).1.mono s, (n e he).2⟩
theorem NRep.length (r : NRep K cl G kvs kds) : kvs.length = kds.length := Paired.length r
theorem KRep.length (r : KRep K cl G kws kes) : kws.length = kes.length := Paired.length r
theorem NRep.val (r : NRep K cl G kvs kds) (k : NestedKey) : (valN kvs k = none ∧ valG kds k = none) ∨ ∃ v d, valN kvs k = some v ∧ valG kds k = some d ∧ Rep K cl G v d := by
  induction r with
  | nil => exact .inl ⟨rfl, rfl⟩
  | @cons p q ps qs h t ih =>
    unfold valN valG
    rw [List.find?_cons, List.find?_cons, ← h.1]
    by_cases e : p.1 = k
    · rw [decide_eq_true e]
      exact .inr ⟨_, _, rfl, rfl, h.2.2.2⟩
    · rw [decide_eq_false e]
      exact ih
theorem KRep.val (r : KRep K cl G kws kes) (k : Key) : (valV kws k = none ∧ valG kes k = none) ∨ ∃ v d, valV kws k = some v ∧ valG kes k = some d ∧ Rep K cl G v d := by
  induction r with
  | nil => exact .inl ⟨rfl, rfl⟩
  | @cons p q ps qs h t ih =>
    unfold valV valG
    rw [List.find?_cons, List.find?_cons, ← h.1]
    by_cases e : p.1 = k
    · rw [decide_eq_true e]
      exact .inr ⟨_, _, rfl, rfl, h.2⟩
    · rw [decide_eq_false e]
      exact ih
theorem NRep.some (r : NRep K cl G kvs kds) {k : NestedKey} {d : D} (h : valG kds k = some d) : ∃ v, valN kvs k = .some v ∧ Rep K cl G v d := by
  rcases r.val k with ⟨_, e⟩ | ⟨v, d', e1, e2, rv⟩
  · rw [e] at h; cases h
  · rw [e2] at h
    exact ⟨v, e1, (Option.some.inj h) ▸ rv⟩
theorem KRep.some (r : KRep K cl G kws kes) {k : Key} {d : D} (h : valG kes k = some d) : ∃ v, valV kws k = .some v ∧ Rep K cl G v d := by
  rcases r.val k with ⟨_, e⟩ | ⟨v, d', e1, e2, rv⟩
  · rw [e] at h; cases h
  · rw [e2] at h
    exact ⟨v, e1, (Option.some.inj h) ▸ rv⟩
theorem NRep.isSome (r : NRep K cl G kvs kds) (k : NestedKey) : (valN kvs k).isSome = (valG kds k).isSome := by
  rcases r.val k with ⟨e1, e2⟩ | ⟨v, d', e1, e2, rv⟩ <;> rw [e1, e2] <;> rfl
theorem KRep.isSome (r : KRep K cl G kws kes) (k : Key) : (valV kws k).isSome = (valG kes k).isSome := by
  rcases r.val k with ⟨e1, e2⟩ | ⟨v, d', e1, e2, rv⟩ <;> rw [e1, e2] <;> rfl
theorem NRep.getD (r : NRep K cl G kvs kds) (k : NestedKey) {z : V} {c : D} (hz : Rep K cl G z c) : Rep K cl G ((valN kvs k).getD z) ((valG kds k).getD c) := by
  rcases r.val k with ⟨e1, e2⟩ | ⟨v, d', e1, e2, rv⟩ <;> rw [e1, e2]
  · exact hz
  · exact rv
theorem KRep.getD (r : KRep K cl G kws kes) (k : Key) {z : V} {c : D} (hz : Rep K cl G z c) : Rep K cl G ((valV kws k).getD z) ((valG kes k).getD c) := by
  rcases r.val k with ⟨e1, e2⟩ | ⟨v, d', e1, e2, rv⟩ <;> rw [e1, e2]
  · exact hz
  · exact rv
theorem NRep.put (r : NRep K cl G kvs kds) {k : NestedKey} {b : Addr} {v : V} {d : D} (hk : Rep K cl G (.ref b) (keyD k)) (h8 : k.depth ≤ 8) (hv : Rep K cl G v d) : NRep K cl G (putN kvs k b v) (putG kds k d) := by
  unfold putN putG
  rw [r.isSome k]
  cases (valG kds k).isSome with
  | true =>
    simp only [if_true]
    induction r with
    | nil => exact .nil
    | @cons p q ps qs h t ih =>
      refine .cons ?_ ih
      dsimp only
      by_cases e : p.1 = k
      · rw [if_pos e, if_pos (h.1 ▸ e)]
        exact ⟨h.1, h.2.1, h.2.2.1, hv⟩
      · rw [if_neg e, if_neg (h.1 ▸ e)]
        exact h
  | false =>
    simp only [Bool.false_eq_true, if_false]
    induction r with
    | nil => exact .cons ⟨rfl, hk, h8, hv⟩ .nil
    | cons h t ih => exact .cons h ih
theorem KRep.put (r : KRep K cl G kws kes) {k : Key} {v : V} {d : D} (hv : Rep K cl G v d) : KRep K cl G (putK kws k v) (putG kes k d) := by
  unfold putK putG
  rw [valV_any, r.isSome k]
  cases (valG kes k).isSome with
  | true =>
    simp only [if_true]
    induction r with
    | nil => exact .nil
    | @cons p q ps qs h t ih =>
      refine .cons ?_ ih
      dsimp only
      by_cases e : p.1 = k
      · rw [if_pos e, if_pos (h.1 ▸ e)]
        exact ⟨h.1, hv⟩
      · rw [if_neg e, if_neg (h.1 ▸ e)]
        exact h
  | false =>
    simp only [Bool.false_eq_true, if_false]
    induction r with
    | nil => exact .cons ⟨rfl, hv⟩ .nil
    | cons h t ih => exact .cons h ih
theorem NRep.drop (r : NRep K cl G kvs kds) (k : NestedKey) : NRep K cl G (dropN kvs k) (dropG kds k) := by
  unfold dropN dropG
  induction r with
  | nil => exact .nil
  | @cons p q ps qs h t ih =>
    rw [List.filter_cons, List.filter_cons]
    by_cases e : p.1 = k
    · rw [if_neg (by simp [e]), if_neg (by rw [← h.1]; simp [e])]
      exact ih
    · rw [if_pos (by simp [e]), if_pos (by rw [← h.1]; simp [e])]
      exact .cons h ih
theorem KRep.drop (r : KRep K cl G kws kes) (k : Key) : KRep K cl G (dropK kws k) (dropG kes k) := by
  unfold dropK dropG
  induction r with
  | nil => exact .nil
  | @cons p q ps qs h t ih =>
    rw [List.filter_cons, List.filter_cons]
    by_cases e : p.1 = k
    · rw [if_neg (by simp [e]), if_neg (by rw [← h.1]; simp [e])]
      exact ih
    · rw [if_pos (by simp [e]), if_pos (by rw [← h.1]; simp [e])]
      exact .cons h ih
theorem NRep.refs (r : NRep K cl G kvs kds) : Reps K cl G (refsOf kvs) (kds.map fun e => keyD e.1) := by
  induction r with
  | nil => exact Reps.nil
  | @cons p q ps qs h t ih =>
    refine Reps.cons ?_ ih
    show Rep K cl G (.ref p.2.1) (keyD q.1)
    rw [← h.1]
    exact h.2.1
theorem NRep.fst (r : NRep K cl G kvs kds) : kvs.map (fun e => keyD e.1) = kds.map fun e => keyD e.1 := by
  induction r with
  | nil => rfl
  | cons h t ih => rw [List.map_cons, List.map_cons, ih, h.1]
theorem NKeys.refs (n : NKeys K cl G kvs) : Reps K cl G (refsOf kvs) (kvs.map fun e => keyD e.1) := Reps.map fun e he => (n e he).1
theorem NRep.sorted (r : NRep K cl G kvs kds) : Reps K cl G (refsOf (sortN kvs)) ((kds.map fun e => keyD e.1).mergeSort leD) := by
  have h1 : NKeys K cl G (sortN kvs) := fun e he => r.keys e ((List.mergeSort_perm _ _).mem_iff.mp he)
  have h2 := h1.refs
  have h3 : (sortN kvs).map (fun e => keyD e.1) = (kvs.map fun e => keyD e.1).mergeSort leD := List.map_mergeSort fun a _ b _ => rfl
  rw [h3, r.fst] at h2
  exact h2
end

/-! ### the readings, either kind of dict -/
section
variable [Wo] (K : PySem.W.Frag) (cl : Nat → Addr)
def rIxK : R2 := fun x y H Q => ∃ a v, x = .ref a ∧ DGet H a y (some v) ∧ Q v H
/-- d[k] of a dict -/
def rIxA : R2 := orR rIxK (rNIx K cl)
def rInK (neg : Bool) : R2 := fun y x H Q => ∃ a o, x = .ref a ∧ DGet H a y o ∧ Q (.bl (neg != o.isSome)) H
/-- k in d of a dict -/
def rInA (neg : Bool) : R2 := orR (rInK neg) (rNIn K cl neg)
/-- d[k] = v of a dict -/
def rSetA : TSet := orSet rSetD (rNSet K cl)
/-- {} -/
def tNew : TE := orE tDNewK tNNew
/-- list(d), sorted(d) of a list or a dict -/
def rListD : List V → Hp → VK → Prop := fun xs H Q => rListN xs H Q
def rSortA : List V → Hp → VK → Prop := fun xs H Q => rSortD K cl xs H Q ∨ rSortN K cl xs H Q
end
section
variable {X : Cx} {cl : Nat → Addr}
theorem ix_dict (hu : X.A.units + 64 < cLine) : IxR X rIxK := by
  rintro value slice pins s σ H x y v u Q I rx ry ⟨a, z, rfl, g, q⟩ hs
  obtain rfl : v = Value.ref a := rx
  exact PyProof.Rows.tail_any (id := "dict.__getitem__") (T := "dict") (dict_typeIs I g) PySem.F.slot_dict_getitem.lookup (d_getItem (by omega) I g ry fun w' s' I' r' => ⟨z, H, I', r', q⟩) hs
theorem ix_dictA (hu : X.A.units + 64 < cLine) : IxR X (@rIxA ⟨X.prog, X.w⟩ X.K cl) := (ix_dict hu).or (ix_nd hu)
theorem op_inK (hu : X.A.units + 64 < cLine) : OpR X (compareOp .In) (rInK false) := by
  rintro pins s σ H y x u v Q I ry rx ⟨a, o, rfl, g, q⟩
  obtain rfl : v = Value.ref a := rx
  refine d_in (by omega) I g ry fun s' I' => ⟨.bl o.isSome, H, I', rfl, ?_⟩
  cases o <;> exact q
theorem op_notInK (hu : X.A.units + 64 < cLine) : OpR X (compareOp .NotIn) (rInK true) := by
  rintro pins s σ H y x u v Q I ry rx ⟨a, o, rfl, g, q⟩
  obtain rfl : v = Value.ref a := rx
  refine d_notIn (by omega) I g ry fun s' I' => ⟨.bl (!o.isSome), H, I', rfl, ?_⟩
  cases o <;> exact q
theorem op_inA (hu : X.A.units + 64 < cLine) : OpR X (compareOp .In) (@rInA ⟨X.prog, X.w⟩ X.K cl false) := op_or (op_inK hu) (op_nin hu)
theorem op_notInA (hu : X.A.units + 64 < cLine) : OpR X (compareOp .NotIn) (@rInA ⟨X.prog, X.w⟩ X.K cl true) := op_or (op_notInK hu) (op_nnotin hu)
theorem set_dictA (hu : X.A.units + 64 < cLine) : PSet X (@rSetA ⟨X.prog, X.w⟩ X.K cl) := set_or (set_dict (by omega)) (set_nd hu)
theorem pe_new {pos : Pos} : PE X (.Dict [] [] pos) (@tNew ⟨X.prog, X.w⟩) := pe_or pe_dnewK pe_nnew
theorem call_sortA (hc : X.calm = true) (hu : X.A.units + 64 < cLine) : CallR X (.builtin "sorted") (@rSortA ⟨X.prog, X.w⟩ X.K cl) := fun pins s σ H xs us Q I r h => h.elim (call_sortD hu pins s σ H xs us Q I r) (call_sortN hc hu pins s σ H xs us Q I r)
end

/-! ### rules -/
section
variable [Wo] {K : PySem.W.Frag} {cl : Nat → Addr} {p q r : Bool} {M M1 M2 M3 M4 : ML} {G G1 G2 G3 H H1 H2 H3 : Hp} {σ : St} {ta tb tc te : TE} {tx : TA} {tt tu : TT} {d d1 d2 d3 : D} {ds es : List D}
variable {a : Addr} {ep : Nat} {kvs : NKV} {kds : List (NestedKey × D)} {kws : List (Key × V)} {kes : List (Key × D)} {nx : St → Hp → Prop} {rt : VK} {bk ct : St → Hp → Prop}
def kD : Key → D
  | .inl i => .int i
  | .inr x => .str x
theorem rep_kD {G : Hp} {v : V} {k : Key} (h : Rep K cl G v (kD k)) : v = kV k := by
  cases k with
  | inl i => exact h.of_int
  | inr x => exact h.of_str
/-- a key is a tuple, not too deep -/
structure IsNK (k : NestedKey) : Prop where
  tup : ∃ ks, k = .tup ks
  low : k.depth ≤ 8
theorem nkey_ref {G : Hp} {v : V} {k : NestedKey} (h : Rep K cl G v (keyD k)) (i : IsNK k) : ∃ b, v = .ref b := by
  obtain ⟨ks, rfl⟩ := i.tup
  simp only [keyD] at h
  obtain ⟨b, vs, e, _⟩ := h.of_tup
  exact ⟨b, e⟩
theorem nat_mk {G1 G2 H2 : Hp} {y : V} {k : NestedKey} (S : Sep G2 H2 M2) (hm : At M2 a (nD a ep kvs)) (hr : NRep K cl G1 kvs kds) (s : Same G1 G2) (ry : Rep K cl G2 y (keyD k)) (i : IsNK k) : ∃ b, y = .ref b ∧ NAt K cl (.ref a) y H2 a b ep kvs k := by
  obtain ⟨b, rfl⟩ := nkey_ref ry i
  exact ⟨b, rfl, rfl, rfl, S.look hm, ((hr.mono s).mono S.sub).keys, ry.mono S.sub, i.low⟩
theorem ev_nget {k : NestedKey} (ha : EvX K cl p ta σ G M (.loc a) M1) (hb : EvX K cl q tb σ G M1 d1 M2) (hk : d1 = keyD k) (i : IsNK k) (hm : At M2 a (nD a ep kvs)) (hr : NRep K cl G kvs kds) (hv : valG kds k = some d) :
    EvX K cl (p && q) (tOp (rIxA K cl) ta tb) σ G M d M2 := fun G1 H1 s S Q kk =>
  ha G1 H1 s S _ fun x G2 H2 g2 rx => hb G2 H2 (s.trans g2.same) g2.sep _ fun y G3 H3 g3 ry => by
    obtain rfl := rx.of_loc
    rw [hk] at ry
    obtain ⟨b, rfl, n⟩ := nat_mk g3.sep hm hr ((s.trans g2.same).trans g3.same) ry i
    obtain ⟨v, e, rv⟩ := hr.some hv
    exact .inr ⟨a, b, ep, kvs, k, v, n, e, kk v G3 H3 (g2.trans g3) (rv.mono ((s.trans g2.same).trans g3.same))⟩
theorem ev_kget {k : Key} (ha : EvX K cl p ta σ G M (.loc a) M1) (hb : EvX K cl q tb σ G M1 d1 M2) (hk : d1 = kD k) (hm : At M2 a (.dK kws)) (hr : KRep K cl G kws kes) (hv : valG kes k = some d) :
    EvX K cl (p && q) (tOp (rIxA K cl) ta tb) σ G M d M2 := fun G1 H1 s S Q kk =>
  ha G1 H1 s S _ fun x G2 H2 g2 rx => hb G2 H2 (s.trans g2.same) g2.sep _ fun y G3 H3 g3 ry => by
    obtain rfl := rx.of_loc
    rw [hk] at ry
    obtain ⟨v, e, rv⟩ := hr.some hv
    exact .inl ⟨a, v, rfl, .inl ⟨kws, k, .inl (g3.sep.look hm), rep_kD ry, e.symm⟩, kk v G3 H3 (g2.trans g3) (rv.mono ((s.trans g2.same).trans g3.same))⟩
theorem ev_nin {k : NestedKey} {neg : Bool} (hb : EvX K cl p tb σ G M d1 M1) (ha : EvX K cl q ta σ G M1 (.loc a) M2) (hk : d1 = keyD k) (i : IsNK k) (hm : At M2 a (nD a ep kvs)) (hr : NRep K cl G kvs kds) :
    EvX K cl (p && q) (tOp (rInA K cl neg) tb ta) σ G M (.bl (neg != (valG kds k).isSome)) M2 := fun G1 H1 s S Q kk =>
  hb G1 H1 s S _ fun y G2 H2 g2 ry => ha G2 H2 (s.trans g2.same) g2.sep _ fun x G3 H3 g3 rx => by
    obtain rfl := rx.of_loc
    rw [hk] at ry
    obtain ⟨b, rfl, n⟩ := nat_mk g3.sep hm hr ((s.trans g2.same).trans g3.same) (ry.mono g3.same) i
    refine .inr ⟨a, b, ep, kvs, k, n, ?_⟩
    rw [hr.isSome]
    exact kk _ G3 H3 (g2.trans g3) Rep.bl
theorem ev_kin {k : Key} {neg : Bool} (hb : EvX K cl p tb σ G M d1 M1) (ha : EvX K cl q ta σ G M1 (.loc a) M2) (hk : d1 = kD k) (hm : At M2 a (.dK kws)) (hr : KRep K cl G kws kes) :
    EvX K cl (p && q) (tOp (rInA K cl neg) tb ta) σ G M (.bl (neg != (valG kes k).isSome)) M2 := fun G1 H1 s S Q kk =>
  hb G1 H1 s S _ fun y G2 H2 g2 ry => ha G2 H2 (s.trans g2.same) g2.sep _ fun x G3 H3 g3 rx => by
    obtain rfl := rx.of_loc
    rw [hk] at ry
    refine .inl ⟨a, _, rfl, .inl ⟨kws, k, .inl (g3.sep.look hm), rep_kD ry, rfl⟩, ?_⟩
    rw [hr.isSome]
    exact kk _ G3 H3 (g2.trans g3) Rep.bl
theorem ev_nget1 {k : NestedKey} (ha : EvX K cl p ta σ G M (.loc a) M1) (hb : EvX K cl q tb σ G M1 d1 M2) (hk : d1 = keyD k) (i : IsNK k) (hm1 : At M1 a (nD a ep kvs)) (hm : At M2 a (nD a ep kvs)) (hr : NRep K cl G kvs kds) :
    EvX K cl (p && q) (tGet1 K cl ta tb) σ G M ((valG kds k).getD .non) M2 := fun G1 H1 s S Q kk =>
  ha G1 H1 s S _ fun x G2 H2 g2 rx => ⟨a, rx.of_loc, .inr ⟨ep, kvs, g2.sep.look hm1⟩, hb G2 H2 (s.trans g2.same) g2.sep _ fun y G3 H3 g3 ry => by
    obtain rfl := rx.of_loc
    rw [hk] at ry
    obtain ⟨b, rfl, n⟩ := nat_mk g3.sep hm hr ((s.trans g2.same).trans g3.same) ry i
    exact .inr ⟨b, ep, kvs, k, n, kk _ G3 H3 (g2.trans g3) ((hr.getD k Rep.non).mono ((s.trans g2.same).trans g3.same))⟩⟩
theorem ev_kget1 {k : Key} (ha : EvX K cl p ta σ G M (.loc a) M1) (hb : EvX K cl q tb σ G M1 d1 M2) (hk : d1 = kD k) (hm1 : At M1 a (.dK kws)) (hm : At M2 a (.dK kws)) (hr : KRep K cl G kws kes) :
    EvX K cl (p && q) (tGet1 K cl ta tb) σ G M ((valG kes k).getD .non) M2 := fun G1 H1 s S Q kk =>
  ha G1 H1 s S _ fun x G2 H2 g2 rx => ⟨a, rx.of_loc, .inl (.inl ⟨kws, .inl (g2.sep.look hm1)⟩), hb G2 H2 (s.trans g2.same) g2.sep _ fun y G3 H3 g3 ry => by
    rw [hk] at ry
    exact .inl ⟨_, .inl ⟨kws, k, .inl (g3.sep.look hm), rep_kD ry, rfl⟩, kk _ G3 H3 (g2.trans g3) ((hr.getD k Rep.non).mono ((s.trans g2.same).trans g3.same))⟩⟩
theorem ev_nget2 {k : NestedKey} (ha : EvX K cl p ta σ G M (.loc a) M1) (hb : EvX K cl q tb σ G M1 d1 M2) (hz : EvX K cl r tc σ G M2 d2 M3) (hk : d1 = keyD k) (i : IsNK k) (hm1 : At M1 a (nD a ep kvs)) (hm : At M3 a (nD a ep kvs)) (hr : NRep K cl G kvs kds) :
    EvX K cl (p && q && r) (tGet2 K cl ta tb tc) σ G M ((valG kds k).getD d2) M3 := fun G1 H1 s S Q kk =>
  ha G1 H1 s S _ fun x G2 H2 g2 rx => ⟨a, rx.of_loc, .inr ⟨ep, kvs, g2.sep.look hm1⟩, hb G2 H2 (s.trans g2.same) g2.sep _ fun y G3 H3 g3 ry => hz G3 H3 ((s.trans g2.same).trans g3.same) g3.sep _ fun z G4 H4 g4 rz => by
    obtain rfl := rx.of_loc
    rw [hk] at ry
    have sA := ((s.trans g2.same).trans g3.same).trans g4.same
    obtain ⟨b, rfl, n⟩ := nat_mk g4.sep hm hr sA (ry.mono g4.same) i
    exact .inr ⟨b, ep, kvs, k, n, kk _ G4 H4 ((g2.trans g3).trans g4) ((hr.mono sA).getD k rz)⟩⟩
theorem ev_kget2 {k : Key} (ha : EvX K cl p ta σ G M (.loc a) M1) (hb : EvX K cl q tb σ G M1 d1 M2) (hz : EvX K cl r tc σ G M2 d2 M3) (hk : d1 = kD k) (hm1 : At M1 a (.dK kws)) (hm : At M3 a (.dK kws)) (hr : KRep K cl G kws kes) :
    EvX K cl (p && q && r) (tGet2 K cl ta tb tc) σ G M ((valG kes k).getD d2) M3 := fun G1 H1 s S Q kk =>
  ha G1 H1 s S _ fun x G2 H2 g2 rx => ⟨a, rx.of_loc, .inl (.inl ⟨kws, .inl (g2.sep.look hm1)⟩), hb G2 H2 (s.trans g2.same) g2.sep _ fun y G3 H3 g3 ry => hz G3 H3 ((s.trans g2.same).trans g3.same) g3.sep _ fun z G4 H4 g4 rz => by
    rw [hk] at ry
    have sA := ((s.trans g2.same).trans g3.same).trans g4.same
    exact .inl ⟨_, .inl ⟨kws, k, .inl (g4.sep.look hm), rep_kD (ry.mono g4.same), rfl⟩, kk _ G4 H4 ((g2.trans g3).trans g4) ((hr.mono sA).getD k rz)⟩⟩
theorem eg_newN {F : V → Hp → ML → Prop} (hF : ∀ u, F (.ref u) G ((u, nD u 0 []) :: M)) (hm : ∀ v G' M', Same G G' → F v G M' → F v G' M') : EvG tNew σ G M F := fun G1 H1 s S Q k =>
  .inr fun u hu => k (.ref u) G1 _ _ (Same.refl _) (S.newM hu) (hm _ _ _ s (hF u))
theorem eg_newK {F : V → Hp → ML → Prop} (hF : ∀ u, F (.ref u) G ((u, .dK []) :: M)) (hm : ∀ v G' M', Same G G' → F v G M' → F v G' M') : EvG tNew σ G M F := fun G1 H1 s S Q k =>
  .inl fun u hu => k (.ref u) G1 _ _ (Same.refl _) (S.newM hu) (hm _ _ _ s (hF u))
/-- d[k] = e -/
theorem s_nput {k : NestedKey} {M' : Nat → Addr → V → ML} (S : Sep G H M) (he : EvX K cl p te σ G M d M1) (ha : EvX K cl q ta σ G M1 (.loc a) M2) (hi : EvX K cl r tb σ G M2 d1 M3) (hk : d1 = keyD k) (i : IsNK k) (hr : NRep K cl G kvs kds) (hl : kds.length ≤ 100000)
    (hm : ∀ ep' b v, Ch M3 a (nD a ep kvs) (nD a ep' (putN kvs k b v)) (M' ep' b v)) (kk : ∀ ep' b v G' H', Same G G' → Sep G' H' (M' ep' b v) → NRep K cl G' (putN kvs k b v) (putG kds k d) → nx σ H') : tAsg te (gSub ta tb (rSetA K cl)) ⟨nx, rt, bk, ct⟩ σ H :=
  he G H (Same.refl _) S _ fun v G2 H2 g2 rv => ha G2 H2 g2.same g2.sep _ fun x G3 H3 g3 rx => hi G3 H3 (g2.same.trans g3.same) g3.sep _ fun y G4 H4 g4 ry => by
    obtain rfl := rx.of_loc
    rw [hk] at ry
    have sA := (g2.same.trans g3.same).trans g4.same
    obtain ⟨b, rfl, n⟩ := nat_mk (kds := kds) g4.sep (hm 0 0 v).at hr sA ry i
    refine .inr ⟨a, b, ep, kvs, k, n, ?_, fun ep' => kk ep' b v G4 _ sA (g4.sep.ch (hm ep' b v)) ((hr.mono sA).put ry i.low (rv.mono (g3.same.trans g4.same)))⟩
    rw [hr.length]
    exact Nat.lt_of_le_of_lt hl (by decide)
theorem s_kput {k : Key} {M' : V → ML} (S : Sep G H M) (he : EvX K cl p te σ G M d M1) (ha : EvX K cl q ta σ G M1 (.loc a) M2) (hi : EvX K cl r tb σ G M2 d1 M3) (hk : d1 = kD k) (hr : KRep K cl G kws kes) (hl : kes.length ≤ 100000)
    (hm : ∀ v, Ch M3 a (.dK kws) (.dK (putK kws k v)) (M' v)) (kk : ∀ v G' H', Same G G' → Sep G' H' (M' v) → KRep K cl G' (putK kws k v) (putG kes k d) → nx σ H') : tAsg te (gSub ta tb (rSetA K cl)) ⟨nx, rt, bk, ct⟩ σ H :=
  he G H (Same.refl _) S _ fun v G2 H2 g2 rv => ha G2 H2 g2.same g2.sep _ fun x G3 H3 g3 rx => hi G3 H3 (g2.same.trans g3.same) g3.sep _ fun y G4 H4 g4 ry => by
    obtain rfl := rx.of_loc
    rw [hk] at ry
    have sA := (g2.same.trans g3.same).trans g4.same
    refine .inl ⟨a, _, rfl, .inl ⟨kws, k, g4.sep.look (hm v).at, rep_kD ry, ?_, rfl⟩, kk v G4 _ sA (g4.sep.ch (hm v)) ((hr.mono sA).put (rv.mono (g3.same.trans g4.same)))⟩
    rw [hr.length]
    exact Nat.lt_of_le_of_lt hl (by decide)
theorem s_ndel {k : NestedKey} {M' : Nat → ML} (S : Sep G H M) (ha : EvX K cl p ta σ G M (.loc a) M1) (hi : EvX K cl q tb σ G M1 d1 M2) (hk : d1 = keyD k) (i : IsNK k) (hr : NRep K cl G kvs kds) (hv : (valG kds k).isSome = true)
    (hm : ∀ ep', Ch M2 a (nD a ep kvs) (nD a ep' (dropN kvs k)) (M' ep')) (kk : ∀ ep' G' H', Same G G' → Sep G' H' (M' ep') → NRep K cl G' (dropN kvs k) (dropG kds k) → nx σ H') : sDelA K cl ta tb ⟨nx, rt, bk, ct⟩ σ H :=
  ha G H (Same.refl _) S _ fun x G3 H3 g3 rx => hi G3 H3 g3.same g3.sep _ fun y G4 H4 g4 ry => by
    obtain rfl := rx.of_loc
    rw [hk] at ry
    have sA := g3.same.trans g4.same
    obtain ⟨b, rfl, n⟩ := nat_mk (kds := kds) g4.sep (hm 0).at hr sA ry i
    exact .inr ⟨a, b, ep, kvs, k, n, by rw [hr.isSome]; exact hv, fun ep' => kk ep' G4 _ sA (g4.sep.ch (hm ep')) ((hr.mono sA).drop k)⟩
theorem s_kdel {k : Key} {M' : ML} (S : Sep G H M) (ha : EvX K cl p ta σ G M (.loc a) M1) (hi : EvX K cl q tb σ G M1 d1 M2) (hk : d1 = kD k) (hr : KRep K cl G kws kes) (hv : (valG kes k).isSome = true)
    (hm : Ch M2 a (.dK kws) (.dK (dropK kws k)) M') (kk : ∀ G' H', Same G G' → Sep G' H' M' → KRep K cl G' (dropK kws k) (dropG kes k) → nx σ H') : sDelA K cl ta tb ⟨nx, rt, bk, ct⟩ σ H :=
  ha G H (Same.refl _) S _ fun x G3 H3 g3 rx => hi G3 H3 g3.same g3.sep _ fun y G4 H4 g4 ry => by
    obtain rfl := rx.of_loc
    rw [hk] at ry
    have sA := g3.same.trans g4.same
    exact .inl ⟨a, kws, k, rfl, g4.sep.look hm.at, rep_kD ry, by rw [hr.isSome]; exact hv, kk G4 _ sA (g4.sep.ch hm) ((hr.mono sA).drop k)⟩
end
end Cp
/-! Cp8: loops over the keys of a dict of tuples, over owned lists; sorted() as data. -/
namespace Cp
open PySem L2

/-- J yields the things xs, one by one, while ok holds -/
structure Yields (J : It) (xs : List V) (ok : Hp → Prop) : Prop where
  go : ∀ i H, i < xs.length → ok H → J.go i H
  stop : ∀ H, ok H → J.stop xs.length H
  yld : ∀ i H x H', i < xs.length → ok H → J.yld i H x H' → H' = H ∧ xs[i]? = some x
theorem yields_nd [Wo] {a : Addr} {ep : Nat} {kvs : NKV} : Yields (ItN a ep kvs) (refsOf kvs) (fun H => H a = some (nD a ep kvs)) where
  go := fun i H hi e => ⟨e, by simpa using hi⟩
  stop := fun H e => ⟨e, by simp⟩
  yld := fun i H x H' _ _ y => ⟨y.1, by
    obtain ⟨e, he, rfl⟩ := y.2
    rw [List.getElem?_map, he]; rfl⟩
theorem yields_lst {K : PySem.W.Frag} {a : Addr} {xs : List V} : Yields (Itl K a) xs (fun H => SqL K H a xs) where
  go := fun i H hi e => ⟨xs, xs[i], e, List.getElem?_eq_getElem hi⟩
  stop := fun H e => ⟨xs, e, Nat.le_refl _⟩
  yld := fun i H x H' _ e y => ⟨y.1, y.2 xs e⟩
theorem for_y {J : It} {xs : List V} {ok : Hp → Prop} {g : TG} {tb : TS} {Dn : Ends} {σ : St} {H : Hp} (Y : Yields J xs ok) (Pv : Nat → St → Hp → Prop) (h0 : Pv 0 σ H) (hl : ∀ i σ H, i ≤ xs.length → Pv i σ H → ok H)
    (hs : ∀ i x σ H, xs[i]? = some x → Pv i σ H → g x σ H fun σ2 H2 => tb { Dn with nx := Pv (i + 1), ct := Pv (i + 1), bk := Dn.nx } σ2 H2) (hd : ∀ σ H, Pv xs.length σ H → Dn.nx σ H) :
    ∃ W : Nat → Nat → St → Hp → Prop, (∃ m, W 0 m σ H) ∧ ∀ i m σ H, W i m σ H →
      (J.stop i H ∧ Dn.nx σ H) ∨ (J.go i H ∧ ∃ N : St → Hp → Prop, (∀ σ' H', N σ' H' → ∃ m', m' < m ∧ W (i + 1) m' σ' H') ∧ ∀ x H', J.yld i H x H' → g x σ H' fun σ2 H2 => tb { Dn with nx := N, ct := N, bk := Dn.nx } σ2 H2) := by
  refine ⟨fun i m σ H => m = xs.length - i ∧ i ≤ xs.length ∧ Pv i σ H, ⟨_, rfl, Nat.zero_le _, h0⟩, ?_⟩
  rintro i m σ H ⟨rfl, hi, p⟩
  have q := hl i σ H hi p
  rcases Nat.lt_or_ge i xs.length with lt | ge
  · refine .inr ⟨Y.go i H lt q, Pv (i + 1), fun σ' H' p' => ⟨xs.length - (i + 1), by omega, rfl, lt, p'⟩, fun x H' y => ?_⟩
    obtain ⟨e, hx⟩ := Y.yld i H x H' lt q y
    rw [e]
    exact hs i x σ H hx p
  · obtain rfl : i = xs.length := Nat.le_antisymm hi ge
    exact .inl ⟨Y.stop H q, hd σ H p⟩
theorem lc_y {J : It} {xs : List V} {ok : Hp → Prop} {g : TG} {tt : TT} {te : TE} {vs : List Nat} {σ : St} {H1 : Hp} {Da : Addr} {Qd : Hp → Prop} (Y : Yields J xs ok) (Pv : Nat → Hp → Prop) (h0 : Pv 0 (upd H1 Da (.lst []))) (hl : ∀ i H, i ≤ xs.length → Pv i H → ok H)
    (hs : ∀ i x H, xs[i]? = some x → Pv i H → g x (wipe σ vs) H fun σ2 H2 => wipe σ2 vs = wipe σ vs ∧ tt σ2 H2 fun b H3 =>
      if b = true then te σ2 H3 fun y H4 => ∃ acc, H4 Da = some (.lst acc) ∧ acc.length < sizeLine ∧ Pv (i + 1) (upd H4 Da (.lst (acc ++ [y]))) else Pv (i + 1) H3) (hd : ∀ H, Pv xs.length H → Qd H) :
    ∃ W : Nat → Nat → Hp → Prop, (∃ m, W 0 m (upd H1 Da (.lst []))) ∧ ∀ i m H, W i m H →
      (J.stop i H ∧ Qd H) ∨ (J.go i H ∧ ∃ Nx : Hp → Prop, (∀ H', Nx H' → ∃ m', m' < m ∧ W (i + 1) m' H') ∧ ∀ x H', J.yld i H x H' → g x (wipe σ vs) H' fun σ2 H2 => wipe σ2 vs = wipe σ vs ∧ tt σ2 H2 fun b H3 =>
        if b = true then te σ2 H3 fun y H4 => ∃ acc, H4 Da = some (.lst acc) ∧ acc.length < sizeLine ∧ Nx (upd H4 Da (.lst (acc ++ [y]))) else Nx H3) := by
  refine ⟨fun i m H => m = xs.length - i ∧ i ≤ xs.length ∧ Pv i H, ⟨_, rfl, Nat.zero_le _, h0⟩, ?_⟩
  rintro i m H ⟨rfl, hi, p⟩
  have q := hl i H hi p
  rcases Nat.lt_or_ge i xs.length with lt | ge
  · refine .inr ⟨Y.go i H lt q, Pv (i + 1), fun H' p' => ⟨xs.length - (i + 1), by omega, rfl, lt, p'⟩, fun x H' y => ?_⟩
    obtain ⟨e, hx⟩ := Y.yld i H x H' lt q y
    rw [e]
    exact hs i x H hx p
  · obtain rfl : i = xs.length := Nat.le_antisymm hi ge
    exact .inl ⟨Y.stop H q, hd H p⟩

section
variable [Wo] {K : PySem.W.Frag} {cl : Nat → Addr} {p q r : Bool} {M M1 M2 M3 M4 : ML} {G G1 G2 G3 H H1 H2 H3 : Hp} {σ : St} {ta tb tc te tl : TE} {tx : TA} {tt tu : TT} {d d1 d2 d3 : D} {ds es : List D}
variable {a : Addr} {ep : Nat} {kvs : NKV} {kds : List (NestedKey × D)} {nx : St → Hp → Prop} {rt : VK} {bk ct : St → Hp → Prop} {vs : List V} {g : TG} {tg : TS}
/-- for k in d, d a dict of tuples that the loop does not change -/
theorem s_forN {tb : TS} (J : Nat → St → Hp → ML → Prop) (S : Sep G H M) (h : EvX K cl p tl σ G M (.loc a) M1) (hm : At M1 a (nD a ep kvs)) (hr : NRep K cl G kvs kds) (h0 : ∀ G' H', Go p M M1 G H G' H' → J 0 σ G' M1)
    (hk : ∀ i σ' G' M', J i σ' G' M' → At M' a (nD a ep kvs))
    (hs : ∀ G2, Same G G2 → ∀ i x e σ' G' H' M', kds[i]? = some e → Same G2 G' → Sep G' H' M' → Rep K cl G' x (keyD e.1) → J i σ' G' M' → g x σ' H' fun σ2 H2 => tb ⟨Nx G2 J (i + 1), rt, nx, Nx G2 J (i + 1)⟩ σ2 H2)
    (hd : ∀ σ' G' H' M', Same G G' → Sep G' H' M' → J kds.length σ' G' M' → nx σ' H') : tFor (iNKeys tl) g tb ⟨nx, rt, bk, ct⟩ σ H :=
  h G H (Same.refl _) S _ fun x G2 H2 g2 rx => by
    have rs := (hr.mono g2.same).refs
    have hl : (refsOf kvs).length = kds.length := by rw [List.length_map, hr.length]
    refine ⟨a, ep, kvs, rx.of_loc, g2.sep.look hm, for_y yields_nd (Nx G2 J) ⟨G2, M1, Same.refl _, g2.sep, h0 G2 H2 g2⟩ ?_ ?_ ?_⟩
    · rintro i σ' H' hi ⟨G', M', s', S', j⟩
      exact S'.look (hk _ _ _ _ j)
    · rintro i y σ' H' hy ⟨G', M', s', S', j⟩
      obtain ⟨d, hd', rd⟩ := rs.get hy
      rw [List.getElem?_map] at hd'
      cases he : kds[i]? with
      | none => rw [he] at hd'; cases hd'
      | some e =>
        rw [he] at hd'
        have hd2 : keyD e.1 = d := Option.some.inj hd'
        subst hd2
        exact hs G2 g2.same i y e σ' G' H' M' he s' S' (rd.mono s') j
    · rintro σ' H' ⟨G', M', s', S', j⟩
      rw [hl] at j
      exact hd σ' G' H' M' (g2.same.trans s') S' j
/-- for x in xs, xs an owned list that the loop does not change -/
theorem s_forM {tb : TS} (J : Nat → St → Hp → ML → Prop) (S : Sep G H M) (h : EvX K cl p tl σ G M (.loc a) M1) (hm : At M1 a (.lst vs)) (hr : Reps K cl G vs ds) (h0 : ∀ G' H', Go p M M1 G H G' H' → J 0 σ G' M1)
    (hk : ∀ i σ' G' M', J i σ' G' M' → At M' a (.lst vs))
    (hs : ∀ G2, Same G G2 → ∀ i x d σ' G' H' M', ds[i]? = some d → Same G2 G' → Sep G' H' M' → Rep K cl G' x d → J i σ' G' M' → g x σ' H' fun σ2 H2 => tb ⟨Nx G2 J (i + 1), rt, nx, Nx G2 J (i + 1)⟩ σ2 H2)
    (hd : ∀ σ' G' H' M', Same G G' → Sep G' H' M' → J ds.length σ' G' M' → nx σ' H') : tFor (iSeq K tl) g tb ⟨nx, rt, bk, ct⟩ σ H :=
  .inl (h G H (Same.refl _) S _ fun x G2 H2 g2 rx => by
    have rs := hr.mono g2.same
    refine ⟨a, rx.of_loc, ⟨vs, .inl (.inl (g2.sep.look hm))⟩, for_y (yields_lst (xs := vs)) (Nx G2 J) ⟨G2, M1, Same.refl _, g2.sep, h0 G2 H2 g2⟩ ?_ ?_ ?_⟩
    · rintro i σ' H' hi ⟨G', M', s', S', j⟩
      exact .inl (.inl (S'.look (hk _ _ _ _ j)))
    · rintro i y σ' H' hy ⟨G', M', s', S', j⟩
      obtain ⟨d, hd', rd⟩ := rs.get hy
      exact hs G2 g2.same i y d σ' G' H' M' hd' s' S' (rd.mono s') j
    · rintro σ' H' ⟨G', M', s', S', j⟩
      rw [rs.length] at j
      exact hd σ' G' H' M' (g2.same.trans s') S' j)
/-- a comprehension over things that stay as they are -/
theorem ev_lcY {vs : List Nat} {f : D → D} {keep : D → Bool} {J : It} {us : List V} {ok : Hp → Prop} (Y : Yields J us ok) (hok : ∀ e G' H', Same G G' → Sep G' H' (e :: M1) → ok H') (rs : Reps K cl G us ds) (hl : ds.length ≤ 10000000) (sG : Same G G2) (S2 : Sep G2 H2 M1)
    (hs : ∀ G1 e x d, Same G G1 → d ∈ ds → Rep K cl G1 x d → LcT K cl g tt te vs σ G1 (e :: M1) x (keep d) (f d)) {Q : VK} (k : ∀ v G' H', Go false M1 M1 G2 H2 G' H' → Rep K cl G' v (.lst ((ds.filter keep).map f)) → Q v H') :
    ∀ Da, H2 Da = none → ∃ W : Nat → Nat → Hp → Prop, (∃ m, W 0 m (upd H2 Da (.lst []))) ∧ ∀ i m H, W i m H →
      (J.stop i H ∧ Q (.ref Da) H) ∨ (J.go i H ∧ ∃ Nx : Hp → Prop, (∀ H', Nx H' → ∃ m', m' < m ∧ W (i + 1) m' H') ∧ ∀ x H', J.yld i H x H' → g x (wipe σ vs) H' fun σ2 H2 => wipe σ2 vs = wipe σ vs ∧ tt σ2 H2 fun b H3 =>
        if b = true then te σ2 H3 fun y H4 => ∃ acc, H4 Da = some (.lst acc) ∧ acc.length < sizeLine ∧ Nx (upd H4 Da (.lst (acc ++ [y]))) else Nx H3) := fun Da hD => by
  refine lc_y Y (fun i H => ∃ G' acc, Same G2 G' ∧ Sep G' H ((Da, .lst acc) :: M1) ∧ Reps K cl G' acc (((ds.take i).filter keep).map f)) ⟨G2, [], Same.refl _, S2.newM hD, Reps.nil⟩ ?_ ?_ ?_
  · rintro i H hi ⟨G', acc, s', S', ra⟩
    exact hok _ G' H (sG.trans s') S'
  · rintro i x H hx ⟨G', acc, s', S', ra⟩
    obtain ⟨d, hdi, rd⟩ := rs.get hx
    obtain ⟨σ2, p', q', hw, hg, ht, he⟩ := hs G' (Da, .lst acc) x d (sG.trans s') (List.mem_of_getElem? hdi) (rd.mono (sG.trans s'))
    refine hg H _ S' ⟨hw, ht G' H (Same.refl _) S' _ fun G3 H3 g3 => ?_⟩
    have e1 : ds.take (i + 1) = ds.take i ++ [d] := by rw [List.take_add_one, hdi]; rfl
    have hal : acc.length ≤ ds.length := by
      rw [ra.length, List.length_map]
      exact Nat.le_trans (List.length_filter_le _ _) (by rw [List.length_take]; omega)
    cases hk : keep d with
    | true =>
      rw [if_pos rfl]
      refine he hk G3 H3 g3.same g3.sep _ fun y G4 H4 g4 ry => ?_
      have sA := g3.same.trans g4.same
      refine ⟨acc, g4.sep.look .hd, Nat.lt_of_le_of_lt (Nat.le_trans hal hl) (by decide), G4, acc ++ [y], s'.trans sA, g4.sep.ch .hd, ?_⟩
      rw [e1, List.filter_append, List.map_append]
      refine Reps.append (ra.mono sA) ?_
      rw [List.filter_cons, if_pos hk]
      exact Reps.one ry
    | false =>
      rw [if_neg (by decide)]
      refine ⟨G3, acc, s'.trans g3.same, g3.sep, ?_⟩
      rw [e1, List.filter_append, List.map_append, List.filter_cons, if_neg (by rw [hk]; decide)]
      show Reps K cl G3 acc (_ ++ [])
      rw [List.append_nil]
      exact ra.mono g3.same
  · rintro H ⟨G', acc, s', S', ra⟩
    rw [rs.length, List.take_length] at ra
    obtain ⟨S3, s3⟩ := S'.freeze
    exact k (.ref Da) _ H (Go.of (s'.trans s3) S3) (Rep.lst (.inl (.inl upd_same)) (ra.mono s3))
theorem ev_lcN {vs : List Nat} {f : D → D} {keep : D → Bool} (h : EvX K cl p tl σ G M (.loc a) M1) (hm : At M1 a (nD a ep kvs)) (hr : NRep K cl G kvs kds) (hl : kds.length ≤ 10000000)
    (hs : ∀ G1 e x d, Same G G1 → d ∈ kds.map (fun e => keyD e.1) → Rep K cl G1 x d → LcT K cl g tt te vs σ G1 (e :: M1) x (keep d) (f d)) : EvX K cl false (tLc (iNKeys tl) g tt te vs) σ G M (.lst (((kds.map fun e => keyD e.1).filter keep).map f)) M1 := fun G1 H1 s S Q k =>
  h G1 H1 s S _ fun x G2 H2 g2 rx => ⟨a, ep, kvs, rx.of_loc, g2.sep.look hm, ev_lcY yields_nd (fun e G' H' _ S' => S'.look (.tl hm)) hr.refs (by rw [List.length_map]; exact hl) (s.trans g2.same) g2.sep hs fun v G' H' g' rv => k v G' H' (Go.of (g2.same.trans g'.same) g'.sep) rv⟩
theorem ev_lcM {us : List V} {vs : List Nat} {f : D → D} {keep : D → Bool} (h : EvX K cl p tl σ G M (.loc a) M1) (hm : At M1 a (.lst us)) (hr : Reps K cl G us ds) (hl : ds.length ≤ 10000000)
    (hs : ∀ G1 e x d, Same G G1 → d ∈ ds → Rep K cl G1 x d → LcT K cl g tt te vs σ G1 (e :: M1) x (keep d) (f d)) : EvX K cl false (tLc (iSeq K tl) g tt te vs) σ G M (.lst ((ds.filter keep).map f)) M1 := fun G1 H1 s S Q k =>
  .inl (h G1 H1 s S _ fun x G2 H2 g2 rx => ⟨a, rx.of_loc, ⟨us, .inl (.inl (g2.sep.look hm))⟩, ev_lcY (yields_lst (xs := us)) (fun e G' H' _ S' => .inl (.inl (S'.look (.tl hm)))) hr hl (s.trans g2.same) g2.sep hs fun v G' H' g' rv => k v G' H' (Go.of (g2.same.trans g'.same) g'.sep) rv⟩)

/-! ### sorted(), list() -/
theorem sortZ_reps {G : Hp} {us : List V} (r : Reps K cl G us ds) : Reps K cl G ((sortZ (us.zip ds)).map (·.1)) (ds.mergeSort leD) := by
  have h := zip_reps (zs := sortZ (us.zip ds)) (K := K) (cl := cl) (G := G) fun z hz => reps_zip r z ((List.mergeSort_perm _ _).mem_iff.mp hz)
  rw [sortZ_snd, zip_snd r] at h
  exact h
theorem on_sort (hd : D.areDat ds = true) (so : Sorts (ds.map D.pyd)) : OpN K cl false (rSortA K cl) M [.lst ds] (.lst (ds.mergeSort leD)) M := fun G1 H1 S us ru Q k => by
  obtain ⟨u, rfl, hu⟩ := reps1 ru
  obtain ⟨a, vs, rfl, sq, rs⟩ := hu.of_lst
  exact .inl ⟨a, vs, ds, rfl, S.sub.seq sq, rs.mono S.sub, hd, so, fun l hl => k _ _ _ (Go.of (Same.upd (S.freshG hl)) (S.newG hl)) (Rep.lst (.inl (.inl upd_same)) ((sortZ_reps rs).mono (Same.upd (S.freshG hl))))⟩
theorem ev_sortM (ha : EvX K cl p ta σ G M (.loc a) M1) (hm : At M1 a (.lst vs)) (hr : Reps K cl G vs ds) (hd : D.areDat ds = true) (so : Sorts (ds.map D.pyd)) : EvX K cl false (tCB (rSortA K cl) (tCons ta tNil)) σ G M (.lst (ds.mergeSort leD)) M1 := fun G1 H1 s S Q k =>
  ha G1 H1 s S _ fun x G2 H2 g2 rx => by
    rw [rx.of_loc]
    have rs := hr.mono (s.trans g2.same)
    exact .inl ⟨a, vs, ds, rfl, .inl (.inl (g2.sep.look hm)), rs.mono g2.sep.sub, hd, so, fun l hl => k _ _ _ (Go.of (g2.same.trans (Same.upd (g2.sep.freshG hl))) (g2.sep.newG hl)) (Rep.lst (.inl (.inl upd_same)) ((sortZ_reps rs).mono (Same.upd (g2.sep.freshG hl))))⟩
theorem ev_sortN (ha : EvX K cl p ta σ G M (.loc a) M1) (hm : At M1 a (nD a ep kvs)) (hr : NRep K cl G kvs kds) (hd : ∀ e ∈ kds, (keyD e.1).isDat = true) (so : Sorts (kds.map fun e => (keyD e.1).pyd)) : EvX K cl false (tCB (rSortA K cl) (tCons ta tNil)) σ G M (.lst ((kds.map fun e => keyD e.1).mergeSort leD)) M1 := fun G1 H1 s S Q k =>
  ha G1 H1 s S _ fun x G2 H2 g2 rx => by
    rw [rx.of_loc]
    have rs := hr.mono (s.trans g2.same)
    have e1 := rs.fst
    have e2 : (kvs.map fun e => (keyD e.1).pyd) = kds.map fun e => (keyD e.1).pyd := by
      have h := congrArg (List.map D.pyd) e1
      rw [List.map_map, List.map_map] at h
      exact h
    refine .inr ⟨a, ep, kvs, rfl, g2.sep.look hm, (rs.mono g2.sep.sub).keys, fun e he => ?_, by rw [e2]; exact so, fun l hl => k _ _ _ (Go.of (g2.same.trans (Same.upd (g2.sep.freshG hl))) (g2.sep.newG hl)) (Rep.lst (.inl (.inl upd_same)) (rs.sorted.mono (Same.upd (g2.sep.freshG hl))))⟩
    have h1 : keyD e.1 ∈ kvs.map fun e => keyD e.1 := List.mem_map.mpr ⟨e, he, rfl⟩
    rw [e1] at h1
    obtain ⟨f, hf, q⟩ := List.mem_map.mp h1
    rw [← q]
    exact hd f hf
theorem ev_listN (ha : EvX K cl p ta σ G M (.loc a) M1) (hm : At M1 a (nD a ep kvs)) (hr : NRep K cl G kvs kds) : EvX K cl false (tCB rListN (tCons ta tNil)) σ G M (.lst (kds.map fun e => keyD e.1)) M1 := fun G1 H1 s S Q k =>
  ha G1 H1 s S _ fun x G2 H2 g2 rx => by
    rw [rx.of_loc]
    have rs := (hr.mono (s.trans g2.same)).refs
    exact ⟨a, ep, kvs, rfl, g2.sep.look hm, fun l hl => k _ _ _ (Go.of (g2.same.trans (Same.upd (g2.sep.freshG hl))) (g2.sep.newG hl)) (Rep.lst (.inl (.inl upd_same)) (rs.mono (Same.upd (g2.sep.freshG hl))))⟩
end
end Cp
/-! Cp9: calls of defs and methods that change owned cells. -/
namespace Cp
open PySem L2
section
variable {K : PySem.W.Frag} {cl : Nat → Addr} {p q r : Bool} {M M1 M2 M3 M4 : ML} {G G1 G2 G3 H H1 H2 H3 : Hp} {σ : St} {ta tb tc te tl : TE} {tx : TA} {tt tu : TT} {d d1 d2 d3 : D} {ds es : List D}
abbrev RG := List V → Hp → ML → (V → Hp → ML → Prop) → Prop
/-- a def over cells in an order of its own -/
theorem eg_callP {R : RG} {E : XK} {F : V → Hp → ML → Prop} (ha : EvA K cl p tx σ G M ds M1) (pm : M1.Perm M2)
    (hR : ∀ vs G' (T : V → Hp → ML → Prop), Same G G' → Reps K cl G' vs ds → (∀ v G'' M'', Same G' G'' → F v G'' M'' → T v G'' M'') → R vs G' M2 T) : EvG (tCall (GSp R) [] E tx) σ G M F := fun G1 H1 s S Q k =>
  ha G1 H1 s S _ fun xs G2 H2 g2 rx => ⟨G2, M2, g2.sep.perm pm, by
    rw [List.append_nil]
    refine hR xs G2 _ (s.trans g2.same) rx fun v G'' M'' s'' hF sm H' S' => k v G'' H' M'' (g2.same.trans sm) S' hF⟩
theorem ev_callP {R : RG} {E : XK} (ha : EvA K cl p tx σ G M ds M1) (pm : M1.Perm M2) (pm' : M3.Perm M4)
    (hR : ∀ vs G' (T : V → Hp → ML → Prop), Same G G' → Reps K cl G' vs ds → (∀ v G'', Same G' G'' → Rep K cl G'' v d → T v G'' M3) → R vs G' M2 T) : EvX K cl false (tCall (GSp R) [] E tx) σ G M d M4 := fun G1 H1 s S Q k =>
  ha G1 H1 s S _ fun xs G2 H2 g2 rx => ⟨G2, M2, g2.sep.perm pm, by
    rw [List.append_nil]
    exact hR xs G2 _ (s.trans g2.same) rx fun v G'' s'' rv sm H' S' => k v G'' H' (Go.of (g2.same.trans s'') (S'.perm pm')) rv⟩
/-- a method of an owned instance -/
theorem eg_methP {R : RG} {E : XK} {F : V → Hp → ML → Prop} {C x dx : Addr} {fs : List (Str × V)} {m : Str} (he : EvX K cl p ta σ G M (.loc x) M1) (hm : At M1 x (.ins C dx fs)) (hn : fs.lookup m = none) (ha : EvA K cl q tx σ G M1 ds M2) (pm : M2.Perm M3)
    (hR : ∀ vs G' (T : V → Hp → ML → Prop), Same G G' → Reps K cl G' vs ds → (∀ v G'' M'', Same G' G'' → F v G'' M'' → T v G'' M'') → R (.ref x :: vs) G' M3 T) : EvG (tMeth C m (GSp R) [] E ta tx) σ G M F := fun G1 H1 s S Q k =>
  he G1 H1 s S _ fun y G2 H2 g2 ry => by
    obtain rfl := ry.of_loc
    exact ⟨x, dx, fs, rfl, g2.sep.look hm, hn, ha G2 H2 (s.trans g2.same) g2.sep _ fun xs G3 H3 g3 rxs => ⟨G3, M3, g3.sep.perm pm, by
      rw [List.append_nil]
      exact hR xs G3 _ ((s.trans g2.same).trans g3.same) rxs fun v G'' M'' s'' hF sm H' S' => k v G'' H' M'' ((g2.same.trans g3.same).trans sm) S' hF⟩⟩
theorem ev_methP {R : RG} {E : XK} {C x dx : Addr} {fs : List (Str × V)} {m : Str} (he : EvX K cl p ta σ G M (.loc x) M1) (hm : At M1 x (.ins C dx fs)) (hn : fs.lookup m = none) (ha : EvA K cl q tx σ G M1 ds M2) (pm : M2.Perm M3) (pm' : M.Perm M4)
    (hR : ∀ vs G' (T : V → Hp → ML → Prop), Same G G' → Reps K cl G' vs ds → (∀ v G'', Same G' G'' → Rep K cl G'' v d → T v G'' M4) → R (.ref x :: vs) G' M3 T) : EvX K cl false (tMeth C m (GSp R) [] E ta tx) σ G M d M4 := fun G1 H1 s S Q k =>
  he G1 H1 s S _ fun y G2 H2 g2 ry => by
    obtain rfl := ry.of_loc
    exact ⟨x, dx, fs, rfl, g2.sep.look hm, hn, ha G2 H2 (s.trans g2.same) g2.sep _ fun xs G3 H3 g3 rxs => ⟨G3, M3, g3.sep.perm pm, by
      rw [List.append_nil]
      exact hR xs G3 _ ((s.trans g2.same).trans g3.same) rxs fun v G'' s'' rv sm H' S' => k v G'' H' (Go.of ((g2.same.trans g3.same).trans sm) S') rv⟩⟩
/-- a new instance whose __init__ lays cells of its own -/
theorem eg_makeG {R : RG} {E : XK} {C : Addr} {F : V → Hp → ML → Prop} (ha : EvA K cl p tx σ G M ds M1)
    (hR : ∀ x dx vs G' (T : V → Hp → ML → Prop), Same G G' → Reps K cl G' vs ds → (∀ G'' M'', Same G' G'' → F (.ref x) G'' M'' → T .non G'' M'') → R (.ref x :: vs) G' ((x, .ins C dx []) :: M1) T) : EvG (tMake C (GSp R) [] E tx) σ G M F := fun G1 H1 s S Q k =>
  ha G1 H1 s S _ fun xs G2 H2 g2 rx => fun x dx nx ndx ne => by
    have ndG := g2.sep.freshG ndx
    have S1 : Sep (upd G2 dx (.own x)) (upd H2 dx (.own x)) M1 := g2.sep.newG ndx
    have nx' : upd H2 dx (.own x) x = none := by rw [upd_ne ne.symm]; exact nx
    have S2 := S1.newM (o := .ins C dx []) nx'
    have s2 : Same G2 (upd G2 dx (.own x)) := Same.upd ndG
    refine ⟨_, _, S2, ?_⟩
    rw [List.append_nil]
    exact hR x dx xs _ _ ((s.trans g2.same).trans s2) (rx.mono s2) fun G'' M'' s'' hF sm H' S' => ⟨rfl, k (.ref x) G'' H' M'' ((g2.same.trans s2).trans sm) S' hF⟩
/-- self.f = e, a new field, e something that is laid -/
theorem s_fldGN {a C dx : Addr} {ns : List Str} {vs : List V} {f : Str} {tv : TE} {F : V → Hp → ML → Prop} {nx : St → Hp → Prop} {rt : VK} {bk ct : St → Hp → Prop} (S : Sep G H M) (hv : EvG tv σ G M F) (hc : Cls K C) (hn : NoAttr K C f) (hl : ns.length = vs.length) (hx : ns.contains f = false) (hk : ns.length < 1000)
    (k : ∀ v G' H' M', Same G G' → Sep G' H' M' → F v G' M' → ∃ p M2 M3, EvX K cl p ta σ G' M' (.loc a) M2 ∧ Ch M2 a (.ins C dx (ns.zip vs)) (.ins C dx ((ns ++ [f]).zip (vs ++ [v]))) M3 ∧ ∀ G'' H'', Same G' G'' → Sep G'' H'' M3 → nx σ H'') : sFld K ta tv f ⟨nx, rt, bk, ct⟩ σ H :=
  hv G H (Same.refl _) S _ fun v G2 H2 M2 s2 S2 hF => by
    obtain ⟨p, M3, M4, he, hch, kk⟩ := k v G2 H2 M2 s2 S2 hF
    refine he G2 H2 (Same.refl _) S2 _ fun x G3 H3 g3 rx => ?_
    refine ⟨a, C, dx, _, rx.of_loc, g3.sep.look hch.at, hc, hn, by rw [List.length_zip]; omega, kk G3 _ g3.same ?_⟩
    rw [putF_zip_new hl hx]
    exact g3.sep.ch hch
end

section
variable [Wo] {K : PySem.W.Frag} {cl : Nat → Addr} {p q r : Bool} {M M1 M2 M3 M4 : ML} {G G1 G2 G3 H H1 H2 H3 : Hp} {σ : St} {ta tb tc te tl : TE} {tx : TA} {tt tu : TT} {d d1 d2 d3 : D} {ds es : List D}
variable {a : Addr} {ep : Nat} {kvs : NKV} {kds : List (NestedKey × D)} {g : TG}
/-- the same, told by what the things stand for -/
theorem ev_lcZ {β : Type} {l : List β} {enc : β → D} {vs : List Nat} {f : β → D} {keep : β → Bool} {J : It} {us : List V} {ok : Hp → Prop} (Y : Yields J us ok) (hok : ∀ e G' H', Same G G' → Sep G' H' (e :: M1) → ok H') (rs : Reps K cl G us (l.map enc)) (hl : l.length ≤ 10000000) (sG : Same G G2) (S2 : Sep G2 H2 M1)
    (hs : ∀ G1 e x b, Same G G1 → b ∈ l → Rep K cl G1 x (enc b) → LcT K cl g tt te vs σ G1 (e :: M1) x (keep b) (f b)) {Q : VK} (k : ∀ v G' H', Go false M1 M1 G2 H2 G' H' → Rep K cl G' v (.lst ((l.filter keep).map f)) → Q v H') :
    ∀ Da, H2 Da = none → ∃ W : Nat → Nat → Hp → Prop, (∃ m, W 0 m (upd H2 Da (.lst []))) ∧ ∀ i m H, W i m H →
      (J.stop i H ∧ Q (.ref Da) H) ∨ (J.go i H ∧ ∃ Nx : Hp → Prop, (∀ H', Nx H' → ∃ m', m' < m ∧ W (i + 1) m' H') ∧ ∀ x H', J.yld i H x H' → g x (wipe σ vs) H' fun σ2 H2 => wipe σ2 vs = wipe σ vs ∧ tt σ2 H2 fun b H3 =>
        if b = true then te σ2 H3 fun y H4 => ∃ acc, H4 Da = some (.lst acc) ∧ acc.length < sizeLine ∧ Nx (upd H4 Da (.lst (acc ++ [y]))) else Nx H3) := fun Da hD => by
  refine lc_y Y (fun i H => ∃ G' acc, Same G2 G' ∧ Sep G' H ((Da, .lst acc) :: M1) ∧ Reps K cl G' acc (((l.take i).filter keep).map f)) ⟨G2, [], Same.refl _, S2.newM hD, Reps.nil⟩ ?_ ?_ ?_
  · rintro i H hi ⟨G', acc, s', S', ra⟩
    exact hok _ G' H (sG.trans s') S'
  · rintro i x H hx ⟨G', acc, s', S', ra⟩
    obtain ⟨d, hdi', rd'⟩ := rs.get hx
    rw [List.getElem?_map] at hdi'
    obtain ⟨b, hdi, rfl⟩ := Option.map_eq_some_iff.mp hdi'
    have rd := rd'
    obtain ⟨σ2, p', q', hw, hg, ht, he⟩ := hs G' (Da, .lst acc) x b (sG.trans s') (List.mem_of_getElem? hdi) (rd.mono (sG.trans s'))
    refine hg H _ S' ⟨hw, ht G' H (Same.refl _) S' _ fun G3 H3 g3 => ?_⟩
    have e1 : l.take (i + 1) = l.take i ++ [b] := by rw [List.take_add_one, hdi]; rfl
    have hal : acc.length ≤ l.length := by
      rw [ra.length, List.length_map]
      exact Nat.le_trans (List.length_filter_le _ _) (by rw [List.length_take]; omega)
    cases hk : keep b with
    | true =>
      rw [if_pos rfl]
      refine he hk G3 H3 g3.same g3.sep _ fun y G4 H4 g4 ry => ?_
      have sA := g3.same.trans g4.same
      refine ⟨acc, g4.sep.look .hd, Nat.lt_of_le_of_lt (Nat.le_trans hal hl) (by decide), G4, acc ++ [y], s'.trans sA, g4.sep.ch .hd, ?_⟩
      rw [e1, List.filter_append, List.map_append]
      refine Reps.append (ra.mono sA) ?_
      rw [List.filter_cons, if_pos hk]
      exact Reps.one ry
    | false =>
      rw [if_neg (by decide)]
      refine ⟨G3, acc, s'.trans g3.same, g3.sep, ?_⟩
      rw [e1, List.filter_append, List.map_append, List.filter_cons, if_neg (by rw [hk]; decide)]
      show Reps K cl G3 acc (_ ++ [])
      rw [List.append_nil]
      exact ra.mono g3.same
  · rintro H ⟨G', acc, s', S', ra⟩
    rw [rs.length, List.length_map, List.take_length] at ra
    obtain ⟨S3, s3⟩ := S'.freeze
    exact k (.ref Da) _ H (Go.of (s'.trans s3) S3) (Rep.lst (.inl (.inl upd_same)) (ra.mono s3))
theorem ev_lcNG {vs : List Nat} {f : NestedKey × D → D} {keep : NestedKey × D → Bool} (h : EvX K cl p tl σ G M (.loc a) M1) (hm : At M1 a (nD a ep kvs)) (hr : NRep K cl G kvs kds) (hl : kds.length ≤ 10000000)
    (hs : ∀ G1 e x b, Same G G1 → b ∈ kds → Rep K cl G1 x (keyD b.1) → LcT K cl g tt te vs σ G1 (e :: M1) x (keep b) (f b)) : EvX K cl false (tLc (iNKeys tl) g tt te vs) σ G M (.lst ((kds.filter keep).map f)) M1 := fun G1 H1 s S Q k =>
  h G1 H1 s S _ fun x G2 H2 g2 rx => ⟨a, ep, kvs, rx.of_loc, g2.sep.look hm, ev_lcZ (enc := fun e : NestedKey × D => keyD e.1) yields_nd (fun e G' H' _ S' => S'.look (.tl hm)) hr.refs hl (s.trans g2.same) g2.sep hs fun v G' H' g' rv => k v G' H' (Go.of (g2.same.trans g'.same) g'.sep) rv⟩
theorem ev_lcG {β : Type} {l : List β} {enc : β → D} {vs : List Nat} {f : β → D} {keep : β → Bool} (h : EvX K cl p tl σ G M d1 M1) (hd : d1 = .lst (l.map enc)) (hl : l.length ≤ 10000000)
    (hs : ∀ G1 e x b, Same G G1 → b ∈ l → Rep K cl G1 x (enc b) → LcT K cl g tt te vs σ G1 (e :: M1) x (keep b) (f b)) : EvX K cl false (tLc (iSeq K tl) g tt te vs) σ G M (.lst ((l.filter keep).map f)) M1 := fun G1 H1 s S Q k =>
  .inl (h G1 H1 s S _ fun x G2 H2 g2 rx => by
    rw [hd] at rx
    obtain ⟨a, us, e, sq, rs⟩ := rx.of_lst
    exact ⟨a, e, ⟨us, g2.sep.sub.seq sq⟩, ev_lcZ (G := G2) (yields_lst (xs := us)) (fun e G' H' s' S' => (s'.trans S'.sub).seq sq) rs hl (Same.refl _) g2.sep (fun G3 e x b s3 => hs G3 e x b ((s.trans g2.same).trans s3)) fun v G' H' g' rv => k v G' H' (Go.of (g2.same.trans g'.same) g'.sep) rv⟩)
theorem reps_ints {G : Hp} : ∀ {us : List V} {ns : List Int}, Reps K cl G us (ns.map D.int) → us = ns.map V.int
  | us, [], h => by simpa only [List.map_nil, Reps] using h
  | us, n :: ns, h => by
    obtain ⟨v, ws, rfl, r1, r2⟩ := Reps.uncons h
    rw [r1.of_int, reps_ints r2]
    rfl
theorem on_sum {ns : List Int} : OpN K cl true (rSum K) M [.lst (ns.map D.int)] (.int ns.sum) M := on_val fun G1 H1 S us ru => by
  obtain ⟨u, rfl, hu⟩ := reps1 ru
  obtain ⟨a, vs, rfl, sq, rs⟩ := hu.of_lst
  refine ⟨_, Rep.int, fun Q q => ⟨a, ns, rfl, ?_, q⟩⟩
  rw [← reps_ints rs]
  exact S.sub.seq sq
/-- a test whose outcome is not told -/
theorem s_ifB {t u : TS} {nx : St → Hp → Prop} {rt : VK} {bk ct : St → Hp → Prop} (S : Sep G H M) (h : EvG te σ G M fun v G' M' => ∃ b, v = .bl b ∧ M' = M1) (h1 : ∀ G' H', Same G G' → Sep G' H' M1 → t ⟨nx, rt, bk, ct⟩ σ H') (h2 : ∀ G' H', Same G G' → Sep G' H' M1 → u ⟨nx, rt, bk, ct⟩ σ H') :
    tIfS (tTr K te) t u ⟨nx, rt, bk, ct⟩ σ H := h G H (Same.refl _) S _ fun v G' H' M' s' S' hb => by
  obtain ⟨b, rfl, rfl⟩ := hb
  refine ⟨b, rfl, ?_⟩
  cases b with
  | true => exact h1 G' H' s' S'
  | false => exact h2 G' H' s' S'
mutual
theorem eqb_key : ∀ a b : NestedKey, D.eqb (keyD a) (keyD b) = NestedKey.beq a b
  | .none, .none => by simp [keyD, D.eqb, NestedKey.beq]
  | .none, .num _ => by simp [keyD, D.eqb, NestedKey.beq]
  | .none, .text _ => by simp [keyD, D.eqb, NestedKey.beq]
  | .none, .tup _ => by simp [keyD, D.eqb, NestedKey.beq]
  | .num _, .none => by simp [keyD, D.eqb, NestedKey.beq]
  | .num a, .num b => by simp only [keyD, D.eqb, NestedKey.beq]; by_cases h : a = b <;> simp [h]
  | .num _, .text _ => by simp [keyD, D.eqb, NestedKey.beq]
  | .num _, .tup _ => by simp [keyD, D.eqb, NestedKey.beq]
  | .text _, .none => by simp [keyD, D.eqb, NestedKey.beq]
  | .text _, .num _ => by simp [keyD, D.eqb, NestedKey.beq]
  | .text a, .text b => by simp only [keyD, D.eqb, NestedKey.beq]; by_cases h : a = b <;> simp [h]
  | .text _, .tup _ => by simp [keyD, D.eqb, NestedKey.beq]
  | .tup _, .none => by simp [keyD, D.eqb, NestedKey.beq]
  | .tup _, .num _ => by simp [keyD, D.eqb, NestedKey.beq]
  | .tup _, .text _ => by simp [keyD, D.eqb, NestedKey.beq]
  | .tup a, .tup b => by simp only [keyD, D.eqb, NestedKey.beq]; exact eqbs_key a b
theorem eqbs_key : ∀ a b : List NestedKey, D.eqbs (keyDs a) (keyDs b) = NestedKey.beqAll a b
  | [], [] => by simp [keyDs, D.eqbs, NestedKey.beqAll]
  | [], _ :: _ => by simp [keyDs, D.eqbs, NestedKey.beqAll]
  | _ :: _, [] => by simp [keyDs, D.eqbs, NestedKey.beqAll]
  | a :: as, b :: bs => by simp only [keyDs, D.eqbs, NestedKey.beqAll]; rw [eqb_key a b, eqbs_key as bs]
end
theorem eqb_keyD (a b : NestedKey) : D.eqb (keyD a) (keyD b) = decide (a = b) := by rw [eqb_key, NestedKey.decide_eq]
end
end Cp
/-! Cp10: displays of dicts with ints and texts as keys; more of association lists. -/
namespace Cp
open PySem L2
section
variable {κ α : Type} [DecidableEq κ]
theorem valG_put {st : List (κ × α)} {k j : κ} {v : α} : valG (putG st k v) j = if k = j then some v else valG st j := by
  unfold putG
  cases h : (valG st k).isSome with
  | true =>
    simp only [if_true]
    induction st with
    | nil => simp [valG] at h
    | cons e st ih =>
      have un : ∀ (f : κ × α) (l : List (κ × α)) (i : κ), valG (f :: l) i = if f.1 = i then some f.2 else valG l i := by
        intro f l i
        unfold valG
        rw [List.find?_cons]
        by_cases q : f.1 = i
        · simp [q]
        · simp [q]
      rw [List.map_cons, un, un]
      by_cases q : e.1 = k
      · simp only [q, if_true]
        by_cases r : k = j
        · simp [r]
        · simp only [r, if_false]
          clear ih h
          induction st with
          | nil => rfl
          | cons f st ih2 =>
            rw [List.map_cons, un, un]
            by_cases q2 : f.1 = k
            · have : ¬ f.1 = j := fun z => r (q2 ▸ z)
              simp only [q2, if_true, r, if_false]
              exact ih2
            · simp only [q2, if_false]
              rw [ih2]
      · have h' : (valG st k).isSome = true := by
          rw [un, if_neg q] at h
          exact h
        have ih' := ih h'
        rw [if_neg q, ih']
        by_cases r : k = j
        · have : ¬ e.1 = j := fun z => q (z.trans r.symm)
          simp [r, this]
        · simp [r]
  | false =>
    simp only [Bool.false_eq_true, if_false]
    have hn : valG st k = none := by simpa using h
    unfold valG at hn ⊢
    rw [List.find?_append]
    by_cases r : k = j
    · subst r
      rw [Option.map_eq_none_iff] at hn
      rw [hn]
      simp
    · simp only [r, if_false]
      cases h2 : List.find? (fun x => decide (x.1 = j)) st with
      | some e => rfl
      | none => simp [r]
def mergeG (kds more : List (κ × α)) : List (κ × α) := more.foldl (fun acc e => putG acc e.1 e.2) kds
end
theorem KRep.merge {K : PySem.W.Frag} {cl : Nat → Addr} {G : Hp} : ∀ {more : List (Key × V)} {mds : List (Key × D)} {kws : List (Key × V)} {kes : List (Key × D)}, KRep K cl G more mds → KRep K cl G kws kes → KRep K cl G (mergeK kws more) (mergeG kes mds)
  | _, _, _, _, .nil, r => r
  | p :: more, q :: mds, kws, kes, .cons h t, r => by
    show KRep K cl G (mergeK (putK kws p.1 p.2) more) (mergeG (putG kes q.1 q.2) mds)
    rw [h.1]
    exact KRep.merge t (r.put h.2)
section
variable [Wo] {K : PySem.W.Frag} {cl : Nat → Addr} {p q r : Bool} {M M1 M2 M3 M4 : ML} {G G1 G2 G3 H H1 H2 H3 : Hp} {σ : St} {ta tb tc te tk tv : TE} {d d1 d2 d3 : D}
/-- the pairs of a display -/
def EvP (K : PySem.W.Frag) (cl : Nat → Addr) (trs : List (TE × TE)) (σ : St) (G : Hp) (M : ML) (kds : List (Key × D)) (M1 : ML) : Prop :=
  ∀ G1 H1, Same G G1 → Sep G1 H1 M → ∀ Q : List (V × V) → Hp → Prop, (∀ kvs G2 H2, Same G1 G2 → Sep G2 H2 M1 → KRep K cl G2 kvs kds → Q (kvs.map fun kv => (kV kv.1, kv.2)) H2) → tPairs trs σ H1 Q
theorem ep_nil : EvP K cl [] σ G M [] M := fun G1 H1 s S Q k => k [] G1 H1 (Same.refl _) S .nil
theorem ep_cons {trs : List (TE × TE)} {k : Key} {kds : List (Key × D)} (h1 : EvX K cl p tk σ G M d1 M1) (hk : d1 = kD k) (h2 : EvX K cl q tv σ G M1 d2 M2) (h3 : EvP K cl trs σ G M2 kds M3) : EvP K cl ((tk, tv) :: trs) σ G M ((k, d2) :: kds) M3 := fun G1 H1 s S Q kk =>
  h1 G1 H1 s S _ fun x G2 H2 g2 rx => h2 G2 H2 (s.trans g2.same) g2.sep _ fun y G3 H3 g3 ry => h3 G3 H3 ((s.trans g2.same).trans g3.same) g3.sep _ fun kvs G4 H4 s4 S4 r4 => by
    rw [hk] at rx
    have e := rep_kD rx
    subst e
    exact kk ((k, y) :: kvs) G4 H4 ((g2.same.trans g3.same).trans s4) S4 (.cons ⟨rfl, ry.mono s4⟩ r4)
/-- {k: v, ..} -/
theorem eg_disp {trs : List (TE × TE)} {kds : List (Key × D)} {F : V → Hp → ML → Prop} (h : ∀ u, EvP K cl trs σ G ((u, .dK []) :: M) kds ((u, .dK []) :: M1)) (hl : kds.length ≤ 15)
    (hF : ∀ u kws G', Same G G' → KRep K cl G' kws (mergeG [] kds) → F (.ref u) G' ((u, .dK kws) :: M1)) : EvG (tDisp trs) σ G M F := fun G1 H1 s S Q k => fun u hu =>
  h u G1 _ s (S.newM hu) _ fun kvs G2 H2 s2 S2 r2 => ⟨S2.look .hd, kvs, rfl, by rw [r2.length]; exact hl, k (.ref u) G2 _ _ s2 (S2.ch .hd) (hF u _ G2 (s.trans s2) (KRep.merge r2 .nil))⟩
end
end Cp
/-! Cp11: what is laid on the way: operations, tests, loops and unpackings over things told by a postcondition (EvG). -/
namespace Cp
open PySem L2
section
variable {K : PySem.W.Frag} {cl : Nat → Addr} {p q r : Bool} {M M1 M2 M3 M4 : ML} {G G1 G2 G3 H H1 H2 H3 : Hp} {σ : St} {ta tb tc te tl : TE} {tx : TA} {tt tu : TT} {d d1 d2 d3 : D} {ds es : List D}
variable {nx : St → Hp → Prop} {rt : VK} {bk ct : St → Hp → Prop} {g : TG} {tbd : TS}
abbrev FG := V → Hp → ML → Prop
/-- int(b), b a truth value that is not told -/
theorem eg_intB (h : EvG te σ G M fun v G' M' => ∃ b, v = .bl b ∧ M' = M1) : EvG (tCB rInt1 (tCons te tNil)) σ G M fun v G' M' => ∃ b : Bool, v = .int (if b then 1 else 0) ∧ M' = M1 := fun G1 H1 s S Q k =>
  h G1 H1 s S _ fun v G' H' M' s' S' hb => by
    obtain ⟨b, rfl, rfl⟩ := hb
    exact .inr ⟨b, rfl, k _ G' H' _ s' S' ⟨b, rfl, rfl⟩⟩
/-- a pure def of one argument, the argument laid on the way -/
theorem eg_pcall {R : List D → D → Prop} {E : XK} {F F2 : FG} (h : EvG te σ G M F) (hR : ∀ v G' M', Same G G' → F v G' M' → ∃ d d', Rep K cl G' v d ∧ R [d] d' ∧ ∀ w G'', Same G' G'' → Rep K cl G'' w d' → F2 w G'' M') : EvG (tCall (PSp K cl R) [] E (tCons te tNil)) σ G M F2 := fun G1 H1 s S Q k =>
  h G1 H1 s S _ fun v G2 H2 M2 s2 S2 hF => by
    obtain ⟨d, d', rv, hd, hk⟩ := hR v G2 M2 (s.trans s2) hF
    refine ⟨[d], d', G2, M2, hd, S2, by rw [List.append_nil]; exact Reps.one rv, fun w G' H' s' S' rw' => k w G' H' M2 (s2.trans s') S' (hk w G' s' rw')⟩
/-- a op b, a laid on the way -/
theorem eg_op {rr : R2} {F1 F : FG} (h1 : EvG ta σ G M F1) (h2 : ∀ v G1 M1, Same G G1 → F1 v G1 M1 → ∃ d1 d2 d p q M2, Rep K cl G1 v d1 ∧ EvX K cl p tb σ G1 M1 d2 M2 ∧ Op2 K cl q rr M2 d1 d2 d ∧ ∀ w G2, Same G1 G2 → Rep K cl G2 w d → F w G2 M2) : EvG (tOp rr ta tb) σ G M F := fun G1 H1 s S Q k =>
  h1 G1 H1 s S _ fun v G2 H2 M2 s2 S2 hF => by
    obtain ⟨d1, d2, d, p, q, M3, rv, he, ho, hk⟩ := h2 v G2 M2 (s.trans s2) hF
    exact he G2 H2 (Same.refl _) S2 _ fun y G3 H3 g3 ry => ho G3 H3 g3.sep v y (rv.mono g3.same) ry _ fun w G4 H4 g4 rw' => k w G4 H4 M3 ((s2.trans g3.same).trans g4.same) g4.sep (hk w G4 (g3.same.trans g4.same) rw')
/-- tests told by a postcondition -/
def EvU (tt : TT) (σ : St) (G : Hp) (M : ML) (F : Bool → Hp → ML → Prop) : Prop :=
  ∀ G1 H1, Same G G1 → Sep G1 H1 M → ∀ Q : Bool → Hp → Prop, (∀ b G2 H2 M2, Same G1 G2 → Sep G2 H2 M2 → F b G2 M2 → Q b H2) → tt σ H1 Q
theorem eu_of {b : Bool} {F : Bool → Hp → ML → Prop} (h : EvT K cl p tt σ G M b M1) (hF : ∀ G', Same G G' → F b G' M1) : EvU tt σ G M F := fun G1 H1 s S Q k => h G1 H1 s S _ fun G2 H2 g2 => k b G2 H2 M1 g2.same g2.sep (hF G2 (s.trans g2.same))
theorem eu_test {F : Bool → Hp → ML → Prop} (h : EvG te σ G M fun v G' M' => ∃ b, v = .bl b ∧ F b G' M') : EvU (tTest te) σ G M F := fun G1 H1 s S Q k => h G1 H1 s S _ fun v G2 H2 M2 s2 S2 hb => by
  obtain ⟨b, rfl, hb⟩ := hb
  exact ⟨b, rfl, k b G2 H2 M2 s2 S2 hb⟩
theorem eu_or {F1 F : Bool → Hp → ML → Prop} (h1 : EvU tt σ G M F1) (ht : ∀ G' M', Same G G' → F1 true G' M' → F true G' M') (hf : ∀ G' M', Same G G' → F1 false G' M' → EvU tu σ G' M' F) : EvU (tOr tt tu) σ G M F := fun G1 H1 s S Q k => h1 G1 H1 s S _ fun b G2 H2 M2 s2 S2 hb => by
  cases b with
  | true => exact k true G2 H2 M2 s2 S2 (ht G2 M2 (s.trans s2) hb)
  | false =>
    show tu σ H2 Q
    exact hf G2 M2 (s.trans s2) hb G2 H2 (Same.refl _) S2 Q fun b G3 H3 M3 s3 S3 hb3 => k b G3 H3 M3 (s2.trans s3) S3 hb3
theorem s_ifU {t u : TS} {F : Bool → Hp → ML → Prop} (S : Sep G H M) (h : EvU tt σ G M F) (h1 : ∀ G' H' M', Same G G' → Sep G' H' M' → F true G' M' → t ⟨nx, rt, bk, ct⟩ σ H') (h2 : ∀ G' H' M', Same G G' → Sep G' H' M' → F false G' M' → u ⟨nx, rt, bk, ct⟩ σ H') : tIfS tt t u ⟨nx, rt, bk, ct⟩ σ H :=
  h G H (Same.refl _) S _ fun b G2 H2 M2 s2 S2 hb => by
    cases b with
    | true => exact h1 G2 H2 M2 s2 S2 hb
    | false => exact h2 G2 H2 M2 s2 S2 hb
/-- a, b, .. = e, e laid on the way -/
theorem s_asgTG {F : FG} {is : List Nat} {n : Nat} (S : Sep G H M) (h : EvG te σ G M F) (k : ∀ v G1 H1 M1, Same G G1 → Sep G1 H1 M1 → F v G1 M1 → ∃ ds, Rep K cl G1 v (.tup ds) ∧ ds.length = n ∧ is.length = n ∧ ∀ vs, Reps K cl G1 vs ds → nx (setAll σ is vs) H1) : tAsg te (gTup K n (gNames is)) ⟨nx, rt, bk, ct⟩ σ H :=
  h G H (Same.refl _) S _ fun v G1 H1 M1 s1 S1 hF => by
    obtain ⟨ds, rv, hn, hi, kk⟩ := k v G1 H1 M1 s1 S1 hF
    exact g_tup S1 rv hn hi kk
/-- for x in e, e a list that is laid on the way -/
theorem s_forE {F : FG} (S : Sep G H M) (h : EvG tl σ G M F)
    (k : ∀ v G1 H1 M1, Same G G1 → Sep G1 H1 M1 → F v G1 M1 → ∃ (ds : List D) (J : Nat → St → Hp → ML → Prop), Rep K cl G1 v (.lst ds) ∧ J 0 σ G1 M1 ∧
      (∀ i x d σ' G' H' M', ds[i]? = some d → Same G1 G' → Sep G' H' M' → Rep K cl G' x d → J i σ' G' M' → g x σ' H' fun σ2 H2 => tbd ⟨Nx G1 J (i + 1), rt, nx, Nx G1 J (i + 1)⟩ σ2 H2) ∧
      (∀ σ' G' H' M', Same G1 G' → Sep G' H' M' → J ds.length σ' G' M' → nx σ' H')) : tFor (iSeq K tl) g tbd ⟨nx, rt, bk, ct⟩ σ H :=
  .inl (h G H (Same.refl _) S _ fun v G1 H1 M1 s1 S1 hF => by
    obtain ⟨ds, J, rv, h0, hs, hd⟩ := k v G1 H1 M1 s1 S1 hF
    obtain ⟨a, vs, e, sq, rs⟩ := rv.of_lst
    refine ⟨a, e, ⟨vs, S1.sub.seq sq⟩, for_list (xs := vs) (Nx G1 J) ⟨G1, M1, Same.refl _, S1, h0⟩ ?_ ?_ ?_⟩
    · rintro i σ' H' hi ⟨G', M', s', S', j⟩
      exact (s'.trans S'.sub).seq sq
    · rintro i y σ' H' hy ⟨G', M', s', S', j⟩
      obtain ⟨d, hd', rd⟩ := rs.get hy
      exact hs i y d σ' G' H' M' hd' s' S' (rd.mono s') j
    · rintro σ' H' ⟨G', M', s', S', j⟩
      rw [rs.length] at j
      exact hd σ' G' H' M' s' S' j)
end
end Cp
/-! Cp12: sorted(xs, key=f), f a pure def of the program. -/
namespace Cp
open PySem L2

section
variable {X : Cx} {cl : Nat → Addr} {pins : List (Addr × Obj)} {σ : St} {H : Hp} {s : Shared}
/-- the key's def, called from within list.sort -/
theorem key_call {k : Nat} {fa : Addr} {fd : FuncData} {ps : List Str} {sp : Sp} {Q : VK} {v : V} {u : Value} (F : FnOk X.prog X.w X.K X.mg X.base CX0 k fa fd ps sp) (hr : Room (k + 2) X.A) (hb : Binds X.K fd ps [])
    (I : Inv X pins σ H s) (r : RelV v u) (h : sp [v] H Q E0) : wpAny (model X.prog X.w) X.A.in1.in1 (call (.ref fa) [u]) (EP X pins σ Q) (fun _ _ => False) s := by
  have r1 : Vals [v] [u] := .cons r .nil
  have hl : ([u] ++ ([] : List Value)).length = ps.length := by
    rw [List.append_nil, ← r1.length]
    exact F.len _ _ _ _ h
  have hb' := hb s [u] I.kIn hl
  rw [List.append_nil] at hb'
  refine wpAny_call (codeAny_mono (F.run X.A.in1.in1 X.stack s H ⟨[u], []⟩ [u] [v] Q E0 (Room.in1 (Room.in1 hr)) I.env0.in1.in1 hb' r1 h) fun r s' hq => ?_)
  rcases r with e | (_ | _ | _ | w)
  · exact False.elim hq
  · exact False.elim hq
  · exact False.elim hq
  · exact False.elim hq
  · exact I.after hq
/-- the heap without the object at b -/
def sans (h : Heap) (b : Addr) : Heap := h.update b fun _ => { cls := .none, data := .freed }
theorem sans_ne {h : Heap} {b c : Addr} (n : c ≠ b) : (sans h b).get? c = h.get? c := Heap.get?_update_ne _ _ _ _ n
theorem sans_self {h : Heap} {b : Addr} : (sans h b).get? b = none := by
  obtain ⟨objs, l⟩ := h
  unfold sans Heap.update Heap.get?
  dsimp only
  rw [Array.getElem?_modify]
  cases objs[b]? with
  | none => simp
  | some o => simp
/-- the objects that the sort holds for itself -/
structure Own2 (X : Cx) (pins : List (Addr × Obj)) (H : Hp) (s : Shared) (b : Addr) (o : Obj) : Prop where
  there : s.heap.get? b = some o
  un : H b = none
  loc : b ≠ X.env.locals
  fs : b ∉ X.fs
  dat : ∀ v, o.data ≠ .cell v
  new : X.s_0.heap.objs.size ≤ b
  cell : ∀ x c, X.env.cells.lookup x = some c → c ≠ b
  pin : ∀ p ∈ X.pn ++ pins, p.1 ≠ b
theorem Own2.of {pins' : List (Addr × Obj)} (I : Inv X pins σ H s) {b : Addr} {o : Obj} (hb : s.heap.objs.size ≤ b) {s' : Shared} {H' : Hp} (e : s'.heap.get? b = some o) (hu : H' b = none) (hd : ∀ v, o.data ≠ .cell v) (hp : ∀ p ∈ pins', p ∈ pins) : Own2 X pins' H' s' b o := by
  refine ⟨e, hu, fun z => ?_, I.nofs hb, hd, Nat.le_trans I.sz hb, fun x c hc z => ?_, fun p hp' z => ?_⟩
  · have := I.lt
    rw [z] at hb
    exact absurd this (Nat.not_lt.mpr hb)
  · obtain ⟨v, o', ho', _⟩ := I.cell x c hc
    have := Heap.lt_size ho'
    rw [z] at this
    exact absurd this (Nat.not_lt.mpr hb)
  · have hp2 : p ∈ X.pn ++ pins := (List.mem_append.mp hp').elim (fun q => List.mem_append_left _ q) fun q => List.mem_append_right _ (hp p q)
    have h1 := (I.pin p hp2).1
    have := Heap.lt_size h1
    rw [z] at this
    exact absurd this (Nat.not_lt.mpr hb)
theorem seq_nocell {n : String} {xs : Array Value} {e : Nat} : ∀ v, (PyProof.Rows.seqObj n xs e).data ≠ .cell v := fun v z => by cases z
end

section
variable (K : PySem.W.Frag) (cl : Nat → Addr)
/-- sorted(xs, key=f): f at fa answers by R; the items l, laid as enc, their keys key -/
def rSortKey (fa : Addr) (R : List D → D → Prop) : List V → List V → Hp → VK → Prop := fun xs zs H Q => ∃ (a : Addr) (vs : List V) (β : Type) (l : List β) (enc key : β → D) (G : Hp) (M : ML),
  xs = [.ref a] ∧ zs = [.ref fa] ∧ Sep G H M ∧ SqL K H a vs ∧ Reps K cl G vs (l.map enc) ∧ (∀ b ∈ l, R [enc b] (key b)) ∧ D.areDat (l.map key) = true ∧ Sorts (l.map fun b => (key b).pyd) ∧
  ∀ G' H' ws p, Same G G' → Sep G' H' M → Reps K cl G' ws ((l.mergeSort (PySem.W.dataLe false fun b => (key b).pyd)).map enc) → H' p = none → Q (.ref p) (upd H' p (.lst ws))
end
theorem reps_mapT {K : PySem.W.Frag} {cl : Nat → Addr} {G : Hp} {β : Type} {enc : β → D} : ∀ {vs : List V} {l : List β}, Reps K cl G vs (l.map enc) → ∃ zs : List (V × β), vs = zs.map (·.1) ∧ l = zs.map (·.2) ∧ ∀ z ∈ zs, Rep K cl G z.1 (enc z.2)
  | vs, [], h => by
    simp only [List.map_nil, Reps] at h
    exact ⟨[], h, rfl, fun z hz => nomatch hz⟩
  | vs, b :: l, h => by
    rw [List.map_cons] at h
    obtain ⟨v, ws, rfl, r1, r2⟩ := h.uncons
    obtain ⟨zs, e1, e2, h3⟩ := reps_mapT r2
    refine ⟨(v, b) :: zs, by rw [e1]; rfl, by rw [e2]; rfl, fun z hz => ?_⟩
    rcases List.mem_cons.mp hz with rfl | hz
    · exact r1
    · exact h3 z hz
theorem each_of_vals {β : Type} : ∀ {zs : List (V × β)} {us : List Value}, Vals (zs.map (·.1)) us → PySem.W.EachIs (fun u (z : V × β) => RelV z.1 u) us zs
  | [], us, h => by
    cases h
    exact .nil
  | z :: zs, us, h => by
    cases h with
    | cons h1 h2 => exact .cons h1 (each_of_vals h2)
theorem each_back {β : Type} : ∀ {us : List Value} {zs : List (V × β)}, PySem.W.EachIs (fun u (z : V × β) => RelV z.1 u) us zs → Vals (zs.map (·.1)) us
  | _, _, .nil => .nil
  | _, _, .cons h t => .cons h (each_back t)
theorem vals_get {vs : List V} {us : List Value} (h : Vals vs us) : ∀ {i : Nat} {u : Value}, us[i]? = some u → ∃ v, vs[i]? = some v ∧ RelV v u := by
  induction h with
  | nil => intro i u e; simp at e
  | @cons v u vs us h t ih =>
    intro i w e
    cases i with
    | zero =>
      have : u = w := by simpa using e
      exact ⟨v, rfl, this ▸ h⟩
    | succ j => exact ih (by simpa using e)

theorem reps_reads {X : Cx} {cl : Nat → Addr} {pins : List (Addr × Obj)} {σ : St} {H : Hp} {s : Shared} (I : Inv X pins σ H s) : ∀ {vs : List V} {us : List Value} {ds : List D}, Reps X.K cl H vs ds → D.areDat ds = true → Vals vs us →
    PySem.W.EachIs (fun u d => ∃ as, Reads s.heap u d as) us (ds.map D.pyd)
  | vs, us, [], r, _, q => by
    simp only [Reps] at r
    subst r
    cases q
    exact .nil
  | vs, us, d :: ds, r, e, q => by
    obtain ⟨v, ws, rfl, r1, r2⟩ := r.uncons
    simp only [D.areDat, Bool.and_eq_true] at e
    cases q with
    | cons q1 q2 => exact .cons (reads_of I r1 e.1 q1) (reps_reads I r2 e.2 q2)

section
variable {X : Cx} {cl : Nat → Addr} {pins : List (Addr × Obj)} {σ : St} {H : Hp} {s : Shared}
theorem Own2.pinned {a b : Addr} {oa ob : Obj} (x : Own2 X pins H s a oa) (y : Own2 X pins H s b ob) (I : Inv X pins σ H s) : Inv X ((a, oa) :: (b, ob) :: pins) σ H s :=
  I.pins_of fun p hp => by
    rcases List.mem_cons.mp hp with rfl | hp
    · exact ⟨x.there, x.un, x.loc, x.fs, x.dat⟩
    · rcases List.mem_cons.mp hp with rfl | hp
      · exact ⟨y.there, y.un, y.loc, y.fs, y.dat⟩
      · exact I.pin p (List.mem_append_right _ hp)
theorem Inv.unpin2 {a b : Addr × Obj} (I : Inv X (a :: b :: pins) σ H s) : Inv X pins σ H s :=
  I.pins_of fun p hp => I.pin p (List.mem_append_right _ (List.mem_cons_of_mem _ (List.mem_cons_of_mem _ hp)))
theorem Own2.next {b : Addr} {ob o' : Obj} {H' : Hp} {s' : Shared} (y : Own2 X pins H s b ob) (e : s'.heap.get? b = some o') (n : H' b = none) (d : ∀ v, o'.data ≠ .cell v) : Own2 X pins H' s' b o' := ⟨e, n, y.loc, y.fs, d, y.new, y.cell, y.pin⟩
/-- the object at kS goes, the one at a is tracked from now on -/
theorem Inv.given {a kS : Addr} {oa ok : Obj} {o : HO} {h' : Heap} {t' : Nat} (I : Inv X pins σ H s) (x : Own2 X pins H s a oa) (y : Own2 X pins H s kS ok) (k : PySem.W.KeepsBut a (sans s.heap kS) h') (new : ObjOk X.prog X.w (upd H a o) h' a o) :
    Inv X pins σ (upd H a o) { s with heap := h', toks := t' } := by
  have kp : ∀ b u, b ≠ a → b ≠ kS → s.heap.get? b = some u → h'.get? b = some u := fun b u h1 h2 e => k b u h1 ((sans_ne h2).trans e)
  have nc : ∀ {b : Addr}, b ∉ [a, kS] → b ≠ a ∧ b ≠ kS := fun {b} hb => ⟨fun z => hb (by simp [z]), fun z => hb (by simp [z])⟩
  have tr : ∀ {b : Addr} {u : HO}, H b = some u → b ≠ a ∧ b ≠ kS := fun {b u} e => ⟨ne_of_none e x.un, ne_of_none e y.un⟩
  refine I.step (g' := s.gens) (d' := s.drawn) (ch := [a, kS]) (fun b hb => ?_) (fun b u _ _ hc e _ => kp b u (nc hc).1 (nc hc).2 e) (fun b u _ _ hc e _ => ⟨u.slots, kp b u (nc hc).1 (nc hc).2 e⟩)
    (fun b u hc _ n => by rw [upd_ne (nc hc).1]; exact n) (fun b u hc e => ⟨u, kp b u (nc hc).1 (nc hc).2 e⟩) (fun b xs e => by rw [upd_ne (tr e).1]; exact e) (fun b u xs e => by rw [upd_ne (tr e).1]; exact e)
    (fun b qs e => ⟨#[], by rw [upd_ne (tr e).1, e]; simp⟩) (fun m hm => ?_) (fun b u e => ?_) I.bare
  · have hb' : b = a ∨ b = kS := by simpa using hb
    rcases hb' with rfl | rfl
    · exact ⟨.inr x.new, x.loc, x.cell, x.pin⟩
    · exact ⟨.inr y.new, y.loc, y.cell, y.pin⟩
  · obtain ⟨u, es, ep, ho, r⟩ := hm
    exact ⟨u, es, ep, kp _ u (Ne.symm x.loc) (Ne.symm y.loc) ho, r⟩
  · by_cases hb : b = a
    · subst hb
      rw [upd_same] at e
      cases e
      exact new
    · rw [upd_ne hb] at e
      refine (I.hok b u e).stay (fun c v hc q => ?_) (fun c q => by rw [upd_ne (tr q).1]; exact q) fun c xs q => by rw [upd_ne (tr q).1]; exact q
      rcases hc with rfl | z
      · exact kp _ v (tr e).1 (tr e).2 q
      · exact kp _ v (tr z).1 (tr z).2 q
end

section
variable {X : Cx} {cl : Nat → Addr} {pins : List (Addr × Obj)} {σ : St} {H : Hp} {s : Shared} {β : Type} {zs : List (V × β)} {enc key : β → D} {R : List D → D → Prop} {k : Nat} {fa : Addr} {fd : FuncData} {ps : List Str} {G : Hp} {M : ML}
/-- the keys are made, then the items sorted by them -/
theorem key_rest (F : FnOk X.prog X.w X.K X.mg X.base CX0 k fa fd ps (PSp X.K cl R)) (hr : Room (k + 2) X.A) (hu : X.A.units + 64 < cLine) (hb : Binds X.K fd ps []) {vs : List Value} (ev : PySem.W.EachIs (fun u (z : V × β) => RelV z.1 u) vs zs) (rz : ∀ z ∈ zs, Rep X.K cl G z.1 (enc z.2)) (hR : ∀ z ∈ zs, R [enc z.2] (key z.2))
    (hd : D.areDat (zs.map fun z => key z.2) = true) (so : Sorts (zs.map fun z => (key z.2).pyd)) (hZ : vs.length ≤ sizeLine) {a kS : Addr} {e1 : Nat} (hka : kS ≠ a) (S : Sep G H M) (I : Inv X pins σ H s)
    (oa : Own2 X pins H s a (PyProof.Rows.seqObj "list" #[] e1)) (ok : Own2 X pins H s kS (PyProof.Rows.seqObj "list" #[] 0)) {P : PySem.Fin → Shared → Prop} {E : Value → Shared → Prop}
    (h : ∀ G' H' s', Same G G' → Sep G' H' M → H' a = none → Inv X pins σ (upd H' a (.lst ((zs.mergeSort (PySem.W.dataLe false fun z => (key z.2).pyd)).map (·.1)))) s' → P (.done (.ret .none)) s') :
    wpAny (model X.prog X.w) X.A.in1.in1 (PyProof.Rows.ksk_rest a (.ref fa) false vs.toArray e1 (.ref kS)) P E s := by
  have hzl : zs.length = vs.length := ev.length.symm
  unfold PyProof.Rows.ksk_rest
  refine wpAny_bind (wpAny_rule ?_)
  rw [List.forIn_toArray]
  refine wpAny_bind (PyProof.Rows.ksk_fold (fun i s' => ∃ G' H' ka e kvs, Same G G' ∧ Sep G' H' M ∧ Inv X pins σ H' s' ∧ Own2 X pins H' s' a (PyProof.Rows.seqObj "list" #[] e1) ∧ Own2 X pins H' s' kS (PyProof.Rows.seqObj "list" ka e) ∧ Vals kvs ka.toList ∧ Reps X.K cl G' kvs ((zs.take i).map fun z => key z.2)) vs 0 s
    ⟨G, H, #[], 0, [], Same.refl _, S, I.tok _, oa.next oa.there oa.un seq_nocell, ok.next ok.there ok.un seq_nocell, .nil, Reps.nil⟩ ?turn ?last)
  case turn =>
    rintro j x s' hx ⟨G', H', ka, e, kvs, s1, S1, I1, o1, o2, hv, rk⟩
    simp only [Nat.zero_add] at rk ⊢
    have hj : j < vs.length := (List.getElem?_eq_some_iff.mp hx).1
    obtain ⟨z, hz⟩ : ∃ z, zs[j]? = some z := ⟨_, List.getElem?_eq_getElem (by omega)⟩
    have hzm : z ∈ zs := List.mem_of_getElem? hz
    have rx : RelV z.1 x := ev.zip (x, z) (List.mem_of_getElem? (i := j) (by rw [List.getElem?_zip_eq_some]; exact ⟨hx, hz⟩))
    have hkl : ka.size ≤ vs.length := by
      have h1 := hv.length
      have h0 : ka.toList.length = ka.size := Array.length_toList
      rw [rk.length, List.length_map, List.length_take] at h1
      omega
    refine wpAny_bind (wpAny_attempt (wpAny_mono (key_call (pins := (a, PyProof.Rows.seqObj "list" #[] e1) :: (kS, PyProof.Rows.seqObj "list" ka e) :: pins) (Q := fun v H2 => ∃ G2, Same G' G2 ∧ Sep G2 H2 M ∧ Rep X.K cl G2 v (key z.2)) F hr hb (o1.pinned o2 I1) rx
      ⟨[enc z.2], key z.2, G', M, hR z hzm, S1, Reps.one ((rz z hzm).mono s1), fun v G2 H2 s2 S2 r2 => ⟨G2, s2, S2, r2⟩⟩) (fun w st2 hw => ?_) fun _ _ f => f.elim))
    obtain ⟨v, H2, I2, rw', G2, s2, S2, r2⟩ := hw
    have p1 := I2.pin (a, PyProof.Rows.seqObj "list" #[] e1) (List.mem_append_right _ (List.mem_cons_self ..))
    have p2 := I2.pin (kS, PyProof.Rows.seqObj "list" ka e) (List.mem_append_right _ (List.mem_cons_of_mem _ (List.mem_cons_self ..)))
    have I3 := Inv.unpin2 I2
    have q1 := o1.next p1.1 p1.2.1 seq_nocell
    have q2 := o2.next p2.1 p2.2.1 seq_nocell
    dsimp only
    have sb := Heap.SameBut.update st2.heap kS (Obj.mapSeq (·.push w))
    obtain ⟨c2, hc2⟩ : ∃ c2, (st2.heap.update kS (Obj.mapSeq (·.push w))).get? kS = some (PyProof.Rows.seqObj "list" (ka.push w) c2) := ⟨_, PyProof.Rows.get?_update_seq q2.there (·.push w)⟩
    refine wpAny_bind (PyProof.Rows.listUpdate_at q2.there rfl ?_ (Nat.le_trans hkl hZ) (Nat.le_trans (Nat.le_of_eq (Array.size_push ..)) (Nat.succ_le_succ (Nat.le_trans hkl hZ))))
    refine wpAny_pure ⟨rfl, G2, H2, ka.push w, c2, kvs ++ [v], s1.trans s2, S2, I3.turned (t' := st2.toks) (fun b o hb q => (sb.2 b hb).trans q) q2.un q2.loc (.inr q2.new) q2.cell q2.pin, q1.next ((sb.2 a (Ne.symm hka)).trans q1.there) q1.un seq_nocell, q2.next hc2 q2.un seq_nocell, ?_, ?_⟩
    · rw [Array.toList_push]
      exact hv.append (.cons rw' .nil)
    · rw [List.take_add_one, hz, List.map_append]
      exact (rk.mono s2).append (Reps.one r2)
  case last =>
    rintro s' ⟨G', H', ka, e, kvs, s1, S1, I1, o1, o2, hv, rk⟩
    rw [Nat.zero_add, List.take_of_length_le (by omega)] at rk
    have er := reps_reads I1 (rk.mono S1.sub) hd hv
    have em : (zs.map fun z => key z.2).map D.pyd = zs.map fun z => (key z.2).pyd := by rw [List.map_map]; rfl
    rw [em] at er
    have hks : ka.size = vs.length := by
      have h1 := hv.length
      have h0 : ka.toList.length = ka.size := Array.length_toList
      rw [rk.length, List.length_map] at h1
      omega
    refine wpAny_bind (PyProof.Rows.listItems_at o2.there rfl ?_)
    refine PySem.W.keyH_end (κ := PySem.W.dataKind s'.heap (zs.map fun z => (key z.2).pyd)) (h₁ := sans s'.heap kS) (fun b o _ q => ?_) sans_self o2.there o1.there hka (PySem.W.SortsAt.data er so.alike so.kind fun d hm => ?_) hks hZ fun h' tk c kb he => ?_
    · by_cases hbk : b = kS
      · rw [hbk, sans_self] at q
        cases q
      · rw [sans_ne hbk] at q
        exact q
    · have h1 := so.low d hm
      have h2 : X.A.in1.in1.units = X.A.units + 2 := rfl
      omega
    · have eo : PySem.W.EachIs (fun u (z : V × β) => RelV z.1 u) (PySem.W.sortVals (PySem.W.dataKind s'.heap (zs.map fun z => (key z.2).pyd)) false ka.toList vs) (zs.mergeSort (PySem.W.dataLe false fun z => (key z.2).pyd)) :=
        PySem.W.keyedOut_each (fun z => (key z.2).pyd) ⟨s'.heap, ka.toList, so.alike, rfl, er⟩ ev
      refine h G' H' _ s1 S1 o1.un (Inv.given (t' := tk) I1 o1 o2 kb ⟨?_, _, c, each_back eo, he⟩)
      rw [List.length_map, List.length_mergeSort, hzl]
      exact hZ
/-- sorted(xs, key=f) -/
theorem call_sortKey (F : FnOk X.prog X.w X.K X.mg X.base CX0 k fa fd ps (PSp X.K cl R)) (hr : Room (k + 2) X.A) (hu : X.A.units + 64 < cLine) (hb : Binds X.K fd ps []) : CallRK X (.builtin "sorted") [Str.ofString "key"] (rSortKey X.K cl fa R) := by
  rintro pins s σ H xs zs us ws Q I r rw' ⟨a, vs, β, l, enc, key, G, M, rfl, rfl, S, sq, rs, hR, hd, so, q⟩
  obtain rfl := Vals.ref1 r
  obtain ⟨w1, rfl, e1⟩ := vals1 rw'
  obtain rfl : w1 = Value.ref fa := e1
  obtain ⟨its, rv, pl, hz⟩ := I.list sq
  obtain ⟨zs, rfl, rfl, hzr⟩ := reps_mapT rs
  have hil : its.length ≤ sizeLine := by rw [← rv.length]; exact hz
  have keep : ∀ b u, s.heap.get? b = some u → (PySem.W.copyHeap s.heap its).get? b = some u := fun b u e => PySem.W.copyHeap_old e
  have I1 : Inv X pins σ H { s with heap := PySem.W.copyHeap s.heap its } := I.kept (t' := s.toks) keep
  refine PySem.W.sorted_of_sort pl.isList hil (PyProof.Rows.ksk_s1 _ _) (fun _ => PyProof.Rows.ksk_l1 _ _) fun E' => ?_
  show wpAny _ _ (Builtin.«list.sort» ⟨[.ref (s.heap.objs.size + 1)], [(Str.ofString "key", .ref fa)]⟩) _ _ _
  rw [PyProof.Rows.ksk_t1]
  have hcs : (PySem.W.copyHeap s.heap its).objs.size = s.heap.objs.size + 2 := by
    unfold PySem.W.copyHeap
    rw [Heap.size_push, Heap.size_update, Heap.size_push]
  have ho := PySem.W.copyHeap_at s.heap its
  obtain ⟨e1, ho1⟩ : ∃ e1, ((PySem.W.copyHeap s.heap its).update (s.heap.objs.size + 1) (Obj.mapSeq fun _ => (#[] : Array Value))).get? (s.heap.objs.size + 1) = some (PyProof.Rows.seqObj "list" #[] e1) := ⟨_, PyProof.Rows.get?_update_seq ho fun _ => #[]⟩
  unfold PyProof.Rows.ksk_tree
  refine wpAny_bind (PyProof.Rows.listItems_at ho rfl ?_)
  refine wpAny_bind (PyProof.Rows.listUpdate_at ho rfl ?_ (by rw [List.size_toArray]; exact hil) (Nat.zero_le _))
  refine wpAny_bind (PyProof.Rows.seqEpoch_at ho1 rfl ?_)
  refine wpAny_bind (wpAny_newTuple ?_ (by show its.length ≤ _; exact hil))
  refine wpAny_bind (wpAny_newList ?_ (Nat.zero_le _))
  refine wpAny_holding ?_
  have hk : (((PySem.W.copyHeap s.heap its).update (s.heap.objs.size + 1) (Obj.mapSeq fun _ => (#[] : Array Value))).push (PyProof.Rows.seqObj "tuple" its.toArray 0)).objs.size = s.heap.objs.size + 3 := by rw [Heap.size_push, Heap.size_update, hcs]
  have keep4 : ∀ b u, s.heap.get? b = some u → ((((PySem.W.copyHeap s.heap its).update (s.heap.objs.size + 1) (Obj.mapSeq fun _ => (#[] : Array Value))).push (PyProof.Rows.seqObj "tuple" its.toArray 0)).push (PyProof.Rows.seqObj "list" #[] 0)).get? b = some u := fun b u e => by
    have hlt := Heap.lt_size e
    refine Heap.get?_push_of_some _ (Heap.get?_push_of_some _ ?_)
    rw [Heap.get?_update_ne _ _ _ _ (Nat.ne_of_lt (Nat.lt_succ_of_lt hlt))]
    exact keep b u e
  have I4 := I.kept (t' := s.toks) keep4
  have fr : ∀ {b : Addr}, s.heap.objs.size ≤ b → H b = none := fun {b} hb => I.hok.fresh hb
  refine key_rest (pins := pins) (σ := σ) (H := H) (M := M) F hr hu hb (each_of_vals rv) hzr (fun z hz => hR z.2 (List.mem_map.mpr ⟨z, hz, rfl⟩)) (by rw [List.map_map] at hd; exact hd) (by rw [List.map_map] at so; exact so) hil (by rw [hk]; exact Nat.ne_of_gt (Nat.add_lt_add_left (show 1 < 3 by decide) _)) S I4
    (Own2.of I (Nat.le_succ _) (Heap.get?_push_of_some _ (Heap.get?_push_of_some _ ho1)) (fr (Nat.le_succ _)) seq_nocell (fun _ h => h)) (Own2.of I (by rw [hk]; exact Nat.le_add_right _ _) (Heap.get?_push_size _ rfl) (fr (by rw [hk]; exact Nat.le_add_right _ _)) seq_nocell (fun _ h => h)) ?_
  intro G' H' s' s1 S1 hn I'
  refine ⟨rfl, .ref _, _, I', rfl, q G' H' _ _ s1 S1 ?_ hn⟩
  have em : ((zs.map (·.2)).mergeSort (PySem.W.dataLe false fun b => (key b).pyd)).map enc = (zs.mergeSort (PySem.W.dataLe false fun z => (key z.2).pyd)).map fun z => enc z.2 := by
    rw [← List.map_mergeSort (f := fun z : V × β => z.2) (r := PySem.W.dataLe false fun z : V × β => (key z.2).pyd) fun _ _ _ _ => rfl, List.map_map]
    rfl
  rw [em]
  exact Reps.map fun z hz => (hzr z ((List.mergeSort_perm _ _).mem_iff.mp hz)).mono s1
end
/-! ### its rule -/
section
variable {K : PySem.W.Frag} {cl : Nat → Addr} {p q : Bool} {M M1 : ML} {G : Hp} {σ : St} {ta : TE} {d : D} {β : Type} {l : List β} {enc key : β → D} {R : List D → D → Prop} {fa : Addr}
theorem ev_sortKey (ha : EvX K cl p ta σ G M d M1) (hd : d = .lst (l.map enc)) (hR : ∀ b ∈ l, R [enc b] (key b)) (hk : D.areDat (l.map key) = true) (so : Sorts (l.map fun b => (key b).pyd)) :
    EvX K cl false (tCKw (rSortKey K cl fa R) (tCons ta tNil) (tCons (tC (.ref fa)) tNil)) σ G M (.lst ((l.mergeSort (PySem.W.dataLe false fun b => (key b).pyd)).map enc)) M1 := fun G1 H1 s S Q k =>
  ha G1 H1 s S _ fun x G2 H2 g2 rx => by
    rw [hd] at rx
    obtain ⟨a, vs, rfl, sq, rs⟩ := rx.of_lst
    refine ⟨a, vs, β, l, enc, key, G2, M1, rfl, rfl, g2.sep, g2.sep.sub.seq sq, rs, hR, hk, so, fun G' H' ws p s' S' r' hn => ?_⟩
    exact k _ _ _ (Go.of ((g2.same.trans s').trans (Same.upd (S'.freshG hn))) (S'.newG hn)) (Rep.lst (.inl (.inl upd_same)) (r'.mono (Same.upd (S'.freshG hn))))
theorem ev_sortKeyM {a : Addr} {vs : List V} (ha : EvX K cl p ta σ G M (.loc a) M1) (hm : At M1 a (.lst vs)) (hr : Reps K cl G vs (l.map enc)) (hR : ∀ b ∈ l, R [enc b] (key b)) (hk : D.areDat (l.map key) = true) (so : Sorts (l.map fun b => (key b).pyd)) :
    EvX K cl false (tCKw (rSortKey K cl fa R) (tCons ta tNil) (tCons (tC (.ref fa)) tNil)) σ G M (.lst ((l.mergeSort (PySem.W.dataLe false fun b => (key b).pyd)).map enc)) M1 := fun G1 H1 s S Q k =>
  ha G1 H1 s S _ fun x G2 H2 g2 rx => by
    rw [rx.of_loc]
    refine ⟨a, vs, β, l, enc, key, G2, M1, rfl, rfl, g2.sep, .inl (.inl (g2.sep.look hm)), hr.mono (s.trans g2.same), hR, hk, so, fun G' H' ws p s' S' r' hn => ?_⟩
    exact k _ _ _ (Go.of ((g2.same.trans s').trans (Same.upd (S'.freshG hn))) (S'.newG hn)) (Rep.lst (.inl (.inl upd_same)) (r'.mono (Same.upd (S'.freshG hn))))
end
end Cp
/-! Cp13: dicts that are never changed, as data; comprehensions told by a relation; arguments laid on the way; == of things of one shape; what is never reached. -/
namespace Cp
open PySem L2

/-! ### what is never reached -/
def tNope : TS := fun _ _ _ => False
theorem ps_nope {X : Cx} {st : Stmt} : PS X st tNope := ⟨fun _ _ _ _ _ _ h => h.elim⟩
def eNope : TE := fun _ _ _ => False
theorem pe_nope {X : Cx} {e : Expr} : PE X e eNope := ⟨fun _ _ _ _ _ _ h => h.elim⟩

/-- sorted(xs, key=f), its reading: wherever f stands -/
def tSortKey (K : PySem.W.Frag) (cl : Nat → Addr) (R : List D → D → Prop) (t : TA) : TE := fun σ H Q => ∀ fa, tCKw (rSortKey K cl fa R) t (tCons (tC (.ref fa)) tNil) σ H Q
theorem pe_sortKey {X : Cx} {cl : Nat → Addr} {R : List D → D → Prop} {k : Nat} {fa : Addr} {fd : FuncData} {ps : List Str} {x y : Str} {p q pos kp : Pos} {e : Expr} {t : TA} (F : FnOk X.prog X.w X.K X.mg X.base CX0 k fa fd ps (PSp X.K cl R)) (hr : Room (k + 2) X.A) (hu : X.A.units + 64 < cLine) (hb : Binds X.K fd ps [])
    (hg : Gl X x) (hm : X.mg x = none) (hv : bootBuiltins x = some (.builtin "sorted")) (my : X.mg y = some (.ref fa)) (ha : PA X [e] t) (hg2 : Gl X y := by rfl) (hn : x ≠ "__name__" := by decide) (hdb : (x == ("__debug__" : Str)) = false := by decide) (hdy : (y == ("__debug__" : Str)) = false := by decide)
    (he : backTo pos (starEach (e :: []) X.env) = (false, eval e X.env) :: backTo pos (starEach [] X.env) := by rfl) (hpl : (backTo pos (starEach (e :: []) X.env)).any (·.1) = false := by rfl)
    (hall : (backToKw pos (keywordEach [⟨some "key", .Name y q, kp⟩] X.env)).all (·.1.isSome) = true := by rfl) (hnone : (backToKw pos (keywordEach [⟨some "key", .Name y q, kp⟩] X.env)).any (·.1.isNone) = false := by rfl) (hks : (backToKw pos (keywordEach [⟨some "key", .Name y q, kp⟩] X.env)).filterMap (·.1) = [Str.ofString "key"] := by rfl) :
    PE X (.Call (.Name x p) [e] [⟨some "key", .Name y q, kp⟩] pos) (tSortKey X.K cl R t) := by
  refine ⟨fun pins s σ H Q I h => ?_⟩
  exact (pe_callBK (p := p) (call_sortKey F hr hu hb) hg hm hv ha (pk_cons (nm := some "key") (kpos := kp) (pe_glob (pos := q) (v := .ref fa) hg2 my rfl hdy) pk_nil) hn hdb he hpl hall hnone hks).run pins s σ H Q I (h fa)
theorem ev_keyed {K : PySem.W.Frag} {cl : Nat → Addr} {p : Bool} {M M1 : ML} {G : Hp} {σ : St} {ta : TE} {d : D} {β : Type} {l : List β} {enc key : β → D} {R : List D → D → Prop} (ha : EvX K cl p ta σ G M d M1) (hd : d = .lst (l.map enc)) (hR : ∀ b ∈ l, R [enc b] (key b)) (hk : D.areDat (l.map key) = true) (so : Sorts (l.map fun b => (key b).pyd)) :
    EvX K cl false (tSortKey K cl R (tCons ta tNil)) σ G M (.lst ((l.mergeSort (PySem.W.dataLe false fun b => (key b).pyd)).map enc)) M1 := fun G1 H1 s S Q k fa => ev_sortKey ha hd hR hk so G1 H1 s S Q k
theorem ev_keyedM {K : PySem.W.Frag} {cl : Nat → Addr} {p : Bool} {M M1 : ML} {G : Hp} {σ : St} {ta : TE} {a : Addr} {vs : List V} {β : Type} {l : List β} {enc key : β → D} {R : List D → D → Prop} (ha : EvX K cl p ta σ G M (.loc a) M1) (hm : At M1 a (.lst vs)) (hr : Reps K cl G vs (l.map enc)) (hR : ∀ b ∈ l, R [enc b] (key b)) (hk : D.areDat (l.map key) = true) (so : Sorts (l.map fun b => (key b).pyd)) :
    EvX K cl false (tSortKey K cl R (tCons ta tNil)) σ G M (.lst ((l.mergeSort (PySem.W.dataLe false fun b => (key b).pyd)).map enc)) M1 := fun G1 H1 s S Q k fa => ev_sortKeyM ha hm hr hR hk so G1 H1 s S Q k

/-! ### dicts as data -/
section
variable {K : PySem.W.Frag} {cl : Nat → Addr} {G G' : Hp} {a : Addr}
theorem KRep.fst {kws : List (Key × V)} {kes : List (Key × D)} (r : KRep K cl G kws kes) : kws.map (·.1) = kes.map (·.1) := by
  induction r with
  | nil => rfl
  | cons h t ih => rw [List.map_cons, List.map_cons, ih, h.1]
theorem KRep.snd {kws : List (Key × V)} {kes : List (Key × D)} (r : KRep K cl G kws kes) : Reps K cl G (kws.map (·.2)) (kes.map (·.2)) := by
  induction r with
  | nil => exact Reps.nil
  | cons h t ih => exact Reps.cons h.2 ih
/-- a dict as data -/
abbrev dicD (kes : List (Key × D)) : D := .dic (kes.map (·.1)) (kes.map (·.2))
theorem KRep.dic {kws : List (Key × V)} {kes : List (Key × D)} (r : KRep K cl G kws kes) (h : G a = Option.some (.dK kws)) : Rep K cl G (.ref a) (dicD kes) := Rep.dic h r.fst r.snd
theorem krep_of : ∀ {kws : List (Key × V)} {kes : List (Key × D)}, kws.map (·.1) = kes.map (·.1) → Reps K cl G (kws.map (·.2)) (kes.map (·.2)) → KRep K cl G kws kes
  | [], [], _, _ => .nil
  | [], _ :: _, h, _ => by simp at h
  | _ :: _, [], h, _ => by simp at h
  | p :: kws, q :: kes, h, r => by
    rw [List.map_cons, List.map_cons, List.cons.injEq] at h
    obtain ⟨v, ws, e, r1, r2⟩ := r.uncons
    rw [List.map_cons, List.cons.injEq] at e
    rw [← e.1] at r1
    rw [← e.2] at r2
    exact .cons ⟨h.1, r1⟩ (krep_of h.2 r2)
theorem Rep.of_dicD {x : V} {kes : List (Key × D)} (h : Rep K cl G x (dicD kes)) : ∃ a kws, x = .ref a ∧ G a = some (.dK kws) ∧ KRep K cl G kws kes := by
  obtain ⟨a, kws, e, q, l, r⟩ := h.of_dic
  exact ⟨a, kws, e, q, krep_of l r⟩
/-- an owned dict becomes data -/
theorem Sep.dic {H : Hp} {M : ML} {kws : List (Key × V)} {kes : List (Key × D)} (S : Sep G H ((a, .dK kws) :: M)) (r : KRep K cl G kws kes) : ∃ G', Same G G' ∧ Sep G' H M ∧ Rep K cl G' (.ref a) (dicD kes) := by
  obtain ⟨S', s'⟩ := S.freeze
  exact ⟨_, s', S', (r.mono s').dic upd_same⟩
theorem Sep.ins {H : Hp} {M : ML} {c : Nat} {dx : Addr} {ns : List Str} {vs : List V} {ds : List D} (S : Sep G H ((a, .ins (cl c) dx (ns.zip vs)) :: M)) (l : ns.length = vs.length) (r : Reps K cl G vs ds) : ∃ G', Same G G' ∧ Sep G' H M ∧ Rep K cl G' (.ref a) (.ins c ns ds) := by
  obtain ⟨S', s'⟩ := S.freeze
  exact ⟨_, s', S', Rep.ins upd_same l (r.mono s')⟩
theorem Sep.lst {H : Hp} {M : ML} {vs : List V} {ds : List D} (S : Sep G H ((a, .lst vs) :: M)) (r : Reps K cl G vs ds) : ∃ G', Same G G' ∧ Sep G' H M ∧ Rep K cl G' (.ref a) (.lst ds) := by
  obtain ⟨S', s'⟩ := S.freeze
  exact ⟨_, s', S', Rep.lst (.inl (.inl upd_same)) (r.mono s')⟩
end
section
variable [Wo] {K : PySem.W.Frag} {cl : Nat → Addr} {p q r : Bool} {M M1 M2 M3 M4 : ML} {G G1 G2 G3 H H1 H2 H3 : Hp} {σ : St} {ta tb tc te tl : TE} {tx : TA} {tt tu : TT} {d d1 d2 d3 : D} {ds es : List D}
variable {a : Addr} {kes : List (Key × D)} {k : Key}
theorem ev_dget (ha : EvX K cl p ta σ G M d2 M1) (hb : EvX K cl q tb σ G M1 d1 M2) (hd : d2 = dicD kes) (hk : d1 = kD k) (hv : valG kes k = some d) : EvX K cl (p && q) (tOp (rIxA K cl) ta tb) σ G M d M2 := fun G1 H1 s S Q kk =>
  ha G1 H1 s S _ fun x G2 H2 g2 rx => hb G2 H2 (s.trans g2.same) g2.sep _ fun y G3 H3 g3 ry => by
    rw [hd] at rx
    obtain ⟨a, kws, rfl, ea, r⟩ := rx.of_dicD
    rw [hk] at ry
    obtain ⟨v, e, rv⟩ := r.some hv
    exact .inl ⟨a, v, rfl, .inl ⟨kws, k, .inl (g3.sep.sub _ _ (g3.same _ _ ea)), rep_kD ry, e.symm⟩, kk v G3 H3 (g2.trans g3) (rv.mono g3.same)⟩
theorem ev_din {neg : Bool} (hb : EvX K cl p tb σ G M d1 M1) (ha : EvX K cl q ta σ G M1 d2 M2) (hd : d2 = dicD kes) (hk : d1 = kD k) : EvX K cl (p && q) (tOp (rInA K cl neg) tb ta) σ G M (.bl (neg != (valG kes k).isSome)) M2 := fun G1 H1 s S Q kk =>
  hb G1 H1 s S _ fun y G2 H2 g2 ry => ha G2 H2 (s.trans g2.same) g2.sep _ fun x G3 H3 g3 rx => by
    rw [hd] at rx
    obtain ⟨a, kws, rfl, ea, r⟩ := rx.of_dicD
    rw [hk] at ry
    refine .inl ⟨a, _, rfl, .inl ⟨kws, k, .inl (g3.sep.sub _ _ ea), rep_kD ry, rfl⟩, ?_⟩
    rw [r.isSome]
    exact kk _ G3 H3 (g2.trans g3) Rep.bl
theorem ev_dget1 (ha : EvX K cl p ta σ G M d2 M1) (hb : EvX K cl q tb σ G M1 d1 M2) (hd : d2 = dicD kes) (hk : d1 = kD k) : EvX K cl (p && q) (tGet1 K cl ta tb) σ G M ((valG kes k).getD .non) M2 := fun G1 H1 s S Q kk =>
  ha G1 H1 s S _ fun x G2 H2 g2 rx => by
    rw [hd] at rx
    obtain ⟨a, kws, rfl, ea, r⟩ := rx.of_dicD
    refine ⟨a, rfl, .inl (.inl ⟨kws, .inl (g2.sep.sub _ _ ea)⟩), hb G2 H2 (s.trans g2.same) g2.sep _ fun y G3 H3 g3 ry => ?_⟩
    rw [hk] at ry
    exact .inl ⟨_, .inl ⟨kws, k, .inl (g3.sep.sub _ _ (g3.same _ _ ea)), rep_kD ry, rfl⟩, kk _ G3 H3 (g2.trans g3) ((r.getD k Rep.non).mono g3.same)⟩
theorem ev_dget2 (ha : EvX K cl p ta σ G M d2 M1) (hb : EvX K cl q tb σ G M1 d1 M2) (hz : EvX K cl r tc σ G M2 d3 M3) (hd : d2 = dicD kes) (hk : d1 = kD k) : EvX K cl (p && q && r) (tGet2 K cl ta tb tc) σ G M ((valG kes k).getD d3) M3 := fun G1 H1 s S Q kk =>
  ha G1 H1 s S _ fun x G2 H2 g2 rx => by
    rw [hd] at rx
    obtain ⟨a, kws, rfl, ea, r⟩ := rx.of_dicD
    refine ⟨a, rfl, .inl (.inl ⟨kws, .inl (g2.sep.sub _ _ ea)⟩), hb G2 H2 (s.trans g2.same) g2.sep _ fun y G3 H3 g3 ry => hz G3 H3 ((s.trans g2.same).trans g3.same) g3.sep _ fun z G4 H4 g4 rz => ?_⟩
    rw [hk] at ry
    have sA := g3.same.trans g4.same
    exact .inl ⟨_, .inl ⟨kws, k, .inl (g4.sep.sub _ _ (sA _ _ ea)), rep_kD (ry.mono g4.same), rfl⟩, kk _ G4 H4 ((g2.trans g3).trans g4) ((r.mono sA).getD k rz)⟩
/-- list(xs) -/
theorem on_listL : OpN K cl false (rListA K) M [.lst ds] (.lst ds) M := fun G1 H1 S us ru Q k => by
  obtain ⟨u, rfl, hu⟩ := reps1 ru
  obtain ⟨a, vs, rfl, sq, rs⟩ := hu.of_lst
  exact ⟨a, vs, rfl, .inl (S.sub.seq sq), fun l hl => k _ _ _ (Go.of (Same.upd (S.freshG hl)) (S.newG hl)) (Rep.lst (.inl (.inl upd_same)) (rs.mono (Same.upd (S.freshG hl))))⟩
/-- dict(d) of a dict as data -/
abbrev rDictD : List V → Hp → VK → Prop := fun xs H Q => ∃ (a : Addr) (kvs : List (Key × V)), xs = [.ref a] ∧ Rd H a (.dK kvs) ∧ ∀ p, H p = none → Q (.ref p) (upd H p (.dK kvs))
theorem on_dictD : OpN K cl false rDictD M [dicD kes] (dicD kes) M := fun G1 H1 S us ru Q k => by
  obtain ⟨u, rfl, hu⟩ := reps1 ru
  obtain ⟨a, kws, rfl, ea, r⟩ := hu.of_dicD
  exact ⟨a, kws, rfl, .inl (S.sub _ _ ea), fun l hl => k _ _ _ (Go.of (Same.upd (S.freshG hl)) (S.newG hl)) ((r.mono (Same.upd (S.freshG hl))).dic upd_same)⟩

/-! ### laid on the way -/
theorem EvG.imp {F F' : FG} (h : EvG te σ G M F) (hF : ∀ v G' H' M', Same G G' → Sep G' H' M' → F v G' M' → ∃ G2 M2, Same G' G2 ∧ Sep G2 H' M2 ∧ F' v G2 M2) : EvG te σ G M F' := fun G1 H1 s S Q k =>
  h G1 H1 s S _ fun v G2 H2 M2 s2 S2 f => by
    obtain ⟨G3, M3, s3, S3, f3⟩ := hF v G2 H2 M2 (s.trans s2) S2 f
    exact k v G3 H2 M3 (s2.trans s3) S3 f3
theorem ev_of {F : FG} (h : EvG te σ G M F) (hF : ∀ v G' H' M', Same G G' → Sep G' H' M' → F v G' M' → ∃ G2, Same G' G2 ∧ Sep G2 H' M ∧ Rep K cl G2 v d) : EvX K cl false te σ G M d M := fun G1 H1 s S Q k =>
  h G1 H1 s S _ fun v G2 H2 M2 s2 S2 f => by
    obtain ⟨G3, s3, S3, r3⟩ := hF v G2 H2 M2 (s.trans s2) S2 f
    exact k v G3 H2 (Go.of (s2.trans s3) S3) r3
abbrev AG := List V → Hp → ML → Prop
def EvAG (ta : TA) (σ : St) (G : Hp) (M : ML) (F : AG) : Prop :=
  ∀ G1 H1, Same G G1 → Sep G1 H1 M → ∀ Q : List V → Hp → Prop, (∀ vs G2 H2 M2, Same G1 G2 → Sep G2 H2 M2 → F vs G2 M2 → Q vs H2) → ta σ H1 Q
theorem ag_of {F : AG} (h : EvA K cl p tx σ G M ds M1) (hF : ∀ vs G', Same G G' → Reps K cl G' vs ds → F vs G' M1) : EvAG tx σ G M F := fun G1 H1 s S Q k =>
  h G1 H1 s S Q fun vs G2 H2 g2 rs => k vs G2 H2 M1 g2.same g2.sep (hF vs G2 (s.trans g2.same) rs)
theorem ag_cons {tr : TA} {F1 : FG} {F : AG} (h : EvG te σ G M F1) (hr : ∀ v G' M', Same G G' → F1 v G' M' → EvAG tr σ G' M' fun vs G2 M2 => F (v :: vs) G2 M2) : EvAG (tCons te tr) σ G M F := fun G1 H1 s S Q k =>
  h G1 H1 s S _ fun v G2 H2 M2 s2 S2 f => hr v G2 M2 (s.trans s2) f G2 H2 (Same.refl _) S2 _ fun vs G3 H3 M3 s3 S3 f3 => k (v :: vs) G3 H3 M3 (s2.trans s3) S3 f3
/-- a def over what was laid for it -/
theorem eg_callAG {R : RG} {E : XK} {F : FG} {Fa : AG} (ha : EvAG tx σ G M Fa)
    (hR : ∀ vs G' H' M' (T : V → Hp → ML → Prop), Same G G' → Sep G' H' M' → Fa vs G' M' → (∀ v G'' M'', Same G' G'' → F v G'' M'' → T v G'' M'') → ∃ M2, M'.Perm M2 ∧ R vs G' M2 T) : EvG (tCall (GSp R) [] E tx) σ G M F := fun G1 H1 s S Q k =>
  ha G1 H1 s S _ fun xs G2 H2 M2 s2 S2 fa => by
    obtain ⟨M3, pm, hh⟩ := hR xs G2 H2 M2 (fun v G' M' => Same G2 G' → ∀ H', Sep G' H' M' → Q v H') (s.trans s2) S2 fa fun v G'' M'' s'' hF sm H' S' => k v G'' H' M'' (s2.trans sm) S' hF
    refine ⟨G2, M3, S2.perm pm, ?_⟩
    rw [List.append_nil]
    exact hh
/-- a pure def over what was laid for it -/
theorem eg_pcallAG {R : List D → D → Prop} {E : XK} {F : FG} {Fa : AG} (ha : EvAG tx σ G M Fa)
    (hR : ∀ vs G' M', Same G G' → Fa vs G' M' → ∃ ds d, Reps K cl G' vs ds ∧ R ds d ∧ ∀ w G'', Same G' G'' → Rep K cl G'' w d → F w G'' M') : EvG (tCall (PSp K cl R) [] E tx) σ G M F := fun G1 H1 s S Q k =>
  ha G1 H1 s S _ fun xs G2 H2 M2 s2 S2 fa => by
    obtain ⟨ds, d, rs, hd, hk⟩ := hR xs G2 M2 (s.trans s2) fa
    exact ⟨ds, d, G2, M2, hd, S2, by rw [List.append_nil]; exact rs, fun w G' H' s' S' rw' => k w G' H' M2 (s2.trans s') S' (hk w G' s' rw')⟩

/-! ### comprehensions told by a relation -/
def LcG (K : PySem.W.Frag) (cl : Nat → Addr) (g : TG) (tt : TT) (te : TE) (vs : List Nat) (σ : St) (G : Hp) (M : ML) (x : V) (keep : Bool) (F : V → Hp → Prop) : Prop :=
  ∃ σ2 p, wipe σ2 vs = wipe σ vs ∧ (∀ H (Kk : St → Hp → Prop), Sep G H M → Kk σ2 H → g x (wipe σ vs) H Kk) ∧ EvT K cl p tt σ2 G M keep M ∧ (keep = true → EvG te σ2 G M fun v G' M' => M' = M ∧ F v G')
theorem lcG1 {vs : List Nat} {x : V} {keep : Bool} {j : Nat} {F : V → Hp → Prop} (hw : wipe ((wipe σ vs).set j (some x)) vs = wipe σ vs) (ht : EvT K cl p tt ((wipe σ vs).set j (some x)) G M keep M) (he : keep = true → EvG te ((wipe σ vs).set j (some x)) G M fun v G' M' => M' = M ∧ F v G') : LcG K cl (gName j) tt te vs σ G M x keep F :=
  ⟨_, p, hw, fun H Kk _ h => h, ht, he⟩
theorem eg_lcY {β γ : Type} {l : List β} {U : V → β → Hp → Prop} {encY : γ → D} {P : β → γ → Prop} {vs : List Nat} {keep : β → Bool} {g : TG} {J : It} {us : List V} {ok : Hp → Prop} (Y : Yields J us ok) (hok : ∀ e G' H', Same G G' → Sep G' H' (e :: M1) → ok H')
    (hus : ∀ (i : Nat) (x : V), us[i]? = some x → ∃ b, l[i]? = some b ∧ U x b G) (hul : us.length = l.length) (hU : ∀ x b G', Same G G' → U x b G → U x b G') (hl : l.length ≤ 10000000) (sG : Same G G2) (S2 : Sep G2 H2 M1)
    (hs : ∀ G1 e x b, Same G G1 → b ∈ l → U x b G1 → LcG K cl g tt te vs σ G1 (e :: M1) x (keep b) fun v G' => ∃ c, P b c ∧ Rep K cl G' v (encY c)) {Q : VK} (k : ∀ v G' H', Same G2 G' → Sep G' H' M1 → (∃ cs, Paired P (l.filter keep) cs ∧ Rep K cl G' v (.lst (cs.map encY))) → Q v H') :
    ∀ Da, H2 Da = none → ∃ W : Nat → Nat → Hp → Prop, (∃ m, W 0 m (upd H2 Da (.lst []))) ∧ ∀ i m H, W i m H →
      (J.stop i H ∧ Q (.ref Da) H) ∨ (J.go i H ∧ ∃ Nx : Hp → Prop, (∀ H', Nx H' → ∃ m', m' < m ∧ W (i + 1) m' H') ∧ ∀ x H', J.yld i H x H' → g x (wipe σ vs) H' fun σ2 H2 => wipe σ2 vs = wipe σ vs ∧ tt σ2 H2 fun b H3 =>
        if b = true then te σ2 H3 fun y H4 => ∃ acc, H4 Da = some (.lst acc) ∧ acc.length < sizeLine ∧ Nx (upd H4 Da (.lst (acc ++ [y]))) else Nx H3) := fun Da hD => by
  have pl : ∀ {l : List β} {cs : List γ}, Paired P l cs → l.length = cs.length := fun h => by
    induction h with
    | nil => rfl
    | cons h t ih => rw [List.length_cons, List.length_cons, ih]
  have pa : ∀ {l l' : List β} {cs cs' : List γ}, Paired P l cs → Paired P l' cs' → Paired P (l ++ l') (cs ++ cs') := fun h h' => by
    induction h with
    | nil => exact h'
    | cons h t ih => exact .cons h ih
  refine lc_y Y (fun i H => ∃ G' acc cs, Same G2 G' ∧ Sep G' H ((Da, .lst acc) :: M1) ∧ Paired P ((l.take i).filter keep) cs ∧ Reps K cl G' acc (cs.map encY)) ⟨G2, [], [], Same.refl _, S2.newM hD, .nil, Reps.nil⟩ ?_ ?_ ?_
  · rintro i H hi ⟨G', acc, cs, s', S', _, ra⟩
    exact hok _ G' H (sG.trans s') S'
  · rintro i x H hx ⟨G', acc, cs, s', S', hp, ra⟩
    obtain ⟨b, hdi, ub⟩ := hus i x hx
    obtain ⟨σ2, p', hw, hg, ht, he⟩ := hs G' (Da, .lst acc) x b (sG.trans s') (List.mem_of_getElem? hdi) (hU x b G' (sG.trans s') ub)
    refine hg H _ S' ⟨hw, ht G' H (Same.refl _) S' _ fun G3 H3 g3 => ?_⟩
    have e1 : l.take (i + 1) = l.take i ++ [b] := by rw [List.take_add_one, hdi]; rfl
    have hal : acc.length ≤ l.length := by
      rw [ra.length, List.length_map, ← pl hp]
      exact Nat.le_trans (List.length_filter_le _ _) (by rw [List.length_take]; omega)
    cases hk : keep b with
    | true =>
      rw [if_pos rfl]
      refine he hk G3 H3 g3.same g3.sep _ fun y G4 H4 M4 s4 S4 f4 => ?_
      obtain ⟨rfl, c, hc, ry⟩ := f4
      have sA := g3.same.trans s4
      refine ⟨acc, S4.look .hd, Nat.lt_of_le_of_lt (Nat.le_trans hal hl) (by decide), G4, acc ++ [y], cs ++ [c], s'.trans sA, S4.ch .hd, ?_, ?_⟩
      · rw [e1, List.filter_append, List.filter_cons, if_pos hk]
        exact pa hp (.cons hc .nil)
      · rw [List.map_append]
        exact Reps.append (ra.mono sA) (Reps.one ry)
    | false =>
      rw [if_neg (by decide)]
      refine ⟨G3, acc, cs, s'.trans g3.same, g3.sep, ?_, ra.mono g3.same⟩
      rw [e1, List.filter_append, List.filter_cons, if_neg (by rw [hk]; decide)]
      show Paired P (_ ++ []) cs
      rw [List.append_nil]
      exact hp
  · rintro H ⟨G', acc, cs, s', S', hp, ra⟩
    rw [hul, List.take_length] at hp
    obtain ⟨S3, s3⟩ := S'.freeze
    exact k (.ref Da) _ H (s'.trans s3) S3 ⟨cs, hp, Rep.lst (.inl (.inl upd_same)) (ra.mono s3)⟩
theorem eg_lcR {β γ : Type} {l : List β} {enc : β → D} {encY : γ → D} {P : β → γ → Prop} {vs : List Nat} {keep : β → Bool} {g : TG} (h : EvX K cl p tl σ G M d1 M1) (hd : d1 = .lst (l.map enc)) (hl : l.length ≤ 10000000)
    (hs : ∀ G1 e x b, Same G G1 → b ∈ l → Rep K cl G1 x (enc b) → LcG K cl g tt te vs σ G1 (e :: M1) x (keep b) fun v G' => ∃ c, P b c ∧ Rep K cl G' v (encY c)) :
    EvG (tLc (iSeq K tl) g tt te vs) σ G M fun v G' M' => M' = M1 ∧ ∃ cs, Paired P (l.filter keep) cs ∧ Rep K cl G' v (.lst (cs.map encY)) := fun G1 H1 s S Q k =>
  .inl (h G1 H1 s S _ fun x G2 H2 g2 rx => by
    rw [hd] at rx
    obtain ⟨a, us, e, sq, rs⟩ := rx.of_lst
    exact ⟨a, e, ⟨us, g2.sep.sub.seq sq⟩, eg_lcY (K := K) (cl := cl) (G := G2) (U := fun x b G => Rep K cl G x (enc b)) (yields_lst (xs := us)) (fun e G' H' s' S' => (s'.trans S'.sub).seq sq)
      (fun i x hx => by
        obtain ⟨d, hdi, rd⟩ := rs.get hx
        rw [List.getElem?_map] at hdi
        obtain ⟨b, hb, rfl⟩ := Option.map_eq_some_iff.mp hdi
        exact ⟨b, hb, rd⟩) (by rw [rs.length, List.length_map]) (fun x b G' s' r' => r'.mono s') hl (Same.refl _) g2.sep (fun G3 e x b s3 => hs G3 e x b ((s.trans g2.same).trans s3)) fun v G' H' s' S' hc => k v G' H' M1 (g2.same.trans s') S' ⟨rfl, hc⟩⟩)
theorem yields_rng {n : Nat} : Yields (Itr 0 n) ((List.range n).map fun i : Nat => V.int (i : Int)) (fun _ => True) where
  go := fun i H hi _ => by
    rw [List.length_map, List.length_range] at hi
    exact hi
  stop := fun H _ => by
    rw [List.length_map, List.length_range]
    exact Nat.le_refl n
  yld := fun i H x H' hi _ y => ⟨y.1, by
    rw [List.length_map, List.length_range] at hi
    rw [List.getElem?_map, List.getElem?_range hi, y.2, Int.zero_add]
    rfl⟩
/-- [e for k in range(n)] -/
theorem eg_lcRng {γ : Type} {n : Int} {encY : γ → D} {P : Nat → γ → Prop} {vs : List Nat} {g : TG} (h : EvA K cl p tx σ G M [.int n] M1) (hn : -1000000 ≤ n ∧ n ≤ 1000000)
    (hs : ∀ G1 e (i : Nat), Same G G1 → (i : Int) < n → LcG K cl g tYes te vs σ G1 (e :: M1) (.int (i : Int)) true fun v G' => ∃ c, P i c ∧ Rep K cl G' v (encY c)) :
    EvG (tLc (iRng1 tx) g tYes te vs) σ G M fun v G' M' => M' = M1 ∧ ∃ cs, Paired P (List.range n.toNat) cs ∧ Rep K cl G' v (.lst (cs.map encY)) := fun G1 H1 s S Q k =>
  h G1 H1 s S _ fun xs G2 H2 g2 rx => by
    obtain ⟨u, rfl, hu⟩ := reps1 rx
    refine ⟨n, by rw [hu.of_int], by omega, by omega, ?_⟩
    have e0 : (List.range n.toNat).filter (fun _ => true) = List.range n.toNat := List.filter_eq_self.mpr fun _ _ => rfl
    refine eg_lcY (K := K) (cl := cl) (G := G2) (l := List.range n.toNat) (keep := fun _ => true) (U := fun x i _ => x = .int (i : Int)) yields_rng (fun _ _ _ _ _ => trivial)
      (fun i x hx => ?_) (by rw [List.length_map]) (fun _ _ _ _ r => r) (by rw [List.length_range]; omega) (Same.refl _) g2.sep (fun G3 e x i s3 hi hx => ?_) fun v G' H' s' S' hc => k v G' H' M1 (g2.same.trans s') S' ⟨rfl, by rw [e0] at hc; exact hc⟩
    · rw [List.getElem?_map] at hx
      obtain ⟨j, hj, rfl⟩ := Option.map_eq_some_iff.mp hx
      exact ⟨j, hj, rfl⟩
    · subst hx
      have := List.mem_range.mp hi
      exact hs G3 e i ((s.trans g2.same).trans s3) (by omega)

/-! ### == of things of one shape -/
/-- a thing that == finds equal to itself at once -/
def simpV : V → Bool
  | .byt _ => false
  | .flt _ => false
  | .ty _ => false
  | _ => true
section
variable (K : PySem.W.Frag)
mutual
/-- at most n deep alike: == says True -/
inductive Like (H : Hp) : Nat → V → V → Prop
  | eq {n : Nat} {v : V} : simpV v = true → Like H n v v
  | lists {n : Nat} {a b : Addr} {vs ws : List V} : SqL K H a vs → SqL K H b ws → Likes H n vs ws → Like H (n + 1) (.ref a) (.ref b)
  | tups {n : Nat} {a b : Addr} {vs ws : List V} : SqT K H a vs → SqT K H b ws → Likes H n vs ws → Like H (n + 1) (.ref a) (.ref b)
  | dicts {n : Nat} {a b : Addr} {kvs kws : List (Key × V)} : H a = some (.dK kvs) → H b = some (.dK kws) → kvs.map (·.1) = kws.map (·.1) → Likes H n (kvs.map (·.2)) (kws.map (·.2)) → Like H (n + 1) (.ref a) (.ref b)
inductive Likes (H : Hp) : Nat → List V → List V → Prop
  | nil {n : Nat} : Likes H n [] []
  | cons {n : Nat} {v w : V} {vs ws : List V} : Like H n v w → Likes H n vs ws → Likes H n (v :: vs) (w :: ws)
end
end
end
theorem rep_simp {K : PySem.W.Frag} {cl : Nat → Addr} {G : Hp} {v : V} {d : D} (h : Rep K cl G v d) : simpV v = true := by
  cases d with
  | non => rw [h.of_non]; rfl
  | bl b => rw [h.of_bl]; rfl
  | int i => rw [h.of_int]; rfl
  | str s => rw [h.of_str]; rfl
  | loc a => rw [h.of_loc]; rfl
  | lst ds => obtain ⟨a, vs, rfl, _⟩ := h.of_lst; rfl
  | tup ds => obtain ⟨a, vs, rfl, _⟩ := h.of_tup; rfl
  | ins c ns ds => obtain ⟨a, dx, vs, rfl, _⟩ := h.of_ins; rfl
  | dic ks ds => obtain ⟨a, kws, rfl, _⟩ := h.of_dic; rfl
theorem likes_reps {K K' : PySem.W.Frag} {cl : Nat → Addr} {G H : Hp} {n : Nat} : ∀ {vs : List V} {ds : List D}, Reps K cl G vs ds → Likes K' H n vs vs
  | vs, [], h => by
    simp only [Reps] at h
    subst h
    exact .nil
  | vs, d :: ds, h => by
    obtain ⟨v, ws, rfl, r1, r2⟩ := h.uncons
    exact .cons (.eq (rep_simp r1)) (likes_reps r2)
/-! its proof -/
theorem valueAt_pair {κ : Type} [DecidableEq κ] {T : Value → Value → Prop} : ∀ {ka kb : List (κ × Value)}, Paired (fun p q => p.1 = q.1 ∧ T p.2 q.2) ka kb → (ka.map (·.1)).Nodup → ∀ k v y, (k, v) ∈ ka → PySem.valueAt kb k = some y → T v y
  | _, _, .nil, _, _, _, _, h, _ => nomatch h
  | p :: ka, q :: kb, .cons h t, nd, k, v, y, hm, hv => by
    rw [List.map_cons, List.nodup_cons] at nd
    unfold PySem.valueAt at hv
    rw [List.find?_cons] at hv
    rcases List.mem_cons.mp hm with e | hm
    · have e1 : q.1 = k := by rw [← h.1, ← e]
      rw [decide_eq_true e1] at hv
      have e2 : q.2 = y := Option.some.inj hv
      rw [← e2]
      have := h.2
      rw [← e] at this
      exact this
    · have e1 : ¬ q.1 = k := fun z => nd.1 (by rw [h.1, z]; exact List.mem_map.mpr ⟨_, hm, rfl⟩)
      rw [decide_eq_false e1] at hv
      exact valueAt_pair t nd.2 k v y hm hv
theorem valueAt_isSome {κ : Type} [DecidableEq κ] : ∀ {kb : List (κ × Value)} {k : κ}, k ∈ kb.map (·.1) → (PySem.valueAt kb k).isSome = true
  | [], k, h => nomatch h
  | q :: kb, k, h => by
    unfold PySem.valueAt
    rw [List.find?_cons]
    by_cases e : q.1 = k
    · rw [decide_eq_true e]; rfl
    · rw [decide_eq_false e]
      rw [List.map_cons] at h
      rcases List.mem_cons.mp h with z | z
      · exact absurd z.symm e
      · exact valueAt_isSome z
theorem kv_vals {κ : Type} {kvs : List (κ × V)} {vs : List (κ × Value)} (h : KV kvs vs) : Vals (kvs.map (·.2)) (vs.map (·.2)) := by
  induction h with
  | nil => exact .nil
  | cons h t ih => exact .cons h.2 ih
theorem kv_keys {κ : Type} {kvs : List (κ × V)} {vs : List (κ × Value)} (h : KV kvs vs) : kvs.map (·.1) = vs.map (·.1) := by
  induction h with
  | nil => rfl
  | cons h t ih => rw [List.map_cons, List.map_cons, ih, h.1]
theorem paired_at {κ : Type} {T : Value → Value → Prop} : ∀ {va vb : List (κ × Value)}, va.map (·.1) = vb.map (·.1) → (∀ (j : Nat) (h1 : j < (va.map (·.2)).length) (h2 : j < (vb.map (·.2)).length), T (va.map (·.2))[j] (vb.map (·.2))[j]) → Paired (fun p q => p.1 = q.1 ∧ T p.2 q.2) va vb
  | [], [], _, _ => .nil
  | [], _ :: _, h, _ => by simp at h
  | _ :: _, [], h, _ => by simp at h
  | p :: va, q :: vb, h, t => by
    rw [List.map_cons, List.map_cons, List.cons.injEq] at h
    exact .cons ⟨h.1, t 0 (by simp) (by simp)⟩ (paired_at h.2 fun j h1 h2 => t (j + 1) (by simpa using h1) (by simpa using h2))
section
variable {X : Cx} {pins : List (Addr × Obj)} {σ : St} {H : Hp} {s : Shared}
mutual
theorem Like.tree (I : Inv X pins σ H s) : ∀ {n : Nat} {v w : V} {u t : Value}, Like X.K H n v w → RelV v u → RelV w t → PySem.W.EqTree X.prog X.w s n u t true
  | n, v, _, u, t, .eq hv, ru, rt => by
    cases v with
    | non => obtain rfl : u = Value.none := ru; obtain rfl : t = Value.none := rt; exact .same
    | bl b => obtain rfl : u = Value.bool b := ru; obtain rfl : t = Value.bool b := rt; exact .same
    | int i =>
      obtain ⟨a, rfl⟩ := ru
      obtain ⟨b, rfl⟩ := rt
      refine .leaf fun A _ => ?_
      have h := SeqAt.EqAt.int_int (A := A) (s := s) i a i b
      rw [beq_self_eq_true] at h
      exact h
    | str x =>
      obtain ⟨a, rfl⟩ := ru
      obtain ⟨b, rfl⟩ := rt
      refine .leaf fun A _ => ?_
      have h := SeqAt.EqAt.str_str (A := A) (s := s) x a x b
      rw [beq_self_eq_true] at h
      exact h
    | ref a => obtain rfl : u = Value.ref a := ru; obtain rfl : t = Value.ref a := rt; exact .same
    | byt _ => cases hv
    | flt _ => cases hv
    | ty _ => cases hv
  | _, _, _, u, t, .lists (a := a) (b := b) (n := n) ha hb hl, ru, rt => by
    obtain rfl : u = Value.ref a := ru
    obtain rfl : t = Value.ref b := rt
    by_cases e : a = b
    · subst e; exact .same
    obtain ⟨ua, ra, pa, _⟩ := I.list ha
    obtain ⟨ub, rb, pb, _⟩ := I.list hb
    obtain ⟨hz, tr⟩ := Likes.trees I hl ra rb
    have h := PySem.W.EqTree.lists (e := fun _ => true) e pa.isList pb.isList (by rw [List.size_toArray, List.size_toArray]; exact hz) (n := n) fun j h1 h2 => tr j (by simpa using h1) (by simpa using h2)
    rwa [List.all_eq_true.mpr fun _ _ => rfl] at h
  | _, _, _, u, t, .tups (a := a) (b := b) (n := n) ha hb hl, ru, rt => by
    obtain rfl : u = Value.ref a := ru
    obtain rfl : t = Value.ref b := rt
    by_cases e : a = b
    · subst e; exact .same
    obtain ⟨ua, ra, pa, _⟩ := I.tuple ha
    obtain ⟨ub, rb, pb, _⟩ := I.tuple hb
    obtain ⟨hz, tr⟩ := Likes.trees I hl ra rb
    have h := PySem.W.EqTree.tuples (e := fun _ => true) e pa pb (n := n) fun j h1 h2 => tr j (by simpa using h1) (by simpa using h2)
    rwa [List.all_eq_true.mpr fun _ _ => rfl, List.size_toArray, List.size_toArray, hz, beq_self_eq_true] at h
  | _, _, _, u, t, .dicts (a := a) (b := b) (n := n) (kvs := kvs) (kws := kws) ha hb hk hl, ru, rt => by
    obtain rfl : u = Value.ref a := ru
    obtain rfl : t = Value.ref b := rt
    by_cases e : a = b
    · subst e; exact .same
    obtain ⟨_, sa, va, ka, da⟩ := dk_of I.hok ha
    obtain ⟨_, sb, vb, kb, db⟩ := dk_of I.hok hb
    obtain ⟨hz, tr⟩ := Likes.trees I hl (kv_vals ka) (kv_vals kb)
    have hkk : va.map (·.1) = vb.map (·.1) := by rw [← kv_keys ka, ← kv_keys kb]; exact hk
    have hp := paired_at (T := fun u t => PySem.W.EqTree X.prog X.w s n u t true) hkk tr
    obtain ⟨_, _, _, _, _, _, _, _, nda⟩ := id da
    have h := PySem.W.EqTree.dicts (e := fun _ => true) e sa sb da db (n := n) fun k v y hm hv => valueAt_pair (T := fun u t => PySem.W.EqTree X.prog X.w s n u t true) hp nda k v y hm hv
    have e1 : va.length = vb.length := by simpa using congrArg List.length hkk
    have e2 : va.all (fun p => (PySem.valueAt vb p.1).isSome && true) = true := by
      rw [List.all_eq_true]
      intro p hp'
      rw [Bool.and_true]
      exact valueAt_isSome (by rw [← hkk]; exact List.mem_map.mpr ⟨p, hp', rfl⟩)
    rw [e2, e1] at h
    simpa using h
theorem Likes.trees (I : Inv X pins σ H s) : ∀ {n : Nat} {vs ws : List V} {us ts : List Value}, Likes X.K H n vs ws → Vals vs us → Vals ws ts → us.length = ts.length ∧ ∀ (j : Nat) (h1 : j < us.length) (h2 : j < ts.length), PySem.W.EqTree X.prog X.w s n us[j] ts[j] true
  | _, _, _, _, _, .nil, .nil, .nil => ⟨rfl, fun j h => absurd h (Nat.not_lt_zero _)⟩
  | _, _, _, _, _, .cons h t, .cons r1 q1, .cons r2 q2 => by
    obtain ⟨hz, tr⟩ := Likes.trees I t q1 q2
    refine ⟨by rw [List.length_cons, List.length_cons, hz], fun j h1 h2 => ?_⟩
    cases j with
    | zero => exact h.tree I r1 r2
    | succ i => exact tr i (by simpa using h1) (by simpa using h2)
end
end
/-- x == y, two tuples or two lists of one shape -/
def rEqL (K : PySem.W.Frag) : R2 := fun x y H Q => ∃ a b vs ws, x = .ref a ∧ y = .ref b ∧ ((SqT K H a vs ∧ SqT K H b ws) ∨ (SqL K H a vs ∧ SqL K H b ws)) ∧ Likes K H 16 vs ws ∧ Q (.bl true) H
theorem op_eqL {X : Cx} (hu : X.A.units + 64 < cLine) : OpR X (compareOp .Eq) (rEqL X.K) := by
  rintro pins s σ H x y v u Q I rx ry ⟨a, b, vs, ws, rfl, rfl, hs, hl, q⟩
  obtain rfl : v = Value.ref a := rx
  obtain rfl : u = Value.ref b := ry
  rcases hs with ⟨ha, hb⟩ | ⟨ha, hb⟩
  · obtain ⟨ua, ra, pa, _⟩ := I.tuple ha
    obtain ⟨ub, rb, pb, _⟩ := I.tuple hb
    obtain ⟨hz, tr⟩ := Likes.trees I hl ra rb
    refine PySem.W.eq_tuplesT (e := fun _ => true) (n := 16) pa pb (fun j h1 h2 => tr j (by simpa using h1) (by simpa using h2)) (by omega) ?_
    rw [List.all_eq_true.mpr fun _ _ => rfl, List.size_toArray, List.size_toArray, hz, beq_self_eq_true]
    exact ⟨.bl true, H, I, rfl, q⟩
  · obtain ⟨ua, ra, pa, _⟩ := I.list ha
    obtain ⟨ub, rb, pb, _⟩ := I.list hb
    obtain ⟨hz, tr⟩ := Likes.trees I hl ra rb
    refine PySem.W.eq_listsT (e := fun _ => true) (n := 16) pa.isList pb.isList (by rw [List.size_toArray, List.size_toArray]; exact hz) (fun j h1 h2 => tr j (by simpa using h1) (by simpa using h2)) (by omega) ?_
    rw [List.all_eq_true.mpr fun _ _ => rfl]
    exact ⟨.bl true, H, I, rfl, q⟩
end Cp
/-! Cp14: smaller rules. -/
namespace Cp
open PySem L2
theorem EvA.is {K : PySem.W.Frag} {cl : Nat → Addr} {p : Bool} {M M1 : ML} {G : Hp} {σ : St} {tx : TA} {ds es : List D} (h : EvA K cl p tx σ G M ds M1) (hd : ds = es) : EvA K cl p tx σ G M es M1 := hd ▸ h
theorem Op2.is {K : PySem.W.Frag} {cl : Nat → Addr} {p : Bool} {r : R2} {M : ML} {x y z x' y' z' : D} (h : Op2 K cl p r M x y z) (hx : x' = x) (hy : y' = y) : Op2 K cl p r M x' y' z := by
  rw [hx, hy]
  exact h
theorem s_dropG {te : TE} {σ : St} {G H : Hp} {M : ML} {F : FG} {nx : St → Hp → Prop} {rt : VK} {bk ct : St → Hp → Prop} (S : Sep G H M) (h : EvG te σ G M F) (k : ∀ v G' H' M', Same G G' → Sep G' H' M' → F v G' M' → nx σ H') : tDrop te ⟨nx, rt, bk, ct⟩ σ H :=
  h G H (Same.refl _) S _ fun v G2 H2 M2 s S2 f => k v G2 H2 M2 s S2 f
section
variable [Wo] {K : PySem.W.Frag} {cl : Nat → Addr} {p q r : Bool} {M M1 M2 M3 M4 : ML} {G G1 G2 G3 H H1 H2 H3 : Hp} {σ : St} {ta tb tc te tk tv tl : TE} {tx tr : TA} {tt tu : TT} {d d1 d2 d3 : D} {ds es : List D}
theorem ag_nil {F : AG} (h : ∀ G', Same G G' → F [] G' M) : EvAG tNil σ G M F := fun G1 H1 s S Q k => k [] G1 H1 M (Same.refl _) S (h G1 s)
theorem ag_consX {F : AG} (h : EvX K cl p te σ G M d M1) (hr : ∀ v G', Same G G' → Rep K cl G' v d → EvAG tr σ G' M1 fun vs G2 M2 => F (v :: vs) G2 M2) : EvAG (tCons te tr) σ G M F := fun G1 H1 s S Q k =>
  h G1 H1 s S _ fun v G2 H2 g2 rv => hr v G2 (s.trans g2.same) rv G2 H2 (Same.refl _) g2.sep _ fun vs G3 H3 M3 s3 S3 f3 => k (v :: vs) G3 H3 M3 (g2.same.trans s3) S3 f3
/-- a new instance over what was laid for it, as data -/
theorem eg_imakeAG {R : List D → List D → Prop} {E : XK} {c : Nat} {ns : List Str} {F : FG} {Fa : AG} (ha : EvAG tx σ G M Fa)
    (hR : ∀ vs G' M', Same G G' → Fa vs G' M' → ∃ ds es, Reps K cl G' vs ds ∧ R ds es ∧ ∀ w G'', Same G' G'' → Rep K cl G'' w (.ins c ns es) → F w G'' M') : EvG (tMake (cl c) (ISp K cl c ns R) [] E tx) σ G M F := fun G1 H1 s S Q k =>
  ha G1 H1 s S _ fun xs G2 H2 M2 s2 S2 fa => fun x dx nx ndx ne => by
    obtain ⟨ds, es, rs, hes, hk⟩ := hR xs G2 M2 (s.trans s2) fa
    have ndG := S2.freshG ndx
    have S1 : Sep (upd G2 dx (.own x)) (upd H2 dx (.own x)) M2 := S2.newG ndx
    have nx' : upd H2 dx (.own x) x = none := by rw [upd_ne ne.symm]; exact nx
    have S3 := S1.newM (o := .ins (cl c) dx []) nx'
    refine ⟨x, dx, xs, ds, es, _, M2, by rw [List.append_nil], hes, S3, rs.mono (Same.upd ndG), fun ws G' H' s' S' hl rs' => ⟨rfl, ?_⟩⟩
    obtain ⟨S4, s4⟩ := S'.freeze
    have sA := ((Same.upd ndG).trans s').trans s4
    exact k (.ref x) _ H' M2 (s2.trans sA) S4 (hk _ _ sA (Rep.ins upd_same hl (rs'.mono s4)))
/-- a method of an owned instance over what was laid for it -/
theorem eg_methAG {R : RG} {E : XK} {F : FG} {Fa : AG} {C x dx : Addr} {fs : List (Str × V)} {m : Str} (he : EvX K cl p ta σ G M (.loc x) M1) (hm : At M1 x (.ins C dx fs)) (hn : fs.lookup m = none) (ha : EvAG tx σ G M1 Fa)
    (hR : ∀ vs G' H' M' (T : V → Hp → ML → Prop), Same G G' → Sep G' H' M' → Fa vs G' M' → (∀ v G'' M'', Same G' G'' → F v G'' M'' → T v G'' M'') → ∃ M2, M'.Perm M2 ∧ R (.ref x :: vs) G' M2 T) : EvG (tMeth C m (GSp R) [] E ta tx) σ G M F := fun G1 H1 s S Q k =>
  he G1 H1 s S _ fun y G2 H2 g2 ry => by
    obtain rfl := ry.of_loc
    refine ⟨x, dx, fs, rfl, g2.sep.look hm, hn, ha G2 H2 (s.trans g2.same) g2.sep _ fun xs G3 H3 M3 s3 S3 fa => ?_⟩
    obtain ⟨M4, pm, hh⟩ := hR xs G3 H3 M3 (fun v G' M' => Same G3 G' → ∀ H', Sep G' H' M' → Q v H') ((s.trans g2.same).trans s3) S3 fa fun v G'' M'' s'' hF sm H' S' => k v G'' H' M'' ((g2.same.trans s3).trans sm) S' hF
    refine ⟨G3, M4, S3.perm pm, ?_⟩
    rw [List.append_nil]
    exact hh
/-- a < b < c -/
theorem ev_chain {rr r2 : R2} {f g : Bool} (ha : EvX K cl true ta σ G M d1 M) (hb : EvX K cl true tb σ G M d2 M) (hc : EvX K cl true tc σ G M d3 M) (h1 : Op2 K cl true rr M d1 d2 (.bl f)) (h2 : Op2 K cl true r2 M d2 d3 (.bl g)) : EvX K cl true (tChain rr r2 ta tb tc) σ G M (.bl (f && g)) M := fun G1 H1 s S Q k =>
  ha G1 H1 s S _ fun x G2 H2 g2 rx => by
    obtain ⟨rfl, rfl, -⟩ := g2.eq rfl
    refine hb _ _ s S _ fun y G3 H3 g3 ry => ?_
    obtain ⟨rfl, rfl, -⟩ := g3.eq rfl
    refine h1 _ _ S x y rx ry _ fun z G4 H4 g4 rz => ?_
    obtain ⟨rfl, rfl, -⟩ := g4.eq rfl
    refine ⟨f, rz.of_bl, ?_⟩
    cases f with
    | false => exact k _ _ _ (Go.refl S) Rep.bl
    | true =>
      show tc σ _ _
      refine hc _ _ s S _ fun w G5 H5 g5 rw' => ?_
      obtain ⟨rfl, rfl, -⟩ := g5.eq rfl
      exact h2 _ _ S y w ry rw' Q k
/-- the pairs of a display, laid on the way -/
def EvPG (trs : List (TE × TE)) (σ : St) (G : Hp) (M : ML) (F : List (Key × V) → Hp → ML → Prop) : Prop :=
  ∀ G1 H1, Same G G1 → Sep G1 H1 M → ∀ Q : List (V × V) → Hp → Prop, (∀ kvs G2 H2 M2, Same G1 G2 → Sep G2 H2 M2 → F kvs G2 M2 → Q (kvs.map fun kv => (kV kv.1, kv.2)) H2) → tPairs trs σ H1 Q
theorem epg_nil {F : List (Key × V) → Hp → ML → Prop} (h : ∀ G', Same G G' → F [] G' M) : EvPG [] σ G M F := fun G1 H1 s S Q k => k [] G1 H1 M (Same.refl _) S (h G1 s)
theorem epg_cons {trs : List (TE × TE)} {k : Key} {F : List (Key × V) → Hp → ML → Prop} {F1 : FG} (h1 : EvX K cl p tk σ G M d1 M1) (hk : d1 = kD k) (h2 : EvG tv σ G M1 F1) (h3 : ∀ v G' M', Same G G' → F1 v G' M' → EvPG trs σ G' M' fun kvs G2 M2 => F ((k, v) :: kvs) G2 M2) : EvPG ((tk, tv) :: trs) σ G M F := fun G1 H1 s S Q kk =>
  h1 G1 H1 s S _ fun x G2 H2 g2 rx => h2 G2 H2 (s.trans g2.same) g2.sep _ fun y G3 H3 M3 s3 S3 f3 => h3 y G3 M3 ((s.trans g2.same).trans s3) f3 G3 H3 (Same.refl _) S3 _ fun kvs G4 H4 M4 s4 S4 f4 => by
    rw [hk] at rx
    have e := rep_kD rx
    subst e
    exact kk ((k, y) :: kvs) G4 H4 M4 ((g2.same.trans s3).trans s4) S4 f4
theorem eg_dispG {trs : List (TE × TE)} {F : FG} (h : ∀ u, EvPG trs σ G ((u, .dK []) :: M) fun kvs G' M' => kvs.length ≤ 15 ∧ ∃ M2, Ch M' u (.dK []) (.dK (mergeK [] kvs)) M2 ∧ F (.ref u) G' M2) : EvG (tDisp trs) σ G M F := fun G1 H1 s S Q k => fun u hu =>
  h u G1 _ s (S.newM hu) _ fun kvs G2 H2 M2 s2 S2 ⟨hl, M3, hc, f⟩ => ⟨S2.look hc.at, kvs, rfl, hl, k (.ref u) G2 _ M3 s2 (S2.ch hc) f⟩
end
theorem cut_take {xs : List D} {n : Nat} : cutD xs none (some (n : Int)) = xs.take n := by
  unfold cutD
  rw [HT.sIx_none, HT.sIx_nat, List.drop_zero, Nat.sub_zero]
  rcases Nat.le_total n xs.length with h | h
  · rw [Nat.min_eq_left h]
  · rw [Nat.min_eq_right h, List.take_of_length_le (Nat.le_refl _), List.take_of_length_le h]
theorem cut_drop {xs : List D} {n : Nat} : cutD xs (some (n : Int)) none = xs.drop n := by
  unfold cutD
  rw [HT.sIx_none, HT.sIx_nat]
  rcases Nat.le_total n xs.length with h | h
  · rw [Nat.min_eq_left h, List.take_of_length_le (by rw [List.length_drop]; exact Nat.le_refl _)]
  · rw [Nat.min_eq_right h, List.drop_of_length_le (Nat.le_refl _), List.drop_of_length_le h, List.take_nil]
section
variable [Wo] {K : PySem.W.Frag} {cl : Nat → Addr} {p q r : Bool} {M M1 M2 M3 M4 : ML} {G G1 G2 G3 H H1 H2 H3 : Hp} {σ : St} {ta tb tc te tk tv tl : TE} {tx tr : TA} {tt tu : TT} {d d1 d2 d3 : D} {ds es : List D}
/-- a op b, b laid on the way -/
theorem eg_opR {rr : R2} {F1 F : FG} (ha : EvX K cl p ta σ G M d1 M1) (hb : EvG tb σ G M1 F1) (hk : ∀ v G' M', Same G G' → F1 v G' M' → ∃ d2 d q, Rep K cl G' v d2 ∧ Op2 K cl q rr M' d1 d2 d ∧ ∀ w G'', Same G' G'' → Rep K cl G'' w d → F w G'' M') : EvG (tOp rr ta tb) σ G M F := fun G1 H1 s S Q k =>
  ha G1 H1 s S _ fun x G2 H2 g2 rx => hb G2 H2 (s.trans g2.same) g2.sep _ fun y G3 H3 M3 s3 S3 f3 => by
    obtain ⟨d2, d, q, ry, ho, hf⟩ := hk y G3 M3 ((s.trans g2.same).trans s3) f3
    exact ho G3 H3 S3 x y (rx.mono s3) ry _ fun w G4 H4 g4 rw' => k w G4 H4 M3 ((g2.same.trans s3).trans g4.same) g4.sep (hf w G4 g4.same rw')
/-- (list(xs), dict(d)): the same things again -/
theorem eg_before {i j : Nat} {a e : Addr} {vs : List V} {kws : List (Key × V)} (hi : σ[i]? = some (some (.ref a))) (hj : σ[j]? = some (some (.ref e))) (ha : SqL K G a vs) (he : G e = some (.dK kws)) :
    EvG (tTup (tCons (tCB (rListA K) (tCons (tVar i) tNil)) (tCons (tCB rDictD (tCons (tVar j) tNil)) tNil))) σ G M fun v G' M' => M' = M ∧ ∃ t b f, v = .ref t ∧ SqT K G' t [.ref b, .ref f] ∧ SqL K G' b vs ∧ G' f = some (.dK kws) := fun G1 H1 s S Q k => by
  refine ⟨_, hi, a, vs, rfl, .inl ((s.trans S.sub).seq ha), fun l hl => ?_⟩
  have nl := S.freshG hl
  have S1 := S.newG (o := .lst vs) hl
  have s1 : Same G1 (upd G1 l (.lst vs)) := Same.upd nl
  refine ⟨_, hj, e, kws, rfl, .inl (S1.sub _ _ (s1 _ _ (s _ _ he))), fun m hm => ?_⟩
  have nm := S1.freshG hm
  have S2 := S1.newG (o := .dK kws) hm
  have s2 := Same.upd (o := .dK kws) nm
  refine ⟨by show 2 ≤ sizeLine; decide, fun t ht => ?_⟩
  have nt := S2.freshG ht
  have S3 := S2.newG (o := .tup [.ref l, .ref m]) ht
  have s3 := Same.upd (o := .tup [V.ref l, V.ref m]) nt
  refine k (.ref t) _ _ M ((s1.trans s2).trans s3) S3 ⟨rfl, t, l, m, rfl, .inl (.inl upd_same), ?_, s3 _ _ upd_same⟩
  exact (s2.trans s3).seq (.inl (.inl upd_same))
/-- (xs, d) == what was kept of them -/
theorem ev_likeT {i j k0 : Nat} {a e t b f : Addr} {vs : List V} {kws : List (Key × V)} {kes : List (Key × D)} (hi : σ[i]? = some (some (.ref a))) (hj : σ[j]? = some (some (.ref e))) (hk : σ[k0]? = some (some (.ref t))) (ha : SqL K G a vs) (rs : Reps K cl G vs ds) (he : G e = some (.dK kws)) (rk : KRep K cl G kws kes)
    (ht : SqT K G t [.ref b, .ref f]) (hb : SqL K G b vs) (hf : G f = some (.dK kws)) : EvX K cl false (tOp (rEqL K) (tTup (tCons (tVar i) (tCons (tVar j) tNil))) (tVar k0)) σ G M (.bl true) M := fun G1 H1 s S Q k => by
  refine ⟨_, hi, _, hj, by show 2 ≤ sizeLine; decide, fun p hp => ⟨_, hk, p, t, [.ref a, .ref e], [.ref b, .ref f], rfl, rfl, .inl ⟨.inl (.inl upd_same), ?_⟩, ?_, ?_⟩⟩
  · exact Same.seqT ((s.trans S.sub).trans (Same.upd hp)) ht
  · have sH := (s.trans S.sub).trans (Same.upd (o := .tup [V.ref a, V.ref e]) hp)
    exact .cons (.lists (n := 15) (sH.seq ha) (sH.seq hb) (likes_reps rs)) (.cons (.dicts (n := 15) (sH _ _ he) (sH _ _ hf) rfl (likes_reps rk.snd)) .nil)
  · have n := S.freshG hp
    exact k _ _ _ (Go.of (Same.upd n) (S.newG hp)) Rep.bl
end
theorem perm_map_inv {α β : Type} {f : α → β} : ∀ {es : List β} {l : List α}, es.Perm (l.map f) → ∃ l' : List α, es = l'.map f ∧ l'.Perm l := by
  have gen : ∀ {es ds : List β}, es.Perm ds → ∀ l : List α, ds = l.map f → ∃ l' : List α, es = l'.map f ∧ l'.Perm l := by
    intro es ds h
    induction h with
    | nil =>
      intro l e
      cases l with
      | nil => exact ⟨[], rfl, List.Perm.refl _⟩
      | cons a l => cases e
    | cons x h ih =>
      intro l e
      cases l with
      | nil => cases e
      | cons a l =>
        rw [List.map_cons, List.cons.injEq] at e
        obtain ⟨l', e', p'⟩ := ih l e.2
        exact ⟨a :: l', by rw [e', e.1]; rfl, p'.cons a⟩
    | swap x y t =>
      intro l e
      cases l with
      | nil => cases e
      | cons a l =>
        cases l with
        | nil => cases e
        | cons b l =>
          rw [List.map_cons, List.map_cons, List.cons.injEq, List.cons.injEq] at e
          exact ⟨b :: a :: l, by rw [e.1, e.2.1, e.2.2]; rfl, List.Perm.swap a b l⟩
    | trans h1 h2 ih1 ih2 =>
      intro l e
      obtain ⟨l2, e2, p2⟩ := ih2 l e
      obtain ⟨l1, e1, p1⟩ := ih1 l2 e2
      exact ⟨l1, e1, p1.trans p2⟩
  intro es l h
  exact gen h l rfl
theorem any_eqb {x : D} (hx : x.isDat = true) : ∀ {ds : List D}, D.areDat ds = true → ((D.pyds ds).any fun z => PyData.eqv z x.pyd) = ds.any fun z => D.eqb z x
  | [], _ => by simp [D.pyds]
  | d :: ds, h => by
    simp only [D.areDat, Bool.and_eq_true] at h
    simp only [D.pyds, List.any_cons]
    rw [eqv_eqb d x h.1 hx, any_eqb hx h.2]
theorem o_inDat {K : PySem.W.Frag} {cl : Nat → Addr} {M : ML} {x : D} {ds : List D} (hx : x.isDat = true) (dx : x.dep ≤ 64) (hd : D.areDat ds = true) (dd : D.deps ds ≤ 63) : Op2 K cl true (rInD K) M x (.lst ds) (.bl (ds.any fun z => D.eqb z x)) := op2_val fun G1 H1 S u v ru rv => ⟨_, Rep.bl, fun Q q => by
  have hl : (D.lst ds).isDat = true := by simp only [D.isDat]; exact hd
  have hp := (rv.mono S.sub).dp hl
  simp only [D.pyd] at hp
  have h2 := shaped_of hl (by simp only [D.dep]; omega)
  simp only [D.pyd] at h2
  exact ⟨x.pyd, D.pyds ds, (ru.mono S.sub).dp hx, hp, shaped_of hx dx, h2, by rw [any_eqb hx hd]; exact q⟩⟩
theorem o_notInDat {K : PySem.W.Frag} {cl : Nat → Addr} {M : ML} {x : D} {ds : List D} (hx : x.isDat = true) (dx : x.dep ≤ 64) (hd : D.areDat ds = true) (dd : D.deps ds ≤ 63) : Op2 K cl true (rNotInD K) M x (.lst ds) (.bl (!ds.any fun z => D.eqb z x)) := op2_val fun G1 H1 S u v ru rv => ⟨_, Rep.bl, fun Q q => by
  have hl : (D.lst ds).isDat = true := by simp only [D.isDat]; exact hd
  have hp := (rv.mono S.sub).dp hl
  simp only [D.pyd] at hp
  have h2 := shaped_of hl (by simp only [D.dep]; omega)
  simp only [D.pyd] at h2
  exact ⟨x.pyd, D.pyds ds, (ru.mono S.sub).dp hx, hp, shaped_of hx dx, h2, by rw [any_eqb hx hd]; exact q⟩⟩
/-- xs * n: a new list that is owned -/
theorem eg_rep {K : PySem.W.Frag} {cl : Nat → Addr} {p q : Bool} {M : ML} {G : Hp} {σ : St} {tx : TA} {tb : TE} {ds : List D} {n : Int} {F : FG} (ha : EvA K cl p tx σ G M ds M) (hl : ds.length ≤ 100) (hb : ∀ u vs, EvX K cl q tb σ G ((u, .lst vs) :: M) (.int n) ((u, .lst vs) :: M)) (h0 : 0 ≤ n) (h1 : n ≤ 100000)
    (hF : ∀ u vs G', Same G G' → Reps K cl G' vs ds → F (.ref u) G' ((u, .lst (List.replicate n.toNat vs).flatten) :: M)) : EvG (tOp rRep (tLst tx) tb) σ G M F := fun G1 H1 s S Q k =>
  ha G1 H1 s S _ fun vs G2 H2 g2 rs => ⟨by rw [rs.length]; exact Nat.le_trans hl (by decide), fun u hu => by
    have S2 := g2.sep.newM (o := .lst vs) hu
    refine hb u vs G2 _ (s.trans g2.same) S2 _ fun y G3 H3 g3 ry => ?_
    refine ⟨u, n, vs, rfl, ry.of_int, g3.sep.look .hd, by omega, by omega, ?_, fun p hp => ?_⟩
    · rw [rs.length]
      have : ds.length * n.toNat ≤ 100 * 100000 := Nat.mul_le_mul hl (by omega)
      exact Nat.le_trans this (by decide)
    · have S4 := g3.sep.drop
      exact k (.ref p) G3 _ _ (g2.same.trans g3.same) (S4.newM hp) (hF p vs G3 ((s.trans g2.same).trans g3.same) (rs.mono g3.same))⟩
/-- str(x), x a text or None -/
def rStrO : List V → Hp → VK → Prop := fun xs H Q => (xs = [.non] ∧ Q (.str "None") H) ∨ ∃ a, xs = [.str a] ∧ Q (.str a) H
theorem call_strO {X : Cx} : CallR X (.type "str") rStrO := by
  rintro pins s σ H xs us Q I r (⟨rfl, q⟩ | ⟨a, rfl, q⟩)
  · obtain ⟨u, rfl, e⟩ := vals1 r
    obtain rfl : u = Value.none := e
    exact PySem.P.str_of_none ⟨.str "None", H, I.tok _, ⟨_, rfl⟩, q⟩
  · obtain ⟨u, rfl, t, rfl⟩ := vals1 r
    exact PySem.P.str_of_str ⟨.str a, H, I, ⟨t, rfl⟩, q⟩
theorem units65 {k : Nat} {A : Around} (r : Room k A) : A.units + 65 < cLine := by have := r.un; omega
end Cp
/-! Cp15: own exceptions whose __init__ says super().__init__(text). -/
namespace Cp
open PySem L2 PySem.Spec PyProof.Rows
section
variable {prog : Program} {w : World} {A : Around} {E : Value → Shared → Prop} {h : Heap} {g : Array GenState} {d : Drawn} {t : Nat} {os : OsState}
variable {nm q : Str} {C N : Addr} {bs bm : List Value} {hdct : Bool} {sn : List Str} {sub : List Value} {ab : Bool} {col : Option Bool} {dd : Option Addr} {k0 k1 k2 k3 k5 : Option Value}
/-- ValueError.__init__, bound to an exception, called -/
theorem call_bwV {u e t0 : Addr} {rest : List Value} {Q : Value → Shared → Prop}
    (hC : h.get? C = some (excClassObj nm q C N bs bm hdct sn sub ab col dd k0 k1 k2 k3 k5 "ValueError.__new__")) (he : h.get? e = some (HandSPX.excO C t0)) (hu : h.get? u = some (PySem.W.kxs_mw "ValueError.__init__" e)) (hrest : rest.length ≤ sizeLine)
    (hq : ∀ h' t1, (∀ b o, b ≠ e → h.get? b = some o → h'.get? b = some o) → h'.get? e = some (HandSPX.excO C t1) → Q .none ⟨h', g, d, t, os⟩) :
    wpAny (model prog w) A (call (.ref u) rest) Q E ⟨h, g, d, t, os⟩ := by
  refine wpAny_call (codeAny_of_tree ?_)
  show wpAny _ A.in1 (callAny (.ref u) ⟨rest, []⟩) _ _ _
  simp only [callAny]
  refine wpAny_bind (wpAny_load hu ?_)
  simp only [PySem.W.kxs_mw, show (Value.type "method-wrapper" == Value.type "method" || Value.type "method-wrapper" == Value.type "builtin_function_or_method" || Value.type "method-wrapper" == Value.type "method-wrapper") = true by decide, if_true]
  refine W.KFB.if_so (by decide) ?_
  refine wpAny_bind (PySem.W.check_bound_init F.excBase_ValueError.toExcCallFacts hC he rfl ?_)
  refine wpAny_bind (wpAny_pure (wpAny_pure ?_))
  refine ⟨Code.quiet_builtin _ (by decide +kernel), codeAny_builtin F.excBase_ValueError.initEntry ?_⟩
  rw [Around.under_plainId F.excBase_ValueError.init.plain _]
  wp_walk
  refine hq _ h.objs.size (fun b o hb ho => ?_) ?_
  · rw [Heap.get?_update_other _ _ (Ne.symm hb)]
    exact Heap.get?_push_of_some _ ho
  · rw [Heap.get?_update_self _ (Heap.get?_push_of_some _ he) rfl]
    rfl
end
theorem lookup_in {x : Str} {u : Value} : ∀ {l : List (Str × Value)}, (l.map (·.1)).Nodup → (x, u) ∈ l → l.lookup x = some u
  | [], _, h => nomatch h
  | (y, v) :: l, nd, h => by
    rw [List.map_cons, List.nodup_cons] at nd
    rw [List.lookup_cons]
    rcases List.mem_cons.mp h with e | h
    · cases e
      rw [beq_self_eq_true]
    · have : (x == y) = false := beq_eq_false_iff_ne.mpr fun e => nd.1 (e ▸ List.mem_map.mpr ⟨_, h, rfl⟩)
      rw [this]
      exact lookup_in nd.2 h
theorem rev_lookup {ps : List Str} {us : List Value} {i : Nat} {x : Str} {u : Value} (nd : ps.Nodup) (h1 : ps[i]? = some x) (h2 : us[i]? = some u) : (ps.zip us).reverse.lookup x = some u := by
  refine lookup_in ?_ (List.mem_reverse.mpr ?_)
  · rw [List.map_reverse]
    refine (List.reverse_perm _).nodup_iff.mpr ?_
    exact nd.sublist (by
      have : ∀ (ps : List Str) (us : List Value), List.Sublist ((ps.zip us).map (·.1)) ps := by
        intro ps
        induction ps with
        | nil => intro us; exact List.Sublist.slnil
        | cons p ps ih =>
          intro us
          cases us with
          | nil => exact List.nil_sublist _
          | cons u us => exact (ih us).cons₂ p
      exact this ps us)
  · exact List.mem_iff_getElem?.mpr ⟨i, by rw [List.getElem?_zip_eq_some]; exact ⟨h1, h2⟩⟩
/-- the context of an __init__ that says super() -/
def cxSu (P : Program) (w : World) (K : PySem.W.Frag) (mg : Str → Option Value) (base : Heap) (N : List Str) (qual : Str) (scope : Scope) (f : Addr) (cd : Value) (cc : Addr) (A : Around) (outer : List Env) (s : Shared) (H : Hp) : Cx where
  prog := P
  w := w
  K := K
  mg := mg
  base := base
  A := A.deeper (PySem.W.ksEnv qual scope s.heap.objs.size f cd cc)
  N := N
  s_0 := s
  H_0 := H
  env := PySem.W.ksEnv qual scope s.heap.objs.size f cd cc
  outer := outer
  stack := PySem.W.ksEnv qual scope s.heap.objs.size f cd cc :: outer
  ex := []
  calm := true
  fn := fun _ => false
  pn := []
  xe := fun _ _ => False
/-- what such a scope has -/
structure SuScope (N : List Str) (sc : Scope) : Prop where
  kind : sc.kind = .function
  co : sc.isCoroutine = false
  gen : sc.isGenerator = false
  nd : N.Nodup
  par : ∀ x ∈ N, sc.names.lookup x = some .local
  nocell : ∀ y ∈ sc.names, y.2 ≠ .cell
  free : ∀ x, sc.names.lookup x = some .free → x = "__class__"
  sup : sc.names.lookup ("super" : Str) = some .globalImplicit
  cls : sc.names.lookup ("__class__" : Str) = some .free
theorem inv_su {P : Program} {w : World} {K : PySem.W.Frag} {mg : Str → Option Value} {base : Heap} {N : List Str} {qual : Str} {scope : Scope} {f cc C : Addr} {cd : Value} {A : Around} {outer : List Env} {s : Shared} {H : Hp} {us : List Value} {vs : List V} {h₀ : Heap} {t : Nat} {cl : Value} {cld : Option Addr} {csl : Array (Option Value)}
    (S : SuScope N scope) (hcell : K.lookup cc = some ⟨cl, cld, .cell (some (.ref C)), csl⟩) (hd : A.handled = none) (e0 : Env0 P w K mg base A outer s H) (hl : vs.length = N.length) (r : Vals vs us)
    (hns : h₀.Ns s.heap.objs.size (fun x => (N.zip us).reverse.lookup x)) (hk : ∀ b o, s.heap.get? b = some o → h₀.get? b = some o) :
    Inv (cxSu P w K mg base N qual scope f cd cc A outer s H) [] (vs.map some) H { s with heap := h₀, toks := t } := by
  have noA : ∀ b : Addr, b ∉ (cxSu P w K mg base N qual scope f cd cc A outer s H).ex := fun b z => absurd (show b ∈ ([] : List Addr) from z) (by simp)
  have hcl : ∀ x c, (cxSu P w K mg base N qual scope f cd cc A outer s H).env.cells.lookup x = some c → x = "__class__" ∧ c = cc := fun x c h => by
    have h : List.lookup x [(("__class__" : Str), cc)] = some c := h
    rw [List.lookup_cons] at h
    by_cases e : x = "__class__"
    · subst e
      rw [beq_self_eq_true] at h
      cases h
      exact ⟨rfl, rfl⟩
    · rw [beq_eq_false_iff_ne.mpr e] at h
      cases h
  have hccb := e0.mod.kin _ _ hcell
  refine ⟨⟨e0.mod, S.kind, rfl, rfl, Nat.le_refl _, fun y z c h1 h2 => ?_, fun y hy => ?_, fun y c h _ => ?_, fun _ => hd, Around.frames_deeper e0.frames, .inr ⟨rfl, rfl⟩, fun b z => absurd z (noA b), e0.bs, e0.bsz, fun b _ _ => noA b, fun b z => absurd z (noA b), e0.funs, e0.frf⟩,
    rfl, e0.bare, Un.kept hk, ⟨_, hns, fun i y v h1 h2 h3 => ?_⟩, fun y c h => ?_, e0.hok.fresh (Nat.le_refl _), fun y c h => ?_, fun p hp => absurd (show p ∈ ([] : List (Addr × Obj)) from hp) (by simp), e0.hok.kept hk, ?_⟩
  · rw [(hcl y c h1).1, (hcl z c h2).1]
  · have hy : scope.names.lookup y = some .cell ∨ scope.names.lookup y = some .free := hy
    rcases hy with hy | hy
    · exact absurd rfl (S.nocell _ (PySem.mem_of_lookup hy))
    · rw [S.free y hy]
      exact ⟨cc, rfl⟩
  · exact Bool.noConfusion h
  · rw [List.getElem?_map] at h2
    obtain ⟨a, ha, e⟩ := Option.map_eq_some_iff.mp h2
    cases e
    obtain ⟨u, hu, rv⟩ := r.get ha
    exact ⟨u, rv, .inl ⟨S.par y (List.mem_of_getElem? h1), rev_lookup S.nd h1 hu⟩⟩
  · rw [(hcl y c h).2]
    exact ⟨_, _, hk _ _ (e0.bs _ _ hccb).1, rfl⟩
  · rw [(hcl y c h).2]
    exact (e0.bs _ _ hccb).2
  · rw [List.length_map, hl]
    rfl

/-- THE RULE: an own exception's __init__ that begins with super().__init__(e) -/
theorem fn_su {P : Program} {w : World} {K : PySem.W.Frag} {mg : Str → Option Value} {base : Heap} {k : Nat} {f cc C cda : Addr} {qual : Str} {params : Arguments} {rest : List Stmt} {e : Expr} {p0 p1 p2 p3 p4 : Pos} {scope : Scope} {dV kV doc pm ct oc : Value} {an od : Option Addr} {osl : Array (Option Value)} {N : List Str} {sp : Sp} {ar : Arg}
    {cl ccl : Value} {cld cdd : Option Addr} {csl ccs : Array (Option Value)} {vs0 : Array Value} {file : Str} {tf : Tok} {cd : ClassData}
    (lk : K.lookup f = some ⟨oc, od, .func (PySem.W.ksFn "__init__" qual params (.Expr (.Call (.Attribute (.Call (.Name "super" p0) [] [] p1) "__init__" p2) [e] [] p3) p4 :: rest) scope dV kV doc pm an (.ref cda) ct cc), osl⟩)
    (hcd : PySem.W.codeIn K (.ref cda) qual = true) (S : SuScope N scope) (hp : (params.posonlyargs ++ params.args).head? = some ar) (har : N[0]? = some ar.arg)
    (hcode : K.lookup cda = some ⟨ccl, cdd, .fields vs0, ccs⟩) (hvs : vs0[2]? = some (.str file tf)) (hfile : ((P.main.file : Str) == file) = true)
    (hcell : K.lookup cc = some ⟨cl, cld, .cell (some (.ref C)), csl⟩) (hcls : PySem.W.clsIn K C = some cd) (hsub : PySem.W.mroIn K C (.ref C) = some true)
    (hsu : mg "super" = none) (htop : (P.main.scope.names.lookup ("super" : Str)).isSome = false) (hth : PySem.W.nsIn K cStatics "thirdparty.any" = some none)
    (hm : PySem.W.ks_superIn K C C "__init__" = some (some (.builtin "ValueError.__init__"))) (hB : PySem.W.subIn K (.ref C) (.type "ValueError") = some true) (T : OexC K C)
    (hst : ∀ env, starEach [e] env = [(false, eval e env)])
    (heq : ∀ env, ∃ pl : Sem Bool, eval (.Call (.Attribute (.Call (.Name "super" p0) [] [] p1) "__init__" p2) [e] [] p3) env = (do
      let ov ← attributeBase (.Call (.Name "super" p0) [] [] p1) "__init__" env (eval (.Call (.Name "super" p0) [] [] p1) env)
      standAt p2.atName
      let (f, first) ← holding [ov] (getMethod ov "__init__" pl)
      callWith p3 f first (backTo p3 (starEach [e] env)) []))
    (len : ∀ vs H Q E, sp vs H Q E → vs.length = N.length)
    (hbody : ∀ (A : Around) (outer : List Env) (s : Shared) (H : Hp) (vs : List V) (Q : VK) (E : XK), Room k (A.deeper (PySem.W.ksEnv qual scope s.heap.objs.size f (.ref cda) cc)) → sp vs H Q E →
      ∃ te t2 a, PE (cxSu P w K mg base N qual scope f (.ref cda) cc A outer s H) e te ∧ PSs (cxSu P w K mg base N qual scope f (.ref cda) cc A outer s H) rest t2 ∧ vs[0]? = some (.ref a) ∧ H a = some (exo a C none) ∧
        te (vs.map some) H fun _ H1 => H1 a = some (exo a C none) ∧ t2 { nx := fun _ H' => Q .non H', rt := Q } (vs.map some) H1) :
    FnOk P w K mg base L2.CX0 (k + 1) f (PySem.W.ksFn "__init__" qual params (.Expr (.Call (.Attribute (.Call (.Name "super" p0) [] [] p1) "__init__" p2) [e] [] p3) p4 :: rest) scope dV kV doc pm an (.ref cda) ct cc) N sp := by
  refine ⟨len, fun A outer s H args us vs Q E hr e0 hb r hsp => ?_⟩
  have hl := len _ _ _ _ hsp
  have KX : K.In s.heap := e0.mod.kin.keeps fun b o e => (e0.bs b o e).1
  have lim : s.heap.NoLimit := e0.mod.nolimit.keeps fun b o e => (e0.bs b o e).1
  refine PySem.ks_codeAny_call_defAt (body := .Expr (.Call (.Attribute (.Call (.Name "super" p0) [] [] p1) "__init__" p2) [e] [] p3) p4 :: rest) hr.depth (KX _ _ lk) rfl lim (PySem.W.codeRec_of KX hcd) rfl hb S.nocell (fun x hx => S.par _ (List.of_mem_zip hx).1) (fun h₀ hns hk => ?_) S.co S.gen S.kind
  obtain ⟨te, t2, a, he, hr2, hv0, ha, hq⟩ := hbody A outer s H vs Q E (hr.deeper _) hsp
  have I : Inv (cxSu P w K mg base N qual scope f (.ref cda) cc A outer s H) [] (vs.map some) H { s with heap := h₀, toks := s.toks + (N.zip us).length } := inv_su S hcell hr.hd e0 hl r hns hk
  obtain ⟨hp0, gs, dr, tk, os⟩ := s
  dsimp only at h₀ hns hk I KX
  generalize tk + (N.zip us).length = tk1 at I
  have KX1 : K.In h₀ := fun b o e => hk _ _ (KX b o e)
  have hus : ∃ u0, us[0]? = some u0 ∧ RelV (V.ref a) u0 := r.get hv0
  obtain ⟨u0, hu0, ru0⟩ := hus
  obtain rfl : u0 = Value.ref a := ru0
  obtain ⟨t1, hx⟩ := exo_at I.hok ha
  replace hx : h₀.get? a = some _ := hx
  obtain ⟨oC, hC1, hC2⟩ : ∃ oC, h₀.get? C = some oC ∧ oC.data = .cls cd := by
    unfold PySem.W.clsIn at hcls
    split at hcls
    · rename_i c d cd' sl ho
      cases hcls
      exact ⟨_, KX1 _ _ ho, rfl⟩
    · cases hcls
  have hxC : a ≠ C := fun z => by
    rw [z, hC1] at hx
    cases hx
    cases hC2
  refine PySem.ks_wpAt_mono (Q := SP (cxSu P w K mg base N qual scope f (.ref cda) cc A outer ⟨hp0, gs, dr, tk, os⟩ H) [] { nx := fun _ H' => Q .non H', rt := Q }) (E := fun _ _ => False) ?main (fun fl s' hs => ?fin) fun _ _ z => z.elim
  case fin =>
    have fin : ∀ {σ' : L2.St} {H' : Hp} {v : V} {u : Value}, Inv (cxSu P w K mg base N qual scope f (.ref cda) cc A outer ⟨hp0, gs, dr, tk, os⟩ H) [] σ' H' s' → RelV v u → Q v H' → CE outer P w H ⟨hp0, gs, dr, tk, os⟩ Q u s' :=
      fun {σ' H' v u} J rv q => ⟨v, H', J.os, J.bare, J.base, J.hok, rv, q⟩
    cases fl with
    | ret u =>
      obtain ⟨v, σ', H', J, rv, q⟩ := hs
      exact fin J rv q
    | next =>
      obtain ⟨σ', H', J, q⟩ := hs
      exact fin (v := V.non) (u := Value.none) J rfl q
    | brk =>
      obtain ⟨_, _, _, q⟩ := hs
      exact False.elim q
    | cont =>
      obtain ⟨_, _, _, q⟩ := hs
      exact False.elim q
  case main =>
    refine PySem.ks_wpAt_execs_cons (PySem.ks_wpAt_Expr_any ?_ (by show (scope.kind == ScopeKind.module && _) = false; rw [S.kind]; rfl))
    obtain ⟨pl, hev⟩ := heq (PySem.W.ksEnv qual scope hp0.objs.size f (.ref cda) cc)
    refine PySem.ks_wpAt_MethodCall (pl := pl) ?_ hev
    refine PySem.ks_wpAt_super_base (env := PySem.W.ksEnv qual scope hp0.objs.size f (.ref cda) cc) S.sup S.cls (by decide) rfl (KX1 _ _ lk) rfl hp rfl (KX1 _ _ hcode) rfl hvs hfile htop ?_
    obtain ⟨mb, hb1, hb2⟩ := e0.mod.blt
    have bk : ∀ b o, base.get? b = some o → h₀.get? b = some o := fun b o e => hk _ _ (e0.bs b o e).1
    refine PySem.W.ks_loadName_global S.kind S.sup (Calls.loadGlobal_builtin (env := PySem.W.ksEnv qual scope hp0.objs.size f (.ref cda) cc) (e0.mod.glob.keeps bk) hsu (hb1.keeps bk) ((hb2 _ (by decide)).trans (by rfl : bootBuiltins "super" = some (.type "super"))) ⟨rfl, ?_⟩)
    refine wpAny_loadName_free S.kind S.cls rfl ⟨_, KX1 _ _ hcell, rfl⟩ ?_
    refine wpAny_loadName_local S.kind (S.par _ (List.mem_of_getElem? har)) hns (rev_lookup S.nd har hu0) ?_
    refine PySem.ks_wpAny_isType_cls hC1 hC2 ⟨rfl, ?_⟩
    refine PySem.ks_wpAny_call_super hC1 hC2 hx rfl (fun c e => nomatch e) (PySem.W.looks_mroIn KX1 hsub) (fun h2 hso k2 => ?_)
    have I2 : Inv (cxSu P w K mg base N qual scope f (.ref cda) cc A outer ⟨hp0, gs, dr, tk, os⟩ H) [] (vs.map some) H ⟨h2, gs, dr, tk1, os⟩ := I.kept k2
    have KX2 : K.In h2 := fun b o e => k2 _ _ (KX1 b o e)
    have hI : PySem.W.Looks (model P w) h2 (isInstance (.ref a) (.type "ValueError")) true := (show PySem.W.InstAt h2 a { cls := .ref C, dict := none, data := .fields #[.ref t1, .none, .none, .none, .bool false, .none] } C none from ⟨k2 _ _ hx, rfl, rfl, trivial⟩).type.andThen (PySem.W.looks_subIn KX2 hB)
    have hm' := hm
    unfold PySem.W.ks_superIn at hm'
    rw [hcls] at hm'
    refine PySem.W.kxs_getMethod PySem.W.kxs_ValueError hso (PySem.W.looks_opaque KX2 hth) (l₀ := cd.mro) (fun A Q E s k q => wpAny_bind ((PySem.W.looks_clsIn KX2 hcls) A _ E s k (wpAny_pure q))) rfl KX2 hm' hI hxC (by decide) ?_
    obtain ⟨u, hu⟩ : ∃ u : Addr, h2.objs.size = u := ⟨_, rfl⟩
    rw [hu]
    have hmw : (h2.push (PySem.W.kxs_mw "ValueError.__init__" a)).get? u = some (PySem.W.kxs_mw "ValueError.__init__" a) := by
      rw [← hu]
      exact Heap.get?_push_at rfl rfl
    have I3 : Inv (cxSu P w K mg base N qual scope f (.ref cda) cc A outer ⟨hp0, gs, dr, tk, os⟩ H) [] (vs.map some) H ⟨h2.push (PySem.W.kxs_mw "ValueError.__init__" a), gs, dr, tk1 + 1, os⟩ := I2.kept fun b o e => Heap.get?_push_of_some _ e
    have I4 : Inv (cxSu P w K mg base N qual scope f (.ref cda) cc A outer ⟨hp0, gs, dr, tk, os⟩ H) [(u, PySem.W.kxs_mw "ValueError.__init__" a)] (vs.map some) H ⟨h2.push (PySem.W.kxs_mw "ValueError.__init__" a), gs, dr, tk1 + 1, os⟩ := I3.pins_of fun p hp => by
      obtain rfl := List.mem_singleton.mp hp
      have F := I2.fpOk (H' := H) (b := u) (Nat.le_of_eq hu) (I2.hok.fresh (Nat.le_of_eq hu))
      exact ⟨hmw, F.1, F.2.1, F.2.2.1, fun v z => nomatch z⟩
    refine PySem.W.kxs_callWith (i := "ValueError.__init__") (x := a) (by rw [hst]; rfl) ?_
    rw [hst]
    refine Calls.evalArgs_plain (Calls.spliced_cons (thn (he.run [(u, PySem.W.kxs_mw "ValueError.__init__" a)] _ (vs.map some) H _ I4 hq) fun y s5 hy => Calls.spliced_nil ?_))
    obtain ⟨z, H1, I5, rz, ha1, hq2⟩ := hy
    have hmw5 := (I5.pin _ (List.mem_append_right _ (List.mem_singleton.mpr rfl))).1
    have I6 := I5.pins_of (pins' := []) fun p hp => nomatch hp
    obtain ⟨t5, hx5⟩ := exo_at I6.hok ha1
    obtain ⟨nm, q, Nn, bs, bm, sn, sub, ab, col, dd, k0, k1, k2', k3, k5, hC, hbm⟩ := T.cls
    obtain ⟨hp5, g5, d5, tk5, os5⟩ := s5
    refine ⟨hmw5, call_bwV (I6.kIn _ _ hC) hx5 hmw5 (by show (1 : Nat) ≤ sizeLine; rw [sizeLine_eq]; omega) fun h' t6 k6 hx6 => ?_⟩
    have J := I6.write (t' := tk5) (x := a) (e := a) (o := exo a C none) (by rw [ha1]; exact True.intro) (.inl rfl) k6 ⟨_, hx6⟩ (exo_ok hx6)
    have eu : upd H1 a (exo a C none) = H1 := by
      funext b
      by_cases hb : b = a
      · rw [hb, upd_same, ha1]
      · rw [upd_ne hb]
    rw [eu] at J
    exact PySem.wpAt_of_wpAny (hr2.run [] _ _ _ _ J hq2)

/-- what the program's head tells: its file, no super of its own -/
class ProgOk (P : Program) (file : Str) : Prop where
  file : ((P.main.file : Str) == file) = true
  top : (P.main.scope.names.lookup ("super" : Str)).isSome = false
/-- an own exception class with such an __init__ -/
structure SuX (K : PySem.W.Frag) (mg : Str → Option Value) (C f : Addr) (fd : FuncData) (qual : Str) (st : Stmt) (file : Str) : Prop where
  ex : ∃ (oc kV doc pm ct : Value) (od an : Option Addr) (cda cc : Addr) (osl : Array (Option Value)) (cl ccl : Value) (cld cdd : Option Addr) (csl ccs : Array (Option Value)) (vs0 : Array Value) (tf : Tok) (cd : ClassData),
    fd = PySem.W.ksFn "__init__" qual (defArgs st) (defBody st) (defScope st) .none kV doc pm an (.ref cda) ct cc ∧ K.lookup f = some ⟨oc, od, .func fd, osl⟩ ∧ PySem.W.codeIn K (.ref cda) qual = true ∧ K.lookup cda = some ⟨ccl, cdd, .fields vs0, ccs⟩ ∧ vs0[2]? = some (.str file tf) ∧
      K.lookup cc = some ⟨cl, cld, .cell (some (.ref C)), csl⟩ ∧ PySem.W.clsIn K C = some cd
  sub : PySem.W.mroIn K C (.ref C) = some true
  su : mg "super" = none
  th : PySem.W.nsIn K cStatics "thirdparty.any" = some none
  hm : PySem.W.ks_superIn K C C "__init__" = some (some (.builtin "ValueError.__init__"))
  hB : PySem.W.subIn K (.ref C) (.type "ValueError") = some true
  T : OexC K C
  iC : PySem.W.findIn K (.ref C) "__init__" = some (some (.ref f))
  tI : PySem.W.typeIn K (.ref f) = some (.type "function")
theorem SuX.ok {P : Program} {w : World} {K : PySem.W.Frag} {mg : Str → Option Value} {base : Heap} {k : Nat} {f C : Addr} {fd : FuncData} {qual : Str} {st : Stmt} {file : Str} {N : List Str} {sp : Sp} {ar : Arg} {rest : List Stmt} {e : Expr} {p0 p1 p2 p3 p4 : Pos} [PO : ProgOk P file] (X : SuX K mg C f fd qual st file) (S : SuScope N (defScope st))
    (hb : defBody st = .Expr (.Call (.Attribute (.Call (.Name "super" p0) [] [] p1) "__init__" p2) [e] [] p3) p4 :: rest) (hp : ((defArgs st).posonlyargs ++ (defArgs st).args).head? = some ar) (har : N[0]? = some ar.arg)
    (hst : ∀ env, starEach [e] env = [(false, eval e env)])
    (heq : ∀ env, ∃ pl : Sem Bool, eval (.Call (.Attribute (.Call (.Name "super" p0) [] [] p1) "__init__" p2) [e] [] p3) env = (do
      let ov ← attributeBase (.Call (.Name "super" p0) [] [] p1) "__init__" env (eval (.Call (.Name "super" p0) [] [] p1) env)
      standAt p2.atName
      let (f, first) ← holding [ov] (getMethod ov "__init__" pl)
      callWith p3 f first (backTo p3 (starEach [e] env)) []))
    (len : ∀ vs H Q E, sp vs H Q E → vs.length = N.length)
    (hbody : ∀ (cda cc : Addr) (A : Around) (outer : List Env) (s : Shared) (H : Hp) (vs : List V) (Q : VK) (E : XK), Room k (A.deeper (PySem.W.ksEnv qual (defScope st) s.heap.objs.size f (.ref cda) cc)) → sp vs H Q E →
      ∃ te t2 a, PE (cxSu P w K mg base N qual (defScope st) f (.ref cda) cc A outer s H) e te ∧ PSs (cxSu P w K mg base N qual (defScope st) f (.ref cda) cc A outer s H) rest t2 ∧ vs[0]? = some (.ref a) ∧ H a = some (exo a C none) ∧
        te (vs.map some) H fun _ H1 => H1 a = some (exo a C none) ∧ t2 { nx := fun _ H' => Q .non H', rt := Q } (vs.map some) H1) :
    FnOk P w K mg base L2.CX0 (k + 1) f fd N sp := by
  obtain ⟨oc, kV, doc, pm, ct, od, an, cda, cc, osl, cl, ccl, cld, cdd, csl, ccs, vs0, tf, cd, rfl, lk, hcd, hcode, hvs, hcell, hcls⟩ := X.ex
  rw [hb] at lk ⊢
  exact fn_su lk hcd S hp har hcode hvs PO.file hcell hcls X.sub X.su PO.top X.th X.hm X.hB X.T hst heq len fun A outer s H vs Q E hr h => hbody cda cc A outer s H vs Q E hr h
theorem SuX.binds {K : PySem.W.Frag} {mg : Str → Option Value} {C f : Addr} {fd : FuncData} {qual : Str} {st : Stmt} {file : Str} {ps : List Str} (X : SuX K mg C f fd qual st file)
    (h : ∀ (kV doc pm : Value) (an : Option Addr) (cdv ct : Value) (cc : Addr) (us : List Value), us.length = ps.length → bindArgs (PySem.W.ksFn "__init__" qual (defArgs st) (defBody st) (defScope st) .none kV doc pm an cdv ct cc) ⟨us, []⟩ = pure (ps.zip us)) : Binds K fd ps [] := by
  obtain ⟨oc, kV, doc, pm, ct, od, an, cda, cc, osl, cl, ccl, cld, cdd, csl, ccs, vs0, tf, cd, rfl, _⟩ := X.ex
  exact .all (h kV doc pm an (.ref cda) ct cc)
/-! ### methods that may raise -/
def tMethS (C : Addr) (m : Str) (sp : Sp) (E : L2.St → XK) (ta : TE) (t : TA) : TE := fun σ H Q => ta σ H fun x H1 => ∃ a dx fs, x = .ref a ∧ H1 a = some (.ins C dx fs) ∧ fs.lookup m = none ∧ t σ H1 fun vs H2 => sp (x :: vs) H2 Q (E σ)
theorem pe_methS {X : Cx} {CX : CXT} {k : Nat} {f C : Addr} {fd : FuncData} {ps : List Str} {sp : Sp} {E : L2.St → XK} {m : Str} {pos apos : Pos} {e o : Expr} {es : List Expr} {ta : TE} {t : TA} {pl : Sem Bool} (he : PE X o ta) (c : Cls X.K C) (hm : Meth X.K C m f) (F : FnOk X.prog X.w X.K X.mg X.base CX k f fd ps sp) (hr : Room k X.A) (hb : Binds X.K fd ps []) (hx : ∀ σ, PassesAt CX X σ (E σ)) (ha : PA X (e :: es) t)
    (hst : starEach (e :: es) X.env = (false, eval e X.env) :: starEach es X.env := by rfl) (hpl : (backTo pos (starEach es X.env)).any (·.1) = false := by rfl)
    (ht : eval (.Call (.Attribute o m apos) (e :: es) [] pos) X.env = (do
      let ov ← eval o X.env
      standAt apos.atName
      let (f, first) ← holding [ov] (getMethod ov m pl)
      callWith pos f first (backTo pos (starEach (e :: es) X.env)) (backToKw pos (keywordEach [] X.env))) := by rfl) :
    PE X (.Call (.Attribute o m apos) (e :: es) [] pos) (tMethS C m sp E ta t) := by
  refine ⟨fun pins s σ H Q I h => ?_⟩
  refine PySem.W.methodCall_KW (pl := pl) (thn (he.run pins s σ H _ I h) fun u s1 ⟨x, H1, I1, rx, a, dx, fs, ex, ea, l, q⟩ => ?_) ht
  subst ex
  obtain rfl : u = Value.ref a := rx
  refine getmeth_ok I1 ea c hm l ?_
  refine PySem.W.callWith_K (first := [.ref a]) (h₀ := X.base) I.ok.mod.kin hm.kp (thn (ha.run pos pins s1 σ H1 _ I1 q) fun us s2 ⟨vs, H2, I2, r, q2⟩ => ⟨I2.kIn, ?_⟩) hst hpl
  exact run_fnS (us := .ref a :: us) (vs := .ref a :: vs) F hr hb (hx σ) I2 (.cons rfl r) q2
/-! ### readings -/
abbrev RX := List V → Hp → ML → (V → Hp → ML → Prop) → (Value → Option Addr → Hp → ML → Prop) → Prop
/-- a def that may raise -/
def GSpX (R : RX) : Sp := fun vs H Q E => ∃ G M, Sep G H M ∧ R vs G M (fun v G' M' => Same G G' → ∀ H', Sep G' H' M' → Q v H') fun cls d G' M' => Same G G' → ∀ H', Sep G' H' M' → E cls d H'
/-- raise C(e, ..) -/
def sRaiseX (C : Addr) (sp : Sp) (E : XK) (ta : TA) : TS := fun _ σ H => tMkO C sp [] ta σ H fun cls d H' => E cls d H'
/-- try .. except C as n -/
def sTryX (K : PySem.W.Frag) (c : Value) (i : Nat) (ts : Addr → Value → Option Addr → TS) (tb : WX → TS) : TS := fun D σ H => tb (wAs K c i ts (fun _ _ _ _ => False) D) D σ H
/-- an __init__ that keeps one field of its name -/
def XSp1 (C : Addr) (f : Str) : Sp := fun vs H Q _ => ∃ a line, vs = [.ref a, .str line] ∧ line.length ≤ 1000 ∧ H a = some (exo a C none) ∧ ∀ dx, H dx = none → dx ≠ a → Q .non (upd (upd H dx (exd dx [(f, .str line)])) a (exo a C (some dx)))
section
variable {K : PySem.W.Frag} {cl : Nat → Addr} {p q r : Bool} {M M1 M2 M3 M4 : ML} {G G1 G2 G3 H H1 H2 H3 : Hp} {σ : L2.St} {ta tb tc te tl : TE} {tx : TA} {d d1 d2 d3 : D} {ds es : List D}
theorem s_raise1 {C : Addr} {f line : Str} {E : XK} {D0 : Ends} (S : Sep G H M) (ha : EvA K cl p tx σ G M [.str line] M1) (hl : line.length ≤ 1000) (k : ∀ G' H' dx, Same G G' → Sep G' H' ((dx, .xd [(f, .str line)]) :: M1) → E (.ref C) (some dx) H') : sRaiseX C (XSp1 C f) E tx D0 σ H :=
  ha G H (Same.refl _) S _ fun vs G1 H1 g1 rs => by
    obtain ⟨v, rfl, rv⟩ := reps1 rs
    obtain rfl := rv.of_str
    refine ⟨by show (1 : Nat) ≤ 1000; decide, fun a na => ?_⟩
    refine ⟨a, line, rfl, hl, upd_same, fun dx nd ne => ?_⟩
    have nd1 : H1 dx = none := by rw [upd_ne ne] at nd; exact nd
    refine ⟨rfl, dx, [(f, .str line)], upd_same, by rw [upd_ne ne, upd_same], nd1, ?_⟩
    have e : upd (del (upd (upd (upd H1 a (exo a C none)) dx (exd dx [(f, .str line)])) a (exo a C (some dx))) a) dx (.xd [(f, .str line)]) = upd H1 dx (.xd [(f, .str line)]) := by
      funext b
      by_cases hb : b = dx
      · rw [hb, upd_same, upd_same]
      · rw [upd_ne hb, upd_ne hb]
        by_cases hba : b = a
        · rw [hba, del_same, na]
        · rw [del_ne hba, upd_ne hba, upd_ne hb, upd_ne hba]
    rw [e]
    exact k G1 _ dx g1.same (g1.sep.newM nd1)
theorem s_dropMX {R : RX} {C x dx : Addr} {fs : List (Str × V)} {m : Str} {E : L2.St → XK} {D0 : Ends} (S : Sep G H M) (he : EvX K cl p ta σ G M (.loc x) M1) (hm : At M1 x (.ins C dx fs)) (hn : fs.lookup m = none) (ha : EvA K cl q tx σ G M1 ds M2) (pm : M2.Perm M3)
    (hR : ∀ vs G', Same G G' → Reps K cl G' vs ds → R (.ref x :: vs) G' M3 (fun _ G'' M'' => Same G' G'' → ∀ H', Sep G'' H' M'' → D0.nx σ H') fun cls d G'' M'' => Same G' G'' → ∀ H', Sep G'' H' M'' → E σ cls d H') :
    tDrop (tMethS C m (GSpX R) E ta tx) D0 σ H :=
  he G H (Same.refl _) S _ fun y G2 H2 g2 ry => by
    obtain rfl := ry.of_loc
    exact ⟨x, dx, fs, rfl, g2.sep.look hm, hn, ha G2 H2 g2.same g2.sep _ fun xs G3 H3 g3 rxs => ⟨G3, M3, g3.sep.perm pm, hR xs G3 (g2.same.trans g3.same) rxs⟩⟩
theorem x_caught {C : Addr} {i : Nat} {ts : Addr → Value → Option Addr → TS} {W : WX} {D0 : Ends} {dx : Option Addr} (hE : PySem.W.exmOne K (.ref C) (.ref C) = some true)
    (k : ∀ a, H a = none → ts a (.ref C) dx { nx := fun σ' H' => D0.nx (σ'.set i none) H', rt := D0.rt, bk := fun σ' H' => D0.bk (σ'.set i none) H', ct := fun σ' H' => D0.ct (σ'.set i none) H' } (σ.set i (some (.ref a))) H) : wAs K (.ref C) i ts W D0 (.ref C) dx σ H := ⟨true, hE, fun _ => k, fun q => nomatch q⟩
theorem ev_xf {C a dd : Addr} {i : Nat} {f : Str} {fs : List (Str × V)} {v : V} (hi : σ[i]? = some (some (.ref a))) (hm : At M dd (.xd fs)) (hf : fs.lookup f = some v) (rv : Rep K cl G v d) : EvX K cl true (tXf a (.ref C) (some dd) C f (tVar i)) σ G M d M := fun G1 H1 s S Q k =>
  ⟨.ref a, hi, rfl, rfl, dd, fs, v, rfl, S.look hm, hf, k v G1 H1 (Go.refl S) (rv.mono s)⟩
end

def suC (N : List Str) (sc : Scope) : Bool :=
  decide (sc.kind = .function) && !sc.isCoroutine && !sc.isGenerator && decide N.Nodup && N.all (fun x => decide (sc.names.lookup x = some .local)) && sc.names.all (fun y => !decide (y.2 = .cell)) && sc.names.all (fun y => !decide (y.2 = .free) || decide (y.1 = ("__class__" : Str))) &&
    decide (sc.names.lookup ("super" : Str) = some .globalImplicit) && decide (sc.names.lookup ("__class__" : Str) = some .free)
theorem suScope_by {N : List Str} {sc : Scope} (h : suC N sc = true) : SuScope N sc := by
  unfold suC at h
  simp only [Bool.and_eq_true, Bool.not_eq_true', decide_eq_true_eq, List.all_eq_true, Bool.or_eq_true, decide_eq_false_iff_not] at h
  obtain ⟨⟨⟨⟨⟨⟨⟨⟨h1, h2⟩, h3⟩, h4⟩, h5⟩, h6⟩, h7⟩, h8⟩, h9⟩ := h
  refine ⟨h1, h2, h3, h4, h5, fun y hy => h6 y hy, fun x hx => ?_, h8, h9⟩
  rcases h7 _ (PySem.mem_of_lookup hx) with z | z
  · exact absurd rfl z
  · exact z
/-- f'..{line}..', the text thrown away -/
theorem jn_read {x1 x3 line : Str} {σ : L2.St} {H : Hp} {F : Hp → Prop} {i : Nat} (h1 : σ[i]? = some (some (.str line))) (hl : line.length ≤ 1000) (hx1 : x1.length ≤ 1000) (hx3 : x3.length ≤ 1000) (hF : F H) : tJs [tC (.str x1), tFmt (tVar i), tC (.str x3)] Str.empty σ H fun _ H1 => F H1 := by
  have z0 : (Str.empty : Str).length ≤ 0 := by decide
  have a1 : (Str.empty ++ x1).length ≤ 1000 := app_len z0 hx1 (by decide)
  have a2 : (Str.empty ++ x1 ++ line).length ≤ 2000 := app_len a1 hl (by decide)
  have a3 : (Str.empty ++ x1 ++ line ++ x3).length ≤ 3000 := app_len a2 hx3 (by decide)
  have zs := sizeLine_eq
  exact ⟨x1, rfl, by omega, .str line, h1, .inl ⟨line, rfl, by omega, line, rfl, by omega, x3, rfl, by omega, hF⟩⟩
abbrev jnT (x1 x3 : Str) : TE := fun σ H Q => tJs [tC (.str x1), tFmt (tVar 1), tC (.str x3)] Str.empty σ H fun out H1 => Q (.str out) H1
theorem len_init1 {C : Addr} {f n : Str} : ∀ vs H Q E, XSp1 C f vs H Q E → vs.length = ([("self" : Str), n] : List Str).length := by
  rintro vs H Q E ⟨a, line, rfl, _⟩
  rfl
/-- such an __init__ with one field: what its body does -/
theorem xsp1_read {K : PySem.W.Frag} {C : Addr} {f x1 x3 : Str} {vs : List V} {H : Hp} {Q : VK} {E : XK} (T : OexC K C) (hno : PySem.W.findIn K (.ref C) f = some none) (hx1 : x1.length ≤ 1000) (hx3 : x3.length ≤ 1000) (h : XSp1 C f vs H Q E) :
    ∃ a, vs[0]? = some (.ref a) ∧ H a = some (exo a C none) ∧ jnT x1 x3 (vs.map some) H fun _ H1 => H1 a = some (exo a C none) ∧ tOst K f (tVar 0) (tVar 1) { nx := fun _ H' => Q .non H', rt := Q } (vs.map some) H1 := by
  obtain ⟨a, line, rfl, hl, ha, k⟩ := h
  refine ⟨a, rfl, ha, jn_read (i := 1) rfl hl hx1 hx3 ⟨ha, ?_⟩⟩
  exact ⟨.str line, rfl, .ref a, rfl, a, C, rfl, T, hno, .inl ⟨ha, fun dx nd ne => k dx nd ne⟩⟩
/-- an error of the class is what except names -/
theorem exm_self {K : PySem.W.Frag} {S : Addr} (h1 : PySem.W.subIn K (.ref S) (.type "BaseException") = some true) (h2 : PySem.W.isClsIn K S = true) (h3 : PySem.W.typeIn K (.ref S) = some (.type "type")) (h4 : PySem.W.subIn K (.ref S) (.ref S) = some true) : PySem.W.exmOne K (.ref S) (.ref S) = some true := by
  have e1 : (PySem.W.subIn K (.ref S) (.type "BaseException") == some true) = true := by rw [h1] <;> rfl
  have e2 : ((PySem.W.clsIn K S).isSome && PySem.W.typeIn K (.ref S) == some (.type "type")) = true := by
    have h2' : (PySem.W.clsIn K S).isSome = true := h2
    rw [h2', h3] <;> rfl
  show (if (PySem.W.subIn K (.ref S) (.type "BaseException") == some true) = true then (if ((PySem.W.clsIn K S).isSome && PySem.W.typeIn K (.ref S) == some (.type "type")) = true then PySem.W.subIn K (.ref S) (.ref S) else none) else none) = some true
  rw [if_pos e1, if_pos e2]
  exact h4
end Cp
namespace L84
open PySem L2 Cp
/-! the words of the walk (local, by strings) -/
local macro_rules | `(tactic| walk_at "at") => `(tactic| first | exact At.hd | ((with_reducible apply At.tl); walk_at "at"))
local macro_rules | `(tactic| walk_at "ch") => `(tactic| first | exact Ch.hd | ((with_reducible apply Ch.tl); walk_at "ch"))
local macro_rules | `(tactic| walk_at "same") => `(tactic| first | assumption | exact Same.refl _ | ((with_reducible apply same_tr); assumption; walk_at "same"))
local macro_rules | `(tactic| walk_at "repc") => `(tactic| first | assumption | ((with_reducible apply Rep.mono); assumption; walk_at "repc"))
local macro_rules | `(tactic| walk_at "repsc") => `(tactic| first | assumption | ((with_reducible apply Reps.mono); assumption; walk_at "repsc"))
local macro_rules | `(tactic| walk_at "rep") => `(tactic| first | exact Rep.int | exact Rep.str | exact Rep.bl | exact Rep.non | walk_at "repc" | exact Rep.loc)
local macro_rules | `(tactic| walk_at "num") => `(tactic| first | omega | assumption | decide)
local macro_rules | `(tactic| walk_at "mul") => `(tactic| first | exact .inr ⟨by omega, by omega⟩ | exact .inl ⟨by omega, by omega⟩)
local macro_rules | `(tactic| walk_at "slen") => `(tactic| first | omega | assumption | decide)
local macro_rules | `(tactic| walk_at "op2") => `(tactic| first
  | with_reducible exact o_add_int | with_reducible exact o_sub | with_reducible exact o_lt | with_reducible exact o_le | with_reducible exact o_gt | with_reducible exact o_ge | with_reducible exact o_isN | with_reducible exact o_notN
  | ((with_reducible apply o_mul); walk_at "mul") | ((with_reducible apply o_div); exact ⟨by walk_at "num", by walk_at "num"⟩) | ((with_reducible apply o_mod); walk_at "num")
  | ((with_reducible apply o_eq); exact rfl) | ((with_reducible apply o_ne); exact rfl)
  | ((with_reducible apply o_add_str); walk_at "slen") | ((with_reducible apply o_ixT); walk_at "ix") | ((with_reducible apply o_ixL); walk_at "ix"))
local macro_rules | `(tactic| walk_at "opN") => `(tactic| first
  | with_reducible exact on_int | with_reducible exact on_intB | ((with_reducible apply on_str); first | (exact num_log (by omega) (by omega)) | walk_at "num") | with_reducible exact on_min | with_reducible exact on_max | ((with_reducible apply on_lenS); walk_at "num") | with_reducible exact on_lenL | with_reducible exact on_lenT
  | ((with_reducible apply on_lenM); walk_at "at") | with_reducible exact on_tupL | with_reducible exact on_tupT)
local macro_rules | `(tactic| walk_at "cf") => `(tactic| assumption)
local macro_rules | `(tactic| walk_at "evcall") => `(tactic| fail)
local macro_rules | `(tactic| walk_at "ev") => `(tactic| first
  | with_reducible exact ev_int | with_reducible exact ev_str | with_reducible exact ev_bl | with_reducible exact ev_non
  | ((with_reducible apply ev_var); exact rfl; walk_at "rep")
  | ((with_reducible apply ev_op); walk_at "ev"; walk_at "ev"; walk_at "op2")
  | ((with_reducible apply ev_fld); walk_at "ev"; walk_at "cf"; walk_at "cf"; exact rfl)
  | ((with_reducible apply ev_fldM); walk_at "ev"; walk_at "at"; walk_at "cf"; walk_at "cf"; exact rfl; walk_at "rep")
  | ((with_reducible apply ev_ixM); walk_at "ev"; walk_at "ev"; walk_at "at"; exact rfl; walk_at "rep")
  | ((with_reducible apply ev_ixMD); walk_at "ev"; walk_at "ev"; walk_at "at"; walk_at "repsc"; first | assumption | exact rfl)
  | walk_at "evcall"
  | ((with_reducible apply ev_tupM); walk_at "ev"; walk_at "at"; walk_at "repsc")
  | ((with_reducible apply ev_cb); walk_at "ea"; walk_at "opN")
  | ((with_reducible apply ev_un); walk_at "ev"; exact o1_neg)
  | ((with_reducible apply ev_tup); walk_at "ea"; exact Nat.le_of_ble_eq_true rfl)
  | ((with_reducible apply ev_andV); walk_at "ev"; intro _; walk_at "ev")
  | ((with_reducible apply ev_orV); walk_at "ev"; intro _; walk_at "ev")
  | ((with_reducible apply ev_notV); walk_at "ev")
  | ((with_reducible apply ev_starts); walk_at "ev"; walk_at "ev")
  | ((with_reducible apply ev_slS); walk_at "ev"; walk_at "eo"; walk_at "eo"; walk_at "num")
  | ((with_reducible apply ev_slL); walk_at "ev"; walk_at "eo"; walk_at "eo"))
local macro_rules | `(tactic| walk_at "eo") => `(tactic| first | with_reducible exact eo_none | ((with_reducible apply eo_some); walk_at "ev"))
local macro_rules | `(tactic| walk_at "ea") => `(tactic| first | with_reducible exact ea_nil | ((with_reducible apply ea_cons); walk_at "ev"; walk_at "ea"))
local macro_rules | `(tactic| walk_at "et") => `(tactic| first
  | with_reducible exact et_yes
  | ((with_reducible apply et_tr); walk_at "ev"; exact rfl) | ((with_reducible apply et_trM); walk_at "ev"; walk_at "at")
  | ((with_reducible apply et_test); walk_at "ev") | ((with_reducible apply et_B); walk_at "ev") | ((with_reducible apply et_not); walk_at "et")
  | ((with_reducible apply et_and); walk_at "et"; intro _; walk_at "et")
  | ((with_reducible apply et_or); walk_at "et"; intro _; walk_at "et"))
section
variable [Wo]
/-! ### the cells of the script, a state of one number, its digits -/
abbrev sp_law_cell (K : PySem.W.Frag) (cl : Nat → Addr) : Sp := PSp K cl fun ds d => ∃ (ns : List Int) (k : Int), ds = [.lst (ns.map D.int), .int k] ∧ 0 ≤ k ∧ d = .int (ns.getD k.toNat 0)
abbrev sp_law_state (K : PySem.W.Frag) (cl : Nat → Addr) : Sp := GSp fun vs G M T => ∃ c k, vs = [.int c, .int k] ∧ ∀ p s G', Same G G' → T (.ref p) G' ((p, .lst [.int s]) :: M)
abbrev sp_law_digit (K : PySem.W.Frag) (cl : Nat → Addr) : Sp := GSp fun vs G M T => ∃ a s m M0, vs = [.ref a, .int m] ∧ M = (a, .lst [.int s]) :: M0 ∧ 0 < m ∧ m < 1000000 ∧ ∀ G', Same G G' → T (.int (s % m)) G' ((a, .lst [.int (s / m)]) :: M0)
abbrev sp_law_large (K : PySem.W.Frag) (cl : Nat → Addr) : Sp := GSp fun vs G M T => ∃ v ns, vs = [v] ∧ Rep K cl G v (.lst (List.map D.int ns)) ∧ ∀ b G', Same G G' → T (.bl b) G' M
section
variable {K : PySem.W.Frag} {cl : Nat → Addr} {p q : Bool} {M M1 M2 : ML} {G : Hp} {σ : St} {tx : TA} {te : TE}
theorem ev_digit {E : XK} {a : Addr} {s m : Int} (ha : EvA K cl p tx σ G M [.loc a, .int m] M1) (hc : Ch M1 a (.lst [.int s]) (.lst [.int (s / m)]) M2) (h0 : 0 < m) (h1 : m < 1000000) : EvX K cl false (tCall (sp_law_digit K cl) [] E tx) σ G M (.int (s % m)) M2 := fun G1 H1 s1 S Q k =>
  ha G1 H1 s1 S _ fun xs G2 H2 g2 rx => by
    obtain ⟨u, v, rfl, hu, hv⟩ := reps2 rx
    obtain ⟨M0, p1, p2⟩ := hc.perm
    refine ⟨G2, (a, .lst [.int s]) :: M0, g2.sep.perm p1, a, s, m, M0, by rw [hu.of_loc, hv.of_int]; rfl, rfl, h0, h1, fun G' s' _ H' S' => ?_⟩
    exact k _ G' H' (Go.of (g2.same.trans s') (S'.perm p2.symm)) Rep.int
theorem eg_state {E : XK} {c k : Int} (ha : EvA K cl p tx σ G M [.int c, .int k] M1) : EvG (tCall (sp_law_state K cl) [] E tx) σ G M fun v G' M' => ∃ p s, v = .ref p ∧ M' = (p, .lst [.int s]) :: M1 := fun G1 H1 s1 S Q kk =>
  ha G1 H1 s1 S _ fun xs G2 H2 g2 rx => by
    obtain ⟨u, v, rfl, hu, hv⟩ := reps2 rx
    exact ⟨G2, M1, g2.sep, c, k, by rw [hu.of_int, hv.of_int]; rfl, fun p s G' s' _ H' S' => kk (.ref p) G' H' _ (g2.same.trans s') S' ⟨p, s, rfl, rfl⟩⟩
theorem eg_large {E : XK} {ns : List Int} (ha : EvA K cl p tx σ G M [.lst (ns.map D.int)] M1) : EvG (tCall (sp_law_large K cl) [] E tx) σ G M fun v G' M' => ∃ b, v = .bl b ∧ M' = M1 := fun G1 H1 s1 S Q kk =>
  ha G1 H1 s1 S _ fun xs G2 H2 g2 rx => by
    obtain ⟨u, rfl, hu⟩ := reps1 rx
    exact ⟨G2, M1, g2.sep, u, ns, rfl, hu, fun b G' s' _ H' S' => kk (.bl b) G' H' _ (g2.same.trans s') S' ⟨b, rfl, rfl⟩⟩
end
local macro_rules | `(tactic| walk_at "evcall") => `(tactic| ((with_reducible apply ev_digit); walk_at "ea"; walk_at "ch"; walk_at "num"; walk_at "num"))
local macro_rules | `(tactic| walk_at "R cell") => `(tactic| exact ⟨_, _, rfl, by walk_at "num", rfl⟩)
local macro_rules | `(tactic| walk_at "evcall") => `(tactic| ((with_reducible apply ev_call (R := fun ds d => ∃ (ns : List Int) (k : Int), ds = [.lst (ns.map D.int), .int k] ∧ 0 ≤ k ∧ d = .int (ns.getD k.toNat 0))); walk_at "ea"; walk_at "R cell"))
/-! ### lists of pairs -/
theorem valG_map {κ α β : Type} [DecidableEq κ] (f : α → β) (k : κ) : ∀ (st : List (κ × α)), valG (st.map fun e => (e.1, f e.2)) k = (valG st k).map f
  | [] => rfl
  | e :: st => by
    unfold valG
    rw [List.map_cons, List.find?_cons, List.find?_cons]
    by_cases h : e.1 = k
    · simp [h]
    · simp only [h, decide_false]
      exact valG_map f k st
theorem putG_map {κ α β : Type} [DecidableEq κ] (f : α → β) (k : κ) (d : α) (st : List (κ × α)) : putG (st.map fun e => (e.1, f e.2)) k (f d) = (putG st k d).map fun e => (e.1, f e.2) := by
  unfold putG
  rw [valG_map, Option.isSome_map]
  split
  · rw [List.map_map, List.map_map]
    refine List.map_congr_left fun e _ => ?_
    show (if e.1 = k then (e.1, f d) else (e.1, f e.2)) = ((if e.1 = k then (e.1, d) else e).1, f (if e.1 = k then (e.1, d) else e).2)
    split <;> rfl
  · rw [List.map_append]; rfl
theorem valG_text {α : Type} (x : Str) : ∀ (st : List (Str × α)), valG (st.map fun e => ((.inr e.1 : Key), e.2)) (.inr x) = valG st x
  | [] => rfl
  | e :: st => by
    unfold valG
    rw [List.map_cons, List.find?_cons, List.find?_cons]
    by_cases h : e.1 = x
    · have h' : (Sum.inr e.1 : Key) = .inr x := by rw [h]
      simp [h]
    · have h' : ¬ (Sum.inr e.1 : Key) = .inr x := fun z => h (Sum.inr.inj z)
      simp only [h, h', decide_false]
      exact valG_text x st
theorem putG_text {α : Type} (x : Str) (d : α) (st : List (Str × α)) : putG (st.map fun e => ((.inr e.1 : Key), e.2)) (.inr x) d = (putG st x d).map fun e => ((.inr e.1 : Key), e.2) := by
  unfold putG
  rw [valG_text]
  split
  · rw [List.map_map, List.map_map]
    refine List.map_congr_left fun e _ => ?_
    by_cases h : e.1 = x
    · have h' : (Sum.inr e.1 : Key) = .inr x := by rw [h]
      simp [h]
    · have h' : ¬ (Sum.inr e.1 : Key) = .inr x := fun z => h (Sum.inr.inj z)
      simp [h]
  · rw [List.map_append]; rfl
theorem valG_mem1 {κ α : Type} [DecidableEq κ] {st : List (κ × α)} {k : κ} {v : α} (h : valG st k = some v) : (k, v) ∈ st := by
  unfold valG at h
  obtain ⟨e, he, q⟩ := Option.map_eq_some_iff.mp h
  have h1 := List.mem_of_find?_eq_some he
  have h2 := List.find?_some he
  have h3 : e.1 = k := of_decide_eq_true h2
  rw [← h3, ← q]
  exact h1
/-! ### contracts -/
abbrev Row3 := Int × Option Str × Str
def optS : Option Str → D
  | none => .non
  | some x => .str x
theorem optS_isNon {o : Option Str} : (optS o).isNon = o.isNone := by cases o <;> rfl
@[reducible] def rowD (r : Row3) : D := .tup [.int r.1, optS r.2.1, .str r.2.2]
abbrev Hist := List (Str × List Row3)
def histK (h : Hist) : List (Key × D) := h.map fun e => ((.inr e.1 : Key), D.tup (e.2.map rowD))
theorem histK_val {h : Hist} {x : Str} : valG (histK h) (.inr x) = (valG h x).map fun rows => D.tup (rows.map rowD) := by
  have e : histK h = (h.map fun e => (e.1, D.tup (e.2.map rowD))).map fun e => ((.inr e.1 : Key), e.2) := by
    unfold histK
    rw [List.map_map]
    rfl
  rw [e, valG_text, valG_map (fun rows : List Row3 => D.tup (rows.map rowD))]
def lastF (rows : List Row3) (clock : Int) : Option (Option Str × Str) := rows.foldl (fun f r => if r.1 ≤ clock then some r.2 else f) none
def dueF (rows : List Row3) (clock : Int) : Option (Str × Str) :=
  match lastF rows clock with
  | some (some a, n) => some (a, n)
  | _ => none
def inF (h : Hist) (line : Str) (clock : Int) : Option (Str × Str) := dueF ((valG h line).getD []) clock
def optC : Option (Str × Str) → D
  | none => .non
  | some x => .tup [.str x.1, .str x.2]
theorem optC_isNon {o : Option (Str × Str)} : (optC o).isNon = o.isNone := by cases o <;> rfl
/-- times that ascend -/
def Asc (rows : List Row3) : Prop := ∀ i : Nat, ∀ r r' : Row3, rows[i]? = some r → rows[i + 1]? = some r' → r.1 < r'.1
def setF (h : Hist) (line : Str) (rows : List Row3) : Hist := if rows.isEmpty then dropG h line else putG h line rows
theorem dropG_text {α : Type} (x : Str) (st : List (Str × α)) : dropG (st.map fun e => ((.inr e.1 : Key), e.2)) (.inr x) = (dropG st x).map fun e => ((.inr e.1 : Key), e.2) := by
  unfold dropG
  rw [List.filter_map]
  congr 1
  refine List.filter_congr fun e _ => ?_
  show decide ((Sum.inr e.1 : Key) ≠ .inr x) = decide (e.1 ≠ x)
  by_cases h : e.1 = x
  · have h' : (Sum.inr e.1 : Key) = .inr x := by rw [h]
    simp [h]
  · have h' : ¬ (Sum.inr e.1 : Key) = .inr x := fun z => h (Sum.inr.inj z)
    simp [h]
theorem dropG_map {κ α β : Type} [DecidableEq κ] (f : α → β) (k : κ) (st : List (κ × α)) : dropG (st.map fun e => (e.1, f e.2)) k = (dropG st k).map fun e => (e.1, f e.2) := by
  unfold dropG
  rw [List.filter_map]
  rfl
theorem dropG_none {κ α : Type} [DecidableEq κ] {st : List (κ × α)} {k : κ} (h : valG st k = none) : dropG st k = st := by
  unfold dropG
  refine List.filter_eq_self.mpr fun e he => ?_
  unfold valG at h
  rw [Option.map_eq_none_iff, List.find?_eq_none] at h
  have := h e he
  simpa using this
theorem histK_put {h : Hist} {x : Str} {rows : List Row3} : putG (histK h) (.inr x) (D.tup (rows.map rowD)) = histK (putG h x rows) := by
  have e : ∀ h : Hist, histK h = (h.map fun e => (e.1, D.tup (e.2.map rowD))).map fun e => ((.inr e.1 : Key), e.2) := fun h => by
    unfold histK
    rw [List.map_map]
    rfl
  rw [e h, e (putG h x rows), putG_text, putG_map (fun rows : List Row3 => D.tup (rows.map rowD))]
theorem histK_drop {h : Hist} {x : Str} : dropG (histK h) (.inr x) = histK (dropG h x) := by
  have e : ∀ h : Hist, histK h = (h.map fun e => (e.1, D.tup (e.2.map rowD))).map fun e => ((.inr e.1 : Key), e.2) := fun h => by
    unfold histK
    rw [List.map_map]
    rfl
  rw [e h, e (dropG h x), dropG_text, dropG_map (fun rows : List Row3 => D.tup (rows.map rowD))]

/-! ### a list that is read: frozen, or a cell -/
def LV (K : PySem.W.Frag) (cl : Nat → Addr) (G : Hp) (M : ML) (v : V) (ds : List D) : Prop := Rep K cl G v (.lst ds) ∨ ∃ g vs, v = .ref g ∧ At M g (.lst vs) ∧ Reps K cl G vs ds
section
variable {K : PySem.W.Frag} {cl : Nat → Addr} {p q : Bool} {M : ML} {G G' : Hp} {σ : St} {tb : TE} {d : D} {ds : List D} {i : Nat} {v : V} {j : Int}
theorem LV.mono (s : Same G G') (h : LV K cl G M v ds) : LV K cl G' M v ds := by
  rcases h with h | ⟨g, vs, rfl, hm, r⟩
  · exact .inl (h.mono s)
  · exact .inr ⟨g, vs, rfl, hm, r.mono s⟩
theorem lv_len (h : σ[i]? = some (some v)) (r : LV K cl G M v ds) : EvX K cl true (tCB (rLenA K) (tCons (tVar i) tNil)) σ G M (.int ds.length) M := by
  rcases r with r | ⟨g, vs, rfl, hm, rs⟩
  · exact ev_cb (p := true) (q := true) (ea_cons (p := true) (ev_var h r) ea_nil) on_lenL
  · rw [← rs.length]
    exact ev_cb (p := true) (q := true) (ea_cons (p := true) (ev_var h Rep.loc) ea_nil) (on_lenM hm)
theorem lv_ix (h : σ[i]? = some (some v)) (r : LV K cl G M v ds) (hb : EvX K cl true tb σ G M (.int j) M) (hi : atI ds j = some d) : EvX K cl true (tOp (rIx K) (tVar i) tb) σ G M d M := by
  rcases r with r | ⟨g, vs, rfl, hm, rs⟩
  · exact ev_op (p := true) (q := true) (r := true) (ev_var h r) hb (o_ixL hi)
  · exact ev_ixMD (p := true) (q := true) (ev_var h Rep.loc) hb hm rs hi
theorem lv_tr (h : σ[i]? = some (some v)) (r : LV K cl G M v ds) : EvT K cl true (tTr K (tVar i)) σ G M (!ds.isEmpty) M := by
  rcases r with r | ⟨g, vs, rfl, hm, rs⟩
  · exact et_tr (ev_var h r) rfl
  · have e : ds.isEmpty = vs.isEmpty := by
      have := rs.length
      cases vs <;> cases ds <;> simp_all
    rw [e]
    exact et_trM (ev_var h Rep.loc) hm
theorem lv_tup (h : σ[i]? = some (some v)) (r : LV K cl G M v ds) : EvX K cl false (tCB (rTupA K) (tCons (tVar i) tNil)) σ G M (.tup ds) M := by
  rcases r with r | ⟨g, vs, rfl, hm, rs⟩
  · exact ev_cb (p := true) (q := false) (ea_cons (p := true) (ev_var h r) ea_nil) on_tupL
  · exact fun G1 H1 s S Q k => ⟨.ref g, h, on_tupM hm rs G1 H1 s S Q fun w G2 H2 g2 rw' => k w G2 H2 g2 rw'⟩
end
/-! ### specs -/
abbrev ConM (cl : Nat → Addr) (x dx h : Addr) (kws : List (Key × V)) (M0 : ML) : ML := (x, .ins (cl 2) dx (List.zip ["histories"] [.ref h])) :: (h, .dK kws) :: M0
abbrev sp_BadHistory_init (K : PySem.W.Frag) (cl : Nat → Addr) : Sp := XSp1 (cl 1) "line"
abbrev sp_Contracts_init (K : PySem.W.Frag) (cl : Nat → Addr) : Sp := GSp fun vs G M T => ∃ x dx M0, vs = [.ref x] ∧ M = (x, .ins (cl 2) dx (List.zip [] [])) :: M0 ∧ ∀ G' h, Same G G' → T .non G' (ConM cl x dx h [] M0)
abbrev sp_Contracts_in_force (K : PySem.W.Frag) (cl : Nat → Addr) : Sp := GSp fun vs G M T => ∃ x dx h kws hist M0 line clock, vs = [.ref x, .str line, .int clock] ∧ M = ConM cl x dx h kws M0 ∧ KRep K cl G kws (histK hist) ∧ ∀ G' v, Same G G' → Rep K cl G' v (optC (inF hist line clock)) → T v G' M
abbrev sp_Contracts_set_history (K : PySem.W.Frag) (cl : Nat → Addr) : Sp := GSpX fun vs G M T TX => ∃ x dx h kws hist M0 line vr rows, vs = [.ref x, .str line, vr] ∧ M = ConM cl x dx h kws M0 ∧ line.length ≤ 1000 ∧
  KRep K cl G kws (histK hist) ∧ LV K cl G M vr (List.map rowD rows) ∧ rows.length ≤ 1000 ∧ hist.length ≤ 1000 ∧
  (Asc rows → ∀ G' kws', Same G G' → KRep K cl G' kws' (histK (setF hist line rows)) → T .non G' (ConM cl x dx h kws' M0)) ∧ (¬ Asc rows → ∀ G' d, Same G G' → TX (.ref (cl 1)) (some d) G' ((d, .xd [("line", .str line)]) :: M))
abbrev sp_law_set (K : PySem.W.Frag) (cl : Nat → Addr) : Sp := GSp fun vs G M T => ∃ x dx h kws hist M0 line vr rows, vs = [.ref x, .str line, vr] ∧ M = ConM cl x dx h kws M0 ∧ line.length ≤ 1000 ∧
  KRep K cl G kws (histK hist) ∧ LV K cl G M vr (List.map rowD rows) ∧ rows.length ≤ 1000 ∧ hist.length ≤ 1000 ∧
  (Asc rows → ∀ G' v kws', Same G G' → KRep K cl G' kws' (histK (setF hist line rows)) → Rep K cl G' v (.tup [.str "set", .str line]) → T v G' (ConM cl x dx h kws' M0)) ∧ (¬ Asc rows → ∀ G' v, Same G G' → Rep K cl G' v (.tup [.str "refused", .str line]) → T v G' M)
abbrev sp_law_due (K : PySem.W.Frag) (cl : Nat → Addr) : Sp := PSp K cl fun ds d => ∃ rows clock, ds = [.lst (List.map rowD rows), .int clock] ∧ d = optC (dueF rows clock)
def okA (o : Option Str) : Prop := o = none ∨ o = some "ann" ∨ o = some "firm"
def RowOk (r : Row3) : Prop := okA r.2.1 ∧ (r.2.2 = "std" ∨ r.2.2 = "eve")
abbrev sp_law_rows (K : PySem.W.Frag) (cl : Nat → Addr) : Sp := GSp fun vs G M T => ∃ a s M0, vs = [.ref a] ∧ M = (a, .lst [.int s]) :: M0 ∧ ∀ G' v rows s', Same G G' → rows.length ≤ 5 → (∀ r ∈ rows, RowOk r) → Rep K cl G' v (.lst (List.map rowD rows)) → T v G' ((a, .lst [.int s']) :: M0)
abbrev sp_law_long (K : PySem.W.Frag) (cl : Nat → Addr) : Sp := GSp fun vs G M T => ∃ x dx h M0 v1 ns, vs = [.ref x, v1] ∧ M = ConM cl x dx h [] M0 ∧ Rep K cl G v1 (.lst (List.map D.int ns)) ∧ ∀ G' kws' hist, Same G G' → KRep K cl G' kws' (histK hist) → hist.length ≤ 1 → (∀ l : Str, l ≠ "47" → valG hist l = none) → T (.bl true) G' (ConM cl x dx h kws' M0)
local macro_rules | `(tactic| walk_at "ix") => `(tactic| first | assumption | exact rfl | ((refine atI_getD D.non ?_ ?_); omega; (simp only [List.length_cons, List.length_nil]; omega)))
abbrev sp_law (K : PySem.W.Frag) (cl : Nat → Addr) : Sp := GSp fun vs G M T => ∃ v ns, vs = [v] ∧ Rep K cl G v (.lst (List.map D.int ns)) ∧ ∀ G' M', Same G G' → T (.bl true) G' M'
def t_Contracts_init (K : PySem.W.Frag) (cl : Nat → Addr) : TS :=
  (sFld K (tVar 0) (tNew) "histories")
def t_Contracts_in_force (K : PySem.W.Frag) (cl : Nat → Addr) : TS :=
  (tSeq (tAsg (tC .non) (gName 3)) (tSeq (tFor (iSeq K (tGet2 K cl (tFld K (tVar 0) "histories") (tVar 1) (tTup tNil))) (gTup K 3 (gNames [4, 5, 6])) (tIfS (tTest (tOp (rLeI) (tVar 4) (tVar 2))) (tAsg (tTup (tCons (tVar 5) (tCons (tVar 6) tNil))) (gName 3)) tNext)) (tSeq (tIfS (tOr (tTest (tOp (rIsN) (tVar 3) (tC .non))) (tTest (tOp (rIsN) (tOp (rIx K) (tVar 3) (tC (.int 0))) (tC .non)))) (tRet (tC .non)) tNext) (tRet (tVar 3)))))
def t_law_cell (K : PySem.W.Frag) (cl : Nat → Addr) : TS :=
  (tSeq (tIfS (tTest (tOp (rLtI) (tVar 1) (tCB (rLenA K) (tCons (tVar 0) tNil)))) (tRet (tOp (rIx K) (tVar 0) (tVar 1))) tNext) (tRet (tC (.int 0))))
def t_law_state (K : PySem.W.Frag) (cl : Nat → Addr) : TS :=
  (tSeq (tIfS (tTest (tOp (rGeI) (tVar 0) (tC (.int 1000000000000000000)))) (tRet (tLst (tCons (tVar 0) tNil))) tNext) (tSeq (tAsg (tC (.int 2305843009213693951)) (gName 2)) (tSeq (tAsg (tOp (rModI) (tCB (rInt1) (tCons (tOp (rAdd K) (tOp (rAdd K) (tOp (rMulI) (tVar 0) (tC (.int 6364136223))) (tOp (rMulI) (tOp (rAdd K) (tVar 1) (tC (.int 1))) (tC (.int 104729)))) (tC (.int 77))) tNil)) (tVar 2)) (gName 3)) (tSeq (tAsg (tOp (rModI) (tCB (rInt1) (tCons (tOp (rAdd K) (tOp (rAdd K) (tOp (rMulI) (tVar 3) (tVar 3)) (tOp (rMulI) (tC (.int 1013)) (tVar 3))) (tVar 1)) tNil)) (tVar 2)) (gName 4)) (tSeq (tAsg (tOp (rModI) (tCB (rInt1) (tCons (tOp (rAdd K) (tOp (rAdd K) (tOp (rMulI) (tVar 4) (tC (.int 48271))) (tOp (rMulI) (tVar 3) (tC (.int 31)))) (tC (.int 9))) tNil)) (tVar 2)) (gName 5)) (tSeq (tAsg (tOp (rModI) (tCB (rInt1) (tCons (tOp (rAdd K) (tOp (rMulI) (tVar 5) (tVar 5)) (tVar 4)) tNil)) (tVar 2)) (gName 6)) (tRet (tLst (tCons (tOp (rAdd K) (tOp (rMulI) (tOp (rAdd K) (tOp (rMulI) (tOp (rAdd K) (tOp (rMulI) (tVar 6) (tVar 2)) (tVar 5)) (tVar 2)) (tVar 4)) (tVar 2)) (tVar 3)) tNil)))))))))
def t_law_digit (K : PySem.W.Frag) (cl : Nat → Addr) : TS :=
  (tSeq (tAsg (tOp (rModI) (tCB (rInt1) (tCons (tOp (rIx K) (tVar 0) (tC (.int 0))) tNil)) (tVar 1)) (gName 2)) (tSeq (tAsg (tOp (rDivI) (tOp (rIx K) (tVar 0) (tC (.int 0))) (tVar 1)) (gSub (tVar 0) (tC (.int 0)) rSetL)) (tRet (tVar 2))))
def t_law_due (K : PySem.W.Frag) (cl : Nat → Addr) : TS :=
  (tSeq (tAsg (tC .non) (gName 2)) (tSeq (tFor (iSeq K (tVar 0)) (gTup K 3 (gNames [3, 4, 5])) (tIfS (tTest (tOp (rLeI) (tVar 3) (tVar 1))) (tAsg (tTup (tCons (tVar 4) (tCons (tVar 5) tNil))) (gName 2)) tNext)) (tSeq (tIfS (tAnd (tTest (tOp (rNotN) (tVar 2) (tC .non))) (tTest (tOp (rIsN) (tOp (rIx K) (tVar 2) (tC (.int 0))) (tC .non)))) (tRet (tC .non)) tNext) (tRet (tVar 2)))))
def t_law_rows (K : PySem.W.Frag) (cl : Nat → Addr) : TS :=
  (tSeq (tAsg (tLst tNil) (gName 1)) (tSeq (tAsg (tCall (sp_law_digit K cl) [] E0 (tCons (tVar 0) (tCons (tC (.int 9)) tNil))) (gName 2)) (tSeq (tFor (iRng1 (tCons (tCall (sp_law_digit K cl) [] E0 (tCons (tVar 0) (tCons (tC (.int 5)) tNil))) tNil)) (gName 3) (tSeq (tAsg (tOp (rIx K) (tTup (tCons (tC .non) (tCons (tC (.str "ann")) (tCons (tC (.str "firm")) tNil)))) (tCall (sp_law_digit K cl) [] E0 (tCons (tVar 0) (tCons (tC (.int 3)) tNil)))) (gName 4)) (tSeq (tDrop (tBM K "list" rAppend (tVar 1) (tCons (tTup (tCons (tVar 2) (tCons (tVar 4) (tCons (tOp (rIx K) (tTup (tCons (tC (.str "std")) (tCons (tC (.str "eve")) tNil))) (tCall (sp_law_digit K cl) [] E0 (tCons (tVar 0) (tCons (tC (.int 2)) tNil)))) tNil)))) tNil))) (tAsg (tOp (rAdd K) (tVar 2) (tCall (sp_law_digit K cl) [] E0 (tCons (tVar 0) (tCons (tC (.int 6)) tNil)))) (gName 2))))) (tRet (tVar 1)))))
def t_law_large (K : PySem.W.Frag) (cl : Nat → Addr) : TS :=
  (tRet (tOp (rEqA K) (tCall (sp_law_digit K cl) [] E0 (tCons (tCall (sp_law_state K cl) [] E0 (tCons (tCall (sp_law_cell K cl) [] E0 (tCons (tVar 0) (tCons (tC (.int 0)) tNil))) (tCons (tC (.int 97)) tNil))) (tCons (tC (.int 4)) tNil))) (tC (.int 0))))
def t_Contracts_set_history (K : PySem.W.Frag) (cl : Nat → Addr) (E : XK) : TS :=
  (tSeq (tFor (iRng2 (tCons (tC (.int 1)) (tCons (tCB (rLenA K) (tCons (tVar 2) tNil)) tNil))) (gName 3) (tIfS (tTest (tOp (rLeI) (tOp (rIx K) (tOp (rIx K) (tVar 2) (tVar 3)) (tC (.int 0))) (tOp (rIx K) (tOp (rIx K) (tVar 2) (tOp (rSubI) (tVar 3) (tC (.int 1)))) (tC (.int 0))))) (sRaiseX (cl 1) (sp_BadHistory_init K cl) E (tCons (tVar 1) tNil)) tNext)) (tIfS (tTr K (tVar 2)) (tAsg (tCB (rTupA K) (tCons (tVar 2) tNil)) (gSub (tFld K (tVar 0) "histories") (tVar 1) (rSetA K cl))) (tIfS (tTest (tOp (rInA K cl false) (tVar 1) (tFld K (tVar 0) "histories"))) (sDelA K cl (tFld K (tVar 0) "histories") (tVar 1)) tNext)))
def t_law_set (K : PySem.W.Frag) (cl : Nat → Addr) : TS :=
  (tSeq (sTryX K (.ref (cl 1)) 3 (fun a cls d => (tRet (tTup (tCons (tC (.str "refused")) (tCons (tXf a cls d (cl 1) "line" (tVar 3)) tNil))))) (fun W => (tDrop (tMethS (cl 2) "set_history" (sp_Contracts_set_history K cl) (WE W) (tVar 0) (tCons (tVar 1) (tCons (tVar 2) tNil)))))) (tRet (tTup (tCons (tC (.str "set")) (tCons (tVar 1) tNil)))))
def t_law_long (K : PySem.W.Frag) (cl : Nat → Addr) : TS :=
  (tSeq (tAsg (tCall (sp_law_state K cl) [] E0 (tCons (tCall (sp_law_cell K cl) [] E0 (tCons (tVar 1) (tCons (tC (.int 0)) tNil))) (tCons (tC (.int 98)) tNil))) (gName 2)) (tSeq (tAsg (tLst tNil) (gName 3)) (tSeq (tFor (iRng1 (tCons (tC (.int 200)) tNil)) (gName 4) (tDrop (tBM K "list" rAppend (tVar 3) (tCons (tTup (tCons (tOp (rMulI) (tC (.int 5000000000)) (tVar 4)) (tCons (tOp (rIx K) (tTup (tCons (tC .non) (tCons (tC (.str "ann")) (tCons (tC (.str "firm")) tNil)))) (tOp (rModI) (tCB (rInt1) (tCons (tVar 4) tNil)) (tC (.int 3)))) (tCons (tOp (rIx K) (tTup (tCons (tC (.str "std")) (tCons (tC (.str "eve")) tNil))) (tOp (rModI) (tCB (rInt1) (tCons (tVar 4) tNil)) (tC (.int 2)))) tNil)))) tNil)))) (tSeq (tAsg (tCall (sp_law_digit K cl) [] E0 (tCons (tVar 2) (tCons (tC (.int 199)) tNil))) (gName 5)) (tSeq (tIfS (tTest (tOp (rNeA K) (tCall (sp_law_set K cl) [] E0 (tCons (tVar 0) (tCons (tC (.str "47")) (tCons (tVar 3) tNil)))) (tTup (tCons (tC (.str "set")) (tCons (tC (.str "47")) tNil))))) (tRet (tC (.bl false))) tNext) (tSeq (tAsg (tOp (rAdd K) (tOp (rAdd K) (tSl (rSlA K) (tVar 3) tNoPart (tPart (tVar 5))) (tLst (tCons (tOp (rIx K) (tVar 3) (tOp (rAdd K) (tVar 5) (tC (.int 1)))) (tCons (tOp (rIx K) (tVar 3) (tVar 5)) tNil)))) (tSl (rSlA K) (tVar 3) (tPart (tOp (rAdd K) (tVar 5) (tC (.int 2)))) tNoPart)) (gName 6)) (tSeq (tIfS (tTest (tOp (rNeA K) (tCall (sp_law_set K cl) [] E0 (tCons (tVar 0) (tCons (tC (.str "47")) (tCons (tVar 6) tNil)))) (tTup (tCons (tC (.str "refused")) (tCons (tC (.str "47")) tNil))))) (tRet (tC (.bl false))) tNext) (tSeq (tFor (iRng1 (tCons (tC (.int 20)) tNil)) (gName 4) (tSeq (tAsg (tOp (rAdd K) (tOp (rMulI) (tC (.int 5000000000)) (tCall (sp_law_digit K cl) [] E0 (tCons (tVar 2) (tCons (tC (.int 200)) tNil)))) (tOp (rMulI) (tCall (sp_law_digit K cl) [] E0 (tCons (tVar 2) (tCons (tC (.int 3)) tNil))) (tC (.int 2499999999)))) (gName 7)) (tIfS (tTest (tOp (rNeA K) (tMeth (cl 2) "in_force" (sp_Contracts_in_force K cl) [] E0 (tVar 0) (tCons (tC (.str "47")) (tCons (tVar 7) tNil))) (tCall (sp_law_due K cl) [] E0 (tCons (tVar 3) (tCons (tVar 7) tNil))))) (tRet (tC (.bl false))) tNext))) (tRet (tOp (rEqA K) (tMeth (cl 2) "in_force" (sp_Contracts_in_force K cl) [] E0 (tVar 0) (tCons (tC (.str "47")) (tCons (tC (.int 1000000000000)) tNil))) (tCall (sp_law_due K cl) [] E0 (tCons (tVar 3) (tCons (tC (.int 1000000000000)) tNil)))))))))))))
def t_law (K : PySem.W.Frag) (cl : Nat → Addr) : TS :=
  (tSeq (tAsg (tMake (cl 2) (sp_Contracts_init K cl) [] E0 tNil) (gName 1)) (tSeq (tIfS (tAnd (tTr K (tCall (sp_law_large K cl) [] E0 (tCons (tVar 0) tNil))) (tNot (tTr K (tCall (sp_law_long K cl) [] E0 (tCons (tVar 1) (tCons (tVar 0) tNil)))))) (tRet (tC (.bl false))) tNext) (tSeq (tAsg (tDisp [((tC (.str "41")), (tLst tNil)), ((tC (.str "42")), (tLst tNil)), ((tC (.str "43")), (tLst tNil))]) (gName 2)) (tSeq (tFor (iRng1 (tCons (tC (.int 12)) tNil)) (gName 3) (tSeq (tAsg (tCall (sp_law_state K cl) [] E0 (tCons (tCall (sp_law_cell K cl) [] E0 (tCons (tVar 0) (tCons (tVar 3) tNil))) (tCons (tVar 3) tNil))) (gName 4)) (tSeq (tAsg (tOp (rIx K) (tTup (tCons (tC (.str "41")) (tCons (tC (.str "42")) (tCons (tC (.str "43")) tNil)))) (tCall (sp_law_digit K cl) [] E0 (tCons (tVar 4) (tCons (tC (.int 3)) tNil)))) (gName 5)) (tSeq (tAsg (tCall (sp_law_rows K cl) [] E0 (tCons (tVar 4) tNil)) (gName 6)) (tSeq (tAsg (tC (.bl true)) (gName 7)) (tSeq (tFor (iRng2 (tCons (tC (.int 1)) (tCons (tCB (rLenA K) (tCons (tVar 6) tNil)) tNil))) (gName 8) (tAsg ((tAndV (tVar 7) (tOp (rLtI) (tOp (rIx K) (tOp (rIx K) (tVar 6) (tOp (rSubI) (tVar 8) (tC (.int 1)))) (tC (.int 0))) (tOp (rIx K) (tOp (rIx K) (tVar 6) (tVar 8)) (tC (.int 0)))))) (gName 7))) (tSeq (tAsg (tCB (rListA K) (tCons (tVar 6) tNil)) (gName 9)) (tSeq (tAsg (tCall (sp_law_set K cl) [] E0 (tCons (tVar 1) (tCons (tVar 5) (tCons (tVar 9) tNil)))) (gName 10)) (tSeq (tIfS (tOr (tTest (tOp (rNeA K) (tVar 9) (tVar 6))) (tTest (tOp (rNeA K) (tVar 10) (tTup (tCons (tOp (rIx K) (tTup (tCons (tC (.str "refused")) (tCons (tC (.str "set")) tNil))) (tCB (rInt1) (tCons (tVar 7) tNil))) (tCons (tVar 5) tNil)))))) (tRet (tC (.bl false))) tNext) (tSeq (tDrop (tBM K "list" rAppend (tVar 9) (tCons (tTup (tCons (tC (.int 999)) (tCons (tC (.str "late")) (tCons (tC (.str "std")) tNil)))) tNil))) (tSeq (tIfS (tTr K (tVar 7)) (tAsg (tVar 6) (gSub (tVar 2) (tVar 5) (rSetA K cl))) tNext) (tSeq (tFor (iSeq K (tTup (tCons (tC (.str "41")) (tCons (tC (.str "42")) (tCons (tC (.str "43")) tNil))))) (gName 11) (tFor (iSeq K (tTup (tCons (tC (.int 0)) (tCons (tCall (sp_law_digit K cl) [] E0 (tCons (tVar 4) (tCons (tC (.int 30)) tNil))) (tCons (tOp (rAdd K) (tC (.int 8)) (tCall (sp_law_digit K cl) [] E0 (tCons (tVar 4) (tCons (tC (.int 9)) tNil)))) (tCons (tC (.int 1000)) tNil)))))) (gName 12) (tIfS (tTest (tOp (rNeA K) (tMeth (cl 2) "in_force" (sp_Contracts_in_force K cl) [] E0 (tVar 1) (tCons (tVar 11) (tCons (tVar 12) tNil))) (tCall (sp_law_due K cl) [] E0 (tCons (tOp (rIxA K cl) (tVar 2) (tVar 11)) (tCons (tVar 12) tNil))))) (tRet (tC (.bl false))) tNext))) (tIfS (tTest (tOp (rNotN) (tMeth (cl 2) "in_force" (sp_Contracts_in_force K cl) [] E0 (tVar 1) (tCons (tC (.str "44")) (tCons (tC (.int 5)) tNil))) (tC .non))) (tRet (tC (.bl false))) tNext))))))))))))) (tRet (tC (.bl true)))))))
class Cf (K : PySem.W.Frag) (cl : Nat → Addr) : Prop where
  cl_Contracts : Cls K (cl 2)
  nf_Contracts_histories : NoAttr K (cl 2) "histories"
  xm_BadHistory : PySem.W.exmOne K (.ref (cl 1)) (.ref (cl 1)) = some true
local macro_rules | `(tactic| walk_at "cf") => `(tactic| with_reducible first | exact Cf.cl_Contracts | exact Cf.nf_Contracts_histories)
theorem rd_law_cell {K : PySem.W.Frag} {cl : Nat → Addr} {vs H Q E} (h : sp_law_cell K cl vs H Q E) : t_law_cell K cl ⟨fun _ H' => Q .non H', Q, fun _ _ => False, fun _ _ => False⟩ (start ["script", "k"] vs) H := by
  obtain ⟨ds, d, G, M, ⟨ns, k, rfl, hk, rfl⟩, S, rs, q⟩ := h
  obtain ⟨v0, v1, rfl, r0, r1⟩ := reps2 rs
  obtain rfl := r1.of_int
  unfold t_law_cell
  refine s_seq ?_
  refine s_if S (by walk_at "et") ?_ ?_
  · intro G1 H1 g hc
    obtain ⟨rfl, rfl, -⟩ := g.eq rfl
    have hl : k < (ns.length : Int) := by
      have := of_decide_eq_true hc
      simpa using this
    have hx : atI (List.map D.int ns) k = some (.int (ns.getD k.toNat 0)) := by
      rw [atI_getD (D.int 0) hk (by simpa using hl)]
      simp [List.getD]
    exact s_ret S (ev_op (by walk_at "ev") (by walk_at "ev") (o_ixL hx)) fun v G1 H1 g r => q v G1 H1 g.same g.sep r
  · intro G1 H1 g hc
    obtain ⟨rfl, rfl, -⟩ := g.eq rfl
    have hl : (ns.length : Int) ≤ k := by
      have := of_decide_eq_false hc
      simp at this
      omega
    refine s_next ?_
    refine s_ret (K := K) (cl := cl) S (by walk_at "ev") fun v G1 H1 g r => q v G1 H1 g.same g.sep ?_
    rw [List.getD_eq_getElem?_getD, List.getElem?_eq_none (by omega)]
    exact r
theorem rd_law_state {K : PySem.W.Frag} {cl : Nat → Addr} {vs H Q E} (h : sp_law_state K cl vs H Q E) : t_law_state K cl ⟨fun _ H' => Q .non H', Q, fun _ _ => False, fun _ _ => False⟩ (start ["cell", "k", "prime", "first", "second", "third", "fourth"] vs) H := by
  obtain ⟨G, M, S, c, k, rfl, q⟩ := h
  unfold t_law_state
  refine s_seq ?_
  refine s_if (K := K) (cl := cl) S (by walk_at "et") ?_ ?_
  · intro G1 H1 g hc
    refine s_retG g.sep (eg_lst (K := K) (cl := cl) (F := fun v G' M' => ∃ p s, v = .ref p ∧ M' = (p, .lst [.int s]) :: M) (by walk_at "ea") (Nat.le_of_ble_eq_true rfl) fun u vs G' s r => ⟨u, c, rfl, ?_⟩) ?_
    · obtain ⟨x, rfl, hx⟩ := reps1 r
      rw [hx.of_int]
    · rintro v G' H' M' s' S' ⟨p, z, rfl, rfl⟩
      exact q p z G' (g.same.trans s') (g.same.trans s') H' S'
  · intro G1 H1 g hc
    obtain ⟨rfl, rfl, -⟩ := g.eq rfl
    refine s_next ?_
    refine s_seq ?_
    refine s_asg (K := K) (cl := cl) S (by walk_at "ev") ?_
    intro w1 G1 H1 g1 r1
    obtain ⟨rfl, rfl, -⟩ := g1.eq rfl
    obtain rfl := r1.of_int
    refine s_seq ?_
    refine s_asg (K := K) (cl := cl) S (by walk_at "ev") ?_
    intro w2 G2 H2 g2 r2
    obtain ⟨rfl, rfl, -⟩ := g2.eq rfl
    obtain ⟨z1, rfl, h10, h11⟩ : ∃ z, w2 = .int z ∧ 0 ≤ z ∧ z < 2305843009213693951 := ⟨_, r2.of_int, Int.emod_nonneg _ (by decide), Int.emod_lt_of_pos _ (by decide)⟩
    refine s_seq ?_
    refine s_asg (K := K) (cl := cl) S (by walk_at "ev") ?_
    intro w3 G3 H3 g3 r3
    obtain ⟨rfl, rfl, -⟩ := g3.eq rfl
    obtain ⟨z2, rfl, h20, h21⟩ : ∃ z, w3 = .int z ∧ 0 ≤ z ∧ z < 2305843009213693951 := ⟨_, r3.of_int, Int.emod_nonneg _ (by decide), Int.emod_lt_of_pos _ (by decide)⟩
    refine s_seq ?_
    refine s_asg (K := K) (cl := cl) S (by walk_at "ev") ?_
    intro w4 G4 H4 g4 r4
    obtain ⟨rfl, rfl, -⟩ := g4.eq rfl
    obtain ⟨z3, rfl, h30, h31⟩ : ∃ z, w4 = .int z ∧ 0 ≤ z ∧ z < 2305843009213693951 := ⟨_, r4.of_int, Int.emod_nonneg _ (by decide), Int.emod_lt_of_pos _ (by decide)⟩
    refine s_seq ?_
    refine s_asg (K := K) (cl := cl) S (by walk_at "ev") ?_
    intro w5 G5 H5 g5 r5
    obtain ⟨rfl, rfl, -⟩ := g5.eq rfl
    obtain ⟨z4, rfl, h40, h41⟩ : ∃ z, w5 = .int z ∧ 0 ≤ z ∧ z < 2305843009213693951 := ⟨_, r5.of_int, Int.emod_nonneg _ (by decide), Int.emod_lt_of_pos _ (by decide)⟩
    refine s_retG S (eg_lst (K := K) (cl := cl) (F := fun v G' M' => ∃ p s, v = .ref p ∧ M' = (p, .lst [.int s]) :: M) (by walk_at "ea") (Nat.le_of_ble_eq_true rfl) fun u vs G' s r => ?_) ?_
    · obtain ⟨x, rfl, hx⟩ := reps1 r
      rw [hx.of_int]
      exact ⟨u, _, rfl, rfl⟩
    · rintro v G' H' M' s' S' ⟨p, z, rfl, rfl⟩
      exact q p z G' s' s' H' S'
theorem rd_law_digit {K : PySem.W.Frag} {cl : Nat → Addr} {vs H Q E} (h : sp_law_digit K cl vs H Q E) : t_law_digit K cl ⟨fun _ H' => Q .non H', Q, fun _ _ => False, fun _ _ => False⟩ (start ["state", "many", "digit"] vs) H := by
  obtain ⟨G, M, S, a, s, m, M0, rfl, rfl, h0, h1, q⟩ := h
  unfold t_law_digit
  refine s_seq ?_
  refine s_asg (K := K) (cl := cl) S (by walk_at "ev") ?_
  intro v G1 H1 g r
  obtain ⟨rfl, rfl, -⟩ := g.eq rfl
  obtain rfl := r.of_int
  refine s_seq ?_
  refine s_set (K := K) (cl := cl) (j := 0) S (by walk_at "ev") (by walk_at "ev") (by walk_at "ev") (fun v => Ch.hd) rfl ?_
  intro v G1 H1 s1 S1 r
  obtain rfl := r.of_int
  refine s_ret (K := K) (cl := cl) S1 (by walk_at "ev") fun w G2 H2 g2 r2 => ?_
  obtain ⟨rfl, rfl, -⟩ := g2.eq rfl
  obtain rfl := r2.of_int
  exact q _ s1 s1 _ S1
theorem rd_law_large {K : PySem.W.Frag} {cl : Nat → Addr} {vs H Q E} (h : sp_law_large K cl vs H Q E) : t_law_large K cl ⟨fun _ H' => Q .non H', Q, fun _ _ => False, fun _ _ => False⟩ (start ["script"] vs) H := by
  obtain ⟨G, M, S, v, ns, rfl, r0, q⟩ := h
  unfold t_law_large
  refine eg_state (K := K) (cl := cl) (M1 := M) (c := ns.getD 0 0) (k := 97) (E := E0) (by walk_at "ea") G H (Same.refl _) S _ ?_
  rintro x G1 H1 M1 s1 S1 ⟨p, s, rfl, rfl⟩
  refine ⟨G1, _, S1, p, s, 4, M, rfl, rfl, by decide, by decide, fun G2 s2 _ H2 S2 => ?_⟩
  refine .inl ⟨rfl, ?_⟩
  exact q _ G2 (s1.trans s2) (s1.trans s2) H2 S2.drop
theorem permR {α : Type} (l M : List α) : (l.reverse ++ M).Perm (l ++ M) := (List.reverse_perm l).append_right M
theorem rd_Contracts_init {K : PySem.W.Frag} {cl : Nat → Addr} [Cf K cl] {vs H Q E} (h : sp_Contracts_init K cl vs H Q E) : t_Contracts_init K cl ⟨fun _ H' => Q .non H', Q, fun _ _ => False, fun _ _ => False⟩ (start ["self"] vs) H := by
  obtain ⟨G, M, S, x, dx, M0, rfl, rfl, q⟩ := h
  unfold t_Contracts_init
  refine s_fldGN (K := K) (cl := cl) (a := x) (C := cl 2) (dx := dx) (ns := []) (vs := []) (F := fun v G' M' => ∃ u, v = .ref u ∧ M' = (u, .dK []) :: (x, .ins (cl 2) dx (List.zip [] [])) :: M0) S (eg_newK (fun u => ⟨u, rfl, rfl⟩) fun v G' M' _ h => h) (by walk_at "cf") (by walk_at "cf") rfl (by decide +kernel) (by decide) ?_
  rintro _ G2 H2 _ s2 S2 ⟨u, rfl, rfl⟩
  refine ⟨_, _, _, by walk_at "ev", Ch.tl Ch.hd, fun G3 H3 s3 S3 => ?_⟩
  exact q G3 u (by walk_at "same") (by walk_at "same") _ (S3.perm (List.Perm.swap _ _ _))
theorem lastF_take {rows : List Row3} {i : Nat} {r : Row3} {c : Int} (h : rows[i]? = some r) : lastF (rows.take (i + 1)) c = if r.1 ≤ c then some r.2 else lastF (rows.take i) c := by
  unfold lastF
  rw [List.take_add_one, h, List.foldl_append]
  rfl
def optR : Option (Option Str × Str) → D
  | none => .non
  | some x => .tup [optS x.1, .str x.2]
theorem rd_Contracts_in_force {K : PySem.W.Frag} {cl : Nat → Addr} [Cf K cl] {vs H Q E} (h : sp_Contracts_in_force K cl vs H Q E) : t_Contracts_in_force K cl ⟨fun _ H' => Q .non H', Q, fun _ _ => False, fun _ _ => False⟩ (start ["self", "line", "clock", "found", "since", "account", "name"] vs) H := by
  obtain ⟨G, M, S, x, dx, hh, kws, h, M0, line, clock, rfl, rfl, rk, q⟩ := h
  unfold t_Contracts_in_force
  refine s_seq ?_
  refine s_asg (K := K) (cl := cl) S (by walk_at "ev") ?_
  intro w1 G1 H1 g1 q1
  obtain ⟨rfl, rfl, -⟩ := g1.eq rfl
  obtain rfl := q1.of_non
  refine s_seq ?_
  have hv : (valG (histK h) (.inr line)).getD (.tup []) = .tup (((valG h line).getD []).map rowD) := by
    rw [histK_val]
    cases valG h line <;> rfl
  generalize hR : (valG h line).getD [] = rows at hv
  have hin : inF h line clock = (match lastF rows clock with | some (some a, n) => some (a, n) | _ => none) := by rw [← hR]; rfl
  rw [hin] at q
  clear hin hR
  apply s_forT (K := K) (cl := cl) (p := false) (ds := rows.map rowD) (fun i σ G' M' => M' = ConM cl x dx hh kws M0 ∧ ∃ w y4 y5 y6, σ = [some (.ref x), some (.str line), some (.int clock), some w, y4, y5, y6] ∧ Rep K cl G' w (optR (lastF (rows.take i) clock))) S
  · (with_reducible apply EvX.is)
    · exact ev_kget2 (k := .inr line) (p := true) (q := true) (r := false) (kes := histK h) (by walk_at "ev") (by walk_at "ev") (ev_tup ea_nil (Nat.zero_le _)) rfl (.tl .hd) (.tl .hd) rk
    · exact hv
  · intro G2 H2 g2
    exact ⟨rfl, _, _, _, _, rfl, Rep.non⟩
  · rintro G2 s2 i x d σ' G3 H3 M3 hd s3 S3 r3 ⟨rfl, w, y4, y5, y6, rfl, rw'⟩
    rw [List.getElem?_map] at hd
    cases hx : rows[i]? with
    | none => rw [hx] at hd; cases hd
    | some y =>
    rw [hx] at hd
    cases hd
    refine g_tup S3 r3 rfl rfl fun xs rxs => ?_
    obtain ⟨x1, x2, x3, rfl, q1, q2, q3⟩ := reps3 rxs
    obtain rfl := q1.of_int
    refine s_if (K := K) (cl := cl) S3 (by walk_at "et") ?_ ?_
    · intro G4 H4 g4 hc
      obtain ⟨rfl, rfl, -⟩ := g4.eq rfl
      refine s_asg (K := K) (cl := cl) S3 (by walk_at "ev") ?_
      intro w5 G5 H5 g5 q5
      refine ⟨_, _, s3.trans g5.same, g5.sep, rfl, _, _, _, _, rfl, ?_⟩
      rw [lastF_take hx, if_pos (of_decide_eq_true hc)]
      exact q5
    · intro G4 H4 g4 hc
      obtain ⟨rfl, rfl, -⟩ := g4.eq rfl
      refine s_next ⟨_, _, s3, S3, rfl, _, _, _, _, rfl, ?_⟩
      rw [lastF_take hx, if_neg (of_decide_eq_false hc)]
      exact rw'
  rintro σ' G3 H3 M3 s3 S3 ⟨rfl, w, y4, y5, y6, rfl, rw'⟩
  rw [List.length_map, List.take_length] at rw'
  refine s_seq ?_
  cases hl : lastF rows clock with
  | none =>
    rw [hl] at rw' q
    refine s_if (K := K) (cl := cl) (b := true) (M1 := ConM cl x dx hh kws M0) S3 (et_or (p := true) (q := true) (a := true) (b := true) (et_test (by
      (with_reducible apply EvX.is)
      · exact ev_op (p := true) (q := true) (r := true) (ev_var (i := 3) rfl rw') ev_non o_isN
      · rfl)) (fun h => nomatch h)) ?_ ?_
    · intro G4 H4 g4 _
      refine s_ret (K := K) (cl := cl) g4.sep (by walk_at "ev") fun v G5 H5 g5 q5 => ?_
      exact q G5 v ((s3.trans g4.same).trans g5.same) q5 ((s3.trans g4.same).trans g5.same) _ g5.sep
    · intro G4 H4 g4 hc
      cases hc
  | some x =>
    obtain ⟨o, n⟩ := x
    rw [hl] at rw' q
    refine s_if (K := K) (cl := cl) (b := false || o.isNone) (M1 := ConM cl x dx hh kws M0) S3 (et_or (p := true) (q := true) (a := false) (b := o.isNone) (et_test (by
      (with_reducible apply EvX.is)
      · exact ev_op (p := true) (q := true) (r := true) (ev_var (i := 3) rfl rw') ev_non o_isN
      · rfl)) (fun _ => et_test (by
      (with_reducible apply EvX.is)
      · exact ev_op (p := true) (q := true) (r := true) (ev_op (p := true) (q := true) (r := true) (d3 := optS o) (ev_var (i := 3) rfl rw') (ev_int (i := 0)) (o_ixT (i := 0) rfl)) ev_non o_isN
      · rw [optS_isNon]))) ?_ ?_
    · intro G4 H4 g4 hc
      have ho : o = none := by
        cases o with
        | none => rfl
        | some a => cases hc
      subst ho
      refine s_ret (K := K) (cl := cl) g4.sep (by walk_at "ev") fun v G5 H5 g5 q5 => ?_
      exact q G5 v ((s3.trans g4.same).trans g5.same) q5 ((s3.trans g4.same).trans g5.same) _ g5.sep
    · intro G4 H4 g4 hc
      obtain ⟨a, rfl⟩ : ∃ a, o = some a := by
        cases o with
        | none => cases hc
        | some a => exact ⟨a, rfl⟩
      refine s_next ?_
      refine s_ret (K := K) (cl := cl) g4.sep (ev_var rfl (rw'.mono g4.same)) fun v G5 H5 g5 q5 => ?_
      exact q G5 v ((s3.trans g4.same).trans g5.same) q5 ((s3.trans g4.same).trans g5.same) _ g5.sep
theorem asc_iff {rows : List Row3} : Asc rows ↔ ∀ i : Nat, ∀ h : i + 1 < rows.length, (rows[i]).1 < (rows[i + 1]).1 := by
  constructor
  · intro h i hi
    exact h i _ _ (List.getElem?_eq_getElem (by omega)) (List.getElem?_eq_getElem hi)
  · intro h i r r' h1 h2
    obtain ⟨hi, e2⟩ := List.getElem?_eq_some_iff.mp h2
    obtain ⟨hj, e1⟩ := List.getElem?_eq_some_iff.mp h1
    rw [← e1, ← e2]
    exact h i hi
theorem rd_Contracts_set_history {K : PySem.W.Frag} {cl : Nat → Addr} [Cf K cl] {vs H Q E} (h : sp_Contracts_set_history K cl vs H Q E) : t_Contracts_set_history K cl E ⟨fun _ H' => Q .non H', Q, fun _ _ => False, fun _ _ => False⟩ (start ["self", "line", "rows", "place"] vs) H := by
  obtain ⟨G, M, S, x, dx, h, kws, hist, M0, line, vr, rows, rfl, rfl, hline, rk, rr, hl, hh, q, qx⟩ := h
  unfold t_Contracts_set_history
  refine s_seq ?_
  apply s_forR2 (K := K) (cl := cl) (lo := 1) (n := (rows.length : Int)) (fun i σ G' M' => ∃ y3, σ = [some (.ref x), some (.str line), some vr, y3] ∧ M' = ConM cl x dx h kws M0 ∧ ∀ j : Nat, j < i → ∀ hj : j + 1 < rows.length, (rows[j]).1 < (rows[j + 1]).1) S
  · (with_reducible apply EvA.is)
    · exact ea_cons (p := true) ev_int (ea_cons (p := true) (lv_len (i := 2) rfl rr) ea_nil)
    · rw [List.length_map]
  · omega
  · intro G1 H1 g1
    exact ⟨_, rfl, rfl, fun j hj => absurd hj (Nat.not_lt_zero _)⟩
  · rintro G1 s1 i σ' G2 H2 M2 hi s2 S2 ⟨y3, rfl, rfl, hasc⟩
    have hi1 : i < rows.length := by omega
    have hi2 : i + 1 < rows.length := by omega
    have e1 : atI (List.map rowD rows) (1 + (i : Int)) = some (rowD rows[i + 1]) := by
      have : (1 + (i : Int)) = ((i + 1 : Nat) : Int) := by omega
      rw [this]
      exact atI_nat (by simp [hi2])
    have e2 : atI (List.map rowD rows) (1 + (i : Int) - 1) = some (rowD rows[i]) := by
      have : (1 + (i : Int) - 1) = (i : Int) := by omega
      rw [this]
      exact atI_nat (by simp [hi1])
    have r2 := (rr.mono s1).mono s2
    refine s_gname ?_
    refine s_if (K := K) (cl := cl) (b := decide (rows[i + 1].1 ≤ rows[i].1)) S2 (et_test (ev_op (p := true) (q := true) (r := true) (ev_op (p := true) (q := true) (r := true) (lv_ix (i := 2) rfl r2 (ev_var (i := 3) rfl Rep.int) e1) ev_int (o_ixT (i := 0) (d := .int rows[i + 1].1) rfl)) (ev_op (p := true) (q := true) (r := true) (lv_ix (i := 2) rfl r2 (ev_op (p := true) (q := true) (r := true) (ev_var (i := 3) rfl Rep.int) ev_int o_sub) e2) ev_int (o_ixT (i := 0) (d := .int rows[i].1) rfl)) o_le)) ?_ ?_
    · intro G3 H3 g3 hc
      have hc := of_decide_eq_true hc
      refine s_raise1 (K := K) (cl := cl) (line := line) g3.sep (ea_cons (p := true) (ev_var (i := 1) rfl Rep.str) ea_nil) hline ?_
      intro G4 H4 d s4 S4
      have sA := (s1.trans s2).trans (g3.same.trans s4)
      refine qx (fun ha => ?_) G4 d sA sA _ S4
      have := asc_iff.mp ha i hi2
      omega
    · intro G3 H3 g3 hc
      have hc := of_decide_eq_false hc
      refine s_next ⟨_, _, s2.trans g3.same, g3.sep, _, rfl, rfl, fun j hj hj2 => ?_⟩
      by_cases e : j = i
      · subst e
        omega
      · exact hasc j (by omega) hj2
  rintro σ' G2 H2 M2 s2 S2 ⟨y3, rfl, rfl, hasc⟩
  have hA : Asc rows := asc_iff.mpr fun i hi => hasc i (by omega) hi
  have q := q hA
  have r2 := rr.mono s2
  have rk2 := rk.mono s2
  refine s_if (K := K) (cl := cl) (b := !(List.map rowD rows).isEmpty) S2 (lv_tr (i := 2) rfl r2) ?_ ?_
  · intro G3 H3 g3 hc
    have hne : rows.isEmpty = false := by simpa using hc
    refine s_kput (K := K) (cl := cl) (k := .inr line) (kes := histK hist) (d := .tup (List.map rowD rows)) g3.sep (lv_tup (i := 2) rfl (r2.mono g3.same)) (by walk_at "ev") (by walk_at "ev") rfl (rk2.mono g3.same) (by unfold histK; rw [List.length_map]; omega) (fun v => .tl .hd) ?_
    intro v G4 H4 s4 S4 r4
    rw [histK_put] at r4
    refine q G4 _ ((s2.trans g3.same).trans s4) ?_ ((s2.trans g3.same).trans s4) _ S4
    unfold setF
    rw [hne]
    exact r4
  · intro G3 H3 g3 hc
    have hne : rows.isEmpty = true := by simpa using hc
    have rk3 := rk2.mono g3.same
    refine s_if (K := K) (cl := cl) (b := (false != (valG (histK hist) (.inr line)).isSome)) g3.sep (et_test (ev_kin (k := .inr line) (by walk_at "ev") (by walk_at "ev") rfl (.tl .hd) rk3)) ?_ ?_
    · intro G4 H4 g4 hb
      have hsome : (valG (histK hist) (.inr line)).isSome = true := by
        revert hb
        cases (valG (histK hist) (.inr line)).isSome <;> intro hb <;> first | rfl | cases hb
      refine s_kdel (K := K) (cl := cl) (k := .inr line) (kes := histK hist) g4.sep (by walk_at "ev") (by walk_at "ev") rfl (rk3.mono g4.same) hsome (.tl .hd) ?_
      intro G5 H5 s5 S5 r5
      rw [histK_drop] at r5
      refine q G5 _ (((s2.trans g3.same).trans g4.same).trans s5) ?_ (((s2.trans g3.same).trans g4.same).trans s5) _ S5
      unfold setF
      rw [hne]
      exact r5
    · intro G4 H4 g4 hb
      have hnone : valG (histK hist) (.inr line) = none := by
        revert hb
        cases valG (histK hist) (.inr line) with
        | none => intro _; rfl
        | some x => intro hb; cases hb
      refine s_next ?_
      refine q G4 kws ((s2.trans g3.same).trans g4.same) ?_ ((s2.trans g3.same).trans g4.same) _ g4.sep
      have : histK (setF hist line rows) = histK hist := by
        unfold setF
        rw [hne]
        show histK (dropG hist line) = _
        rw [← histK_drop, dropG_none hnone]
      rw [this]
      exact rk3.mono g4.same
theorem rd_law_set {K : PySem.W.Frag} {cl : Nat → Addr} [Cf K cl] {vs H Q E} (h : sp_law_set K cl vs H Q E) : t_law_set K cl ⟨fun _ H' => Q .non H', Q, fun _ _ => False, fun _ _ => False⟩ (start ["contracts", "line", "rows", "e"] vs) H := by
  obtain ⟨G, M, S, x, dx, h, kws, hist, M0, line, vr, rows, rfl, rfl, hline, rk, rr, hl, hh, q, qx⟩ := h
  unfold t_law_set
  refine s_seq ?_
  unfold sTryX
  have rr' : ∃ D, Rep K cl G vr D ∧ ∀ G' u, Same G G' → Rep K cl G' u D → LV K cl G' (ConM cl x dx h kws M0) u (List.map rowD rows) := by
    rcases rr with r | ⟨g, vs, rfl, hm, rs⟩
    · exact ⟨_, r, fun G' u s ru => .inl ru⟩
    · exact ⟨_, Rep.loc, fun G' u s ru => .inr ⟨g, vs, ru.of_loc, hm, rs.mono s⟩⟩
  obtain ⟨dr, rdr, hdr⟩ := rr'
  refine s_dropMX (K := K) (cl := cl) (ds := [.str line, dr]) (dx := dx) S (ev_var (i := 0) rfl Rep.loc) .hd rfl (ea_cons (p := true) (ev_var (i := 1) rfl Rep.str) (ea_cons (p := true) (ev_var (i := 2) rfl rdr) ea_nil)) (List.Perm.refl _) ?_
  intro vs G1 s1 rvs
  obtain ⟨u1, u2, rfl, h1, h2⟩ := reps2 rvs
  obtain rfl := h1.of_str
  refine ⟨x, dx, h, kws, hist, M0, line, u2, rows, rfl, rfl, hline, rk.mono s1, hdr G1 u2 s1 h2, hl, hh, fun ha G2 kws' s2 rk2 _ H2 S2 => ?_, fun ha G2 d s2 _ H2 S2 => ?_⟩
  · refine s_ret (K := K) (cl := cl) (d := .tup [.str "set", .str line]) S2 (ev_tup (p := true) (ea_cons (p := true) ev_str (ea_cons (p := true) (ev_var (i := 1) rfl Rep.str) ea_nil)) (Nat.le_of_ble_eq_true rfl)) fun v G3 H3 g3 r3 => ?_
    have sA := s1.trans (s2.trans g3.same)
    exact q ha G3 v kws' sA (rk2.mono g3.same) r3 sA _ g3.sep
  · refine x_caught (K := K) Cf.xm_BadHistory fun a na => ?_
    refine s_ret (K := K) (cl := cl) (d := .tup [.str "refused", .str line]) S2 (ev_tup (p := true) (ea_cons (p := true) ev_str (ea_cons (p := true) (ev_xf (K := K) (cl := cl) (i := 3) (fs := [("line", .str line)]) (v := .str line) rfl .hd rfl Rep.str) ea_nil)) (Nat.le_of_ble_eq_true rfl)) fun v G3 H3 g3 r3 => ?_
    have sA := s1.trans (s2.trans g3.same)
    exact qx ha G3 v sA r3 sA _ g3.sep.drop
theorem pickD {P : D → Prop} {ds : List D} {n : Nat} (h : ∀ d ∈ ds, P d) (hn : n < ds.length) : P (ds.getD n .non) := by
  have e : ds.getD n .non = ds[n] := by simp [List.getD, hn]
  rw [e]
  exact h _ (List.getElem_mem hn)
theorem rd_law_rows {K : PySem.W.Frag} {cl : Nat → Addr} [Cf K cl] {vs H Q E} (h : sp_law_rows K cl vs H Q E) : t_law_rows K cl ⟨fun _ H' => Q .non H', Q, fun _ _ => False, fun _ _ => False⟩ (start ["state", "rows", "clock", "k", "account"] vs) H := by
  obtain ⟨G, M, S, a, s, M0, rfl, rfl, q⟩ := h
  unfold t_law_rows
  refine s_seq ?_
  refine s_asgG S eg_nil ?_
  rintro _ G1 H1 _ s1 S1 ⟨p, rfl, rfl⟩
  refine s_seq ?_
  refine s_asg (K := K) (cl := cl) S1 (by walk_at "ev") ?_
  intro w2 G2 H2 g2 q2
  obtain rfl := q2.of_int
  have s2 := g2.same
  have S2 := g2.sep
  clear g2
  have hm := Int.emod_lt_of_pos (s / 9) (b := 5) (by decide)
  have hm0 := Int.emod_nonneg (s / 9) (b := 5) (by decide)
  refine s_seq ?_
  apply s_forR1 (K := K) (cl := cl) (fun i σ G' M' => ∃ z us rows c y3 y4, σ = [some (.ref a), some (.ref p), some (.int c), y3, y4] ∧ M' = (p, .lst us) :: (a, .lst [.int z]) :: M0 ∧ Reps K cl G' us (List.map rowD rows) ∧ rows.length = i ∧ (∀ r ∈ rows, RowOk r)) S2
  · walk_at "ea"
  · omega
  · intro G3 H3 g3
    exact ⟨_, [], [], _, _, _, rfl, rfl, Reps.nil, rfl, fun r hr => nomatch hr⟩
  · rintro G3 s3 i σ' G4 H4 M4 hi s4 S4 ⟨z, us, rows, c, y3, y4, rfl, rfl, ru, hrl, hok⟩
    have hul : us.length ≤ 10 := by rw [ru.length, List.length_map]; omega
    refine s_gname ?_
    refine s_seq ?_
    obtain ⟨o, ho, hok2⟩ : ∃ o, [D.non, D.str "ann", D.str "firm"].getD (z % 3).toNat .non = optS o ∧ okA o := by
      refine pickD (P := fun d => ∃ o, d = optS o ∧ okA o) (fun d hd => ?_) (by show _ < 3; omega)
      simp only [List.mem_cons, List.not_mem_nil, or_false] at hd
      rcases hd with rfl | rfl | rfl
      · exact ⟨none, rfl, .inl rfl⟩
      · exact ⟨some "ann", rfl, .inr (.inl rfl)⟩
      · exact ⟨some "firm", rfl, .inr (.inr rfl)⟩
    refine s_asg (K := K) (cl := cl) (d := optS o) S4 (EvX.is (by walk_at "ev") ho) ?_
    intro w4 G5 H5 g5 q4
    have s5 := g5.same
    have S5 := g5.sep
    clear g5
    generalize z / 3 = z1 at S5
    refine s_seq ?_
    obtain ⟨n, hn, hn2⟩ : ∃ n, [D.str "std", D.str "eve"].getD (z1 % 2).toNat .non = .str n ∧ (n = "std" ∨ n = "eve") := by
      refine pickD (P := fun d => ∃ n, d = .str n ∧ (n = "std" ∨ n = "eve")) (fun d hd => ?_) (by show _ < 2; omega)
      simp only [List.mem_cons, List.not_mem_nil, or_false] at hd
      rcases hd with rfl | rfl
      · exact ⟨_, rfl, .inl rfl⟩
      · exact ⟨_, rfl, .inr rfl⟩
    refine s_app (K := K) (cl := cl) (d := rowD (c, o, n)) S5 (by walk_at "ev") (by walk_at "at") (ev_tup (ea_cons (by walk_at "ev") (ea_cons (ev_var (i := 4) rfl q4) (ea_cons (EvX.is (by walk_at "ev") hn) ea_nil))) (Nat.le_of_ble_eq_true rfl)) (fun v => .hd) (by omega) ?_
    intro v G6 H6 s6 S6 r6
    generalize z1 / 2 = z2 at S6
    refine s_asg (K := K) (cl := cl) S6 (by walk_at "ev") ?_
    intro w7 G7 H7 g7 q7
    obtain rfl := q7.of_int
    refine ⟨G7, _, s4.trans (s5.trans (s6.trans g7.same)), g7.sep, _, us ++ [v], rows ++ [(c, o, n)], _, _, _, rfl, rfl, ?_, ?_, ?_⟩
    · rw [List.map_append]
      exact ((ru.mono (s5.trans s6)).append (Reps.one r6)).mono g7.same
    · rw [List.length_append, hrl]
      rfl
    · intro r hr
      rcases List.mem_append.mp hr with h | h
      · exact hok r h
      · rw [List.mem_singleton] at h
        subst h
        exact ⟨hok2, hn2⟩
  rintro σ' G4 H4 M4 s4 S4 ⟨z, us, rows, c, y3, y4, rfl, rfl, ru, hrl, hok⟩
  refine s_retF S4 rfl ru fun G5 s5 S5 r5 => ?_
  have sA := s1.trans (s2.trans (s4.trans s5))
  exact q G5 _ rows z sA (by omega) hok r5 sA _ S5
theorem rd_law_due {K : PySem.W.Frag} {cl : Nat → Addr} [Cf K cl] {vs H Q E} (h : sp_law_due K cl vs H Q E) : t_law_due K cl ⟨fun _ H' => Q .non H', Q, fun _ _ => False, fun _ _ => False⟩ (start ["rows", "clock", "found", "since", "account", "name"] vs) H := by
  obtain ⟨ds, d, G, M, ⟨rows, clock, rfl, rfl⟩, S, rs, q⟩ := h
  obtain ⟨v0, _, rfl, r0, r1⟩ := reps2 rs
  clear rs
  obtain rfl := r1.of_int
  unfold t_law_due
  refine s_seq ?_
  refine s_asg (K := K) (cl := cl) S (by walk_at "ev") ?_
  intro w1 G1 H1 g1 q1
  obtain ⟨rfl, rfl, -⟩ := g1.eq rfl
  obtain rfl := q1.of_non
  refine s_seq ?_
  have hin : dueF rows clock = (match lastF rows clock with | some (some a, n) => some (a, n) | _ => none) := rfl
  rw [hin] at q
  clear hin
  apply s_forL (K := K) (cl := cl) (ds := rows.map rowD) (fun i σ G' M' => M' = M ∧ ∃ w y4 y5 y6, σ = [some v0, some (.int clock), some w, y4, y5, y6] ∧ Rep K cl G' w (optR (lastF (rows.take i) clock))) S
  · exact ev_var (i := 0) rfl r0
  · intro G2 H2 g2
    exact ⟨rfl, _, _, _, _, rfl, Rep.non⟩
  · rintro G2 s2 i x d σ' G3 H3 M3 hd s3 S3 r3 ⟨rfl, w, y4, y5, y6, rfl, rw'⟩
    rw [List.getElem?_map] at hd
    cases hx : rows[i]? with
    | none => rw [hx] at hd; cases hd
    | some y =>
    rw [hx] at hd
    cases hd
    refine g_tup S3 r3 rfl rfl fun xs rxs => ?_
    obtain ⟨x1, x2, x3, rfl, q1, q2, q3⟩ := reps3 rxs
    obtain rfl := q1.of_int
    refine s_if (K := K) (cl := cl) S3 (by walk_at "et") ?_ ?_
    · intro G4 H4 g4 hc
      obtain ⟨rfl, rfl, -⟩ := g4.eq rfl
      refine s_asg (K := K) (cl := cl) S3 (by walk_at "ev") ?_
      intro w5 G5 H5 g5 q5
      refine ⟨_, _, s3.trans g5.same, g5.sep, rfl, _, _, _, _, rfl, ?_⟩
      rw [lastF_take hx, if_pos (of_decide_eq_true hc)]
      exact q5
    · intro G4 H4 g4 hc
      obtain ⟨rfl, rfl, -⟩ := g4.eq rfl
      refine s_next ⟨_, _, s3, S3, rfl, _, _, _, _, rfl, ?_⟩
      rw [lastF_take hx, if_neg (of_decide_eq_false hc)]
      exact rw'
  rintro σ' G3 H3 M3 s3 S3 ⟨rfl, w, y4, y5, y6, rfl, rw'⟩
  rw [List.length_map, List.take_length] at rw'
  refine s_seq ?_
  cases hl : lastF rows clock with
  | none =>
    rw [hl] at rw' q
    refine s_if (K := K) (cl := cl) (b := false) (M1 := M3) S3 (et_and (p := true) (q := true) (a := false) (b := false) (et_test (by
      (with_reducible apply EvX.is)
      · exact ev_op (p := true) (q := true) (r := true) (ev_var (i := 2) rfl rw') ev_non o_notN
      · rfl)) (fun h => nomatch h)) ?_ ?_
    · intro G4 H4 g4 hc
      cases hc
    · intro G4 H4 g4 _
      refine s_next ?_
      refine s_ret (K := K) (cl := cl) g4.sep (ev_var (i := 2) rfl (rw'.mono g4.same)) fun v G5 H5 g5 q5 => ?_
      exact q v G5 H5 ((s3.trans g4.same).trans g5.same) g5.sep q5
  | some x =>
    obtain ⟨o, n⟩ := x
    rw [hl] at rw' q
    refine s_if (K := K) (cl := cl) (b := true && o.isNone) (M1 := M3) S3 (et_and (p := true) (q := true) (a := true) (b := o.isNone) (et_test (by
      (with_reducible apply EvX.is)
      · exact ev_op (p := true) (q := true) (r := true) (ev_var (i := 2) rfl rw') ev_non o_notN
      · rfl)) (fun _ => et_test (by
      (with_reducible apply EvX.is)
      · exact ev_op (p := true) (q := true) (r := true) (ev_op (p := true) (q := true) (r := true) (d3 := optS o) (ev_var (i := 2) rfl rw') (ev_int (i := 0)) (o_ixT (i := 0) rfl)) ev_non o_isN
      · rw [optS_isNon]))) ?_ ?_
    · intro G4 H4 g4 hc
      have ho : o = none := by
        cases o with
        | none => rfl
        | some a => cases hc
      subst ho
      refine s_ret (K := K) (cl := cl) g4.sep (by walk_at "ev") fun v G5 H5 g5 q5 => ?_
      exact q v G5 H5 ((s3.trans g4.same).trans g5.same) g5.sep q5
    · intro G4 H4 g4 hc
      obtain ⟨a, rfl⟩ : ∃ a, o = some a := by
        cases o with
        | none => cases hc
        | some a => exact ⟨a, rfl⟩
      refine s_next ?_
      refine s_ret (K := K) (cl := cl) g4.sep (ev_var (i := 2) rfl (rw'.mono g4.same)) fun v G5 H5 g5 q5 => ?_
      exact q v G5 H5 ((s3.trans g4.same).trans g5.same) g5.sep q5
section
variable {K : PySem.W.Frag} {cl : Nat → Addr} [Cf K cl] {p q : Bool} {M M1 M2 : ML} {G : Hp} {σ : St} {ta te : TE} {tx : TA} {d : D}
theorem ev_permR (h : EvX K cl p te σ G M d M1) (pm : M1.Perm M2) : EvX K cl false te σ G M d M2 := fun G1 H1 s S Q k => h G1 H1 s S Q fun v G2 H2 g rv => k v G2 H2 (Go.of g.same (g.sep.perm pm)) rv
theorem ev_inforce {x dx h : Addr} {kws : List (Key × V)} {hist : Hist} {M0 : ML} {line : Str} {clock : Int} (pm : M.Perm (ConM cl x dx h kws M0)) (hx : At M x (.ins (cl 2) dx (List.zip ["histories"] [.ref h]))) (he : EvX K cl p ta σ G M (.loc x) M) (ha : EvA K cl q tx σ G M [.str line, .int clock] M) (rk : KRep K cl G kws (histK hist)) :
    EvX K cl false (tMeth (cl 2) "in_force" (sp_Contracts_in_force K cl) [] E0 ta tx) σ G M (optC (inF hist line clock)) M := by
  refine ev_permR (M1 := ConM cl x dx h kws M0) (ev_methP (K := K) (cl := cl) (M3 := ConM cl x dx h kws M0) (M4 := ConM cl x dx h kws M0) he hx rfl ha pm pm ?_) pm.symm
  intro vs G' T s rvs hT
  obtain ⟨u1, u2, rfl, h1, h2⟩ := reps2 rvs
  obtain rfl := h1.of_str
  obtain rfl := h2.of_int
  exact ⟨x, dx, h, kws, hist, M0, line, clock, rfl, rfl, rk.mono s, fun G2 v s2 rv => hT v G2 s2 rv⟩
/-- what _law_set tells -/
def SetR (K : PySem.W.Frag) (cl : Nat → Addr) (x dx h : Addr) (kws : List (Key × V)) (hist : Hist) (M0 : ML) (line : Str) (rows : List Row3) : V → Hp → ML → Prop := fun v G' M' =>
  (Asc rows ∧ ∃ kws', M' = ConM cl x dx h kws' M0 ∧ KRep K cl G' kws' (histK (setF hist line rows)) ∧ Rep K cl G' v (.tup [.str "set", .str line])) ∨ (¬ Asc rows ∧ M' = ConM cl x dx h kws M0 ∧ Rep K cl G' v (.tup [.str "refused", .str line]))
theorem eg_set {x dx h : Addr} {kws : List (Key × V)} {hist : Hist} {M0 : ML} {line : Str} {rows : List Row3} {dr : D} (pm : M.Perm (ConM cl x dx h kws M0)) (ha : EvA K cl p tx σ G M [.loc x, .str line, dr] M) (hdr : ∀ G' u, Same G G' → Rep K cl G' u dr → LV K cl G' (ConM cl x dx h kws M0) u (List.map rowD rows))
    (hline : line.length ≤ 1000) (rk : KRep K cl G kws (histK hist)) (hl : rows.length ≤ 1000) (hh : hist.length ≤ 1000) : EvG (tCall (sp_law_set K cl) [] E0 tx) σ G M (SetR K cl x dx h kws hist M0 line rows) := by
  refine eg_callP (K := K) (cl := cl) (M2 := ConM cl x dx h kws M0) ha pm ?_
  intro vs G' T s rvs hT
  obtain ⟨u0, u1, u2, rfl, h0, h1, h2⟩ := reps3 rvs
  obtain rfl := h0.of_loc
  obtain rfl := h1.of_str
  exact ⟨x, dx, h, kws, hist, M0, line, u2, rows, rfl, rfl, hline, rk.mono s, hdr G' u2 s h2, hl, hh, fun ha G2 v kws' s2 rk2 rv => hT v G2 _ s2 (.inl ⟨ha, kws', rfl, rk2, rv⟩), fun ha G2 v s2 rv => hT v G2 _ s2 (.inr ⟨ha, rfl, rv⟩)⟩
end
theorem last_in {rows : List Row3} {clock : Int} {y : Option Str × Str} (h : lastF rows clock = some y) : ∃ r ∈ rows, r.2 = y := by
  have gen : ∀ (l : List Row3) (f : Option (Option Str × Str)), l.foldl (fun f r => if r.1 ≤ clock then some r.2 else f) f = some y → f = some y ∨ ∃ r ∈ l, r.2 = y := by
    intro l
    induction l with
    | nil => intro f h; exact .inl h
    | cons r l ih =>
      intro f h
      rw [List.foldl_cons] at h
      rcases ih _ h with h | ⟨z, hz, e⟩
      · split at h
        · exact .inr ⟨r, List.mem_cons_self .., Option.some.inj h⟩
        · exact .inl h
      · exact .inr ⟨z, List.mem_cons_of_mem _ hz, e⟩
  rcases gen rows none h with h | h
  · cases h
  · exact h
theorem due_dat {rows : List Row3} (h : ∀ r ∈ rows, RowOk r) {clock : Int} : (optC (dueF rows clock)).isDat = true ∧ (optC (dueF rows clock)).dep ≤ 64 := by
  unfold dueF
  split
  · next a n e =>
    obtain ⟨r, hr, e2⟩ := last_in e
    have hk := h r hr
    unfold RowOk at hk
    rw [e2] at hk
    refine ⟨?_, by show (1 : Nat) ≤ 64; decide⟩
    obtain ⟨ha, hn⟩ := hk
    have h1 : a = "ann" ∨ a = "firm" := by
      rcases ha with h | h | h
      · cases h
      · exact .inl (Option.some.inj h)
      · exact .inr (Option.some.inj h)
    have h2 : n = "std" ∨ n = "eve" := hn
    rcases h1 with rfl | rfl <;> rcases h2 with rfl | rfl <;> decide +kernel
  · exact ⟨rfl, by show (0 : Nat) ≤ 64; decide⟩
def accK (k : Nat) : Option Str := if k % 3 = 0 then none else if k % 3 = 1 then some "ann" else some "firm"
def namK (k : Nat) : Str := if k % 2 = 0 then "std" else "eve"
def rowK (k : Nat) : Row3 := (5000000000 * (k : Int), accK k, namK k)
def longR : List Row3 := (List.range 200).map rowK
theorem pick3 {k : Nat} : [D.non, D.str "ann", D.str "firm"].getD ((k : Int) % 3).toNat .non = optS (accK k) := by
  have e : ((k : Int) % 3).toNat = k % 3 := by omega
  rw [e]
  unfold accK
  have : k % 3 = 0 ∨ k % 3 = 1 ∨ k % 3 = 2 := by omega
  rcases this with h | h | h <;> rw [h] <;> rfl
theorem pick2 {k : Nat} : [D.str "std", D.str "eve"].getD ((k : Int) % 2).toNat .non = .str (namK k) := by
  have e : ((k : Int) % 2).toNat = k % 2 := by omega
  rw [e]
  unfold namK
  have : k % 2 = 0 ∨ k % 2 = 1 := by omega
  rcases this with h | h <;> rw [h] <;> rfl
theorem rowK_ok {k : Nat} : RowOk (rowK k) := by
  unfold RowOk rowK
  refine ⟨?_, ?_⟩
  · show okA (accK k)
    unfold accK okA
    by_cases h : k % 3 = 0
    · rw [if_pos h]; exact .inl rfl
    · rw [if_neg h]
      by_cases h2 : k % 3 = 1
      · rw [if_pos h2]; exact .inr (.inl rfl)
      · rw [if_neg h2]; exact .inr (.inr rfl)
  · show namK k = "std" ∨ namK k = "eve"
    unfold namK
    by_cases h : k % 2 = 0
    · rw [if_pos h]; exact .inl rfl
    · rw [if_neg h]; exact .inr rfl
theorem longR_len : longR.length = 200 := by unfold longR; rw [List.length_map, List.length_range]
theorem longR_at {i : Nat} (h : i < 200) : longR[i]? = some (rowK i) := by
  unfold longR
  rw [List.getElem?_map, List.getElem?_range h]
  rfl
theorem longR_ok : ∀ r ∈ longR, RowOk r := fun r hr => by
  obtain ⟨k, _, rfl⟩ := List.mem_map.mp hr
  exact rowK_ok
theorem longR_asc : Asc longR := fun i r r' h1 h2 => by
  have hi := (List.getElem?_eq_some_iff.mp h2).1
  rw [longR_len] at hi
  rw [longR_at (by omega)] at h1
  rw [longR_at (by omega)] at h2
  cases h1
  cases h2
  show 5000000000 * ((i : Nat) : Int) < 5000000000 * ((i + 1 : Nat) : Int)
  omega
def turnR (p : Nat) : List Row3 := longR.take p ++ [rowK (p + 1), rowK p] ++ longR.drop (p + 2)
theorem turnR_len {p : Nat} (h : p < 199) : (turnR p).length = 200 := by
  unfold turnR
  rw [List.length_append, List.length_append, List.length_take, List.length_drop, longR_len]
  simp
  omega
theorem turnR_asc {p : Nat} (h : p < 199) : ¬ Asc (turnR p) := fun ha => by
  have hl : (longR.take p).length = p := by rw [List.length_take, longR_len]; omega
  have e1 : (turnR p)[p]? = some (rowK (p + 1)) := by
    unfold turnR
    rw [List.append_assoc, List.getElem?_append_right (by omega), hl, Nat.sub_self]
    rfl
  have e2 : (turnR p)[p + 1]? = some (rowK p) := by
    unfold turnR
    rw [List.append_assoc, List.getElem?_append_right (by omega), hl, Nat.add_sub_cancel_left]
    rfl
  have := ha p _ _ e1 e2
  have h3 : 5000000000 * ((p + 1 : Nat) : Int) < 5000000000 * ((p : Nat) : Int) := this
  omega
theorem perm_rot {α : Type} {x y z : α} {l : List α} : (x :: y :: z :: l).Perm (y :: z :: x :: l) := (List.Perm.swap y x (z :: l)).trans ((List.Perm.swap z x l).cons y)
theorem setF_long : setF [] "47" longR = [((("47" : Str)), longR)] := by
  unfold setF
  have : longR.isEmpty = false := by
    cases h : longR with
    | nil => have := longR_len; rw [h] at this; cases this
    | cons _ _ => rfl
  rw [this]
  rfl
theorem rd_law_long {K : PySem.W.Frag} {cl : Nat → Addr} [Cf K cl] {vs H Q E} (h : sp_law_long K cl vs H Q E) : t_law_long K cl ⟨fun _ H' => Q .non H', Q, fun _ _ => False, fun _ _ => False⟩ (start ["contracts", "script", "state", "rows", "k", "place", "turned", "clock"] vs) H := by
  obtain ⟨G, M, S, x, dx, h, M0, v1, ns, rfl, rfl, rs1, q⟩ := h
  unfold t_law_long
  refine s_seq ?_
  refine s_asgG S (eg_state (K := K) (cl := cl) (by walk_at "ea")) ?_
  rintro _ G1 H1 _ s1 S1 ⟨a, z0, rfl, rfl⟩
  refine s_seq ?_
  refine s_asgG S1 eg_nil ?_
  rintro _ G2 H2 _ s2 S2 ⟨p, rfl, rfl⟩
  refine s_seq ?_
  apply s_forR1 (K := K) (cl := cl) (n := 200) (fun i σ G' M' => ∃ us y4, σ = [some (.ref x), some v1, some (.ref a), some (.ref p), y4, none, none, none] ∧ M' = (p, .lst us) :: (a, .lst [.int z0]) :: ConM cl x dx h [] M0 ∧ Reps K cl G' us ((List.range i).map fun k => rowD (rowK k))) S2
  · exact ea_cons (p := true) ev_int ea_nil
  · omega
  · intro G3 H3 g3
    exact ⟨[], _, rfl, rfl, Reps.nil⟩
  · rintro G3 s3 i σ' G4 H4 M4 hi s4 S4 ⟨us, y4, rfl, rfl, ru⟩
    have hul : us.length ≤ 200 := by rw [ru.length, List.length_map, List.length_range]; omega
    refine s_gname ?_
    refine s_app (K := K) (cl := cl) (d := rowD (rowK i)) S4 (by walk_at "ev") (by walk_at "at") (ev_tup (ea_cons (p := true) (ev_op (p := true) (q := true) (r := true) ev_int (ev_var (i := 4) rfl Rep.int) (o_mul (.inl ⟨by decide, by decide⟩))) (ea_cons (EvX.is (by walk_at "ev") pick3) (ea_cons (EvX.is (by walk_at "ev") pick2) ea_nil))) (Nat.le_of_ble_eq_true rfl)) (fun v => .hd) (by omega) ?_
    intro v G5 H5 s5 S5 r5
    refine ⟨G5, _, s4.trans s5, S5, us ++ [v], _, rfl, rfl, ?_⟩
    rw [List.range_succ, List.map_append]
    exact (ru.mono s5).append (Reps.one r5)
  rintro σ' G3 H3 M3 s3 S3 ⟨us, y4, rfl, rfl, ru⟩
  have eR : ((List.range (200 : Int).toNat).map fun k => rowD (rowK k)) = List.map rowD longR := by
    unfold longR
    rw [List.map_map]
    rfl
  rw [eR] at ru
  obtain ⟨G4, s4, S4, rR⟩ := S3.lst ru
  have hz0 := Int.emod_nonneg z0 (b := 199) (by decide)
  have hz1 := Int.emod_lt_of_pos z0 (b := 199) (by decide)
  obtain ⟨P, hP⟩ : ∃ P : Nat, z0 % 199 = (P : Int) := ⟨(z0 % 199).toNat, by omega⟩
  have hP1 : P < 199 := by omega
  have rs14 := rs1.mono (s1.trans (s2.trans (s3.trans s4)))
  have sA := s1.trans (s2.trans (s3.trans s4))
  clear rs1 s1 s2 s3 s4 ru S S1 S2 S3
  refine s_seq ?_
  refine s_asg (K := K) (cl := cl) (d := .int (P : Int)) S4 (EvX.is (by walk_at "ev") (by rw [hP])) ?_
  intro w5 G5 H5 g5 q5
  obtain rfl := q5.of_int
  have s5 := g5.same
  have S5 := g5.sep
  clear g5 q5
  generalize z0 / 199 = z1 at S5
  have rR5 := rR.mono s5
  refine s_seq ?_
  refine s_ifU (F := fun b G' M' => b = false ∧ ∃ kws', M' = ConM cl x dx h kws' ((a, .lst [.int z1]) :: M0) ∧ KRep K cl G' kws' (histK [((("47" : Str)), longR)])) S5 (eu_test (eg_op (K := K) (cl := cl) (eg_set (K := K) (cl := cl) (p := true) (x := x) (dx := dx) (h := h) (kws := []) (hist := []) (M0 := (a, .lst [.int z1]) :: M0) (line := "47") (rows := longR) (dr := .lst (List.map rowD longR)) perm_rot (ea_cons (p := true) (ev_var (i := 0) rfl Rep.loc) (ea_cons (p := true) ev_str (ea_cons (p := true) (ev_var (i := 3) rfl rR5) ea_nil))) (fun G' u s ru => .inl ru) (by decide) .nil (by rw [longR_len]; decide) (Nat.zero_le _)) ?_)) ?_ ?_
  · rintro v G6 M6 s6 (⟨_, kws', rfl, rk, rv⟩ | ⟨hn, _⟩)
    · refine ⟨.tup [.str "set", .str "47"], .tup [.str "set", .str "47"], _, false, true, _, rv, ev_tup (p := true) (ea_cons (p := true) ev_str (ea_cons (p := true) ev_str ea_nil)) (Nat.le_of_ble_eq_true rfl), o_neD (by decide +kernel) (by decide +kernel) (by decide +kernel) (by decide +kernel), fun w G7 s7 rw' => ?_⟩
      obtain rfl := rw'.of_bl
      refine ⟨_, rfl, by decide +kernel, kws', rfl, ?_⟩
      rw [← setF_long]
      exact rk.mono s7
    · exact (hn longR_asc).elim
  · rintro G6 H6 M6 s6 S6 ⟨hb, _⟩
    cases hb
  rintro G6 H6 M6 s6 S6 ⟨_, kws, rfl, rk⟩
  have rR6 := rR5.mono s6
  refine s_next ?_
  refine s_seq ?_
  have hl : longR.length = 200 := longR_len
  have eT : List.map rowD (turnR P) = (List.map rowD longR).take P ++ [rowD (rowK (P + 1)), rowD (rowK P)] ++ (List.map rowD longR).drop (P + 2) := by
    unfold turnR
    rw [List.map_append, List.map_append, List.map_take, List.map_drop]
    rfl
  have at1 : ∀ i : Nat, i < 200 → atI (List.map rowD longR) (i : Int) = some (rowD (rowK i)) := fun i hi => by
    refine atI_nat ?_
    rw [List.getElem?_map, longR_at hi]
    rfl
  have e2 : (P : Int) + 2 = ((P + 2 : Nat) : Int) := by omega
  have e1 : (P : Int) + 1 = ((P + 1 : Nat) : Int) := by omega
  refine s_asg (K := K) (cl := cl) (d := .lst (List.map rowD (turnR P))) S6 (EvX.is (ev_op (p := false) (q := false) (r := false) (ev_op (p := false) (q := false) (r := false) (EvX.is (ev_slL (p := true) (q := true) (r := true) (ev_var (i := 3) rfl rR6) eo_none (eo_some (ev_var (i := 5) rfl Rep.int))) (congrArg D.lst cut_take) : EvX K cl _ _ _ _ _ (.lst ((List.map rowD longR).take P)) _) (ev_lst (p := true) (ea_cons (p := true) (ev_op (p := true) (q := true) (r := true) (d3 := rowD (rowK (P + 1))) (ev_var (i := 3) rfl rR6) (ev_op (p := true) (q := true) (r := true) (ev_var (i := 5) rfl Rep.int) ev_int o_add_int) (o_ixL (by rw [e1]; exact at1 (P + 1) (by omega)))) (ea_cons (p := true) (ev_op (p := true) (q := true) (r := true) (ev_var (i := 3) rfl rR6) (ev_var (i := 5) rfl Rep.int) (o_ixL (at1 P (by omega)))) ea_nil)) (Nat.le_of_ble_eq_true rfl)) (o_catL (by rw [List.length_take, List.length_map, hl]; show _ + 2 ≤ _; omega))) (EvX.is (ev_slL (p := true) (q := true) (r := true) (ev_var (i := 3) rfl rR6) (eo_some (ev_op (p := true) (q := true) (r := true) (ev_var (i := 5) rfl Rep.int) ev_int o_add_int)) eo_none) (by rw [e2]; exact congrArg D.lst cut_drop) : EvX K cl _ _ _ _ _ (.lst ((List.map rowD longR).drop (P + 2))) _) (o_catL (by rw [List.length_append, List.length_take, List.length_drop, List.length_map, hl]; show _ + 2 + _ ≤ _; omega))) (by rw [eT])) ?_
  intro w6 G7 H7 g7 q7
  have s7 := g7.same
  have S7 := g7.sep
  clear g7
  have rR7 := rR6.mono s7
  have rk7 := rk.mono s7
  refine s_seq ?_
  refine s_ifU (F := fun b G' M' => b = false ∧ M' = ConM cl x dx h kws ((a, .lst [.int z1]) :: M0)) S7 (eu_test (eg_op (K := K) (cl := cl) (eg_set (K := K) (cl := cl) (p := true) (x := x) (dx := dx) (h := h) (kws := kws) (hist := [((("47" : Str)), longR)]) (M0 := (a, .lst [.int z1]) :: M0) (line := "47") (rows := turnR P) (dr := .lst (List.map rowD (turnR P))) (List.Perm.refl _) (ea_cons (p := true) (ev_var (i := 0) rfl Rep.loc) (ea_cons (p := true) ev_str (ea_cons (p := true) (ev_var (i := 6) rfl q7) ea_nil))) (fun G' u s ru => .inl ru) (by decide) rk7 (by rw [turnR_len hP1]; decide) (by decide)) ?_)) ?_ ?_
  · rintro v G8 M8 s8 (⟨hn, _⟩ | ⟨_, rfl, rv⟩)
    · exact (turnR_asc hP1 hn).elim
    · refine ⟨.tup [.str "refused", .str "47"], .tup [.str "refused", .str "47"], _, false, true, _, rv, ev_tup (p := true) (ea_cons (p := true) ev_str (ea_cons (p := true) ev_str ea_nil)) (Nat.le_of_ble_eq_true rfl), o_neD (by decide +kernel) (by decide +kernel) (by decide +kernel) (by decide +kernel), fun w G9 s9 rw' => ?_⟩
      obtain rfl := rw'.of_bl
      exact ⟨_, rfl, by decide +kernel, rfl⟩
  · rintro G8 H8 M8 s8 S8 ⟨hb, _⟩
    cases hb
  rintro G8 H8 M8 s8 S8 ⟨_, rfl⟩
  have rR8 := rR7.mono s8
  have rk8 := rk7.mono s8
  have hin : ∀ c, inF [((("47" : Str)), longR)] "47" c = dueF longR c := fun c => rfl
  have hd := fun c => due_dat longR_ok (clock := c)
  refine s_next ?_
  refine s_seq ?_
  apply s_forR1 (K := K) (cl := cl) (n := 20) (fun i σ G' M' => ∃ z y4 y7, σ = [some (.ref x), some v1, some (.ref a), some (.ref p), y4, some (.int (P : Int)), some w6, y7] ∧ M' = ConM cl x dx h kws ((a, .lst [.int z]) :: M0)) S8
  · exact ea_cons (p := true) ev_int ea_nil
  · omega
  · intro G9 H9 g9
    exact ⟨_, _, _, rfl, rfl⟩
  · rintro G9 s9 i σ' Ga Ha Ma hi sa Sa ⟨z, y4, y7, rfl, rfl⟩
    refine s_gname ?_
    refine s_seq ?_
    have h1a := Int.emod_nonneg z (b := 200) (by decide)
    have h1b := Int.emod_lt_of_pos z (b := 200) (by decide)
    have h2a := Int.emod_nonneg (z / 200) (b := 3) (by decide)
    have h2b := Int.emod_lt_of_pos (z / 200) (b := 3) (by decide)
    refine s_asg (K := K) (cl := cl) Sa (ev_op (p := false) (q := false) (r := true) (ev_op (p := true) (q := false) (r := true) ev_int (ev_digit (p := true) (m := 200) (ea_cons (p := true) (ev_var (i := 2) rfl Rep.loc) (ea_cons (p := true) ev_int ea_nil)) (.tl (.tl .hd)) (by decide) (by decide)) (o_mul (.inl ⟨by decide, by decide⟩))) (ev_op (p := false) (q := true) (r := true) (ev_digit (p := true) (m := 3) (ea_cons (p := true) (ev_var (i := 2) rfl Rep.loc) (ea_cons (p := true) ev_int ea_nil)) (.tl (.tl .hd)) (by decide) (by decide)) ev_int (o_mul (.inr ⟨by decide, by decide⟩))) o_add_int) ?_
    intro w7 Gb Hb gb qb
    obtain rfl := qb.of_int
    have sb := gb.same
    have Sb := gb.sep
    clear gb qb
    refine s_if (K := K) (cl := cl) (b := false) Sb (EvT.is (et_test (ev_op (p := false) (q := false) (r := true) (EvX.is (ev_inforce (K := K) (cl := cl) (p := true) (q := true) (List.Perm.refl _) .hd (ev_var (i := 0) rfl Rep.loc) (ea_cons (p := true) ev_str (ea_cons (p := true) (ev_var (i := 7) rfl Rep.int) ea_nil)) (((rk8.mono s9).mono sa).mono sb)) (congrArg optC (hin _))) (ev_call (p := true) (ea_cons (p := true) (ev_var (i := 3) rfl (((rR8.mono s9).mono sa).mono sb)) (ea_cons (p := true) (ev_var (i := 7) rfl Rep.int) ea_nil)) ⟨_, _, rfl, rfl⟩) (o_neD (hd _).1 (hd _).1 (hd _).2 (hd _).2))) (by rw [D.eqb_refl (hd _).1]; rfl)) ?_ ?_
    · intro Gc Hc gc hb
      cases hb
    · intro Gc Hc gc _
      exact s_next ⟨Gc, _, sa.trans (sb.trans gc.same), gc.sep, _, _, _, rfl, rfl⟩
  rintro σ' G9 H9 M9 s9 S9 ⟨z, y4, y7, rfl, rfl⟩
  refine s_ret (K := K) (cl := cl) (d := .bl true) S9 (EvX.is (ev_op (p := false) (q := false) (r := true) (EvX.is (ev_inforce (K := K) (cl := cl) (p := true) (q := true) (List.Perm.refl _) .hd (ev_var (i := 0) rfl Rep.loc) (ea_cons (p := true) ev_str (ea_cons (p := true) ev_int ea_nil)) (rk8.mono s9)) (congrArg optC (hin _))) (ev_call (p := true) (ea_cons (p := true) (ev_var (i := 3) rfl (rR8.mono s9)) (ea_cons (p := true) ev_int ea_nil)) ⟨_, _, rfl, rfl⟩) (o_eqD (hd _).1 (hd _).1 (hd _).2 (hd _).2)) (by rw [D.eqb_refl (hd _).1])) fun v Ga Ha ga ra => ?_
  obtain rfl := ra.of_bl
  have sC := s5.trans (s6.trans (s7.trans (s8.trans (s9.trans ga.same))))
  have sZ := sA.trans sC
  refine q Ga kws [((("47" : Str)), longR)] sZ ((rk8.mono s9).mono ga.same) (Nat.le_refl _) (fun l hl => ?_) sZ _ (ga.sep.perm perm_rot.symm).drop
  unfold valG
  rw [List.find?_cons, decide_eq_false (fun e => hl e.symm)]
  rfl
section
variable {K : PySem.W.Frag} {cl : Nat → Addr} {p q : Bool} {M M1 M2 : ML} {G : Hp} {σ : St} {ta te : TE} {tx : TA} {d : D} {ds : List D} {tt tu : TT}
theorem eu_trG {F : Bool → Hp → ML → Prop} (h : EvG te σ G M fun v G' M' => ∃ b, v = .bl b ∧ F b G' M') : EvU (tTr K te) σ G M F := fun G1 H1 s S Q k => h G1 H1 s S _ fun v G2 H2 M2 s2 S2 hb => by
  obtain ⟨b, rfl, hb⟩ := hb
  exact ⟨b, rfl, k b G2 H2 M2 s2 S2 hb⟩
theorem eu_not {F : Bool → Hp → ML → Prop} (h : EvU tt σ G M fun b G' M' => F (!b) G' M') : EvU (tNot tt) σ G M F := fun G1 H1 s S Q k => h G1 H1 s S _ fun b G2 H2 M2 s2 S2 hb => k (!b) G2 H2 M2 s2 S2 hb
theorem eu_and {F1 F : Bool → Hp → ML → Prop} (h1 : EvU tt σ G M F1) (ht : ∀ G' M', Same G G' → F1 true G' M' → EvU tu σ G' M' F) (hf : ∀ G' M', Same G G' → F1 false G' M' → F false G' M') : EvU (tAnd tt tu) σ G M F := fun G1 H1 s S Q k => h1 G1 H1 s S _ fun b G2 H2 M2 s2 S2 hb => by
  cases b with
  | true =>
    show tu σ H2 Q
    exact ht G2 M2 (s.trans s2) hb G2 H2 (Same.refl _) S2 Q fun b G3 H3 M3 s3 S3 hb3 => k b G3 H3 M3 (s2.trans s3) S3 hb3
  | false => exact k false G2 H2 M2 s2 S2 (hf G2 M2 (s.trans s2) hb)
theorem eg_listO {F : FG} (ha : EvX K cl p te σ G M (.lst ds) M1) (hF : ∀ u vs G', Same G G' → Reps K cl G' vs ds → F (.ref u) G' ((u, .lst vs) :: M1)) : EvG (tCB (rListA K) (tCons te tNil)) σ G M F := fun G1 H1 s S Q k =>
  ha G1 H1 s S _ fun v G2 H2 g2 rv => by
    obtain ⟨a, vs, rfl, sq, rs⟩ := rv.of_lst
    exact ⟨a, vs, rfl, .inl (g2.sep.sub.seq sq), fun u hu => k (.ref u) G2 _ _ g2.same (g2.sep.newM hu) (hF u vs G2 (s.trans g2.same) rs)⟩
theorem ev_neO {i j : Nat} {u : Addr} {vs : List V} {w : V} (hi : σ[i]? = some (some (.ref u))) (hm : At M u (.lst vs)) (rs : Reps K cl G vs ds) (hj : σ[j]? = some (some w)) (rw' : Rep K cl G w (.lst ds)) (hd : (D.lst ds).isDat = true) (dd : (D.lst ds).dep ≤ 64) : EvX K cl true (tOp (rNeA K) (tVar i) (tVar j)) σ G M (.bl false) M := fun G1 H1 s S Q k => by
  have r1 : Rep K cl H1 (.ref u) (.lst ds) := Rep.lst (.inl (.inl (S.look hm))) ((rs.mono s).mono S.sub)
  have r2 : Rep K cl H1 w (.lst ds) := (rw'.mono s).mono S.sub
  exact ⟨.ref u, hi, w, hj, .inr ⟨_, _, r1.dp hd, r2.dp hd, shaped_of hd dd, shaped_of hd dd, by rw [eqv_eqb _ _ hd hd, D.eqb_refl hd]; exact k _ _ _ (Go.refl S) Rep.bl⟩⟩
end
theorem valG_drop {κ α : Type} [DecidableEq κ] {st : List (κ × α)} {k j : κ} : valG (dropG st k) j = if k = j then none else valG st j := by
  unfold valG dropG
  induction st with
  | nil => simp
  | cons e st ih =>
    rw [List.filter_cons]
    by_cases h1 : e.1 = k
    · rw [if_neg (by simp [h1]), ih]
      by_cases h2 : k = j
      · rw [if_pos h2, if_pos h2]
      · rw [if_neg h2, if_neg h2, List.find?_cons, decide_eq_false (by rw [h1]; exact h2)]
    · rw [if_pos (by simp [h1]), List.find?_cons, List.find?_cons]
      by_cases h3 : e.1 = j
      · rw [decide_eq_true h3, if_neg (fun z => h1 (h3.trans z.symm))]
      · rw [decide_eq_false h3]
        exact ih
theorem putG_len {κ α : Type} [DecidableEq κ] {st : List (κ × α)} {k : κ} {v : α} : (putG st k v).length ≤ st.length + 1 := by
  unfold putG
  split
  · rw [List.length_map]; omega
  · rw [List.length_append]; simp
theorem setF_len {h : Hist} {l : Str} {rows : List Row3} : (setF h l rows).length ≤ h.length + 1 := by
  unfold setF
  split
  · unfold dropG
    exact Nat.le_trans (List.length_filter_le _ _) (Nat.le_succ _)
  · exact putG_len
theorem setF_val {h : Hist} {l j : Str} {rows : List Row3} : (valG (setF h l rows) j).getD [] = if l = j then rows else (valG h j).getD [] := by
  unfold setF
  by_cases e : rows.isEmpty = true
  · rw [if_pos e, valG_drop]
    by_cases e2 : l = j
    · rw [if_pos e2, if_pos e2]
      exact (List.isEmpty_iff.mp e).symm
    · rw [if_neg e2, if_neg e2]
  · rw [if_neg e, valG_put]
    by_cases e2 : l = j
    · rw [if_pos e2, if_pos e2]; rfl
    · rw [if_neg e2, if_neg e2]
def listK (h : Hist) : List (Key × D) := h.map fun e => ((.inr e.1 : Key), D.lst (e.2.map rowD))
theorem listK_eq (h : Hist) : listK h = (h.map fun e => (e.1, D.lst (e.2.map rowD))).map fun e => ((.inr e.1 : Key), e.2) := by
  unfold listK
  rw [List.map_map]
  rfl
theorem listK_val {h : Hist} {x : Str} : valG (listK h) (.inr x) = (valG h x).map fun rows => D.lst (rows.map rowD) := by
  rw [listK_eq, valG_text, valG_map (fun rows : List Row3 => D.lst (rows.map rowD))]
theorem listK_put {h : Hist} {x : Str} {rows : List Row3} : putG (listK h) (.inr x) (D.lst (rows.map rowD)) = listK (putG h x rows) := by
  rw [listK_eq h, listK_eq (putG h x rows), putG_text, putG_map (fun rows : List Row3 => D.lst (rows.map rowD))]
abbrev threeS : List Str := [Str.ofString "41", Str.ofString "42", Str.ofString "43"]
/-- the contracts stand as the law's own books -/
structure LInv (hist lh : Hist) (n : Nat) : Prop where
  eq : ∀ l ∈ threeS, (valG hist l).getD [] = (valG lh l).getD []
  no : (valG hist "44").getD [] = []
  has : ∀ l ∈ threeS, ∃ rows, valG lh l = some rows
  ok : ∀ l rows, valG lh l = some rows → ∀ r ∈ rows, RowOk r
  l1 : hist.length ≤ 1 + n
  l2 : lh.length ≤ 3 + n
theorem LInv.set {hist lh : Hist} {n : Nat} (h : LInv hist lh n) {l : Str} (hl : l ∈ threeS) {rows : List Row3} (hr : ∀ r ∈ rows, RowOk r) : LInv (setF hist l rows) (putG lh l rows) (n + 1) := by
  refine ⟨fun j hj => ?_, ?_, fun j hj => ?_, fun j rs e => ?_, ?_, ?_⟩
  · rw [setF_val, valG_put]
    by_cases e : l = j
    · rw [if_pos e, if_pos e]; rfl
    · rw [if_neg e, if_neg e]; exact h.eq j hj
  · rw [setF_val]
    by_cases e : l = "44"
    · exfalso
      rw [e] at hl
      revert hl
      decide +kernel
    · rw [if_neg e]; exact h.no
  · rw [valG_put]
    by_cases e : l = j
    · rw [if_pos e]; exact ⟨_, rfl⟩
    · rw [if_neg e]; exact h.has j hj
  · rw [valG_put] at e
    by_cases e2 : l = j
    · rw [if_pos e2] at e
      cases e
      exact hr
    · rw [if_neg e2] at e
      exact h.ok j rs e
  · have := setF_len (h := hist) (l := l) (rows := rows)
    have := h.l1
    omega
  · have := putG_len (st := lh) (k := l) (v := rows)
    have := h.l2
    omega
theorem LInv.up {hist lh : Hist} {n : Nat} (h : LInv hist lh n) : LInv hist lh (n + 1) := ⟨h.eq, h.no, h.has, h.ok, by have := h.l1; omega, by have := h.l2; omega⟩
theorem LInv.due {hist lh : Hist} {n : Nat} (h : LInv hist lh n) {l : Str} (hl : l ∈ threeS) {rows : List Row3} (e : valG lh l = some rows) {c : Int} : inF hist l c = dueF rows c := by
  unfold inF
  rw [h.eq l hl, e]
  rfl
theorem rows_dat {rows : List Row3} (h : ∀ r ∈ rows, RowOk r) : (D.lst (List.map rowD rows)).isDat = true ∧ (D.lst (List.map rowD rows)).dep ≤ 64 := by
  refine ⟨?_, ?_⟩
  · show D.areDat (List.map rowD rows) = true
    refine D.areDat_mem fun d hd => ?_
    obtain ⟨r, hr, rfl⟩ := List.mem_map.mp hd
    obtain ⟨c, o, n⟩ := r
    obtain ⟨h1, h2⟩ := h _ hr
    have h1 : okA o := h1
    have h2 : n = "std" ∨ n = "eve" := h2
    rcases h1 with rfl | rfl | rfl <;> rcases h2 with rfl | rfl <;> simp only [rowD, optS, D.isDat, D.areDat, Bool.and_true, Bool.true_and] <;> decide +kernel
  · have : D.deps (List.map rowD rows) ≤ 1 := D.deps_mem fun d hd => by
      obtain ⟨r, hr, rfl⟩ := List.mem_map.mp hd
      obtain ⟨c, o, n⟩ := r
      cases o <;> exact (by show (1 : Nat) ≤ 1; decide)
    show D.deps (List.map rowD rows) + 1 ≤ 64
    omega
theorem merge3D {a b c : Str} (h : a ≠ b) (h2 : a ≠ c) (h3 : b ≠ c) {x y z : D} : mergeG [] [((.inr a : Key), x), (.inr b, y), (.inr c, z)] = [(.inr a, x), (.inr b, y), (.inr c, z)] := by
  simp [mergeG, putG, valG, h, h2, h3]
theorem lInv0 {hist : Hist} (h : hist.length ≤ 1) (hv : ∀ l : Str, l ≠ "47" → valG hist l = none) : LInv hist [(Str.ofString "41", []), (Str.ofString "42", []), (Str.ofString "43", [])] 0 := by
  have n1 : ∀ l ∈ threeS, l ≠ "47" := fun l hl e => by
    rw [e] at hl
    revert hl
    decide +kernel
  refine ⟨fun l hl => ?_, by rw [hv _ (by decide +kernel)]; rfl, fun l hl => ?_, fun l rows e r hr => ?_, h, Nat.le_refl _⟩
  · rw [hv l (n1 l hl)]
    simp only [List.mem_cons, List.not_mem_nil, or_false] at hl
    rcases hl with rfl | rfl | rfl <;> rfl
  · simp only [List.mem_cons, List.not_mem_nil, or_false] at hl
    rcases hl with rfl | rfl | rfl <;> exact ⟨_, rfl⟩
  · have := valG_mem1 e
    simp only [List.mem_cons, List.not_mem_nil, or_false, Prod.mk.injEq] at this
    rcases this with ⟨_, rfl⟩ | ⟨_, rfl⟩ | ⟨_, rfl⟩ <;> cases hr
theorem rd_law {K : PySem.W.Frag} {cl : Nat → Addr} [Cf K cl] {vs H Q E} (h : sp_law K cl vs H Q E) : t_law K cl ⟨fun _ H' => Q .non H', Q, fun _ _ => False, fun _ _ => False⟩ (start ["script", "contracts", "histories", "k", "state", "line", "rows", "ascending", "place", "given", "told", "other", "clock"] vs) H := by
  obtain ⟨G, M, S, v0, ns, rfl, r0, q⟩ := h
  unfold t_law
  refine s_seq ?_
  refine s_asgG S (eg_makeG (K := K) (cl := cl) (F := fun v G' M' => ∃ x dx h, v = .ref x ∧ M' = ConM cl x dx h [] M) ea_nil ?_) ?_
  · intro x dx vs G' T s1 rs hT
    simp only [Reps] at rs
    subst rs
    exact ⟨x, dx, M, rfl, rfl, fun G2 h s2 => hT G2 _ s2 ⟨x, dx, h, rfl, rfl⟩⟩
  rintro _ G1 H1 _ s1 S1 ⟨x, dx, h, rfl, rfl⟩
  have r01 := r0.mono s1
  refine s_seq ?_
  refine s_ifU (F := fun b G' M' => b = false ∧ ∃ kws hist, M' = ConM cl x dx h kws M ∧ KRep K cl G' kws (histK hist) ∧ hist.length ≤ 1 ∧ ∀ l : Str, l ≠ "47" → valG hist l = none) S1 (eu_and (F1 := fun _ _ M' => M' = ConM cl x dx h [] M) (eu_trG (EvG.imp (eg_large (K := K) (cl := cl) (ns := ns) (p := true) (ea_cons (p := true) (ev_var (i := 0) rfl r01) ea_nil)) fun v G' H' M' s' S' hF => ?_)) ?_ ?_) ?_ ?_
  · obtain ⟨b, rfl, rfl⟩ := hF
    exact ⟨G', _, Same.refl _, S', b, rfl, rfl⟩
  · rintro G2 _ s2 rfl
    refine eu_not (eu_trG (EvG.imp (eg_callP (K := K) (cl := cl) (F := fun v G' M' => v = .bl true ∧ ∃ kws hist, M' = ConM cl x dx h kws M ∧ KRep K cl G' kws (histK hist) ∧ hist.length ≤ 1 ∧ ∀ l : Str, l ≠ "47" → valG hist l = none) (ds := [.loc x, .lst (List.map D.int ns)]) (p := true) (ea_cons (p := true) (ev_var (i := 1) rfl Rep.loc) (ea_cons (p := true) (ev_var (i := 0) rfl (r01.mono s2)) ea_nil)) (List.Perm.refl _) ?_) fun v G' H' M' s' S' hF => ?_))
    · intro vs G' T s' rvs hT
      obtain ⟨u1, u2, rfl, h1, h2⟩ := reps2 rvs
      obtain rfl := h1.of_loc
      exact ⟨x, dx, h, M, u2, ns, rfl, rfl, h2, fun G3 kws' hist s3 rk hl hv => hT _ G3 _ s3 ⟨rfl, kws', hist, rfl, rk, hl, hv⟩⟩
    · obtain ⟨rfl, hF⟩ := hF
      exact ⟨G', M', Same.refl _, S', true, rfl, rfl, hF⟩
  · rintro G2 _ s2 rfl
    exact ⟨rfl, [], [], rfl, .nil, Nat.zero_le _, fun _ _ => rfl⟩
  · rintro G2 H2 M2 s2 S2 ⟨hb, _⟩
    cases hb
  rintro G2 H2 M2 s2 S2 ⟨_, kws, hist, rfl, rk, hl1, hv1⟩
  have r02 := r01.mono s2
  have hI := lInv0 hl1 hv1
  refine s_next ?_
  refine s_seq ?_
  refine s_asgG S2 (eg_disp (K := K) (cl := cl) (kds := [(.inr "41", .lst []), (.inr "42", .lst []), (.inr "43", .lst [])]) (M1 := ConM cl x dx h kws M) (F := fun v G' M' => ∃ u kw2, v = .ref u ∧ M' = (u, .dK kw2) :: ConM cl x dx h kws M ∧ KRep K cl G' kw2 (listK [(Str.ofString "41", []), (Str.ofString "42", []), (Str.ofString "43", [])]))
    (fun u => ep_cons (p := true) (q := false) ev_str rfl (ev_lst (p := true) ea_nil (Nat.zero_le _)) (ep_cons (p := true) (q := false) ev_str rfl (ev_lst (p := true) ea_nil (Nat.zero_le _)) (ep_cons (p := true) (q := false) ev_str rfl (ev_lst (p := true) ea_nil (Nat.zero_le _)) ep_nil))) (Nat.le_of_ble_eq_true rfl) ?_) ?_
  · intro u kw2 G' s' rk'
    rw [merge3D (by decide +kernel) (by decide +kernel) (by decide +kernel)] at rk'
    exact ⟨u, kw2, rfl, rfl, rk'⟩
  rintro _ G3 H3 _ s3 S3 ⟨hs, kw2, rfl, rfl, rk2⟩
  have r03 := r02.mono s3
  have rk3 := rk.mono s3
  have sA := s1.trans (s2.trans s3)
  clear r0 r01 r02 rk hl1 hv1 s1 s2 s3 S S1 S2
  refine s_seq ?_
  apply s_forR1 (K := K) (cl := cl) (n := 12) (fun i σ G' M' => ∃ kws kw2 hist lh y3 y4 y5 y6 y7 y8 y9 y10 y11 y12, σ = [some v0, some (.ref x), some (.ref hs), y3, y4, y5, y6, y7, y8, y9, y10, y11, y12] ∧ M' = (hs, .dK kw2) :: ConM cl x dx h kws M ∧ KRep K cl G' kws (histK hist) ∧ KRep K cl G' kw2 (listK lh) ∧ LInv hist lh i) S3
  · exact ea_cons (p := true) ev_int ea_nil
  · omega
  · intro G4 H4 g4
    exact ⟨_, _, _, _, _, _, _, _, _, _, _, _, _, _, rfl, rfl, rk3.mono g4.same, rk2.mono g4.same, hI⟩
  · clear rk3 rk2 hI
    rintro G4 s4 i σ' G5 H5 M5 hi s5 S5 ⟨kws, kw2, hist, lh, y3, y4, y5, y6, y7, y8, y9, y10, y11, y12, rfl, rfl, rk5, rl5, hI⟩
    have r05 := r03.mono (s4.trans s5)
    refine s_gname ?_
    refine s_seq ?_
    refine s_asgG S5 (eg_state (K := K) (cl := cl) (by walk_at "ea")) ?_
    rintro _ G6 H6 _ s6 S6 ⟨a, z0, rfl, rfl⟩
    refine s_seq ?_
    obtain ⟨line, hline, hl3⟩ : ∃ l, [D.str "41", D.str "42", D.str "43"].getD (z0 % 3).toNat .non = .str l ∧ l ∈ threeS := by
      refine pickD (P := fun d => ∃ l, d = .str l ∧ l ∈ threeS) (fun d hd => ?_) (by show _ < 3; omega)
      simp only [List.mem_cons, List.not_mem_nil, or_false] at hd
      rcases hd with rfl | rfl | rfl <;> exact ⟨_, rfl, by decide +kernel⟩
    refine s_asg (K := K) (cl := cl) (d := .str line) S6 (EvX.is (by walk_at "ev") hline) ?_
    intro w5 G7 H7 g7 q5
    obtain rfl := q5.of_str
    have s7 := g7.same
    have S7 := g7.sep
    clear g7 q5 hline
    generalize z0 / 3 = z1 at S7
    have hlen : line.length ≤ 1000 := by
      simp only [List.mem_cons, List.not_mem_nil, or_false] at hl3
      rcases hl3 with rfl | rfl | rfl <;> decide +kernel
    refine s_seq ?_
    refine s_asgG S7 (eg_callP (K := K) (cl := cl) (F := fun v G' M' => ∃ rows z, M' = (a, .lst [.int z]) :: (hs, .dK kw2) :: ConM cl x dx h kws M ∧ rows.length ≤ 5 ∧ (∀ r ∈ rows, RowOk r) ∧ Rep K cl G' v (.lst (List.map rowD rows))) (ds := [.loc a]) (p := true) (ea_cons (p := true) (ev_var (i := 4) rfl Rep.loc) ea_nil) (List.Perm.refl _) ?_) ?_
    · intro vs G' T s' rvs hT
      obtain ⟨u1, rfl, h1⟩ := reps1 rvs
      obtain rfl := h1.of_loc
      exact ⟨a, z1, _, rfl, rfl, fun G3 v rows s' s3 hr hro rv => hT v G3 _ s3 ⟨rows, s', rfl, hr, hro, rv⟩⟩
    rintro w6 G8 H8 _ s8 S8 ⟨rows, z2, rfl, hrl, hro, q6⟩
    refine s_seq ?_
    refine s_asg (K := K) (cl := cl) (d := .bl true) S8 ev_bl ?_
    intro w7 G9 H9 g9 q7
    obtain rfl := q7.of_bl
    have s9 := g9.same
    have S9 := g9.sep
    clear g9 q7
    have q69 := q6.mono s9
    have rk9 := rk5.mono (s6.trans (s7.trans (s8.trans s9)))
    have rl9 := rl5.mono (s6.trans (s7.trans (s8.trans s9)))
    have sB := s6.trans (s7.trans (s8.trans s9))
    clear rk5 rl5 q6 s6 s7 s8 s9 S5 S6 S7 S8
    refine s_seq ?_
    apply s_forR2 (K := K) (cl := cl) (lo := 1) (n := (rows.length : Int)) (fun j σ G' M' => ∃ b z8, σ = [some v0, some (.ref x), some (.ref hs), some (.int (i : Int)), some (.ref a), some (.str line), some w6, some (.bl b), z8, y9, y10, y11, y12] ∧ M' = (a, .lst [.int z2]) :: (hs, .dK kw2) :: ConM cl x dx h kws M ∧ (b = true ↔ ∀ t : Nat, t < j → ∀ ht : t + 1 < rows.length, (rows[t]).1 < (rows[t + 1]).1)) S9
    · (with_reducible apply EvA.is)
      · exact ea_cons (p := true) ev_int (ea_cons (p := true) (ev_cb (p := true) (q := true) (ea_cons (p := true) (ev_var (i := 6) rfl q69) ea_nil) on_lenL) ea_nil)
      · rw [List.length_map]
    · omega
    · intro Ga Ha ga
      exact ⟨_, _, rfl, rfl, fun _ t ht => absurd ht (Nat.not_lt_zero _), fun _ => rfl⟩
    · rintro Ga sa j σ' Gb Hb Mb hj sb Sb ⟨b, z8, rfl, rfl, hb⟩
      have hj1 : j < rows.length := by omega
      have hj2 : j + 1 < rows.length := by omega
      have e1 : atI (List.map rowD rows) (1 + (j : Int)) = some (rowD rows[j + 1]) := by
        have : (1 + (j : Int)) = ((j + 1 : Nat) : Int) := by omega
        rw [this]
        exact atI_nat (by simp [hj2])
      have e2 : atI (List.map rowD rows) (1 + (j : Int) - 1) = some (rowD rows[j]) := by
        have : (1 + (j : Int) - 1) = (j : Int) := by omega
        rw [this]
        exact atI_nat (by simp [hj1])
      have q6b := (q69.mono sa).mono sb
      refine s_gname ?_
      refine s_asg (K := K) (cl := cl) (d := .bl (b && decide ((rows[j]).1 < (rows[j + 1]).1))) Sb (ev_andV (p := true) (q := true) (ev_var (i := 7) rfl Rep.bl) fun _ => ev_op (p := true) (q := true) (r := true) (ev_op (p := true) (q := true) (r := true) (ev_op (p := true) (q := true) (r := true) (ev_var (i := 6) rfl q6b) (ev_op (p := true) (q := true) (r := true) (ev_var (i := 8) rfl Rep.int) ev_int o_sub) (o_ixL e2)) ev_int (o_ixT (i := 0) (d := .int (rows[j]).1) rfl)) (ev_op (p := true) (q := true) (r := true) (ev_op (p := true) (q := true) (r := true) (ev_var (i := 6) rfl q6b) (ev_var (i := 8) rfl Rep.int) (o_ixL e1)) ev_int (o_ixT (i := 0) (d := .int (rows[j + 1]).1) rfl)) o_lt) ?_
      intro wc Gc Hc gc qc
      obtain rfl := qc.of_bl
      refine ⟨Gc, _, sb.trans gc.same, gc.sep, _, _, rfl, rfl, ?_⟩
      rw [Bool.and_eq_true, hb, decide_eq_true_iff]
      constructor
      · rintro ⟨h1, h2⟩ t ht ht2
        by_cases e : t = j
        · subst e
          exact h2
        · exact h1 t (by omega) ht2
      · intro h1
        exact ⟨fun t ht ht2 => h1 t (by omega) ht2, h1 j (by omega) hj2⟩
    rintro σ' Ga Ha Ma sa Sa ⟨b, z8, rfl, rfl, hb⟩
    have hA : b = true ↔ Asc rows := by
      rw [hb, asc_iff]
      constructor
      · intro h1 t ht
        exact h1 t (by omega) ht
      · intro h1 t _ ht
        exact h1 t ht
    have q6a := q69.mono sa
    have rka := rk9.mono sa
    have rla := rl9.mono sa
    have sC := sB.trans sa
    clear hb q69 rk9 rl9 sB sa S9
    refine s_seq ?_
    refine s_asgG Sa (eg_listO (K := K) (cl := cl) (p := true) (F := fun v G' M' => ∃ u us, v = .ref u ∧ M' = (u, .lst us) :: (a, .lst [.int z2]) :: (hs, .dK kw2) :: ConM cl x dx h kws M ∧ Reps K cl G' us (List.map rowD rows)) (ev_var (i := 6) rfl q6a) fun u us G' s' rs' => ⟨u, us, rfl, rfl, rs'⟩) ?_
    rintro _ Gb Hb _ sb Sb ⟨u, us, rfl, rfl, rus⟩
    refine s_seq ?_
    refine s_asgG Sb (eg_set (K := K) (cl := cl) (p := true) (x := x) (dx := dx) (h := h) (kws := kws) (hist := hist) (M0 := (u, .lst us) :: (a, .lst [.int z2]) :: (hs, .dK kw2) :: M) (line := line) (rows := rows) (dr := .loc u) ?_ (ea_cons (p := true) (ev_var (i := 1) rfl Rep.loc) (ea_cons (p := true) (ev_var (i := 5) rfl Rep.str) (ea_cons (p := true) (ev_var (i := 9) rfl Rep.loc) ea_nil))) (fun G' w s' rw' => .inr ⟨u, us, rw'.of_loc, .tl (.tl .hd), rus.mono s'⟩) hlen (rka.mono sb) (by omega) (by have := hI.l1; omega)) ?_
    · exact (List.perm_append_comm (l₁ := [(u, HO.lst us), (a, HO.lst [.int z2]), (hs, HO.dK kw2)]) (l₂ := [(x, HO.ins (cl 2) dx (List.zip ["histories"] [.ref h])), (h, HO.dK kws)])).append_right M
    intro w10 Gc Hc Mc sc Sc hF
    have res : ∃ kws' hist' , Mc = ConM cl x dx h kws' ((u, .lst us) :: (a, .lst [.int z2]) :: (hs, .dK kw2) :: M) ∧ KRep K cl Gc kws' (histK hist') ∧ Rep K cl Gc w10 (.tup [.str (if b then "set" else "refused"), .str line]) ∧ ((b = true ∧ hist' = setF hist line rows) ∨ (b = false ∧ hist' = hist)) := by
      rcases hF with ⟨ha, kws', rfl, rk', rv⟩ | ⟨ha, rfl, rv⟩
      · have hb := hA.mpr ha
        subst hb
        exact ⟨kws', _, rfl, rk', rv, .inl ⟨rfl, rfl⟩⟩
      · have hb : b = false := by
          cases b with
          | false => rfl
          | true => exact (ha (hA.mp rfl)).elim
        subst hb
        exact ⟨kws, hist, rfl, rka.mono (sb.trans sc), rv, .inr ⟨rfl, rfl⟩⟩
    obtain ⟨kwc, hist', rfl, rkc, q10, hcase⟩ := res
    have rlc := rla.mono (sb.trans sc)
    have q6c := q6a.mono (sb.trans sc)
    have rusc := rus.mono sc
    have sD := sC.trans (sb.trans sc)
    clear hF rka rla q6a rus sb sc sC Sa Sb
    have hdat := rows_dat hro
    refine s_seq ?_
    have htl : (D.tup [.str (if b then "set" else "refused"), .str line]).isDat = true ∧ (D.tup [.str (if b then "set" else "refused"), .str line]).dep ≤ 64 := by
      simp only [List.mem_cons, List.not_mem_nil, or_false] at hl3
      rcases hl3 with rfl | rfl | rfl <;> cases b <;> decide +kernel
    have hix : atI [D.str "refused", D.str "set"] (if b then 1 else 0) = some (.str (if b then "set" else "refused")) := by cases b <;> rfl
    refine s_if (K := K) (cl := cl) (b := false || !D.eqb (D.tup [.str (if b then "set" else "refused"), .str line]) (D.tup [.str (if b then "set" else "refused"), .str line])) Sc (et_or (p := true) (q := false) (et_test (ev_neO (K := K) (cl := cl) (i := 9) (j := 6) rfl (.tl (.tl .hd)) rusc rfl q6c hdat.1 hdat.2)) fun _ => et_test (ev_op (p := true) (q := false) (r := true) (ev_var (i := 10) rfl q10) (ev_tup (p := false) (ea_cons (p := false) (ev_op (p := false) (q := true) (r := true) (ev_tup (p := true) (ea_cons (p := true) ev_str (ea_cons (p := true) ev_str ea_nil)) (Nat.le_of_ble_eq_true rfl)) (ev_cb (p := true) (q := true) (ea_cons (p := true) (ev_var (i := 7) rfl Rep.bl) ea_nil) on_intB) (o_ixT hix)) (ea_cons (p := true) (ev_var (i := 5) rfl Rep.str) ea_nil)) (Nat.le_of_ble_eq_true rfl)) (o_neD htl.1 htl.1 htl.2 htl.2))) ?_ ?_
    · intro Gd Hd gd hc
      rw [D.eqb_refl htl.1] at hc
      cases hc
    intro Gd Hd gd _
    refine s_next ?_
    refine s_seq ?_
    have sdc := gd.same
    refine s_app (K := K) (cl := cl) (d := .tup [.int 999, .str "late", .str "std"]) gd.sep (ev_var (i := 9) rfl Rep.loc) (.tl (.tl .hd)) (ev_tup (p := true) (ea_cons (p := true) ev_int (ea_cons (p := true) ev_str (ea_cons (p := true) ev_str ea_nil))) (Nat.le_of_ble_eq_true rfl)) (fun v => .tl (.tl .hd)) (by rw [rusc.length, List.length_map]; omega) ?_
    intro vN Ge He se Se _
    have sde := sdc.trans se
    have rke := rkc.mono sde
    have rle := rlc.mono sde
    have q6e := q6c.mono sde
    have sE := sD.trans sde
    clear rkc rlc q6c rusc sdc se sde sD gd Sc q10 hdat htl hix
    refine s_seq ?_
    refine s_ifJ (K := K) (cl := cl) (b := b) (fun σ G' M' => σ = [some v0, some (.ref x), some (.ref hs), some (.int (i : Int)), some (.ref a), some (.str line), some w6, some (.bl b), z8, some (.ref u), some w10, y11, y12] ∧ ∃ kw2' lh', M' = ConM cl x dx h kwc ((u, .lst (us ++ [vN])) :: (a, .lst [.int z2]) :: (hs, .dK kw2') :: M) ∧ KRep K cl G' kwc (histK hist') ∧ KRep K cl G' kw2' (listK lh') ∧ LInv hist' lh' (i + 1)) Se (et_tr (p := true) (d := .bl b) (ev_var (i := 7) rfl Rep.bl) rfl) ?_ ?_ ?_
    · intro kk Gf Hf gf hbt
      have hh' : hist' = setF hist line rows := by
        rcases hcase with ⟨_, e⟩ | ⟨e, _⟩
        · exact e
        · rw [hbt] at e; cases e
      refine s_kput (K := K) (cl := cl) (k := .inr line) (kes := listK lh) (d := .lst (List.map rowD rows)) gf.sep (ev_var (i := 6) rfl (q6e.mono gf.same)) (ev_var (i := 2) rfl Rep.loc) (ev_var (i := 5) rfl Rep.str) rfl (rle.mono gf.same) (by unfold listK; rw [List.length_map]; have := hI.l2; omega) (fun v => .tl (.tl (.tl (.tl .hd)))) ?_
      intro v Gg Hg sg Sg rg
      rw [listK_put] at rg
      exact kk _ Gg Hg _ (gf.same.trans sg) Sg ⟨rfl, _, _, rfl, rke.mono (gf.same.trans sg), rg, hh' ▸ hI.set hl3 hro⟩
    · intro kk Gf Hf gf hbf
      have hh' : hist' = hist := by
        rcases hcase with ⟨e, _⟩ | ⟨_, e⟩
        · rw [hbf] at e; cases e
        · exact e
      exact s_next (kk _ Gf Hf _ gf.same gf.sep ⟨rfl, _, _, rfl, rke.mono gf.same, rle.mono gf.same, hh' ▸ hI.up⟩)
    rintro σ' Gf Hf Mf sf Sf ⟨rfl, kw3, lh', rfl, rkf, rlf, hJ⟩
    have sF := sE.trans sf
    clear rke rle q6e sE Se hI hcase sf
    refine s_seq ?_
    apply s_forT (K := K) (cl := cl) (ds := List.map D.str threeS) (fun _ σ G' M' => ∃ z t11 t12, σ = [some v0, some (.ref x), some (.ref hs), some (.int (i : Int)), some (.ref a), some (.str line), some w6, some (.bl b), z8, some (.ref u), some w10, t11, t12] ∧ M' = ConM cl x dx h kwc ((u, .lst (us ++ [vN])) :: (a, .lst [.int z]) :: (hs, .dK kw3) :: M)) Sf
    · exact ev_tup (p := true) (ea_cons (p := true) ev_str (ea_cons (p := true) ev_str (ea_cons (p := true) ev_str ea_nil))) (Nat.le_of_ble_eq_true rfl)
    · intro Gg Hg gg
      exact ⟨_, _, _, rfl, rfl⟩
    · rintro Gg sg j xo d σ' Gh Hh Mh hd sh Sh rxo ⟨z, t11, t12, rfl, rfl⟩
      obtain ⟨other, rfl, ho⟩ : ∃ o, d = .str o ∧ o ∈ threeS := by
        obtain ⟨o, ho, rfl⟩ := List.mem_map.mp (List.mem_of_getElem? hd)
        exact ⟨o, rfl, ho⟩
      obtain rfl := rxo.of_str
      obtain ⟨rows2, hr2⟩ := hJ.has other ho
      have hok2 := hJ.ok other rows2 hr2
      have hdat2 := fun c => due_dat hok2 (clock := c)
      have sgh := sg.trans sh
      refine s_gname ?_
      apply s_forT (K := K) (cl := cl) (p := false) (ds := [.int 0, .int (z % 30), .int (8 + z / 30 % 9), .int 1000]) (M1 := ConM cl x dx h kwc ((u, .lst (us ++ [vN])) :: (a, .lst [.int (z / 30 / 9)]) :: (hs, .dK kw3) :: M)) (fun _ σ G' M' => ∃ t12, σ = [some v0, some (.ref x), some (.ref hs), some (.int (i : Int)), some (.ref a), some (.str line), some w6, some (.bl b), z8, some (.ref u), some w10, some (.str other), t12] ∧ M' = ConM cl x dx h kwc ((u, .lst (us ++ [vN])) :: (a, .lst [.int (z / 30 / 9)]) :: (hs, .dK kw3) :: M)) Sh
      · exact ev_tup (p := false) (ea_cons (p := true) ev_int (ea_cons (p := false) (ev_digit (p := true) (m := 30) (ea_cons (p := true) (ev_var (i := 4) rfl Rep.loc) (ea_cons (p := true) ev_int ea_nil)) (.tl (.tl (.tl .hd))) (by decide) (by decide)) (ea_cons (p := false) (ev_op (p := true) (q := false) (r := true) ev_int (ev_digit (p := true) (m := 9) (ea_cons (p := true) (ev_var (i := 4) rfl Rep.loc) (ea_cons (p := true) ev_int ea_nil)) (.tl (.tl (.tl .hd))) (by decide) (by decide)) o_add_int) (ea_cons (p := true) ev_int ea_nil)))) (Nat.le_of_ble_eq_true rfl)
      · intro Gi Hi gi
        exact ⟨_, rfl, rfl⟩
      · rintro Gi si k xc d σ' Gj Hj Mj hd sj Sj rxc ⟨t12, rfl, rfl⟩
        obtain ⟨c, rfl⟩ : ∃ c, d = .int c := by
          have := List.mem_of_getElem? hd
          simp only [List.mem_cons, List.not_mem_nil, or_false] at this
          rcases this with rfl | rfl | rfl | rfl <;> exact ⟨_, rfl⟩
        obtain rfl := rxc.of_int
        have sij := sgh.trans (si.trans sj)
        refine s_gname ?_
        refine s_if (K := K) (cl := cl) (b := false) Sj (EvT.is (et_test (ev_op (p := false) (q := false) (r := true) (EvX.is (ev_inforce (K := K) (cl := cl) (p := true) (q := true) (List.Perm.refl _) .hd (ev_var (i := 1) rfl Rep.loc) (ea_cons (p := true) (ev_var (i := 11) rfl Rep.str) (ea_cons (p := true) (ev_var (i := 12) rfl Rep.int) ea_nil)) (rkf.mono sij)) (congrArg optC (hJ.due ho hr2))) (ev_call (p := true) (ea_cons (p := true) (ev_kget (p := true) (q := true) (k := .inr other) (kes := listK lh') (d := .lst (List.map rowD rows2)) (ev_var (i := 2) rfl Rep.loc) (ev_var (i := 11) rfl Rep.str) rfl (.tl (.tl (.tl (.tl .hd)))) (rlf.mono sij) (by rw [listK_val, hr2]; rfl)) (ea_cons (p := true) (ev_var (i := 12) rfl Rep.int) ea_nil)) ⟨_, _, rfl, rfl⟩) (o_neD (hdat2 _).1 (hdat2 _).1 (hdat2 _).2 (hdat2 _).2))) (by rw [D.eqb_refl (hdat2 _).1]; rfl)) ?_ ?_
        · intro Gk Hk gk hc
          cases hc
        · intro Gk Hk gk _
          exact s_next ⟨Gk, _, sj.trans gk.same, gk.sep, _, rfl, rfl⟩
      · rintro σ' Gi Hi Mi si Si ⟨t12, rfl, rfl⟩
        exact ⟨Gi, _, sh.trans si, Si, _, _, _, rfl, rfl⟩
    rintro σ' Gg Hg Mg sg Sg ⟨z, t11, t12, rfl, rfl⟩
    have hno : inF hist' "44" 5 = none := by
      unfold inF
      rw [hJ.no]
      rfl
    refine s_if (K := K) (cl := cl) (b := false) Sg (EvT.is (et_test (ev_op (p := false) (q := true) (r := true) (EvX.is (ev_inforce (K := K) (cl := cl) (p := true) (q := true) (List.Perm.refl _) .hd (ev_var (i := 1) rfl Rep.loc) (ea_cons (p := true) ev_str (ea_cons (p := true) ev_int ea_nil)) (rkf.mono sg)) (congrArg optC hno)) ev_non o_notN)) rfl) ?_ ?_
    · intro Gh Hh gh hc
      cases hc
    · intro Gh Hh gh _
      have Sz : Sep Gh Hh ((u, .lst (us ++ [vN])) :: (a, .lst [.int z]) :: (hs, .dK kw3) :: ConM cl x dx h kwc M) := gh.sep.perm ((List.perm_append_comm (l₁ := [(x, HO.ins (cl 2) dx (List.zip ["histories"] [.ref h])), (h, HO.dK kwc)]) (l₂ := [(u, HO.lst (us ++ [vN])), (a, HO.lst [.int z]), (hs, HO.dK kw3)])).append_right M)
      exact s_next ⟨Gh, _, s5.trans (sF.trans (sg.trans gh.same)), Sz.drop.drop, _, _, _, _, _, _, _, _, _, _, _, _, _, _, rfl, rfl, rkf.mono (sg.trans gh.same), rlf.mono (sg.trans gh.same), hJ⟩
  rintro σ' G4 H4 M4 s4 S4 ⟨kws, kw2, hist, lh, y3, y4, y5, y6, y7, y8, y9, y10, y11, y12, rfl, rfl, _, _, _⟩
  refine s_ret (K := K) (cl := cl) (d := .bl true) S4 ev_bl fun v G5 H5 g5 r5 => ?_
  obtain rfl := r5.of_bl
  have sZ := sA.trans (s4.trans g5.same)
  exact q G5 _ sZ sZ _ g5.sep
end
def sp_law0 (K : PySem.W.Frag) : Sp := fun vs H Q _ => ∃ (a : Addr) (ns : List Int), vs = [.ref a] ∧ SqL K H a (ns.map V.int) ∧ ns.length ≤ 63 ∧ ∀ H', Q (.bl true) H'
theorem sp_law_of [Wo] {K : PySem.W.Frag} {cl : Nat → Addr} {vs H Q E} (h : sp_law0 K vs H Q E) : sp_law K cl vs H Q E := by
  obtain ⟨a, ns, rfl, hS, hl, k⟩ := h
  exact ⟨H, [], Sep.nil, .ref a, ns, rfl, Rep.lst hS Reps.ints, fun G' M' _ _ H' _ => k H'⟩
local macro_rules | `(tactic| walk_at "ln") => `(tactic| (first
  | (rintro ⟨_, _, _, _, hR, _, rs, _⟩; rw [rs.length]; first | (obtain ⟨e, _⟩ := hR; rw [e]; exact rfl) | (obtain ⟨_, e, _⟩ := hR; rw [e]; exact rfl) | (obtain ⟨_, _, e, _⟩ := hR; rw [e]; exact rfl) | (obtain ⟨_, _, _, e, _⟩ := hR; rw [e]; exact rfl) | (obtain ⟨_, _, _, _, e, _⟩ := hR; rw [e]; exact rfl) | (obtain ⟨_, _, _, _, _, e, _⟩ := hR; rw [e]; exact rfl) | (obtain ⟨_, _, _, _, _, _, e, _⟩ := hR; rw [e]; exact rfl))
  | (rintro ⟨_, _, _, hR⟩; first | (obtain ⟨e, _⟩ := hR; rw [e]; exact rfl) | (obtain ⟨_, e, _⟩ := hR; rw [e]; exact rfl) | (obtain ⟨_, _, e, _⟩ := hR; rw [e]; exact rfl) | (obtain ⟨_, _, _, e, _⟩ := hR; rw [e]; exact rfl) | (obtain ⟨_, _, _, _, e, _⟩ := hR; rw [e]; exact rfl) | (obtain ⟨_, _, _, _, _, e, _⟩ := hR; rw [e]; exact rfl) | (obtain ⟨_, _, _, _, _, _, e, _⟩ := hR; rw [e]; exact rfl) | (obtain ⟨_, _, _, _, _, _, _, e, _⟩ := hR; rw [e]; exact rfl))
  | (rintro ⟨_, _, _, _, _, _, _, e0, hR, _, rs, _⟩; rw [e0, List.length_cons, rs.length]; first | (obtain ⟨hl, _⟩ := hR; rw [hl]; exact rfl) | (obtain ⟨e, _⟩ := hR; rw [e]; exact rfl) | (obtain ⟨_, e, _⟩ := hR; rw [e]; exact rfl) | (obtain ⟨_, _, e, _⟩ := hR; rw [e]; exact rfl) | (obtain ⟨_, _, _, e, _⟩ := hR; rw [e]; exact rfl) | (obtain ⟨_, _, _, _, e, _⟩ := hR; rw [e]; exact rfl))))
local macro_rules | `(tactic| walk_at "lnx") => `(tactic| first | (rintro ⟨e, _⟩; rw [e]; exact rfl) | (rintro ⟨_, h⟩; revert h; walk_at "lnx"))
local macro_rules | `(tactic| walk_at "ln") => `(tactic| (rintro ⟨_, _, _, hR⟩; revert hR; walk_at "lnx"))
def top (i : Nat) : Stmt := PySem.Challenge.pw_copperline_k84_contracts.main.body.getD i (.Pass ⟨0, 0, 0, 0⟩)
abbrev s_Contracts_init : Stmt := inClass (top 4) 0
theorem sc_Contracts_init : FnScope ["self"] ["self"] (defScope s_Contracts_init) := ⟨rfl, rfl, rfl, by decide +kernel, rfl, by decide +kernel, by decide +kernel⟩
abbrev s_Contracts_in_force : Stmt := inClass (top 4) 2
theorem sc_Contracts_in_force : FnScope ["self", "line", "clock", "found", "since", "account", "name"] ["self", "line", "clock"] (defScope s_Contracts_in_force) := ⟨rfl, rfl, rfl, by decide +kernel, rfl, by decide +kernel, by decide +kernel⟩
abbrev s_law_cell : Stmt := top 6
theorem sc_law_cell : FnScope ["script", "k"] ["script", "k"] (defScope s_law_cell) := ⟨rfl, rfl, rfl, by decide +kernel, rfl, by decide +kernel, by decide +kernel⟩
abbrev s_law_state : Stmt := top 7
theorem sc_law_state : FnScope ["cell", "k", "prime", "first", "second", "third", "fourth"] ["cell", "k"] (defScope s_law_state) := ⟨rfl, rfl, rfl, by decide +kernel, rfl, by decide +kernel, by decide +kernel⟩
abbrev s_law_digit : Stmt := top 8
theorem sc_law_digit : FnScope ["state", "many", "digit"] ["state", "many"] (defScope s_law_digit) := ⟨rfl, rfl, rfl, by decide +kernel, rfl, by decide +kernel, by decide +kernel⟩
abbrev s_law_due : Stmt := top 10
theorem sc_law_due : FnScope ["rows", "clock", "found", "since", "account", "name"] ["rows", "clock"] (defScope s_law_due) := ⟨rfl, rfl, rfl, by decide +kernel, rfl, by decide +kernel, by decide +kernel⟩
abbrev s_law_rows : Stmt := top 9
theorem sc_law_rows : FnScope ["state", "rows", "clock", "k", "account"] ["state"] (defScope s_law_rows) := ⟨rfl, rfl, rfl, by decide +kernel, rfl, by decide +kernel, by decide +kernel⟩
abbrev s_law_large : Stmt := top 12
theorem sc_law_large : FnScope ["script"] ["script"] (defScope s_law_large) := ⟨rfl, rfl, rfl, by decide +kernel, rfl, by decide +kernel, by decide +kernel⟩
abbrev s_Contracts_set_history : Stmt := inClass (top 4) 1
theorem sc_Contracts_set_history : FnScope ["self", "line", "rows", "place"] ["self", "line", "rows"] (defScope s_Contracts_set_history) := ⟨rfl, rfl, rfl, by decide +kernel, rfl, by decide +kernel, by decide +kernel⟩
abbrev s_law_set : Stmt := top 11
theorem sc_law_set : FnScope ["contracts", "line", "rows", "e"] ["contracts", "line", "rows"] (defScope s_law_set) := ⟨rfl, rfl, rfl, by decide +kernel, rfl, by decide +kernel, by decide +kernel⟩
abbrev s_law_long : Stmt := top 13
theorem sc_law_long : FnScope ["contracts", "script", "state", "rows", "k", "place", "turned", "clock"] ["contracts", "script"] (defScope s_law_long) := ⟨rfl, rfl, rfl, by decide +kernel, rfl, by decide +kernel, by decide +kernel⟩
abbrev s_law : Stmt := top 14
theorem sc_law : FnScope ["script", "contracts", "histories", "k", "state", "line", "rows", "ascending", "place", "given", "told", "other", "clock"] ["script"] (defScope s_law) := ⟨rfl, rfl, rfl, by decide +kernel, rfl, by decide +kernel, by decide +kernel⟩
abbrev s_BadHistory_init : Stmt := inClass (top 2) 0
theorem sc_BadHistory_init : SuScope ["self", "line"] (defScope s_BadHistory_init) := suScope_by (by decide +kernel)
abbrev pFile : Str := "/claim/cut.py"
structure Tx (P : Program) (K : PySem.W.Frag) (mg : Str → Option Value) (fn : Nat → Addr) (fd : Nat → FuncData) (cl : Nat → Addr) : Prop where
  F_Contracts_init : Fun K "__init__" "Contracts.__init__" s_Contracts_init (fn 1) (fd 1)
  b_Contracts_init : Binds K (fd 1) ["self"] []
  F_Contracts_set_history : Fun K "set_history" "Contracts.set_history" s_Contracts_set_history (fn 2) (fd 2)
  b_Contracts_set_history : Binds K (fd 2) ["self", "line", "rows"] []
  meth_Contracts_set_history : Meth K (cl 2) "set_history" (fn 2)
  F_Contracts_in_force : Fun K "in_force" "Contracts.in_force" s_Contracts_in_force (fn 3) (fd 3)
  b_Contracts_in_force : Binds K (fd 3) ["self", "line", "clock"] []
  meth_Contracts_in_force : Meth K (cl 2) "in_force" (fn 3)
  F_law_cell : Fun K "_law_cell" "_law_cell" s_law_cell (fn 4) (fd 4)
  b_law_cell : Binds K (fd 4) ["script", "k"] []
  m_law_cell : mg "_law_cell" = some (.ref (fn 4))
  F_law_state : Fun K "_law_state" "_law_state" s_law_state (fn 5) (fd 5)
  b_law_state : Binds K (fd 5) ["cell", "k"] []
  m_law_state : mg "_law_state" = some (.ref (fn 5))
  F_law_digit : Fun K "_law_digit" "_law_digit" s_law_digit (fn 6) (fd 6)
  b_law_digit : Binds K (fd 6) ["state", "many"] []
  m_law_digit : mg "_law_digit" = some (.ref (fn 6))
  F_law_rows : Fun K "_law_rows" "_law_rows" s_law_rows (fn 7) (fd 7)
  b_law_rows : Binds K (fd 7) ["state"] []
  m_law_rows : mg "_law_rows" = some (.ref (fn 7))
  F_law_due : Fun K "_law_due" "_law_due" s_law_due (fn 8) (fd 8)
  b_law_due : Binds K (fd 8) ["rows", "clock"] []
  m_law_due : mg "_law_due" = some (.ref (fn 8))
  F_law_set : Fun K "_law_set" "_law_set" s_law_set (fn 9) (fd 9)
  b_law_set : Binds K (fd 9) ["contracts", "line", "rows"] []
  m_law_set : mg "_law_set" = some (.ref (fn 9))
  F_law_large : Fun K "_law_large" "_law_large" s_law_large (fn 10) (fd 10)
  b_law_large : Binds K (fd 10) ["script"] []
  m_law_large : mg "_law_large" = some (.ref (fn 10))
  F_law_long : Fun K "_law_long" "_law_long" s_law_long (fn 11) (fd 11)
  b_law_long : Binds K (fd 11) ["contracts", "script"] []
  m_law_long : mg "_law_long" = some (.ref (fn 11))
  F_law : Fun K "law" "law" s_law (fn 12) (fd 12)
  b_law : Binds K (fd 12) ["script"] []
  m_law : mg "law" = some (.ref (fn 12))
  cf : Cf K cl
  m_Contracts : mg "Contracts" = some (.ref (cl 2))
  mk_Contracts : Mk K (cl 2) (fn 1)
  po : ProgOk P pFile
  m_BadHistory : mg "BadHistory" = some (.ref (cl 1))
  x_BadHistory : SuX K mg (cl 1) (fn 0) (fd 0) "BadHistory.__init__" s_BadHistory_init pFile
  b_BadHistory_init : Binds K (fd 0) ["self", "line"] []
  xf_BadHistory : XfC K (cl 1)
  xn_BadHistory_line : PySem.W.findIn K (.ref (cl 1)) "line" = some none
  z_int : mg "int" = none
  z_len : mg "len" = none
  z_list : mg "list" = none
  z_range : mg "range" = none
  z_tuple : mg "tuple" = none
section
variable {P : Program} {w : World} {K : PySem.W.Frag} {mg : Str → Option Value} {base : Heap} {fn : Nat → Addr} {fd : Nat → FuncData} {cl : Nat → Addr}
theorem ok_BadHistory_init (T : Tx P K mg fn fd cl) : FnOk P w K mg base CX0 2 (fn 0) (fd 0) ["self", "line"] (sp_BadHistory_init K cl) := by
  haveI := T.po
  refine T.x_BadHistory.ok (P := P) (k := 1) sc_BadHistory_init rfl rfl rfl (fun _ => rfl) (fun _ => ⟨_, rfl⟩) len_init1 (fun cda cc A outer s H vs Q E hr h => ?_)
  obtain ⟨a, h1, h2, h3⟩ := xsp1_read (x1 := "the contracts of the line ") (x3 := " are not right") T.x_BadHistory.T T.xn_BadHistory_line (by decide +kernel) (by decide +kernel) h
  exact ⟨_, _, a, pe_joined (.cons pe_str (.cons (pe_fmt (pv 1)) (.cons pe_str .nil))), pss_one (ps_ost (pv 0) (pv 1)), h1, h2, h3⟩
theorem ok_Contracts_init (T : Tx P K mg fn fd cl) : letI : Wo := ⟨P, w⟩; FnOk P w K mg base CX0 1 (fn 1) (fd 1) ["self"] (sp_Contracts_init K cl) := by
  haveI := T.cf
  letI : Wo := ⟨P, w⟩
  refine T.F_Contracts_init.ok sc_Contracts_init (fun vs H Q E h => by revert h; walk_at "ln") (fun cdv A outer s H vs Q E hr h => ⟨t_Contracts_init K cl, ?_, rd_Contracts_init h⟩)
  exact (pss_one (ps_fld (pv 0) (pe_new) rfl))
theorem ok_Contracts_in_force (T : Tx P K mg fn fd cl) : letI : Wo := ⟨P, w⟩; FnOk P w K mg base CX0 1 (fn 3) (fd 3) ["self", "line", "clock"] (sp_Contracts_in_force K cl) := by
  haveI := T.cf
  letI : Wo := ⟨P, w⟩
  refine T.F_Contracts_in_force.ok sc_Contracts_in_force (fun vs H Q E h => by revert h; walk_at "ln") (fun cdv A outer s H vs Q E hr h => ⟨t_Contracts_in_force K cl, ?_, rd_Contracts_in_force h⟩)
  exact (pss_cons (ps_set (i := 3) sc_Contracts_in_force.nd rfl (.inl rfl) (pe_non)) (pss_cons (ps_for PassesOwn.never rfl (pi_seq (pe_get2 hr.units (pe_fld (pv 0) rfl) (pv 1) (pe_tup pa_nil) ⟨rfl, rfl, rfl, rfl⟩)) (pg_tup rfl (pgs_cons (pg_name (i := 4) sc_Contracts_in_force.nd rfl (.inl rfl)) (pgs_cons (pg_name (i := 5) sc_Contracts_in_force.nd rfl (.inl rfl)) (pgs_cons (pg_name (i := 6) sc_Contracts_in_force.nd rfl (.inl rfl)) pgs_nil)))) (pss_one (ps_if (pt_cmpR op_le (pv 4) (pv 2) (nomark _)) (pss_one (ps_set (i := 3) sc_Contracts_in_force.nd rfl (.inl rfl) (pe_tup (pa_cons (pv 5) (pa_cons (pv 6) pa_nil))))) pss_nil))) (pss_cons (ps_if (PW.pt (pw_or (pt_cmpR op_isN (pv 3) (pe_non) (nomark _)) (pw_or1 (pt_cmpR op_isN (pe_ix ix_seq (pv 3) (pe_int) (fun _ _ => rfl)) (pe_non) (nomark _))))) (pss_one (ps_ret (pe_non))) pss_nil) (pss_one (ps_ret (pv 3))))))
theorem ok_law_cell (T : Tx P K mg fn fd cl) : letI : Wo := ⟨P, w⟩; FnOk P w K mg base CX0 1 (fn 4) (fd 4) ["script", "k"] (sp_law_cell K cl) := by
  haveI := T.cf
  letI : Wo := ⟨P, w⟩
  refine T.F_law_cell.ok sc_law_cell (fun vs H Q E h => by revert h; walk_at "ln") (fun cdv A outer s H vs Q E hr h => ⟨t_law_cell K cl, ?_, rd_law_cell h⟩)
  exact (pss_cons (ps_if (pt_cmpR op_lt (pv 1) (pe_callB call_len (by rfl) T.z_len (by decide +kernel) (pa_cons (pv 0) pa_nil)) (nomark _)) (pss_one (ps_ret (pe_ix ix_seq (pv 0) (pv 1) (fun _ _ => rfl)))) pss_nil) (pss_one (ps_ret (pe_int))))
theorem ok_law_state (T : Tx P K mg fn fd cl) : letI : Wo := ⟨P, w⟩; FnOk P w K mg base CX0 1 (fn 5) (fd 5) ["cell", "k"] (sp_law_state K cl) := by
  haveI := T.cf
  letI : Wo := ⟨P, w⟩
  refine T.F_law_state.ok sc_law_state (fun vs H Q E h => by revert h; walk_at "ln") (fun cdv A outer s H vs Q E hr h => ⟨t_law_state K cl, ?_, rd_law_state h⟩)
  exact (pss_cons (ps_if (pt_cmpR op_ge (pv 0) (pe_int) (nomark _)) (pss_one (ps_ret (pe_lst (pa_cons (pv 0) pa_nil)))) pss_nil) (pss_cons (ps_set (i := 2) sc_law_state.nd rfl (.inl rfl) (pe_int)) (pss_cons (ps_set (i := 3) sc_law_state.nd rfl (.inl rfl) (pe_op op_mod (pe_callTy call_int1 (by rfl) T.z_int (by decide +kernel) (pa_cons (pe_op op_addA (pe_op op_addA (pe_op op_mul (pv 0) (pe_int)) (pe_op op_mul (pe_op op_addA (pv 1) (pe_int)) (pe_int))) (pe_int)) pa_nil)) (pv 2))) (pss_cons (ps_set (i := 4) sc_law_state.nd rfl (.inl rfl) (pe_op op_mod (pe_callTy call_int1 (by rfl) T.z_int (by decide +kernel) (pa_cons (pe_op op_addA (pe_op op_addA (pe_op op_mul (pv 3) (pv 3)) (pe_op op_mul (pe_int) (pv 3))) (pv 1)) pa_nil)) (pv 2))) (pss_cons (ps_set (i := 5) sc_law_state.nd rfl (.inl rfl) (pe_op op_mod (pe_callTy call_int1 (by rfl) T.z_int (by decide +kernel) (pa_cons (pe_op op_addA (pe_op op_addA (pe_op op_mul (pv 4) (pe_int)) (pe_op op_mul (pv 3) (pe_int))) (pe_int)) pa_nil)) (pv 2))) (pss_cons (ps_set (i := 6) sc_law_state.nd rfl (.inl rfl) (pe_op op_mod (pe_callTy call_int1 (by rfl) T.z_int (by decide +kernel) (pa_cons (pe_op op_addA (pe_op op_mul (pv 5) (pv 5)) (pv 4)) pa_nil)) (pv 2))) (pss_one (ps_ret (pe_lst (pa_cons (pe_op op_addA (pe_op op_mul (pe_op op_addA (pe_op op_mul (pe_op op_addA (pe_op op_mul (pv 6) (pv 2)) (pv 5)) (pv 2)) (pv 4)) (pv 2)) (pv 3)) pa_nil))))))))))
theorem ok_law_digit (T : Tx P K mg fn fd cl) : letI : Wo := ⟨P, w⟩; FnOk P w K mg base CX0 1 (fn 6) (fd 6) ["state", "many"] (sp_law_digit K cl) := by
  haveI := T.cf
  letI : Wo := ⟨P, w⟩
  refine T.F_law_digit.ok sc_law_digit (fun vs H Q E h => by revert h; walk_at "ln") (fun cdv A outer s H vs Q E hr h => ⟨t_law_digit K cl, ?_, rd_law_digit h⟩)
  exact (pss_cons (ps_set (i := 2) sc_law_digit.nd rfl (.inl rfl) (pe_op op_mod (pe_callTy call_int1 (by rfl) T.z_int (by decide +kernel) (pa_cons (pe_ix ix_seq (pv 0) (pe_int) (fun _ _ => rfl)) pa_nil)) (pv 1))) (pss_cons (ps_asg (pe_op op_fdiv (pe_ix ix_seq (pv 0) (pe_int) (fun _ _ => rfl)) (pv 1)) (pg_sub (pv 0) (pe_int) set_list)) (pss_one (ps_ret (pv 2)))))
theorem ok_law_due (T : Tx P K mg fn fd cl) : letI : Wo := ⟨P, w⟩; FnOk P w K mg base CX0 1 (fn 8) (fd 8) ["rows", "clock"] (sp_law_due K cl) := by
  haveI := T.cf
  letI : Wo := ⟨P, w⟩
  refine T.F_law_due.ok sc_law_due (fun vs H Q E h => by revert h; walk_at "ln") (fun cdv A outer s H vs Q E hr h => ⟨t_law_due K cl, ?_, rd_law_due h⟩)
  exact (pss_cons (ps_set (i := 2) sc_law_due.nd rfl (.inl rfl) (pe_non)) (pss_cons (ps_for PassesOwn.never rfl (pi_seq (pv 0)) (pg_tup rfl (pgs_cons (pg_name (i := 3) sc_law_due.nd rfl (.inl rfl)) (pgs_cons (pg_name (i := 4) sc_law_due.nd rfl (.inl rfl)) (pgs_cons (pg_name (i := 5) sc_law_due.nd rfl (.inl rfl)) pgs_nil)))) (pss_one (ps_if (pt_cmpR op_le (pv 3) (pv 1) (nomark _)) (pss_one (ps_set (i := 2) sc_law_due.nd rfl (.inl rfl) (pe_tup (pa_cons (pv 4) (pa_cons (pv 5) pa_nil))))) pss_nil))) (pss_cons (ps_if (PW.pt (pw_and (pt_cmpR op_notN (pv 2) (pe_non) (nomark _)) (pw_and1 (pt_cmpR op_isN (pe_ix ix_seq (pv 2) (pe_int) (fun _ _ => rfl)) (pe_non) (nomark _))))) (pss_one (ps_ret (pe_non))) pss_nil) (pss_one (ps_ret (pv 2))))))
theorem ok_law_rows (T : Tx P K mg fn fd cl) : letI : Wo := ⟨P, w⟩; FnOk P w K mg base CX0 2 (fn 7) (fd 7) ["state"] (sp_law_rows K cl) := by
  haveI := T.cf
  letI : Wo := ⟨P, w⟩
  refine T.F_law_rows.ok sc_law_rows (fun vs H Q E h => by revert h; walk_at "ln") (fun cdv A outer s H vs Q E hr h => ⟨t_law_rows K cl, ?_, rd_law_rows h⟩)
  exact (pss_cons (ps_set (i := 1) sc_law_rows.nd rfl (.inl rfl) (pe_lst pa_nil)) (pss_cons (ps_set (i := 2) sc_law_rows.nd rfl (.inl rfl) (pe_call (ok_law_digit T) (hr.mono (by decide)) (by rfl) T.m_law_digit T.F_law_digit.kp T.b_law_digit .nil pass0 (pa_cons (pv 0) (pa_cons (pe_int) pa_nil)))) (pss_cons (ps_for PassesOwn.never rfl (pi_range1 (by rfl) T.z_range (pa_cons (pe_call (ok_law_digit T) (hr.mono (by decide)) (by rfl) T.m_law_digit T.F_law_digit.kp T.b_law_digit .nil pass0 (pa_cons (pv 0) (pa_cons (pe_int) pa_nil))) pa_nil)) (pg_name (i := 3) sc_law_rows.nd rfl (.inl rfl)) (pss_cons (ps_set (i := 4) sc_law_rows.nd rfl (.inl rfl) (pe_ix ix_seq (pe_tup (pa_cons (pe_non) (pa_cons (pe_str) (pa_cons (pe_str) pa_nil)))) (pe_call (ok_law_digit T) (hr.mono (by decide)) (by rfl) T.m_law_digit T.F_law_digit.kp T.b_law_digit .nil pass0 (pa_cons (pv 0) (pa_cons (pe_int) pa_nil))) (fun _ _ => rfl))) (pss_cons (ps_expr (pe_bm PySem.F.plainAttrs_list PySem.F.slot_list_append PySem.F.type_list_append mt_append (pv 1) (pa_cons (pe_tup (pa_cons (pv 2) (pa_cons (pv 4) (pa_cons (pe_ix ix_seq (pe_tup (pa_cons (pe_str) (pa_cons (pe_str) pa_nil))) (pe_call (ok_law_digit T) (hr.mono (by decide)) (by rfl) T.m_law_digit T.F_law_digit.kp T.b_law_digit .nil pass0 (pa_cons (pv 0) (pa_cons (pe_int) pa_nil))) (fun _ _ => rfl)) pa_nil)))) pa_nil))) (pss_one (ps_set (i := 2) sc_law_rows.nd rfl (.inl rfl) (pe_op op_addA (pv 2) (pe_call (ok_law_digit T) (hr.mono (by decide)) (by rfl) T.m_law_digit T.F_law_digit.kp T.b_law_digit .nil pass0 (pa_cons (pv 0) (pa_cons (pe_int) pa_nil))))))))) (pss_one (ps_ret (pv 1))))))
theorem ok_law_large (T : Tx P K mg fn fd cl) : letI : Wo := ⟨P, w⟩; FnOk P w K mg base CX0 2 (fn 10) (fd 10) ["script"] (sp_law_large K cl) := by
  haveI := T.cf
  letI : Wo := ⟨P, w⟩
  refine T.F_law_large.ok sc_law_large (fun vs H Q E h => by revert h; walk_at "ln") (fun cdv A outer s H vs Q E hr h => ⟨t_law_large K cl, ?_, rd_law_large h⟩)
  exact (pss_one (ps_ret (pe_cmpR (op_eqA hr.units) (pe_call (ok_law_digit T) (hr.mono (by decide)) (by rfl) T.m_law_digit T.F_law_digit.kp T.b_law_digit .nil pass0 (pa_cons (pe_call (ok_law_state T) (hr.mono (by decide)) (by rfl) T.m_law_state T.F_law_state.kp T.b_law_state .nil pass0 (pa_cons (pe_call (ok_law_cell T) (hr.mono (by decide)) (by rfl) T.m_law_cell T.F_law_cell.kp T.b_law_cell .nil pass0 (pa_cons (pv 0) (pa_cons (pe_int) pa_nil))) (pa_cons (pe_int) pa_nil))) (pa_cons (pe_int) pa_nil))) (pe_int) (nomark _))))
theorem ok_Contracts_set_history (T : Tx P K mg fn fd cl) : letI : Wo := ⟨P, w⟩; FnOk P w K mg base (L2.CX P w) 4 (fn 2) (fd 2) ["self", "line", "rows"] (sp_Contracts_set_history K cl) := by
  haveI := T.cf
  letI : Wo := ⟨P, w⟩
  refine T.F_Contracts_set_history.okX sc_Contracts_set_history (fun vs H Q E h => by revert h; walk_at "ln") (fun cdv A outer s H vs Q E hr h => ⟨t_Contracts_set_history K cl E, ?_, rd_Contracts_set_history h⟩)
  exact (pss_cons (ps_for (passes_of rfl) rfl (pi_range2 (by rfl) T.z_range (pa_cons (pe_int) (pa_cons (pe_callB call_len (by rfl) T.z_len (by decide +kernel) (pa_cons (pv 2) pa_nil)) pa_nil))) (pg_name (i := 3) sc_Contracts_set_history.nd rfl (.inl rfl)) (pss_one (ps_if (pt_cmpR op_le (pe_ix ix_seq (pe_ix ix_seq (pv 2) (pv 3) (fun _ _ => rfl)) (pe_int) (fun _ _ => rfl)) (pe_ix ix_seq (pe_ix ix_seq (pv 2) (pe_op op_sub (pv 3) (pe_int)) (fun _ _ => rfl)) (pe_int) (fun _ _ => rfl)) (nomark _)) (pss_one (ps_raise rfl (takes_of rfl rfl rfl rfl) (pmk_oex T.x_BadHistory.T T.x_BadHistory.iC T.x_BadHistory.tI (ok_BadHistory_init T) (hr.mono (by decide)) T.b_BadHistory_init .nil pass0 (by rfl) T.m_BadHistory (pa_cons (pv 1) pa_nil)))) pss_nil))) (pss_one (ps_if (pt_tr (pv 2)) (pss_one (ps_asg (pe_callTy call_tuple_of (by rfl) T.z_tuple (by decide +kernel) (pa_cons (pv 2) pa_nil)) (pg_sub (pe_fld (pv 0) rfl) (pv 1) (set_dictA hr.units)))) (pss_one (ps_if (pt_cmpR (op_inA hr.units) (pv 1) (pe_fld (pv 0) rfl) (by rfl)) (pss_one (ps_delA hr.units (pe_fld (pv 0) rfl) (pv 1))) pss_nil)))))
theorem ok_law_set (T : Tx P K mg fn fd cl) : letI : Wo := ⟨P, w⟩; FnOk P w K mg base CX0 5 (fn 9) (fd 9) ["contracts", "line", "rows"] (sp_law_set K cl) := by
  haveI := T.cf
  letI : Wo := ⟨P, w⟩
  refine T.F_law_set.ok sc_law_set (fun vs H Q E h => by revert h; walk_at "ln") (fun cdv A outer s H vs Q E hr h => ⟨t_law_set K cl, ?_, rd_law_set h⟩)
  exact (pss_cons (ps_try_as (i := 3) (tb := fun W => (tDrop (tMethS (cl 2) "set_history" (sp_Contracts_set_history K cl) (WE W) (tVar 0) (tCons (tVar 1) (tCons (tVar 2) tNil))))) (ts := fun a cls d => (tRet (tTup (tCons (tC (.str "refused")) (tCons (tXf a cls d (cl 1) "line" (tVar 3)) tNil))))) (Wout := fun _ _ _ _ => False) rfl rfl sc_law_set.nd rfl rfl ⟨rfl, by decide, .inl T.m_BadHistory⟩ takes0 (fun W pn xe tk po => (pss_one (ps_expr (pe_methS (pv 0) T.cf.cl_Contracts T.meth_Contracts_set_history (ok_Contracts_set_history T) (hr.mono (by decide)) T.b_Contracts_set_history (fun σ => passAt tk σ) (pa_cons (pv 1) (pa_cons (pv 2) pa_nil)))))) (fun a oe cls d pn hz hf => (pss_one (ps_ret (pe_tup (pa_cons (pe_str) (pa_cons (pe_xf T.xf_BadHistory T.xn_BadHistory_line hz hf (pv 3)) pa_nil))))))) (pss_one (ps_ret (pe_tup (pa_cons (pe_str) (pa_cons (pv 1) pa_nil))))))
theorem ok_law_long (T : Tx P K mg fn fd cl) : letI : Wo := ⟨P, w⟩; FnOk P w K mg base CX0 6 (fn 11) (fd 11) ["contracts", "script"] (sp_law_long K cl) := by
  haveI := T.cf
  letI : Wo := ⟨P, w⟩
  refine T.F_law_long.ok sc_law_long (fun vs H Q E h => by revert h; walk_at "ln") (fun cdv A outer s H vs Q E hr h => ⟨t_law_long K cl, ?_, rd_law_long h⟩)
  exact (pss_cons (ps_set (i := 2) sc_law_long.nd rfl (.inl rfl) (pe_call (ok_law_state T) (hr.mono (by decide)) (by rfl) T.m_law_state T.F_law_state.kp T.b_law_state .nil pass0 (pa_cons (pe_call (ok_law_cell T) (hr.mono (by decide)) (by rfl) T.m_law_cell T.F_law_cell.kp T.b_law_cell .nil pass0 (pa_cons (pv 1) (pa_cons (pe_int) pa_nil))) (pa_cons (pe_int) pa_nil)))) (pss_cons (ps_set (i := 3) sc_law_long.nd rfl (.inl rfl) (pe_lst pa_nil)) (pss_cons (ps_for PassesOwn.never rfl (pi_range1 (by rfl) T.z_range (pa_cons (pe_int) pa_nil)) (pg_name (i := 4) sc_law_long.nd rfl (.inl rfl)) (pss_one (ps_expr (pe_bm PySem.F.plainAttrs_list PySem.F.slot_list_append PySem.F.type_list_append mt_append (pv 3) (pa_cons (pe_tup (pa_cons (pe_op op_mul (pe_int) (pv 4)) (pa_cons (pe_ix ix_seq (pe_tup (pa_cons (pe_non) (pa_cons (pe_str) (pa_cons (pe_str) pa_nil)))) (pe_op op_mod (pe_callTy call_int1 (by rfl) T.z_int (by decide +kernel) (pa_cons (pv 4) pa_nil)) (pe_int)) (fun _ _ => rfl)) (pa_cons (pe_ix ix_seq (pe_tup (pa_cons (pe_str) (pa_cons (pe_str) pa_nil))) (pe_op op_mod (pe_callTy call_int1 (by rfl) T.z_int (by decide +kernel) (pa_cons (pv 4) pa_nil)) (pe_int)) (fun _ _ => rfl)) pa_nil)))) pa_nil))))) (pss_cons (ps_set (i := 5) sc_law_long.nd rfl (.inl rfl) (pe_call (ok_law_digit T) (hr.mono (by decide)) (by rfl) T.m_law_digit T.F_law_digit.kp T.b_law_digit .nil pass0 (pa_cons (pv 2) (pa_cons (pe_int) pa_nil)))) (pss_cons (ps_if (pt_cmpR (op_neA hr.units) (pe_call (ok_law_set T) (hr.mono (by decide)) (by rfl) T.m_law_set T.F_law_set.kp T.b_law_set .nil pass0 (pa_cons (pv 0) (pa_cons (pe_str) (pa_cons (pv 3) pa_nil)))) (pe_tup (pa_cons (pe_str) (pa_cons (pe_str) pa_nil))) (nomark _)) (pss_one (ps_ret (pe_bl))) pss_nil) (pss_cons (ps_set (i := 6) sc_law_long.nd rfl (.inl rfl) (pe_op op_addA (pe_op op_addA (pe_slice sl_any (pv 3) po_none (po_some (pv 5))) (pe_lst (pa_cons (pe_ix ix_seq (pv 3) (pe_op op_addA (pv 5) (pe_int)) (fun _ _ => rfl)) (pa_cons (pe_ix ix_seq (pv 3) (pv 5) (fun _ _ => rfl)) pa_nil)))) (pe_slice sl_any (pv 3) (po_some (pe_op op_addA (pv 5) (pe_int))) po_none))) (pss_cons (ps_if (pt_cmpR (op_neA hr.units) (pe_call (ok_law_set T) (hr.mono (by decide)) (by rfl) T.m_law_set T.F_law_set.kp T.b_law_set .nil pass0 (pa_cons (pv 0) (pa_cons (pe_str) (pa_cons (pv 6) pa_nil)))) (pe_tup (pa_cons (pe_str) (pa_cons (pe_str) pa_nil))) (nomark _)) (pss_one (ps_ret (pe_bl))) pss_nil) (pss_cons (ps_for PassesOwn.never rfl (pi_range1 (by rfl) T.z_range (pa_cons (pe_int) pa_nil)) (pg_name (i := 4) sc_law_long.nd rfl (.inl rfl)) (pss_cons (ps_set (i := 7) sc_law_long.nd rfl (.inl rfl) (pe_op op_addA (pe_op op_mul (pe_int) (pe_call (ok_law_digit T) (hr.mono (by decide)) (by rfl) T.m_law_digit T.F_law_digit.kp T.b_law_digit .nil pass0 (pa_cons (pv 2) (pa_cons (pe_int) pa_nil)))) (pe_op op_mul (pe_call (ok_law_digit T) (hr.mono (by decide)) (by rfl) T.m_law_digit T.F_law_digit.kp T.b_law_digit .nil pass0 (pa_cons (pv 2) (pa_cons (pe_int) pa_nil))) (pe_int)))) (pss_one (ps_if (pt_cmpR (op_neA hr.units) (pe_meth (pv 0) T.cf.cl_Contracts T.meth_Contracts_in_force (ok_Contracts_in_force T) (hr.mono (by decide)) T.b_Contracts_in_force .nil pass0 (pa_cons (pe_str) (pa_cons (pv 7) pa_nil))) (pe_call (ok_law_due T) (hr.mono (by decide)) (by rfl) T.m_law_due T.F_law_due.kp T.b_law_due .nil pass0 (pa_cons (pv 3) (pa_cons (pv 7) pa_nil))) (nomark _)) (pss_one (ps_ret (pe_bl))) pss_nil)))) (pss_one (ps_ret (pe_cmpR (op_eqA hr.units) (pe_meth (pv 0) T.cf.cl_Contracts T.meth_Contracts_in_force (ok_Contracts_in_force T) (hr.mono (by decide)) T.b_Contracts_in_force .nil pass0 (pa_cons (pe_str) (pa_cons (pe_int) pa_nil))) (pe_call (ok_law_due T) (hr.mono (by decide)) (by rfl) T.m_law_due T.F_law_due.kp T.b_law_due .nil pass0 (pa_cons (pv 3) (pa_cons (pe_int) pa_nil))) (nomark _))))))))))))
theorem ok_law (T : Tx P K mg fn fd cl) : letI : Wo := ⟨P, w⟩; FnOk P w K mg base CX0 7 (fn 12) (fd 12) ["script"] (sp_law K cl) := by
  haveI := T.cf
  letI : Wo := ⟨P, w⟩
  refine T.F_law.ok sc_law (fun vs H Q E h => by revert h; walk_at "ln") (fun cdv A outer s H vs Q E hr h => ⟨t_law K cl, ?_, rd_law h⟩)
  exact (pss_cons (ps_set (i := 1) sc_law.nd rfl (.inl rfl) (pe_make0 T.mk_Contracts (ok_Contracts_init T) (hr.mono (by decide)) (by rfl) T.m_Contracts T.b_Contracts_init .nil pass0 )) (pss_cons (ps_if (PW.pt (pw_and (pt_tr (pe_call (ok_law_large T) (hr.mono (by decide)) (by rfl) T.m_law_large T.F_law_large.kp T.b_law_large .nil pass0 (pa_cons (pv 0) pa_nil))) (pw_and1 (pt_not (pt_tr (pe_call (ok_law_long T) (hr.mono (by decide)) (by rfl) T.m_law_long T.F_law_long.kp T.b_law_long .nil pass0 (pa_cons (pv 1) (pa_cons (pv 0) pa_nil)))))))) (pss_one (ps_ret (pe_bl))) pss_nil) (pss_cons (ps_set (i := 2) sc_law.nd rfl (.inl rfl) (pe_disp (pps_cons (pe_str) (pe_lst pa_nil) (pps_cons (pe_str) (pe_lst pa_nil) (pps_cons (pe_str) (pe_lst pa_nil) pps_nil))) rfl rfl (fun h => nomatch h) (Nat.le_of_ble_eq_true rfl))) (pss_cons (ps_for PassesOwn.never rfl (pi_range1 (by rfl) T.z_range (pa_cons (pe_int) pa_nil)) (pg_name (i := 3) sc_law.nd rfl (.inl rfl)) (pss_cons (ps_set (i := 4) sc_law.nd rfl (.inl rfl) (pe_call (ok_law_state T) (hr.mono (by decide)) (by rfl) T.m_law_state T.F_law_state.kp T.b_law_state .nil pass0 (pa_cons (pe_call (ok_law_cell T) (hr.mono (by decide)) (by rfl) T.m_law_cell T.F_law_cell.kp T.b_law_cell .nil pass0 (pa_cons (pv 0) (pa_cons (pv 3) pa_nil))) (pa_cons (pv 3) pa_nil)))) (pss_cons (ps_set (i := 5) sc_law.nd rfl (.inl rfl) (pe_ix ix_seq (pe_tup (pa_cons (pe_str) (pa_cons (pe_str) (pa_cons (pe_str) pa_nil)))) (pe_call (ok_law_digit T) (hr.mono (by decide)) (by rfl) T.m_law_digit T.F_law_digit.kp T.b_law_digit .nil pass0 (pa_cons (pv 4) (pa_cons (pe_int) pa_nil))) (fun _ _ => rfl))) (pss_cons (ps_set (i := 6) sc_law.nd rfl (.inl rfl) (pe_call (ok_law_rows T) (hr.mono (by decide)) (by rfl) T.m_law_rows T.F_law_rows.kp T.b_law_rows .nil pass0 (pa_cons (pv 4) pa_nil))) (pss_cons (ps_set (i := 7) sc_law.nd rfl (.inl rfl) (pe_bl)) (pss_cons (ps_for PassesOwn.never rfl (pi_range2 (by rfl) T.z_range (pa_cons (pe_int) (pa_cons (pe_callB call_len (by rfl) T.z_len (by decide +kernel) (pa_cons (pv 6) pa_nil)) pa_nil))) (pg_name (i := 8) sc_law.nd rfl (.inl rfl)) (pss_one (ps_set (i := 7) sc_law.nd rfl (.inl rfl) ((pe_and (pv 7) (pe_one (pe_cmpR op_lt (pe_ix ix_seq (pe_ix ix_seq (pv 6) (pe_op op_sub (pv 8) (pe_int)) (fun _ _ => rfl)) (pe_int) (fun _ _ => rfl)) (pe_ix ix_seq (pe_ix ix_seq (pv 6) (pv 8) (fun _ _ => rfl)) (pe_int) (fun _ _ => rfl)) (nomark _)))))))) (pss_cons (ps_set (i := 9) sc_law.nd rfl (.inl rfl) (pe_callTy call_list_of (by rfl) T.z_list (by decide +kernel) (pa_cons (pv 6) pa_nil))) (pss_cons (ps_set (i := 10) sc_law.nd rfl (.inl rfl) (pe_call (ok_law_set T) (hr.mono (by decide)) (by rfl) T.m_law_set T.F_law_set.kp T.b_law_set .nil pass0 (pa_cons (pv 1) (pa_cons (pv 5) (pa_cons (pv 9) pa_nil))))) (pss_cons (ps_if (PW.pt (pw_or (pt_cmpR (op_neA hr.units) (pv 9) (pv 6) (nomark _)) (pw_or1 (pt_cmpR (op_neA hr.units) (pv 10) (pe_tup (pa_cons (pe_ix ix_seq (pe_tup (pa_cons (pe_str) (pa_cons (pe_str) pa_nil))) (pe_callTy call_int1 (by rfl) T.z_int (by decide +kernel) (pa_cons (pv 7) pa_nil)) (fun _ _ => rfl)) (pa_cons (pv 5) pa_nil))) (nomark _))))) (pss_one (ps_ret (pe_bl))) pss_nil) (pss_cons (ps_expr (pe_bm PySem.F.plainAttrs_list PySem.F.slot_list_append PySem.F.type_list_append mt_append (pv 9) (pa_cons (pe_tup (pa_cons (pe_int) (pa_cons (pe_str) (pa_cons (pe_str) pa_nil)))) pa_nil))) (pss_cons (ps_if (pt_tr (pv 7)) (pss_one (ps_asg (pv 6) (pg_sub (pv 2) (pv 5) (set_dictA hr.units)))) pss_nil) (pss_cons (ps_for PassesOwn.never rfl (pi_seq (pe_tup (pa_cons (pe_str) (pa_cons (pe_str) (pa_cons (pe_str) pa_nil))))) (pg_name (i := 11) sc_law.nd rfl (.inl rfl)) (pss_one (ps_for PassesOwn.never rfl (pi_seq (pe_tup (pa_cons (pe_int) (pa_cons (pe_call (ok_law_digit T) (hr.mono (by decide)) (by rfl) T.m_law_digit T.F_law_digit.kp T.b_law_digit .nil pass0 (pa_cons (pv 4) (pa_cons (pe_int) pa_nil))) (pa_cons (pe_op op_addA (pe_int) (pe_call (ok_law_digit T) (hr.mono (by decide)) (by rfl) T.m_law_digit T.F_law_digit.kp T.b_law_digit .nil pass0 (pa_cons (pv 4) (pa_cons (pe_int) pa_nil)))) (pa_cons (pe_int) pa_nil)))))) (pg_name (i := 12) sc_law.nd rfl (.inl rfl)) (pss_one (ps_if (pt_cmpR (op_neA hr.units) (pe_meth (pv 1) T.cf.cl_Contracts T.meth_Contracts_in_force (ok_Contracts_in_force T) (hr.mono (by decide)) T.b_Contracts_in_force .nil pass0 (pa_cons (pv 11) (pa_cons (pv 12) pa_nil))) (pe_call (ok_law_due T) (hr.mono (by decide)) (by rfl) T.m_law_due T.F_law_due.kp T.b_law_due .nil pass0 (pa_cons (pe_ix (ix_dictA hr.units) (pv 2) (pv 11) (fun _ _ => rfl)) (pa_cons (pv 12) pa_nil))) (nomark _)) (pss_one (ps_ret (pe_bl))) pss_nil))))) (pss_one (ps_if (pt_cmpR op_notN (pe_meth (pv 1) T.cf.cl_Contracts T.meth_Contracts_in_force (ok_Contracts_in_force T) (hr.mono (by decide)) T.b_Contracts_in_force .nil pass0 (pa_cons (pe_str) (pa_cons (pe_int) pa_nil))) (pe_non) (nomark _)) (pss_one (ps_ret (pe_bl))) pss_nil)))))))))))))) (pss_one (ps_ret (pe_bl)))))))
end
theorem all_mk {l : PySem.W.OpenLaw} {w : World} {K : PySem.W.Frag} {h : Heap} {mg : Str → Option Value} {fa : Addr} (X : K.In h) (G : h.Ns mainGlobals mg) (hfa : mg "law" = some (.ref fa))
    {f1 f2 f3 f4 f5 f6 f7 f8 f9 f10 f11 f12 : Addr}
    {c2 : Addr}
    {od1 an1 : Option Addr} {sl1 : Array (Option Value)} {oc1 kV1 dc1 pm1 cd1 ct1 : Value}
    {od2 an2 : Option Addr} {sl2 : Array (Option Value)} {oc2 kV2 dc2 pm2 cd2 ct2 : Value}
    {od3 an3 : Option Addr} {sl3 : Array (Option Value)} {oc3 kV3 dc3 pm3 cd3 ct3 : Value}
    {od4 an4 : Option Addr} {sl4 : Array (Option Value)} {oc4 kV4 dc4 pm4 cd4 ct4 : Value}
    {od5 an5 : Option Addr} {sl5 : Array (Option Value)} {oc5 kV5 dc5 pm5 cd5 ct5 : Value}
    {od6 an6 : Option Addr} {sl6 : Array (Option Value)} {oc6 kV6 dc6 pm6 cd6 ct6 : Value}
    {od7 an7 : Option Addr} {sl7 : Array (Option Value)} {oc7 kV7 dc7 pm7 cd7 ct7 : Value}
    {od8 an8 : Option Addr} {sl8 : Array (Option Value)} {oc8 kV8 dc8 pm8 cd8 ct8 : Value}
    {od9 an9 : Option Addr} {sl9 : Array (Option Value)} {oc9 kV9 dc9 pm9 cd9 ct9 : Value}
    {od10 an10 : Option Addr} {sl10 : Array (Option Value)} {oc10 kV10 dc10 pm10 cd10 ct10 : Value}
    {od11 an11 : Option Addr} {sl11 : Array (Option Value)} {oc11 kV11 dc11 pm11 cd11 ct11 : Value}
    {od12 an12 : Option Addr} {sl12 : Array (Option Value)} {oc12 kV12 dc12 pm12 cd12 ct12 : Value}
    {f0 c1 cda0 cc0 : Addr}
    {od0 an0 cld0 cdd0 dd0 : Option Addr} {sl0 csl0 ccs0 : Array (Option Value)} {vs0 : Array Value} {tf0 : Tok} {oc0 kV0 dc0 pm0 ct0 cl0 ccl0 : Value}
    {nm0 q0 : Str} {N0 : Addr} {bs0 bm0 : List Value} {sn0 : List Str} {sub0 : List Value} {ab0 : Bool} {col0 : Option Bool} {m00 m10 m20 m30 m50 : Option Value}
    (ca2 : PySem.W.nsIn K mainGlobals "Contracts" = some (some (.ref c2)))
    (mk2 : PySem.W.makesIn K c2 = true)
    (kc2 : PySem.W.keepIn K (.ref c2) = true)
    (pg2 : PySem.W.plainGet K c2 Str.empty = true)
    (hd2 : PySem.W.hasDictIn K c2 = true)
    (po2 : PySem.W.plainOver K c2 = true)
    (sa2 : PySem.W.findIn K (.ref c2) "__setattr__" = some (some (.builtin "object.__setattr__")))
    (n2_0 : PySem.W.findIn K (.ref c2) "histories" = some none)
    (a1 : PySem.W.findIn K (.ref c2) "__init__" = some (some (.ref f1)))
    (i1 : PySem.W.isFn K (.ref f1) = true)
    (l1 : K.lookup f1 = some ⟨oc1, od1, .func (PySem.W.fnOf "__init__" "Contracts.__init__" (defArgs s_Contracts_init) (defBody s_Contracts_init) (defScope s_Contracts_init) .none kV1 dc1 pm1 an1 cd1 ct1), sl1⟩)
    (k1 : PySem.W.codeIn K cd1 "Contracts.__init__" = true)
    (p1 : PySem.W.keepIn K (.ref f1) = true)
    (a2 : PySem.W.findIn K (.ref c2) "set_history" = some (some (.ref f2)))
    (i2 : PySem.W.isFn K (.ref f2) = true)
    (l2 : K.lookup f2 = some ⟨oc2, od2, .func (PySem.W.fnOf "set_history" "Contracts.set_history" (defArgs s_Contracts_set_history) (defBody s_Contracts_set_history) (defScope s_Contracts_set_history) .none kV2 dc2 pm2 an2 cd2 ct2), sl2⟩)
    (k2 : PySem.W.codeIn K cd2 "Contracts.set_history" = true)
    (p2 : PySem.W.keepIn K (.ref f2) = true)
    (a3 : PySem.W.findIn K (.ref c2) "in_force" = some (some (.ref f3)))
    (i3 : PySem.W.isFn K (.ref f3) = true)
    (l3 : K.lookup f3 = some ⟨oc3, od3, .func (PySem.W.fnOf "in_force" "Contracts.in_force" (defArgs s_Contracts_in_force) (defBody s_Contracts_in_force) (defScope s_Contracts_in_force) .none kV3 dc3 pm3 an3 cd3 ct3), sl3⟩)
    (k3 : PySem.W.codeIn K cd3 "Contracts.in_force" = true)
    (p3 : PySem.W.keepIn K (.ref f3) = true)
    (a4 : PySem.W.nsIn K mainGlobals "_law_cell" = some (some (.ref f4)))
    (l4 : K.lookup f4 = some ⟨oc4, od4, .func (PySem.W.fnOf "_law_cell" "_law_cell" (defArgs s_law_cell) (defBody s_law_cell) (defScope s_law_cell) .none kV4 dc4 pm4 an4 cd4 ct4), sl4⟩)
    (k4 : PySem.W.codeIn K cd4 "_law_cell" = true)
    (p4 : PySem.W.keepIn K (.ref f4) = true)
    (a5 : PySem.W.nsIn K mainGlobals "_law_state" = some (some (.ref f5)))
    (l5 : K.lookup f5 = some ⟨oc5, od5, .func (PySem.W.fnOf "_law_state" "_law_state" (defArgs s_law_state) (defBody s_law_state) (defScope s_law_state) .none kV5 dc5 pm5 an5 cd5 ct5), sl5⟩)
    (k5 : PySem.W.codeIn K cd5 "_law_state" = true)
    (p5 : PySem.W.keepIn K (.ref f5) = true)
    (a6 : PySem.W.nsIn K mainGlobals "_law_digit" = some (some (.ref f6)))
    (l6 : K.lookup f6 = some ⟨oc6, od6, .func (PySem.W.fnOf "_law_digit" "_law_digit" (defArgs s_law_digit) (defBody s_law_digit) (defScope s_law_digit) .none kV6 dc6 pm6 an6 cd6 ct6), sl6⟩)
    (k6 : PySem.W.codeIn K cd6 "_law_digit" = true)
    (p6 : PySem.W.keepIn K (.ref f6) = true)
    (a7 : PySem.W.nsIn K mainGlobals "_law_rows" = some (some (.ref f7)))
    (l7 : K.lookup f7 = some ⟨oc7, od7, .func (PySem.W.fnOf "_law_rows" "_law_rows" (defArgs s_law_rows) (defBody s_law_rows) (defScope s_law_rows) .none kV7 dc7 pm7 an7 cd7 ct7), sl7⟩)
    (k7 : PySem.W.codeIn K cd7 "_law_rows" = true)
    (p7 : PySem.W.keepIn K (.ref f7) = true)
    (a8 : PySem.W.nsIn K mainGlobals "_law_due" = some (some (.ref f8)))
    (l8 : K.lookup f8 = some ⟨oc8, od8, .func (PySem.W.fnOf "_law_due" "_law_due" (defArgs s_law_due) (defBody s_law_due) (defScope s_law_due) .none kV8 dc8 pm8 an8 cd8 ct8), sl8⟩)
    (k8 : PySem.W.codeIn K cd8 "_law_due" = true)
    (p8 : PySem.W.keepIn K (.ref f8) = true)
    (a9 : PySem.W.nsIn K mainGlobals "_law_set" = some (some (.ref f9)))
    (l9 : K.lookup f9 = some ⟨oc9, od9, .func (PySem.W.fnOf "_law_set" "_law_set" (defArgs s_law_set) (defBody s_law_set) (defScope s_law_set) .none kV9 dc9 pm9 an9 cd9 ct9), sl9⟩)
    (k9 : PySem.W.codeIn K cd9 "_law_set" = true)
    (p9 : PySem.W.keepIn K (.ref f9) = true)
    (a10 : PySem.W.nsIn K mainGlobals "_law_large" = some (some (.ref f10)))
    (l10 : K.lookup f10 = some ⟨oc10, od10, .func (PySem.W.fnOf "_law_large" "_law_large" (defArgs s_law_large) (defBody s_law_large) (defScope s_law_large) .none kV10 dc10 pm10 an10 cd10 ct10), sl10⟩)
    (k10 : PySem.W.codeIn K cd10 "_law_large" = true)
    (p10 : PySem.W.keepIn K (.ref f10) = true)
    (a11 : PySem.W.nsIn K mainGlobals "_law_long" = some (some (.ref f11)))
    (l11 : K.lookup f11 = some ⟨oc11, od11, .func (PySem.W.fnOf "_law_long" "_law_long" (defArgs s_law_long) (defBody s_law_long) (defScope s_law_long) .none kV11 dc11 pm11 an11 cd11 ct11), sl11⟩)
    (k11 : PySem.W.codeIn K cd11 "_law_long" = true)
    (p11 : PySem.W.keepIn K (.ref f11) = true)
    (a12 : PySem.W.nsIn K mainGlobals "law" = some (some (.ref f12)))
    (l12 : K.lookup f12 = some ⟨oc12, od12, .func (PySem.W.fnOf "law" "law" (defArgs s_law) (defBody s_law) (defScope s_law) .none kV12 dc12 pm12 an12 cd12 ct12), sl12⟩)
    (k12 : PySem.W.codeIn K cd12 "law" = true)
    (p12 : PySem.W.keepIn K (.ref f12) = true)
    (ca1 : PySem.W.nsIn K mainGlobals "BadHistory" = some (some (.ref c1)))
    (iC1 : PySem.W.findIn K (.ref c1) "__init__" = some (some (.ref f0)))
    (tI1 : PySem.W.typeIn K (.ref f0) = some (.type "function"))
    (l0 : K.lookup f0 = some ⟨oc0, od0, .func (PySem.W.ksFn "__init__" "BadHistory.__init__" (defArgs s_BadHistory_init) (defBody s_BadHistory_init) (defScope s_BadHistory_init) .none kV0 dc0 pm0 an0 (.ref cda0) ct0 cc0), sl0⟩)
    (k0 : PySem.W.codeIn K (.ref cda0) "BadHistory.__init__" = true)
    (hc0 : K.lookup cda0 = some ⟨ccl0, cdd0, .fields vs0, ccs0⟩)
    (hv0 : vs0[2]? = some (.str pFile tf0))
    (he0 : K.lookup cc0 = some ⟨cl0, cld0, .cell (some (.ref c1)), csl0⟩)
    (ik1 : PySem.W.isClsIn K c1 = true)
    (mr1 : PySem.W.mroIn K c1 (.ref c1) = some true)
    (sup1 : PySem.W.nsIn K mainGlobals "super" = some none)
    (th1 : PySem.W.nsIn K cStatics "thirdparty.any" = some none)
    (hm1 : PySem.W.ks_superIn K c1 c1 "__init__" = some (some (.builtin "ValueError.__init__")))
    (hB1 : PySem.W.subIn K (.ref c1) (.type "ValueError") = some true)
    (xL1 : K.lookup c1 = some (excClassObj nm0 q0 c1 N0 bs0 bm0 true sn0 sub0 ab0 col0 dd0 m00 m10 m20 m30 m50 "ValueError.__new__"))
    (rv1 : PySem.HandSPX.refsVE bm0 = true)
    (sa1 : PySem.W.findIn K (.ref c1) "__setattr__" = some (some (.builtin "object.__setattr__")))
    (ga1 : PySem.W.findIn K (.ref c1) "__getattribute__" = some (some (.builtin "BaseException.__getattribute__")))
    (gg1 : PySem.W.findIn K (.ref c1) "__getattr__" = some none)
    (eC1 : PySem.W.subIn K (.ref c1) (.type "BaseException") = some true)
    (tC1 : PySem.W.typeIn K (.ref c1) = some (.type "type"))
    (kc1 : PySem.W.keepIn K (.ref c1) = true)
    (hd1 : PySem.W.hasDictIn K c1 = true)
    (ss1 : PySem.W.subIn K (.ref c1) (.ref c1) = some true)
    (n1_0 : PySem.W.findIn K (.ref c1) "line" = some none)
    (hpo : ProgOk l.prog pFile)
    (z_int : PySem.W.nsIn K mainGlobals "int" = some none)
    (z_len : PySem.W.nsIn K mainGlobals "len" = some none)
    (z_list : PySem.W.nsIn K mainGlobals "list" = some none)
    (z_range : PySem.W.nsIn K mainGlobals "range" = some none)
    (z_tuple : PySem.W.nsIn K mainGlobals "tuple" = some none)
    : ∃ fd : FuncData, (∀ (s : Shared) (v : Value), BindsTo s fd ⟨[v], []⟩ [("script", v)]) ∧ ∀ base : Heap, K.In base → base.Ns mainGlobals mg → FnOk l.prog w K mg base CX0 7 fa fd ["script"] (sp_law0 K) := by
  have e := hfa.symm.trans (PySem.W.mg_of X G a12)
  cases e
  have F1 := fun_mk (st := s_Contracts_init) l1 k1 p1
  have b1 := F1.binds (ps := ["self"]) fun _ _ _ _ _ _ us hl => match us, hl with | [_], _ => rfl
  have F2 := fun_mk (st := s_Contracts_set_history) l2 k2 p2
  have b2 := F2.binds (ps := ["self", "line", "rows"]) fun _ _ _ _ _ _ us hl => match us, hl with | [_, _, _], _ => rfl
  have F3 := fun_mk (st := s_Contracts_in_force) l3 k3 p3
  have b3 := F3.binds (ps := ["self", "line", "clock"]) fun _ _ _ _ _ _ us hl => match us, hl with | [_, _, _], _ => rfl
  have F4 := fun_mk (st := s_law_cell) l4 k4 p4
  have b4 := F4.binds (ps := ["script", "k"]) fun _ _ _ _ _ _ us hl => match us, hl with | [_, _], _ => rfl
  have F5 := fun_mk (st := s_law_state) l5 k5 p5
  have b5 := F5.binds (ps := ["cell", "k"]) fun _ _ _ _ _ _ us hl => match us, hl with | [_, _], _ => rfl
  have F6 := fun_mk (st := s_law_digit) l6 k6 p6
  have b6 := F6.binds (ps := ["state", "many"]) fun _ _ _ _ _ _ us hl => match us, hl with | [_, _], _ => rfl
  have F7 := fun_mk (st := s_law_rows) l7 k7 p7
  have b7 := F7.binds (ps := ["state"]) fun _ _ _ _ _ _ us hl => match us, hl with | [_], _ => rfl
  have F8 := fun_mk (st := s_law_due) l8 k8 p8
  have b8 := F8.binds (ps := ["rows", "clock"]) fun _ _ _ _ _ _ us hl => match us, hl with | [_, _], _ => rfl
  have F9 := fun_mk (st := s_law_set) l9 k9 p9
  have b9 := F9.binds (ps := ["contracts", "line", "rows"]) fun _ _ _ _ _ _ us hl => match us, hl with | [_, _, _], _ => rfl
  have F10 := fun_mk (st := s_law_large) l10 k10 p10
  have b10 := F10.binds (ps := ["script"]) fun _ _ _ _ _ _ us hl => match us, hl with | [_], _ => rfl
  have F11 := fun_mk (st := s_law_long) l11 k11 p11
  have b11 := F11.binds (ps := ["contracts", "script"]) fun _ _ _ _ _ _ us hl => match us, hl with | [_, _], _ => rfl
  have F12 := fun_mk (st := s_law) l12 k12 p12
  have b12 := F12.binds (ps := ["script"]) fun _ _ _ _ _ _ us hl => match us, hl with | [_], _ => rfl
  have T1 : OexC K c1 := ⟨⟨_, _, _, _, _, _, _, _, _, _, _, _, _, _, _, xL1, rv1⟩, sa1, eC1, tC1, kc1⟩
  obtain ⟨cdx1, hcx1⟩ := Option.isSome_iff_exists.mp (show (PySem.W.clsIn K c1).isSome = true from ik1)
  have X1 : SuX K mg c1 f0 (PySem.W.ksFn "__init__" "BadHistory.__init__" (defArgs s_BadHistory_init) (defBody s_BadHistory_init) (defScope s_BadHistory_init) .none kV0 dc0 pm0 an0 (.ref cda0) ct0 cc0) "BadHistory.__init__" s_BadHistory_init pFile := ⟨⟨_, _, _, _, _, _, _, _, _, _, _, _, _, _, _, _, _, _, _, rfl, l0, k0, hc0, hv0, he0, hcx1⟩, mr1, PySem.W.mg_none_of X G sup1, th1, hm1, hB1, T1, iC1, tI1⟩
  have b0 := X1.binds (ps := ["self", "line"]) fun _ _ _ _ _ _ _ us hl => match us, hl with | [_, _], _ => rfl
  let fn : Nat → Addr := fun i => [f0, f1, f2, f3, f4, f5, f6, f7, f8, f9, f10, f11, fa].getD i 0
  let fd : Nat → FuncData := fun i => [PySem.W.ksFn "__init__" "BadHistory.__init__" (defArgs s_BadHistory_init) (defBody s_BadHistory_init) (defScope s_BadHistory_init) .none kV0 dc0 pm0 an0 (.ref cda0) ct0 cc0, PySem.W.fnOf "__init__" "Contracts.__init__" (defArgs s_Contracts_init) (defBody s_Contracts_init) (defScope s_Contracts_init) .none kV1 dc1 pm1 an1 cd1 ct1, PySem.W.fnOf "set_history" "Contracts.set_history" (defArgs s_Contracts_set_history) (defBody s_Contracts_set_history) (defScope s_Contracts_set_history) .none kV2 dc2 pm2 an2 cd2 ct2, PySem.W.fnOf "in_force" "Contracts.in_force" (defArgs s_Contracts_in_force) (defBody s_Contracts_in_force) (defScope s_Contracts_in_force) .none kV3 dc3 pm3 an3 cd3 ct3, PySem.W.fnOf "_law_cell" "_law_cell" (defArgs s_law_cell) (defBody s_law_cell) (defScope s_law_cell) .none kV4 dc4 pm4 an4 cd4 ct4, PySem.W.fnOf "_law_state" "_law_state" (defArgs s_law_state) (defBody s_law_state) (defScope s_law_state) .none kV5 dc5 pm5 an5 cd5 ct5, PySem.W.fnOf "_law_digit" "_law_digit" (defArgs s_law_digit) (defBody s_law_digit) (defScope s_law_digit) .none kV6 dc6 pm6 an6 cd6 ct6, PySem.W.fnOf "_law_rows" "_law_rows" (defArgs s_law_rows) (defBody s_law_rows) (defScope s_law_rows) .none kV7 dc7 pm7 an7 cd7 ct7, PySem.W.fnOf "_law_due" "_law_due" (defArgs s_law_due) (defBody s_law_due) (defScope s_law_due) .none kV8 dc8 pm8 an8 cd8 ct8, PySem.W.fnOf "_law_set" "_law_set" (defArgs s_law_set) (defBody s_law_set) (defScope s_law_set) .none kV9 dc9 pm9 an9 cd9 ct9, PySem.W.fnOf "_law_large" "_law_large" (defArgs s_law_large) (defBody s_law_large) (defScope s_law_large) .none kV10 dc10 pm10 an10 cd10 ct10, PySem.W.fnOf "_law_long" "_law_long" (defArgs s_law_long) (defBody s_law_long) (defScope s_law_long) .none kV11 dc11 pm11 an11 cd11 ct11, PySem.W.fnOf "law" "law" (defArgs s_law) (defBody s_law) (defScope s_law) .none kV12 dc12 pm12 an12 cd12 ct12].getD i (PySem.W.fnOf "law" "law" (defArgs s_law) (defBody s_law) (defScope s_law) .none kV12 dc12 pm12 an12 cd12 ct12)
  let cl : Nat → Addr := fun i => ([0, c1, c2] : List Addr).getD i 0
  have T : Tx l.prog K mg fn fd cl := {
    F_Contracts_init := F1,
    b_Contracts_init := b1,
    F_Contracts_set_history := F2,
    b_Contracts_set_history := b2,
    meth_Contracts_set_history := ⟨a2, i2, p2⟩,
    F_Contracts_in_force := F3,
    b_Contracts_in_force := b3,
    meth_Contracts_in_force := ⟨a3, i3, p3⟩,
    F_law_cell := F4,
    b_law_cell := b4,
    m_law_cell := PySem.W.mg_of X G a4,
    F_law_state := F5,
    b_law_state := b5,
    m_law_state := PySem.W.mg_of X G a5,
    F_law_digit := F6,
    b_law_digit := b6,
    m_law_digit := PySem.W.mg_of X G a6,
    F_law_rows := F7,
    b_law_rows := b7,
    m_law_rows := PySem.W.mg_of X G a7,
    F_law_due := F8,
    b_law_due := b8,
    m_law_due := PySem.W.mg_of X G a8,
    F_law_set := F9,
    b_law_set := b9,
    m_law_set := PySem.W.mg_of X G a9,
    F_law_large := F10,
    b_law_large := b10,
    m_law_large := PySem.W.mg_of X G a10,
    F_law_long := F11,
    b_law_long := b11,
    m_law_long := PySem.W.mg_of X G a11,
    F_law := F12,
    b_law := b12,
    m_law := PySem.W.mg_of X G a12,
    m_Contracts := PySem.W.mg_of X G ca2,
    mk_Contracts := ⟨mk2, a1, i1, kc2⟩,
    po := hpo,
    m_BadHistory := PySem.W.mg_of X G ca1,
    x_BadHistory := X1,
    b_BadHistory_init := b0,
    xf_BadHistory := ⟨ga1, gg1, eC1, hd1⟩,
    xn_BadHistory_line := n1_0,
    z_int := PySem.W.mg_none_of X G z_int,
    z_len := PySem.W.mg_none_of X G z_len,
    z_list := PySem.W.mg_none_of X G z_list,
    z_range := PySem.W.mg_none_of X G z_range,
    z_tuple := PySem.W.mg_none_of X G z_tuple,
    cf := { cl_Contracts := ⟨pg2, hd2, po2, sa2⟩, nf_Contracts_histories := n2_0, xm_BadHistory := exm_self eC1 ik1 tC1 ss1 } }
  letI : Wo := ⟨l.prog, w⟩
  exact ⟨fd 12, fun s v => .of_eq rfl, fun base _ _ => (ok_law T).imp fun vs H Q E h => sp_law_of h⟩
end L84
open PySem PySem.W PyProof.Rows
set_option maxRecDepth 100000 in
set_option maxHeartbeats 0 in
theorem PySem.Challenge.cw_copperline_k84_contracts_holds : PySem.Challenge.rw_copperline_k84_contracts.Holds := by
  w_on; o_law; k_head; (case hw => w_witness2)
  k_fill
  refine L2.walk_of (l := PySem.Challenge.rw_copperline_k84_contracts) (n := 63) (k := 7) (x := "script") (CX := fun _ => L2.CX0) (sp := fun w => L84.sp_law0 _) rfl (by decide) rfl ⟨rfl, by decide, by decide⟩ (fun w h Y => PySem.W.kIn_of Y) ?F (fun _ _ a ns hl _ hS => ⟨a, ns, rfl, hS, hl, fun _ => rfl⟩) (fun _ _ _ _ _ h => h)
  case F =>
    intro w mg fa h KX G hmg
    refine' L84.all_mk KX G hmg ?ca2 ?mk2 ?kc2 ?pg2 ?hd2 ?po2 ?sa2 ?n2_0 ?a1 ?i1 ?l1 ?k1 ?p1 ?a2 ?i2 ?l2 ?k2 ?p2 ?a3 ?i3 ?l3 ?k3 ?p3 ?a4 ?l4 ?k4 ?p4 ?a5 ?l5 ?k5 ?p5 ?a6 ?l6 ?k6 ?p6 ?a7 ?l7 ?k7 ?p7 ?a8 ?l8 ?k8 ?p8 ?a9 ?l9 ?k9 ?p9 ?a10 ?l10 ?k10 ?p10 ?a11 ?l11 ?k11 ?p11 ?a12 ?l12 ?k12 ?p12 ?ca1 ?iC1 ?tI1 ?l0 ?k0 ?hc0 ?hv0 ?he0 ?ik1 ?mr1 ?sup1 ?th1 ?hm1 ?hB1 ?xL1 ?rv1 ?sa1 ?ga1 ?gg1 ?eC1 ?tC1 ?kc1 ?hd1 ?ss1 ?n1_0 ?hpo ?z_int ?z_len ?z_list ?z_range ?z_tuple
    (case ca2 => k_is)
    (case mk2 => k_is)
    (case kc2 => k_is)
    (case pg2 => k_is)
    (case hd2 => k_is)
    (case po2 => k_is)
    (case sa2 => k_is)
    (case n2_0 => k_is)
    (case a1 => k_is)
    (case i1 => k_is)
    (case l1 => k_is)
    (case k1 => k_is)
    (case p1 => k_is)
    (case a2 => k_is)
    (case i2 => k_is)
    (case l2 => k_is)
    (case k2 => k_is)
    (case p2 => k_is)
    (case a3 => k_is)
    (case i3 => k_is)
    (case l3 => k_is)
    (case k3 => k_is)
    (case p3 => k_is)
    (case a4 => k_is)
    (case l4 => k_is)
    (case k4 => k_is)
    (case p4 => k_is)
    (case a5 => k_is)
    (case l5 => k_is)
    (case k5 => k_is)
    (case p5 => k_is)
    (case a6 => k_is)
    (case l6 => k_is)
    (case k6 => k_is)
    (case p6 => k_is)
    (case a7 => k_is)
    (case l7 => k_is)
    (case k7 => k_is)
    (case p7 => k_is)
    (case a8 => k_is)
    (case l8 => k_is)
    (case k8 => k_is)
    (case p8 => k_is)
    (case a9 => k_is)
    (case l9 => k_is)
    (case k9 => k_is)
    (case p9 => k_is)
    (case a10 => k_is)
    (case l10 => k_is)
    (case k10 => k_is)
    (case p10 => k_is)
    (case a11 => k_is)
    (case l11 => k_is)
    (case k11 => k_is)
    (case p11 => k_is)
    (case a12 => k_is)
    (case l12 => k_is)
    (case k12 => k_is)
    (case p12 => k_is)
    (case ca1 => k_is)
    (case iC1 => k_is)
    (case tI1 => k_is)
    (case l0 => k_is)
    (case k0 => k_is)
    (case hc0 => k_is)
    (case hv0 => first | rfl | k_is)
    (case he0 => k_is)
    (case ik1 => k_is)
    (case mr1 => first | rfl | k_is)
    (case sup1 => k_is)
    (case th1 => k_is)
    (case hm1 => first | rfl | k_is)
    (case hB1 => k_is)
    (case xL1 => k_is)
    (case rv1 => first | rfl | decide +kernel | k_is)
    (case sa1 => k_is)
    (case ga1 => k_is)
    (case gg1 => k_is)
    (case eC1 => k_is)
    (case tC1 => k_is)
    (case kc1 => k_is)
    (case hd1 => k_is)
    (case ss1 => first | rfl | k_is)
    (case n1_0 => k_is)
    (case hpo => exact ⟨by first | rfl | decide +kernel, by first | rfl | decide +kernel⟩)
    (case z_int => k_is)
    (case z_len => k_is)
    (case z_list => k_is)
    (case z_range => k_is)
    (case z_tuple => k_is)
