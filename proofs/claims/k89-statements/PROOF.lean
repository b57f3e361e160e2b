import PyProof.Rows.All
import Wide.All
import OpenK.AllK
import Wide.FinOn
import HandS.ForMost
import KE.KDictKeyed
import KE.SortData
import KE.SortKeyHeap
import KE.KDictSum
import HandS.Small
import PySem.Challenge.RW_copperline_k89_statements
set_option Elab.async false
set_option linter.all false
set_option maxRecDepth 100000
set_option maxHeartbeats 4000000
/-! Cp1: frozen data and owned cells over the hand layer: Sep G H M (G: what never changes any more, M: what is owned and may change), D (data as a tree), Rep (a value stands for such a tree). -/
namespace Cp
open PySem L2

/-! ### the heap in two parts -/
structure Sep (G H : Hp) (M : List (Addr × HO)) : Prop where
  sub : Same G H
  own : ∀ e ∈ M, H e.1 = some e.2 ∧ G e.1 = none
  nd : (M.map (·.1)).Nodup

theorem Sep.nil {H : Hp} : Sep H H [] := ⟨Same.refl H, (fun _ h => absurd h List.not_mem_nil), List.nodup_nil⟩
theorem Sep.at {G H : Hp} {M : List (Addr × HO)} (S : Sep G H M) {k : Nat} {a : Addr} {o : HO} (h : M[k]? = some (a, o)) : H a = some o :=
  (S.own (a, o) (List.mem_of_getElem? h)).1
theorem Sep.out {G H : Hp} {M : List (Addr × HO)} (S : Sep G H M) {k : Nat} {a : Addr} {o : HO} (h : M[k]? = some (a, o)) : G a = none :=
  (S.own (a, o) (List.mem_of_getElem? h)).2
theorem Sep.drop {G H : Hp} {M : List (Addr × HO)} {e : Addr × HO} (S : Sep G H (e :: M)) : Sep G H M :=
  ⟨S.sub, fun x hx => S.own x (List.mem_cons_of_mem _ hx), (List.nodup_cons.mp S.nd).2⟩
theorem Sep.swap {G H : Hp} {M : List (Addr × HO)} {e f : Addr × HO} (S : Sep G H (e :: f :: M)) : Sep G H (f :: e :: M) := by
  refine ⟨S.sub, fun x hx => S.own x ?_, ?_⟩
  · simp only [List.mem_cons] at hx ⊢
    rcases hx with h | h | h
    · exact .inr (.inl h)
    · exact .inl h
    · exact .inr (.inr h)
  · exact ((List.Perm.swap f e M).map (·.1)).nodup_iff.mp S.nd
theorem Sep.perm {G H : Hp} {M N : List (Addr × HO)} (S : Sep G H M) (p : M.Perm N) : Sep G H N :=
  ⟨S.sub, fun x hx => S.own x (p.mem_iff.mpr hx), (p.map (·.1)).nodup_iff.mp S.nd⟩
theorem perm_pull {α : Type} : ∀ (M : List α) (k : Nat) (e : α), M[k]? = some e → M.Perm (e :: M.eraseIdx k)
  | [], _, _, h => by simp at h
  | x :: M, 0, e, h => by
    have : x = e := by simpa using h
    subst this
    exact List.Perm.refl _
  | x :: M, k + 1, e, h => by
    have h' : M[k]? = some e := by simpa using h
    exact ((perm_pull M k e h').cons x).trans (List.Perm.swap e x _)
theorem Sep.pull {G H : Hp} {M : List (Addr × HO)} (S : Sep G H M) (k : Nat) {e : Addr × HO} (h : M[k]? = some e) : Sep G H (e :: M.eraseIdx k) := S.perm (perm_pull M k e h)
theorem Sep.keep {G H : Hp} {M N : List (Addr × HO)} (S : Sep G H (N ++ M)) : Sep G H M := by
  induction N with
  | nil => exact S
  | cons e N ih => exact ih S.drop

theorem same_tr {H H1 H2 : Hp} (b : Same H1 H2) (a : Same H H1) : Same H H2 := a.trans b
theorem Same.upd {H : Hp} {p : Addr} {o : HO} (h : H p = none) : Same H (upd H p o) := fun b x e => by
  rw [upd_ne (ne_of_none e h)]
  exact e
/-- a new object that is frozen at once -/
theorem Sep.newG {G H : Hp} {M : List (Addr × HO)} (S : Sep G H M) {p : Addr} {o : HO} (h : H p = none) : Sep (upd G p o) (upd H p o) M := by
  refine ⟨fun b x e => ?_, fun e he => ?_, S.nd⟩
  · by_cases q : b = p
    · subst q
      rw [upd_same] at e ⊢
      exact e
    · rw [upd_ne q] at e ⊢
      exact S.sub b x e
  · have h1 := S.own e he
    have q : e.1 ≠ p := ne_of_none h1.1 h
    rw [upd_ne q, upd_ne q]
    exact h1
theorem Sep.freshG {G H : Hp} {M : List (Addr × HO)} (S : Sep G H M) {p : Addr} (h : H p = none) : G p = none := S.sub.free h
/-- a new object that is owned -/
theorem Sep.newM {G H : Hp} {M : List (Addr × HO)} (S : Sep G H M) {p : Addr} {o : HO} (h : H p = none) : Sep G (upd H p o) ((p, o) :: M) := by
  refine ⟨S.sub.trans (Same.upd h), fun e he => ?_, ?_⟩
  · rcases List.mem_cons.mp he with rfl | he
    · exact ⟨upd_same, S.freshG h⟩
    · have h1 := S.own e he
      rw [upd_ne (ne_of_none h1.1 h)]
      exact h1
  · rw [List.map_cons]
    refine List.nodup_cons.mpr ⟨fun hm => ?_, S.nd⟩
    obtain ⟨e, he, q⟩ := List.mem_map.mp hm
    have h1 := (S.own e he).1
    rw [q, h] at h1
    cases h1
/-- an owned object at the head is frozen -/
theorem Sep.freeze {G H : Hp} {M : List (Addr × HO)} {p : Addr} {o : HO} (S : Sep G H ((p, o) :: M)) : Sep (upd G p o) H M ∧ Same G (upd G p o) := by
  have h0 := S.own (p, o) (List.mem_cons_self ..)
  refine ⟨⟨fun b x e => ?_, fun e he => ?_, (List.nodup_cons.mp S.nd).2⟩, Same.upd h0.2⟩
  · by_cases q : b = p
    · subst q
      rw [upd_same] at e
      rw [← e]
      exact h0.1
    · rw [upd_ne q] at e
      exact S.sub b x e
  · have h1 := S.own e (List.mem_cons_of_mem _ he)
    have q : e.1 ≠ p := fun z => (List.nodup_cons.mp S.nd).1 (by
      show p ∈ _
      rw [← z]
      exact List.mem_map.mpr ⟨e, he, rfl⟩)
    rw [upd_ne q]
    exact h1
/-- the k-th owned object changes -/
theorem Sep.set {G H : Hp} : ∀ {M : List (Addr × HO)} (S : Sep G H M) {k : Nat} {a : Addr} {o : HO} (o' : HO), M[k]? = some (a, o) → Sep G (upd H a o') (M.set k (a, o')) := by
  intro M S k a o o' h
  have hk : k < M.length := (List.getElem?_eq_some_iff.mp h).1
  have hg := S.out h
  have hmap : (M.set k (a, o')).map (·.1) = M.map (·.1) := by
    rw [List.map_set]
    show (M.map (·.1)).set k a = _
    have : (M.map (·.1))[k]? = some a := by rw [List.getElem?_map, h]; rfl
    obtain ⟨hk2, e⟩ := List.getElem?_eq_some_iff.mp this
    rw [← e]
    exact List.set_getElem_self hk2
  refine ⟨fun b x e => ?_, fun e he => ?_, by rw [hmap]; exact S.nd⟩
  · have q : b ≠ a := fun z => by rw [z, hg] at e; cases e
    rw [upd_ne q]
    exact S.sub b x e
  · obtain ⟨j, hj, hje⟩ := List.mem_iff_getElem.mp he
    rw [List.length_set] at hj
    by_cases q : j = k
    · subst q
      rw [List.getElem_set_self] at hje
      subst hje
      exact ⟨upd_same, hg⟩
    · rw [List.getElem_set_ne (fun z => q z.symm)] at hje
      have hm : e ∈ M := hje ▸ List.getElem_mem hj
      have h1 := S.own e hm
      have hne : e.1 ≠ a := fun z => by
        have e1 : (M.map (·.1))[j]? = some a := by
          rw [List.getElem?_map, List.getElem?_eq_getElem hj, hje, ← z]; rfl
        have e2 : (M.map (·.1))[k]? = some a := by rw [List.getElem?_map, h]; rfl
        have hjl : j < (M.map (·.1)).length := by rw [List.length_map]; exact hj
        exact q ((List.getElem?_inj hjl S.nd).mp (e1.trans e2.symm))
      rw [upd_ne hne]
      exact h1

/-! ### data as trees -/
inductive D where
  | non | bl (b : Bool) | int (i : Int) | str (x : Str)
  | lst (ds : List D) | tup (ds : List D)
  | ins (c : Nat) (ns : List Str) (ds : List D)
  /-- the object at an address, whatever it holds -/
  | loc (a : Addr)

def D.isNon : D → Bool
  | .non => true
  | _ => false
section
variable (K : PySem.W.Frag) (cl : Nat → Addr)
mutual
def Rep (G : Hp) : V → D → Prop
  | x, .non => x = .non
  | x, .bl b => x = .bl b
  | x, .int i => x = .int i
  | x, .str s => x = .str s
  | x, .lst ds => ∃ a vs, x = .ref a ∧ SqL K G a vs ∧ Reps G vs ds
  | x, .tup ds => ∃ a vs, x = .ref a ∧ SqT K G a vs ∧ Reps G vs ds
  | x, .ins c ns ds => ∃ a dx vs, x = .ref a ∧ G a = some (.ins (cl c) dx (ns.zip vs)) ∧ ns.length = vs.length ∧ Reps G vs ds
  | x, .loc a => x = .ref a
def Reps (G : Hp) : List V → List D → Prop
  | vs, [] => vs = []
  | vs, d :: ds => ∃ v ws, vs = v :: ws ∧ Rep G v d ∧ Reps G ws ds
end
end
section
variable {K : PySem.W.Frag} {cl : Nat → Addr} {G G' : Hp}
theorem Same.seqT {K : PySem.W.Frag} {H H' : Hp} {a : Addr} {xs : List V} (e : Same H H') (h : SqT K H a xs) : SqT K H' a xs := by
  rcases h with (h | ⟨o, h⟩) | h
  · exact .inl (.inl (e _ _ h))
  · exact .inl (.inr ⟨o, e _ _ h⟩)
  · exact .inr h
mutual
theorem Rep.mono (s : Same G G') : ∀ {x : V} {d : D}, Rep K cl G x d → Rep K cl G' x d
  | _, .non, h => by simp only [Rep] at h ⊢; exact h
  | _, .bl _, h => by simp only [Rep] at h ⊢; exact h
  | _, .int _, h => by simp only [Rep] at h ⊢; exact h
  | _, .str _, h => by simp only [Rep] at h ⊢; exact h
  | _, .loc _, h => by simp only [Rep] at h ⊢; exact h
  | _, .lst ds, h => by
    simp only [Rep] at h ⊢
    obtain ⟨a, vs, e, q, r⟩ := h
    exact ⟨a, vs, e, s.seq q, Reps.mono s r⟩
  | _, .tup ds, h => by
    simp only [Rep] at h ⊢
    obtain ⟨a, vs, e, q, r⟩ := h
    exact ⟨a, vs, e, Same.seqT s q, Reps.mono s r⟩
  | _, .ins c ns ds, h => by
    simp only [Rep] at h ⊢
    obtain ⟨a, dx, vs, e, q, l, r⟩ := h
    exact ⟨a, dx, vs, e, s _ _ q, l, Reps.mono s r⟩
theorem Reps.mono (s : Same G G') : ∀ {vs : List V} {ds : List D}, Reps K cl G vs ds → Reps K cl G' vs ds
  | _, [], h => by simp only [Reps] at h ⊢; exact h
  | _, d :: ds, h => by
    simp only [Reps] at h ⊢
    obtain ⟨v, ws, e, q, r⟩ := h
    exact ⟨v, ws, e, Rep.mono s q, Reps.mono s r⟩
end
theorem Reps.nil : Reps K cl G [] [] := by simp only [Reps]
theorem Reps.cons {v : V} {vs : List V} {d : D} {ds : List D} (h : Rep K cl G v d) (t : Reps K cl G vs ds) : Reps K cl G (v :: vs) (d :: ds) := by
  simp only [Reps]
  exact ⟨v, vs, rfl, h, t⟩
theorem Reps.uncons {vs : List V} {d : D} {ds : List D} (h : Reps K cl G vs (d :: ds)) : ∃ v ws, vs = v :: ws ∧ Rep K cl G v d ∧ Reps K cl G ws ds := by
  simp only [Reps] at h
  exact h
theorem Reps.length : ∀ {vs : List V} {ds : List D}, Reps K cl G vs ds → vs.length = ds.length
  | _, [], h => by simp only [Reps] at h; rw [h]; rfl
  | _, d :: ds, h => by
    obtain ⟨v, ws, rfl, _, r⟩ := h.uncons
    rw [List.length_cons, List.length_cons, r.length]
theorem Reps.get : ∀ {vs : List V} {ds : List D} {i : Nat} {v : V}, Reps K cl G vs ds → vs[i]? = some v → ∃ d, ds[i]? = some d ∧ Rep K cl G v d
  | vs, [], i, v, h, e => by simp only [Reps] at h; rw [h] at e; simp at e
  | vs, d :: ds, 0, v, h, e => by
    obtain ⟨w, ws, rfl, q, r⟩ := h.uncons
    have : w = v := by simpa using e
    exact ⟨d, rfl, this ▸ q⟩
  | vs, d :: ds, i + 1, v, h, e => by
    obtain ⟨w, ws, rfl, q, r⟩ := h.uncons
    obtain ⟨d', e', q'⟩ := r.get (i := i) (v := v) (by simpa using e)
    exact ⟨d', by simpa using e', q'⟩
theorem Reps.getD : ∀ {vs : List V} {ds : List D} {i : Nat} {d : D}, Reps K cl G vs ds → ds[i]? = some d → ∃ v, vs[i]? = some v ∧ Rep K cl G v d
  | vs, [], i, d, h, e => by simp at e
  | vs, c :: ds, 0, d, h, e => by
    obtain ⟨w, ws, rfl, q, r⟩ := h.uncons
    have : c = d := by simpa using e
    exact ⟨w, rfl, this ▸ q⟩
  | vs, c :: ds, i + 1, d, h, e => by
    obtain ⟨w, ws, rfl, q, r⟩ := h.uncons
    obtain ⟨v', e', q'⟩ := r.getD (i := i) (d := d) (by simpa using e)
    exact ⟨v', by simpa using e', q'⟩
theorem Reps.append : ∀ {vs : List V} {ds : List D} {us : List V} {es : List D}, Reps K cl G vs ds → Reps K cl G us es → Reps K cl G (vs ++ us) (ds ++ es)
  | vs, [], us, es, h, t => by
    simp only [Reps] at h
    rw [h]
    exact t
  | vs, d :: ds, us, es, h, t => by
    obtain ⟨w, ws, rfl, q, r⟩ := h.uncons
    exact Reps.cons q (r.append t)
theorem Reps.one {v : V} {d : D} (h : Rep K cl G v d) : Reps K cl G [v] [d] := Reps.cons h Reps.nil
theorem Reps.take : ∀ {vs : List V} {ds : List D} (n : Nat), Reps K cl G vs ds → Reps K cl G (vs.take n) (ds.take n)
  | _, _, 0, _ => Reps.nil
  | vs, [], n + 1, h => by
    simp only [Reps] at h
    rw [h]
    exact Reps.nil
  | vs, d :: ds, n + 1, h => by
    obtain ⟨w, ws, rfl, q, r⟩ := h.uncons
    exact Reps.cons q (r.take n)
theorem Reps.drop : ∀ {vs : List V} {ds : List D} (n : Nat), Reps K cl G vs ds → Reps K cl G (vs.drop n) (ds.drop n)
  | _, _, 0, h => h
  | vs, [], n + 1, h => by
    simp only [Reps] at h
    rw [h]
    exact Reps.nil
  | vs, d :: ds, n + 1, h => by
    obtain ⟨w, ws, rfl, q, r⟩ := h.uncons
    exact r.drop n
theorem Reps.set : ∀ {vs : List V} {ds : List D} (n : Nat) {v : V} {d : D}, Reps K cl G vs ds → Rep K cl G v d → Reps K cl G (vs.set n v) (ds.set n d)
  | vs, [], n, v, d, h, q => by
    simp only [Reps] at h
    rw [h]
    exact Reps.nil
  | vs, c :: ds, 0, v, d, h, q => by
    obtain ⟨w, ws, rfl, q', r⟩ := h.uncons
    exact Reps.cons q r
  | vs, c :: ds, n + 1, v, d, h, q => by
    obtain ⟨w, ws, rfl, q', r⟩ := h.uncons
    exact Reps.cons q' (r.set n q)
theorem Reps.map {α : Type} {f : α → V} {g : α → D} : ∀ {xs : List α}, (∀ x ∈ xs, Rep K cl G (f x) (g x)) → Reps K cl G (xs.map f) (xs.map g)
  | [], _ => Reps.nil
  | x :: xs, h => Reps.cons (h x (List.mem_cons_self ..)) (Reps.map fun y hy => h y (List.mem_cons_of_mem _ hy))
theorem Reps.ints {xs : List Int} : Reps K cl G (xs.map V.int) (xs.map D.int) := Reps.map fun x _ => by simp only [Rep]

theorem Rep.non : Rep K cl G .non .non := by simp only [Rep]
theorem Rep.bl {b : Bool} : Rep K cl G (.bl b) (.bl b) := by simp only [Rep]
theorem Rep.int {i : Int} : Rep K cl G (.int i) (.int i) := by simp only [Rep]
theorem Rep.str {x : Str} : Rep K cl G (.str x) (.str x) := by simp only [Rep]
theorem Rep.tup {a : Addr} {vs : List V} {ds : List D} (h : SqT K G a vs) (r : Reps K cl G vs ds) : Rep K cl G (.ref a) (.tup ds) := by
  simp only [Rep]
  exact ⟨a, vs, rfl, h, r⟩
theorem Rep.lst {a : Addr} {vs : List V} {ds : List D} (h : SqL K G a vs) (r : Reps K cl G vs ds) : Rep K cl G (.ref a) (.lst ds) := by
  simp only [Rep]
  exact ⟨a, vs, rfl, h, r⟩
theorem Rep.ins {a dx : Addr} {c : Nat} {ns : List Str} {vs : List V} {ds : List D} (h : G a = some (.ins (cl c) dx (ns.zip vs))) (l : ns.length = vs.length) (r : Reps K cl G vs ds) : Rep K cl G (.ref a) (.ins c ns ds) := by
  simp only [Rep]
  exact ⟨a, dx, vs, rfl, h, l, r⟩
theorem Rep.loc {a : Addr} : Rep K cl G (.ref a) (.loc a) := by simp only [Rep]
theorem Rep.of_loc {x : V} {a : Addr} (h : Rep K cl G x (.loc a)) : x = .ref a := by simpa only [Rep] using h
theorem Rep.of_non {x : V} (h : Rep K cl G x .non) : x = .non := by simpa only [Rep] using h
theorem Rep.of_bl {x : V} {b : Bool} (h : Rep K cl G x (.bl b)) : x = .bl b := by simpa only [Rep] using h
theorem Rep.of_int {x : V} {i : Int} (h : Rep K cl G x (.int i)) : x = .int i := by simpa only [Rep] using h
theorem Rep.of_str {x : V} {s : Str} (h : Rep K cl G x (.str s)) : x = .str s := by simpa only [Rep] using h
theorem Rep.of_tup {x : V} {ds : List D} (h : Rep K cl G x (.tup ds)) : ∃ a vs, x = .ref a ∧ SqT K G a vs ∧ Reps K cl G vs ds := by simpa only [Rep] using h
theorem Rep.of_lst {x : V} {ds : List D} (h : Rep K cl G x (.lst ds)) : ∃ a vs, x = .ref a ∧ SqL K G a vs ∧ Reps K cl G vs ds := by simpa only [Rep] using h
theorem Rep.of_ins {x : V} {c : Nat} {ns : List Str} {ds : List D} (h : Rep K cl G x (.ins c ns ds)) : ∃ a dx vs, x = .ref a ∧ G a = some (.ins (cl c) dx (ns.zip vs)) ∧ ns.length = vs.length ∧ Reps K cl G vs ds := by simpa only [Rep] using h
/-- None is told from all else -/
theorem Rep.isNon {x : V} {d : D} (h : Rep K cl G x d) : decide (x = .non) = d.isNon := by
  cases d with
  | non => rw [h.of_non]; rfl
  | bl b => rw [h.of_bl]; rfl
  | int i => rw [h.of_int]; rfl
  | str s => rw [h.of_str]; rfl
  | loc a => rw [h.of_loc]; rfl
  | lst ds => obtain ⟨a, vs, rfl, _⟩ := h.of_lst; rfl
  | tup ds => obtain ⟨a, vs, rfl, _⟩ := h.of_tup; rfl
  | ins c ns ds => obtain ⟨a, dx, vs, rfl, _⟩ := h.of_ins; rfl

/-! ### data that are compared -/
def D.py : D → PyData
  | .non => .none
  | .bl b => .bool b
  | .int i => .int i
  | .str s => .str s
  | .lst ds => .list (ds.map D.py)
  | .tup ds => .tuple (ds.map D.py)
  | .ins _ _ _ => .none
  | .loc _ => .none
end
end Cp
/-! Cp2: what an expression evaluates to, as data: EvX p te σ G M d M' (p: nothing changes), EvT, EvA; what statements do: s_*. -/
namespace Cp
open PySem L2

abbrev ML := List (Addr × HO)
/-- (a, o) stands in M -/
inductive At : ML → Addr → HO → Prop where
  | hd {a : Addr} {o : HO} {M : ML} : At ((a, o) :: M) a o
  | tl {a : Addr} {o : HO} {e : Addr × HO} {M : ML} : At M a o → At (e :: M) a o
/-- the same with another object there -/
inductive Ch : ML → Addr → HO → HO → ML → Prop where
  | hd {a : Addr} {o o' : HO} {M : ML} : Ch ((a, o) :: M) a o o' ((a, o') :: M)
  | tl {a : Addr} {o o' : HO} {e : Addr × HO} {M M' : ML} : Ch M a o o' M' → Ch (e :: M) a o o' (e :: M')
theorem At.ix {M : ML} {a : Addr} {o : HO} (h : At M a o) : ∃ k : Nat, M[k]? = some (a, o) := by
  induction h with
  | hd => exact ⟨0, rfl⟩
  | tl _ ih =>
    obtain ⟨k, e⟩ := ih
    exact ⟨k + 1, by simpa using e⟩
theorem Ch.ix {M M' : ML} {a : Addr} {o o' : HO} (h : Ch M a o o' M') : ∃ k : Nat, M[k]? = some (a, o) ∧ M' = M.set k (a, o') := by
  induction h with
  | hd => exact ⟨0, rfl, rfl⟩
  | tl _ ih =>
    obtain ⟨k, e, r⟩ := ih
    exact ⟨k + 1, by simpa using e, by rw [r]; rfl⟩
theorem Ch.at {M M' : ML} {a : Addr} {o o' : HO} (h : Ch M a o o' M') : At M a o := by
  induction h with
  | hd => exact .hd
  | tl _ ih => exact .tl ih
theorem At.ch {M : ML} {a : Addr} {o : HO} (h : At M a o) (o' : HO) : ∃ M', Ch M a o o' M' := by
  induction h with
  | hd => exact ⟨_, .hd⟩
  | tl _ ih => obtain ⟨M', c⟩ := ih; exact ⟨_, .tl c⟩
theorem Sep.look {G H : Hp} {M : ML} {a : Addr} {o : HO} (S : Sep G H M) (h : At M a o) : H a = some o := by
  obtain ⟨k, e⟩ := h.ix
  exact S.at e
theorem Sep.ch {G H : Hp} {M M' : ML} {a : Addr} {o o' : HO} (S : Sep G H M) (h : Ch M a o o' M') : Sep G (upd H a o') M' := by
  obtain ⟨k, e, r⟩ := h.ix
  rw [r]
  exact S.set o' e

section
structure Go (p : Bool) (M M' : ML) (G1 H1 G2 H2 : Hp) : Prop where
  same : Same G1 G2
  sep : Sep G2 H2 M'
  eq : p = true → G2 = G1 ∧ H2 = H1 ∧ M' = M
variable (K : PySem.W.Frag) (cl : Nat → Addr)
def EvX (p : Bool) (te : TE) (σ : St) (G : Hp) (M : ML) (d : D) (M' : ML) : Prop :=
  ∀ G1 H1, Same G G1 → Sep G1 H1 M → ∀ Q : VK, (∀ v G2 H2, Go p M M' G1 H1 G2 H2 → Rep K cl G2 v d → Q v H2) → te σ H1 Q
def EvT (_K : PySem.W.Frag) (_cl : Nat → Addr) (p : Bool) (tt : TT) (σ : St) (G : Hp) (M : ML) (b : Bool) (M' : ML) : Prop :=
  ∀ G1 H1, Same G G1 → Sep G1 H1 M → ∀ Q : Bool → Hp → Prop, (∀ G2 H2, Go p M M' G1 H1 G2 H2 → Q b H2) → tt σ H1 Q
def EvA (p : Bool) (ta : TA) (σ : St) (G : Hp) (M : ML) (ds : List D) (M' : ML) : Prop :=
  ∀ G1 H1, Same G G1 → Sep G1 H1 M → ∀ Q : List V → Hp → Prop, (∀ vs G2 H2, Go p M M' G1 H1 G2 H2 → Reps K cl G2 vs ds → Q vs H2) → ta σ H1 Q
/-- with any word of what comes out -/
def EvG (te : TE) (σ : St) (G : Hp) (M : ML) (F : V → Hp → ML → Prop) : Prop :=
  ∀ G1 H1, Same G G1 → Sep G1 H1 M → ∀ Q : VK, (∀ v G2 H2 M2, Same G1 G2 → Sep G2 H2 M2 → F v G2 M2 → Q v H2) → te σ H1 Q
/-- an operation on two data (M as it is) -/
def Op2 (p : Bool) (r : R2) (M : ML) (x y z : D) : Prop :=
  ∀ G1 H1, Sep G1 H1 M → ∀ u v, Rep K cl G1 u x → Rep K cl G1 v y → ∀ Q : VK, (∀ w G2 H2, Go p M M G1 H1 G2 H2 → Rep K cl G2 w z → Q w H2) → r u v H1 Q
def Op1 (p : Bool) (r : V → Hp → VK → Prop) (M : ML) (x z : D) : Prop :=
  ∀ G1 H1, Sep G1 H1 M → ∀ u, Rep K cl G1 u x → ∀ Q : VK, (∀ w G2 H2, Go p M M G1 H1 G2 H2 → Rep K cl G2 w z → Q w H2) → r u H1 Q
def OpN (p : Bool) (r : List V → Hp → VK → Prop) (M : ML) (xs : List D) (z : D) (M' : ML) : Prop :=
  ∀ G1 H1, Sep G1 H1 M → ∀ us, Reps K cl G1 us xs → ∀ Q : VK, (∀ w G2 H2, Go p M M' G1 H1 G2 H2 → Rep K cl G2 w z → Q w H2) → r us H1 Q
end
section
variable {K : PySem.W.Frag} {cl : Nat → Addr} {p q r : Bool} {M M1 M2 M3 M4 : ML} {G G1 G2 G3 H H1 H2 H3 : Hp} {σ : St} {ta tb te : TE} {tx : TA} {tt tu : TT} {d d1 d2 d3 : D} {ds : List D}

theorem Go.refl (S : Sep G H M) : Go true M M G H G H := ⟨Same.refl _, S, fun _ => ⟨rfl, rfl, rfl⟩⟩
theorem Go.trans (a : Go p M1 M2 G1 H1 G2 H2) (b : Go q M2 M3 G2 H2 G3 H3) : Go (p && q) M1 M3 G1 H1 G3 H3 :=
  ⟨a.same.trans b.same, b.sep, fun h => by
    obtain ⟨h1, h2⟩ := Bool.and_eq_true_iff.mp h
    obtain ⟨rfl, rfl, rfl⟩ := a.eq h1
    exact b.eq h2⟩
theorem Go.weak (a : Go p M1 M2 G1 H1 G2 H2) : Go false M1 M2 G1 H1 G2 H2 := ⟨a.same, a.sep, fun h => nomatch h⟩
theorem Go.of (s : Same G1 G2) (S : Sep G2 H2 M2) : Go false M1 M2 G1 H1 G2 H2 := ⟨s, S, fun h => nomatch h⟩

/-! ### expressions -/
theorem ev_var {i : Nat} {v : V} (h : σ[i]? = some (some v)) (hr : Rep K cl G v d) : EvX K cl true (tVar i) σ G M d M := fun G1 H1 s S Q k => ⟨v, h, k v G1 H1 (Go.refl S) (hr.mono s)⟩
theorem ev_int {i : Int} : EvX K cl true (tC (.int i)) σ G M (.int i) M := fun G1 H1 s S Q k => k _ G1 H1 (Go.refl S) Rep.int
theorem ev_str {x : Str} : EvX K cl true (tC (.str x)) σ G M (.str x) M := fun G1 H1 s S Q k => k _ G1 H1 (Go.refl S) Rep.str
theorem ev_bl {b : Bool} : EvX K cl true (tC (.bl b)) σ G M (.bl b) M := fun G1 H1 s S Q k => k _ G1 H1 (Go.refl S) Rep.bl
theorem ev_non : EvX K cl true (tC .non) σ G M .non M := fun G1 H1 s S Q k => k _ G1 H1 (Go.refl S) Rep.non
theorem ev_ref {a : Addr} : EvX K cl true (tC (.ref a)) σ G M (.loc a) M := fun G1 H1 s S Q k => k _ G1 H1 (Go.refl S) Rep.loc
theorem ev_op {rr : R2} (ha : EvX K cl p ta σ G M d1 M1) (hb : EvX K cl q tb σ G M1 d2 M2) (ho : Op2 K cl r rr M2 d1 d2 d3) : EvX K cl (p && q && r) (tOp rr ta tb) σ G M d3 M2 := fun G1 H1 s S Q k =>
  ha G1 H1 s S _ fun x G2 H2 g2 rx => hb G2 H2 (s.trans g2.same) g2.sep _ fun y G3 H3 g3 ry => ho G3 H3 g3.sep x y (rx.mono g3.same) ry Q fun w G4 H4 g4 rw' => k w G4 H4 ((g2.trans g3).trans g4) rw'
theorem ev_un {rr : V → Hp → VK → Prop} (ha : EvX K cl p ta σ G M d1 M1) (ho : Op1 K cl r rr M1 d1 d2) : EvX K cl (p && r) (tUn rr ta) σ G M d2 M1 := fun G1 H1 s S Q k =>
  ha G1 H1 s S _ fun x G2 H2 g2 rx => ho G2 H2 g2.sep x rx Q fun w G4 H4 g4 rw' => k w G4 H4 (g2.trans g4) rw'
theorem ea_nil : EvA K cl true tNil σ G M [] M := fun G1 H1 s S Q k => k [] G1 H1 (Go.refl S) Reps.nil
theorem ea_cons {tr : TA} (ha : EvX K cl p ta σ G M d M1) (hr : EvA K cl q tr σ G M1 ds M2) : EvA K cl (p && q) (tCons ta tr) σ G M (d :: ds) M2 := fun G1 H1 s S Q k =>
  ha G1 H1 s S _ fun x G2 H2 g2 rx => hr G2 H2 (s.trans g2.same) g2.sep _ fun xs G3 H3 g3 rxs => k _ G3 H3 (g2.trans g3) (Reps.cons (rx.mono g3.same) rxs)
theorem ev_cb {rr : List V → Hp → VK → Prop} (ha : EvA K cl p tx σ G M ds M1) (ho : OpN K cl q rr M1 ds d M2) : EvX K cl (p && q) (tCB rr tx) σ G M d M2 := fun G1 H1 s S Q k =>
  ha G1 H1 s S _ fun xs G2 H2 g2 rx => ho G2 H2 g2.sep xs rx Q fun w G4 H4 g4 rw' => k w G4 H4 (g2.trans g4) rw'
/-- a field of frozen data -/
theorem zip_lookup {K : PySem.W.Frag} {cl : Nat → Addr} {G : Hp} {f : Str} {d : D} : ∀ {ns : List Str} {vs : List V} {ds : List D}, Reps K cl G vs ds → (ns.zip ds).lookup f = some d → ∃ v, (ns.zip vs).lookup f = some v ∧ Rep K cl G v d
  | [], vs, ds, _, h => by simp at h
  | n :: ns, vs, [], _, h => by simp at h
  | n :: ns, vs, c :: ds, r, h => by
    obtain ⟨v, ws, rfl, rv, rr⟩ := r.uncons
    rw [List.zip_cons_cons, List.lookup_cons] at h
    rw [List.zip_cons_cons, List.lookup_cons]
    by_cases e : (f == n) = true
    · rw [e] at h ⊢
      cases h
      exact ⟨v, rfl, rv⟩
    · have e' : (f == n) = false := by simpa using e
      rw [e'] at h ⊢
      exact zip_lookup rr h
theorem ev_fld {c : Nat} {ns : List Str} {f : Str} (ha : EvX K cl p ta σ G M (.ins c ns ds) M1) (hc : Cls K (cl c)) (hn : NoAttr K (cl c) f) (hl : (ns.zip ds).lookup f = some d) : EvX K cl p (tFld K ta f) σ G M d M1 := fun G1 H1 s S Q k =>
  ha G1 H1 s S _ fun x G2 H2 g2 rx => by
    obtain ⟨a, dx, vs, e, ea, l, rs⟩ := rx.of_ins
    obtain ⟨v, lv, rv⟩ := zip_lookup rs hl
    exact ⟨a, cl c, dx, _, v, e, g2.sep.sub _ _ ea, hc, hn, lv, k v G2 H2 g2 rv⟩
/-- a field of an owned instance -/
theorem ev_fldM {a C dx : Addr} {fs : List (Str × V)} {f : Str} {v : V} (ha : EvX K cl p ta σ G M (.loc a) M1) (hm : At M1 a (.ins C dx fs)) (hc : Cls K C) (hn : NoAttr K C f) (hl : fs.lookup f = some v) (hv : Rep K cl G v d) : EvX K cl p (tFld K ta f) σ G M d M1 := fun G1 H1 s S Q k =>
  ha G1 H1 s S _ fun x G2 H2 g2 rx => ⟨a, C, dx, fs, v, rx.of_loc, g2.sep.look hm, hc, hn, hl, k v G2 H2 g2 (hv.mono (s.trans g2.same))⟩
/-- a tuple; a list that is never changed -/
theorem ev_tup (ha : EvA K cl p tx σ G M ds M1) (hl : ds.length ≤ 100000) : EvX K cl false (tTup tx) σ G M (.tup ds) M1 := fun G1 H1 s S Q k =>
  ha G1 H1 s S _ fun xs G2 H2 g2 rx => ⟨by rw [rx.length]; exact Nat.le_trans hl (by decide), fun u hu => by
    have n := g2.sep.freshG hu
    have S' := g2.sep.newG (o := .tup xs) hu
    exact k (.ref u) _ _ (Go.of (g2.same.trans (Same.upd n)) S') (Rep.tup (.inl (.inl upd_same)) (rx.mono (Same.upd n)))⟩
theorem ev_lst (ha : EvA K cl p tx σ G M ds M1) (hl : ds.length ≤ 100000) : EvX K cl false (tLst tx) σ G M (.lst ds) M1 := fun G1 H1 s S Q k =>
  ha G1 H1 s S _ fun xs G2 H2 g2 rx => ⟨by rw [rx.length]; exact Nat.le_trans hl (by decide), fun u hu => by
    have n := g2.sep.freshG hu
    have S' := g2.sep.newG (o := .lst xs) hu
    exact k (.ref u) _ _ (Go.of (g2.same.trans (Same.upd n)) S') (Rep.lst (.inl (.inl upd_same)) (rx.mono (Same.upd n)))⟩
/-- a new list that is owned -/
theorem eg_lst {F : V → Hp → ML → Prop} (ha : EvA K cl p tx σ G M ds M1) (hl : ds.length ≤ 100000) (hF : ∀ u vs G', Same G G' → Reps K cl G' vs ds → F (.ref u) G' ((u, .lst vs) :: M1)) : EvG (tLst tx) σ G M F := fun G1 H1 s S Q k =>
  ha G1 H1 s S _ fun xs G2 H2 g2 rx => ⟨by rw [rx.length]; exact Nat.le_trans hl (by decide), fun u hu =>
    k (.ref u) G2 _ _ g2.same (g2.sep.newM hu) (hF u xs G2 (s.trans g2.same) rx)⟩
theorem EvX.g {F : V → Hp → ML → Prop} (h : EvX K cl p te σ G M d M1) (hF : ∀ v G', Same G G' → Rep K cl G' v d → F v G' M1) : EvG te σ G M F := fun G1 H1 s S Q k =>
  h G1 H1 s S Q fun v G2 H2 g2 rv => k v G2 H2 M1 g2.same g2.sep (hF v G2 (s.trans g2.same) rv)
theorem EvX.mono (s : Same G G1) (h : EvX K cl p te σ G M d M1) : EvX K cl p te σ G1 M d M1 := fun G2 H2 s2 S Q k => h G2 H2 (s.trans s2) S Q k
theorem EvX.is {e : D} (h : EvX K cl p te σ G M d M1) (hd : d = e) : EvX K cl p te σ G M e M1 := hd ▸ h
theorem EvT.is {b c : Bool} (h : EvT K cl p tt σ G M b M1) (hd : b = c) : EvT K cl p tt σ G M c M1 := hd ▸ h

/-! ### tests -/
theorem et_test {b : Bool} (h : EvX K cl p te σ G M (.bl b) M1) : EvT K cl p (tTest te) σ G M b M1 := fun G1 H1 s S Q k => h G1 H1 s S _ fun x G2 H2 g2 rx => ⟨b, rx.of_bl, k G2 H2 g2⟩
theorem et_B {b : Bool} (h : EvX K cl p te σ G M (.bl b) M1) : EvT K cl p (tB te) σ G M b M1 := fun G1 H1 s S Q k => h G1 H1 s S _ fun x G2 H2 g2 rx => ⟨b, rx.of_bl, k G2 H2 g2⟩
theorem et_not {b : Bool} (h : EvT K cl p tt σ G M b M1) : EvT K cl p (tNot tt) σ G M (!b) M1 := fun G1 H1 s S Q k => h G1 H1 s S _ fun G2 H2 g2 => k G2 H2 g2
theorem et_and {a b : Bool} (h1 : EvT K cl p tt σ G M a M) (h2 : a = true → EvT K cl q tu σ G M b M) : EvT K cl (p && q) (tAnd tt tu) σ G M (a && b) M := fun G1 H1 s S Q k => h1 G1 H1 s S _ fun G2 H2 g2 => by
  cases a with
  | true =>
    show tu σ H2 Q
    exact h2 rfl G2 H2 (s.trans g2.same) g2.sep Q fun G3 H3 g3 => k G3 H3 (g2.trans g3)
  | false =>
    show Q false H2
    exact k G2 H2 ⟨g2.same, g2.sep, fun h => g2.eq (Bool.and_eq_true_iff.mp h).1⟩
theorem et_or {a b : Bool} (h1 : EvT K cl p tt σ G M a M) (h2 : a = false → EvT K cl q tu σ G M b M) : EvT K cl (p && q) (tOr tt tu) σ G M (a || b) M := fun G1 H1 s S Q k => h1 G1 H1 s S _ fun G2 H2 g2 => by
  cases a with
  | false =>
    show tu σ H2 Q
    exact h2 rfl G2 H2 (s.trans g2.same) g2.sep Q fun G3 H3 g3 => k G3 H3 (g2.trans g3)
  | true =>
    show Q true H2
    exact k G2 H2 ⟨g2.same, g2.sep, fun h => g2.eq (Bool.and_eq_true_iff.mp h).1⟩
theorem ev_andV {a b : Bool} (h1 : EvX K cl p ta σ G M (.bl a) M) (h2 : a = true → EvX K cl q tb σ G M (.bl b) M) : EvX K cl (p && q) (tAndV ta tb) σ G M (.bl (a && b)) M := fun G1 H1 s S Q k => h1 G1 H1 s S _ fun x G2 H2 g2 rx => ⟨a, rx.of_bl, by
  cases a with
  | true =>
    show tb σ H2 Q
    exact h2 rfl G2 H2 (s.trans g2.same) g2.sep Q fun v G3 H3 g3 rv => k v G3 H3 (g2.trans g3) rv
  | false =>
    show Q (.bl false) H2
    exact k _ G2 H2 ⟨g2.same, g2.sep, fun h => g2.eq (Bool.and_eq_true_iff.mp h).1⟩ Rep.bl⟩
theorem ev_orV {a b : Bool} (h1 : EvX K cl p ta σ G M (.bl a) M) (h2 : a = false → EvX K cl q tb σ G M (.bl b) M) : EvX K cl (p && q) (tOrV ta tb) σ G M (.bl (a || b)) M := fun G1 H1 s S Q k => h1 G1 H1 s S _ fun x G2 H2 g2 rx => ⟨a, rx.of_bl, by
  cases a with
  | false =>
    show tb σ H2 Q
    exact h2 rfl G2 H2 (s.trans g2.same) g2.sep Q fun v G3 H3 g3 rv => k v G3 H3 (g2.trans g3) rv
  | true =>
    show Q (.bl true) H2
    exact k _ G2 H2 ⟨g2.same, g2.sep, fun h => g2.eq (Bool.and_eq_true_iff.mp h).1⟩ Rep.bl⟩
theorem ev_notV {a : Bool} (h1 : EvX K cl p ta σ G M (.bl a) M1) : EvX K cl p (tNotV ta) σ G M (.bl (!a)) M1 := fun G1 H1 s S Q k => h1 G1 H1 s S _ fun x G2 H2 g2 rx => ⟨a, rx.of_bl, k _ G2 H2 g2 Rep.bl⟩
theorem ev_if {b : Bool} (h : EvT K cl p tt σ G M b M1) (h1 : b = true → EvX K cl q ta σ G M1 d1 M2) (h2 : b = false → EvX K cl q tb σ G M1 d2 M2) : EvX K cl (p && q) (tIf tt ta tb) σ G M (if b then d1 else d2) M2 := fun G1 H1 s S Q k => h G1 H1 s S _ fun G2 H2 g2 => by
  cases b with
  | true =>
    show ta σ H2 Q
    exact h1 rfl G2 H2 (s.trans g2.same) g2.sep Q fun v G3 H3 g3 rv => k v G3 H3 (g2.trans g3) rv
  | false =>
    show tb σ H2 Q
    exact h2 rfl G2 H2 (s.trans g2.same) g2.sep Q fun v G3 H3 g3 rv => k v G3 H3 (g2.trans g3) rv

/-! ### operations -/
theorem op2_val {rr : R2} {x y z : D} (h : ∀ G1 H1, Sep G1 H1 M → ∀ u v, Rep K cl G1 u x → Rep K cl G1 v y → ∃ w, Rep K cl G1 w z ∧ ∀ Q : VK, Q w H1 → rr u v H1 Q) : Op2 K cl true rr M x y z := fun G1 H1 S u v ru rv Q k => by
  obtain ⟨w, rw', hw⟩ := h G1 H1 S u v ru rv
  exact hw Q (k w G1 H1 (Go.refl S) rw')
theorem o_I0 {g : Int → Int → V} {i j : Int} {z : D} (hz : ∀ G, Rep K cl G (g i j) z) : Op2 K cl true (rI0 g) M (.int i) (.int j) z := op2_val fun G1 H1 S u v ru rv => ⟨g i j, hz G1, fun Q q => ⟨i, j, ru.of_int, rv.of_int, q⟩⟩
theorem o_I {C : Int → Int → Prop} {g : Int → Int → V} {i j : Int} {z : D} (hz : ∀ G, Rep K cl G (g i j) z) (hc : C i j) : Op2 K cl true (rI C g) M (.int i) (.int j) z := op2_val fun G1 H1 S u v ru rv => ⟨g i j, hz G1, fun Q q => ⟨i, j, ru.of_int, rv.of_int, hc, q⟩⟩
theorem o1_U {g : Int → V} {i : Int} {z : D} (hz : ∀ G, Rep K cl G (g i) z) : Op1 K cl true (rU g) M (.int i) z := fun G1 H1 S u ru Q k => ⟨i, ru.of_int, k _ G1 H1 (Go.refl S) (hz G1)⟩
/-- one of two rules -/
def orR (a b : R2) : R2 := fun x y H Q => a x y H Q ∨ b x y H Q
theorem o_l {a b : R2} {x y z : D} (h : Op2 K cl p a M x y z) : Op2 K cl p (orR a b) M x y z := fun G1 H1 S u v ru rv Q k => .inl (h G1 H1 S u v ru rv Q k)
theorem o_r {a b : R2} {x y z : D} (h : Op2 K cl p b M x y z) : Op2 K cl p (orR a b) M x y z := fun G1 H1 S u v ru rv Q k => .inr (h G1 H1 S u v ru rv Q k)
theorem op_or {X : Cx} {f : Value → Value → Sem Value} {a b : R2} (h1 : OpR X f a) (h2 : OpR X f b) : OpR X f (orR a b) := fun pins s σ H x y u v Q I rx ry h => h.elim (h1 pins s σ H x y u v Q I rx ry) (h2 pins s σ H x y u v Q I rx ry)

abbrev rAddI : R2 := rI0 fun i j => .int (i + j)
abbrev rAddS : R2 := fun x y H Q => ∃ i j, x = .str i ∧ y = .str j ∧ i.length + j.length ≤ sizeLine ∧ Q (.str (i ++ j)) H
/-- list + list, wherever they stand -/
def rCatA (K : PySem.W.Frag) : R2 := fun x y H Q => ∃ a b xs ys, x = .ref a ∧ y = .ref b ∧ SqL K H a xs ∧ SqL K H b ys ∧ xs.length + ys.length ≤ sizeLine ∧ ∀ l, H l = none → Q (.ref l) (upd H l (.lst (xs ++ ys)))
theorem op_catA {X : Cx} : OpR X (binaryOp .Add) (rCatA X.K) := by
  rintro pins s σ H x y v u Q I rx ry ⟨a, b, xs, ys, rfl, rfl, sa, sb, hz, q⟩
  cases rx
  cases ry
  obtain ⟨is1, r1, ⟨⟨c1, dd1, dt1, sl1⟩, n1, e1, k1, _, t1⟩, z1⟩ := I.list sa
  obtain ⟨is2, r2, ⟨⟨c2, dd2, dt2, sl2⟩, n2, e2, k2, _, t2⟩, z2⟩ := I.list sb
  simp only at k1 t1 k2 t2
  subst k1 t1 k2 t2
  have l1 := r1.length
  have l2 := r2.length
  refine PySem.concat_meets ⟨_, e1, rfl⟩ ⟨_, e2, rfl⟩ PySem.noFill_list_add PySem.seq_list_add PySem.F.slot_list_add PySem.F.entry_list_add (PySem.F.args_list_add_2 _ _) (PyProof.Rows.list_addW a b is1.toArray is2.toArray n1 n2 dd1 dd2 sl1 sl2 (by simp only [List.size_toArray]; omega)) ⟨e1, e2, ?_⟩
  have ee : is1.toArray ++ is2.toArray = (is1 ++ is2).toArray := by simp
  rw [ee]
  exact ⟨.ref _, _, I.lnew (t' := s.toks) (r1.append r2) (by rw [List.length_append]; exact hz), rfl, q _ I.fresh⟩
/-- a + b -/
def rAdd (K : PySem.W.Frag) : R2 := orR rAddI (orR rAddS (orR (rCatA K) (rCatT K)))
theorem op_addA {X : Cx} : OpR X (binaryOp .Add) (rAdd X.K) := op_or op_add (op_or op_add_str (op_or op_catA op_catT))
theorem o_catL {xs ys : List D} (h : xs.length + ys.length ≤ 100000) : Op2 K cl false (rAdd K) M (.lst xs) (.lst ys) (.lst (xs ++ ys)) := fun G1 H1 S u v ru rv Q k => by
  obtain ⟨a, us, rfl, sa, ra⟩ := ru.of_lst
  obtain ⟨b, vs, rfl, sb, rb⟩ := rv.of_lst
  refine .inr (.inr (.inl ⟨a, b, us, vs, rfl, rfl, S.sub.seq sa, S.sub.seq sb, ?_, fun l hl => ?_⟩))
  · rw [ra.length, rb.length]
    exact Nat.le_trans h (by decide)
  · have n := S.freshG hl
    exact k _ _ _ (Go.of (Same.upd n) (S.newG hl)) (Rep.lst (.inl (.inl upd_same)) ((ra.append rb).mono (Same.upd n)))
theorem o_add_int {i j : Int} : Op2 K cl true (rAdd K) M (.int i) (.int j) (.int (i + j)) := o_l (o_I0 fun _ => Rep.int)
theorem o_add_str {x y : Str} (h : x.length + y.length ≤ 100000) : Op2 K cl true (rAdd K) M (.str x) (.str y) (.str (x ++ y)) := o_r (o_l (op2_val fun G1 H1 S u v ru rv => ⟨_, Rep.str, fun Q q => ⟨x, y, ru.of_str, rv.of_str, Nat.le_trans h (by decide), q⟩⟩))
abbrev rSubI : R2 := rI0 fun i j => .int (i - j)
abbrev rMulI : R2 := rI CMul fun i j => .int (i * j)
abbrev rDivI : R2 := rI CDiv fun i j => .int (i / j)
abbrev rModI : R2 := rI (fun _ j => 0 < j) fun i j => .int (i % j)
abbrev rLtI : R2 := rI0 fun i j => .bl (decide (i < j))
abbrev rLeI : R2 := rI0 fun i j => .bl (decide (i ≤ j))
abbrev rGtI : R2 := rI0 fun i j => .bl (decide (j < i))
abbrev rGeI : R2 := rI0 fun i j => .bl (decide (j ≤ i))
abbrev rNegI : V → Hp → VK → Prop := rU fun i => .int (-i)
theorem o1_neg {i : Int} : Op1 K cl true rNegI M (.int i) (.int (-i)) := o1_U fun _ => Rep.int
theorem o_sub {i j : Int} : Op2 K cl true rSubI M (.int i) (.int j) (.int (i - j)) := o_I0 fun _ => Rep.int
theorem o_mul {i j : Int} (h : CMul i j) : Op2 K cl true rMulI M (.int i) (.int j) (.int (i * j)) := o_I (fun _ => Rep.int) h
theorem o_div {i j : Int} (h : CDiv i j) : Op2 K cl true rDivI M (.int i) (.int j) (.int (i / j)) := o_I (fun _ => Rep.int) h
theorem o_mod {i j : Int} (h : 0 < j) : Op2 K cl true rModI M (.int i) (.int j) (.int (i % j)) := o_I (fun _ => Rep.int) h
theorem o_lt {i j : Int} : Op2 K cl true rLtI M (.int i) (.int j) (.bl (decide (i < j))) := o_I0 fun _ => Rep.bl
theorem o_le {i j : Int} : Op2 K cl true rLeI M (.int i) (.int j) (.bl (decide (i ≤ j))) := o_I0 fun _ => Rep.bl
theorem o_gt {i j : Int} : Op2 K cl true rGtI M (.int i) (.int j) (.bl (decide (j < i))) := o_I0 fun _ => Rep.bl
theorem o_ge {i j : Int} : Op2 K cl true rGeI M (.int i) (.int j) (.bl (decide (j ≤ i))) := o_I0 fun _ => Rep.bl
abbrev rIsN : R2 := fun x y H Q => y = .non ∧ Q (.bl (decide (x = .non))) H
abbrev rNotN : R2 := fun x y H Q => y = .non ∧ Q (.bl (!decide (x = .non))) H
theorem o_isN {x : D} : Op2 K cl true rIsN M x .non (.bl x.isNon) := op2_val fun G1 H1 S u v ru rv => ⟨_, Rep.bl, fun Q q => ⟨rv.of_non, by rw [ru.isNon]; exact q⟩⟩
theorem o_notN {x : D} : Op2 K cl true rNotN M x .non (.bl (!x.isNon)) := op2_val fun G1 H1 S u v ru rv => ⟨_, Rep.bl, fun Q q => ⟨rv.of_non, by rw [ru.isNon]; exact q⟩⟩
/-! #### == of scalars -/
def D.scal : D → D → Option Bool
  | .int i, .int j => some (decide (i = j))
  | .str i, .str j => some (decide (i = j))
  | .bl i, .bl j => some (decide (i = j))
  | _, _ => none
theorem scal_rep {G : Hp} {x y : D} {u v : V} {b : Bool} (h : D.scal x y = some b) (ru : Rep K cl G u x) (rv : Rep K cl G v y) : scal u v = true ∧ decide (u = v) = b := by
  cases x <;> cases y <;> first | (simp [D.scal] at h; done) | skip
  · rw [ru.of_bl, rv.of_bl]; refine ⟨rfl, ?_⟩; have := Option.some.inj h; rw [← this]; simp
  · rw [ru.of_int, rv.of_int]; refine ⟨rfl, ?_⟩; have := Option.some.inj h; rw [← this]; simp
  · rw [ru.of_str, rv.of_str]; refine ⟨rfl, ?_⟩; have := Option.some.inj h; rw [← this]; simp
/-- a == b, a != b -/
def rEqA (K : PySem.W.Frag) : R2 := orR rEq (rEqD K)
def rNeA (K : PySem.W.Frag) : R2 := orR rNe (rNeD K)
theorem op_eqA {X : Cx} (hu : X.A.units + 64 < cLine) : OpR X (compareOp .Eq) (rEqA X.K) := op_or op_eq (op_eqD hu)
theorem op_neA {X : Cx} (hu : X.A.units + 64 < cLine) : OpR X (compareOp .NotEq) (rNeA X.K) := op_or op_ne (op_neD hu)
theorem o_eq {x y : D} {b : Bool} (h : D.scal x y = some b) : Op2 K cl true (rEqA K) M x y (.bl b) := o_l (op2_val fun G1 H1 S u v ru rv => ⟨_, Rep.bl, fun Q q => by
  obtain ⟨h1, h2⟩ := scal_rep h ru rv
  exact ⟨h1, by rw [h2]; exact q⟩⟩)
theorem o_ne {x y : D} {b : Bool} (h : D.scal x y = some b) : Op2 K cl true (rNeA K) M x y (.bl (!b)) := o_l (op2_val fun G1 H1 S u v ru rv => ⟨_, Rep.bl, fun Q q => by
  obtain ⟨h1, h2⟩ := scal_rep h ru rv
  exact ⟨h1, by rw [h2]; exact q⟩⟩)
/-! #### items -/
theorem Reps.atI {G : Hp} {vs : List V} {ds : List D} {i : Int} {d : D} (r : Reps K cl G vs ds) (h : atI ds i = some d) : ∃ v, atI vs i = some v ∧ Rep K cl G v d := by
  obtain ⟨j, h1, h2, h3, h4, h5⟩ := atI_get h
  obtain ⟨v, hv, rv⟩ := r.getD h2
  refine ⟨v, ?_, rv⟩
  unfold L2.atI at h ⊢
  rw [r.length]
  cases e : ixN ds.length i with
  | none => rw [e] at h; cases h
  | some k =>
    obtain ⟨e1, _⟩ := ixN_seq e
    rw [h1] at e1
    cases e1
    exact hv
theorem o_ixT {i : Int} (h : atI ds i = some d) : Op2 K cl true (rIx K) M (.tup ds) (.int i) d := op2_val fun G1 H1 S u v ru rv => by
  obtain ⟨a, vs, e, sq, rs⟩ := ru.of_tup
  obtain ⟨w, hw, rw'⟩ := rs.atI h
  exact ⟨w, rw', fun Q q => .inr (.inl ⟨a, vs, i, w, e, rv.of_int, Same.seqT S.sub sq, hw, q⟩)⟩
theorem o_ixL {i : Int} (h : atI ds i = some d) : Op2 K cl true (rIx K) M (.lst ds) (.int i) d := op2_val fun G1 H1 S u v ru rv => by
  obtain ⟨a, vs, e, sq, rs⟩ := ru.of_lst
  obtain ⟨w, hw, rw'⟩ := rs.atI h
  exact ⟨w, rw', fun Q q => .inl ⟨a, vs, i, w, e, rv.of_int, S.sub.seq sq, hw, q⟩⟩
end
end Cp
/-! Cp3: calls of defs and built-ins as data; statements. -/
namespace Cp
open PySem L2

section
variable (K : PySem.W.Frag) (cl : Nat → Addr)
/-- a def that changes nothing: from data to a datum -/
def PSp (R : List D → D → Prop) : Sp := fun vs H Q _ => ∃ ds d G M, R ds d ∧ Sep G H M ∧ Reps K cl G vs ds ∧ ∀ v G' H', Same G G' → Sep G' H' M → Rep K cl G' v d → Q v H'
/-- any def: a word over the frozen part and the owned part -/
def GSp (R : List V → Hp → ML → (V → Hp → ML → Prop) → Prop) : Sp := fun vs H Q _ => ∃ G M, Sep G H M ∧ R vs G M fun v G' M' => Same G G' → ∀ H', Sep G' H' M' → Q v H'
/-- an __init__ that stores data: the fields' names, from the arguments to the fields -/
def ISp (c : Nat) (ns : List Str) (R : List D → List D → Prop) : Sp := fun vs H Q _ => ∃ x dx us ds es G M, vs = .ref x :: us ∧ R ds es ∧ Sep G H ((x, .ins (cl c) dx (List.zip [] [])) :: M) ∧ Reps K cl G us ds ∧
  ∀ ws G' H', Same G G' → Sep G' H' ((x, .ins (cl c) dx (ns.zip ws)) :: M) → ns.length = ws.length → Reps K cl G' ws es → Q .non H'
end
section
variable {K : PySem.W.Frag} {cl : Nat → Addr} {p q r : Bool} {M M1 M2 M3 M4 : ML} {G G1 G2 G3 H H1 H2 H3 : Hp} {σ : St} {ta tb te : TE} {tx : TA} {tt tu : TT} {d d1 d2 d3 : D} {ds es : List D}

theorem ev_call {R : List D → D → Prop} {E : XK} (ha : EvA K cl p tx σ G M ds M1) (hR : R ds d) : EvX K cl false (tCall (PSp K cl R) [] E tx) σ G M d M1 := fun G1 H1 s S Q k =>
  ha G1 H1 s S _ fun xs G2 H2 g2 rx => ⟨ds, d, G2, M1, hR, g2.sep, by rw [List.append_nil]; exact rx, fun v G' H' s' S' rv => k v G' H' (Go.of (g2.same.trans s') S') rv⟩
theorem zip_none {ns : List Str} {f : Str} : ∀ {vs : List V}, ns.contains f = false → (ns.zip vs).lookup f = none := by
  induction ns with
  | nil => intro vs _; rfl
  | cons n ns ih =>
    intro vs h
    cases vs with
    | nil => rfl
    | cons v vs =>
      rw [List.contains_cons, Bool.or_eq_false_iff] at h
      rw [List.zip_cons_cons, List.lookup_cons, h.1]
      exact ih h.2
theorem ev_meth {R : List D → D → Prop} {E : XK} {c : Nat} {m : Str} {ns : List Str} {fs : List D} (he : EvX K cl p ta σ G M (.ins c ns fs) M1) (ha : EvA K cl q tx σ G M1 ds M2) (hm : ns.contains m = false) (hR : R (.ins c ns fs :: ds) d) :
    EvX K cl false (tMeth (cl c) m (PSp K cl R) [] E ta tx) σ G M d M2 := fun G1 H1 s S Q k =>
  he G1 H1 s S _ fun x G2 H2 g2 rx => by
    obtain ⟨a, dx, vs, e, ea, l, rs⟩ := rx.of_ins
    exact ⟨a, dx, _, e, g2.sep.sub _ _ ea, zip_none hm, ha G2 H2 (s.trans g2.same) g2.sep _ fun xs G3 H3 g3 rxs =>
      ⟨_, d, G3, M2, hR, g3.sep, by rw [List.append_nil]; exact Reps.cons (rx.mono g3.same) rxs, fun v G' H' s' S' rv => k v G' H' (Go.of ((g2.same.trans g3.same).trans s') S') rv⟩⟩
theorem ev_make {R : List D → List D → Prop} {E : XK} {c : Nat} {ns : List Str} (ha : EvA K cl p tx σ G M ds M1) (hR : R ds es) : EvX K cl false (tMake (cl c) (ISp K cl c ns R) [] E tx) σ G M (.ins c ns es) M1 := fun G1 H1 s S Q k =>
  ha G1 H1 s S _ fun xs G2 H2 g2 rx => fun x dx nx ndx ne => by
    have nxG := g2.sep.freshG nx
    have ndG := g2.sep.freshG ndx
    have S1 : Sep (upd G2 dx (.own x)) (upd H2 dx (.own x)) M1 := g2.sep.newG ndx
    have nx' : upd H2 dx (.own x) x = none := by rw [upd_ne ne.symm]; exact nx
    have S2 := S1.newM (o := .ins (cl c) dx []) nx'
    refine ⟨x, dx, xs, ds, es, _, M1, by rw [List.append_nil], hR, S2, rx.mono (Same.upd ndG), fun ws G' H' s' S' hl rs => ⟨rfl, ?_⟩⟩
    obtain ⟨S3, s3⟩ := S'.freeze
    exact k (.ref x) _ H' (Go.of (((g2.same.trans (Same.upd ndG)).trans s').trans s3) S3) (Rep.ins upd_same hl (rs.mono s3))
/-- the new instance is owned -/
theorem eg_make {R : List D → List D → Prop} {E : XK} {c : Nat} {ns : List Str} {F : V → Hp → ML → Prop} (ha : EvA K cl p tx σ G M ds M1) (hR : R ds es)
    (hF : ∀ x dx ws G', Same G G' → ns.length = ws.length → Reps K cl G' ws es → F (.ref x) G' ((x, .ins (cl c) dx (ns.zip ws)) :: M1)) : EvG (tMake (cl c) (ISp K cl c ns R) [] E tx) σ G M F := fun G1 H1 s S Q k =>
  ha G1 H1 s S _ fun xs G2 H2 g2 rx => fun x dx nx ndx ne => by
    have ndG := g2.sep.freshG ndx
    have S1 : Sep (upd G2 dx (.own x)) (upd H2 dx (.own x)) M1 := g2.sep.newG ndx
    have nx' : upd H2 dx (.own x) x = none := by rw [upd_ne ne.symm]; exact nx
    have S2 := S1.newM (o := .ins (cl c) dx []) nx'
    refine ⟨x, dx, xs, ds, es, _, M1, by rw [List.append_nil], hR, S2, rx.mono (Same.upd ndG), fun ws G' H' s' S' hl rs => ⟨rfl, ?_⟩⟩
    have s1 := (g2.same.trans (Same.upd ndG)).trans s'
    exact k (.ref x) G' H' _ s1 S' (hF x dx ws G' (s.trans s1) hl rs)
/-- a def of the general kind -/
theorem eg_call {R : List V → Hp → ML → (V → Hp → ML → Prop) → Prop} {E : XK} {F : V → Hp → ML → Prop} (ha : EvA K cl p tx σ G M ds M1)
    (hR : ∀ vs G' (T : V → Hp → ML → Prop), Same G G' → Reps K cl G' vs ds → (∀ v G'' M'', Same G' G'' → F v G'' M'' → T v G'' M'') → R vs G' M1 T) : EvG (tCall (GSp R) [] E tx) σ G M F := fun G1 H1 s S Q k =>
  ha G1 H1 s S _ fun xs G2 H2 g2 rx => ⟨G2, M1, g2.sep, by
    rw [List.append_nil]
    refine hR xs G2 _ (s.trans g2.same) rx fun v G'' M'' s'' hF sm H' S' => k v G'' H' M'' (g2.same.trans sm) S' hF⟩
/-- .. whose answer is a datum, and M' known ahead -/
theorem ev_callG {R : List V → Hp → ML → (V → Hp → ML → Prop) → Prop} {E : XK} (ha : EvA K cl p tx σ G M ds M1)
    (hR : ∀ vs G' (T : V → Hp → ML → Prop), Same G G' → Reps K cl G' vs ds → (∀ v G'', Same G' G'' → Rep K cl G'' v d → T v G'' M2) → R vs G' M1 T) : EvX K cl false (tCall (GSp R) [] E tx) σ G M d M2 := fun G1 H1 s S Q k =>
  ha G1 H1 s S _ fun xs G2 H2 g2 rx => ⟨G2, M1, g2.sep, by
    rw [List.append_nil]
    exact hR xs G2 _ (s.trans g2.same) rx fun v G'' s'' rv sm H' S' => k v G'' H' (Go.of (g2.same.trans s'') S') rv⟩

theorem num_len {n : Int} (h0 : 0 ≤ n) (h : n < 10000000000) : (Str.ofString (toString n)).length ≤ 10 := PyProof.Rows.toString_length_le h0 (by decide) (by omega)
theorem num_log {n : Int} (h0 : 0 ≤ n) (h : n < 10000000000) : n.natAbs.log2 < 1920 := by
  have : n.natAbs < 2 ^ 1920 := Nat.lt_of_lt_of_le (show n.natAbs < 2 ^ 40 by omega) (Nat.pow_le_pow_right (by decide) (by decide))
  by_cases e : n.natAbs = 0
  · rw [e]; decide
  · exact (Nat.log2_lt e).mpr this
theorem app_len {x y : Str} {a b c : Nat} (hx : x.length ≤ a) (hy : y.length ≤ b) (h : a + b ≤ c) : (x ++ y).length ≤ c := by
  rw [PySem.Str.length_append]
  omega
theorem Ch.perm {a : Addr} {o o' : HO} (h : Ch M a o o' M1) : ∃ M0, M.Perm ((a, o) :: M0) ∧ M1.Perm ((a, o') :: M0) := by
  induction h with
  | hd => exact ⟨_, List.Perm.refl _, List.Perm.refl _⟩
  | @tl a o o' e M M' _ ih =>
    obtain ⟨M0, p1, p2⟩ := ih
    exact ⟨e :: M0, (p1.cons e).trans (List.Perm.swap (a, o) e M0), (p2.cons e).trans (List.Perm.swap (a, o') e M0)⟩
/-- the k-th place of a change, over one arrangement -/
theorem Ch.perm_to {a : Addr} {o o' : HO} {M0 : ML} (h : Ch M a o o' M1) (p : M.Perm ((a, o) :: M0)) : M1.Perm ((a, o') :: M0) := by
  obtain ⟨M9, p1, p2⟩ := h.perm
  have : ((a, o) :: M9).Perm ((a, o) :: M0) := p1.symm.trans p
  exact p2.trans ((List.perm_cons (a, o)).mp this |>.cons _)
theorem ev_ixM {a : Addr} {vs : List V} {i : Int} {v : V} (ha : EvX K cl p ta σ G M (.loc a) M1) (hb : EvX K cl q tb σ G M1 (.int i) M2) (hm : At M2 a (.lst vs)) (hi : atI vs i = some v) (hv : Rep K cl G v d) : EvX K cl (p && q) (tOp (rIx K) ta tb) σ G M d M2 := fun G1 H1 s S Q k =>
  ha G1 H1 s S _ fun x G2 H2 g2 rx => hb G2 H2 (s.trans g2.same) g2.sep _ fun y G3 H3 g3 ry => .inl ⟨a, vs, i, v, rx.of_loc, ry.of_int, .inl (.inl (g3.sep.look hm)), hi, k v G3 H3 (g2.trans g3) (hv.mono ((s.trans g2.same).trans g3.same))⟩
theorem atI_getD {α : Type} {xs : List α} {i : Int} (x : α) (h0 : 0 ≤ i) (h1 : i < xs.length) : atI xs i = some (xs.getD i.toNat x) := by
  obtain ⟨n, rfl⟩ := Int.eq_ofNat_of_zero_le h0
  have hn : n < xs.length := by omega
  rw [atI_nat (j := n) (v := xs[n]) (by simp [hn])]
  simp [hn]
theorem eg_nil : EvG (tLst tNil) σ G M fun v G' M' => ∃ u, v = .ref u ∧ M' = (u, .lst []) :: M := fun G1 H1 s S Q k =>
  ⟨Nat.zero_le _, fun u hu => k (.ref u) G1 _ _ (Same.refl _) (S.newM hu) ⟨u, rfl, rfl⟩⟩
/-! ### built-ins -/
theorem on_val {rr : List V → Hp → VK → Prop} {xs : List D} {z : D} (h : ∀ G1 H1, Sep G1 H1 M → ∀ us, Reps K cl G1 us xs → ∃ w, Rep K cl G1 w z ∧ ∀ Q : VK, Q w H1 → rr us H1 Q) : OpN K cl true rr M xs z M := fun G1 H1 S us ru Q k => by
  obtain ⟨w, rw', hw⟩ := h G1 H1 S us ru
  exact hw Q (k w G1 H1 (Go.refl S) rw')
theorem reps1 {us : List V} (h : Reps K cl G us [d]) : ∃ u, us = [u] ∧ Rep K cl G u d := by
  obtain ⟨u, ws, rfl, hu, hw⟩ := h.uncons
  simp only [Reps] at hw
  subst hw
  exact ⟨u, rfl, hu⟩
theorem reps2 {us : List V} (h : Reps K cl G us [d1, d2]) : ∃ u v, us = [u, v] ∧ Rep K cl G u d1 ∧ Rep K cl G v d2 := by
  obtain ⟨u, ws, rfl, hu, hw⟩ := h.uncons
  obtain ⟨v, rfl, hv⟩ := reps1 hw
  exact ⟨u, v, rfl, hu, hv⟩
abbrev rLenA (K : PySem.W.Frag) : List V → Hp → VK → Prop := fun xs H Q => ∃ x n, xs = [x] ∧ LenV K x H n ∧ Q (.int n) H
abbrev rStrI : List V → Hp → VK → Prop := fun xs H Q => ∃ i, xs = [.int i] ∧ i.natAbs.log2 < 1920 ∧ Q (.str (toString i)) H
abbrev rInt1 : List V → Hp → VK → Prop := fun xs H Q => (∃ i, xs = [.int i] ∧ Q (.int i) H) ∨ ∃ k, xs = [.bl k] ∧ Q (.int (if k then 1 else 0)) H
abbrev rMin2 : List V → Hp → VK → Prop := fun xs H Q => ∃ i j, xs = [.int i, .int j] ∧ Q (.int (if j < i then j else i)) H
abbrev rMax2 : List V → Hp → VK → Prop := fun xs H Q => ∃ i j, xs = [.int i, .int j] ∧ Q (.int (if j > i then j else i)) H
abbrev rTupA (K : PySem.W.Frag) : List V → Hp → VK → Prop := fun xs H Q => ∃ p ys, xs = [.ref p] ∧ ((SqL K H p ys ∧ ∀ l, H l = none → Q (.ref l) (upd H l (.tup ys))) ∨ (SqT K H p ys ∧ Q (.ref p) H))
abbrev rListA (K : PySem.W.Frag) : List V → Hp → VK → Prop := fun xs H Q => ∃ p ys, xs = [.ref p] ∧ (SqL K H p ys ∨ SqT K H p ys) ∧ ∀ l, H l = none → Q (.ref l) (upd H l (.lst ys))
theorem on_int {i : Int} : OpN K cl true rInt1 M [.int i] (.int i) M := on_val fun G1 H1 S us ru => by
  obtain ⟨u, rfl, hu⟩ := reps1 ru
  exact ⟨_, Rep.int, fun Q q => .inl ⟨i, by rw [hu.of_int], q⟩⟩
theorem on_intB {b : Bool} : OpN K cl true rInt1 M [.bl b] (.int (if b then 1 else 0)) M := on_val fun G1 H1 S us ru => by
  obtain ⟨u, rfl, hu⟩ := reps1 ru
  exact ⟨_, Rep.int, fun Q q => .inr ⟨b, by rw [hu.of_bl], q⟩⟩
theorem on_str {i : Int} (h : i.natAbs.log2 < 1920) : OpN K cl true rStrI M [.int i] (.str (toString i)) M := on_val fun G1 H1 S us ru => by
  obtain ⟨u, rfl, hu⟩ := reps1 ru
  exact ⟨_, Rep.str, fun Q q => ⟨i, by rw [hu.of_int], h, q⟩⟩
theorem on_min {i j : Int} : OpN K cl true rMin2 M [.int i, .int j] (.int (if j < i then j else i)) M := on_val fun G1 H1 S us ru => by
  obtain ⟨u, v, rfl, hu, hv⟩ := reps2 ru
  exact ⟨_, Rep.int, fun Q q => ⟨i, j, by rw [hu.of_int, hv.of_int], q⟩⟩
theorem on_max {i j : Int} : OpN K cl true rMax2 M [.int i, .int j] (.int (if j > i then j else i)) M := on_val fun G1 H1 S us ru => by
  obtain ⟨u, v, rfl, hu, hv⟩ := reps2 ru
  exact ⟨_, Rep.int, fun Q q => ⟨i, j, by rw [hu.of_int, hv.of_int], q⟩⟩
theorem on_lenS {x : Str} (h : x.length ≤ 100000) : OpN K cl true (rLenA K) M [.str x] (.int x.length) M := on_val fun G1 H1 S us ru => by
  obtain ⟨u, rfl, hu⟩ := reps1 ru
  refine ⟨_, Rep.int, fun Q q => ⟨.str x, x.length, by rw [hu.of_str], ⟨Nat.le_trans h (by decide), rfl⟩, q⟩⟩
theorem on_lenL : OpN K cl true (rLenA K) M [.lst ds] (.int ds.length) M := on_val fun G1 H1 S us ru => by
  obtain ⟨u, rfl, hu⟩ := reps1 ru
  obtain ⟨a, vs, rfl, sq, rs⟩ := hu.of_lst
  refine ⟨_, Rep.int, fun Q q => ⟨.ref a, ds.length, rfl, .inl ⟨vs, S.sub.seq sq, rs.length.symm⟩, q⟩⟩
theorem on_lenT : OpN K cl true (rLenA K) M [.tup ds] (.int ds.length) M := on_val fun G1 H1 S us ru => by
  obtain ⟨u, rfl, hu⟩ := reps1 ru
  obtain ⟨a, vs, rfl, sq, rs⟩ := hu.of_tup
  refine ⟨_, Rep.int, fun Q q => ⟨.ref a, ds.length, rfl, .inr ⟨vs, Same.seqT S.sub sq, rs.length.symm⟩, q⟩⟩
theorem on_lenM {a : Addr} {vs : List V} (h : At M a (.lst vs)) : OpN K cl true (rLenA K) M [.loc a] (.int vs.length) M := on_val fun G1 H1 S us ru => by
  obtain ⟨u, rfl, hu⟩ := reps1 ru
  refine ⟨_, Rep.int, fun Q q => ⟨.ref a, vs.length, by rw [hu.of_loc], .inl ⟨vs, .inl (.inl (S.look h)), rfl⟩, q⟩⟩
theorem on_tupL : OpN K cl false (rTupA K) M [.lst ds] (.tup ds) M := fun G1 H1 S us ru Q k => by
  obtain ⟨u, rfl, hu⟩ := reps1 ru
  obtain ⟨a, vs, rfl, sq, rs⟩ := hu.of_lst
  exact ⟨a, vs, rfl, .inl ⟨S.sub.seq sq, fun l hl => k _ _ _ (Go.of (Same.upd (S.freshG hl)) (S.newG hl)) (Rep.tup (.inl (.inl upd_same)) (rs.mono (Same.upd (S.freshG hl))))⟩⟩
theorem on_tupT : OpN K cl true (rTupA K) M [.tup ds] (.tup ds) M := on_val fun G1 H1 S us ru => by
  obtain ⟨u, rfl, hu⟩ := reps1 ru
  obtain ⟨a, vs, rfl, sq, rs⟩ := hu.of_tup
  exact ⟨_, hu, fun Q q => ⟨a, vs, rfl, .inr ⟨Same.seqT S.sub sq, q⟩⟩⟩
/-- an owned list's items, as they stand -/
theorem on_tupM {a : Addr} {vs : List V} (h : At M a (.lst vs)) (hr : Reps K cl G vs ds) : ∀ G1 H1, Same G G1 → Sep G1 H1 M → ∀ Q : VK, (∀ w G2 H2, Go false M M G1 H1 G2 H2 → Rep K cl G2 w (.tup ds) → Q w H2) → rTupA K [.ref a] H1 Q := fun G1 H1 s S Q k =>
  ⟨a, vs, rfl, .inl ⟨.inl (.inl (S.look h)), fun l hl => k _ _ _ (Go.of (Same.upd (S.freshG hl)) (S.newG hl)) (Rep.tup (.inl (.inl upd_same)) ((hr.mono s).mono (Same.upd (S.freshG hl))))⟩⟩
theorem ev_tupM {a : Addr} {vs : List V} (ha : EvX K cl p ta σ G M (.loc a) M1) (h : At M1 a (.lst vs)) (hr : Reps K cl G vs ds) : EvX K cl false (tCB (rTupA K) (tCons ta tNil)) σ G M (.tup ds) M1 := fun G1 H1 s S Q k =>
  ha G1 H1 s S _ fun x G2 H2 g2 rx => by
    rw [rx.of_loc]
    exact on_tupM h hr G2 H2 (s.trans g2.same) g2.sep Q fun w G3 H3 g3 rw' => k w G3 H3 (Go.of (g2.same.trans g3.same) g3.sep) rw'
/-- s.startswith(t) -/
abbrev rStarts : V → List V → Hp → VK → Prop := fun x xs H Q => ∃ a b, x = .str a ∧ xs = [.str b] ∧ Q (.bl (Txt.startswith a b)) H
theorem ev_starts {x y : Str} (ha : EvX K cl p ta σ G M (.str x) M1) (hb : EvX K cl q tb σ G M1 (.str y) M2) : EvX K cl (p && q) (tM1 rStarts ta tb) σ G M (.bl (Txt.startswith x y)) M2 := fun G1 H1 s S Q k =>
  ha G1 H1 s S _ fun u G2 H2 g2 ru => ⟨⟨x, ru.of_str⟩, hb G2 H2 (s.trans g2.same) g2.sep _ fun v G3 H3 g3 rv => ⟨x, y, ru.of_str, by rw [rv.of_str], k _ G3 H3 (g2.trans g3) Rep.bl⟩⟩
/-! slices -/
def EvO (p : Bool) (K : PySem.W.Frag) (cl : Nat → Addr) (to : TO) (σ : St) (G : Hp) (M : ML) (o : Option Int) : Prop :=
  ∀ G1 H1, Same G G1 → Sep G1 H1 M → ∀ Q : Option Int → Hp → Prop, (∀ G2 H2, Go p M M G1 H1 G2 H2 → Q o H2) → to σ H1 Q
theorem eo_none : EvO true K cl tNoPart σ G M none := fun G1 H1 s S Q k => k G1 H1 (Go.refl S)
theorem eo_some {i : Int} (h : EvX K cl p te σ G M (.int i) M) : EvO p K cl (tPart te) σ G M (some i) := fun G1 H1 s S Q k => h G1 H1 s S _ fun x G2 H2 g2 rx => ⟨i, rx.of_int, k G2 H2 g2⟩
abbrev SlK := V → Option Int → Option Int → Hp → VK → Prop
def orS (a b : SlK) : SlK := fun x l u H Q => a x l u H Q ∨ b x l u H Q
theorem sl_or {X : Cx} {a b : SlK} (h1 : SlR X a) (h2 : SlR X b) : SlR X (orS a b) := fun pins s σ H x v vl vu lo hi sl Q I rx hs pl pu h => h.elim (h1 pins s σ H x v vl vu lo hi sl Q I rx hs pl pu) (h2 pins s σ H x v vl vu lo hi sl Q I rx hs pl pu)
/-- xs[lo:hi] of a list or a text -/
def rSlA (K : PySem.W.Frag) : SlK := orS (rSlL K) rSlS
theorem sl_any {X : Cx} : SlR X (rSlA X.K) := sl_or sl_list sl_str
theorem ev_slS {x : Str} {tl th : TO} {lo hi : Option Int} (ha : EvX K cl p ta σ G M (.str x) M1) (hl : EvO q K cl tl σ G M1 lo) (hh : EvO r K cl th σ G M1 hi) (hx : x.length ≤ 100000) : EvX K cl (p && q && r) (tSl (rSlA K) ta tl th) σ G M (.str (cutS x lo hi)) M1 := fun G1 H1 s S Q k =>
  ha G1 H1 s S _ fun u G2 H2 g2 ru => hl G2 H2 (s.trans g2.same) g2.sep _ fun G3 H3 g3 => hh G3 H3 ((s.trans g2.same).trans g3.same) g3.sep _ fun G4 H4 g4 =>
    .inr ⟨x, ru.of_str, Nat.le_trans hx (by decide), k _ G4 H4 ((g2.trans g3).trans g4) Rep.str⟩
def cutD (xs : List D) (lo hi : Option Int) : List D := (xs.drop (HT.sIx xs.length 0 lo)).take (HT.sIx xs.length xs.length hi - HT.sIx xs.length 0 lo)
theorem Reps.cut {vs : List V} {lo hi : Option Int} (h : Reps K cl G vs ds) : Reps K cl G (cutV vs lo hi) (cutD ds lo hi) := by
  unfold cutV cutD
  rw [h.length]
  exact (h.drop _).take _
theorem ev_slL {tl th : TO} {lo hi : Option Int} (ha : EvX K cl p ta σ G M (.lst ds) M1) (hl : EvO q K cl tl σ G M1 lo) (hh : EvO r K cl th σ G M1 hi) : EvX K cl false (tSl (rSlA K) ta tl th) σ G M (.lst (cutD ds lo hi)) M1 := fun G1 H1 s S Q k =>
  ha G1 H1 s S _ fun u G2 H2 g2 ru => hl G2 H2 (s.trans g2.same) g2.sep _ fun G3 H3 g3 => hh G3 H3 ((s.trans g2.same).trans g3.same) g3.sep _ fun G4 H4 g4 => by
    obtain ⟨a, vs, e, sq, rs⟩ := ru.of_lst
    have s4 : Same G2 G4 := g3.same.trans g4.same
    refine .inl ⟨a, vs, e, (s4.trans g4.sep.sub).seq sq, fun l hl => ?_⟩
    have n := g4.sep.freshG hl
    exact k _ _ _ (Go.of ((g2.same.trans s4).trans (Same.upd n)) (g4.sep.newG hl)) (Rep.lst (.inl (.inl upd_same)) ((rs.mono (s4.trans (Same.upd n))).cut))

/-! ### statements -/
variable {nx : St → Hp → Prop} {rt : VK} {bk ct : St → Hp → Prop} {t u : TS}
theorem s_seq (h : t ⟨u ⟨nx, rt, bk, ct⟩, rt, bk, ct⟩ σ H) : tSeq t u ⟨nx, rt, bk, ct⟩ σ H := h
theorem s_asg {i : Nat} (S : Sep G H M) (h : EvX K cl p te σ G M d M1) (k : ∀ v G' H', Go p M M1 G H G' H' → Rep K cl G' v d → nx (σ.set i (some v)) H') : tAsg te (gName i) ⟨nx, rt, bk, ct⟩ σ H :=
  h G H (Same.refl _) S _ fun v G2 H2 g rv => k v G2 H2 g rv
theorem s_asgG {i : Nat} {F : V → Hp → ML → Prop} (S : Sep G H M) (h : EvG te σ G M F) (k : ∀ v G' H' M', Same G G' → Sep G' H' M' → F v G' M' → nx (σ.set i (some v)) H') : tAsg te (gName i) ⟨nx, rt, bk, ct⟩ σ H :=
  h G H (Same.refl _) S _ fun v G2 H2 M2 s S2 f => k v G2 H2 M2 s S2 f
theorem s_ret (S : Sep G H M) (h : EvX K cl p te σ G M d M1) (k : ∀ v G' H', Go p M M1 G H G' H' → Rep K cl G' v d → rt v H') : tRet te ⟨nx, rt, bk, ct⟩ σ H :=
  h G H (Same.refl _) S _ fun v G2 H2 g rv => k v G2 H2 g rv
theorem s_retG {F : V → Hp → ML → Prop} (S : Sep G H M) (h : EvG te σ G M F) (k : ∀ v G' H' M', Same G G' → Sep G' H' M' → F v G' M' → rt v H') : tRet te ⟨nx, rt, bk, ct⟩ σ H :=
  h G H (Same.refl _) S _ fun v G2 H2 M2 s S2 f => k v G2 H2 M2 s S2 f
theorem s_drop (S : Sep G H M) (h : EvX K cl p te σ G M d M1) (k : ∀ v G' H', Go p M M1 G H G' H' → Rep K cl G' v d → nx σ H') : tDrop te ⟨nx, rt, bk, ct⟩ σ H :=
  h G H (Same.refl _) S _ fun v G2 H2 g rv => k v G2 H2 g rv
theorem s_if {b : Bool} (S : Sep G H M) (h : EvT K cl p tt σ G M b M1) (h1 : ∀ G' H', Go p M M1 G H G' H' → b = true → t ⟨nx, rt, bk, ct⟩ σ H') (h2 : ∀ G' H', Go p M M1 G H G' H' → b = false → u ⟨nx, rt, bk, ct⟩ σ H') : tIfS tt t u ⟨nx, rt, bk, ct⟩ σ H :=
  h G H (Same.refl _) S _ fun G2 H2 g => by
    cases b with
    | true => exact h1 G2 H2 g rfl
    | false => exact h2 G2 H2 g rfl
/-- both ways meet again -/
theorem s_ifJ {b : Bool} (J : St → Hp → ML → Prop) (S : Sep G H M) (h : EvT K cl p tt σ G M b M1)
    (h1 : (∀ σ' G' H' M', Same G G' → Sep G' H' M' → J σ' G' M' → nx σ' H') → ∀ G' H', Go p M M1 G H G' H' → b = true → t ⟨nx, rt, bk, ct⟩ σ H')
    (h2 : (∀ σ' G' H' M', Same G G' → Sep G' H' M' → J σ' G' M' → nx σ' H') → ∀ G' H', Go p M M1 G H G' H' → b = false → u ⟨nx, rt, bk, ct⟩ σ H')
    (k : ∀ σ' G' H' M', Same G G' → Sep G' H' M' → J σ' G' M' → nx σ' H') : tIfS tt t u ⟨nx, rt, bk, ct⟩ σ H := s_if S h (h1 k) (h2 k)
theorem s_next (h : nx σ H) : tNext ⟨nx, rt, bk, ct⟩ σ H := h
theorem s_break (h : bk σ H) : tBreak ⟨nx, rt, bk, ct⟩ σ H := h
theorem s_cont (h : ct σ H) : tCont ⟨nx, rt, bk, ct⟩ σ H := h
theorem s_retN (h : rt .non H) : tRetN ⟨nx, rt, bk, ct⟩ σ H := h
/-- self.f = e, self owned -/
theorem s_fld {a C dx : Addr} {fs : List (Str × V)} {f : Str} {tv : TE} {M' : V → ML} (S : Sep G H M) (hv : EvX K cl p tv σ G M d M1) (ha : EvX K cl q ta σ G M1 (.loc a) M2) (hm : ∀ v, Ch M2 a (.ins C dx fs) (.ins C dx (putF f v fs)) (M' v)) (hc : Cls K C) (hn : NoAttr K C f) (hl : fs.length < 1000)
    (k : ∀ v G' H', Same G G' → Sep G' H' (M' v) → Rep K cl G' v d → nx σ H') : sFld K ta tv f ⟨nx, rt, bk, ct⟩ σ H :=
  hv G H (Same.refl _) S _ fun v G2 H2 g2 rv => ha G2 H2 g2.same g2.sep _ fun x G3 H3 g3 rx =>
    ⟨a, C, dx, fs, rx.of_loc, g3.sep.look (hm v).at, hc, hn, hl, k v G3 _ (g2.same.trans g3.same) (g3.sep.ch (hm v)) (rv.mono g3.same)⟩
theorem putF_zip_new {f : Str} {v : V} : ∀ {ns : List Str} {vs : List V}, ns.length = vs.length → ns.contains f = false → putF f v (ns.zip vs) = (ns ++ [f]).zip (vs ++ [v])
  | [], [], _, _ => rfl
  | [], _ :: _, h, _ => by simp at h
  | _ :: _, [], h, _ => by simp at h
  | n :: ns, w :: vs, h, hc => by
    rw [List.contains_cons, Bool.or_eq_false_iff] at hc
    have hne : ¬ n = f := fun e => by rw [e] at hc; simp at hc
    rw [List.zip_cons_cons]
    show (if n = f then _ else _) = _
    rw [if_neg hne, putF_zip_new (Nat.succ.inj h) hc.2]
    rfl
theorem putF_zip_set {f : Str} {v : V} : ∀ {ns : List Str} {vs : List V} {i : Nat}, ns.length = vs.length → ns.findIdx? (· == f) = some i → putF f v (ns.zip vs) = ns.zip (vs.set i v)
  | [], [], i, _, h => by simp at h
  | [], _ :: _, _, h, _ => by simp at h
  | _ :: _, [], _, h, _ => by simp at h
  | n :: ns, w :: vs, i, h, hc => by
    rw [List.zip_cons_cons]
    rw [List.findIdx?_cons] at hc
    by_cases e : n = f
    · have e' : (n == f) = true := by simp [e]
      rw [e'] at hc
      simp at hc
      subst hc
      show (if n = f then _ else _) = _
      rw [if_pos e]
      rfl
    · have e' : (n == f) = false := by simp [e]
      rw [e'] at hc
      simp at hc
      obtain ⟨j, hj, rfl⟩ := hc
      show (if n = f then _ else _) = _
      rw [if_neg e, putF_zip_set (Nat.succ.inj h) hj]
      rfl
/-- self.f = e: a field that is not there yet -/
theorem s_fldN {a C dx : Addr} {ns : List Str} {vs : List V} {f : Str} {tv : TE} {M' : V → ML} (S : Sep G H M) (hv : EvX K cl p tv σ G M d M1) (ha : EvX K cl q ta σ G M1 (.loc a) M2) (hm : ∀ v, Ch M2 a (.ins C dx (ns.zip vs)) (.ins C dx ((ns ++ [f]).zip (vs ++ [v]))) (M' v)) (hc : Cls K C) (hn : NoAttr K C f)
    (hl : ns.length = vs.length) (hx : ns.contains f = false) (hk : ns.length < 1000) (k : ∀ v G' H', Same G G' → Sep G' H' (M' v) → Rep K cl G' v d → nx σ H') : sFld K ta tv f ⟨nx, rt, bk, ct⟩ σ H :=
  s_fld (fs := ns.zip vs) S hv ha (fun v => by rw [putF_zip_new hl hx]; exact hm v) hc hn (by rw [List.length_zip]; omega) k
/-- .. a field that is there -/
theorem s_fldU {a C dx : Addr} {ns : List Str} {vs : List V} {f : Str} {tv : TE} {i : Nat} {M' : V → ML} (S : Sep G H M) (hv : EvX K cl p tv σ G M d M1) (ha : EvX K cl q ta σ G M1 (.loc a) M2) (hx : ns.findIdx? (· == f) = some i) (hm : ∀ v, Ch M2 a (.ins C dx (ns.zip vs)) (.ins C dx (ns.zip (vs.set i v))) (M' v)) (hc : Cls K C) (hn : NoAttr K C f)
    (hl : ns.length = vs.length) (hk : ns.length < 1000) (k : ∀ v G' H', Same G G' → Sep G' H' (M' v) → Rep K cl G' v d → nx σ H') : sFld K ta tv f ⟨nx, rt, bk, ct⟩ σ H :=
  s_fld (fs := ns.zip vs) S hv ha (fun v => by rw [putF_zip_set hl hx]; exact hm v) hc hn (by rw [List.length_zip]; omega) k
/-- xs.append(e), xs owned -/
theorem s_app {a : Addr} {us vs : List V} {M' : V → ML} (S : Sep G H M) (ha : EvX K cl p ta σ G M (.loc a) M1) (hm0 : At M1 a (.lst us)) (he : EvX K cl q te σ G M1 d M2) (hm : ∀ v, Ch M2 a (.lst vs) (.lst (vs ++ [v])) (M' v)) (hl : vs.length < 10000000)
    (k : ∀ v G' H', Same G G' → Sep G' H' (M' v) → Rep K cl G' v d → nx σ H') : tDrop (tBM K "list" rAppend ta (tCons te tNil)) ⟨nx, rt, bk, ct⟩ σ H :=
  ha G H (Same.refl _) S _ fun x G2 H2 g2 rx => ⟨by
    rw [rx.of_loc]
    exact .inl ⟨rfl, us, .inl (.inl (g2.sep.look hm0))⟩, he G2 H2 g2.same g2.sep _ fun v G3 H3 g3 rv =>
    ⟨a, vs, v, rx.of_loc, rfl, g3.sep.look (hm v).at, Nat.lt_of_lt_of_le hl (by decide), k v G3 _ (g2.same.trans g3.same) (g3.sep.ch (hm v)) rv⟩⟩
/-- xs[i] = e, xs owned -/
theorem s_set {ti : TE} {a : Addr} {vs : List V} {i : Int} {j : Nat} {M' : V → ML} (S : Sep G H M) (he : EvX K cl p te σ G M d M1) (ha : EvX K cl q ta σ G M1 (.loc a) M2) (hi : EvX K cl r ti σ G M2 (.int i) M3) (hm : ∀ v, Ch M3 a (.lst vs) (.lst (vs.set j v)) (M' v)) (hj : ixN vs.length i = some j)
    (k : ∀ v G' H', Same G G' → Sep G' H' (M' v) → Rep K cl G' v d → nx σ H') : tAsg te (gSub ta ti rSetL) ⟨nx, rt, bk, ct⟩ σ H :=
  he G H (Same.refl _) S _ fun v G2 H2 g2 rv => ha G2 H2 g2.same g2.sep _ fun x G3 H3 g3 rx => hi G3 H3 (g2.same.trans g3.same) g3.sep _ fun y G4 H4 g4 ry =>
    ⟨a, vs, i, j, rx.of_loc, ry.of_int, g4.sep.look (hm v).at, hj, k v G4 _ ((g2.same.trans g3.same).trans g4.same) (g4.sep.ch (hm v)) (rv.mono (g3.same.trans g4.same))⟩
/-! loops -/
/-- list or tuple -/
def iSeq (K : PySem.W.Frag) (tl : TE) : TI := fun σ H R => iList K tl σ H R ∨ iTup K tl σ H R
theorem pi_seq {X : Cx} {tg l : Expr} {tl : TE} (hl : PE X l tl) : PI X tg l (iSeq X.K tl) := ⟨fun pins s σ H R I h => by
  rcases h with h | h
  · exact (pi_list hl).run pins s σ H R I h
  · exact (pi_tup hl).run pins s σ H R I h⟩
/-- what stands between two turns -/
def Nx (G : Hp) (J : Nat → St → Hp → ML → Prop) (i : Nat) : St → Hp → Prop := fun σ H => ∃ G' M', Same G G' ∧ Sep G' H M' ∧ J i σ G' M'
theorem s_forL {tl : TE} {g : TG} {tb : TS} (J : Nat → St → Hp → ML → Prop) (S : Sep G H M) (h : EvX K cl p tl σ G M (.lst ds) M1) (h0 : ∀ G' H', Go p M M1 G H G' H' → J 0 σ G' M1)
    (hs : ∀ G2, Same G G2 → ∀ i x d σ' G' H' M', ds[i]? = some d → Same G2 G' → Sep G' H' M' → Rep K cl G' x d → J i σ' G' M' → g x σ' H' fun σ2 H2 => tb ⟨Nx G2 J (i + 1), rt, nx, Nx G2 J (i + 1)⟩ σ2 H2)
    (hd : ∀ σ' G' H' M', Same G G' → Sep G' H' M' → J ds.length σ' G' M' → nx σ' H') : tFor (iSeq K tl) g tb ⟨nx, rt, bk, ct⟩ σ H :=
  .inl (h G H (Same.refl _) S _ fun x G2 H2 g2 rx => by
    obtain ⟨a, vs, e, sq, rs⟩ := rx.of_lst
    refine ⟨a, e, ⟨vs, g2.sep.sub.seq sq⟩, for_list (xs := vs) (Nx G2 J) ⟨G2, M1, Same.refl _, g2.sep, h0 G2 H2 g2⟩ ?_ ?_ ?_⟩
    · rintro i σ' H' hi ⟨G', M', s', S', j⟩
      exact (s'.trans S'.sub).seq sq
    · rintro i y σ' H' hy ⟨G', M', s', S', j⟩
      obtain ⟨d, hd', rd⟩ := rs.get hy
      exact hs G2 g2.same i y d σ' G' H' M' hd' s' S' (rd.mono s') j
    · rintro σ' H' ⟨G', M', s', S', j⟩
      rw [rs.length] at j
      exact hd σ' G' H' M' (g2.same.trans s') S' j)
theorem s_forT {tl : TE} {g : TG} {tb : TS} (J : Nat → St → Hp → ML → Prop) (S : Sep G H M) (h : EvX K cl p tl σ G M (.tup ds) M1) (h0 : ∀ G' H', Go p M M1 G H G' H' → J 0 σ G' M1)
    (hs : ∀ G2, Same G G2 → ∀ i x d σ' G' H' M', ds[i]? = some d → Same G2 G' → Sep G' H' M' → Rep K cl G' x d → J i σ' G' M' → g x σ' H' fun σ2 H2 => tb ⟨Nx G2 J (i + 1), rt, nx, Nx G2 J (i + 1)⟩ σ2 H2)
    (hd : ∀ σ' G' H' M', Same G G' → Sep G' H' M' → J ds.length σ' G' M' → nx σ' H') : tFor (iSeq K tl) g tb ⟨nx, rt, bk, ct⟩ σ H :=
  .inr (h G H (Same.refl _) S _ fun x G2 H2 g2 rx => by
    obtain ⟨a, vs, e, sq, rs⟩ := rx.of_tup
    refine ⟨a, e, ⟨vs, Same.seqT g2.sep.sub sq⟩, for_tup (xs := vs) (Nx G2 J) ⟨G2, M1, Same.refl _, g2.sep, h0 G2 H2 g2⟩ ?_ ?_ ?_⟩
    · rintro i σ' H' hi ⟨G', M', s', S', j⟩
      exact Same.seqT (s'.trans S'.sub) sq
    · rintro i y σ' H' hy ⟨G', M', s', S', j⟩
      obtain ⟨d, hd', rd⟩ := rs.get hy
      exact hs G2 g2.same i y d σ' G' H' M' hd' s' S' (rd.mono s') j
    · rintro σ' H' ⟨G', M', s', S', j⟩
      rw [rs.length] at j
      exact hd σ' G' H' M' (g2.same.trans s') S' j)
theorem s_forR1 {g : TG} {tb : TS} {n : Int} (J : Nat → St → Hp → ML → Prop) (S : Sep G H M) (h : EvA K cl p tx σ G M [.int n] M1) (hn : -1000000000000 ≤ n ∧ n ≤ 1000000000000) (h0 : ∀ G' H', Go p M M1 G H G' H' → J 0 σ G' M1)
    (hs : ∀ G2, Same G G2 → ∀ (i : Nat) σ' G' H' M', (i : Int) < n → Same G2 G' → Sep G' H' M' → J i σ' G' M' → g (.int (i : Int)) σ' H' fun σ2 H2 => tb ⟨Nx G2 J (i + 1), rt, nx, Nx G2 J (i + 1)⟩ σ2 H2)
    (hd : ∀ σ' G' H' M', Same G G' → Sep G' H' M' → J n.toNat σ' G' M' → nx σ' H') : tFor (iRng1 tx) g tb ⟨nx, rt, bk, ct⟩ σ H :=
  h G H (Same.refl _) S _ fun xs G2 H2 g2 rx => by
    obtain ⟨u, rfl, hu⟩ := reps1 rx
    refine ⟨n, by rw [hu.of_int], by omega, by omega, for_range (lo := 0) (n := n.toNat) (Nx G2 J) ⟨G2, M1, Same.refl _, g2.sep, h0 G2 H2 g2⟩ ?_ ?_⟩
    · rintro i σ' H' hi ⟨G', M', s', S', j⟩
      rw [Int.zero_add]
      exact hs G2 g2.same i σ' G' H' M' (by omega) s' S' j
    · rintro σ' H' ⟨G', M', s', S', j⟩
      exact hd σ' G' H' M' (g2.same.trans s') S' j
theorem s_forR2 {g : TG} {tb : TS} {lo n : Int} (J : Nat → St → Hp → ML → Prop) (S : Sep G H M) (h : EvA K cl p tx σ G M [.int lo, .int n] M1) (hn : -1000000000000000 ≤ lo ∧ lo ≤ 1000000000000000 ∧ -1000000000000000 ≤ n ∧ n ≤ 1000000000000000) (h0 : ∀ G' H', Go p M M1 G H G' H' → J 0 σ G' M1)
    (hs : ∀ G2, Same G G2 → ∀ (i : Nat) σ' G' H' M', lo + (i : Int) < n → Same G2 G' → Sep G' H' M' → J i σ' G' M' → g (.int (lo + (i : Int))) σ' H' fun σ2 H2 => tb ⟨Nx G2 J (i + 1), rt, nx, Nx G2 J (i + 1)⟩ σ2 H2)
    (hd : ∀ σ' G' H' M', Same G G' → Sep G' H' M' → J (n - lo).toNat σ' G' M' → nx σ' H') : tFor (iRng2 tx) g tb ⟨nx, rt, bk, ct⟩ σ H :=
  h G H (Same.refl _) S _ fun xs G2 H2 g2 rx => by
    obtain ⟨u, v, rfl, hu, hv⟩ := reps2 rx
    refine ⟨lo, n, by rw [hu.of_int, hv.of_int], ⟨by omega, by omega, by omega, by omega⟩, for_range (lo := lo) (n := (n - lo).toNat) (Nx G2 J) ⟨G2, M1, Same.refl _, g2.sep, h0 G2 H2 g2⟩ ?_ ?_⟩
    · rintro i σ' H' hi ⟨G', M', s', S', j⟩
      exact hs G2 g2.same i σ' G' H' M' (by omega) s' S' j
    · rintro σ' H' ⟨G', M', s', S', j⟩
      exact hd σ' G' H' M' (g2.same.trans s') S' j
theorem op1_dummy : True := trivial
theorem s_gname {i : Nat} {v : V} {Q : St → Hp → Prop} (h : Q (σ.set i (some v)) H) : gName i v σ H Q := h
end
end Cp
/-! Cp4: truth of values, items of owned lists, comprehensions, while, == of data, tuples taken apart. -/
namespace Cp
open PySem L2

section
variable {K : PySem.W.Frag} {cl : Nat → Addr} {p q r : Bool} {M M1 M2 M3 M4 : ML} {G G1 G2 G3 H H1 H2 H3 : Hp} {σ : St} {ta tb te : TE} {tx : TA} {tt tu : TT} {d d1 d2 d3 : D} {ds es : List D}

theorem reps3 {us : List V} {d1 d2 d3 : D} (h : Reps K cl G us [d1, d2, d3]) : ∃ u1 u2 u3, us = [u1, u2, u3] ∧ Rep K cl G u1 d1 ∧ Rep K cl G u2 d2 ∧ Rep K cl G u3 d3 := by
  obtain ⟨u1, ws, rfl, h1, hw⟩ := h.uncons
  obtain ⟨u2, u3, rfl, h2, h3⟩ := reps2 hw
  exact ⟨u1, u2, u3, rfl, h1, h2, h3⟩
theorem reps4 {us : List V} {d1 d2 d3 d4 : D} (h : Reps K cl G us [d1, d2, d3, d4]) : ∃ u1 u2 u3 u4, us = [u1, u2, u3, u4] ∧ Rep K cl G u1 d1 ∧ Rep K cl G u2 d2 ∧ Rep K cl G u3 d3 ∧ Rep K cl G u4 d4 := by
  obtain ⟨u1, ws, rfl, h1, hw⟩ := h.uncons
  obtain ⟨u2, u3, u4, rfl, h2, h3, h4⟩ := reps3 hw
  exact ⟨u1, u2, u3, u4, rfl, h1, h2, h3, h4⟩
theorem reps5 {us : List V} {d1 d2 d3 d4 d5 : D} (h : Reps K cl G us [d1, d2, d3, d4, d5]) : ∃ u1 u2 u3 u4 u5, us = [u1, u2, u3, u4, u5] ∧ Rep K cl G u1 d1 ∧ Rep K cl G u2 d2 ∧ Rep K cl G u3 d3 ∧ Rep K cl G u4 d4 ∧ Rep K cl G u5 d5 := by
  obtain ⟨u1, ws, rfl, h1, hw⟩ := h.uncons
  obtain ⟨u2, u3, u4, u5, rfl, h2, h3, h4, h5⟩ := reps4 hw
  exact ⟨u1, u2, u3, u4, u5, rfl, h1, h2, h3, h4, h5⟩
theorem reps6 {us : List V} {d1 d2 d3 d4 d5 d6 : D} (h : Reps K cl G us [d1, d2, d3, d4, d5, d6]) : ∃ u1 u2 u3 u4 u5 u6, us = [u1, u2, u3, u4, u5, u6] ∧ Rep K cl G u1 d1 ∧ Rep K cl G u2 d2 ∧ Rep K cl G u3 d3 ∧ Rep K cl G u4 d4 ∧ Rep K cl G u5 d5 ∧ Rep K cl G u6 d6 := by
  obtain ⟨u1, ws, rfl, h1, hw⟩ := h.uncons
  obtain ⟨u2, u3, u4, u5, u6, rfl, h2, h3, h4, h5, h6⟩ := reps5 hw
  exact ⟨u1, u2, u3, u4, u5, u6, rfl, h1, h2, h3, h4, h5, h6⟩
theorem reps7 {us : List V} {d1 d2 d3 d4 d5 d6 d7 : D} (h : Reps K cl G us [d1, d2, d3, d4, d5, d6, d7]) : ∃ u1 u2 u3 u4 u5 u6 u7, us = [u1, u2, u3, u4, u5, u6, u7] ∧ Rep K cl G u1 d1 ∧ Rep K cl G u2 d2 ∧ Rep K cl G u3 d3 ∧ Rep K cl G u4 d4 ∧ Rep K cl G u5 d5 ∧ Rep K cl G u6 d6 ∧ Rep K cl G u7 d7 := by
  obtain ⟨u1, ws, rfl, h1, hw⟩ := h.uncons
  obtain ⟨u2, u3, u4, u5, u6, u7, rfl, h2, h3, h4, h5, h6, h7⟩ := reps6 hw
  exact ⟨u1, u2, u3, u4, u5, u6, u7, rfl, h1, h2, h3, h4, h5, h6, h7⟩
theorem reps8 {us : List V} {d1 d2 d3 d4 d5 d6 d7 d8 : D} (h : Reps K cl G us [d1, d2, d3, d4, d5, d6, d7, d8]) : ∃ u1 u2 u3 u4 u5 u6 u7 u8, us = [u1, u2, u3, u4, u5, u6, u7, u8] ∧ Rep K cl G u1 d1 ∧ Rep K cl G u2 d2 ∧ Rep K cl G u3 d3 ∧ Rep K cl G u4 d4 ∧ Rep K cl G u5 d5 ∧ Rep K cl G u6 d6 ∧ Rep K cl G u7 d7 ∧ Rep K cl G u8 d8 := by
  obtain ⟨u1, ws, rfl, h1, hw⟩ := h.uncons
  obtain ⟨u2, u3, u4, u5, u6, u7, u8, rfl, h2, h3, h4, h5, h6, h7, h8⟩ := reps7 hw
  exact ⟨u1, u2, u3, u4, u5, u6, u7, u8, rfl, h1, h2, h3, h4, h5, h6, h7, h8⟩
theorem reps9 {us : List V} {d1 d2 d3 d4 d5 d6 d7 d8 d9 : D} (h : Reps K cl G us [d1, d2, d3, d4, d5, d6, d7, d8, d9]) : ∃ u1 u2 u3 u4 u5 u6 u7 u8 u9, us = [u1, u2, u3, u4, u5, u6, u7, u8, u9] ∧ Rep K cl G u1 d1 ∧ Rep K cl G u2 d2 ∧ Rep K cl G u3 d3 ∧ Rep K cl G u4 d4 ∧ Rep K cl G u5 d5 ∧ Rep K cl G u6 d6 ∧ Rep K cl G u7 d7 ∧ Rep K cl G u8 d8 ∧ Rep K cl G u9 d9 := by
  obtain ⟨u1, ws, rfl, h1, hw⟩ := h.uncons
  obtain ⟨u2, u3, u4, u5, u6, u7, u8, u9, rfl, h2, h3, h4, h5, h6, h7, h8, h9⟩ := reps8 hw
  exact ⟨u1, u2, u3, u4, u5, u6, u7, u8, u9, rfl, h1, h2, h3, h4, h5, h6, h7, h8, h9⟩
theorem reps10 {us : List V} {d1 d2 d3 d4 d5 d6 d7 d8 d9 d10 : D} (h : Reps K cl G us [d1, d2, d3, d4, d5, d6, d7, d8, d9, d10]) : ∃ u1 u2 u3 u4 u5 u6 u7 u8 u9 u10, us = [u1, u2, u3, u4, u5, u6, u7, u8, u9, u10] ∧ Rep K cl G u1 d1 ∧ Rep K cl G u2 d2 ∧ Rep K cl G u3 d3 ∧ Rep K cl G u4 d4 ∧ Rep K cl G u5 d5 ∧ Rep K cl G u6 d6 ∧ Rep K cl G u7 d7 ∧ Rep K cl G u8 d8 ∧ Rep K cl G u9 d9 ∧ Rep K cl G u10 d10 := by
  obtain ⟨u1, ws, rfl, h1, hw⟩ := h.uncons
  obtain ⟨u2, u3, u4, u5, u6, u7, u8, u9, u10, rfl, h2, h3, h4, h5, h6, h7, h8, h9, h10⟩ := reps9 hw
  exact ⟨u1, u2, u3, u4, u5, u6, u7, u8, u9, u10, rfl, h1, h2, h3, h4, h5, h6, h7, h8, h9, h10⟩
/-! ### truth -/
def tTr (K : PySem.W.Frag) (ta : TE) : TT := fun σ H Q => ta σ H fun x H' => ∃ k, TruV K x H' k ∧ Q k H'
theorem pt_tr {X : Cx} {a : Expr} (ha : PE X a ta) (he : ∀ whole, isTrue a X.env whole = (do let v ← whole; standAt a.pos; holding [v] (truthy v)) := by intro _; rfl) : PT X a (tTr X.K ta) := pt_truth ha he
def D.tru : D → Option Bool
  | .non => some false
  | .bl b => some b
  | .int i => some (i != 0)
  | .lst ds => some (!ds.isEmpty)
  | .tup ds => some (!ds.isEmpty)
  | _ => none
theorem Reps.isEmpty {vs : List V} (h : Reps K cl G vs ds) : vs.isEmpty = ds.isEmpty := by
  cases ds with
  | nil => simp only [Reps] at h; rw [h]; rfl
  | cons d ds => obtain ⟨v, ws, rfl, _, _⟩ := h.uncons; rfl
theorem et_tr {b : Bool} (h : EvX K cl p ta σ G M d M1) (hb : d.tru = some b) : EvT K cl p (tTr K ta) σ G M b M1 := fun G1 H1 s S Q k => h G1 H1 s S _ fun x G2 H2 g2 rx => by
  refine ⟨b, ?_, k G2 H2 g2⟩
  cases d with
  | non => rw [rx.of_non]; exact (Option.some.inj hb).symm
  | bl c => rw [rx.of_bl]; exact (Option.some.inj hb).symm
  | int i => rw [rx.of_int]; exact (Option.some.inj hb).symm
  | str s => cases hb
  | lst ds => obtain ⟨a, vs, rfl, sq, rs⟩ := rx.of_lst; exact .inl ⟨vs, g2.sep.sub.seq sq, by rw [rs.isEmpty]; exact (Option.some.inj hb).symm⟩
  | tup ds => obtain ⟨a, vs, rfl, sq, rs⟩ := rx.of_tup; exact .inr (.inl ⟨vs, Same.seqT g2.sep.sub sq, by rw [rs.isEmpty]; exact (Option.some.inj hb).symm⟩)
  | ins c ns ds => cases hb
  | loc a => cases hb
theorem et_trM {a : Addr} {vs : List V} (h : EvX K cl p ta σ G M (.loc a) M1) (hm : At M1 a (.lst vs)) : EvT K cl p (tTr K ta) σ G M (!vs.isEmpty) M1 := fun G1 H1 s S Q k => h G1 H1 s S _ fun x G2 H2 g2 rx => by
  rw [rx.of_loc]
  exact ⟨_, .inl ⟨vs, .inl (.inl (g2.sep.look hm)), rfl⟩, k G2 H2 g2⟩

/-! ### an item of an owned list, told by its data -/
theorem ev_ixMD {a : Addr} {vs : List V} {i : Int} (ha : EvX K cl p ta σ G M (.loc a) M1) (hb : EvX K cl q tb σ G M1 (.int i) M2) (hm : At M2 a (.lst vs)) (hr : Reps K cl G vs ds) (hi : atI ds i = some d) : EvX K cl (p && q) (tOp (rIx K) ta tb) σ G M d M2 := by
  obtain ⟨v, hv, rv⟩ := hr.atI hi
  exact ev_ixM ha hb hm hv rv
theorem atI_last' {α : Type} {xs : List α} {x : α} (h : xs.getLast? = some x) : atI xs (-1) = some x := by
  have hne : xs ≠ [] := fun e => by rw [e] at h; cases h
  have e1 : xs.getLast hne = x := by
    rw [List.getLast?_eq_some_getLast hne] at h
    exact Option.some.inj h
  have e2 := List.dropLast_concat_getLast hne
  rw [e1] at e2
  rw [← e2]
  exact atI_last _ _

/-! ### tuples taken apart -/
def gNames : List Nat → TGs
  | [] => gNil
  | i :: is => gCons (gName i) (gNames is)
def setAll : St → List Nat → List V → St
  | σ, i :: is, v :: vs => setAll (σ.set i (some v)) is vs
  | σ, _, _ => σ
theorem g_names {Q : St → Hp → Prop} : ∀ {is : List Nat} {vs : List V} {σ : St}, vs.length = is.length → Q (setAll σ is vs) H → gNames is vs σ H Q
  | [], [], σ, _, h => ⟨rfl, h⟩
  | i :: is, v :: vs, σ, hl, h => ⟨v, vs, rfl, g_names (Nat.succ.inj hl) h⟩
theorem g_tup {x : V} {is : List Nat} {n : Nat} {Q : St → Hp → Prop} (S : Sep G H M) (rx : Rep K cl G x (.tup ds)) (hn : ds.length = n) (hi : is.length = n) (k : ∀ vs, Reps K cl G vs ds → Q (setAll σ is vs) H) : gTup K n (gNames is) x σ H Q := by
  obtain ⟨a, vs, e, sq, rs⟩ := rx.of_tup
  exact ⟨a, vs, e, Same.seqT S.sub sq, by rw [rs.length, hn], g_names (by rw [rs.length, hn, hi]) (k vs rs)⟩
theorem s_asgT {is : List Nat} {n : Nat} {nx : St → Hp → Prop} {rt : VK} {bk ct : St → Hp → Prop} (S : Sep G H M) (h : EvX K cl p te σ G M (.tup ds) M1) (hn : ds.length = n) (hi : is.length = n) (k : ∀ vs G' H', Go p M M1 G H G' H' → Reps K cl G' vs ds → nx (setAll σ is vs) H') :
    tAsg te (gTup K n (gNames is)) ⟨nx, rt, bk, ct⟩ σ H := h G H (Same.refl _) S _ fun x G2 H2 g2 rx => g_tup g2.sep rx hn hi fun vs rs => k vs G2 H2 g2 rs

/-! ### a list that is made and then given away -/
theorem s_retF {i : Nat} {u : Addr} {vs : List V} {nx : St → Hp → Prop} {rt : VK} {bk ct : St → Hp → Prop} (S : Sep G H ((u, .lst vs) :: M)) (hi : σ[i]? = some (some (.ref u))) (hr : Reps K cl G vs ds) (k : ∀ G', Same G G' → Sep G' H M → Rep K cl G' (.ref u) (.lst ds) → rt (.ref u) H) : tRet (tVar i) ⟨nx, rt, bk, ct⟩ σ H := by
  obtain ⟨S', s'⟩ := S.freeze
  exact ⟨.ref u, hi, k _ s' S' (Rep.lst (.inl (.inl upd_same)) (hr.mono s'))⟩

/-! ### while -/
theorem s_while {tb : TS} {nx : St → Hp → Prop} {rt : VK} {bk ct : St → Hp → Prop} (J : Nat → St → Hp → ML → Prop) (m0 : Nat) (S : Sep G H M) (h0 : J m0 σ G M)
    (hs : ∀ m σ' G' H' M', Same G G' → Sep G' H' M' → J m σ' G' M' → ∃ b p M1, EvT K cl p tt σ' G' M' b M1 ∧ (b = true → ∀ G2 H2, Go p M' M1 G' H' G2 H2 → tb ⟨fun σ H => ∃ m', m' < m ∧ Nx G (fun _ => J m') 0 σ H, rt, nx, fun σ H => ∃ m', m' < m ∧ Nx G (fun _ => J m') 0 σ H⟩ σ' H2) ∧
      (b = false → ∀ G2 H2, Go p M' M1 G' H' G2 H2 → nx σ' H2)) : tWhile tt tb ⟨nx, rt, bk, ct⟩ σ H := by
  refine ⟨fun m σ H => Nx G (fun _ => J m) 0 σ H, ⟨m0, G, M, Same.refl _, S, h0⟩, ?_⟩
  rintro m σ' H' ⟨G', M', s', S', j⟩
  obtain ⟨b, p, M1, ht, h1, h2⟩ := hs m σ' G' H' M' s' S' j
  refine ht G' H' (Same.refl _) S' _ fun G2 H2 g2 => ?_
  cases b with
  | true => exact ⟨_, fun σ2 H2 h => h, h1 rfl G2 H2 g2⟩
  | false => exact h2 rfl G2 H2 g2

theorem wh_turn {b : Bool} {C : Bool → Bool → ML → Prop} (h : EvT K cl p tt σ G M b M1) (hC : C b p M1) : ∃ b p M1, EvT K cl p tt σ G M b M1 ∧ C b p M1 := ⟨b, p, M1, h, hC⟩
/-! ### comprehensions over frozen lists and tuples -/
/-- one turn of a comprehension: the target, the test, the element -/
def LcT (K : PySem.W.Frag) (cl : Nat → Addr) (g : TG) (tt : TT) (te : TE) (vs : List Nat) (σ : St) (G : Hp) (M : ML) (x : V) (keep : Bool) (y : D) : Prop :=
  ∃ σ2 p q, wipe σ2 vs = wipe σ vs ∧ (∀ H (Kk : St → Hp → Prop), Sep G H M → Kk σ2 H → g x (wipe σ vs) H Kk) ∧ EvT K cl p tt σ2 G M keep M ∧ (keep = true → EvX K cl q te σ2 G M y M)
theorem ev_lc {tl : TE} {g : TG} {vs : List Nat} {f : D → D} {keep : D → Bool} (h : EvX K cl p tl σ G M d1 M1) (hd : d1 = .lst ds ∨ d1 = .tup ds) (hl : ds.length ≤ 10000000)
    (hs : ∀ G1 e x d, Same G G1 → d ∈ ds → Rep K cl G1 x d → LcT K cl g tt te vs σ G1 (e :: M1) x (keep d) (f d)) : EvX K cl false (tLc (iSeq K tl) g tt te vs) σ G M (.lst ((ds.filter keep).map f)) M1 := fun G1 H1 s S Q k => by
  have main : ∀ G2 H2 (us : List V) (Dl : Addr), Same G G2 → Same G1 G2 → Sep G2 H2 M1 → Reps K cl G2 us ds → H2 Dl = none → ∀ (Pv : Nat → Hp → Prop), (Pv = fun i H => ∃ G' acc, Same G2 G' ∧ Sep G' H ((Dl, .lst acc) :: M1) ∧ Reps K cl G' acc (((ds.take i).filter keep).map f)) →
      Pv 0 (upd H2 Dl (.lst [])) ∧ (∀ i x H, us[i]? = some x → Pv i H → g x (wipe σ vs) H fun σ2 H2 => wipe σ2 vs = wipe σ vs ∧ tt σ2 H2 fun b H3 =>
        if b = true then te σ2 H3 fun y H4 => ∃ acc, H4 Dl = some (.lst acc) ∧ acc.length < sizeLine ∧ Pv (i + 1) (upd H4 Dl (.lst (acc ++ [y]))) else Pv (i + 1) H3) ∧ (∀ H, Pv us.length H → Q (.ref Dl) H) := by
    rintro G2 H2 us Dl s2 s12 S2 rs hD Pv rfl
    refine ⟨⟨G2, [], Same.refl _, S2.newM hD, Reps.nil⟩, ?_, ?_⟩
    · rintro i x H hx ⟨G', acc, s', S', ra⟩
      obtain ⟨d, hdi, rd⟩ := rs.get hx
      have hmem : d ∈ ds := List.mem_of_getElem? hdi
      obtain ⟨σ2, p', q', hw, hg, ht, he⟩ := hs G' (Dl, .lst acc) x d (s2.trans s') hmem (rd.mono s')
      refine hg H _ S' ⟨hw, ht G' H (Same.refl _) S' _ fun G3 H3 g3 => ?_⟩
      have e1 : ds.take (i + 1) = ds.take i ++ [d] := by rw [List.take_add_one, hdi]; rfl
      have hal : acc.length ≤ ds.length := by
        rw [ra.length, List.length_map]
        exact Nat.le_trans (List.length_filter_le _ _) (by rw [List.length_take]; omega)
      cases hk : keep d with
      | true =>
        rw [if_pos rfl]
        refine he hk G3 H3 g3.same g3.sep _ fun y G4 H4 g4 ry => ?_
        have sA := g3.same.trans g4.same
        refine ⟨acc, g4.sep.look .hd, Nat.lt_of_le_of_lt (Nat.le_trans hal hl) (by decide), G4, acc ++ [y], s'.trans sA, g4.sep.ch .hd, ?_⟩
        rw [e1, List.filter_append, List.map_append]
        refine Reps.append (ra.mono sA) ?_
        rw [List.filter_cons, if_pos hk]
        exact Reps.one ry
      | false =>
        rw [if_neg (by decide)]
        refine ⟨G3, acc, s'.trans g3.same, g3.sep, ?_⟩
        rw [e1, List.filter_append, List.map_append, List.filter_cons, if_neg (by rw [hk]; decide)]
        show Reps K cl G3 acc (_ ++ [])
        rw [List.append_nil]
        exact ra.mono g3.same
    · rintro H ⟨G', acc, s', S', ra⟩
      rw [rs.length, List.take_length] at ra
      obtain ⟨S3, s3⟩ := S'.freeze
      exact k (.ref Dl) _ H (Go.of ((s12.trans s').trans s3) S3) (Rep.lst (.inl (.inl upd_same)) (ra.mono s3))
  rcases hd with rfl | rfl
  · refine .inl (h G1 H1 s S _ fun x G2 H2 g2 rx => ?_)
    obtain ⟨a, us, e, sq, rs⟩ := rx.of_lst
    refine ⟨a, e, ⟨us, g2.sep.sub.seq sq⟩, fun Dl hD => ?_⟩
    obtain ⟨h0, ht, hd⟩ := main G2 H2 us Dl (s.trans g2.same) g2.same g2.sep rs hD _ rfl
    refine lc_list (xs := us) _ h0 ?_ ht hd
    rintro i H hi ⟨G', acc, s', S', ra⟩
    exact (s'.trans S'.sub).seq sq
  · refine .inr (h G1 H1 s S _ fun x G2 H2 g2 rx => ?_)
    obtain ⟨a, us, e, sq, rs⟩ := rx.of_tup
    refine ⟨a, e, ⟨us, Same.seqT g2.sep.sub sq⟩, fun Dl hD => ?_⟩
    obtain ⟨h0, ht, hd⟩ := main G2 H2 us Dl (s.trans g2.same) g2.same g2.sep rs hD _ rfl
    refine lc_tup (xs := us) _ h0 ?_ ht hd
    rintro i H hi ⟨G', acc, s', S', ra⟩
    exact Same.seqT (s'.trans S'.sub) sq
theorem lcT1 {vs : List Nat} {x : V} {keep : Bool} {y : D} {j : Nat} (hw : wipe ((wipe σ vs).set j (some x)) vs = wipe σ vs) (ht : EvT K cl p tt ((wipe σ vs).set j (some x)) G M keep M) (he : keep = true → EvX K cl q te ((wipe σ vs).set j (some x)) G M y M) : LcT K cl (gName j) tt te vs σ G M x keep y :=
  ⟨_, p, q, hw, fun H Kk _ h => h, ht, he⟩
theorem lcTt {vs : List Nat} {x : V} {keep : Bool} {y : D} {is : List Nat} {n : Nat} (rx : Rep K cl G x (.tup ds)) (hn : ds.length = n) (hi : is.length = n) (k : ∀ xs, Reps K cl G xs ds → wipe (setAll (wipe σ vs) is xs) vs = wipe σ vs ∧ ∃ p q, EvT K cl p tt (setAll (wipe σ vs) is xs) G M keep M ∧ (keep = true → EvX K cl q te (setAll (wipe σ vs) is xs) G M y M)) : LcT K cl (gTup K n (gNames is)) tt te vs σ G M x keep y := by
  obtain ⟨a, us, e, sq, rs⟩ := rx.of_tup
  obtain ⟨hw, p, q, ht, he⟩ := k us rs
  exact ⟨_, p, q, hw, fun H Kk S h => ⟨a, us, e, Same.seqT S.sub sq, by rw [rs.length, hn], g_names (by rw [rs.length, hn, hi]) h⟩, ht, he⟩
theorem lc_pair {vs : List Nat} {keep : Bool} {y : D} {σ2 : St} (hw : wipe σ2 vs = wipe σ vs) (ht : EvT K cl p tt σ2 G M keep M) (he : keep = true → EvX K cl q te σ2 G M y M) : wipe σ2 vs = wipe σ vs ∧ ∃ p q, EvT K cl p tt σ2 G M keep M ∧ (keep = true → EvX K cl q te σ2 G M y M) := ⟨hw, p, q, ht, he⟩
theorem et_yes : EvT K cl true tYes σ G M true M := fun G1 H1 s S Q k => k G1 H1 (Go.refl S)

/-! ### == of data -/
mutual
def D.isDat : D → Bool
  | .lst ds => D.areDat ds
  | .tup ds => D.areDat ds
  | .ins _ _ _ => false
  | .loc _ => false
  | .str x => x.cps.all (· < 0x110000)
  | _ => true
def D.areDat : List D → Bool
  | [] => true
  | d :: ds => d.isDat && D.areDat ds
end
mutual
def D.dep : D → Nat
  | .lst ds => D.deps ds + 1
  | .tup ds => D.deps ds + 1
  | _ => 0
def D.deps : List D → Nat
  | [] => 0
  | d :: ds => max d.dep (D.deps ds)
end
mutual
def D.pyd : D → PyData
  | .non => .none
  | .bl b => .bool b
  | .int i => .int i
  | .str s => .str s
  | .lst ds => .list (D.pyds ds)
  | .tup ds => .tuple (D.pyds ds)
  | _ => .none
def D.pyds : List D → List PyData
  | [] => []
  | d :: ds => d.pyd :: D.pyds ds
end
mutual
theorem Rep.dp : ∀ {v : V} {d : D}, Rep K cl G v d → d.isDat = true → Dp K G v d.pyd
  | _, .non, h, _ => by rw [h.of_non]; simp only [D.pyd]; exact .non
  | _, .bl b, h, _ => by rw [h.of_bl]; simp only [D.pyd]; exact .bl b
  | _, .int i, h, _ => by rw [h.of_int]; simp only [D.pyd]; exact .int i
  | _, .str x, h, _ => by rw [h.of_str]; simp only [D.pyd]; exact .str x
  | _, .lst ds, h, e => by
    obtain ⟨a, vs, rfl, sq, rs⟩ := h.of_lst
    simp only [D.pyd]
    exact .lst sq (Reps.dps rs (by simpa only [D.isDat] using e))
  | _, .tup ds, h, e => by
    obtain ⟨a, vs, rfl, sq, rs⟩ := h.of_tup
    simp only [D.pyd]
    exact .tup sq (Reps.dps rs (by simpa only [D.isDat] using e))
  | _, .ins _ _ _, _, e => by simp [D.isDat] at e
  | _, .loc _, _, e => by simp [D.isDat] at e
theorem Reps.dps : ∀ {vs : List V} {ds : List D}, Reps K cl G vs ds → D.areDat ds = true → DpAll K G vs (D.pyds ds)
  | _, [], h, _ => by simp only [Reps] at h; rw [h]; simp only [D.pyds]; exact .nil
  | _, d :: ds, h, e => by
    obtain ⟨v, ws, rfl, rv, rs⟩ := h.uncons
    simp only [D.areDat, Bool.and_eq_true] at e
    simp only [D.pyds]
    exact .cons (rv.dp e.1) (rs.dps e.2)
end
mutual
theorem lay_pyd : ∀ {d : D}, d.isDat = true → PyData.canLay0 d.pyd = true
  | .non, _ => by simp [D.pyd, PyData.canLay0]
  | .bl _, _ => by simp [D.pyd, PyData.canLay0]
  | .int _, _ => by simp [D.pyd, PyData.canLay0]
  | .str x, h => by simp only [D.isDat] at h; simp only [D.pyd, PyData.canLay0]; exact h
  | .lst ds, h => by simp only [D.isDat] at h; simp only [D.pyd, PyData.canLay0]; exact lay_pyds h
  | .tup ds, h => by simp only [D.isDat] at h; simp only [D.pyd, PyData.canLay0]; exact lay_pyds h
  | .ins _ _ _, h => by simp [D.isDat] at h
  | .loc _, h => by simp [D.isDat] at h
theorem lay_pyds : ∀ {ds : List D}, D.areDat ds = true → PyData.canLayAll0 (D.pyds ds) = true
  | [], _ => by simp [D.pyds, PyData.canLayAll0]
  | d :: ds, h => by
    simp only [D.areDat, Bool.and_eq_true] at h
    simp only [D.pyds, PyData.canLayAll0, Bool.and_eq_true]
    exact ⟨lay_pyd h.1, lay_pyds h.2⟩
end
mutual
theorem dep_pyd : ∀ {d : D}, PyData.depth d.pyd = d.dep
  | .non => by simp [D.pyd, PyData.depth, D.dep]
  | .bl _ => by simp [D.pyd, PyData.depth, D.dep]
  | .int _ => by simp [D.pyd, PyData.depth, D.dep]
  | .str _ => by simp [D.pyd, PyData.depth, D.dep]
  | .lst ds => by simp only [D.pyd, PyData.depth, D.dep]; rw [dep_pyds]
  | .tup ds => by simp only [D.pyd, PyData.depth, D.dep]; rw [dep_pyds]
  | .ins _ _ _ => by simp [D.pyd, PyData.depth, D.dep]
  | .loc _ => by simp [D.pyd, PyData.depth, D.dep]
theorem dep_pyds : ∀ {ds : List D}, PyData.depthAll (D.pyds ds) = D.deps ds
  | [] => by simp [D.pyds, PyData.depthAll, D.deps]
  | d :: ds => by simp only [D.pyds, PyData.depthAll, D.deps]; rw [dep_pyd, dep_pyds]
end
theorem shaped_of (h : d.isDat = true) (hd : d.dep ≤ 64) : SeqAt.shaped d.pyd = true := by
  unfold SeqAt.shaped
  rw [lay_pyd h, dep_pyd, decide_eq_true hd]
  rfl
/-! == tells data as trees -/
mutual
def D.eqb : D → D → Bool
  | .non, .non => true
  | .bl a, .bl b => a == b
  | .bl a, .int j => (if a then 1 else 0) == j
  | .int i, .bl b => i == (if b then 1 else 0)
  | .int i, .int j => i == j
  | .str x, .str y => x == y
  | .lst xs, .lst ys => D.eqbs xs ys
  | .tup xs, .tup ys => D.eqbs xs ys
  | _, _ => false
def D.eqbs : List D → List D → Bool
  | [], [] => true
  | x :: xs, y :: ys => D.eqb x y && D.eqbs xs ys
  | _, _ => false
end
mutual
theorem eqv_eqb : ∀ (x y : D), x.isDat = true → y.isDat = true → PyData.eqv x.pyd y.pyd = D.eqb x y
  | .lst xs, y, hx, hy => by
    cases y with
    | lst ys => simp only [D.pyd, PyData.eqv, D.eqb]; exact eqvs_eqbs xs ys (by simpa only [D.isDat] using hx) (by simpa only [D.isDat] using hy)
    | ins _ _ _ => simp [D.isDat] at hy
    | loc _ => simp [D.isDat] at hy
    | _ => simp [D.pyd, PyData.eqv, D.eqb]
  | .tup xs, y, hx, hy => by
    cases y with
    | tup ys => simp only [D.pyd, PyData.eqv, D.eqb]; exact eqvs_eqbs xs ys (by simpa only [D.isDat] using hx) (by simpa only [D.isDat] using hy)
    | ins _ _ _ => simp [D.isDat] at hy
    | loc _ => simp [D.isDat] at hy
    | _ => simp [D.pyd, PyData.eqv, D.eqb]
  | .non, y, _, hy => by
    cases y with
    | ins _ _ _ => simp [D.isDat] at hy
    | loc _ => simp [D.isDat] at hy
    | _ => simp [D.pyd, PyData.eqv, D.eqb]
  | .bl b, y, _, hy => by
    cases y with
    | ins _ _ _ => simp [D.isDat] at hy
    | loc _ => simp [D.isDat] at hy
    | _ => simp [D.pyd, PyData.eqv, D.eqb]
  | .int i, y, _, hy => by
    cases y with
    | ins _ _ _ => simp [D.isDat] at hy
    | loc _ => simp [D.isDat] at hy
    | _ => simp [D.pyd, PyData.eqv, D.eqb]
  | .str s, y, _, hy => by
    cases y with
    | ins _ _ _ => simp [D.isDat] at hy
    | loc _ => simp [D.isDat] at hy
    | _ => simp [D.pyd, PyData.eqv, D.eqb]
  | .ins _ _ _, _, h, _ => by simp [D.isDat] at h
  | .loc _, _, h, _ => by simp [D.isDat] at h
theorem eqvs_eqbs : ∀ (xs ys : List D), D.areDat xs = true → D.areDat ys = true → PyData.eqvAll (D.pyds xs) (D.pyds ys) = D.eqbs xs ys
  | [], [], _, _ => by simp [D.pyds, PyData.eqvAll, D.eqbs]
  | [], _ :: _, _, _ => by simp [D.pyds, PyData.eqvAll, D.eqbs]
  | _ :: _, [], _, _ => by simp [D.pyds, PyData.eqvAll, D.eqbs]
  | x :: xs, y :: ys, hx, hy => by
    simp only [D.areDat, Bool.and_eq_true] at hx hy
    simp only [D.pyds, PyData.eqvAll, D.eqbs]
    rw [eqv_eqb x y hx.1 hy.1, eqvs_eqbs xs ys hx.2 hy.2]
end
mutual
theorem D.eqb_refl : ∀ {x : D}, x.isDat = true → D.eqb x x = true
  | .non, _ => by simp [D.eqb]
  | .bl _, _ => by simp [D.eqb]
  | .int _, _ => by simp [D.eqb]
  | .str _, _ => by simp [D.eqb]
  | .lst ds, h => by simp only [D.eqb]; exact D.eqbs_refl (by simpa only [D.isDat] using h)
  | .tup ds, h => by simp only [D.eqb]; exact D.eqbs_refl (by simpa only [D.isDat] using h)
  | .ins _ _ _, h => by simp [D.isDat] at h
  | .loc _, h => by simp [D.isDat] at h
theorem D.eqbs_refl : ∀ {xs : List D}, D.areDat xs = true → D.eqbs xs xs = true
  | [], _ => by simp [D.eqbs]
  | x :: xs, h => by
    simp only [D.areDat, Bool.and_eq_true] at h
    simp only [D.eqbs, Bool.and_eq_true]
    exact ⟨D.eqb_refl h.1, D.eqbs_refl h.2⟩
end
theorem o_eqD {x y : D} (hx : x.isDat = true) (hy : y.isDat = true) (dx : x.dep ≤ 64) (dy : y.dep ≤ 64) : Op2 K cl true (rEqA K) M x y (.bl (D.eqb x y)) := o_r (op2_val fun G1 H1 S u v ru rv => ⟨_, Rep.bl, fun Q q => ⟨x.pyd, y.pyd, (ru.mono S.sub).dp hx, (rv.mono S.sub).dp hy, shaped_of hx dx, shaped_of hy dy, by rw [eqv_eqb x y hx hy]; exact q⟩⟩)
theorem o_neD {x y : D} (hx : x.isDat = true) (hy : y.isDat = true) (dx : x.dep ≤ 64) (dy : y.dep ≤ 64) : Op2 K cl true (rNeA K) M x y (.bl (!D.eqb x y)) := o_r (op2_val fun G1 H1 S u v ru rv => ⟨_, Rep.bl, fun Q q => ⟨x.pyd, y.pyd, (ru.mono S.sub).dp hx, (rv.mono S.sub).dp hy, shaped_of hx dx, shaped_of hy dy, by rw [eqv_eqb x y hx hy]; exact q⟩⟩)
theorem D.areDat_mem : ∀ {ds : List D}, (∀ d ∈ ds, d.isDat = true) → D.areDat ds = true
  | [], _ => by simp [D.areDat]
  | d :: ds, h => by
    simp only [D.areDat, Bool.and_eq_true]
    exact ⟨h d (List.mem_cons_self ..), D.areDat_mem fun x hx => h x (List.mem_cons_of_mem _ hx)⟩
theorem D.deps_mem {n : Nat} : ∀ {ds : List D}, (∀ d ∈ ds, d.dep ≤ n) → D.deps ds ≤ n
  | [], _ => by simp [D.deps]
  | d :: ds, h => by
    simp only [D.deps]
    exact Nat.max_le.mpr ⟨h d (List.mem_cons_self ..), D.deps_mem fun x hx => h x (List.mem_cons_of_mem _ hx)⟩
end
end Cp
/-! Cp5: dicts whose keys are nested tuples (nD), as owned cells; the world that hashes (Wo). -/
namespace Cp
open PySem L2

/-- the program and the world of the run -/
class Wo where
  p : Program
  w : World

/-! ### keys -/
mutual
def keyD : NestedKey → D
  | .none => .non
  | .num i => .int i
  | .text x => .str x
  | .tup ks => .tup (keyDs ks)
def keyDs : List NestedKey → List D
  | [] => []
  | k :: ks => keyD k :: keyDs ks
end
section
variable {X : Cx} {pins : List (Addr × Obj)} {σ : St} {H : Hp} {s : Shared} {cl : Nat → Addr}
mutual
theorem nested_is (I : Inv X pins σ H s) : ∀ (k : NestedKey) (v : V) (u : Value), Rep X.K cl H v (keyD k) → RelV v u → NestedIs s.heap k u
  | .none, v, u, r, q => by
    simp only [keyD] at r
    rw [r.of_non] at q
    obtain rfl : u = Value.none := q
    exact .none
  | .num i, v, u, r, q => by
    simp only [keyD] at r
    rw [r.of_int] at q
    obtain ⟨t, rfl⟩ := q
    exact .int i t
  | .text x, v, u, r, q => by
    simp only [keyD] at r
    rw [r.of_str] at q
    obtain ⟨t, rfl⟩ := q
    exact .text x t
  | .tup ks, v, u, r, q => by
    simp only [keyD] at r
    obtain ⟨a, vs, rfl, sq, rs⟩ := r.of_tup
    obtain rfl : u = Value.ref a := q
    obtain ⟨its, rv, ⟨o, ho, hc, n, hd⟩, z⟩ := I.tuple sq
    exact .tup ho hc hd (nested_are I ks vs its rs rv)
theorem nested_are (I : Inv X pins σ H s) : ∀ (ks : List NestedKey) (vs : List V) (us : List Value), Reps X.K cl H vs (keyDs ks) → Vals vs us → NestedAll s.heap ks us
  | [], vs, us, r, q => by
    simp only [keyDs, Reps] at r
    subst r
    cases q
    exact .nil
  | k :: ks, vs, us, r, q => by
    simp only [keyDs] at r
    obtain ⟨v, ws, rfl, r1, r2⟩ := r.uncons
    cases q with
    | cons q1 q2 => exact .cons (nested_is I k v _ r1 q1) (nested_are I ks ws _ r2 q2)
end
end

/-! ### the object -/
abbrev NKV := List (NestedKey × Addr × V)
abbrev NRel : NKV → List (NestedKey × Addr × Value) → Prop := Paired fun p q => p.1 = q.1 ∧ p.2.1 = q.2.1 ∧ RelV p.2.2 q.2.2
section
variable [Wo]
def nIs (a : Addr) (ep : Nat) (kvs : NKV) (h : Heap) : Prop :=
  (a == sysModules) = false ∧ kvs.length ≤ sizeLine ∧ ∃ xs, NRel kvs xs ∧ (xs.map (·.1)).Nodup ∧ ∃ o es, h.get? a = some o ∧ o.ExactDict ∧ o.data = .dict es ep ∧ es.toList = xs.map (entryOfKey (nestedKind Wo.p Wo.w))
/-- a dict with tuples as keys: its epoch, its entries -/
def nD (a : Addr) (ep : Nat) (kvs : NKV) : HO := .ext (nIs a ep kvs)
end
theorem nD_mut [Wo] {a : Addr} {ep : Nat} {kvs : NKV} : Mut (some (nD a ep kvs)) := True.intro
theorem nD_ok [Wo] {P : Program} {w : World} {H : Hp} {h : Heap} {a : Addr} {ep : Nat} {kvs : NKV} (x : nIs a ep kvs h) : ObjOk P w H h a (nD a ep kvs) := by
  refine ⟨x, ?_, fun h1 h2 y k => ?_⟩
  · obtain ⟨_, _, _, _, _, o, _, e, _⟩ := x
    exact ⟨o, e⟩
  · obtain ⟨y1, y2, xs, y3, y4, o, es, y5, y6⟩ := y
    exact ⟨y1, y2, xs, y3, y4, o, es, k o y5, y6⟩
/-- every key is there -/
def NKeys (K : PySem.W.Frag) (cl : Nat → Addr) (H : Hp) (kvs : NKV) : Prop := ∀ e ∈ kvs, Rep K cl H (.ref e.2.1) (keyD e.1) ∧ e.1.depth ≤ 8
theorem NRel.keys {K : PySem.W.Frag} {cl : Nat → Addr} {H : Hp} {kvs : NKV} {xs : List (NestedKey × Addr × Value)} (r : NRel kvs xs) (n : NKeys K cl H kvs) : ∀ x ∈ xs, Rep K cl H (.ref x.2.1) (keyD x.1) ∧ x.1.depth ≤ 8 := by
  induction r with
  | nil => intro x hx; exact nomatch hx
  | @cons p q ps qs hq t ih =>
    intro x hx
    rcases List.mem_cons.mp hx with e | hx
    · rw [e, ← hq.1, ← hq.2.1]
      exact n p (List.mem_cons_self ..)
    · exact ih (fun e he => n e (List.mem_cons_of_mem _ he)) x hx

def valN (kvs : NKV) (k : NestedKey) : Option V := (kvs.find? fun x => decide (x.1 = k)).map (·.2.2)
def putN (kvs : NKV) (k : NestedKey) (b : Addr) (v : V) : NKV := if (valN kvs k).isSome then kvs.map (fun x => if x.1 = k then (x.1, x.2.1, v) else x) else kvs ++ [(k, b, v)]
def dropN (kvs : NKV) (k : NestedKey) : NKV := kvs.filter fun x => decide (x.1 ≠ k)
theorem NRel.val {kvs : NKV} {xs : List (NestedKey × Addr × Value)} (r : NRel kvs xs) (k : NestedKey) : RelO (valN kvs k) ((atKey xs k).map (·.2)) := by
  induction r with
  | nil => exact True.intro
  | @cons p q ps qs hq t ih =>
    unfold valN atKey
    rw [List.find?_cons, List.find?_cons, ← hq.1]
    by_cases e : p.1 = k
    · rw [decide_eq_true e]
      exact hq.2.2
    · rw [decide_eq_false e]
      exact ih
theorem NRel.isSome {kvs : NKV} {xs : List (NestedKey × Addr × Value)} (r : NRel kvs xs) (k : NestedKey) : (atKey xs k).isSome = (valN kvs k).isSome := by
  have h := (r.val k).isSome_eq
  rw [Option.isSome_map] at h
  exact h.symm
theorem NRel.put {kvs : NKV} {xs : List (NestedKey × Addr × Value)} (r : NRel kvs xs) (k : NestedKey) (b : Addr) {v : V} {u : Value} (rv : RelV v u) : NRel (putN kvs k b v) (storedH xs k b u) := by
  unfold putN storedH
  rw [r.isSome k]
  cases (valN kvs k).isSome with
  | true =>
    simp only [if_true]
    induction r with
    | nil => exact .nil
    | @cons p q ps qs hq t ih =>
      refine .cons ?_ ih
      show ((if p.1 = k then (p.1, p.2.1, v) else p).1 = _ ∧ (if p.1 = k then (p.1, p.2.1, v) else p).2.1 = _ ∧ RelV (if p.1 = k then (p.1, p.2.1, v) else p).2.2 _)
      unfold putAt
      by_cases e : p.1 = k
      · rw [if_pos e, if_pos (hq.1 ▸ e)]
        exact ⟨hq.1, hq.2.1, rv⟩
      · rw [if_neg e, if_neg (hq.1 ▸ e)]
        exact hq
  | false =>
    simp only [Bool.false_eq_true, if_false]
    induction r with
    | nil => exact .cons ⟨rfl, rfl, rv⟩ .nil
    | cons hq t ih => exact .cons hq ih
theorem NRel.drop {kvs : NKV} {xs : List (NestedKey × Addr × Value)} (r : NRel kvs xs) (k : NestedKey) : NRel (dropN kvs k) (withoutH xs k) := by
  unfold dropN withoutH
  induction r with
  | nil => exact .nil
  | @cons p q ps qs hq t ih =>
    rw [List.filter_cons, List.filter_cons]
    by_cases e : p.1 = k
    · rw [if_neg (by simp [e]), if_neg (by rw [← hq.1]; simp [e])]
      exact ih
    · rw [if_pos (by simp [e]), if_pos (by rw [← hq.1]; simp [e])]
      exact .cons hq ih
theorem putN_length (kvs : NKV) (k : NestedKey) (b : Addr) (v : V) : (putN kvs k b v).length ≤ kvs.length + 1 := by
  unfold putN
  split
  · rw [List.length_map]; omega
  · rw [List.length_append]; simp
theorem putN_mem {kvs : NKV} {k : NestedKey} {b : Addr} {v : V} {e : NestedKey × Addr × V} (h : e ∈ putN kvs k b v) : (e.1 = k ∧ e.2.1 = b) ∨ ∃ f ∈ kvs, f.1 = e.1 ∧ f.2.1 = e.2.1 := by
  unfold putN at h
  split at h
  · obtain ⟨f, hf, q⟩ := List.mem_map.mp h
    right
    refine ⟨f, hf, ?_⟩
    split at q <;> (rw [← q]; exact ⟨rfl, rfl⟩)
  · rcases List.mem_append.mp h with q | q
    · exact .inr ⟨e, q, rfl, rfl⟩
    · rw [List.mem_singleton] at q
      rw [q]
      exact .inl ⟨rfl, rfl⟩

/-! ### what the operations do -/
theorem storedH_keys {xs : List (NestedKey × Addr × Value)} {k : NestedKey} {b : Addr} {u : Value} (n : (xs.map (·.1)).Nodup) : ((storedH xs k b u).map (·.1)).Nodup := by
  unfold storedH
  split
  · have e : (xs.map (putAt k u)).map (·.1) = xs.map (·.1) := by
      rw [List.map_map]
      refine List.map_congr_left fun x _ => ?_
      show (putAt k u x).1 = x.1
      unfold putAt
      split <;> rfl
    rw [e]
    exact n
  · next h =>
    rw [List.map_append]
    refine List.nodup_append.mpr ⟨n, by simp, ?_⟩
    intro a ha c hc e
    obtain ⟨x, hx, q⟩ := List.mem_map.mp ha
    have hc' : c = k := by simpa using hc
    apply h
    unfold atKey
    rw [Option.isSome_map, List.find?_isSome]
    exact ⟨x, hx, by rw [decide_eq_true_eq, q, e, hc']⟩
section
variable {X : Cx} {pins : List (Addr × Obj)} {σ : St} {H : Hp} {s : Shared} {cl : Nat → Addr} {a b : Addr} {ep : Nat} {kvs : NKV} {k : NestedKey} {A : Around} {E : Value → Shared → Prop}
theorem nd_of (I : Inv X pins σ H s) (h : H a = some (@nD ⟨X.prog, X.w⟩ a ep kvs)) : @nIs ⟨X.prog, X.w⟩ a ep kvs s.heap := (show ObjOk X.prog X.w H s.heap a (@nD ⟨X.prog, X.w⟩ a ep kvs) from I.hok a _ h).1
theorem nd_at (I : Inv X pins σ H s) (h : H a = some (@nD ⟨X.prog, X.w⟩ a ep kvs)) (n : NKeys X.K cl H kvs) :
    (a == sysModules) = false ∧ kvs.length ≤ sizeLine ∧ ∃ xs, NRel kvs xs ∧ s.heap.DictOfH (nestedKind X.prog X.w) a xs := by
  obtain ⟨h1, h2, xs, h3, h4, o, es, h5, h6, h7, h8⟩ := nd_of I h
  refine ⟨h1, h2, xs, h3, o, es, ep, h5, h6, h7, h8, fun x hx => ?_, h4⟩
  obtain ⟨q1, q2⟩ := h3.keys n x hx
  exact ⟨nested_is I _ _ _ q1 rfl, q2⟩
theorem room8 (hu : A.units + 64 < cLine) : (nestedKind X.prog X.w).room A.in1 := by
  show A.in1.units + 8 < cLine
  rw [Around.in1_units]
  omega
theorem nk_is (I : Inv X pins σ H s) (r : Rep X.K cl H (.ref b) (keyD k)) (hd : k.depth ≤ 8) : (nestedKind X.prog X.w).is s.heap k b := ⟨nested_is I _ _ _ r rfl, hd⟩
theorem nd_write {h' : Heap} {t' : Nat} {ep' : Nat} {kvs' : NKV} (I : Inv X pins σ H s) (h : H a = some (@nD ⟨X.prog, X.w⟩ a ep kvs)) (hs : Heap.SameBut a s.heap h') (new : @nIs ⟨X.prog, X.w⟩ a ep' kvs' h') :
    Inv X pins σ (upd H a (@nD ⟨X.prog, X.w⟩ a ep' kvs')) { s with heap := h', toks := t' } := by
  letI : Wo := ⟨X.prog, X.w⟩
  have he : ∃ q, h'.get? a = some q := by
    obtain ⟨_, _, _, _, _, o, _, e, _⟩ := new
    exact ⟨o, e⟩
  exact d_write I (by rw [h]; exact True.intro) hs he (nD_ok new)
end

/-! ### by values -/
section
variable [Wo] (K : PySem.W.Frag) (cl : Nat → Addr)
/-- the dict of tuples at x, asked for y -/
def NAt (x y : V) (H : Hp) (a b : Addr) (ep : Nat) (kvs : NKV) (k : NestedKey) : Prop :=
  x = .ref a ∧ y = .ref b ∧ H a = some (nD a ep kvs) ∧ NKeys K cl H kvs ∧ Rep K cl H (.ref b) (keyD k) ∧ k.depth ≤ 8
def rNIx : R2 := fun x y H Q => ∃ a b ep kvs k v, NAt K cl x y H a b ep kvs k ∧ valN kvs k = some v ∧ Q v H
def rNIn (neg : Bool) : R2 := fun y x H Q => ∃ a b ep kvs k, NAt K cl x y H a b ep kvs k ∧ Q (.bl (neg != (valN kvs k).isSome)) H
def rNSet : TSet := fun x y v H Q => ∃ a b ep kvs k, NAt K cl x y H a b ep kvs k ∧ kvs.length < sizeLine ∧ ∀ ep', Q (upd H a (nD a ep' (putN kvs k b v)))
def tNNew : TE := fun _ H Q => ∀ p, H p = none → Q (.ref p) (upd H p (nD p 0 []))
def isND (H : Hp) (a : Addr) : Prop := ∃ ep kvs, H a = some (nD a ep kvs)
/-- d.get(y), d.get(y, z): any dict -/
def tGet1 (td ty : TE) : TE := fun σ H Q => td σ H fun x H1 => ∃ a, x = .ref a ∧ (IsD H1 a ∨ isND H1 a) ∧ ty σ H1 fun y H2 =>
  (∃ o, DGet H2 a y o ∧ Q (o.getD .non) H2) ∨ ∃ b ep kvs k, NAt K cl x y H2 a b ep kvs k ∧ Q ((valN kvs k).getD .non) H2
def tGet2 (td ty tz : TE) : TE := fun σ H Q => td σ H fun x H1 => ∃ a, x = .ref a ∧ (IsD H1 a ∨ isND H1 a) ∧ ty σ H1 fun y H2 => tz σ H2 fun z H3 =>
  (∃ o, DGet H3 a y o ∧ Q (o.getD z) H3) ∨ ∃ b ep kvs k, NAt K cl x y H3 a b ep kvs k ∧ Q ((valN kvs k).getD z) H3
/-- del d[y]: any dict -/
def sDelA (td ty : TE) : TS := fun Dn σ H => td σ H fun x H1 => ty σ H1 fun y H2 =>
  (∃ a kvs k, x = .ref a ∧ H2 a = some (.dK kvs) ∧ y = kV k ∧ (valV kvs k).isSome = true ∧ Dn.nx σ (upd H2 a (.dK (dropK kvs k)))) ∨
  ∃ a b ep kvs k, NAt K cl x y H2 a b ep kvs k ∧ (valN kvs k).isSome = true ∧ ∀ ep', Dn.nx σ (upd H2 a (nD a ep' (dropN kvs k)))
/-- the keys of such a dict -/
def ItN (a : Addr) (ep : Nat) (kvs : NKV) : It :=
  ⟨fun i H => H a = some (nD a ep kvs) ∧ i < kvs.length, fun i H x H' => H' = H ∧ ∃ e, kvs[i]? = some e ∧ x = .ref e.2.1, fun i H => H a = some (nD a ep kvs) ∧ kvs.length ≤ i⟩
def iNKeys (td : TE) : TI := fun σ H R => td σ H fun x H1 => ∃ a ep kvs, x = .ref a ∧ H1 a = some (nD a ep kvs) ∧ R (ItN a ep kvs) H1
end
section
variable {X : Cx} {pins : List (Addr × Obj)} {σ : St} {H : Hp} {s : Shared} {cl : Nat → Addr} {A : Around} {E : Value → Shared → Prop} {x y : V} {v u : Value} {a b : Addr} {ep : Nat} {kvs : NKV} {k : NestedKey}
theorem nat_at (I : Inv X pins σ H s) (n : @NAt ⟨X.prog, X.w⟩ X.K cl x y H a b ep kvs k) (rx : RelV x v) (ry : RelV y u) :
    v = .ref a ∧ u = .ref b ∧ (nestedKind X.prog X.w).is s.heap k b ∧ (a == sysModules) = false ∧ kvs.length ≤ sizeLine ∧ ∃ xs, NRel kvs xs ∧ s.heap.DictOfH (nestedKind X.prog X.w) a xs := by
  obtain ⟨rfl, rfl, n1, n2, n3, n4⟩ := n
  obtain ⟨h1, h2, xs, h3, h4⟩ := nd_at I n1 n2
  exact ⟨rx, ry, nk_is I n3 n4, h1, h2, xs, h3, h4⟩
theorem n_get (hu : X.A.units + 64 < cLine) (I : Inv X pins σ H s) (n : @NAt ⟨X.prog, X.w⟩ X.K cl x y H a b ep kvs k) (rx : RelV x v) (ry : RelV y u) {w : V} (l : valN kvs k = some w) {Q : Value → Shared → Prop}
    (h : ∀ w' s', Inv X pins σ H s' → RelV w w' → Q w' s') : wpAny (model X.prog X.w) X.A (getItem v u) Q E s := by
  obtain ⟨rfl, rfl, n1, n2, n3, xs, n4, n5⟩ := nat_at I n rx ry
  obtain ⟨w', hw, rw'⟩ := RelO.some_of (v := w) (o := (atKey xs k).map (·.2)) (by rw [← l]; exact n4.val k)
  obtain ⟨p, hp, hp2⟩ := Option.map_eq_some_iff.mp hw
  refine wpAny_getItem_heap (room8 hu) n1 n5 hp ?_
  rw [hp2]
  exact h w' _ (I.tok _) rw'
theorem ix_nd (hu : X.A.units + 64 < cLine) : IxR X (@rNIx ⟨X.prog, X.w⟩ X.K cl) := by
  rintro value slice pins s σ H x y v u Q I rx ry ⟨a, b, ep, kvs, k, z, n, l, q⟩ hs
  obtain ⟨e1, e2, n1, n2, n3, xs, n4, n5⟩ := nat_at I n rx ry
  refine PyProof.Rows.tail_any (id := "dict.__getitem__") (T := "dict") (by rw [e1]; exact n5.typeIs) PySem.F.slot_dict_getitem.lookup ?_ hs
  exact n_get hu I n rx ry l fun w' s' I' r' => ⟨z, H, I', r', q⟩
theorem op_nin (hu : X.A.units + 64 < cLine) : OpR X (compareOp .In) (@rNIn ⟨X.prog, X.w⟩ X.K cl false) := by
  rintro pins s σ H y x u v Q I ry rx ⟨a, b, ep, kvs, k, n, q⟩
  obtain ⟨rfl, rfl, n1, n2, n3, xs, n4, n5⟩ := nat_at I n rx ry
  refine wpAny_in_heap (room8 hu) n1 n2 n5 ?_
  rw [n4.isSome k]
  refine ⟨_, H, I.tok _, ?_, q⟩
  cases (valN kvs k).isSome <;> rfl
theorem op_nnotin (hu : X.A.units + 64 < cLine) : OpR X (compareOp .NotIn) (@rNIn ⟨X.prog, X.w⟩ X.K cl true) := by
  rintro pins s σ H y x u v Q I ry rx ⟨a, b, ep, kvs, k, n, q⟩
  obtain ⟨rfl, rfl, n1, n2, n3, xs, n4, n5⟩ := nat_at I n rx ry
  refine PyProof.Rows.wpAny_notIn_heap (room8 hu) n1 n2 n5 ?_
  rw [n4.isSome k]
  refine ⟨_, H, I.tok _, ?_, q⟩
  cases (valN kvs k).isSome <;> rfl
theorem set_nd (hu : X.A.units + 64 < cLine) : PSet X (@rNSet ⟨X.prog, X.w⟩ X.K cl) := by
  rintro pins s σ H x y v xv yv u Q I rx ry rv ⟨a, b, ep, kvs, k, n, l, q⟩
  have hH : H a = some (@nD ⟨X.prog, X.w⟩ a ep kvs) := n.2.2.1
  obtain ⟨rfl, rfl, n1, n2, n3, xs, n4, n5⟩ := nat_at I n rx ry
  refine wpAny_setItem_heap (hsz := by rw [← Paired.length n4]; exact n3) (room8 hu) n1 n5 fun h' dd hs => ?_
  obtain ⟨o, es, ep', h1, h2, h3, h4, h5, h6⟩ := dd
  refine ⟨_, nd_write I hH hs ⟨n2, ?_, _, n4.put k b rv, h6, o, es, h1, h2, h3, h4⟩, q ep'⟩
  have := putN_length kvs k b v
  omega
theorem pe_nnew {pos : Pos} : PE X (.Dict [] [] pos) (@tNNew ⟨X.prog, X.w⟩) := by
  refine ⟨fun pins s σ H Q I h => wpAny_Dict_empty ⟨.ref s.heap.objs.size, _, I.laid (a := s.heap.objs.size) (o := @nD ⟨X.prog, X.w⟩ s.heap.objs.size 0 []) (t' := s.toks) (fun _ _ q => Heap.get?_push_of_some _ q) (Nat.le_refl _) ?_, rfl, h _ (I.hok.fresh (Nat.le_refl _))⟩⟩
  letI : Wo := ⟨X.prog, X.w⟩
  refine nD_ok ⟨beq_eq_false_iff_ne.mpr (Ne.symm (Nat.ne_of_lt I.big)), Nat.zero_le _, [], .nil, List.nodup_nil, _, #[], Heap.get?_push_size _ rfl, ⟨rfl, rfl, rfl⟩, rfl, rfl⟩

theorem isD_any {H : Hp} {a : Addr} (I : Inv X pins σ H s) (d : IsD H a ∨ @isND ⟨X.prog, X.w⟩ H a) : s.TypeIs (.ref a) "dict" ∧ (∀ b, Value.ref a = .ref b → ∃ ob, s.heap.get? b = some ob ∧ ob.dict = none) := by
  rcases d with d | ⟨ep, kvs, e⟩
  · obtain ⟨t1, t2, _⟩ := isD_at I d
    exact ⟨t1, t2⟩
  · obtain ⟨_, _, xs, _, _, o, es, e1, e2, _⟩ := nd_of I e
    refine ⟨⟨o, e1, e2.1⟩, fun b q => ?_⟩
    cases q
    exact ⟨o, e1, e2.2.1⟩
section
variable {o e f : Expr} {apos cpos pos tpos : Pos} {td ty tz : TE}
theorem pe_get1 (hu : X.A.units + 64 < cLine) (ho : PE X o td) (he : PE X e ty) (m : M1 X o "get" apos e cpos) : PE X (.Call (.Attribute o "get" apos) [e] [] cpos) (@tGet1 ⟨X.prog, X.w⟩ X.K cl td ty) := by
  refine ⟨fun pins s σ H Q I h => ?_⟩
  refine wpAny_Call_method m.base m.few m.line PySem.F.plainAttrs_dict PySem.F.slot_dict_get PySem.F.type_dict_get (thn (ho.run pins s σ H _ I h) fun u s1 ⟨x, H1, I1, rx, a, ex, d, q1⟩ => ?_)
  obtain rfl := ex
  obtain rfl : u = Value.ref a := rx
  obtain ⟨t1, t2⟩ := isD_any I1 d
  refine ⟨t1, t2, ?_⟩
  rw [m.trees]
  refine Calls.callWith_builtin rfl (Calls.evalArgs_plain (Calls.spliced_cons (thn (he.run pins s1 σ H1 _ I1 q1) fun iv s2 ⟨y, H2, I2, ry, q2⟩ => Calls.spliced_nil ?_)))
  rcases q2 with ⟨ov, g, q2⟩ | ⟨b, ep, kvs, k, n, q2⟩
  · exact d_get1 (by omega) I2 g ry fun w' s3 I3 rw' => ⟨_, H2, I3, rw', q2⟩
  · obtain ⟨-, rfl, n1, n2, n3, xs, n4, n5⟩ := nat_at I2 n rfl ry
    refine call_meetsIn PySem.F.slot_dict_get n5.typeIs PySem.F.entry_dict_get (PySem.F.args_dict_get_2 _ _) (meetsH_dict_get (nestedKind X.prog X.w) a b n2) ⟨room8 hu, k, xs, n1, n5, _, H2, I2.tok _, ?_, q2⟩
    exact (n4.val k).getD rfl
theorem pe_get2 (hu : X.A.units + 64 < cLine) (ho : PE X o td) (he : PE X e ty) (hf : PE X f tz) (m : M2 X o "get" apos e f cpos) : PE X (.Call (.Attribute o "get" apos) [e, f] [] cpos) (@tGet2 ⟨X.prog, X.w⟩ X.K cl td ty tz) := by
  refine ⟨fun pins s σ H Q I h => ?_⟩
  refine wpAny_Call_method m.base m.few m.line PySem.F.plainAttrs_dict PySem.F.slot_dict_get PySem.F.type_dict_get (thn (ho.run pins s σ H _ I h) fun u s1 ⟨x, H1, I1, rx, a, ex, d, q1⟩ => ?_)
  obtain rfl := ex
  obtain rfl : u = Value.ref a := rx
  obtain ⟨t1, t2⟩ := isD_any I1 d
  refine ⟨t1, t2, ?_⟩
  rw [m.trees]
  refine Calls.callWith_builtin rfl (Calls.evalArgs_plain (Calls.spliced_cons (thn (he.run pins s1 σ H1 _ I1 q1) fun iv s2 ⟨y, H2, I2, ry, q2⟩ => Calls.spliced_cons (thn (hf.run pins s2 σ H2 _ I2 q2) fun zv s3 ⟨z, H3, I3, rz, q3⟩ => Calls.spliced_nil ?_))))
  rcases q3 with ⟨ov, g, q3⟩ | ⟨b, ep, kvs, k, n, q3⟩
  · exact d_get2 (by omega) I3 g ry rz fun w' s4 I4 rw' => ⟨_, H3, I4, rw', q3⟩
  · obtain ⟨-, rfl, n1, n2, n3, xs, n4, n5⟩ := nat_at I3 n rfl ry
    refine call_meetsIn PySem.F.slot_dict_get n5.typeIs PySem.F.entry_dict_get (PySem.F.args_dict_get_3 _ _ _) (meetsH_dict_get_default (nestedKind X.prog X.w) a b n2 zv) ⟨room8 hu, k, xs, n1, n5, _, H3, I3.tok _, ?_, q3⟩
    exact (n4.val k).getD rz
theorem withoutH_keys {xs : List (NestedKey × Addr × Value)} {k : NestedKey} (n : (xs.map (·.1)).Nodup) : ((withoutH xs k).map (·.1)).Nodup := by
  unfold withoutH
  exact n.sublist (List.filter_sublist.map _)
theorem ps_delA (hu : X.A.units + 64 < cLine) (ho : PE X o td) (hi : PE X e ty) : PS X (.Delete [.Subscript o e tpos] pos) (@sDelA ⟨X.prog, X.w⟩ X.K cl td ty) := by
  refine ⟨fun pins s σ H D I h => ?_⟩
  refine wpAny_Delete (wpAny_deleteEach_cons (wpAny_delete_Subscript (thn (ho.run pins s σ H _ I h) fun u s1 ⟨x, H1, I1, rx, q1⟩ => thn (hi.run pins s1 σ H1 _ I1 q1) fun iv s2 ⟨y, H2, I2, ry, q2⟩ => ?_)))
  rcases q2 with ⟨a, kvs, k, ex, e, ey, l, q2⟩ | ⟨a, b, ep, kvs, k, n, l, q2⟩
  · obtain rfl := ex
    obtain rfl := ey
    obtain rfl : u = Value.ref a := rx
    exact d_delItem I2 e ry l fun s3 I3 => wpAny_deleteEach_nil ⟨σ, _, I3, q2⟩
  · have hH : H2 a = some (@nD ⟨X.prog, X.w⟩ a ep kvs) := n.2.2.1
    obtain ⟨rfl, rfl, n1, n2, n3, xs, n4, n5⟩ := nat_at I2 n rx ry
    rw [← n4.isSome k, Option.isSome_iff_exists] at l
    obtain ⟨p, hp⟩ := l
    refine wpAny_delItem_heap (hsz := by rw [← Paired.length n4]; exact n3) (room8 hu) n1 n2 n5 hp fun h' dd hs => wpAny_deleteEach_nil ?_
    obtain ⟨ob, es, ep', h1, h2, h3, h4, h5, h6⟩ := dd
    exact ⟨σ, _, nd_write I2 hH hs ⟨n2, Nat.le_trans (List.length_filter_le _ _) n3, _, n4.drop k, h6, ob, es, h1, h2, h3, h4⟩, q2 ep'⟩
end
/-! ### its keys, walked -/
theorem nrel_get {kvs : NKV} {xs : List (NestedKey × Addr × Value)} (r : NRel kvs xs) : ∀ {i : Nat} {e : NestedKey × Addr × V}, kvs[i]? = some e → ∃ f, xs[i]? = some f ∧ f.2.1 = e.2.1 := by
  induction r with
  | nil => intro i e h; simp at h
  | @cons p q ps qs hq t ih =>
    intro i e h
    cases i with
    | zero =>
      have : p = e := by simpa using h
      subst this
      exact ⟨q, rfl, hq.2.1.symm⟩
    | succ j => exact ih (by simpa using h)
theorem turn_nd {P : Program} {w : World} {K : PySem.W.Frag} {tg : Expr} (a it : Addr) (ep : Nat) (kvs : NKV) : Turn P w K tg (@ItN ⟨P, w⟩ a ep kvs) [it] it (fun i h => h.IsKeyIter it a i kvs.length ep) where
  mem := by simp
  obj := fun i h st b hb => by
    obtain rfl : b = it := by simpa using hb
    obtain ⟨oi, q1, _, q2⟩ := st
    exact ⟨oi, q1, fun v z => by rw [q2] at z; cases z⟩
  keep := fun i h h' st kp => st.at fun oi q => kp it (by simp) oi q
  item := by
    intro X hP hw hK hc i pins s σ H E I hf st hg
    subst hP hw hK
    obtain ⟨hd, hi⟩ := hg
    obtain ⟨f0, f1, f2, f3, f4, f5⟩ := hf it (by simp)
    obtain ⟨n1, n2, xs, n3, n4, o, es, n5, n6, n7, n8⟩ := nd_of I hd
    obtain ⟨e, he⟩ : ∃ e, kvs[i]? = some e := ⟨kvs[i], List.getElem?_eq_getElem hi⟩
    obtain ⟨f, hf1, hf2⟩ := nrel_get n3 he
    have hen : es[i]? = some (entryOfKey (nestedKind X.prog X.w) f) := by rw [entry_at n8 i, hf1]; rfl
    have hsz : es.size = kvs.length := (size_of_entries n8).trans (Paired.length n3).symm
    refine next_key_item st n5 n7 hsz hen fun h' st' sb => ?_
    have I1 : Inv X pins σ H { s with heap := h' } := I.turned (t' := s.toks) (fun b ob hb q => (sb.2 b hb).trans q) f0 f1 f3 f4 f5
    obtain ⟨oi, q1, q2, q3⟩ := id st'
    exact ⟨_, rfl, go_of (s := { s with heap := h' }) q1 q2 q3 (by decide) ⟨.ref e.2.1, H, I1, congrArg Value.ref hf2, ⟨rfl, e, he, rfl⟩, st', fun b hb => (hf b hb).1⟩⟩
  done := by
    intro X hP hw hK hc i pins s σ H E I hf st hg
    subst hP hw hK
    obtain ⟨hd, hi⟩ := hg
    obtain ⟨f0, f1, f2, f3, f4, f5⟩ := hf it (by simp)
    obtain ⟨n1, n2, xs, n3, n4, o, es, n5, n6, n7, n8⟩ := nd_of I hd
    have hsz : es.size = kvs.length := (size_of_entries n8).trans (Paired.length n3).symm
    exact next_key_end (I.ok.hd hc) st n5 n7 hsz hi fun h' eb => ⟨rfl, I.turned (t' := s.toks) (fun b ob hb q => eb b ob hb q) f0 f1 f3 f4 f5⟩
  self := fun A i s Q E st h => by
    refine wpAny_pyIter_slot st.typeIs PySem.F.slot_dict_keyiterator_iter (wpAny_call_entry PySem.F.slot_dict_keyiterator_iter st.typeIs PySem.F.entry_dict_keyiterator_iter ?_ (PySem.F.args_dict_keyiterator_iter_1 _))
    exact wpAny_pure ⟨_, rfl, "dict_keyiterator", _, st.typeIs, PySem.F.slot_dict_keyiterator_next.lookup, h⟩
theorem pi_nkeys {tg e : Expr} {td : TE} (he : PE X e td) : PI X tg e (@iNKeys ⟨X.prog, X.w⟩ td) := by
  refine ⟨fun pins s σ H R I h => thn (he.run pins s σ H _ I h) fun u s1 ⟨x, H1, I1, rx, a, ep, kvs, ex, hd, q⟩ => ?_⟩
  obtain rfl := ex
  obtain rfl : u = Value.ref a := rx
  obtain ⟨n1, n2, xs, n3, n4, o, es, n5, n6, n7, n8⟩ := nd_of I1 hd
  have hsz : es.size = kvs.length := (size_of_entries n8).trans (Paired.length n3).symm
  refine iter_keys n1 n5 n6 n7 (pi_one (tk := s1.toks) I1 _ (turn_nd a _ ep kvs) ⟨_, Heap.get?_push_size _ rfl, rfl, ?_⟩ q)
  rw [hsz] <;> rfl
end

/-! ### either of two readings -/
def orE (t1 t2 : TE) : TE := fun σ H Q => t1 σ H Q ∨ t2 σ H Q
theorem pe_or {X : Cx} {e : Expr} {t1 t2 : TE} (h1 : PE X e t1) (h2 : PE X e t2) : PE X e (orE t1 t2) := ⟨fun pins s σ H Q I h => h.elim (h1.run pins s σ H Q I) (h2.run pins s σ H Q I)⟩
def orI (t1 t2 : TI) : TI := fun σ H R => t1 σ H R ∨ t2 σ H R
theorem pi_or {X : Cx} {tg e : Expr} {t1 t2 : TI} (h1 : PI X tg e t1) (h2 : PI X tg e t2) : PI X tg e (orI t1 t2) := ⟨fun pins s σ H R I h => h.elim (h1.run pins s σ H R I) (h2.run pins s σ H R I)⟩
def orSet (t1 t2 : TSet) : TSet := fun o i v H Q => t1 o i v H Q ∨ t2 o i v H Q
theorem set_or {X : Cx} {t1 t2 : TSet} (h1 : PSet X t1) (h2 : PSet X t2) : PSet X (orSet t1 t2) := fun pins s σ H o i v ov iv u Q I r1 r2 r3 h => h.elim (h1 pins s σ H o i v ov iv u Q I r1 r2 r3) (h2 pins s σ H o i v ov iv u Q I r1 r2 r3)
end Cp
/-! Cp6: sorted() of data; list() and sorted() of a dict of tuples. -/
namespace Cp
open PySem L2

/-- the keys of a plain dict, as a source of items -/
theorem src_raw {P : Program} {w : World} {d : Addr} {es : Array DictEntry} {ep : Nat} (lo : (d == sysModules) = false) :
    PySem.W.KdlSrc P w "dict" d d es.size (fun i v => ∃ hi : i < es.size, v = es[i].key) (fun h => h.DictRaw d es ep) where
  type := fun _ hm => hm.typeIs
  there := fun _ hm => let ⟨_, ho, _⟩ := hm; ⟨Heap.lt_size ho, Heap.lt_size ho⟩
  keep := fun _ _ hm hk => hm.at fun o e => hk d (.inl rfl) o e
  notList := by decide
  notTuple := by decide
  hint := fun _ _ _ _ hm hq => PySem.W.kdl_hint_dict hm.typeIs hq
  iter := fun _ s hh hm => by
    have ne : d ≠ s.heap.objs.size := by
      obtain ⟨_, ho, _⟩ := hm
      exact Nat.ne_of_lt (Heap.lt_size ho)
    exact ⟨_, _, (fun _ _ hq => wpAny_pyIter_dict_raw lo hm hq), Walks.rawKeys hh _ d ne es ep, ⟨⟨_, Heap.get?_push_size _ rfl, rfl, rfl⟩, hm.at fun o e => Heap.get?_push_of_some _ e⟩⟩

abbrev refsOf (kvs : NKV) : List V := kvs.map fun e => V.ref e.2.1
theorem vals_keys {kvs : NKV} {xs : List (NestedKey × Addr × Value)} {es : Array DictEntry} {P : Program} {w : World} (r : NRel kvs xs) (he : es.toList = xs.map (entryOfKey (nestedKind P w))) {acc : Array Value}
    (h : ItemsOf (fun i v => ∃ hi : i < es.size, v = es[i].key) acc es.size) : acc.toList = kvs.map fun e => Value.ref e.2.1 := by
  have l1 : es.size = xs.length := size_of_entries he
  have l2 : kvs.length = xs.length := Paired.length r
  refine List.ext_getElem? fun i => ?_
  rw [Array.getElem?_toList, List.getElem?_map]
  by_cases hi : i < es.size
  · have hk : i < kvs.length := by omega
    have ha : i < acc.size := by rw [h.1]; exact hi
    obtain ⟨f, hf1, hf2⟩ := nrel_get r (List.getElem?_eq_getElem hk)
    have hen := entry_at he i
    rw [hf1] at hen
    obtain ⟨hi', q⟩ := h.2 i acc[i] (Array.getElem?_eq_getElem ha)
    rw [Array.getElem?_eq_getElem ha, List.getElem?_eq_getElem hk, q]
    rw [Array.getElem?_eq_getElem hi'] at hen
    have hen' := Option.some.inj hen
    rw [hen']
    exact congrArg (fun z => some (Value.ref z)) hf2
  · rw [Array.getElem?_eq_none (by rw [h.1]; omega), List.getElem?_eq_none (by omega)]
    rfl
theorem vals_refs (kvs : NKV) : Vals (refsOf kvs) (kvs.map fun e => Value.ref e.2.1) := by
  induction kvs with
  | nil => exact .nil
  | cons e kvs ih => exact .cons rfl ih

section
variable {X : Cx} {cl : Nat → Addr}
/-- list(d) -/
def rListN [Wo] : List V → Hp → VK → Prop := fun xs H Q => ∃ a ep kvs, xs = [.ref a] ∧ H a = some (nD a ep kvs) ∧ ∀ l, H l = none → Q (.ref l) (upd H l (.lst (refsOf kvs)))
theorem call_listN (hc : X.calm = true) : CallR X (.type "list") (@rListN ⟨X.prog, X.w⟩) := by
  rintro pins s σ H xs us Q I r ⟨a, ep, kvs, rfl, hd, q⟩
  obtain rfl := Vals.ref1 r
  obtain ⟨n1, n2, xs, n3, n4, o, es, n5, n6, n7, n8⟩ := nd_of I hd
  have hsz : es.size = kvs.length := (size_of_entries n8).trans (Paired.length n3).symm
  refine PySem.W.kdl_call (src_raw (es := es) (ep := ep) n1) (I.ok.hd hc) ⟨o, n5, n6, n7⟩ (by rw [hsz]; exact n2) fun h' tk acc c' hk hD hacc => ?_
  refine ⟨.ref s.heap.objs.size, _, I.laid (t' := tk) (o := .lst (refsOf kvs)) hk (Nat.le_refl _) ⟨by rw [List.length_map]; exact n2, acc.toList, c', ?_, by rw [Array.toArray_toList]; exact hD⟩, rfl, q _ (I.hok.fresh (Nat.le_refl _))⟩
  rw [vals_keys n3 n8 hacc]
  exact vals_refs kvs

/-! ### sorting -/
/-- which data sorted() takes here -/
structure Sorts (ds : List PyData) : Prop where
  alike : PySem.W.AllAlike ds
  kind : PySem.W.Sortable ds
  low : ∀ d ∈ ds, d.depth ≤ 16
def leD (x y : D) : Bool := PySem.W.dataLe false D.pyd x y
theorem reads_of {pins : List (Addr × Obj)} {σ : St} {H : Hp} {s : Shared} (I : Inv X pins σ H s) {v : V} {u : Value} {d : D} (r : Rep X.K cl H v d) (e : d.isDat = true) (q : RelV v u) : ∃ as, Reads s.heap u d.pyd as := Dp.reads I _ _ _ (r.dp e) q
theorem each_of {pins : List (Addr × Obj)} {σ : St} {H : Hp} {s : Shared} (I : Inv X pins σ H s) : ∀ {vs : List V} {us : List Value} {ds : List D}, Reps X.K cl H vs ds → D.areDat ds = true → Vals vs us →
    PySem.W.EachIs (fun u (z : V × D) => RelV z.1 u) us (vs.zip ds) ∧ PySem.W.EachIs (fun u (z : V × D) => ∃ as, Reads s.heap u z.2.pyd as) us (vs.zip ds)
  | vs, us, [], r, _, q => by
    simp only [Reps] at r
    subst r
    cases q
    exact ⟨.nil, .nil⟩
  | vs, us, d :: ds, r, e, q => by
    obtain ⟨v, ws, rfl, r1, r2⟩ := r.uncons
    simp only [D.areDat, Bool.and_eq_true] at e
    cases q with
    | cons q1 q2 =>
      obtain ⟨h1, h2⟩ := each_of I r2 e.2 q2
      exact ⟨.cons q1 h1, .cons (reads_of I r1 e.1 q1) h2⟩
theorem each_vals : ∀ {us : List Value} {zs : List (V × D)}, PySem.W.EachIs (fun u (z : V × D) => RelV z.1 u) us zs → Vals (zs.map (·.1)) us
  | _, _, .nil => .nil
  | _, _, .cons h t => .cons h (each_vals t)
theorem reps_zip {K : PySem.W.Frag} {G : Hp} : ∀ {vs : List V} {ds : List D}, Reps K cl G vs ds → ∀ z ∈ vs.zip ds, Rep K cl G z.1 z.2
  | vs, [], r, z, h => by
    rw [List.zip_nil_right] at h
    exact nomatch h
  | vs, d :: ds, r, z, h => by
    obtain ⟨v, ws, rfl, r1, r2⟩ := r.uncons
    rw [List.zip_cons_cons] at h
    rcases List.mem_cons.mp h with rfl | h
    · exact r1
    · exact reps_zip r2 z h
theorem zip_reps {K : PySem.W.Frag} {G : Hp} : ∀ {zs : List (V × D)}, (∀ z ∈ zs, Rep K cl G z.1 z.2) → Reps K cl G (zs.map (·.1)) (zs.map (·.2))
  | [], _ => Reps.nil
  | z :: zs, h => Reps.cons (h z (List.mem_cons_self ..)) (zip_reps fun y hy => h y (List.mem_cons_of_mem _ hy))
theorem zip_snd {K : PySem.W.Frag} {G : Hp} {vs : List V} {ds : List D} (r : Reps K cl G vs ds) : (vs.zip ds).map (·.2) = ds := by
  rw [List.map_snd_zip]
  rw [r.length]
  exact Nat.le_refl _
def sortZ (zs : List (V × D)) : List (V × D) := zs.mergeSort (PySem.W.dataLe false fun z => z.2.pyd)
theorem sortZ_snd {zs : List (V × D)} : (sortZ zs).map (·.2) = (zs.map (·.2)).mergeSort leD := List.map_mergeSort fun a _ b _ => rfl
/-- sorted(xs), xs a list of data -/
def rSortD (K : PySem.W.Frag) (cl : Nat → Addr) : List V → Hp → VK → Prop := fun xs H Q => ∃ a vs ds, xs = [.ref a] ∧ SqL K H a vs ∧ Reps K cl H vs ds ∧ D.areDat ds = true ∧ Sorts (ds.map D.pyd) ∧ ∀ l, H l = none → Q (.ref l) (upd H l (.lst ((sortZ (vs.zip ds)).map (·.1))))
theorem call_sortD (hu : X.A.units + 64 < cLine) : CallR X (.builtin "sorted") (rSortD X.K cl) := by
  rintro pins s σ H xs us Q I r ⟨a, vs, ds, rfl, sq, rs, hd, so, q⟩
  obtain rfl := Vals.ref1 r
  obtain ⟨its, rv, pl, hz⟩ := I.list sq
  obtain ⟨e1, e2⟩ := each_of I rs hd rv
  have hmap : ((vs.zip ds).map fun z => z.2.pyd) = ds.map D.pyd := by
    have h1 : ((vs.zip ds).map fun z => z.2.pyd) = ((vs.zip ds).map (·.2)).map D.pyd := by rw [List.map_map]; rfl
    rw [h1, zip_snd rs]
  have hlen : (vs.zip ds).length = ds.length := by rw [List.length_zip, rs.length, Nat.min_self]
  refine PySem.W.sorted_data (enc := fun z : V × D => z.2.pyd) pl.isList e1 e2 (by rw [hmap]; exact so.alike) (by rw [hmap]; exact so.kind) (by rw [hlen, ← rs.length]; exact hz) (fun b hb => ?_) fun out ho eo => ?_
  · have := so.low b.2.pyd (by rw [← hmap]; exact List.mem_map.mpr ⟨b, hb, rfl⟩)
    omega
  · obtain ⟨c, hc⟩ := PyProof.Rows.sortedAll_at s.heap its out.toArray
    have hl2 : ((sortZ (vs.zip ds)).map (·.1)).length ≤ sizeLine := by
      rw [List.length_map]
      unfold sortZ
      rw [List.length_mergeSort, hlen, ← rs.length]
      exact hz
    exact ⟨.ref (s.heap.objs.size + 1), _, I.laid (t' := s.toks) (o := .lst ((sortZ (vs.zip ds)).map (·.1))) (fun _ _ => PyProof.Rows.sortedAll_old) (Nat.le_succ _) ⟨hl2, out, c, each_vals eo, hc⟩, rfl, q _ (I.hok.fresh (Nat.le_succ _))⟩
mutual
theorem key_noas {h : Heap} : ∀ (k : NestedKey) (u : Value) (as : List Addr), Reads h u (keyD k).pyd as → as = []
  | .none, _, _, r => by simp only [keyD, D.pyd] at r; cases r; rfl
  | .num _, _, _, r => by simp only [keyD, D.pyd] at r; cases r; rfl
  | .text _, _, _, r => by simp only [keyD, D.pyd] at r; cases r; rfl
  | .tup ks, _, _, r => by
    simp only [keyD, D.pyd] at r
    cases r with
    | tuple h1 h2 h3 h4 => exact keys_noas ks _ _ h4
theorem keys_noas {h : Heap} : ∀ (ks : List NestedKey) (us : List Value) (as : List Addr), ReadsAll h us (D.pyds (keyDs ks)) as → as = []
  | [], _, _, r => by simp only [keyDs, D.pyds] at r; cases r; rfl
  | k :: ks, _, _, r => by
    simp only [keyDs, D.pyds] at r
    cases r with
    | cons h1 h2 => rw [key_noas k _ _ h1, keys_noas ks _ _ h2]; rfl
end
/-- sorted(d), d a dict of tuples -/
def sortN (kvs : NKV) : NKV := kvs.mergeSort (PySem.W.dataLe false fun e => (keyD e.1).pyd)
def rSortN [Wo] (K : PySem.W.Frag) (cl : Nat → Addr) : List V → Hp → VK → Prop := fun xs H Q => ∃ a ep kvs, xs = [.ref a] ∧ H a = some (nD a ep kvs) ∧ NKeys K cl H kvs ∧ (∀ e ∈ kvs, (keyD e.1).isDat = true) ∧ Sorts (kvs.map fun e => (keyD e.1).pyd) ∧
  ∀ l, H l = none → Q (.ref l) (upd H l (.lst (refsOf (sortN kvs))))
theorem call_sortN (hc : X.calm = true) (hu : X.A.units + 64 < cLine) : CallR X (.builtin "sorted") (@rSortN ⟨X.prog, X.w⟩ X.K cl) := by
  rintro pins s σ H xs us Q I r ⟨a, ep, kvs, rfl, hd, nk, hdat, so, q⟩
  obtain rfl := Vals.ref1 r
  obtain ⟨n1, n2, xs, n3, n4, o, es, n5, n6, n7, n8⟩ := nd_of I hd
  have hsz : es.size = kvs.length := (size_of_entries n8).trans (Paired.length n3).symm
  refine Calls.call_function_entry PyProof.Rows.kind_sorted PyProof.Rows.plain_sorted PyProof.Rows.entry_sorted (PyProof.Rows.args_sorted1 _) ?_
  unfold Builtin.«sorted»
  refine wpAny_bind (m := checkCount "sorted" 1 1 _) (wpAny_pure ?_)
  refine wpAny_bind (PySem.W.kdu_collect (A := X.A.in1) (src_raw (es := es) (ep := ep) n1) (I.ok.hd hc) ⟨o, n5, n6, n7⟩ (by rw [hsz]; exact n2) fun h' tk acc hk hacc => ?_)
  have hacc' := vals_keys n3 n8 hacc
  have I1 : Inv X pins σ H { s with heap := h', toks := tk } := I.kept hk
  have hl : acc.toList.length = kvs.length := by rw [hacc', List.length_map]
  refine wpAny_bind (wpAny_newList ?_ (by rw [hl]; exact n2))
  have hoL : (h'.push (PyProof.Rows.seqObj "list" acc.toList.toArray 0)).get? h'.objs.size = some (PyProof.Rows.seqObj "list" acc.toList.toArray 0) := Heap.get?_push_size _ rfl
  have keep : ∀ b u, h'.get? b = some u → (h'.push (PyProof.Rows.seqObj "list" acc.toList.toArray 0)).get? b = some u := fun b u e => Heap.get?_push_of_some _ e
  have eI : ∀ (l : NKV), (∀ e ∈ l, e ∈ kvs) → PySem.W.EachIs (fun u (e : NestedKey × Addr × V) => u = Value.ref e.2.1) (l.map fun e => Value.ref e.2.1) l ∧
      PySem.W.EachIs (fun u (e : NestedKey × Addr × V) => ∃ as, Reads (h'.push (PyProof.Rows.seqObj "list" acc.toList.toArray 0)) u (keyD e.1).pyd as ∧ h'.objs.size ∉ as) (l.map fun e => Value.ref e.2.1) l := by
    intro l hl
    induction l with
    | nil => exact ⟨.nil, .nil⟩
    | cons e l ih =>
      obtain ⟨h1, h2⟩ := ih fun f hf => hl f (List.mem_cons_of_mem _ hf)
      have he := hl e (List.mem_cons_self ..)
      obtain ⟨as, ra⟩ := reads_of I1 (nk e he).1 (hdat e he) (u := Value.ref e.2.1) rfl
      refine ⟨.cons rfl h1, .cons ⟨as, PyProof.Rows.Reads.keeps keep ra, fun hm => ?_⟩ h2⟩
      rw [key_noas _ _ _ ra] at hm
      exact nomatch hm
  obtain ⟨e1, e2⟩ := eI kvs fun _ h => h
  rw [← hacc'] at e1 e2
  refine wpAny_bind (wpAny_holding (PySem.W.list_sort_data (A := X.A.in1) (s := { s with heap := h'.push (PyProof.Rows.seqObj "list" acc.toList.toArray 0), toks := tk }) (enc := fun e : NestedKey × Addr × V => (keyD e.1).pyd)
    hoL e1 e2 so.alike so.kind n2 (fun b hb => ?_) fun out ho eo => ?_))
  · have := so.low (keyD b.1).pyd (List.mem_map.mpr ⟨b, hb, rfl⟩)
    rw [Around.in1_units]
    omega
  · obtain ⟨c, hc'⟩ := PyProof.Rows.sortedHeap_at (vs := acc.toList) (out := out.toArray) hoL
    have hlen : (refsOf (sortN kvs)).length ≤ sizeLine := by
      rw [List.length_map]
      unfold sortN
      rw [List.length_mergeSort]
      exact n2
    have hv : Vals (refsOf (sortN kvs)) out := by
      have : out = (sortN kvs).map fun e => Value.ref e.2.1 := by
        have go : ∀ {us : List Value} {l : NKV}, PySem.W.EachIs (fun u (e : NestedKey × Addr × V) => u = Value.ref e.2.1) us l → us = l.map fun e => Value.ref e.2.1 := by
          intro us l h
          induction h with
          | nil => rfl
          | cons h t ih => rw [h, ih]; rfl
        exact go eo
      rw [this]
      exact vals_refs _
    refine wpAny_pure ⟨_, rfl, .ref h'.objs.size, _, I1.laid (t' := tk) (o := .lst (refsOf (sortN kvs))) (fun b u e => ?_) (Nat.le_refl _) ⟨hlen, out, c, hv, hc'⟩, rfl, q _ (I1.hok.fresh (Nat.le_refl _))⟩
    have hb : b < h'.objs.size := Heap.lt_size e
    rw [PyProof.Rows.sortedHeap_old (Nat.ne_of_lt hb) (by rw [Heap.size_push]; exact Nat.lt_succ_of_lt hb)]
    exact Heap.get?_push_of_some _ e
end
end Cp
/-! Cp7: dicts as data: what is asked, written and walked. -/
namespace Cp
open PySem L2

/-! ### association lists -/
section
variable {κ : Type} [DecidableEq κ] {β : Type}
def valG (kds : List (κ × β)) (k : κ) : Option β := (kds.find? fun x => decide (x.1 = k)).map (·.2)
def putG (kds : List (κ × β)) (k : κ) (d : β) : List (κ × β) := if (valG kds k).isSome then kds.map (fun x => if x.1 = k then (x.1, d) else x) else kds ++ [(k, d)]
def dropG (kds : List (κ × β)) (k : κ) : List (κ × β) := kds.filter fun x => decide (x.1 ≠ k)
end
section
variable (K : PySem.W.Frag) (cl : Nat → Addr)
def NRep (G : Hp) : NKV → List (NestedKey × D) → Prop := Paired fun p q => p.1 = q.1 ∧ Rep K cl G (.ref p.2.1) (keyD p.1) ∧ p.1.depth ≤ 8 ∧ Rep K cl G p.2.2 q.2
def KRep (G : Hp) : List (Key × V) → List (Key × D) → Prop := Paired fun p q => p.1 = q.1 ∧ Rep K cl G p.2 q.2
end
section
variable {K : PySem.W.Frag} {cl : Nat → Addr} {G G' : Hp} {kvs : NKV} {kds : List (NestedKey × D)} {kws : List (Key × V)} {kes : List (Key × D)}
theorem NRep.mono (s : Same G G') (r : NRep K cl G kvs kds) : NRep K cl G' kvs kds := Paired.mapP r fun _ _ h => ⟨h.1, h.2.1.mono s, h.2.2.1, h.2.2.2.mono s⟩
theorem KRep.mono (s : Same G G') (r : KRep K cl G kws kes) : KRep K cl G' kws kes := Paired.mapP r fun _ _ h => ⟨h.1, h.2.mono s⟩
theorem NRep.keys (r : NRep K cl G kvs kds) : NKeys K cl G kvs := by
  induction r with
  | nil => intro e he; exact nomatch he
  | cons h t ih =>
    intro e he
    rcases List.mem_cons.mp he with rfl | he
    · exact ⟨h.2.1, h.2.2.1⟩
    · exact ih e he
theorem NKeys.mono (s : Same G G') (n : NKeys K cl G kvs) : NKeys K cl G' kvs := fun e he => ⟨(n e he).1.mono s, (n e he).2⟩
theorem NRep.length (r : NRep K cl G kvs kds) : kvs.length = kds.length := Paired.length r
theorem KRep.length (r : KRep K cl G kws kes) : kws.length = kes.length := Paired.length r
theorem NRep.val (r : NRep K cl G kvs kds) (k : NestedKey) : (valN kvs k = none ∧ valG kds k = none) ∨ ∃ v d, valN kvs k = some v ∧ valG kds k = some d ∧ Rep K cl G v d := by
  induction r with
  | nil => exact .inl ⟨rfl, rfl⟩
  | @cons p q ps qs h t ih =>
    unfold valN valG
    rw [List.find?_cons, List.find?_cons, ← h.1]
    by_cases e : p.1 = k
    · rw [decide_eq_true e]
      exact .inr ⟨_, _, rfl, rfl, h.2.2.2⟩
    · rw [decide_eq_false e]
      exact ih
theorem KRep.val (r : KRep K cl G kws kes) (k : Key) : (valV kws k = none ∧ valG kes k = none) ∨ ∃ v d, valV kws k = some v ∧ valG kes k = some d ∧ Rep K cl G v d := by
  induction r with
  | nil => exact .inl ⟨rfl, rfl⟩
  | @cons p q ps qs h t ih =>
    unfold valV valG
    rw [List.find?_cons, List.find?_cons, ← h.1]
    by_cases e : p.1 = k
    · rw [decide_eq_true e]
      exact .inr ⟨_, _, rfl, rfl, h.2⟩
    · rw [decide_eq_false e]
      exact ih
theorem NRep.some (r : NRep K cl G kvs kds) {k : NestedKey} {d : D} (h : valG kds k = some d) : ∃ v, valN kvs k = .some v ∧ Rep K cl G v d := by
  rcases r.val k with ⟨_, e⟩ | ⟨v, d', e1, e2, rv⟩
  · rw [e] at h; cases h
  · rw [e2] at h
    exact ⟨v, e1, (Option.some.inj h) ▸ rv⟩
theorem KRep.some (r : KRep K cl G kws kes) {k : Key} {d : D} (h : valG kes k = some d) : ∃ v, valV kws k = .some v ∧ Rep K cl G v d := by
  rcases r.val k with ⟨_, e⟩ | ⟨v, d', e1, e2, rv⟩
  · rw [e] at h; cases h
  · rw [e2] at h
    exact ⟨v, e1, (Option.some.inj h) ▸ rv⟩
theorem NRep.isSome (r : NRep K cl G kvs kds) (k : NestedKey) : (valN kvs k).isSome = (valG kds k).isSome := by
  rcases r.val k with ⟨e1, e2⟩ | ⟨v, d', e1, e2, rv⟩ <;> rw [e1, e2] <;> rfl
theorem KRep.isSome (r : KRep K cl G kws kes) (k : Key) : (valV kws k).isSome = (valG kes k).isSome := by
  rcases r.val k with ⟨e1, e2⟩ | ⟨v, d', e1, e2, rv⟩ <;> rw [e1, e2] <;> rfl
theorem NRep.getD (r : NRep K cl G kvs kds) (k : NestedKey) {z : V} {c : D} (hz : Rep K cl G z c) : Rep K cl G ((valN kvs k).getD z) ((valG kds k).getD c) := by
  rcases r.val k with ⟨e1, e2⟩ | ⟨v, d', e1, e2, rv⟩ <;> rw [e1, e2]
  · exact hz
  · exact rv
theorem KRep.getD (r : KRep K cl G kws kes) (k : Key) {z : V} {c : D} (hz : Rep K cl G z c) : Rep K cl G ((valV kws k).getD z) ((valG kes k).getD c) := by
  rcases r.val k with ⟨e1, e2⟩ | ⟨v, d', e1, e2, rv⟩ <;> rw [e1, e2]
  · exact hz
  · exact rv
theorem NRep.put (r : NRep K cl G kvs kds) {k : NestedKey} {b : Addr} {v : V} {d : D} (hk : Rep K cl G (.ref b) (keyD k)) (h8 : k.depth ≤ 8) (hv : Rep K cl G v d) : NRep K cl G (putN kvs k b v) (putG kds k d) := by
  unfold putN putG
  rw [r.isSome k]
  cases (valG kds k).isSome with
  | true =>
    simp only [if_true]
    induction r with
    | nil => exact .nil
    | @cons p q ps qs h t ih =>
      refine .cons ?_ ih
      dsimp only
      by_cases e : p.1 = k
      · rw [if_pos e, if_pos (h.1 ▸ e)]
        exact ⟨h.1, h.2.1, h.2.2.1, hv⟩
      · rw [if_neg e, if_neg (h.1 ▸ e)]
        exact h
  | false =>
    simp only [Bool.false_eq_true, if_false]
    induction r with
    | nil => exact .cons ⟨rfl, hk, h8, hv⟩ .nil
    | cons h t ih => exact .cons h ih
theorem KRep.put (r : KRep K cl G kws kes) {k : Key} {v : V} {d : D} (hv : Rep K cl G v d) : KRep K cl G (putK kws k v) (putG kes k d) := by
  unfold putK putG
  rw [valV_any, r.isSome k]
  cases (valG kes k).isSome with
  | true =>
    simp only [if_true]
    induction r with
    | nil => exact .nil
    | @cons p q ps qs h t ih =>
      refine .cons ?_ ih
      dsimp only
      by_cases e : p.1 = k
      · rw [if_pos e, if_pos (h.1 ▸ e)]
        exact ⟨h.1, hv⟩
      · rw [if_neg e, if_neg (h.1 ▸ e)]
        exact h
  | false =>
    simp only [Bool.false_eq_true, if_false]
    induction r with
    | nil => exact .cons ⟨rfl, hv⟩ .nil
    | cons h t ih => exact .cons h ih
theorem NRep.drop (r : NRep K cl G kvs kds) (k : NestedKey) : NRep K cl G (dropN kvs k) (dropG kds k) := by
  unfold dropN dropG
  induction r with
  | nil => exact .nil
  | @cons p q ps qs h t ih =>
    rw [List.filter_cons, List.filter_cons]
    by_cases e : p.1 = k
    · rw [if_neg (by simp [e]), if_neg (by rw [← h.1]; simp [e])]
      exact ih
    · rw [if_pos (by simp [e]), if_pos (by rw [← h.1]; simp [e])]
      exact .cons h ih
theorem KRep.drop (r : KRep K cl G kws kes) (k : Key) : KRep K cl G (dropK kws k) (dropG kes k) := by
  unfold dropK dropG
  induction r with
  | nil => exact .nil
  | @cons p q ps qs h t ih =>
    rw [List.filter_cons, List.filter_cons]
    by_cases e : p.1 = k
    · rw [if_neg (by simp [e]), if_neg (by rw [← h.1]; simp [e])]
      exact ih
    · rw [if_pos (by simp [e]), if_pos (by rw [← h.1]; simp [e])]
      exact .cons h ih
theorem NRep.refs (r : NRep K cl G kvs kds) : Reps K cl G (refsOf kvs) (kds.map fun e => keyD e.1) := by
  induction r with
  | nil => exact Reps.nil
  | @cons p q ps qs h t ih =>
    refine Reps.cons ?_ ih
    show Rep K cl G (.ref p.2.1) (keyD q.1)
    rw [← h.1]
    exact h.2.1
theorem NRep.fst (r : NRep K cl G kvs kds) : kvs.map (fun e => keyD e.1) = kds.map fun e => keyD e.1 := by
  induction r with
  | nil => rfl
  | cons h t ih => rw [List.map_cons, List.map_cons, ih, h.1]
theorem NKeys.refs (n : NKeys K cl G kvs) : Reps K cl G (refsOf kvs) (kvs.map fun e => keyD e.1) := Reps.map fun e he => (n e he).1
theorem NRep.sorted (r : NRep K cl G kvs kds) : Reps K cl G (refsOf (sortN kvs)) ((kds.map fun e => keyD e.1).mergeSort leD) := by
  have h1 : NKeys K cl G (sortN kvs) := fun e he => r.keys e ((List.mergeSort_perm _ _).mem_iff.mp he)
  have h2 := h1.refs
  have h3 : (sortN kvs).map (fun e => keyD e.1) = (kvs.map fun e => keyD e.1).mergeSort leD := List.map_mergeSort fun a _ b _ => rfl
  rw [h3, r.fst] at h2
  exact h2
end

/-! ### the readings, either kind of dict -/
section
variable [Wo] (K : PySem.W.Frag) (cl : Nat → Addr)
def rIxK : R2 := fun x y H Q => ∃ a v, x = .ref a ∧ DGet H a y (some v) ∧ Q v H
/-- d[k] of a dict -/
def rIxA : R2 := orR rIxK (rNIx K cl)
def rInK (neg : Bool) : R2 := fun y x H Q => ∃ a o, x = .ref a ∧ DGet H a y o ∧ Q (.bl (neg != o.isSome)) H
/-- k in d of a dict -/
def rInA (neg : Bool) : R2 := orR (rInK neg) (rNIn K cl neg)
/-- d[k] = v of a dict -/
def rSetA : TSet := orSet rSetD (rNSet K cl)
/-- {} -/
def tNew : TE := orE tDNewK tNNew
/-- list(d), sorted(d) of a list or a dict -/
def rListD : List V → Hp → VK → Prop := fun xs H Q => rListN xs H Q
def rSortA : List V → Hp → VK → Prop := fun xs H Q => rSortD K cl xs H Q ∨ rSortN K cl xs H Q
end
section
variable {X : Cx} {cl : Nat → Addr}
theorem ix_dict (hu : X.A.units + 64 < cLine) : IxR X rIxK := by
  rintro value slice pins s σ H x y v u Q I rx ry ⟨a, z, rfl, g, q⟩ hs
  obtain rfl : v = Value.ref a := rx
  exact PyProof.Rows.tail_any (id := "dict.__getitem__") (T := "dict") (dict_typeIs I g) PySem.F.slot_dict_getitem.lookup (d_getItem (by omega) I g ry fun w' s' I' r' => ⟨z, H, I', r', q⟩) hs
theorem ix_dictA (hu : X.A.units + 64 < cLine) : IxR X (@rIxA ⟨X.prog, X.w⟩ X.K cl) := (ix_dict hu).or (ix_nd hu)
theorem op_inK (hu : X.A.units + 64 < cLine) : OpR X (compareOp .In) (rInK false) := by
  rintro pins s σ H y x u v Q I ry rx ⟨a, o, rfl, g, q⟩
  obtain rfl : v = Value.ref a := rx
  refine d_in (by omega) I g ry fun s' I' => ⟨.bl o.isSome, H, I', rfl, ?_⟩
  cases o <;> exact q
theorem op_notInK (hu : X.A.units + 64 < cLine) : OpR X (compareOp .NotIn) (rInK true) := by
  rintro pins s σ H y x u v Q I ry rx ⟨a, o, rfl, g, q⟩
  obtain rfl : v = Value.ref a := rx
  refine d_notIn (by omega) I g ry fun s' I' => ⟨.bl (!o.isSome), H, I', rfl, ?_⟩
  cases o <;> exact q
theorem op_inA (hu : X.A.units + 64 < cLine) : OpR X (compareOp .In) (@rInA ⟨X.prog, X.w⟩ X.K cl false) := op_or (op_inK hu) (op_nin hu)
theorem op_notInA (hu : X.A.units + 64 < cLine) : OpR X (compareOp .NotIn) (@rInA ⟨X.prog, X.w⟩ X.K cl true) := op_or (op_notInK hu) (op_nnotin hu)
theorem set_dictA (hu : X.A.units + 64 < cLine) : PSet X (@rSetA ⟨X.prog, X.w⟩ X.K cl) := set_or (set_dict (by omega)) (set_nd hu)
theorem pe_new {pos : Pos} : PE X (.Dict [] [] pos) (@tNew ⟨X.prog, X.w⟩) := pe_or pe_dnewK pe_nnew
theorem call_sortA (hc : X.calm = true) (hu : X.A.units + 64 < cLine) : CallR X (.builtin "sorted") (@rSortA ⟨X.prog, X.w⟩ X.K cl) := fun pins s σ H xs us Q I r h => h.elim (call_sortD hu pins s σ H xs us Q I r) (call_sortN hc hu pins s σ H xs us Q I r)
end

/-! ### rules -/
section
variable [Wo] {K : PySem.W.Frag} {cl : Nat → Addr} {p q r : Bool} {M M1 M2 M3 M4 : ML} {G G1 G2 G3 H H1 H2 H3 : Hp} {σ : St} {ta tb tc te : TE} {tx : TA} {tt tu : TT} {d d1 d2 d3 : D} {ds es : List D}
variable {a : Addr} {ep : Nat} {kvs : NKV} {kds : List (NestedKey × D)} {kws : List (Key × V)} {kes : List (Key × D)} {nx : St → Hp → Prop} {rt : VK} {bk ct : St → Hp → Prop}
def kD : Key → D
  | .inl i => .int i
  | .inr x => .str x
theorem rep_kD {G : Hp} {v : V} {k : Key} (h : Rep K cl G v (kD k)) : v = kV k := by
  cases k with
  | inl i => exact h.of_int
  | inr x => exact h.of_str
/-- a key is a tuple, not too deep -/
structure IsNK (k : NestedKey) : Prop where
  tup : ∃ ks, k = .tup ks
  low : k.depth ≤ 8
theorem nkey_ref {G : Hp} {v : V} {k : NestedKey} (h : Rep K cl G v (keyD k)) (i : IsNK k) : ∃ b, v = .ref b := by
  obtain ⟨ks, rfl⟩ := i.tup
  simp only [keyD] at h
  obtain ⟨b, vs, e, _⟩ := h.of_tup
  exact ⟨b, e⟩
theorem nat_mk {G1 G2 H2 : Hp} {y : V} {k : NestedKey} (S : Sep G2 H2 M2) (hm : At M2 a (nD a ep kvs)) (hr : NRep K cl G1 kvs kds) (s : Same G1 G2) (ry : Rep K cl G2 y (keyD k)) (i : IsNK k) : ∃ b, y = .ref b ∧ NAt K cl (.ref a) y H2 a b ep kvs k := by
  obtain ⟨b, rfl⟩ := nkey_ref ry i
  exact ⟨b, rfl, rfl, rfl, S.look hm, ((hr.mono s).mono S.sub).keys, ry.mono S.sub, i.low⟩
theorem ev_nget {k : NestedKey} (ha : EvX K cl p ta σ G M (.loc a) M1) (hb : EvX K cl q tb σ G M1 d1 M2) (hk : d1 = keyD k) (i : IsNK k) (hm : At M2 a (nD a ep kvs)) (hr : NRep K cl G kvs kds) (hv : valG kds k = some d) :
    EvX K cl (p && q) (tOp (rIxA K cl) ta tb) σ G M d M2 := fun G1 H1 s S Q kk =>
  ha G1 H1 s S _ fun x G2 H2 g2 rx => hb G2 H2 (s.trans g2.same) g2.sep _ fun y G3 H3 g3 ry => by
    obtain rfl := rx.of_loc
    rw [hk] at ry
    obtain ⟨b, rfl, n⟩ := nat_mk g3.sep hm hr ((s.trans g2.same).trans g3.same) ry i
    obtain ⟨v, e, rv⟩ := hr.some hv
    exact .inr ⟨a, b, ep, kvs, k, v, n, e, kk v G3 H3 (g2.trans g3) (rv.mono ((s.trans g2.same).trans g3.same))⟩
theorem ev_kget {k : Key} (ha : EvX K cl p ta σ G M (.loc a) M1) (hb : EvX K cl q tb σ G M1 d1 M2) (hk : d1 = kD k) (hm : At M2 a (.dK kws)) (hr : KRep K cl G kws kes) (hv : valG kes k = some d) :
    EvX K cl (p && q) (tOp (rIxA K cl) ta tb) σ G M d M2 := fun G1 H1 s S Q kk =>
  ha G1 H1 s S _ fun x G2 H2 g2 rx => hb G2 H2 (s.trans g2.same) g2.sep _ fun y G3 H3 g3 ry => by
    obtain rfl := rx.of_loc
    rw [hk] at ry
    obtain ⟨v, e, rv⟩ := hr.some hv
    exact .inl ⟨a, v, rfl, .inl ⟨kws, k, .inl (g3.sep.look hm), rep_kD ry, e.symm⟩, kk v G3 H3 (g2.trans g3) (rv.mono ((s.trans g2.same).trans g3.same))⟩
theorem ev_nin {k : NestedKey} {neg : Bool} (hb : EvX K cl p tb σ G M d1 M1) (ha : EvX K cl q ta σ G M1 (.loc a) M2) (hk : d1 = keyD k) (i : IsNK k) (hm : At M2 a (nD a ep kvs)) (hr : NRep K cl G kvs kds) :
    EvX K cl (p && q) (tOp (rInA K cl neg) tb ta) σ G M (.bl (neg != (valG kds k).isSome)) M2 := fun G1 H1 s S Q kk =>
  hb G1 H1 s S _ fun y G2 H2 g2 ry => ha G2 H2 (s.trans g2.same) g2.sep _ fun x G3 H3 g3 rx => by
    obtain rfl := rx.of_loc
    rw [hk] at ry
    obtain ⟨b, rfl, n⟩ := nat_mk g3.sep hm hr ((s.trans g2.same).trans g3.same) (ry.mono g3.same) i
    refine .inr ⟨a, b, ep, kvs, k, n, ?_⟩
    rw [hr.isSome]
    exact kk _ G3 H3 (g2.trans g3) Rep.bl
theorem ev_kin {k : Key} {neg : Bool} (hb : EvX K cl p tb σ G M d1 M1) (ha : EvX K cl q ta σ G M1 (.loc a) M2) (hk : d1 = kD k) (hm : At M2 a (.dK kws)) (hr : KRep K cl G kws kes) :
    EvX K cl (p && q) (tOp (rInA K cl neg) tb ta) σ G M (.bl (neg != (valG kes k).isSome)) M2 := fun G1 H1 s S Q kk =>
  hb G1 H1 s S _ fun y G2 H2 g2 ry => ha G2 H2 (s.trans g2.same) g2.sep _ fun x G3 H3 g3 rx => by
    obtain rfl := rx.of_loc
    rw [hk] at ry
    refine .inl ⟨a, _, rfl, .inl ⟨kws, k, .inl (g3.sep.look hm), rep_kD ry, rfl⟩, ?_⟩
    rw [hr.isSome]
    exact kk _ G3 H3 (g2.trans g3) Rep.bl
theorem ev_nget1 {k : NestedKey} (ha : EvX K cl p ta σ G M (.loc a) M1) (hb : EvX K cl q tb σ G M1 d1 M2) (hk : d1 = keyD k) (i : IsNK k) (hm1 : At M1 a (nD a ep kvs)) (hm : At M2 a (nD a ep kvs)) (hr : NRep K cl G kvs kds) :
    EvX K cl (p && q) (tGet1 K cl ta tb) σ G M ((valG kds k).getD .non) M2 := fun G1 H1 s S Q kk =>
  ha G1 H1 s S _ fun x G2 H2 g2 rx => ⟨a, rx.of_loc, .inr ⟨ep, kvs, g2.sep.look hm1⟩, hb G2 H2 (s.trans g2.same) g2.sep _ fun y G3 H3 g3 ry => by
    obtain rfl := rx.of_loc
    rw [hk] at ry
    obtain ⟨b, rfl, n⟩ := nat_mk g3.sep hm hr ((s.trans g2.same).trans g3.same) ry i
    exact .inr ⟨b, ep, kvs, k, n, kk _ G3 H3 (g2.trans g3) ((hr.getD k Rep.non).mono ((s.trans g2.same).trans g3.same))⟩⟩
theorem ev_kget1 {k : Key} (ha : EvX K cl p ta σ G M (.loc a) M1) (hb : EvX K cl q tb σ G M1 d1 M2) (hk : d1 = kD k) (hm1 : At M1 a (.dK kws)) (hm : At M2 a (.dK kws)) (hr : KRep K cl G kws kes) :
    EvX K cl (p && q) (tGet1 K cl ta tb) σ G M ((valG kes k).getD .non) M2 := fun G1 H1 s S Q kk =>
  ha G1 H1 s S _ fun x G2 H2 g2 rx => ⟨a, rx.of_loc, .inl (.inl ⟨kws, .inl (g2.sep.look hm1)⟩), hb G2 H2 (s.trans g2.same) g2.sep _ fun y G3 H3 g3 ry => by
    rw [hk] at ry
    exact .inl ⟨_, .inl ⟨kws, k, .inl (g3.sep.look hm), rep_kD ry, rfl⟩, kk _ G3 H3 (g2.trans g3) ((hr.getD k Rep.non).mono ((s.trans g2.same).trans g3.same))⟩⟩
theorem ev_nget2 {k : NestedKey} (ha : EvX K cl p ta σ G M (.loc a) M1) (hb : EvX K cl q tb σ G M1 d1 M2) (hz : EvX K cl r tc σ G M2 d2 M3) (hk : d1 = keyD k) (i : IsNK k) (hm1 : At M1 a (nD a ep kvs)) (hm : At M3 a (nD a ep kvs)) (hr : NRep K cl G kvs kds) :
    EvX K cl (p && q && r) (tGet2 K cl ta tb tc) σ G M ((valG kds k).getD d2) M3 := fun G1 H1 s S Q kk =>
  ha G1 H1 s S _ fun x G2 H2 g2 rx => ⟨a, rx.of_loc, .inr ⟨ep, kvs, g2.sep.look hm1⟩, hb G2 H2 (s.trans g2.same) g2.sep _ fun y G3 H3 g3 ry => hz G3 H3 ((s.trans g2.same).trans g3.same) g3.sep _ fun z G4 H4 g4 rz => by
    obtain rfl := rx.of_loc
    rw [hk] at ry
    have sA := ((s.trans g2.same).trans g3.same).trans g4.same
    obtain ⟨b, rfl, n⟩ := nat_mk g4.sep hm hr sA (ry.mono g4.same) i
    exact .inr ⟨b, ep, kvs, k, n, kk _ G4 H4 ((g2.trans g3).trans g4) ((hr.mono sA).getD k rz)⟩⟩
theorem ev_kget2 {k : Key} (ha : EvX K cl p ta σ G M (.loc a) M1) (hb : EvX K cl q tb σ G M1 d1 M2) (hz : EvX K cl r tc σ G M2 d2 M3) (hk : d1 = kD k) (hm1 : At M1 a (.dK kws)) (hm : At M3 a (.dK kws)) (hr : KRep K cl G kws kes) :
    EvX K cl (p && q && r) (tGet2 K cl ta tb tc) σ G M ((valG kes k).getD d2) M3 := fun G1 H1 s S Q kk =>
  ha G1 H1 s S _ fun x G2 H2 g2 rx => ⟨a, rx.of_loc, .inl (.inl ⟨kws, .inl (g2.sep.look hm1)⟩), hb G2 H2 (s.trans g2.same) g2.sep _ fun y G3 H3 g3 ry => hz G3 H3 ((s.trans g2.same).trans g3.same) g3.sep _ fun z G4 H4 g4 rz => by
    rw [hk] at ry
    have sA := ((s.trans g2.same).trans g3.same).trans g4.same
    exact .inl ⟨_, .inl ⟨kws, k, .inl (g4.sep.look hm), rep_kD (ry.mono g4.same), rfl⟩, kk _ G4 H4 ((g2.trans g3).trans g4) ((hr.mono sA).getD k rz)⟩⟩
theorem eg_newN {F : V → Hp → ML → Prop} (hF : ∀ u, F (.ref u) G ((u, nD u 0 []) :: M)) (hm : ∀ v G' M', Same G G' → F v G M' → F v G' M') : EvG tNew σ G M F := fun G1 H1 s S Q k =>
  .inr fun u hu => k (.ref u) G1 _ _ (Same.refl _) (S.newM hu) (hm _ _ _ s (hF u))
theorem eg_newK {F : V → Hp → ML → Prop} (hF : ∀ u, F (.ref u) G ((u, .dK []) :: M)) (hm : ∀ v G' M', Same G G' → F v G M' → F v G' M') : EvG tNew σ G M F := fun G1 H1 s S Q k =>
  .inl fun u hu => k (.ref u) G1 _ _ (Same.refl _) (S.newM hu) (hm _ _ _ s (hF u))
/-- d[k] = e -/
theorem s_nput {k : NestedKey} {M' : Nat → Addr → V → ML} (S : Sep G H M) (he : EvX K cl p te σ G M d M1) (ha : EvX K cl q ta σ G M1 (.loc a) M2) (hi : EvX K cl r tb σ G M2 d1 M3) (hk : d1 = keyD k) (i : IsNK k) (hr : NRep K cl G kvs kds) (hl : kds.length ≤ 100000)
    (hm : ∀ ep' b v, Ch M3 a (nD a ep kvs) (nD a ep' (putN kvs k b v)) (M' ep' b v)) (kk : ∀ ep' b v G' H', Same G G' → Sep G' H' (M' ep' b v) → NRep K cl G' (putN kvs k b v) (putG kds k d) → nx σ H') : tAsg te (gSub ta tb (rSetA K cl)) ⟨nx, rt, bk, ct⟩ σ H :=
  he G H (Same.refl _) S _ fun v G2 H2 g2 rv => ha G2 H2 g2.same g2.sep _ fun x G3 H3 g3 rx => hi G3 H3 (g2.same.trans g3.same) g3.sep _ fun y G4 H4 g4 ry => by
    obtain rfl := rx.of_loc
    rw [hk] at ry
    have sA := (g2.same.trans g3.same).trans g4.same
    obtain ⟨b, rfl, n⟩ := nat_mk (kds := kds) g4.sep (hm 0 0 v).at hr sA ry i
    refine .inr ⟨a, b, ep, kvs, k, n, ?_, fun ep' => kk ep' b v G4 _ sA (g4.sep.ch (hm ep' b v)) ((hr.mono sA).put ry i.low (rv.mono (g3.same.trans g4.same)))⟩
    rw [hr.length]
    exact Nat.lt_of_le_of_lt hl (by decide)
theorem s_kput {k : Key} {M' : V → ML} (S : Sep G H M) (he : EvX K cl p te σ G M d M1) (ha : EvX K cl q ta σ G M1 (.loc a) M2) (hi : EvX K cl r tb σ G M2 d1 M3) (hk : d1 = kD k) (hr : KRep K cl G kws kes) (hl : kes.length ≤ 100000)
    (hm : ∀ v, Ch M3 a (.dK kws) (.dK (putK kws k v)) (M' v)) (kk : ∀ v G' H', Same G G' → Sep G' H' (M' v) → KRep K cl G' (putK kws k v) (putG kes k d) → nx σ H') : tAsg te (gSub ta tb (rSetA K cl)) ⟨nx, rt, bk, ct⟩ σ H :=
  he G H (Same.refl _) S _ fun v G2 H2 g2 rv => ha G2 H2 g2.same g2.sep _ fun x G3 H3 g3 rx => hi G3 H3 (g2.same.trans g3.same) g3.sep _ fun y G4 H4 g4 ry => by
    obtain rfl := rx.of_loc
    rw [hk] at ry
    have sA := (g2.same.trans g3.same).trans g4.same
    refine .inl ⟨a, _, rfl, .inl ⟨kws, k, g4.sep.look (hm v).at, rep_kD ry, ?_, rfl⟩, kk v G4 _ sA (g4.sep.ch (hm v)) ((hr.mono sA).put (rv.mono (g3.same.trans g4.same)))⟩
    rw [hr.length]
    exact Nat.lt_of_le_of_lt hl (by decide)
theorem s_ndel {k : NestedKey} {M' : Nat → ML} (S : Sep G H M) (ha : EvX K cl p ta σ G M (.loc a) M1) (hi : EvX K cl q tb σ G M1 d1 M2) (hk : d1 = keyD k) (i : IsNK k) (hr : NRep K cl G kvs kds) (hv : (valG kds k).isSome = true)
    (hm : ∀ ep', Ch M2 a (nD a ep kvs) (nD a ep' (dropN kvs k)) (M' ep')) (kk : ∀ ep' G' H', Same G G' → Sep G' H' (M' ep') → NRep K cl G' (dropN kvs k) (dropG kds k) → nx σ H') : sDelA K cl ta tb ⟨nx, rt, bk, ct⟩ σ H :=
  ha G H (Same.refl _) S _ fun x G3 H3 g3 rx => hi G3 H3 g3.same g3.sep _ fun y G4 H4 g4 ry => by
    obtain rfl := rx.of_loc
    rw [hk] at ry
    have sA := g3.same.trans g4.same
    obtain ⟨b, rfl, n⟩ := nat_mk (kds := kds) g4.sep (hm 0).at hr sA ry i
    exact .inr ⟨a, b, ep, kvs, k, n, by rw [hr.isSome]; exact hv, fun ep' => kk ep' G4 _ sA (g4.sep.ch (hm ep')) ((hr.mono sA).drop k)⟩
theorem s_kdel {k : Key} {M' : ML} (S : Sep G H M) (ha : EvX K cl p ta σ G M (.loc a) M1) (hi : EvX K cl q tb σ G M1 d1 M2) (hk : d1 = kD k) (hr : KRep K cl G kws kes) (hv : (valG kes k).isSome = true)
    (hm : Ch M2 a (.dK kws) (.dK (dropK kws k)) M') (kk : ∀ G' H', Same G G' → Sep G' H' M' → KRep K cl G' (dropK kws k) (dropG kes k) → nx σ H') : sDelA K cl ta tb ⟨nx, rt, bk, ct⟩ σ H :=
  ha G H (Same.refl _) S _ fun x G3 H3 g3 rx => hi G3 H3 g3.same g3.sep _ fun y G4 H4 g4 ry => by
    obtain rfl := rx.of_loc
    rw [hk] at ry
    have sA := g3.same.trans g4.same
    exact .inl ⟨a, kws, k, rfl, g4.sep.look hm.at, rep_kD ry, by rw [hr.isSome]; exact hv, kk G4 _ sA (g4.sep.ch hm) ((hr.mono sA).drop k)⟩
end
end Cp
/-! Cp8: loops over the keys of a dict of tuples, over owned lists; sorted() as data. -/
namespace Cp
open PySem L2

/-- J yields the things xs, one by one, while ok holds -/
structure Yields (J : It) (xs : List V) (ok : Hp → Prop) : Prop where
  go : ∀ i H, i < xs.length → ok H → J.go i H
  stop : ∀ H, ok H → J.stop xs.length H
  yld : ∀ i H x H', ok H → J.yld i H x H' → H' = H ∧ xs[i]? = some x
theorem yields_nd [Wo] {a : Addr} {ep : Nat} {kvs : NKV} : Yields (ItN a ep kvs) (refsOf kvs) (fun H => H a = some (nD a ep kvs)) where
  go := fun i H hi e => ⟨e, by simpa using hi⟩
  stop := fun H e => ⟨e, by simp⟩
  yld := fun i H x H' _ y => ⟨y.1, by
    obtain ⟨e, he, rfl⟩ := y.2
    rw [List.getElem?_map, he]; rfl⟩
theorem yields_lst {K : PySem.W.Frag} {a : Addr} {xs : List V} : Yields (Itl K a) xs (fun H => SqL K H a xs) where
  go := fun i H hi e => ⟨xs, xs[i], e, List.getElem?_eq_getElem hi⟩
  stop := fun H e => ⟨xs, e, Nat.le_refl _⟩
  yld := fun i H x H' e y => ⟨y.1, y.2 xs e⟩
theorem for_y {J : It} {xs : List V} {ok : Hp → Prop} {g : TG} {tb : TS} {Dn : Ends} {σ : St} {H : Hp} (Y : Yields J xs ok) (Pv : Nat → St → Hp → Prop) (h0 : Pv 0 σ H) (hl : ∀ i σ H, i ≤ xs.length → Pv i σ H → ok H)
    (hs : ∀ i x σ H, xs[i]? = some x → Pv i σ H → g x σ H fun σ2 H2 => tb { Dn with nx := Pv (i + 1), ct := Pv (i + 1), bk := Dn.nx } σ2 H2) (hd : ∀ σ H, Pv xs.length σ H → Dn.nx σ H) :
    ∃ W : Nat → Nat → St → Hp → Prop, (∃ m, W 0 m σ H) ∧ ∀ i m σ H, W i m σ H →
      (J.stop i H ∧ Dn.nx σ H) ∨ (J.go i H ∧ ∃ N : St → Hp → Prop, (∀ σ' H', N σ' H' → ∃ m', m' < m ∧ W (i + 1) m' σ' H') ∧ ∀ x H', J.yld i H x H' → g x σ H' fun σ2 H2 => tb { Dn with nx := N, ct := N, bk := Dn.nx } σ2 H2) := by
  refine ⟨fun i m σ H => m = xs.length - i ∧ i ≤ xs.length ∧ Pv i σ H, ⟨_, rfl, Nat.zero_le _, h0⟩, ?_⟩
  rintro i m σ H ⟨rfl, hi, p⟩
  have q := hl i σ H hi p
  rcases Nat.lt_or_ge i xs.length with lt | ge
  · refine .inr ⟨Y.go i H lt q, Pv (i + 1), fun σ' H' p' => ⟨xs.length - (i + 1), by omega, rfl, lt, p'⟩, fun x H' y => ?_⟩
    obtain ⟨e, hx⟩ := Y.yld i H x H' q y
    rw [e]
    exact hs i x σ H hx p
  · obtain rfl : i = xs.length := Nat.le_antisymm hi ge
    exact .inl ⟨Y.stop H q, hd σ H p⟩
theorem lc_y {J : It} {xs : List V} {ok : Hp → Prop} {g : TG} {tt : TT} {te : TE} {vs : List Nat} {σ : St} {H1 : Hp} {Da : Addr} {Qd : Hp → Prop} (Y : Yields J xs ok) (Pv : Nat → Hp → Prop) (h0 : Pv 0 (upd H1 Da (.lst []))) (hl : ∀ i H, i ≤ xs.length → Pv i H → ok H)
    (hs : ∀ i x H, xs[i]? = some x → Pv i H → g x (wipe σ vs) H fun σ2 H2 => wipe σ2 vs = wipe σ vs ∧ tt σ2 H2 fun b H3 =>
      if b = true then te σ2 H3 fun y H4 => ∃ acc, H4 Da = some (.lst acc) ∧ acc.length < sizeLine ∧ Pv (i + 1) (upd H4 Da (.lst (acc ++ [y]))) else Pv (i + 1) H3) (hd : ∀ H, Pv xs.length H → Qd H) :
    ∃ W : Nat → Nat → Hp → Prop, (∃ m, W 0 m (upd H1 Da (.lst []))) ∧ ∀ i m H, W i m H →
      (J.stop i H ∧ Qd H) ∨ (J.go i H ∧ ∃ Nx : Hp → Prop, (∀ H', Nx H' → ∃ m', m' < m ∧ W (i + 1) m' H') ∧ ∀ x H', J.yld i H x H' → g x (wipe σ vs) H' fun σ2 H2 => wipe σ2 vs = wipe σ vs ∧ tt σ2 H2 fun b H3 =>
        if b = true then te σ2 H3 fun y H4 => ∃ acc, H4 Da = some (.lst acc) ∧ acc.length < sizeLine ∧ Nx (upd H4 Da (.lst (acc ++ [y]))) else Nx H3) := by
  refine ⟨fun i m H => m = xs.length - i ∧ i ≤ xs.length ∧ Pv i H, ⟨_, rfl, Nat.zero_le _, h0⟩, ?_⟩
  rintro i m H ⟨rfl, hi, p⟩
  have q := hl i H hi p
  rcases Nat.lt_or_ge i xs.length with lt | ge
  · refine .inr ⟨Y.go i H lt q, Pv (i + 1), fun H' p' => ⟨xs.length - (i + 1), by omega, rfl, lt, p'⟩, fun x H' y => ?_⟩
    obtain ⟨e, hx⟩ := Y.yld i H x H' q y
    rw [e]
    exact hs i x H hx p
  · obtain rfl : i = xs.length := Nat.le_antisymm hi ge
    exact .inl ⟨Y.stop H q, hd H p⟩

section
variable [Wo] {K : PySem.W.Frag} {cl : Nat → Addr} {p q r : Bool} {M M1 M2 M3 M4 : ML} {G G1 G2 G3 H H1 H2 H3 : Hp} {σ : St} {ta tb tc te tl : TE} {tx : TA} {tt tu : TT} {d d1 d2 d3 : D} {ds es : List D}
variable {a : Addr} {ep : Nat} {kvs : NKV} {kds : List (NestedKey × D)} {nx : St → Hp → Prop} {rt : VK} {bk ct : St → Hp → Prop} {vs : List V} {g : TG} {tg : TS}
/-- for k in d, d a dict of tuples that the loop does not change -/
theorem s_forN {tb : TS} (J : Nat → St → Hp → ML → Prop) (S : Sep G H M) (h : EvX K cl p tl σ G M (.loc a) M1) (hm : At M1 a (nD a ep kvs)) (hr : NRep K cl G kvs kds) (h0 : ∀ G' H', Go p M M1 G H G' H' → J 0 σ G' M1)
    (hk : ∀ i σ' G' M', J i σ' G' M' → At M' a (nD a ep kvs))
    (hs : ∀ G2, Same G G2 → ∀ i x e σ' G' H' M', kds[i]? = some e → Same G2 G' → Sep G' H' M' → Rep K cl G' x (keyD e.1) → J i σ' G' M' → g x σ' H' fun σ2 H2 => tb ⟨Nx G2 J (i + 1), rt, nx, Nx G2 J (i + 1)⟩ σ2 H2)
    (hd : ∀ σ' G' H' M', Same G G' → Sep G' H' M' → J kds.length σ' G' M' → nx σ' H') : tFor (iNKeys tl) g tb ⟨nx, rt, bk, ct⟩ σ H :=
  h G H (Same.refl _) S _ fun x G2 H2 g2 rx => by
    have rs := (hr.mono g2.same).refs
    have hl : (refsOf kvs).length = kds.length := by rw [List.length_map, hr.length]
    refine ⟨a, ep, kvs, rx.of_loc, g2.sep.look hm, for_y yields_nd (Nx G2 J) ⟨G2, M1, Same.refl _, g2.sep, h0 G2 H2 g2⟩ ?_ ?_ ?_⟩
    · rintro i σ' H' hi ⟨G', M', s', S', j⟩
      exact S'.look (hk _ _ _ _ j)
    · rintro i y σ' H' hy ⟨G', M', s', S', j⟩
      obtain ⟨d, hd', rd⟩ := rs.get hy
      rw [List.getElem?_map] at hd'
      cases he : kds[i]? with
      | none => rw [he] at hd'; cases hd'
      | some e =>
        rw [he] at hd'
        have hd2 : keyD e.1 = d := Option.some.inj hd'
        subst hd2
        exact hs G2 g2.same i y e σ' G' H' M' he s' S' (rd.mono s') j
    · rintro σ' H' ⟨G', M', s', S', j⟩
      rw [hl] at j
      exact hd σ' G' H' M' (g2.same.trans s') S' j
/-- for x in xs, xs an owned list that the loop does not change -/
theorem s_forM {tb : TS} (J : Nat → St → Hp → ML → Prop) (S : Sep G H M) (h : EvX K cl p tl σ G M (.loc a) M1) (hm : At M1 a (.lst vs)) (hr : Reps K cl G vs ds) (h0 : ∀ G' H', Go p M M1 G H G' H' → J 0 σ G' M1)
    (hk : ∀ i σ' G' M', J i σ' G' M' → At M' a (.lst vs))
    (hs : ∀ G2, Same G G2 → ∀ i x d σ' G' H' M', ds[i]? = some d → Same G2 G' → Sep G' H' M' → Rep K cl G' x d → J i σ' G' M' → g x σ' H' fun σ2 H2 => tb ⟨Nx G2 J (i + 1), rt, nx, Nx G2 J (i + 1)⟩ σ2 H2)
    (hd : ∀ σ' G' H' M', Same G G' → Sep G' H' M' → J ds.length σ' G' M' → nx σ' H') : tFor (iSeq K tl) g tb ⟨nx, rt, bk, ct⟩ σ H :=
  .inl (h G H (Same.refl _) S _ fun x G2 H2 g2 rx => by
    have rs := hr.mono g2.same
    refine ⟨a, rx.of_loc, ⟨vs, .inl (.inl (g2.sep.look hm))⟩, for_y (yields_lst (xs := vs)) (Nx G2 J) ⟨G2, M1, Same.refl _, g2.sep, h0 G2 H2 g2⟩ ?_ ?_ ?_⟩
    · rintro i σ' H' hi ⟨G', M', s', S', j⟩
      exact .inl (.inl (S'.look (hk _ _ _ _ j)))
    · rintro i y σ' H' hy ⟨G', M', s', S', j⟩
      obtain ⟨d, hd', rd⟩ := rs.get hy
      exact hs G2 g2.same i y d σ' G' H' M' hd' s' S' (rd.mono s') j
    · rintro σ' H' ⟨G', M', s', S', j⟩
      rw [rs.length] at j
      exact hd σ' G' H' M' (g2.same.trans s') S' j)
/-- a comprehension over things that stay as they are -/
theorem ev_lcY {vs : List Nat} {f : D → D} {keep : D → Bool} {J : It} {us : List V} {ok : Hp → Prop} (Y : Yields J us ok) (hok : ∀ e G' H', Same G G' → Sep G' H' (e :: M1) → ok H') (rs : Reps K cl G us ds) (hl : ds.length ≤ 10000000) (sG : Same G G2) (S2 : Sep G2 H2 M1)
    (hs : ∀ G1 e x d, Same G G1 → d ∈ ds → Rep K cl G1 x d → LcT K cl g tt te vs σ G1 (e :: M1) x (keep d) (f d)) {Q : VK} (k : ∀ v G' H', Go false M1 M1 G2 H2 G' H' → Rep K cl G' v (.lst ((ds.filter keep).map f)) → Q v H') :
    ∀ Da, H2 Da = none → ∃ W : Nat → Nat → Hp → Prop, (∃ m, W 0 m (upd H2 Da (.lst []))) ∧ ∀ i m H, W i m H →
      (J.stop i H ∧ Q (.ref Da) H) ∨ (J.go i H ∧ ∃ Nx : Hp → Prop, (∀ H', Nx H' → ∃ m', m' < m ∧ W (i + 1) m' H') ∧ ∀ x H', J.yld i H x H' → g x (wipe σ vs) H' fun σ2 H2 => wipe σ2 vs = wipe σ vs ∧ tt σ2 H2 fun b H3 =>
        if b = true then te σ2 H3 fun y H4 => ∃ acc, H4 Da = some (.lst acc) ∧ acc.length < sizeLine ∧ Nx (upd H4 Da (.lst (acc ++ [y]))) else Nx H3) := fun Da hD => by
  refine lc_y Y (fun i H => ∃ G' acc, Same G2 G' ∧ Sep G' H ((Da, .lst acc) :: M1) ∧ Reps K cl G' acc (((ds.take i).filter keep).map f)) ⟨G2, [], Same.refl _, S2.newM hD, Reps.nil⟩ ?_ ?_ ?_
  · rintro i H hi ⟨G', acc, s', S', ra⟩
    exact hok _ G' H (sG.trans s') S'
  · rintro i x H hx ⟨G', acc, s', S', ra⟩
    obtain ⟨d, hdi, rd⟩ := rs.get hx
    obtain ⟨σ2, p', q', hw, hg, ht, he⟩ := hs G' (Da, .lst acc) x d (sG.trans s') (List.mem_of_getElem? hdi) (rd.mono (sG.trans s'))
    refine hg H _ S' ⟨hw, ht G' H (Same.refl _) S' _ fun G3 H3 g3 => ?_⟩
    have e1 : ds.take (i + 1) = ds.take i ++ [d] := by rw [List.take_add_one, hdi]; rfl
    have hal : acc.length ≤ ds.length := by
      rw [ra.length, List.length_map]
      exact Nat.le_trans (List.length_filter_le _ _) (by rw [List.length_take]; omega)
    cases hk : keep d with
    | true =>
      rw [if_pos rfl]
      refine he hk G3 H3 g3.same g3.sep _ fun y G4 H4 g4 ry => ?_
      have sA := g3.same.trans g4.same
      refine ⟨acc, g4.sep.look .hd, Nat.lt_of_le_of_lt (Nat.le_trans hal hl) (by decide), G4, acc ++ [y], s'.trans sA, g4.sep.ch .hd, ?_⟩
      rw [e1, List.filter_append, List.map_append]
      refine Reps.append (ra.mono sA) ?_
      rw [List.filter_cons, if_pos hk]
      exact Reps.one ry
    | false =>
      rw [if_neg (by decide)]
      refine ⟨G3, acc, s'.trans g3.same, g3.sep, ?_⟩
      rw [e1, List.filter_append, List.map_append, List.filter_cons, if_neg (by rw [hk]; decide)]
      show Reps K cl G3 acc (_ ++ [])
      rw [List.append_nil]
      exact ra.mono g3.same
  · rintro H ⟨G', acc, s', S', ra⟩
    rw [rs.length, List.take_length] at ra
    obtain ⟨S3, s3⟩ := S'.freeze
    exact k (.ref Da) _ H (Go.of (s'.trans s3) S3) (Rep.lst (.inl (.inl upd_same)) (ra.mono s3))
theorem ev_lcN {vs : List Nat} {f : D → D} {keep : D → Bool} (h : EvX K cl p tl σ G M (.loc a) M1) (hm : At M1 a (nD a ep kvs)) (hr : NRep K cl G kvs kds) (hl : kds.length ≤ 10000000)
    (hs : ∀ G1 e x d, Same G G1 → d ∈ kds.map (fun e => keyD e.1) → Rep K cl G1 x d → LcT K cl g tt te vs σ G1 (e :: M1) x (keep d) (f d)) : EvX K cl false (tLc (iNKeys tl) g tt te vs) σ G M (.lst (((kds.map fun e => keyD e.1).filter keep).map f)) M1 := fun G1 H1 s S Q k =>
  h G1 H1 s S _ fun x G2 H2 g2 rx => ⟨a, ep, kvs, rx.of_loc, g2.sep.look hm, ev_lcY yields_nd (fun e G' H' _ S' => S'.look (.tl hm)) hr.refs (by rw [List.length_map]; exact hl) (s.trans g2.same) g2.sep hs fun v G' H' g' rv => k v G' H' (Go.of (g2.same.trans g'.same) g'.sep) rv⟩
theorem ev_lcM {us : List V} {vs : List Nat} {f : D → D} {keep : D → Bool} (h : EvX K cl p tl σ G M (.loc a) M1) (hm : At M1 a (.lst us)) (hr : Reps K cl G us ds) (hl : ds.length ≤ 10000000)
    (hs : ∀ G1 e x d, Same G G1 → d ∈ ds → Rep K cl G1 x d → LcT K cl g tt te vs σ G1 (e :: M1) x (keep d) (f d)) : EvX K cl false (tLc (iSeq K tl) g tt te vs) σ G M (.lst ((ds.filter keep).map f)) M1 := fun G1 H1 s S Q k =>
  .inl (h G1 H1 s S _ fun x G2 H2 g2 rx => ⟨a, rx.of_loc, ⟨us, .inl (.inl (g2.sep.look hm))⟩, ev_lcY (yields_lst (xs := us)) (fun e G' H' _ S' => .inl (.inl (S'.look (.tl hm)))) hr hl (s.trans g2.same) g2.sep hs fun v G' H' g' rv => k v G' H' (Go.of (g2.same.trans g'.same) g'.sep) rv⟩)

/-! ### sorted(), list() -/
theorem sortZ_reps {G : Hp} {us : List V} (r : Reps K cl G us ds) : Reps K cl G ((sortZ (us.zip ds)).map (·.1)) (ds.mergeSort leD) := by
  have h := zip_reps (zs := sortZ (us.zip ds)) (K := K) (cl := cl) (G := G) fun z hz => reps_zip r z ((List.mergeSort_perm _ _).mem_iff.mp hz)
  rw [sortZ_snd, zip_snd r] at h
  exact h
theorem on_sort (hd : D.areDat ds = true) (so : Sorts (ds.map D.pyd)) : OpN K cl false (rSortA K cl) M [.lst ds] (.lst (ds.mergeSort leD)) M := fun G1 H1 S us ru Q k => by
  obtain ⟨u, rfl, hu⟩ := reps1 ru
  obtain ⟨a, vs, rfl, sq, rs⟩ := hu.of_lst
  exact .inl ⟨a, vs, ds, rfl, S.sub.seq sq, rs.mono S.sub, hd, so, fun l hl => k _ _ _ (Go.of (Same.upd (S.freshG hl)) (S.newG hl)) (Rep.lst (.inl (.inl upd_same)) ((sortZ_reps rs).mono (Same.upd (S.freshG hl))))⟩
theorem ev_sortM (ha : EvX K cl p ta σ G M (.loc a) M1) (hm : At M1 a (.lst vs)) (hr : Reps K cl G vs ds) (hd : D.areDat ds = true) (so : Sorts (ds.map D.pyd)) : EvX K cl false (tCB (rSortA K cl) (tCons ta tNil)) σ G M (.lst (ds.mergeSort leD)) M1 := fun G1 H1 s S Q k =>
  ha G1 H1 s S _ fun x G2 H2 g2 rx => by
    rw [rx.of_loc]
    have rs := hr.mono (s.trans g2.same)
    exact .inl ⟨a, vs, ds, rfl, .inl (.inl (g2.sep.look hm)), rs.mono g2.sep.sub, hd, so, fun l hl => k _ _ _ (Go.of (g2.same.trans (Same.upd (g2.sep.freshG hl))) (g2.sep.newG hl)) (Rep.lst (.inl (.inl upd_same)) ((sortZ_reps rs).mono (Same.upd (g2.sep.freshG hl))))⟩
theorem ev_sortN (ha : EvX K cl p ta σ G M (.loc a) M1) (hm : At M1 a (nD a ep kvs)) (hr : NRep K cl G kvs kds) (hd : ∀ e ∈ kds, (keyD e.1).isDat = true) (so : Sorts (kds.map fun e => (keyD e.1).pyd)) : EvX K cl false (tCB (rSortA K cl) (tCons ta tNil)) σ G M (.lst ((kds.map fun e => keyD e.1).mergeSort leD)) M1 := fun G1 H1 s S Q k =>
  ha G1 H1 s S _ fun x G2 H2 g2 rx => by
    rw [rx.of_loc]
    have rs := hr.mono (s.trans g2.same)
    have e1 := rs.fst
    have e2 : (kvs.map fun e => (keyD e.1).pyd) = kds.map fun e => (keyD e.1).pyd := by
      have h := congrArg (List.map D.pyd) e1
      rw [List.map_map, List.map_map] at h
      exact h
    refine .inr ⟨a, ep, kvs, rfl, g2.sep.look hm, (rs.mono g2.sep.sub).keys, fun e he => ?_, by rw [e2]; exact so, fun l hl => k _ _ _ (Go.of (g2.same.trans (Same.upd (g2.sep.freshG hl))) (g2.sep.newG hl)) (Rep.lst (.inl (.inl upd_same)) (rs.sorted.mono (Same.upd (g2.sep.freshG hl))))⟩
    have h1 : keyD e.1 ∈ kvs.map fun e => keyD e.1 := List.mem_map.mpr ⟨e, he, rfl⟩
    rw [e1] at h1
    obtain ⟨f, hf, q⟩ := List.mem_map.mp h1
    rw [← q]
    exact hd f hf
theorem ev_listN (ha : EvX K cl p ta σ G M (.loc a) M1) (hm : At M1 a (nD a ep kvs)) (hr : NRep K cl G kvs kds) : EvX K cl false (tCB rListN (tCons ta tNil)) σ G M (.lst (kds.map fun e => keyD e.1)) M1 := fun G1 H1 s S Q k =>
  ha G1 H1 s S _ fun x G2 H2 g2 rx => by
    rw [rx.of_loc]
    have rs := (hr.mono (s.trans g2.same)).refs
    exact ⟨a, ep, kvs, rfl, g2.sep.look hm, fun l hl => k _ _ _ (Go.of (g2.same.trans (Same.upd (g2.sep.freshG hl))) (g2.sep.newG hl)) (Rep.lst (.inl (.inl upd_same)) (rs.mono (Same.upd (g2.sep.freshG hl))))⟩
end
end Cp
/-! Cp9: calls of defs and methods that change owned cells. -/
namespace Cp
open PySem L2
section
variable {K : PySem.W.Frag} {cl : Nat → Addr} {p q r : Bool} {M M1 M2 M3 M4 : ML} {G G1 G2 G3 H H1 H2 H3 : Hp} {σ : St} {ta tb tc te tl : TE} {tx : TA} {tt tu : TT} {d d1 d2 d3 : D} {ds es : List D}
abbrev RG := List V → Hp → ML → (V → Hp → ML → Prop) → Prop
/-- a def over cells in an order of its own -/
theorem eg_callP {R : RG} {E : XK} {F : V → Hp → ML → Prop} (ha : EvA K cl p tx σ G M ds M1) (pm : M1.Perm M2)
    (hR : ∀ vs G' (T : V → Hp → ML → Prop), Same G G' → Reps K cl G' vs ds → (∀ v G'' M'', Same G' G'' → F v G'' M'' → T v G'' M'') → R vs G' M2 T) : EvG (tCall (GSp R) [] E tx) σ G M F := fun G1 H1 s S Q k =>
  ha G1 H1 s S _ fun xs G2 H2 g2 rx => ⟨G2, M2, g2.sep.perm pm, by
    rw [List.append_nil]
    refine hR xs G2 _ (s.trans g2.same) rx fun v G'' M'' s'' hF sm H' S' => k v G'' H' M'' (g2.same.trans sm) S' hF⟩
theorem ev_callP {R : RG} {E : XK} (ha : EvA K cl p tx σ G M ds M1) (pm : M1.Perm M2) (pm' : M3.Perm M4)
    (hR : ∀ vs G' (T : V → Hp → ML → Prop), Same G G' → Reps K cl G' vs ds → (∀ v G'', Same G' G'' → Rep K cl G'' v d → T v G'' M3) → R vs G' M2 T) : EvX K cl false (tCall (GSp R) [] E tx) σ G M d M4 := fun G1 H1 s S Q k =>
  ha G1 H1 s S _ fun xs G2 H2 g2 rx => ⟨G2, M2, g2.sep.perm pm, by
    rw [List.append_nil]
    exact hR xs G2 _ (s.trans g2.same) rx fun v G'' s'' rv sm H' S' => k v G'' H' (Go.of (g2.same.trans s'') (S'.perm pm')) rv⟩
/-- a method of an owned instance -/
theorem eg_methP {R : RG} {E : XK} {F : V → Hp → ML → Prop} {C x dx : Addr} {fs : List (Str × V)} {m : Str} (he : EvX K cl p ta σ G M (.loc x) M1) (hm : At M1 x (.ins C dx fs)) (hn : fs.lookup m = none) (ha : EvA K cl q tx σ G M1 ds M2) (pm : M2.Perm M3)
    (hR : ∀ vs G' (T : V → Hp → ML → Prop), Same G G' → Reps K cl G' vs ds → (∀ v G'' M'', Same G' G'' → F v G'' M'' → T v G'' M'') → R (.ref x :: vs) G' M3 T) : EvG (tMeth C m (GSp R) [] E ta tx) σ G M F := fun G1 H1 s S Q k =>
  he G1 H1 s S _ fun y G2 H2 g2 ry => by
    obtain rfl := ry.of_loc
    exact ⟨x, dx, fs, rfl, g2.sep.look hm, hn, ha G2 H2 (s.trans g2.same) g2.sep _ fun xs G3 H3 g3 rxs => ⟨G3, M3, g3.sep.perm pm, by
      rw [List.append_nil]
      exact hR xs G3 _ ((s.trans g2.same).trans g3.same) rxs fun v G'' M'' s'' hF sm H' S' => k v G'' H' M'' ((g2.same.trans g3.same).trans sm) S' hF⟩⟩
theorem ev_methP {R : RG} {E : XK} {C x dx : Addr} {fs : List (Str × V)} {m : Str} (he : EvX K cl p ta σ G M (.loc x) M1) (hm : At M1 x (.ins C dx fs)) (hn : fs.lookup m = none) (ha : EvA K cl q tx σ G M1 ds M2) (pm : M2.Perm M3) (pm' : M.Perm M4)
    (hR : ∀ vs G' (T : V → Hp → ML → Prop), Same G G' → Reps K cl G' vs ds → (∀ v G'', Same G' G'' → Rep K cl G'' v d → T v G'' M4) → R (.ref x :: vs) G' M3 T) : EvX K cl false (tMeth C m (GSp R) [] E ta tx) σ G M d M4 := fun G1 H1 s S Q k =>
  he G1 H1 s S _ fun y G2 H2 g2 ry => by
    obtain rfl := ry.of_loc
    exact ⟨x, dx, fs, rfl, g2.sep.look hm, hn, ha G2 H2 (s.trans g2.same) g2.sep _ fun xs G3 H3 g3 rxs => ⟨G3, M3, g3.sep.perm pm, by
      rw [List.append_nil]
      exact hR xs G3 _ ((s.trans g2.same).trans g3.same) rxs fun v G'' s'' rv sm H' S' => k v G'' H' (Go.of ((g2.same.trans g3.same).trans sm) S') rv⟩⟩
/-- a new instance whose __init__ lays cells of its own -/
theorem eg_makeG {R : RG} {E : XK} {C : Addr} {F : V → Hp → ML → Prop} (ha : EvA K cl p tx σ G M ds M1)
    (hR : ∀ x dx vs G' (T : V → Hp → ML → Prop), Same G G' → Reps K cl G' vs ds → (∀ G'' M'', Same G' G'' → F (.ref x) G'' M'' → T .non G'' M'') → R (.ref x :: vs) G' ((x, .ins C dx []) :: M1) T) : EvG (tMake C (GSp R) [] E tx) σ G M F := fun G1 H1 s S Q k =>
  ha G1 H1 s S _ fun xs G2 H2 g2 rx => fun x dx nx ndx ne => by
    have ndG := g2.sep.freshG ndx
    have S1 : Sep (upd G2 dx (.own x)) (upd H2 dx (.own x)) M1 := g2.sep.newG ndx
    have nx' : upd H2 dx (.own x) x = none := by rw [upd_ne ne.symm]; exact nx
    have S2 := S1.newM (o := .ins C dx []) nx'
    have s2 : Same G2 (upd G2 dx (.own x)) := Same.upd ndG
    refine ⟨_, _, S2, ?_⟩
    rw [List.append_nil]
    exact hR x dx xs _ _ ((s.trans g2.same).trans s2) (rx.mono s2) fun G'' M'' s'' hF sm H' S' => ⟨rfl, k (.ref x) G'' H' M'' ((g2.same.trans s2).trans sm) S' hF⟩
/-- self.f = e, a new field, e something that is laid -/
theorem s_fldGN {a C dx : Addr} {ns : List Str} {vs : List V} {f : Str} {tv : TE} {F : V → Hp → ML → Prop} {nx : St → Hp → Prop} {rt : VK} {bk ct : St → Hp → Prop} (S : Sep G H M) (hv : EvG tv σ G M F) (hc : Cls K C) (hn : NoAttr K C f) (hl : ns.length = vs.length) (hx : ns.contains f = false) (hk : ns.length < 1000)
    (k : ∀ v G' H' M', Same G G' → Sep G' H' M' → F v G' M' → ∃ p M2 M3, EvX K cl p ta σ G' M' (.loc a) M2 ∧ Ch M2 a (.ins C dx (ns.zip vs)) (.ins C dx ((ns ++ [f]).zip (vs ++ [v]))) M3 ∧ ∀ G'' H'', Same G' G'' → Sep G'' H'' M3 → nx σ H'') : sFld K ta tv f ⟨nx, rt, bk, ct⟩ σ H :=
  hv G H (Same.refl _) S _ fun v G2 H2 M2 s2 S2 hF => by
    obtain ⟨p, M3, M4, he, hch, kk⟩ := k v G2 H2 M2 s2 S2 hF
    refine he G2 H2 (Same.refl _) S2 _ fun x G3 H3 g3 rx => ?_
    refine ⟨a, C, dx, _, rx.of_loc, g3.sep.look hch.at, hc, hn, by rw [List.length_zip]; omega, kk G3 _ g3.same ?_⟩
    rw [putF_zip_new hl hx]
    exact g3.sep.ch hch
end

section
variable [Wo] {K : PySem.W.Frag} {cl : Nat → Addr} {p q r : Bool} {M M1 M2 M3 M4 : ML} {G G1 G2 G3 H H1 H2 H3 : Hp} {σ : St} {ta tb tc te tl : TE} {tx : TA} {tt tu : TT} {d d1 d2 d3 : D} {ds es : List D}
variable {a : Addr} {ep : Nat} {kvs : NKV} {kds : List (NestedKey × D)} {g : TG}
/-- the same, told by what the things stand for -/
theorem ev_lcZ {β : Type} {l : List β} {enc : β → D} {vs : List Nat} {f : β → D} {keep : β → Bool} {J : It} {us : List V} {ok : Hp → Prop} (Y : Yields J us ok) (hok : ∀ e G' H', Same G G' → Sep G' H' (e :: M1) → ok H') (rs : Reps K cl G us (l.map enc)) (hl : l.length ≤ 10000000) (sG : Same G G2) (S2 : Sep G2 H2 M1)
    (hs : ∀ G1 e x b, Same G G1 → b ∈ l → Rep K cl G1 x (enc b) → LcT K cl g tt te vs σ G1 (e :: M1) x (keep b) (f b)) {Q : VK} (k : ∀ v G' H', Go false M1 M1 G2 H2 G' H' → Rep K cl G' v (.lst ((l.filter keep).map f)) → Q v H') :
    ∀ Da, H2 Da = none → ∃ W : Nat → Nat → Hp → Prop, (∃ m, W 0 m (upd H2 Da (.lst []))) ∧ ∀ i m H, W i m H →
      (J.stop i H ∧ Q (.ref Da) H) ∨ (J.go i H ∧ ∃ Nx : Hp → Prop, (∀ H', Nx H' → ∃ m', m' < m ∧ W (i + 1) m' H') ∧ ∀ x H', J.yld i H x H' → g x (wipe σ vs) H' fun σ2 H2 => wipe σ2 vs = wipe σ vs ∧ tt σ2 H2 fun b H3 =>
        if b = true then te σ2 H3 fun y H4 => ∃ acc, H4 Da = some (.lst acc) ∧ acc.length < sizeLine ∧ Nx (upd H4 Da (.lst (acc ++ [y]))) else Nx H3) := fun Da hD => by
  refine lc_y Y (fun i H => ∃ G' acc, Same G2 G' ∧ Sep G' H ((Da, .lst acc) :: M1) ∧ Reps K cl G' acc (((l.take i).filter keep).map f)) ⟨G2, [], Same.refl _, S2.newM hD, Reps.nil⟩ ?_ ?_ ?_
  · rintro i H hi ⟨G', acc, s', S', ra⟩
    exact hok _ G' H (sG.trans s') S'
  · rintro i x H hx ⟨G', acc, s', S', ra⟩
    obtain ⟨d, hdi', rd'⟩ := rs.get hx
    rw [List.getElem?_map] at hdi'
    obtain ⟨b, hdi, rfl⟩ := Option.map_eq_some_iff.mp hdi'
    have rd := rd'
    obtain ⟨σ2, p', q', hw, hg, ht, he⟩ := hs G' (Da, .lst acc) x b (sG.trans s') (List.mem_of_getElem? hdi) (rd.mono (sG.trans s'))
    refine hg H _ S' ⟨hw, ht G' H (Same.refl _) S' _ fun G3 H3 g3 => ?_⟩
    have e1 : l.take (i + 1) = l.take i ++ [b] := by rw [List.take_add_one, hdi]; rfl
    have hal : acc.length ≤ l.length := by
      rw [ra.length, List.length_map]
      exact Nat.le_trans (List.length_filter_le _ _) (by rw [List.length_take]; omega)
    cases hk : keep b with
    | true =>
      rw [if_pos rfl]
      refine he hk G3 H3 g3.same g3.sep _ fun y G4 H4 g4 ry => ?_
      have sA := g3.same.trans g4.same
      refine ⟨acc, g4.sep.look .hd, Nat.lt_of_le_of_lt (Nat.le_trans hal hl) (by decide), G4, acc ++ [y], s'.trans sA, g4.sep.ch .hd, ?_⟩
      rw [e1, List.filter_append, List.map_append]
      refine Reps.append (ra.mono sA) ?_
      rw [List.filter_cons, if_pos hk]
      exact Reps.one ry
    | false =>
      rw [if_neg (by decide)]
      refine ⟨G3, acc, s'.trans g3.same, g3.sep, ?_⟩
      rw [e1, List.filter_append, List.map_append, List.filter_cons, if_neg (by rw [hk]; decide)]
      show Reps K cl G3 acc (_ ++ [])
      rw [List.append_nil]
      exact ra.mono g3.same
  · rintro H ⟨G', acc, s', S', ra⟩
    rw [rs.length, List.length_map, List.take_length] at ra
    obtain ⟨S3, s3⟩ := S'.freeze
    exact k (.ref Da) _ H (Go.of (s'.trans s3) S3) (Rep.lst (.inl (.inl upd_same)) (ra.mono s3))
theorem ev_lcNG {vs : List Nat} {f : NestedKey × D → D} {keep : NestedKey × D → Bool} (h : EvX K cl p tl σ G M (.loc a) M1) (hm : At M1 a (nD a ep kvs)) (hr : NRep K cl G kvs kds) (hl : kds.length ≤ 10000000)
    (hs : ∀ G1 e x b, Same G G1 → b ∈ kds → Rep K cl G1 x (keyD b.1) → LcT K cl g tt te vs σ G1 (e :: M1) x (keep b) (f b)) : EvX K cl false (tLc (iNKeys tl) g tt te vs) σ G M (.lst ((kds.filter keep).map f)) M1 := fun G1 H1 s S Q k =>
  h G1 H1 s S _ fun x G2 H2 g2 rx => ⟨a, ep, kvs, rx.of_loc, g2.sep.look hm, ev_lcZ (enc := fun e : NestedKey × D => keyD e.1) yields_nd (fun e G' H' _ S' => S'.look (.tl hm)) hr.refs hl (s.trans g2.same) g2.sep hs fun v G' H' g' rv => k v G' H' (Go.of (g2.same.trans g'.same) g'.sep) rv⟩
theorem ev_lcG {β : Type} {l : List β} {enc : β → D} {vs : List Nat} {f : β → D} {keep : β → Bool} (h : EvX K cl p tl σ G M d1 M1) (hd : d1 = .lst (l.map enc)) (hl : l.length ≤ 10000000)
    (hs : ∀ G1 e x b, Same G G1 → b ∈ l → Rep K cl G1 x (enc b) → LcT K cl g tt te vs σ G1 (e :: M1) x (keep b) (f b)) : EvX K cl false (tLc (iSeq K tl) g tt te vs) σ G M (.lst ((l.filter keep).map f)) M1 := fun G1 H1 s S Q k =>
  .inl (h G1 H1 s S _ fun x G2 H2 g2 rx => by
    rw [hd] at rx
    obtain ⟨a, us, e, sq, rs⟩ := rx.of_lst
    exact ⟨a, e, ⟨us, g2.sep.sub.seq sq⟩, ev_lcZ (G := G2) (yields_lst (xs := us)) (fun e G' H' s' S' => (s'.trans S'.sub).seq sq) rs hl (Same.refl _) g2.sep (fun G3 e x b s3 => hs G3 e x b ((s.trans g2.same).trans s3)) fun v G' H' g' rv => k v G' H' (Go.of (g2.same.trans g'.same) g'.sep) rv⟩)
theorem reps_ints {G : Hp} : ∀ {us : List V} {ns : List Int}, Reps K cl G us (ns.map D.int) → us = ns.map V.int
  | us, [], h => by simpa only [List.map_nil, Reps] using h
  | us, n :: ns, h => by
    obtain ⟨v, ws, rfl, r1, r2⟩ := Reps.uncons h
    rw [r1.of_int, reps_ints r2]
    rfl
theorem on_sum {ns : List Int} : OpN K cl true (rSum K) M [.lst (ns.map D.int)] (.int ns.sum) M := on_val fun G1 H1 S us ru => by
  obtain ⟨u, rfl, hu⟩ := reps1 ru
  obtain ⟨a, vs, rfl, sq, rs⟩ := hu.of_lst
  refine ⟨_, Rep.int, fun Q q => ⟨a, ns, rfl, ?_, q⟩⟩
  rw [← reps_ints rs]
  exact S.sub.seq sq
/-- a test whose outcome is not told -/
theorem s_ifB {t u : TS} {nx : St → Hp → Prop} {rt : VK} {bk ct : St → Hp → Prop} (S : Sep G H M) (h : EvG te σ G M fun v G' M' => ∃ b, v = .bl b ∧ M' = M1) (h1 : ∀ G' H', Same G G' → Sep G' H' M1 → t ⟨nx, rt, bk, ct⟩ σ H') (h2 : ∀ G' H', Same G G' → Sep G' H' M1 → u ⟨nx, rt, bk, ct⟩ σ H') :
    tIfS (tTr K te) t u ⟨nx, rt, bk, ct⟩ σ H := h G H (Same.refl _) S _ fun v G' H' M' s' S' hb => by
  obtain ⟨b, rfl, rfl⟩ := hb
  refine ⟨b, rfl, ?_⟩
  cases b with
  | true => exact h1 G' H' s' S'
  | false => exact h2 G' H' s' S'
mutual
theorem eqb_key : ∀ a b : NestedKey, D.eqb (keyD a) (keyD b) = NestedKey.beq a b
  | .none, .none => by simp [keyD, D.eqb, NestedKey.beq]
  | .none, .num _ => by simp [keyD, D.eqb, NestedKey.beq]
  | .none, .text _ => by simp [keyD, D.eqb, NestedKey.beq]
  | .none, .tup _ => by simp [keyD, D.eqb, NestedKey.beq]
  | .num _, .none => by simp [keyD, D.eqb, NestedKey.beq]
  | .num a, .num b => by simp only [keyD, D.eqb, NestedKey.beq]; by_cases h : a = b <;> simp [h]
  | .num _, .text _ => by simp [keyD, D.eqb, NestedKey.beq]
  | .num _, .tup _ => by simp [keyD, D.eqb, NestedKey.beq]
  | .text _, .none => by simp [keyD, D.eqb, NestedKey.beq]
  | .text _, .num _ => by simp [keyD, D.eqb, NestedKey.beq]
  | .text a, .text b => by simp only [keyD, D.eqb, NestedKey.beq]; by_cases h : a = b <;> simp [h]
  | .text _, .tup _ => by simp [keyD, D.eqb, NestedKey.beq]
  | .tup _, .none => by simp [keyD, D.eqb, NestedKey.beq]
  | .tup _, .num _ => by simp [keyD, D.eqb, NestedKey.beq]
  | .tup _, .text _ => by simp [keyD, D.eqb, NestedKey.beq]
  | .tup a, .tup b => by simp only [keyD, D.eqb, NestedKey.beq]; exact eqbs_key a b
theorem eqbs_key : ∀ a b : List NestedKey, D.eqbs (keyDs a) (keyDs b) = NestedKey.beqAll a b
  | [], [] => by simp [keyDs, D.eqbs, NestedKey.beqAll]
  | [], _ :: _ => by simp [keyDs, D.eqbs, NestedKey.beqAll]
  | _ :: _, [] => by simp [keyDs, D.eqbs, NestedKey.beqAll]
  | a :: as, b :: bs => by simp only [keyDs, D.eqbs, NestedKey.beqAll]; rw [eqb_key a b, eqbs_key as bs]
end
theorem eqb_keyD (a b : NestedKey) : D.eqb (keyD a) (keyD b) = decide (a = b) := by rw [eqb_key, NestedKey.decide_eq]
end
end Cp
/-! Cp10: displays of dicts with ints and texts as keys; more of association lists. -/
namespace Cp
open PySem L2
section
variable {κ α : Type} [DecidableEq κ]
theorem valG_put {st : List (κ × α)} {k j : κ} {v : α} : valG (putG st k v) j = if k = j then some v else valG st j := by
  unfold putG
  cases h : (valG st k).isSome with
  | true =>
    simp only [if_true]
    induction st with
    | nil => simp [valG] at h
    | cons e st ih =>
      have un : ∀ (f : κ × α) (l : List (κ × α)) (i : κ), valG (f :: l) i = if f.1 = i then some f.2 else valG l i := by
        intro f l i
        unfold valG
        rw [List.find?_cons]
        by_cases q : f.1 = i
        · simp [q]
        · simp [q]
      rw [List.map_cons, un, un]
      by_cases q : e.1 = k
      · simp only [q, if_true]
        by_cases r : k = j
        · simp [r]
        · simp only [r, if_false]
          clear ih h
          induction st with
          | nil => rfl
          | cons f st ih2 =>
            rw [List.map_cons, un, un]
            by_cases q2 : f.1 = k
            · have : ¬ f.1 = j := fun z => r (q2 ▸ z)
              simp only [q2, if_true, r, if_false]
              exact ih2
            · simp only [q2, if_false]
              rw [ih2]
      · have h' : (valG st k).isSome = true := by
          rw [un, if_neg q] at h
          exact h
        have ih' := ih h'
        rw [if_neg q, ih']
        by_cases r : k = j
        · have : ¬ e.1 = j := fun z => q (z.trans r.symm)
          simp [r, this]
        · simp [r]
  | false =>
    simp only [Bool.false_eq_true, if_false]
    have hn : valG st k = none := by simpa using h
    unfold valG at hn ⊢
    rw [List.find?_append]
    by_cases r : k = j
    · subst r
      rw [Option.map_eq_none_iff] at hn
      rw [hn]
      simp
    · simp only [r, if_false]
      cases h2 : List.find? (fun x => decide (x.1 = j)) st with
      | some e => rfl
      | none => simp [r]
def mergeG (kds more : List (κ × α)) : List (κ × α) := more.foldl (fun acc e => putG acc e.1 e.2) kds
end
theorem KRep.merge {K : PySem.W.Frag} {cl : Nat → Addr} {G : Hp} : ∀ {more : List (Key × V)} {mds : List (Key × D)} {kws : List (Key × V)} {kes : List (Key × D)}, KRep K cl G more mds → KRep K cl G kws kes → KRep K cl G (mergeK kws more) (mergeG kes mds)
  | _, _, _, _, .nil, r => r
  | p :: more, q :: mds, kws, kes, .cons h t, r => by
    show KRep K cl G (mergeK (putK kws p.1 p.2) more) (mergeG (putG kes q.1 q.2) mds)
    rw [h.1]
    exact KRep.merge t (r.put h.2)
section
variable [Wo] {K : PySem.W.Frag} {cl : Nat → Addr} {p q r : Bool} {M M1 M2 M3 M4 : ML} {G G1 G2 G3 H H1 H2 H3 : Hp} {σ : St} {ta tb tc te tk tv : TE} {d d1 d2 d3 : D}
/-- the pairs of a display -/
def EvP (K : PySem.W.Frag) (cl : Nat → Addr) (trs : List (TE × TE)) (σ : St) (G : Hp) (M : ML) (kds : List (Key × D)) (M1 : ML) : Prop :=
  ∀ G1 H1, Same G G1 → Sep G1 H1 M → ∀ Q : List (V × V) → Hp → Prop, (∀ kvs G2 H2, Same G1 G2 → Sep G2 H2 M1 → KRep K cl G2 kvs kds → Q (kvs.map fun kv => (kV kv.1, kv.2)) H2) → tPairs trs σ H1 Q
theorem ep_nil : EvP K cl [] σ G M [] M := fun G1 H1 s S Q k => k [] G1 H1 (Same.refl _) S .nil
theorem ep_cons {trs : List (TE × TE)} {k : Key} {kds : List (Key × D)} (h1 : EvX K cl p tk σ G M d1 M1) (hk : d1 = kD k) (h2 : EvX K cl q tv σ G M1 d2 M2) (h3 : EvP K cl trs σ G M2 kds M3) : EvP K cl ((tk, tv) :: trs) σ G M ((k, d2) :: kds) M3 := fun G1 H1 s S Q kk =>
  h1 G1 H1 s S _ fun x G2 H2 g2 rx => h2 G2 H2 (s.trans g2.same) g2.sep _ fun y G3 H3 g3 ry => h3 G3 H3 ((s.trans g2.same).trans g3.same) g3.sep _ fun kvs G4 H4 s4 S4 r4 => by
    rw [hk] at rx
    have e := rep_kD rx
    subst e
    exact kk ((k, y) :: kvs) G4 H4 ((g2.same.trans g3.same).trans s4) S4 (.cons ⟨rfl, ry.mono s4⟩ r4)
/-- {k: v, ..} -/
theorem eg_disp {trs : List (TE × TE)} {kds : List (Key × D)} {F : V → Hp → ML → Prop} (h : ∀ u, EvP K cl trs σ G ((u, .dK []) :: M) kds ((u, .dK []) :: M1)) (hl : kds.length ≤ 15)
    (hF : ∀ u kws G', Same G G' → KRep K cl G' kws (mergeG [] kds) → F (.ref u) G' ((u, .dK kws) :: M1)) : EvG (tDisp trs) σ G M F := fun G1 H1 s S Q k => fun u hu =>
  h u G1 _ s (S.newM hu) _ fun kvs G2 H2 s2 S2 r2 => ⟨S2.look .hd, kvs, rfl, by rw [r2.length]; exact hl, k (.ref u) G2 _ _ s2 (S2.ch .hd) (hF u _ G2 (s.trans s2) (KRep.merge r2 .nil))⟩
end
end Cp
/-! Cp11: what is laid on the way: operations, tests, loops and unpackings over things told by a postcondition (EvG). -/
namespace Cp
open PySem L2
section
variable {K : PySem.W.Frag} {cl : Nat → Addr} {p q r : Bool} {M M1 M2 M3 M4 : ML} {G G1 G2 G3 H H1 H2 H3 : Hp} {σ : St} {ta tb tc te tl : TE} {tx : TA} {tt tu : TT} {d d1 d2 d3 : D} {ds es : List D}
variable {nx : St → Hp → Prop} {rt : VK} {bk ct : St → Hp → Prop} {g : TG} {tbd : TS}
abbrev FG := V → Hp → ML → Prop
/-- int(b), b a truth value that is not told -/
theorem eg_intB (h : EvG te σ G M fun v G' M' => ∃ b, v = .bl b ∧ M' = M1) : EvG (tCB rInt1 (tCons te tNil)) σ G M fun v G' M' => ∃ b : Bool, v = .int (if b then 1 else 0) ∧ M' = M1 := fun G1 H1 s S Q k =>
  h G1 H1 s S _ fun v G' H' M' s' S' hb => by
    obtain ⟨b, rfl, rfl⟩ := hb
    exact .inr ⟨b, rfl, k _ G' H' _ s' S' ⟨b, rfl, rfl⟩⟩
/-- a pure def of one argument, the argument laid on the way -/
theorem eg_pcall {R : List D → D → Prop} {E : XK} {F F2 : FG} (h : EvG te σ G M F) (hR : ∀ v G' M', Same G G' → F v G' M' → ∃ d d', Rep K cl G' v d ∧ R [d] d' ∧ ∀ w G'', Same G' G'' → Rep K cl G'' w d' → F2 w G'' M') : EvG (tCall (PSp K cl R) [] E (tCons te tNil)) σ G M F2 := fun G1 H1 s S Q k =>
  h G1 H1 s S _ fun v G2 H2 M2 s2 S2 hF => by
    obtain ⟨d, d', rv, hd, hk⟩ := hR v G2 M2 (s.trans s2) hF
    refine ⟨[d], d', G2, M2, hd, S2, by rw [List.append_nil]; exact Reps.one rv, fun w G' H' s' S' rw' => k w G' H' M2 (s2.trans s') S' (hk w G' s' rw')⟩
/-- a op b, a laid on the way -/
theorem eg_op {rr : R2} {F1 F : FG} (h1 : EvG ta σ G M F1) (h2 : ∀ v G1 M1, Same G G1 → F1 v G1 M1 → ∃ d1 d2 d p q M2, Rep K cl G1 v d1 ∧ EvX K cl p tb σ G1 M1 d2 M2 ∧ Op2 K cl q rr M2 d1 d2 d ∧ ∀ w G2, Same G1 G2 → Rep K cl G2 w d → F w G2 M2) : EvG (tOp rr ta tb) σ G M F := fun G1 H1 s S Q k =>
  h1 G1 H1 s S _ fun v G2 H2 M2 s2 S2 hF => by
    obtain ⟨d1, d2, d, p, q, M3, rv, he, ho, hk⟩ := h2 v G2 M2 (s.trans s2) hF
    exact he G2 H2 (Same.refl _) S2 _ fun y G3 H3 g3 ry => ho G3 H3 g3.sep v y (rv.mono g3.same) ry _ fun w G4 H4 g4 rw' => k w G4 H4 M3 ((s2.trans g3.same).trans g4.same) g4.sep (hk w G4 (g3.same.trans g4.same) rw')
/-- tests told by a postcondition -/
def EvU (tt : TT) (σ : St) (G : Hp) (M : ML) (F : Bool → Hp → ML → Prop) : Prop :=
  ∀ G1 H1, Same G G1 → Sep G1 H1 M → ∀ Q : Bool → Hp → Prop, (∀ b G2 H2 M2, Same G1 G2 → Sep G2 H2 M2 → F b G2 M2 → Q b H2) → tt σ H1 Q
theorem eu_of {b : Bool} {F : Bool → Hp → ML → Prop} (h : EvT K cl p tt σ G M b M1) (hF : ∀ G', Same G G' → F b G' M1) : EvU tt σ G M F := fun G1 H1 s S Q k => h G1 H1 s S _ fun G2 H2 g2 => k b G2 H2 M1 g2.same g2.sep (hF G2 (s.trans g2.same))
theorem eu_test {F : Bool → Hp → ML → Prop} (h : EvG te σ G M fun v G' M' => ∃ b, v = .bl b ∧ F b G' M') : EvU (tTest te) σ G M F := fun G1 H1 s S Q k => h G1 H1 s S _ fun v G2 H2 M2 s2 S2 hb => by
  obtain ⟨b, rfl, hb⟩ := hb
  exact ⟨b, rfl, k b G2 H2 M2 s2 S2 hb⟩
theorem eu_or {F1 F : Bool → Hp → ML → Prop} (h1 : EvU tt σ G M F1) (ht : ∀ G' M', Same G G' → F1 true G' M' → F true G' M') (hf : ∀ G' M', Same G G' → F1 false G' M' → EvU tu σ G' M' F) : EvU (tOr tt tu) σ G M F := fun G1 H1 s S Q k => h1 G1 H1 s S _ fun b G2 H2 M2 s2 S2 hb => by
  cases b with
  | true => exact k true G2 H2 M2 s2 S2 (ht G2 M2 (s.trans s2) hb)
  | false =>
    show tu σ H2 Q
    exact hf G2 M2 (s.trans s2) hb G2 H2 (Same.refl _) S2 Q fun b G3 H3 M3 s3 S3 hb3 => k b G3 H3 M3 (s2.trans s3) S3 hb3
theorem s_ifU {t u : TS} {F : Bool → Hp → ML → Prop} (S : Sep G H M) (h : EvU tt σ G M F) (h1 : ∀ G' H' M', Same G G' → Sep G' H' M' → F true G' M' → t ⟨nx, rt, bk, ct⟩ σ H') (h2 : ∀ G' H' M', Same G G' → Sep G' H' M' → F false G' M' → u ⟨nx, rt, bk, ct⟩ σ H') : tIfS tt t u ⟨nx, rt, bk, ct⟩ σ H :=
  h G H (Same.refl _) S _ fun b G2 H2 M2 s2 S2 hb => by
    cases b with
    | true => exact h1 G2 H2 M2 s2 S2 hb
    | false => exact h2 G2 H2 M2 s2 S2 hb
/-- a, b, .. = e, e laid on the way -/
theorem s_asgTG {F : FG} {is : List Nat} {n : Nat} (S : Sep G H M) (h : EvG te σ G M F) (k : ∀ v G1 H1 M1, Same G G1 → Sep G1 H1 M1 → F v G1 M1 → ∃ ds, Rep K cl G1 v (.tup ds) ∧ ds.length = n ∧ is.length = n ∧ ∀ vs, Reps K cl G1 vs ds → nx (setAll σ is vs) H1) : tAsg te (gTup K n (gNames is)) ⟨nx, rt, bk, ct⟩ σ H :=
  h G H (Same.refl _) S _ fun v G1 H1 M1 s1 S1 hF => by
    obtain ⟨ds, rv, hn, hi, kk⟩ := k v G1 H1 M1 s1 S1 hF
    exact g_tup S1 rv hn hi kk
/-- for x in e, e a list that is laid on the way -/
theorem s_forE {F : FG} (S : Sep G H M) (h : EvG tl σ G M F)
    (k : ∀ v G1 H1 M1, Same G G1 → Sep G1 H1 M1 → F v G1 M1 → ∃ (ds : List D) (J : Nat → St → Hp → ML → Prop), Rep K cl G1 v (.lst ds) ∧ J 0 σ G1 M1 ∧
      (∀ i x d σ' G' H' M', ds[i]? = some d → Same G1 G' → Sep G' H' M' → Rep K cl G' x d → J i σ' G' M' → g x σ' H' fun σ2 H2 => tbd ⟨Nx G1 J (i + 1), rt, nx, Nx G1 J (i + 1)⟩ σ2 H2) ∧
      (∀ σ' G' H' M', Same G1 G' → Sep G' H' M' → J ds.length σ' G' M' → nx σ' H')) : tFor (iSeq K tl) g tbd ⟨nx, rt, bk, ct⟩ σ H :=
  .inl (h G H (Same.refl _) S _ fun v G1 H1 M1 s1 S1 hF => by
    obtain ⟨ds, J, rv, h0, hs, hd⟩ := k v G1 H1 M1 s1 S1 hF
    obtain ⟨a, vs, e, sq, rs⟩ := rv.of_lst
    refine ⟨a, e, ⟨vs, S1.sub.seq sq⟩, for_list (xs := vs) (Nx G1 J) ⟨G1, M1, Same.refl _, S1, h0⟩ ?_ ?_ ?_⟩
    · rintro i σ' H' hi ⟨G', M', s', S', j⟩
      exact (s'.trans S'.sub).seq sq
    · rintro i y σ' H' hy ⟨G', M', s', S', j⟩
      obtain ⟨d, hd', rd⟩ := rs.get hy
      exact hs i y d σ' G' H' M' hd' s' S' (rd.mono s') j
    · rintro σ' H' ⟨G', M', s', S', j⟩
      rw [rs.length] at j
      exact hd σ' G' H' M' s' S' j)
end
end Cp
namespace L89
open PySem L2 Cp
/-! the words of the walk (local, by strings) -/
local macro_rules | `(tactic| walk_at "at") => `(tactic| first | exact At.hd | ((with_reducible apply At.tl); walk_at "at"))
local macro_rules | `(tactic| walk_at "ch") => `(tactic| first | exact Ch.hd | ((with_reducible apply Ch.tl); walk_at "ch"))
local macro_rules | `(tactic| walk_at "same") => `(tactic| first | assumption | exact Same.refl _ | ((with_reducible apply same_tr); assumption; walk_at "same"))
local macro_rules | `(tactic| walk_at "repc") => `(tactic| first | assumption | ((with_reducible apply Rep.mono); assumption; walk_at "repc"))
local macro_rules | `(tactic| walk_at "repsc") => `(tactic| first | assumption | ((with_reducible apply Reps.mono); assumption; walk_at "repsc"))
local macro_rules | `(tactic| walk_at "rep") => `(tactic| first | exact Rep.int | exact Rep.str | exact Rep.bl | exact Rep.non | walk_at "repc" | exact Rep.loc)
local macro_rules | `(tactic| walk_at "num") => `(tactic| first | omega | assumption | decide)
local macro_rules | `(tactic| walk_at "mul") => `(tactic| first | exact .inr ⟨by omega, by omega⟩ | exact .inl ⟨by omega, by omega⟩)
local macro_rules | `(tactic| walk_at "slen") => `(tactic| first | omega | assumption | decide)
local macro_rules | `(tactic| walk_at "op2") => `(tactic| first
  | with_reducible exact o_add_int | with_reducible exact o_sub | with_reducible exact o_lt | with_reducible exact o_le | with_reducible exact o_gt | with_reducible exact o_ge | with_reducible exact o_isN | with_reducible exact o_notN
  | ((with_reducible apply o_mul); walk_at "mul") | ((with_reducible apply o_div); exact ⟨by walk_at "num", by walk_at "num"⟩) | ((with_reducible apply o_mod); walk_at "num")
  | ((with_reducible apply o_eq); exact rfl) | ((with_reducible apply o_ne); exact rfl)
  | ((with_reducible apply o_add_str); walk_at "slen") | ((with_reducible apply o_ixT); walk_at "ix") | ((with_reducible apply o_ixL); walk_at "ix"))
local macro_rules | `(tactic| walk_at "opN") => `(tactic| first
  | with_reducible exact on_int | with_reducible exact on_intB | ((with_reducible apply on_str); first | (exact num_log (by omega) (by omega)) | walk_at "num") | with_reducible exact on_min | with_reducible exact on_max | ((with_reducible apply on_lenS); walk_at "num") | with_reducible exact on_lenL | with_reducible exact on_lenT
  | ((with_reducible apply on_lenM); walk_at "at") | with_reducible exact on_tupL | with_reducible exact on_tupT)
local macro_rules | `(tactic| walk_at "cf") => `(tactic| assumption)
local macro_rules | `(tactic| walk_at "evcall") => `(tactic| fail)
local macro_rules | `(tactic| walk_at "ev") => `(tactic| first
  | with_reducible exact ev_int | with_reducible exact ev_str | with_reducible exact ev_bl | with_reducible exact ev_non
  | ((with_reducible apply ev_var); exact rfl; walk_at "rep")
  | ((with_reducible apply ev_op); walk_at "ev"; walk_at "ev"; walk_at "op2")
  | ((with_reducible apply ev_fld); walk_at "ev"; walk_at "cf"; walk_at "cf"; exact rfl)
  | ((with_reducible apply ev_fldM); walk_at "ev"; walk_at "at"; walk_at "cf"; walk_at "cf"; exact rfl; walk_at "rep")
  | ((with_reducible apply ev_ixM); walk_at "ev"; walk_at "ev"; walk_at "at"; exact rfl; walk_at "rep")
  | ((with_reducible apply ev_ixMD); walk_at "ev"; walk_at "ev"; walk_at "at"; walk_at "repsc"; first | assumption | exact rfl)
  | walk_at "evcall"
  | ((with_reducible apply ev_tupM); walk_at "ev"; walk_at "at"; walk_at "repsc")
  | ((with_reducible apply ev_cb); walk_at "ea"; walk_at "opN")
  | ((with_reducible apply ev_un); walk_at "ev"; exact o1_neg)
  | ((with_reducible apply ev_tup); walk_at "ea"; exact Nat.le_of_ble_eq_true rfl)
  | ((with_reducible apply ev_andV); walk_at "ev"; intro _; walk_at "ev")
  | ((with_reducible apply ev_orV); walk_at "ev"; intro _; walk_at "ev")
  | ((with_reducible apply ev_notV); walk_at "ev")
  | ((with_reducible apply ev_starts); walk_at "ev"; walk_at "ev")
  | ((with_reducible apply ev_slS); walk_at "ev"; walk_at "eo"; walk_at "eo"; walk_at "num")
  | ((with_reducible apply ev_slL); walk_at "ev"; walk_at "eo"; walk_at "eo"))
local macro_rules | `(tactic| walk_at "eo") => `(tactic| first | with_reducible exact eo_none | ((with_reducible apply eo_some); walk_at "ev"))
local macro_rules | `(tactic| walk_at "ea") => `(tactic| first | with_reducible exact ea_nil | ((with_reducible apply ea_cons); walk_at "ev"; walk_at "ea"))
local macro_rules | `(tactic| walk_at "et") => `(tactic| first
  | with_reducible exact et_yes
  | ((with_reducible apply et_tr); walk_at "ev"; exact rfl) | ((with_reducible apply et_trM); walk_at "ev"; walk_at "at")
  | ((with_reducible apply et_test); walk_at "ev") | ((with_reducible apply et_B); walk_at "ev") | ((with_reducible apply et_not); walk_at "et")
  | ((with_reducible apply et_and); walk_at "et"; intro _; walk_at "et")
  | ((with_reducible apply et_or); walk_at "et"; intro _; walk_at "et"))
section
variable [Wo]
/-! ### the cells of the script, a state of one number, its digits -/
abbrev sp_law_cell (K : PySem.W.Frag) (cl : Nat → Addr) : Sp := PSp K cl fun ds d => ∃ (ns : List Int) (k : Int), ds = [.lst (ns.map D.int), .int k] ∧ 0 ≤ k ∧ d = .int (ns.getD k.toNat 0)
abbrev sp_law_state (K : PySem.W.Frag) (cl : Nat → Addr) : Sp := GSp fun vs G M T => ∃ c k, vs = [.int c, .int k] ∧ ∀ p s G', Same G G' → T (.ref p) G' ((p, .lst [.int s]) :: M)
abbrev sp_law_digit (K : PySem.W.Frag) (cl : Nat → Addr) : Sp := GSp fun vs G M T => ∃ a s m M0, vs = [.ref a, .int m] ∧ M = (a, .lst [.int s]) :: M0 ∧ 0 < m ∧ m < 1000000 ∧ ∀ G', Same G G' → T (.int (s % m)) G' ((a, .lst [.int (s / m)]) :: M0)
abbrev sp_law_large (K : PySem.W.Frag) (cl : Nat → Addr) : Sp := GSp fun vs G M T => ∃ v ns, vs = [v] ∧ Rep K cl G v (.lst (List.map D.int ns)) ∧ ∀ b G', Same G G' → T (.bl b) G' M
section
variable {K : PySem.W.Frag} {cl : Nat → Addr} {p q : Bool} {M M1 M2 : ML} {G : Hp} {σ : St} {tx : TA} {te : TE}
theorem ev_digit {E : XK} {a : Addr} {s m : Int} (ha : EvA K cl p tx σ G M [.loc a, .int m] M1) (hc : Ch M1 a (.lst [.int s]) (.lst [.int (s / m)]) M2) (h0 : 0 < m) (h1 : m < 1000000) : EvX K cl false (tCall (sp_law_digit K cl) [] E tx) σ G M (.int (s % m)) M2 := fun G1 H1 s1 S Q k =>
  ha G1 H1 s1 S _ fun xs G2 H2 g2 rx => by
    obtain ⟨u, v, rfl, hu, hv⟩ := reps2 rx
    obtain ⟨M0, p1, p2⟩ := hc.perm
    refine ⟨G2, (a, .lst [.int s]) :: M0, g2.sep.perm p1, a, s, m, M0, by rw [hu.of_loc, hv.of_int]; rfl, rfl, h0, h1, fun G' s' _ H' S' => ?_⟩
    exact k _ G' H' (Go.of (g2.same.trans s') (S'.perm p2.symm)) Rep.int
theorem eg_state {E : XK} {c k : Int} (ha : EvA K cl p tx σ G M [.int c, .int k] M1) : EvG (tCall (sp_law_state K cl) [] E tx) σ G M fun v G' M' => ∃ p s, v = .ref p ∧ M' = (p, .lst [.int s]) :: M1 := fun G1 H1 s1 S Q kk =>
  ha G1 H1 s1 S _ fun xs G2 H2 g2 rx => by
    obtain ⟨u, v, rfl, hu, hv⟩ := reps2 rx
    exact ⟨G2, M1, g2.sep, c, k, by rw [hu.of_int, hv.of_int]; rfl, fun p s G' s' _ H' S' => kk (.ref p) G' H' _ (g2.same.trans s') S' ⟨p, s, rfl, rfl⟩⟩
theorem eg_large {E : XK} {ns : List Int} (ha : EvA K cl p tx σ G M [.lst (ns.map D.int)] M1) : EvG (tCall (sp_law_large K cl) [] E tx) σ G M fun v G' M' => ∃ b, v = .bl b ∧ M' = M1 := fun G1 H1 s1 S Q kk =>
  ha G1 H1 s1 S _ fun xs G2 H2 g2 rx => by
    obtain ⟨u, rfl, hu⟩ := reps1 rx
    exact ⟨G2, M1, g2.sep, u, ns, rfl, hu, fun b G' s' _ H' S' => kk (.bl b) G' H' _ (g2.same.trans s') S' ⟨b, rfl, rfl⟩⟩
end
local macro_rules | `(tactic| walk_at "evcall") => `(tactic| ((with_reducible apply ev_digit); walk_at "ea"; walk_at "ch"; walk_at "num"; walk_at "num"))
local macro_rules | `(tactic| walk_at "R cell") => `(tactic| exact ⟨_, _, rfl, by walk_at "num", rfl⟩)
local macro_rules | `(tactic| walk_at "evcall") => `(tactic| ((with_reducible apply ev_call (R := fun ds d => ∃ (ns : List Int) (k : Int), ds = [.lst (ns.map D.int), .int k] ∧ 0 ≤ k ∧ d = .int (ns.getD k.toNat 0))); walk_at "ea"; walk_at "R cell"))
/-! ### postings, what stands -/
structure Posting where
  account : Str
  key : NestedKey
  amount : Int
  written : Int
abbrev pns : List Str := ["account", "key", "amount", "written"]
@[reducible] def Posting.d (x : Posting) : D := .ins 0 pns [.str x.account, keyD x.key, .int x.amount, .int x.written]
@[reducible] def Posting.row (x : Posting) : D := .tup [.str x.account, keyD x.key, .int x.amount, .int x.written]
abbrev Sd := List (NestedKey × (Str × Int))
@[reducible] def pairD (x : Str × Int) : D := .tup [.str x.1, .int x.2]
def sdD (st : Sd) : List (NestedKey × D) := st.map fun e => (e.1, pairD e.2)
def nkey (j : Int) : NestedKey := .tup [.tup [.num (j % 2), .num 1, .num j], .num (10 * (j % 3)), .text (if j % 2 = 0 then "setup" else "band0")]
theorem isNK_nkey {j : Int} : IsNK (nkey j) := ⟨⟨_, rfl⟩, by show (2 : Nat) ≤ 8; decide⟩
def IsKey (k : NestedKey) : Prop := ∃ j : Int, 0 ≤ j ∧ j < 60 ∧ k = nkey j
theorem IsKey.nk {k : NestedKey} (h : IsKey k) : IsNK k := by
  obtain ⟨j, _, _, rfl⟩ := h
  exact isNK_nkey

/-! association lists -/
theorem valG_map {κ α β : Type} [DecidableEq κ] (f : α → β) (k : κ) : ∀ (st : List (κ × α)), valG (st.map fun e => (e.1, f e.2)) k = (valG st k).map f
  | [] => rfl
  | e :: st => by
    unfold valG
    rw [List.map_cons, List.find?_cons, List.find?_cons]
    by_cases h : e.1 = k
    · simp [h]
    · simp only [h, decide_false]
      exact valG_map f k st
theorem putG_map {κ α β : Type} [DecidableEq κ] (f : α → β) (k : κ) (d : α) (st : List (κ × α)) : putG (st.map fun e => (e.1, f e.2)) k (f d) = (putG st k d).map fun e => (e.1, f e.2) := by
  unfold putG
  rw [valG_map, Option.isSome_map]
  split
  · rw [List.map_map, List.map_map]
    refine List.map_congr_left fun e _ => ?_
    show (if e.1 = k then (e.1, f d) else (e.1, f e.2)) = ((if e.1 = k then (e.1, d) else e).1, f (if e.1 = k then (e.1, d) else e).2)
    split <;> rfl
  · rw [List.map_append]; rfl
theorem dropG_map {κ α β : Type} [DecidableEq κ] (f : α → β) (k : κ) (st : List (κ × α)) : dropG (st.map fun e => (e.1, f e.2)) k = (dropG st k).map fun e => (e.1, f e.2) := by
  unfold dropG
  rw [List.filter_map]
  rfl
section
variable {κ α : Type} [DecidableEq κ] {st st2 : List (κ × α)} {k : κ} {v : α}
theorem valG_none : ∀ {st : List (κ × α)}, valG st k = none ↔ ∀ e ∈ st, e.1 ≠ k := by
  intro st
  unfold valG
  rw [Option.map_eq_none_iff, List.find?_eq_none]
  simp
theorem valG_mem (nd : (st.map (·.1)).Nodup) : valG st k = some v ↔ (k, v) ∈ st := by
  induction st with
  | nil => simp [valG]
  | cons e st ih =>
    rw [List.map_cons, List.nodup_cons] at nd
    unfold valG
    rw [List.find?_cons, List.mem_cons]
    by_cases h : e.1 = k
    · simp only [h, decide_true]
      constructor
      · intro q
        have : e.2 = v := Option.some.inj q
        exact .inl (by rw [← h, ← this])
      · rintro (q | q)
        · rw [← q]; rfl
        · exact absurd (List.mem_map.mpr ⟨_, q, rfl⟩) (h ▸ nd.1)
    · simp only [h, decide_false]
      rw [show (Option.map (·.2) (List.find? (fun x => decide (x.1 = k)) st) = some v) ↔ (k, v) ∈ st from ih nd.2]
      constructor
      · exact .inr
      · rintro (q | q)
        · exact absurd (by rw [← q]) h
        · exact q
theorem valG_perm (nd : (st.map (·.1)).Nodup) (p : st.Perm st2) : valG st k = valG st2 k := by
  have nd2 : (st2.map (·.1)).Nodup := (p.map (·.1)).nodup_iff.mp nd
  cases h : valG st k with
  | some v => exact ((valG_mem nd2).mpr (p.mem_iff.mp ((valG_mem nd).mp h))).symm
  | none =>
    symm
    rw [valG_none] at h ⊢
    exact fun e he => h e (p.mem_iff.mpr he)
theorem dropG_none (h : valG st k = none) : dropG st k = st := by
  rw [valG_none] at h
  unfold dropG
  rw [List.filter_eq_self]
  intro e he
  simpa using h e he
theorem perm_some (nd : (st.map (·.1)).Nodup) (h : valG st k = some v) : st.Perm ((k, v) :: dropG st k) := by
  induction st with
  | nil => simp [valG] at h
  | cons e st ih =>
    rw [List.map_cons, List.nodup_cons] at nd
    unfold valG at h
    rw [List.find?_cons] at h
    by_cases q : e.1 = k
    · simp only [q, decide_true] at h
      have hv : e.2 = v := Option.some.inj h
      have hn : valG st k = none := by
        rw [valG_none]
        intro f hf z
        exact nd.1 (List.mem_map.mpr ⟨f, hf, by rw [z, q]⟩)
      have : dropG (e :: st) k = st := by
        unfold dropG
        rw [List.filter_cons, if_neg (by simp [q])]
        exact dropG_none hn
      rw [this, ← hv, ← q]
    · simp only [q, decide_false] at h
      have : dropG (e :: st) k = e :: dropG st k := by
        unfold dropG
        rw [List.filter_cons, if_pos (by simp [q])]
      rw [this]
      exact ((ih nd.2 h).cons e).trans (List.Perm.swap _ _ _)
theorem putG_perm (nd : (st.map (·.1)).Nodup) : (putG st k v).Perm (dropG st k ++ [(k, v)]) := by
  cases h : valG st k with
  | none =>
    unfold putG
    rw [h, dropG_none h]
    exact List.Perm.refl _
  | some u =>
    unfold putG
    rw [h]
    simp only [Option.isSome_some, if_true]
    induction st with
    | nil => simp [valG] at h
    | cons e st ih =>
      rw [List.map_cons, List.nodup_cons] at nd
      unfold valG at h
      rw [List.find?_cons] at h
      by_cases q : e.1 = k
      · have hn : valG st k = none := by
          rw [valG_none]
          intro f hf z
          exact nd.1 (List.mem_map.mpr ⟨f, hf, by rw [z, q]⟩)
        have e1 : dropG (e :: st) k = st := by
          unfold dropG
          rw [List.filter_cons, if_neg (by simp [q])]
          exact dropG_none hn
        have e2 : st.map (fun x => if x.1 = k then (x.1, v) else x) = st := by
          rw [valG_none] at hn
          conv => rhs; rw [← List.map_id st]
          exact List.map_congr_left fun f hf => if_neg (hn f hf)
        rw [e1, List.map_cons, e2, if_pos q, q]
        exact (List.perm_append_singleton _ _).symm
      · simp only [q, decide_false] at h
        have e1 : dropG (e :: st) k = e :: dropG st k := by
          unfold dropG
          rw [List.filter_cons, if_pos (by simp [q])]
        rw [e1, List.map_cons, if_neg q]
        exact (ih nd.2 h).cons e
theorem dropG_nodup (nd : (st.map (·.1)).Nodup) : ((dropG st k).map (·.1)).Nodup := nd.sublist (List.filter_sublist.map _)
end

/-! what a posting does -/
def changeF (st : Sd) (k : NestedKey) (acc : Str) (amt : Int) : Int := match valG st k with
  | some v => if v.1 = acc then amt - v.2 else amt
  | none => amt
def backF (st : Sd) (k : NestedKey) (acc : Str) (clk : Int) : List Posting := match valG st k with
  | some v => if v.1 = acc then [] else [⟨v.1, k, -v.2, clk⟩]
  | none => []
def foundF (st : Sd) (k : NestedKey) (acc : Str) (amt clk : Int) : List Posting := backF st k acc clk ++ if changeF st k acc amt = 0 then [] else [⟨acc, k, changeF st k acc amt, clk⟩]
def standF (st : Sd) (k : NestedKey) (acc : Str) (amt : Int) : Sd := if amt = 0 then dropG st k else putG st k (acc, amt)
def sumP (A : Str) (l : List Posting) : Int := (l.map fun p => if p.account = A then p.amount else 0).sum
def sumS (A : Str) (st : Sd) : Int := (st.map fun e => if e.2.1 = A then e.2.2 else 0).sum
theorem sum_perm {l l2 : List Int} (p : l.Perm l2) : l.sum = l2.sum := by
  induction p with
  | nil => rfl
  | cons x _ ih => rw [List.sum_cons, List.sum_cons, ih]
  | swap x y l => simp only [List.sum_cons]; omega
  | trans _ _ h1 h2 => rw [h1, h2]
theorem sumS_perm {A : Str} {st st2 : Sd} (p : st.Perm st2) : sumS A st = sumS A st2 := sum_perm (p.map _)
theorem sumS_app {A : Str} {a b : Sd} : sumS A (a ++ b) = sumS A a + sumS A b := by unfold sumS; rw [List.map_append, List.sum_append]
theorem sumP_app {A : Str} {a b : List Posting} : sumP A (a ++ b) = sumP A a + sumP A b := by unfold sumP; rw [List.map_append, List.sum_append]
theorem standF_perm {st : Sd} {k : NestedKey} {acc : Str} {amt : Int} (nd : (st.map (·.1)).Nodup) : (standF st k acc amt).Perm (dropG st k ++ if amt = 0 then [] else [(k, (acc, amt))]) := by
  unfold standF
  split
  · rw [List.append_nil]
  · exact putG_perm nd
theorem sumP_if {A acc : Str} {k : NestedKey} {c clk : Int} : sumP A (if c = 0 then [] else [⟨acc, k, c, clk⟩]) = if acc = A then c else 0 := by
  by_cases h : c = 0
  · subst h; by_cases r : acc = A <;> simp [sumP, r]
  · by_cases r : acc = A <;> simp [sumP, r, h]
theorem sumS_if {A acc : Str} {k : NestedKey} {c : Int} : sumS A (if c = 0 then [] else [(k, (acc, c))]) = if acc = A then c else 0 := by
  by_cases h : c = 0
  · subst h; by_cases r : acc = A <;> simp [sumS, r]
  · by_cases r : acc = A <;> simp [sumS, r, h]
theorem found_sum {st : Sd} {k : NestedKey} {acc : Str} {amt clk : Int} (nd : (st.map (·.1)).Nodup) (A : Str) : sumS A st + sumP A (foundF st k acc amt clk) = sumS A (standF st k acc amt) := by
  rw [sumS_perm (standF_perm nd), sumS_app, sumS_if]
  unfold foundF
  rw [sumP_app, sumP_if]
  cases h : valG st k with
  | none =>
    rw [dropG_none h]
    unfold changeF backF
    rw [h]
    simp [sumP]
  | some v =>
    obtain ⟨a, m⟩ := v
    rw [sumS_perm (perm_some nd h)]
    unfold changeF backF
    rw [h]
    have hc : sumS A ((k, (a, m)) :: dropG st k) = (if a = A then m else 0) + sumS A (dropG st k) := by simp [sumS]
    rw [hc]
    by_cases q : a = acc
    · subst q
      by_cases r : a = A
      · simp [sumP, r]; omega
      · simp [sumP, r]
    · by_cases r : a = A
      · by_cases r2 : acc = A
        · exact absurd (r.trans r2.symm) q
        · have : ¬ A = acc := fun z => r2 z.symm
          simp [sumP, r, r2, q, this]; omega
      · by_cases r2 : acc = A
        · have : ¬ a = A := r
          simp [sumP, r, r2, q]
        · simp [sumP, r, r2, q]
theorem sum_filterP {A : Str} : ∀ {l : List Posting}, ((l.filter fun p => decide (p.account = A)).map fun p => p.amount).sum = sumP A l
  | [] => rfl
  | p :: l => by
    rw [List.filter_cons]
    have ih := sum_filterP (A := A) (l := l)
    unfold sumP at ih ⊢
    by_cases h : p.account = A
    · simp [h] at ih ⊢
      exact ih
    · simp [h] at ih ⊢
      exact ih
theorem sum_filterS {A : Str} : ∀ {l : Sd}, ((l.filter fun e => decide (e.2.1 = A)).map fun e => e.2.2).sum = sumS A l
  | [] => rfl
  | p :: l => by
    rw [List.filter_cons]
    have ih := sum_filterS (A := A) (l := l)
    unfold sumS at ih ⊢
    by_cases h : p.2.1 = A
    · simp [h] at ih ⊢
      exact ih
    · simp [h] at ih ⊢
      exact ih

/-! the order of keys -/
theorem nkey_dat {j : Int} : (keyD (nkey j)).isDat = true := by
  unfold nkey
  split <;> simp only [keyD, keyDs, D.isDat, D.areDat, Bool.and_true, Bool.true_and] <;> decide +kernel
theorem nkey_dep {j : Int} : (keyD (nkey j)).dep ≤ 2 := by
  show (2 : Nat) ≤ 2
  exact Nat.le_refl _
theorem nkey_pyd {j : Int} : (keyD (nkey j)).pyd = .tuple [.tuple ([j % 2, 1, j].map .int), .int (10 * (j % 3)), .str (if j % 2 = 0 then "setup" else "band0")] := rfl
theorem nkey_alike {i j : Int} : PySem.W.alike (keyD (nkey i)).pyd (keyD (nkey j)).pyd = true := by
  rw [nkey_pyd, nkey_pyd]
  simp [PySem.W.alike, PySem.W.alikeAll]
theorem nkey_depth {j : Int} : (keyD (nkey j)).pyd.depth ≤ 16 := by
  rw [dep_pyd]
  exact Nat.le_trans nkey_dep (by decide)
theorem nkey_lt {i j : Int} (h : i ≠ j) : PySem.W.dataLt (keyD (nkey i)).pyd (keyD (nkey j)).pyd = decide ([i % 2, 1, i] < [j % 2, 1, j]) := by
  rw [nkey_pyd, nkey_pyd, PySem.W.dataLt_tuple, PySem.W.dataLt_cons (by simp [PySem.W.alike, PySem.W.alikeAll]), if_neg (by simp [PyData.eqv, PyData.eqvAll]; intro _; exact h), PySem.W.dataLt_tuple]
  exact PySem.W.dataLt_ints _ _
theorem nkey_anti {i j : Int} (h1 : leD (keyD (nkey i)) (keyD (nkey j)) = true) (h2 : leD (keyD (nkey j)) (keyD (nkey i)) = true) : i = j := by
  by_cases h : i = j
  · exact h
  · exfalso
    have e1 : PySem.W.dataLt (keyD (nkey j)).pyd (keyD (nkey i)).pyd = false := by
      have : (!PySem.W.dataLt (keyD (nkey j)).pyd (keyD (nkey i)).pyd) = true := h1
      simpa using this
    have e2 : PySem.W.dataLt (keyD (nkey i)).pyd (keyD (nkey j)).pyd = false := by
      have : (!PySem.W.dataLt (keyD (nkey i)).pyd (keyD (nkey j)).pyd) = true := h2
      simpa using this
    rw [nkey_lt (fun z => h z.symm), decide_eq_false_iff_not] at e1
    rw [nkey_lt h, decide_eq_false_iff_not] at e2
    simp only [List.cons_lt_cons_iff] at e1 e2
    simp at e1 e2
    omega
theorem leD_total (a b : D) : (leD a b || leD b a) = true := by
  have T := PySem.W.sortLe_total (PyProof.Rows.listOrd PyProof.Rows.itemOrd) false fun d : D => PySem.W.keyToks d.pyd
  rcases T.total a b with h | h
  · rw [show leD a b = true from h]; rfl
  · rw [show leD b a = true from h, Bool.or_true]
theorem leD_trans (a b c : D) (h1 : leD a b = true) (h2 : leD b c = true) : leD a c = true := by
  have T := PySem.W.sortLe_total (PyProof.Rows.listOrd PyProof.Rows.itemOrd) false fun d : D => PySem.W.keyToks d.pyd
  exact T.trans a b c h1 h2
theorem sort_perm {l l2 : List D} (p : l.Perm l2) (h : ∀ a ∈ l, ∀ b ∈ l, leD a b = true → leD b a = true → a = b) : l.mergeSort leD = l2.mergeSort leD := by
  refine List.Perm.eq_of_pairwise (le := fun a b => leD a b = true) (fun a b ha hb h1 h2 => h a ((List.mergeSort_perm _ _).mem_iff.mp ha) b (p.mem_iff.mpr ((List.mergeSort_perm _ _).mem_iff.mp hb)) h1 h2) (List.pairwise_mergeSort leD_trans leD_total _) (List.pairwise_mergeSort leD_trans leD_total _) ?_
  exact ((List.mergeSort_perm _ _).trans p).trans (List.mergeSort_perm _ _).symm

/-! what holds between -/
structure Led (lines : List Posting) (st st2 : Sd) (n : Nat) : Prop where
  nd : (st.map (·.1)).Nodup
  perm : st.Perm st2
  key : ∀ e ∈ st, IsKey e.1
  sum : ∀ A, sumP A lines = sumS A st
  ll : lines.length ≤ 2 * n
  sl : st.length ≤ n
theorem found_len {st : Sd} {k : NestedKey} {acc : Str} {amt clk : Int} : (foundF st k acc amt clk).length ≤ 2 := by
  unfold foundF
  rw [List.length_append]
  have h1 : (backF st k acc clk).length ≤ 1 := by
    unfold backF
    split
    · split <;> simp
    · simp
  have h2 : (if changeF st k acc amt = 0 then [] else [(⟨acc, k, changeF st k acc amt, clk⟩ : Posting)]).length ≤ 1 := by split <;> simp
  omega
theorem dropG_len {κ α : Type} [DecidableEq κ] {st : List (κ × α)} {k : κ} : (dropG st k).length ≤ st.length := List.length_filter_le _ _
theorem Led.post {lines : List Posting} {st st2 : Sd} {n : Nat} (h : Led lines st st2 n) {k : NestedKey} (hk : IsKey k) (acc : Str) (amt clk : Int) :
    Led (lines ++ foundF st k acc amt clk) (standF st k acc amt) (dropG st2 k ++ if amt = 0 then [] else [(k, (acc, amt))]) (n + 1) := by
  have hp := standF_perm (k := k) (acc := acc) (amt := amt) h.nd
  refine ⟨?_, hp.trans ((h.perm.filter _).append_right _), ?_, fun A => ?_, ?_, ?_⟩
  · refine (hp.map (·.1)).nodup_iff.mpr ?_
    rw [List.map_append]
    refine List.nodup_append.mpr ⟨dropG_nodup h.nd, by split <;> simp, ?_⟩
    intro a ha b hb e
    obtain ⟨x, hx, rfl⟩ := List.mem_map.mp ha
    have hx2 := (List.mem_filter.mp hx).2
    split at hb
    · exact nomatch hb
    · have : b = k := by simpa using hb
      have hne : x.1 ≠ k := by simpa using hx2
      exact hne (e.trans this)
  · intro e he
    rcases List.mem_append.mp (hp.mem_iff.mp he) with q | q
    · exact h.key e (List.mem_filter.mp q).1
    · split at q
      · exact nomatch q
      · have : e = (k, (acc, amt)) := by simpa using q
        rw [this]
        exact hk
  · rw [sumP_app, h.sum A]
    exact found_sum h.nd A
  · rw [List.length_append]
    have := found_len (st := st) (k := k) (acc := acc) (amt := amt) (clk := clk)
    have := h.ll
    omega
  · rw [hp.length_eq, List.length_append]
    have h1 := dropG_len (st := st) (k := k)
    have h2 := h.sl
    have h3 : (if amt = 0 then [] else [(k, (acc, amt))] : Sd).length ≤ 1 := by split <;> simp
    omega
/-! ### what the defs do -/
abbrev lns : List Str := ["lines", "stands", "stated"]
/-- the ledger at x, its dict at s -/
abbrev LedM (cl : Nat → Addr) (x dx s : Addr) (vl vu : V) (ep : Nat) (kvs : NKV) (M0 : ML) : ML := (x, .ins (cl 1) dx (lns.zip [vl, .ref s, vu])) :: (s, nD s ep kvs) :: M0
abbrev sp_Posting_init (K : PySem.W.Frag) (cl : Nat → Addr) : Sp := ISp K cl 0 pns fun ds es => ds.length = 4 ∧ es = ds
/-- the ledger as data -/
structure LedR (K : PySem.W.Frag) (cl : Nat → Addr) (G : Hp) (vl : V) (kvs : NKV) (lines : List Posting) (st : Sd) : Prop where
  l : Rep K cl G vl (.lst (List.map Posting.d lines))
  s : NRep K cl G kvs (sdD st)
  ll : lines.length ≤ 1000
  sl : st.length ≤ 1000
theorem LedR.mono {K : PySem.W.Frag} {cl : Nat → Addr} {G G' : Hp} {vl : V} {kvs : NKV} {lines : List Posting} {st : Sd} (s : Same G G') (h : LedR K cl G vl kvs lines st) : LedR K cl G' vl kvs lines st := ⟨h.l.mono s, h.s.mono s, h.ll, h.sl⟩
abbrev sp_Ledger_post (K : PySem.W.Frag) (cl : Nat → Addr) : Sp := GSp fun vs G M T => ∃ x dx s vl vu ep kvs M0 v1 k acc amt clk lines st, vs = [.ref x, v1, .str acc, .int amt, .int clk] ∧ M = LedM cl x dx s vl vu ep kvs M0 ∧ Rep K cl G v1 (keyD k) ∧ IsNK k ∧ LedR K cl G vl kvs lines st ∧
  ∀ G' w vl' ep' kvs', Same G G' → Rep K cl G' w (.lst (List.map Posting.d (foundF st k acc amt clk))) → Rep K cl G' vl' (.lst (List.map Posting.d (lines ++ foundF st k acc amt clk))) → NRep K cl G' kvs' (sdD (standF st k acc amt)) → T w G' (LedM cl x dx s vl' vu ep' kvs' M0)
abbrev sp_Ledger_postings (K : PySem.W.Frag) (cl : Nat → Addr) : Sp := GSp fun vs G M T => ∃ x dx s vl vu ep kvs M0 acc lines, vs = [.ref x, .str acc] ∧ M = LedM cl x dx s vl vu ep kvs M0 ∧ Rep K cl G vl (.lst (List.map Posting.d lines)) ∧ lines.length ≤ 1000 ∧
  ∀ G' w, Same G G' → Rep K cl G' w (.lst (List.map Posting.d (List.filter (fun p => decide (p.account = acc)) lines))) → T w G' M
abbrev sp_Ledger_balance (K : PySem.W.Frag) (cl : Nat → Addr) : Sp := GSp fun vs G M T => ∃ x dx s vl vu ep kvs M0 acc lines, vs = [.ref x, .str acc] ∧ M = LedM cl x dx s vl vu ep kvs M0 ∧ Rep K cl G vl (.lst (List.map Posting.d lines)) ∧ lines.length ≤ 1000 ∧
  ∀ G', Same G G' → T (.int (sumP acc lines)) G' M
abbrev sp_law_rows (K : PySem.W.Frag) (cl : Nat → Addr) : Sp := PSp K cl fun ds d => ∃ l : List Posting, ds = [.lst (List.map Posting.d l)] ∧ l.length ≤ 1000 ∧ d = .lst (List.map Posting.row l)
local macro_rules | `(tactic| walk_at "nrep") => `(tactic| first | assumption | ((with_reducible apply NRep.mono); assumption; walk_at "nrep"))
def dacc : D → Str
  | .ins _ _ (.str a :: _) => a
  | _ => ""
theorem sd_keys {st : Sd} : (sdD st).map (fun e => keyD e.1) = st.map fun e => keyD e.1 := by unfold sdD; rw [List.map_map]; rfl
theorem sd_dat {st : Sd} (h : ∀ e ∈ st, IsKey e.1) : ∀ e ∈ sdD st, (keyD e.1).isDat = true := by
  intro e he
  obtain ⟨f, hf, rfl⟩ := List.mem_map.mp he
  obtain ⟨j, _, _, hj⟩ := h f hf
  show (keyD f.1).isDat = true
  rw [hj]
  exact nkey_dat
theorem keys_sorts {ks : List NestedKey} (h : ∀ k ∈ ks, IsKey k) : Sorts (ks.map fun k => (keyD k).pyd) := by
  refine ⟨?_, .inl ?_, ?_⟩
  · intro d hd d' hd'
    obtain ⟨a, ha, rfl⟩ := List.mem_map.mp hd
    obtain ⟨b, hb, rfl⟩ := List.mem_map.mp hd'
    obtain ⟨i, _, _, rfl⟩ := h a ha
    obtain ⟨j, _, _, rfl⟩ := h b hb
    exact nkey_alike
  · intro d hd
    obtain ⟨a, ha, rfl⟩ := List.mem_map.mp hd
    obtain ⟨i, _, _, rfl⟩ := h a ha
    exact ⟨_, _, nkey_pyd⟩
  · intro d hd
    obtain ⟨a, ha, rfl⟩ := List.mem_map.mp hd
    obtain ⟨i, _, _, rfl⟩ := h a ha
    exact nkey_depth
theorem sd_sorts {st : Sd} (h : ∀ e ∈ st, IsKey e.1) : Sorts ((sdD st).map fun e => (keyD e.1).pyd) := by
  have e : (sdD st).map (fun e => (keyD e.1).pyd) = (st.map (·.1)).map fun k => (keyD k).pyd := by
    unfold sdD
    rw [List.map_map, List.map_map]
    rfl
  rw [e]
  exact keys_sorts fun k hk => by
    obtain ⟨f, hf, rfl⟩ := List.mem_map.mp hk
    exact h f hf
def rowOf : D → D
  | .ins _ _ ds => .tup ds
  | d => d
theorem valG_sd {st : Sd} {k : NestedKey} : valG (sdD st) k = (valG st k).map pairD := valG_map pairD k st
local macro_rules | `(tactic| walk_at "ix") => `(tactic| first | assumption | exact rfl | ((refine atI_getD D.non ?_ ?_); omega; (simp only [List.length_cons, List.length_nil]; omega)))
theorem sum_take {α : Type} {f : α → Int} {l : List α} {i : Nat} {x : α} (h : l[i]? = some x) : ((l.take (i + 1)).map f).sum = ((l.take i).map f).sum + f x := by
  rw [List.take_add_one, h, List.map_append, List.sum_append]
  simp
theorem found_none {st : Sd} {k : NestedKey} {acc : Str} {amt clk : Int} (h : valG st k = none) : foundF st k acc amt clk = [] ++ if amt = 0 then [] else [⟨acc, k, amt, clk⟩] := by
  unfold foundF changeF backF
  rw [h]
theorem found_same {st : Sd} {k : NestedKey} {acc : Str} {amt clk m : Int} (h : valG st k = some (acc, m)) : foundF st k acc amt clk = [] ++ if amt - m = 0 then [] else [⟨acc, k, amt - m, clk⟩] := by
  unfold foundF changeF backF
  rw [h]
  simp
theorem found_other {st : Sd} {k : NestedKey} {a acc : Str} {amt clk m : Int} (h : valG st k = some (a, m)) (hn : a ≠ acc) : foundF st k acc amt clk = [⟨a, k, -m, clk⟩] ++ if amt = 0 then [] else [⟨acc, k, amt, clk⟩] := by
  unfold foundF changeF backF
  rw [h]
  simp [hn]
theorem standF_put {st : Sd} {k : NestedKey} {acc : Str} {amt : Int} (h : amt ≠ 0) : sdD (standF st k acc amt) = putG (sdD st) k (pairD (acc, amt)) := by
  unfold standF
  rw [if_neg h]
  exact (putG_map pairD k (acc, amt) st).symm
theorem standF_drop {st : Sd} {k : NestedKey} {acc : Str} {amt : Int} (h : amt = 0) : sdD (standF st k acc amt) = dropG (sdD st) k := by
  unfold standF
  rw [if_pos h]
  exact (dropG_map pairD k st).symm
theorem optD_dat {st : Sd} {k : NestedKey} (h : ∀ e ∈ st, e.2.1.cps.all (· < 0x110000) = true) : ((valG (sdD st) k).getD .non).isDat = true ∧ ((valG (sdD st) k).getD .non).dep ≤ 64 := by
  rw [valG_sd]
  cases hv : valG st k with
  | none => exact ⟨rfl, Nat.zero_le _⟩
  | some v =>
    have hm : ∃ e ∈ st, e.2 = v := by
      unfold valG at hv
      obtain ⟨e, he, q⟩ := Option.map_eq_some_iff.mp hv
      exact ⟨e, List.mem_of_find?_eq_some he, q⟩
    obtain ⟨e, he, rfl⟩ := hm
    refine ⟨?_, ?_⟩
    · have := h e he
      simp only [Option.map_some, Option.getD_some, D.isDat, D.areDat, Bool.and_true]
      exact this
    · show (1 : Nat) ≤ 64
      decide
theorem keys_dat {ks : List NestedKey} (h : ∀ k ∈ ks, IsKey k) : ∀ d ∈ (ks.map keyD).mergeSort leD, d.isDat = true ∧ d.dep ≤ 2 := by
  intro d hd
  obtain ⟨k, hk, rfl⟩ := List.mem_map.mp ((List.mergeSort_perm _ _).mem_iff.mp hd)
  obtain ⟨j, _, _, rfl⟩ := h k hk
  exact ⟨nkey_dat, nkey_dep⟩
theorem lst_dat {ds : List D} {n : Nat} (h : ∀ d ∈ ds, d.isDat = true ∧ d.dep ≤ n) (hn : n ≤ 63) : (D.lst ds).isDat = true ∧ (D.lst ds).dep ≤ 64 := by
  refine ⟨?_, ?_⟩
  · simp only [D.isDat]
    exact D.areDat_mem fun d hd => (h d hd).1
  · simp only [D.dep]
    have := D.deps_mem (n := n) fun d hd => (h d hd).2
    omega
theorem keys_eq {st st2 : Sd} (p : st.Perm st2) (h : ∀ e ∈ st, IsKey e.1) : (st.map fun e => keyD e.1).mergeSort leD = (st2.map fun e => keyD e.1).mergeSort leD := by
  refine sort_perm (p.map _) fun a ha b hb h1 h2 => ?_
  obtain ⟨e, he, rfl⟩ := List.mem_map.mp ha
  obtain ⟨f, hf, rfl⟩ := List.mem_map.mp hb
  obtain ⟨i, _, _, ei⟩ := h e he
  obtain ⟨j, _, _, ej⟩ := h f hf
  rw [ei, ej] at h1 h2 ⊢
  rw [nkey_anti h1 h2]
def dcs : D → Str
  | .tup (.str a :: _) => a
  | _ => ""
def damt : D → D
  | .tup (_ :: x :: _) => x
  | _ => .non
theorem rows_dat {lines : List Posting} (h : ∀ p ∈ lines, IsKey p.key ∧ p.account.cps.all (· < 0x110000) = true) : ∀ d ∈ lines.map Posting.row, d.isDat = true ∧ d.dep ≤ 3 := by
  intro d hd
  obtain ⟨p, hp, rfl⟩ := List.mem_map.mp hd
  obtain ⟨⟨j, _, _, hj⟩, hs⟩ := h p hp
  have hdat : (keyD p.key).isDat = true := by rw [hj]; exact nkey_dat
  have hdep : (keyD p.key).dep ≤ 2 := by rw [hj]; exact nkey_dep
  refine ⟨?_, ?_⟩
  · simp only [D.isDat, D.areDat, hdat, hs, Bool.and_true, Bool.true_and]
  · simp only [D.dep, D.deps]
    omega
theorem take_step {kds : List (NestedKey × D)} {key : NestedKey} {i : Nat} {e : NestedKey × D} (nd : (kds.map (·.1)).Nodup) (h : kds[i]? = some e) :
    dropG (kds.take (i + 1)) key = if e.1 = key then dropG (kds.take i) key else putG (dropG (kds.take i) key) e.1 e.2 := by
  have e1 : kds.take (i + 1) = kds.take i ++ [e] := by rw [List.take_add_one, h]; rfl
  rw [e1]
  have ha : ∀ a b : List (NestedKey × D), dropG (a ++ b) key = dropG a key ++ dropG b key := fun a b => List.filter_append a b
  rw [ha]
  by_cases q : e.1 = key
  · rw [if_pos q]
    have : dropG [e] key = [] := by unfold dropG; rw [List.filter_cons, if_neg (by simp [q])]; rfl
    rw [this, List.append_nil]
  · rw [if_neg q]
    have h1 : dropG [e] key = [e] := by unfold dropG; rw [List.filter_cons, if_pos (by simp [q])]; rfl
    have h2 : valG (dropG (kds.take i) key) e.1 = none := by
      rw [valG_none]
      intro f hf z
      have hf' := (List.mem_filter.mp hf).1
      obtain ⟨j, hj⟩ := List.mem_iff_getElem?.mp hf'
      have hlt : j < i := by
        have := (List.getElem?_eq_some_iff.mp hj).1
        rw [List.length_take] at this
        omega
      have hj2 : kds[j]? = some f := by rw [List.getElem?_take, if_pos hlt] at hj; exact hj
      have m1 : (kds.map (·.1))[j]? = some e.1 := by rw [List.getElem?_map, hj2, ← z]; rfl
      have m2 : (kds.map (·.1))[i]? = some e.1 := by rw [List.getElem?_map, h]; rfl
      have hjl : j < (kds.map (·.1)).length := (List.getElem?_eq_some_iff.mp m1).1
      have := (List.getElem?_inj hjl nd).mp (m1.trans m2.symm)
      omega
    rw [h1]
    unfold putG
    rw [h2]
    rfl
theorem sd_nodup {st : Sd} (h : (st.map (·.1)).Nodup) : ((sdD st).map (·.1)).Nodup := by
  unfold sdD
  rw [List.map_map]
  exact h
theorem perm3 {α : Type} {a b c : α} {l : List α} : (a :: b :: c :: l).Perm (c :: a :: b :: l) := ((List.Perm.swap c b l).cons a).trans (List.Perm.swap c a (b :: l))
theorem found_congr {st st2 : Sd} {k : NestedKey} {acc : Str} {amt clk : Int} (h : valG st k = valG st2 k) : foundF st k acc amt clk = foundF st2 k acc amt clk := by
  unfold foundF changeF backF
  rw [h]
theorem found_keys {st : Sd} {k : NestedKey} {acc : Str} {amt clk : Int} (hk : IsKey k) (ha : acc.cps.all (· < 0x110000) = true) (hs : ∀ e ∈ st, e.2.1.cps.all (· < 0x110000) = true) : ∀ p ∈ foundF st k acc amt clk, IsKey p.key ∧ p.account.cps.all (· < 0x110000) = true := by
  intro p hp
  unfold foundF at hp
  rcases List.mem_append.mp hp with q | q
  · unfold backF at q
    split at q
    · next v hv =>
      split at q
      · exact nomatch q
      · have e : p = ⟨v.1, k, -v.2, clk⟩ := by simpa using q
        rw [e]
        refine ⟨hk, ?_⟩
        unfold valG at hv
        obtain ⟨f, hf, hfv⟩ := Option.map_eq_some_iff.mp hv
        have := hs f (List.mem_of_find?_eq_some hf)
        rw [← hfv]
        exact this
    · exact nomatch q
  · split at q
    · exact nomatch q
    · have e : p = ⟨acc, k, changeF st k acc amt, clk⟩ := by simpa using q
      rw [e]
      exact ⟨hk, ha⟩
theorem stand_accs {st : Sd} {k : NestedKey} {acc : Str} {amt : Int} (nd : (st.map (·.1)).Nodup) (ha : acc.cps.all (· < 0x110000) = true) (hs : ∀ e ∈ st, e.2.1.cps.all (· < 0x110000) = true) : ∀ e ∈ standF st k acc amt, e.2.1.cps.all (· < 0x110000) = true := by
  intro e he
  rcases List.mem_append.mp ((standF_perm nd).mem_iff.mp he) with q | q
  · exact hs e (List.mem_filter.mp q).1
  · split at q
    · exact nomatch q
    · have : e = (k, (acc, amt)) := by simpa using q
      rw [this]
      exact ha
theorem dropG_all {kds : List (NestedKey × D)} {k : NestedKey} : valG (dropG kds k) k = none := by
  rw [valG_none]
  intro e he
  have := (List.mem_filter.mp he).2
  simpa using this
/-! ### statements -/
abbrev sp_Ledger_init (K : PySem.W.Frag) (cl : Nat → Addr) : Sp := GSp fun vs G M T => ∃ x dx M0, vs = [.ref x] ∧ M = (x, .ins (cl 1) dx (List.zip [] [])) :: M0 ∧ ∀ G' vl s u, Same G G' → Rep K cl G' vl (.lst []) → T .non G' (LedM cl x dx s vl (.ref u) 0 [] ((u, .dK []) :: M0))
def pf (A : Str) (lines : List Posting) : List Posting := lines.filter fun p => decide (p.account = A)
def amts (l : List Posting) : Int := (l.map fun p => p.amount).sum
@[reducible] def stD (c : Nat) (o : Int) : D := .tup [.int c, .int o]
abbrev sp_Ledger_make_statement (K : PySem.W.Frag) (cl : Nat → Addr) : Sp := GSp fun vs G M T => ∃ x dx s u vl ep kvs kws M0 acc lines kes c o, vs = [.ref x, .str acc] ∧ M = LedM cl x dx s vl (.ref u) ep kvs ((u, .dK kws) :: M0) ∧ Rep K cl G vl (.lst (List.map Posting.d lines)) ∧ lines.length ≤ 1000 ∧
  KRep K cl G kws kes ∧ kes.length ≤ 1000 ∧ (valG kes (.inr acc)).getD (.tup [.int 0, .int 0]) = stD c o ∧ ∀ G' w kws', Same G G' → Rep K cl G' w (.tup [.int o, .lst (List.map Posting.d ((pf acc lines).drop c)), .int (o + amts ((pf acc lines).drop c))]) →
    KRep K cl G' kws' (putG kes (.inr acc) (stD (pf acc lines).length (o + amts ((pf acc lines).drop c)))) → T w G' (LedM cl x dx s vl (.ref u) ep kvs ((u, .dK kws') :: M0))
theorem cut_drop {ds : List D} {c : Nat} : cutD ds (some (c : Int)) none = ds.drop c := by
  unfold cutD
  have h1 : HT.sIx ds.length 0 (some (c : Int)) = min c ds.length := by
    unfold HT.sIx
    simp
    intro h
    omega
  have h2 : HT.sIx ds.length ds.length none = ds.length := rfl
  rw [h1, h2]
  by_cases h : c ≤ ds.length
  · rw [Nat.min_eq_left h]
    exact List.take_of_length_le (by rw [List.length_drop]; exact Nat.le_refl _)
  · rw [Nat.min_eq_right (by omega), List.drop_of_length_le (Nat.le_refl _), List.drop_of_length_le (by omega), List.take_nil]
def two : List Str := ["ann", "firm"]
def nkey9 (j : Int) : NestedKey := .tup [.tup [.num 1, .num 1, .num j], .num 0, .text "setup"]
def KeyOk (k : NestedKey) : Prop := (keyD k).isDat = true ∧ (keyD k).dep ≤ 2
theorem isNK_nkey9 {j : Int} : IsNK (nkey9 j) := ⟨⟨_, rfl⟩, by show (2 : Nat) ≤ 8; decide⟩
theorem keyOk9 {j : Int} : KeyOk (nkey9 j) := by
  refine ⟨?_, by show (2 : Nat) ≤ 2; exact Nat.le_refl _⟩
  unfold nkey9
  simp only [keyD, keyDs, D.isDat, D.areDat, Bool.and_true, Bool.true_and]
  decide +kernel
theorem two_dat {A : Str} (h : A ∈ two) : A.cps.all (· < 0x110000) = true := by
  unfold two at h
  simp only [List.mem_cons, List.not_mem_nil, or_false] at h
  rcases h with rfl | rfl <;> decide +kernel
/-- the lines and what stands, between deeds -/
structure Led9 (lines : List Posting) (st : Sd) (n : Nat) : Prop where
  nd : (st.map (·.1)).Nodup
  ll : lines.length ≤ 2 * n
  sl : st.length ≤ n
  accL : ∀ p ∈ lines, p.account ∈ two
  accS : ∀ e ∈ st, e.2.1 ∈ two
  keys : ∀ p ∈ lines, KeyOk p.key
theorem found_mem {st : Sd} {k : NestedKey} {acc : Str} {amt clk : Int} (ha : acc ∈ two) (hk : KeyOk k) (hs : ∀ e ∈ st, e.2.1 ∈ two) : ∀ p ∈ foundF st k acc amt clk, p.account ∈ two ∧ KeyOk p.key := by
  intro p hp
  unfold foundF at hp
  rcases List.mem_append.mp hp with q | q
  · unfold backF at q
    split at q
    · next v hv =>
      split at q
      · exact nomatch q
      · have e : p = ⟨v.1, k, -v.2, clk⟩ := by simpa using q
        rw [e]
        refine ⟨?_, hk⟩
        unfold valG at hv
        obtain ⟨f, hf, hfv⟩ := Option.map_eq_some_iff.mp hv
        have := hs f (List.mem_of_find?_eq_some hf)
        rw [← hfv]
        exact this
    · exact nomatch q
  · split at q
    · exact nomatch q
    · have e : p = ⟨acc, k, changeF st k acc amt, clk⟩ := by simpa using q
      rw [e]
      exact ⟨ha, hk⟩
theorem Led9.post {lines : List Posting} {st : Sd} {n : Nat} (h : Led9 lines st n) {k : NestedKey} {acc : Str} (hk : KeyOk k) (ha : acc ∈ two) (amt clk : Int) : Led9 (lines ++ foundF st k acc amt clk) (standF st k acc amt) (n + 1) := by
  have hp := standF_perm (k := k) (acc := acc) (amt := amt) h.nd
  have hf := found_mem (amt := amt) (clk := clk) ha hk h.accS
  refine ⟨?_, ?_, ?_, ?_, ?_, ?_⟩
  · refine (hp.map (·.1)).nodup_iff.mpr ?_
    rw [List.map_append]
    refine List.nodup_append.mpr ⟨dropG_nodup h.nd, by split <;> simp, ?_⟩
    intro a ha b hb e
    obtain ⟨x, hx, rfl⟩ := List.mem_map.mp ha
    have hx2 := (List.mem_filter.mp hx).2
    split at hb
    · exact nomatch hb
    · have : b = k := by simpa using hb
      have hne : x.1 ≠ k := by simpa using hx2
      exact hne (e.trans this)
  · rw [List.length_append]
    have := found_len (st := st) (k := k) (acc := acc) (amt := amt) (clk := clk)
    have := h.ll
    omega
  · rw [hp.length_eq, List.length_append]
    have h1 := dropG_len (st := st) (k := k)
    have h2 := h.sl
    have h3 : (if amt = 0 then [] else [(k, (acc, amt))] : Sd).length ≤ 1 := by split <;> simp
    omega
  · intro p hp
    rcases List.mem_append.mp hp with q | q
    · exact h.accL p q
    · exact (hf p q).1
  · intro e he
    rcases List.mem_append.mp (hp.mem_iff.mp he) with q | q
    · exact h.accS e (List.mem_filter.mp q).1
    · split at q
      · exact nomatch q
      · have : e = (k, (acc, amt)) := by simpa using q
        rw [this]
        exact ha
  · intro p hp
    rcases List.mem_append.mp hp with q | q
    · exact h.keys p q
    · exact (hf p q).2
theorem pf_app {A : Str} {a b : List Posting} : pf A (a ++ b) = pf A a ++ pf A b := List.filter_append a b
theorem amts_app {a b : List Posting} : amts (a ++ b) = amts a + amts b := by unfold amts; rw [List.map_append, List.sum_append]
theorem amts_all {l : List Posting} {c : Nat} : amts (l.take c) + amts (l.drop c) = amts l := by rw [← amts_app, List.take_append_drop]
theorem amts_pf {A : Str} {l : List Posting} : amts (pf A l) = sumP A l := sum_filterP
theorem rows9_dat {lines : List Posting} (h : ∀ p ∈ lines, p.account ∈ two ∧ KeyOk p.key) : ∀ d ∈ lines.map Posting.row, d.isDat = true ∧ d.dep ≤ 3 := by
  intro d hd
  obtain ⟨p, hp, rfl⟩ := List.mem_map.mp hd
  obtain ⟨ha, hk⟩ := h p hp
  have hs := two_dat ha
  refine ⟨?_, ?_⟩
  · simp only [D.isDat, D.areDat, hk.1, hs, Bool.and_true, Bool.true_and]
  · simp only [D.dep, D.deps]
    have := hk.2
    omega
/-- what the law and the ledger keep of each account -/
structure St9 (lines : List Posting) (cnt : Str → Nat) (kes kc ko : List (Key × D)) (n : Nat) : Prop where
  le : ∀ A ∈ two, cnt A ≤ (pf A lines).length
  s : ∀ A ∈ two, (valG kes (.inr A)).getD (.tup [.int 0, .int 0]) = stD (cnt A) (amts ((pf A lines).take (cnt A)))
  c : ∀ A ∈ two, valG kc (.inr A) = some (.int (amts ((pf A lines).take (cnt A))))
  o : ∀ A ∈ two, valG ko (.inr A) = some (.lst (((pf A lines).drop (cnt A)).map Posting.row))
  cy : valG kes (.inr "cy") = none
  sl : kes.length ≤ n
  cl : kc.length ≤ 2
  ol : ko.length ≤ 2
theorem putG_len {κ α : Type} [DecidableEq κ] {st : List (κ × α)} {k : κ} {v : α} : (putG st k v).length ≤ st.length + 1 := by
  unfold putG
  split
  · rw [List.length_map]; omega
  · rw [List.length_append]; simp
theorem putG_len_old {κ α : Type} [DecidableEq κ] {st : List (κ × α)} {k : κ} {v w : α} (h : valG st k = some w) : (putG st k v).length = st.length := by
  unfold putG
  rw [h]
  simp
theorem two_ne_cy {A : Str} (h : A ∈ two) : (Sum.inr A : Key) ≠ .inr "cy" := by
  unfold two at h
  simp only [List.mem_cons, List.not_mem_nil, or_false] at h
  intro e
  have e2 : A = "cy" := Sum.inr.inj e
  rcases h with rfl | rfl <;> exact absurd e2 (by decide +kernel)
/-- behind a statement of A -/
theorem St9.made {lines : List Posting} {cnt : Str → Nat} {kes kc ko : List (Key × D)} {n : Nat} (h : St9 lines cnt kes kc ko n) {A : Str} (hA : A ∈ two) :
    St9 lines (fun B => if B = A then (pf A lines).length else cnt B) (putG kes (.inr A) (stD (pf A lines).length (amts (pf A lines)))) (putG kc (.inr A) (.int (amts (pf A lines)))) (putG ko (.inr A) (.lst [])) (n + 1) := by
  have inj : ∀ {B : Str}, (Sum.inr A : Key) = .inr B ↔ B = A := fun {B} => ⟨fun e => (Sum.inr.inj e).symm, fun e => by rw [e]⟩
  refine ⟨?_, ?_, ?_, ?_, ?_, ?_, ?_, ?_⟩
  · intro B hB
    by_cases e : B = A
    · subst e; simp
    · simp [e]; exact h.le B hB
  · intro B hB
    rw [valG_put]
    by_cases e : B = A
    · subst e; simp
    · rw [if_neg (fun z => e (inj.mp z)), if_neg e]; exact h.s B hB
  · intro B hB
    rw [valG_put]
    by_cases e : B = A
    · subst e; simp
    · rw [if_neg (fun z => e (inj.mp z)), if_neg e]; exact h.c B hB
  · intro B hB
    rw [valG_put]
    by_cases e : B = A
    · subst e; simp
    · rw [if_neg (fun z => e (inj.mp z)), if_neg e]; exact h.o B hB
  · rw [valG_put, if_neg (two_ne_cy hA)]
    exact h.cy
  · exact Nat.le_trans putG_len (by have := h.sl; omega)
  · rw [putG_len_old (h.c A hA)]; exact h.cl
  · rw [putG_len_old (h.o A hA)]; exact h.ol
abbrev Wall (cl : Nat → Addr) (x dx s u c o : Addr) (vl : V) (ep : Nat) (kvs : NKV) (kS kC kO : List (Key × V)) (M : ML) : ML := LedM cl x dx s vl (.ref u) ep kvs ((u, .dK kS) :: (c, .dK kC) :: (o, .dK kO) :: M)
theorem merge2 {a b : D} : mergeG [] [((.inr "ann" : Key), a), (.inr "firm", b)] = [(.inr "ann", a), (.inr "firm", b)] := by
  have h : ¬ ((Sum.inr ("ann" : Str) : Key) = .inr "firm") := by decide +kernel
  simp [mergeG, putG, valG, h]
theorem val2 {a b : D} {A : Str} (h : A ∈ two) : valG [((.inr "ann" : Key), a), (.inr "firm", b)] (.inr A) = some (if A = "ann" then a else b) := by
  unfold two at h
  simp only [List.mem_cons, List.not_mem_nil, or_false] at h
  have h1 : ¬ ((Sum.inr ("ann" : Str) : Key) = .inr "firm") := by decide +kernel
  have h2 : ¬ (("firm" : Str) = "ann") := by decide +kernel
  rcases h with rfl | rfl
  · simp [valG]
  · rw [if_neg h2]
    simp [valG, h1]
theorem two_get {z : Int} : ∃ A ∈ two, atI [D.str "ann", D.str "firm"] (z % 2) = some (.str A) := by
  rcases Int.emod_two_eq z with e | e <;> rw [e]
  · exact ⟨"ann", by simp [two], rfl⟩
  · exact ⟨"firm", by simp [two], rfl⟩
/-- rows told one by one -/
theorem St9.row {lines F : List Posting} {cnt : Str → Nat} {ko : List (Key × D)} {j : Nat} {p : Posting} (h : ∀ A ∈ two, valG ko (.inr A) = some (.lst ((((pf A lines).drop (cnt A)) ++ pf A (F.take j)).map Posting.row))) (hj : F[j]? = some p) (hp : p.account ∈ two) :
    ∀ A ∈ two, valG (putG ko (.inr p.account) (.lst (((((pf p.account lines).drop (cnt p.account)) ++ pf p.account (F.take j)).map Posting.row) ++ [Posting.row p]))) (.inr A) = some (.lst ((((pf A lines).drop (cnt A)) ++ pf A (F.take (j + 1))).map Posting.row)) := by
  intro A hA
  have e1 : F.take (j + 1) = F.take j ++ [p] := by rw [List.take_add_one, hj]; rfl
  rw [valG_put, e1, pf_app]
  by_cases e : p.account = A
  · subst e
    rw [if_pos rfl]
    have : pf p.account [p] = [p] := by unfold pf; rw [List.filter_cons, if_pos (by simp)]; rfl
    rw [this, ← List.append_assoc, List.map_append (l₂ := [p])]
    rfl
  · rw [if_neg (fun z => e (Sum.inr.inj z)), h A hA]
    have : pf A [p] = [] := by unfold pf; rw [List.filter_cons, if_neg (by simpa using e)]; rfl
    rw [this, List.append_nil]
theorem St9.posted {lines F : List Posting} {cnt : Str → Nat} {kes kc ko ko' : List (Key × D)} {n : Nat} (h : St9 lines cnt kes kc ko n) (ho : ∀ A ∈ two, valG ko' (.inr A) = some (.lst ((((pf A lines).drop (cnt A)) ++ pf A F).map Posting.row))) (hl : ko'.length ≤ 2) : St9 (lines ++ F) cnt kes kc ko' n := by
  have e : ∀ A ∈ two, (pf A (lines ++ F)).take (cnt A) = (pf A lines).take (cnt A) := fun A hA => by
    rw [pf_app, List.take_append_of_le_length (h.le A hA)]
  refine ⟨fun A hA => ?_, fun A hA => ?_, fun A hA => ?_, fun A hA => ?_, h.cy, h.sl, h.cl, hl⟩
  · rw [pf_app, List.length_append]
    have := h.le A hA
    omega
  · rw [e A hA]; exact h.s A hA
  · rw [e A hA]; exact h.c A hA
  · rw [ho A hA, pf_app, List.drop_append_of_le_length (h.le A hA)]
theorem St9.up {lines : List Posting} {cnt : Str → Nat} {kes kc ko : List (Key × D)} {n m : Nat} (h : St9 lines cnt kes kc ko n) (hm : n ≤ m) : St9 lines cnt kes kc ko m := ⟨h.le, h.s, h.c, h.o, h.cy, Nat.le_trans h.sl hm, h.cl, h.ol⟩
theorem perm5 {α : Type} {a b c d e : α} {l : List α} : (e :: d :: a :: b :: c :: l).Perm (a :: b :: c :: d :: e :: l) :=
  (List.perm_middle (l₁ := [d, a, b, c]) (a := e) (l₂ := l)).symm.trans (List.perm_middle (l₁ := [a, b, c]) (a := d) (l₂ := e :: l)).symm
theorem two_at {j : Nat} {d : D} (h : [D.str "ann", D.str "firm"][j]? = some d) : ∃ A, d = .str A ∧ A ∈ two ∧ A ∈ two.drop j ∧ ∀ B ∈ two.drop (j + 1), B ≠ A ∧ B ∈ two.drop j := by
  have hne : ("firm" : Str) ≠ "ann" := by decide +kernel
  match j, h with
  | 0, h =>
    obtain rfl : D.str "ann" = d := Option.some.inj h
    refine ⟨"ann", rfl, by simp [two], by simp [two], ?_⟩
    intro B hB
    have : B = "firm" := by simpa [two] using hB
    subst this
    exact ⟨hne, by simp [two]⟩
  | 1, h =>
    obtain rfl : D.str "firm" = d := Option.some.inj h
    exact ⟨"firm", rfl, by simp [two], by simp [two], fun B hB => by simp [two] at hB⟩
  | j + 2, h => simp at h
theorem pf_cy {lines : List Posting} (h : ∀ p ∈ lines, p.account ∈ two) : pf "cy" lines = [] := by
  unfold pf
  rw [List.filter_eq_nil_iff]
  intro p hp
  have := two_ne_cy (h p hp)
  simp only [decide_eq_true_eq]
  intro e
  exact this (by rw [e])
abbrev sp_law (K : PySem.W.Frag) (cl : Nat → Addr) : Sp := GSp fun vs G M T => ∃ v ns, vs = [v] ∧ Rep K cl G v (.lst (List.map D.int ns)) ∧ ∀ G' M', Same G G' → T (.bl true) G' M'
def t_Posting_init (K : PySem.W.Frag) (cl : Nat → Addr) : TS :=
  (tSeq (sFld K (tVar 0) (tVar 1) "account") (tSeq (sFld K (tVar 0) (tVar 2) "key") (tSeq (sFld K (tVar 0) (tVar 3) "amount") (sFld K (tVar 0) (tVar 4) "written"))))
def t_Ledger_init (K : PySem.W.Frag) (cl : Nat → Addr) : TS :=
  (tSeq (sFld K (tVar 0) (tLst tNil) "lines") (tSeq (sFld K (tVar 0) (tNew) "stands") (sFld K (tVar 0) (tNew) "stated")))
def t_Ledger_postings (K : PySem.W.Frag) (cl : Nat → Addr) : TS :=
  (tRet (tLc (iSeq K (tFld K (tVar 0) "lines")) (gName 2) (tTest (tOp (rEqA K) (tFld K (tVar 2) "account") (tVar 1))) (tVar 2) [2]))
def t_law_cell (K : PySem.W.Frag) (cl : Nat → Addr) : TS :=
  (tSeq (tIfS (tTest (tOp (rLtI) (tVar 1) (tCB (rLenA K) (tCons (tVar 0) tNil)))) (tRet (tOp (rIx K) (tVar 0) (tVar 1))) tNext) (tRet (tC (.int 0))))
def t_law_state (K : PySem.W.Frag) (cl : Nat → Addr) : TS :=
  (tSeq (tIfS (tTest (tOp (rGeI) (tVar 0) (tC (.int 1000000000000000000)))) (tRet (tLst (tCons (tVar 0) tNil))) tNext) (tSeq (tAsg (tC (.int 2305843009213693951)) (gName 2)) (tSeq (tAsg (tOp (rModI) (tCB (rInt1) (tCons (tOp (rAdd K) (tOp (rAdd K) (tOp (rMulI) (tVar 0) (tC (.int 6364136223))) (tOp (rMulI) (tOp (rAdd K) (tVar 1) (tC (.int 1))) (tC (.int 104729)))) (tC (.int 77))) tNil)) (tVar 2)) (gName 3)) (tSeq (tAsg (tOp (rModI) (tCB (rInt1) (tCons (tOp (rAdd K) (tOp (rAdd K) (tOp (rMulI) (tVar 3) (tVar 3)) (tOp (rMulI) (tC (.int 1013)) (tVar 3))) (tVar 1)) tNil)) (tVar 2)) (gName 4)) (tSeq (tAsg (tOp (rModI) (tCB (rInt1) (tCons (tOp (rAdd K) (tOp (rAdd K) (tOp (rMulI) (tVar 4) (tC (.int 48271))) (tOp (rMulI) (tVar 3) (tC (.int 31)))) (tC (.int 9))) tNil)) (tVar 2)) (gName 5)) (tSeq (tAsg (tOp (rModI) (tCB (rInt1) (tCons (tOp (rAdd K) (tOp (rMulI) (tVar 5) (tVar 5)) (tVar 4)) tNil)) (tVar 2)) (gName 6)) (tRet (tLst (tCons (tOp (rAdd K) (tOp (rMulI) (tOp (rAdd K) (tOp (rMulI) (tOp (rAdd K) (tOp (rMulI) (tVar 6) (tVar 2)) (tVar 5)) (tVar 2)) (tVar 4)) (tVar 2)) (tVar 3)) tNil)))))))))
def t_law_digit (K : PySem.W.Frag) (cl : Nat → Addr) : TS :=
  (tSeq (tAsg (tOp (rModI) (tCB (rInt1) (tCons (tOp (rIx K) (tVar 0) (tC (.int 0))) tNil)) (tVar 1)) (gName 2)) (tSeq (tAsg (tOp (rDivI) (tOp (rIx K) (tVar 0) (tC (.int 0))) (tVar 1)) (gSub (tVar 0) (tC (.int 0)) rSetL)) (tRet (tVar 2))))
def t_law_rows (K : PySem.W.Frag) (cl : Nat → Addr) : TS :=
  (tRet (tLc (iSeq K (tVar 0)) (gName 1) tYes (tTup (tCons (tFld K (tVar 1) "account") (tCons (tFld K (tVar 1) "key") (tCons (tFld K (tVar 1) "amount") (tCons (tFld K (tVar 1) "written") tNil))))) [1]))
def t_Ledger_balance (K : PySem.W.Frag) (cl : Nat → Addr) : TS :=
  (tSeq (tAsg (tC (.int 0)) (gName 2)) (tSeq (tFor (iSeq K (tMeth (cl 1) "postings" (sp_Ledger_postings K cl) [] E0 (tVar 0) (tCons (tVar 1) tNil))) (gName 3) (tAsg (tOp (rAdd K) (tVar 2) (tFld K (tVar 3) "amount")) (gName 2))) (tRet (tVar 2))))
def t_Ledger_make_statement (K : PySem.W.Frag) (cl : Nat → Addr) : TS :=
  (tSeq (tAsg (tGet2 K cl (tFld K (tVar 0) "stated") (tVar 1) (tTup (tCons (tC (.int 0)) (tCons (tC (.int 0)) tNil)))) (gTup K 2 (gNames [2, 3]))) (tSeq (tAsg (tMeth (cl 1) "postings" (sp_Ledger_postings K cl) [] E0 (tVar 0) (tCons (tVar 1) tNil)) (gName 4)) (tSeq (tAsg (tVar 3) (gName 5)) (tSeq (tFor (iSeq K (tSl (rSlA K) (tVar 4) (tPart (tVar 2)) tNoPart)) (gName 6) (tAsg (tOp (rAdd K) (tVar 5) (tFld K (tVar 6) "amount")) (gName 5))) (tSeq (tAsg (tTup (tCons (tCB (rLenA K) (tCons (tVar 4) tNil)) (tCons (tVar 5) tNil))) (gSub (tFld K (tVar 0) "stated") (tVar 1) (rSetA K cl))) (tRet (tTup (tCons (tVar 3) (tCons (tSl (rSlA K) (tVar 4) (tPart (tVar 2)) tNoPart) (tCons (tVar 5) tNil))))))))))
def t_law_large (K : PySem.W.Frag) (cl : Nat → Addr) : TS :=
  (tRet (tOp (rEqA K) (tCall (sp_law_digit K cl) [] E0 (tCons (tCall (sp_law_state K cl) [] E0 (tCons (tCall (sp_law_cell K cl) [] E0 (tCons (tVar 0) (tCons (tC (.int 0)) tNil))) (tCons (tC (.int 97)) tNil))) (tCons (tC (.int 4)) tNil))) (tC (.int 0))))
def t_Ledger_post (K : PySem.W.Frag) (cl : Nat → Addr) : TS :=
  (tSeq (tAsg (tGet1 K cl (tFld K (tVar 0) "stands") (tVar 1)) (gName 5)) (tSeq (tAsg (tLst tNil) (gName 6)) (tSeq (tAsg (tVar 3) (gName 7)) (tSeq (tIfS (tAnd (tTest (tOp (rNotN) (tVar 5) (tC .non))) (tTest (tOp (rEqA K) (tOp (rIx K) (tVar 5) (tC (.int 0))) (tVar 2)))) (tAsg (tOp (rSubI) (tVar 3) (tOp (rIx K) (tVar 5) (tC (.int 1)))) (gName 7)) (tIfS (tTest (tOp (rNotN) (tVar 5) (tC .non))) (tDrop (tBM K "list" rAppend (tVar 6) (tCons (tMake (cl 0) (sp_Posting_init K cl) [] E0 (tCons (tOp (rIx K) (tVar 5) (tC (.int 0))) (tCons (tVar 1) (tCons (tUn rNegI (tOp (rIx K) (tVar 5) (tC (.int 1)))) (tCons (tVar 4) tNil))))) tNil))) tNext)) (tSeq (tIfS (tTest (tOp (rNeA K) (tVar 7) (tC (.int 0)))) (tDrop (tBM K "list" rAppend (tVar 6) (tCons (tMake (cl 0) (sp_Posting_init K cl) [] E0 (tCons (tVar 2) (tCons (tVar 1) (tCons (tVar 7) (tCons (tVar 4) tNil))))) tNil))) tNext) (tSeq (tIfS (tTest (tOp (rNeA K) (tVar 3) (tC (.int 0)))) (tAsg (tTup (tCons (tVar 2) (tCons (tVar 3) tNil))) (gSub (tFld K (tVar 0) "stands") (tVar 1) (rSetA K cl))) (tIfS (tTest (tOp (rNotN) (tVar 5) (tC .non))) (sDelA K cl (tFld K (tVar 0) "stands") (tVar 1)) tNext)) (tSeq (sFld K (tVar 0) (tOp (rAdd K) (tFld K (tVar 0) "lines") (tVar 6)) "lines") (tRet (tVar 6)))))))))
def t_law (K : PySem.W.Frag) (cl : Nat → Addr) : TS :=
  (tSeq (tAsg (tMake (cl 1) (sp_Ledger_init K cl) [] E0 tNil) (gName 1)) (tSeq (tAsg (tCB (rInt1) (tCons (tCall (sp_law_large K cl) [] E0 (tCons (tVar 0) tNil)) tNil)) (gName 2)) (tSeq (tAsg (tDisp [((tC (.str "ann")), (tC (.int 0))), ((tC (.str "firm")), (tC (.int 0)))]) (gName 3)) (tSeq (tAsg (tDisp [((tC (.str "ann")), (tLst tNil)), ((tC (.str "firm")), (tLst tNil))]) (gName 4)) (tSeq (tFor (iRng1 (tCons (tOp (rAdd K) (tCB (rMin2) (tCons (tC (.int 30)) (tCons (tOp (rAdd K) (tC (.int 8)) (tCB (rLenA K) (tCons (tVar 0) tNil))) tNil))) (tOp (rMulI) (tC (.int 200)) (tVar 2))) tNil)) (gName 5) (tSeq (tAsg (tCall (sp_law_state K cl) [] E0 (tCons (tCall (sp_law_cell K cl) [] E0 (tCons (tVar 0) (tCons (tVar 5) tNil))) (tCons (tVar 5) tNil))) (gName 6)) (tSeq (tAsg (tTup (tCons (tTup (tCons (tC (.int 1)) (tCons (tC (.int 1)) (tCons (tCall (sp_law_digit K cl) [] E0 (tCons (tVar 6) (tCons (tOp (rAdd K) (tC (.int 5)) (tOp (rMulI) (tC (.int 40)) (tVar 2))) tNil))) tNil)))) (tCons (tC (.int 0)) (tCons (tC (.str "setup")) tNil)))) (gName 7)) (tSeq (tAsg (tOp (rIx K) (tTup (tCons (tC (.str "ann")) (tCons (tC (.str "firm")) tNil))) (tCall (sp_law_digit K cl) [] E0 (tCons (tVar 6) (tCons (tC (.int 2)) tNil)))) (gName 8)) (tSeq (tFor (iSeq K (tCall (sp_law_rows K cl) [] E0 (tCons (tMeth (cl 1) "post" (sp_Ledger_post K cl) [] E0 (tVar 1) (tCons (tVar 7) (tCons (tVar 8) (tCons (tCall (sp_law_digit K cl) [] E0 (tCons (tVar 6) (tCons (tC (.int 40)) tNil))) (tCons (tVar 5) tNil))))) tNil))) (gName 9) (tAsg (tOp (rAdd K) (tOp (rIxA K cl) (tVar 4) (tOp (rIx K) (tVar 9) (tC (.int 0)))) (tLst (tCons (tVar 9) tNil))) (gSub (tVar 4) (tOp (rIx K) (tVar 9) (tC (.int 0))) (rSetA K cl)))) (tIfS (tTest (tOp (rEqA K) (tCall (sp_law_digit K cl) [] E0 (tCons (tVar 6) (tCons (tOp (rAdd K) (tC (.int 3)) (tOp (rMulI) (tC (.int 12)) (tVar 2))) tNil))) (tC (.int 0)))) (tSeq (tAsg (tOp (rIx K) (tTup (tCons (tC (.str "ann")) (tCons (tC (.str "firm")) tNil))) (tCall (sp_law_digit K cl) [] E0 (tCons (tVar 6) (tCons (tC (.int 2)) tNil)))) (gName 10)) (tSeq (tAsg (tMeth (cl 1) "make_statement" (sp_Ledger_make_statement K cl) [] E0 (tVar 1) (tCons (tVar 10) tNil)) (gTup K 3 (gNames [11, 12, 13]))) (tSeq (tIfS (tOr (tTest (tOp (rNeA K) (tVar 11) (tOp (rIxA K cl) (tVar 3) (tVar 10)))) (tTest (tOp (rNeA K) (tCall (sp_law_rows K cl) [] E0 (tCons (tVar 12) tNil)) (tOp (rIxA K cl) (tVar 4) (tVar 10))))) (tRet (tC (.bl false))) tNext) (tSeq (tIfS (tOr (tTest (tOp (rNeA K) (tVar 13) (tOp (rAdd K) (tVar 11) (tCB (rSum K) (tCons (tLc (iSeq K (tOp (rIxA K cl) (tVar 4) (tVar 10))) (gName 9) tYes (tOp (rIx K) (tVar 9) (tC (.int 2))) [9]) tNil))))) (tTest (tOp (rNeA K) (tVar 13) (tMeth (cl 1) "balance" (sp_Ledger_balance K cl) [] E0 (tVar 1) (tCons (tVar 10) tNil))))) (tRet (tC (.bl false))) tNext) (tSeq (tAsg (tVar 13) (gSub (tVar 3) (tVar 10) (rSetA K cl))) (tAsg (tLst tNil) (gSub (tVar 4) (tVar 10) (rSetA K cl)))))))) tNext)))))) (tSeq (tFor (iSeq K (tTup (tCons (tC (.str "ann")) (tCons (tC (.str "firm")) tNil)))) (gName 10) (tSeq (tAsg (tMeth (cl 1) "balance" (sp_Ledger_balance K cl) [] E0 (tVar 1) (tCons (tVar 10) tNil)) (gName 14)) (tSeq (tAsg (tMeth (cl 1) "make_statement" (sp_Ledger_make_statement K cl) [] E0 (tVar 1) (tCons (tVar 10) tNil)) (gTup K 3 (gNames [11, 12, 13]))) (tSeq (tIfS (tOr (tTest (tOp (rNeA K) (tTup (tCons (tVar 11) (tCons (tVar 13) tNil))) (tTup (tCons (tOp (rIxA K cl) (tVar 3) (tVar 10)) (tCons (tVar 14) tNil))))) (tTest (tOp (rNeA K) (tCall (sp_law_rows K cl) [] E0 (tCons (tVar 12) tNil)) (tOp (rIxA K cl) (tVar 4) (tVar 10))))) (tRet (tC (.bl false))) tNext) (tIfS (tOr (tTest (tOp (rNeA K) (tMeth (cl 1) "make_statement" (sp_Ledger_make_statement K cl) [] E0 (tVar 1) (tCons (tVar 10) tNil)) (tTup (tCons (tVar 14) (tCons (tLst tNil) (tCons (tVar 14) tNil)))))) (tTest (tOp (rNeA K) (tMeth (cl 1) "balance" (sp_Ledger_balance K cl) [] E0 (tVar 1) (tCons (tVar 10) tNil)) (tVar 14)))) (tRet (tC (.bl false))) tNext))))) (tRet (tOp (rEqA K) (tMeth (cl 1) "make_statement" (sp_Ledger_make_statement K cl) [] E0 (tVar 1) (tCons (tC (.str "cy")) tNil)) (tTup (tCons (tC (.int 0)) (tCons (tLst tNil) (tCons (tC (.int 0)) tNil))))))))))))
class Cf (K : PySem.W.Frag) (cl : Nat → Addr) : Prop where
  cl_Posting : Cls K (cl 0)
  nf_Posting_account : NoAttr K (cl 0) "account"
  nf_Posting_key : NoAttr K (cl 0) "key"
  nf_Posting_amount : NoAttr K (cl 0) "amount"
  nf_Posting_written : NoAttr K (cl 0) "written"
  cl_Ledger : Cls K (cl 1)
  nf_Ledger_lines : NoAttr K (cl 1) "lines"
  nf_Ledger_stands : NoAttr K (cl 1) "stands"
  nf_Ledger_stated : NoAttr K (cl 1) "stated"
local macro_rules | `(tactic| walk_at "cf") => `(tactic| with_reducible first | exact Cf.cl_Posting | exact Cf.nf_Posting_account | exact Cf.nf_Posting_key | exact Cf.nf_Posting_amount | exact Cf.nf_Posting_written | exact Cf.cl_Ledger | exact Cf.nf_Ledger_lines | exact Cf.nf_Ledger_stands | exact Cf.nf_Ledger_stated)
theorem rd_law_cell {K : PySem.W.Frag} {cl : Nat → Addr} {vs H Q E} (h : sp_law_cell K cl vs H Q E) : t_law_cell K cl ⟨fun _ H' => Q .non H', Q, fun _ _ => False, fun _ _ => False⟩ (start ["script", "k"] vs) H := by
  obtain ⟨ds, d, G, M, ⟨ns, k, rfl, hk, rfl⟩, S, rs, q⟩ := h
  obtain ⟨v0, v1, rfl, r0, r1⟩ := reps2 rs
  obtain rfl := r1.of_int
  unfold t_law_cell
  refine s_seq ?_
  refine s_if S (by walk_at "et") ?_ ?_
  · intro G1 H1 g hc
    obtain ⟨rfl, rfl, -⟩ := g.eq rfl
    have hl : k < (ns.length : Int) := by
      have := of_decide_eq_true hc
      simpa using this
    have hx : atI (List.map D.int ns) k = some (.int (ns.getD k.toNat 0)) := by
      rw [atI_getD (D.int 0) hk (by simpa using hl)]
      simp [List.getD]
    exact s_ret S (ev_op (by walk_at "ev") (by walk_at "ev") (o_ixL hx)) fun v G1 H1 g r => q v G1 H1 g.same g.sep r
  · intro G1 H1 g hc
    obtain ⟨rfl, rfl, -⟩ := g.eq rfl
    have hl : (ns.length : Int) ≤ k := by
      have := of_decide_eq_false hc
      simp at this
      omega
    refine s_next ?_
    refine s_ret (K := K) (cl := cl) S (by walk_at "ev") fun v G1 H1 g r => q v G1 H1 g.same g.sep ?_
    rw [List.getD_eq_getElem?_getD, List.getElem?_eq_none (by omega)]
    exact r
theorem rd_law_state {K : PySem.W.Frag} {cl : Nat → Addr} {vs H Q E} (h : sp_law_state K cl vs H Q E) : t_law_state K cl ⟨fun _ H' => Q .non H', Q, fun _ _ => False, fun _ _ => False⟩ (start ["cell", "k", "prime", "first", "second", "third", "fourth"] vs) H := by
  obtain ⟨G, M, S, c, k, rfl, q⟩ := h
  unfold t_law_state
  refine s_seq ?_
  refine s_if (K := K) (cl := cl) S (by walk_at "et") ?_ ?_
  · intro G1 H1 g hc
    refine s_retG g.sep (eg_lst (K := K) (cl := cl) (F := fun v G' M' => ∃ p s, v = .ref p ∧ M' = (p, .lst [.int s]) :: M) (by walk_at "ea") (Nat.le_of_ble_eq_true rfl) fun u vs G' s r => ⟨u, c, rfl, ?_⟩) ?_
    · obtain ⟨x, rfl, hx⟩ := reps1 r
      rw [hx.of_int]
    · rintro v G' H' M' s' S' ⟨p, z, rfl, rfl⟩
      exact q p z G' (g.same.trans s') (g.same.trans s') H' S'
  · intro G1 H1 g hc
    obtain ⟨rfl, rfl, -⟩ := g.eq rfl
    refine s_next ?_
    refine s_seq ?_
    refine s_asg (K := K) (cl := cl) S (by walk_at "ev") ?_
    intro w1 G1 H1 g1 r1
    obtain ⟨rfl, rfl, -⟩ := g1.eq rfl
    obtain rfl := r1.of_int
    refine s_seq ?_
    refine s_asg (K := K) (cl := cl) S (by walk_at "ev") ?_
    intro w2 G2 H2 g2 r2
    obtain ⟨rfl, rfl, -⟩ := g2.eq rfl
    obtain ⟨z1, rfl, h10, h11⟩ : ∃ z, w2 = .int z ∧ 0 ≤ z ∧ z < 2305843009213693951 := ⟨_, r2.of_int, Int.emod_nonneg _ (by decide), Int.emod_lt_of_pos _ (by decide)⟩
    refine s_seq ?_
    refine s_asg (K := K) (cl := cl) S (by walk_at "ev") ?_
    intro w3 G3 H3 g3 r3
    obtain ⟨rfl, rfl, -⟩ := g3.eq rfl
    obtain ⟨z2, rfl, h20, h21⟩ : ∃ z, w3 = .int z ∧ 0 ≤ z ∧ z < 2305843009213693951 := ⟨_, r3.of_int, Int.emod_nonneg _ (by decide), Int.emod_lt_of_pos _ (by decide)⟩
    refine s_seq ?_
    refine s_asg (K := K) (cl := cl) S (by walk_at "ev") ?_
    intro w4 G4 H4 g4 r4
    obtain ⟨rfl, rfl, -⟩ := g4.eq rfl
    obtain ⟨z3, rfl, h30, h31⟩ : ∃ z, w4 = .int z ∧ 0 ≤ z ∧ z < 2305843009213693951 := ⟨_, r4.of_int, Int.emod_nonneg _ (by decide), Int.emod_lt_of_pos _ (by decide)⟩
    refine s_seq ?_
    refine s_asg (K := K) (cl := cl) S (by walk_at "ev") ?_
    intro w5 G5 H5 g5 r5
    obtain ⟨rfl, rfl, -⟩ := g5.eq rfl
    obtain ⟨z4, rfl, h40, h41⟩ : ∃ z, w5 = .int z ∧ 0 ≤ z ∧ z < 2305843009213693951 := ⟨_, r5.of_int, Int.emod_nonneg _ (by decide), Int.emod_lt_of_pos _ (by decide)⟩
    refine s_retG S (eg_lst (K := K) (cl := cl) (F := fun v G' M' => ∃ p s, v = .ref p ∧ M' = (p, .lst [.int s]) :: M) (by walk_at "ea") (Nat.le_of_ble_eq_true rfl) fun u vs G' s r => ?_) ?_
    · obtain ⟨x, rfl, hx⟩ := reps1 r
      rw [hx.of_int]
      exact ⟨u, _, rfl, rfl⟩
    · rintro v G' H' M' s' S' ⟨p, z, rfl, rfl⟩
      exact q p z G' s' s' H' S'
theorem rd_law_digit {K : PySem.W.Frag} {cl : Nat → Addr} {vs H Q E} (h : sp_law_digit K cl vs H Q E) : t_law_digit K cl ⟨fun _ H' => Q .non H', Q, fun _ _ => False, fun _ _ => False⟩ (start ["state", "many", "digit"] vs) H := by
  obtain ⟨G, M, S, a, s, m, M0, rfl, rfl, h0, h1, q⟩ := h
  unfold t_law_digit
  refine s_seq ?_
  refine s_asg (K := K) (cl := cl) S (by walk_at "ev") ?_
  intro v G1 H1 g r
  obtain ⟨rfl, rfl, -⟩ := g.eq rfl
  obtain rfl := r.of_int
  refine s_seq ?_
  refine s_set (K := K) (cl := cl) (j := 0) S (by walk_at "ev") (by walk_at "ev") (by walk_at "ev") (fun v => Ch.hd) rfl ?_
  intro v G1 H1 s1 S1 r
  obtain rfl := r.of_int
  refine s_ret (K := K) (cl := cl) S1 (by walk_at "ev") fun w G2 H2 g2 r2 => ?_
  obtain ⟨rfl, rfl, -⟩ := g2.eq rfl
  obtain rfl := r2.of_int
  exact q _ s1 s1 _ S1
theorem rd_law_large {K : PySem.W.Frag} {cl : Nat → Addr} {vs H Q E} (h : sp_law_large K cl vs H Q E) : t_law_large K cl ⟨fun _ H' => Q .non H', Q, fun _ _ => False, fun _ _ => False⟩ (start ["script"] vs) H := by
  obtain ⟨G, M, S, v, ns, rfl, r0, q⟩ := h
  unfold t_law_large
  refine eg_state (K := K) (cl := cl) (M1 := M) (c := ns.getD 0 0) (k := 97) (E := E0) (by walk_at "ea") G H (Same.refl _) S _ ?_
  rintro x G1 H1 M1 s1 S1 ⟨p, s, rfl, rfl⟩
  refine ⟨G1, _, S1, p, s, 4, M, rfl, rfl, by decide, by decide, fun G2 s2 _ H2 S2 => ?_⟩
  refine .inl ⟨rfl, ?_⟩
  exact q _ G2 (s1.trans s2) (s1.trans s2) H2 S2.drop
theorem rd_Posting_init {K : PySem.W.Frag} {cl : Nat → Addr} [Cf K cl] {vs H Q E} (h : sp_Posting_init K cl vs H Q E) : t_Posting_init K cl ⟨fun _ H' => Q .non H', Q, fun _ _ => False, fun _ _ => False⟩ (start ["self", "account", "key", "amount", "written"] vs) H := by
  obtain ⟨x, dx, us, ds, es, G, M, rfl, ⟨hl, rfl⟩, S, rs, k⟩ := h
  obtain ⟨v1, v2, v3, v4, rfl⟩ : ∃ a b c d, us = [a, b, c, d] := by
    rw [← rs.length] at hl
    match us, hl with
    | [a, b, c, d], _ => exact ⟨a, b, c, d, rfl⟩
  match es, hl, rs with
  | [d1, d2, d3, d4], _, rs =>
  obtain ⟨_, _, e, r1, rs1⟩ := rs.uncons; cases e
  obtain ⟨_, _, e, r2, rs2⟩ := rs1.uncons; cases e
  obtain ⟨_, _, e, r3, rs3⟩ := rs2.uncons; cases e
  obtain ⟨_, _, e, r4, rs4⟩ := rs3.uncons; cases e
  unfold t_Posting_init
  refine s_seq ?_
  refine s_fldN S (by walk_at "ev") (by walk_at "ev") (fun v => Ch.hd) (by walk_at "cf") (by walk_at "cf") rfl (by decide +kernel) (by decide) ?_
  intro w1 G1 H1 s1 S1 q1
  refine s_seq ?_
  refine s_fldN S1 (by walk_at "ev") (by walk_at "ev") (fun v => Ch.hd) (by walk_at "cf") (by walk_at "cf") rfl (by decide +kernel) (by decide) ?_
  intro w2 G2 H2 s2 S2 q2
  refine s_seq ?_
  refine s_fldN S2 (by walk_at "ev") (by walk_at "ev") (fun v => Ch.hd) (by walk_at "cf") (by walk_at "cf") rfl (by decide +kernel) (by decide) ?_
  intro w3 G3 H3 s3 S3 q3
  refine s_fldN S3 (by walk_at "ev") (by walk_at "ev") (fun v => Ch.hd) (by walk_at "cf") (by walk_at "cf") rfl (by decide +kernel) (by decide) ?_
  intro w4 G4 H4 s4 S4 q4
  exact k [w1, w2, w3, w4] G4 H4 (by walk_at "same") S4 rfl (Reps.cons (by walk_at "repc") (Reps.cons (by walk_at "repc") (Reps.cons (by walk_at "repc") (Reps.one q4))))
theorem rd_Ledger_postings {K : PySem.W.Frag} {cl : Nat → Addr} [Cf K cl] {vs H Q E} (h : sp_Ledger_postings K cl vs H Q E) : t_Ledger_postings K cl ⟨fun _ H' => Q .non H', Q, fun _ _ => False, fun _ _ => False⟩ (start ["self", "account", "posting"] vs) H := by
  obtain ⟨G, M, S, x, dx, s, vl, vu, ep, kvs, M0, acc, lines, rfl, rfl, rl, hl, q⟩ := h
  unfold t_Ledger_postings
  refine s_ret (K := K) (cl := cl) S (ev_lc (f := fun d => d) (keep := fun d => decide (dacc d = acc)) (by walk_at "ev") (.inl rfl) (by rw [List.length_map]; omega) ?_) fun w G1 H1 g1 rw' => ?_
  · intro G1 e y d s1 hd ry
    obtain ⟨p, hp, rfl⟩ := List.mem_map.mp hd
    exact lcT1 rfl (by walk_at "et") fun _ => by walk_at "ev"
  · rw [List.map_id', List.filter_map] at rw'
    exact q G1 w g1.same rw' g1.same _ g1.sep
theorem rd_law_rows {K : PySem.W.Frag} {cl : Nat → Addr} [Cf K cl] {vs H Q E} (h : sp_law_rows K cl vs H Q E) : t_law_rows K cl ⟨fun _ H' => Q .non H', Q, fun _ _ => False, fun _ _ => False⟩ (start ["postings", "posting"] vs) H := by
  obtain ⟨ds, d, G, M, ⟨l, rfl, hl, rfl⟩, S, rs, q⟩ := h
  obtain ⟨v0, rfl, r0⟩ := reps1 rs
  unfold t_law_rows
  refine s_ret (K := K) (cl := cl) S (ev_lc (f := rowOf) (keep := fun _ => true) (by walk_at "ev") (.inl rfl) (by rw [List.length_map]; omega) ?_) fun w G1 H1 g1 rw' => ?_
  · intro G1 e y d s1 hd ry
    obtain ⟨p, hp, rfl⟩ := List.mem_map.mp hd
    exact lcT1 rfl (by walk_at "et") fun _ => by
      with_reducible apply EvX.is
      · with_reducible apply ev_tup
        · with_reducible apply ea_cons
          · walk_at "ev"
          · with_reducible apply ea_cons
            · walk_at "ev"
            · walk_at "ea"
        · exact Nat.le_of_ble_eq_true rfl
      · exact rfl
  · rw [List.filter_eq_self.mpr (fun _ _ => rfl), List.map_map] at rw'
    exact q w G1 H1 g1.same g1.sep rw'
theorem rd_Ledger_balance {K : PySem.W.Frag} {cl : Nat → Addr} [Cf K cl] {vs H Q E} (h : sp_Ledger_balance K cl vs H Q E) : t_Ledger_balance K cl ⟨fun _ H' => Q .non H', Q, fun _ _ => False, fun _ _ => False⟩ (start ["self", "account", "total", "posting"] vs) H := by
  obtain ⟨G, M, S, x, dx, s, vl, vu, ep, kvs, M0, acc, lines, rfl, rfl, rl, hl, q⟩ := h
  unfold t_Ledger_balance
  refine s_seq ?_
  refine s_asg (K := K) (cl := cl) S (by walk_at "ev") ?_
  intro v1 G1 H1 g1 r1
  obtain ⟨rfl, rfl, -⟩ := g1.eq rfl
  obtain rfl := r1.of_int
  refine s_seq ?_
  apply s_forL (K := K) (cl := cl) (ds := List.map Posting.d (List.filter (fun p => decide (p.account = acc)) lines)) (fun i σ G' M' => ∃ y3, σ = [some (.ref x), some (.str acc), some (.int (((List.filter (fun p => decide (p.account = acc)) lines).take i).map fun p => p.amount).sum), y3] ∧ M' = LedM cl x dx s vl vu ep kvs M0) S
  · refine ev_methP (M4 := LedM cl x dx s vl vu ep kvs M0) (by walk_at "ev") (by walk_at "at") rfl (by walk_at "ea") (List.Perm.refl _) (List.Perm.refl _) ?_
    intro vs G' T s1 rs1 hT
    obtain ⟨u, rfl, ru⟩ := reps1 rs1
    obtain rfl := ru.of_str
    exact ⟨x, dx, s, vl, vu, ep, kvs, M0, acc, lines, rfl, rfl, by walk_at "repc", hl, fun G2 w s2 rw' => hT w G2 s2 rw'⟩
  · intro G3 H3 g3
    exact ⟨_, rfl, rfl⟩
  · rintro G3 s3 i y d σ' G4 H4 M4 hd s4 S4 r4 ⟨y3, rfl, rfl⟩
    rw [List.getElem?_map] at hd
    cases hx : (List.filter (fun p => decide (p.account = acc)) lines)[i]? with
    | none => rw [hx] at hd; cases hd
    | some p =>
    rw [hx] at hd
    obtain rfl : p.d = d := Option.some.inj hd
    refine s_gname ?_
    refine s_asg (K := K) (cl := cl) S4 (by walk_at "ev") ?_
    intro v5 G5 H5 g5 r5
    obtain ⟨rfl, rfl, -⟩ := g5.eq rfl
    obtain rfl := r5.of_int
    refine ⟨_, _, s4, S4, some y, ?_, rfl⟩
    rw [sum_take hx]
    rfl
  · rintro σ' G5 H5 M5 s5 S5 ⟨y3, rfl, rfl⟩
    rw [List.length_map, List.take_length, sum_filterP]
    refine s_ret (K := K) (cl := cl) S5 (by walk_at "ev") fun w G6 H6 g6 r6 => ?_
    obtain ⟨rfl, rfl, -⟩ := g6.eq rfl
    obtain rfl := r6.of_int
    exact q _ s5 s5 _ S5
theorem post_end {K : PySem.W.Frag} {cl : Nat → Addr} [Cf K cl] {G H : Hp} {M0 : ML} {x dx s p : Addr} {v1 vl vu vb : V} {ep : Nat} {kvs : NKV} {acc : Str} {amt clk c : Int} {k : NestedKey} {us : List V} {l lines : List Posting} {st : Sd} {Q : VK}
    (S : Sep G H ((p, .lst us) :: LedM cl x dx s vl vu ep kvs M0)) (ru : Reps K cl G us (List.map Posting.d l)) (r1 : Rep K cl G v1 (keyD k)) (hk : IsNK k) (hl : l.length ≤ 2) (R : LedR K cl G vl kvs lines st) (rb : Rep K cl G vb ((valG (sdD st) k).getD .non))
    (q : ∀ G' w vl' ep' kvs', Same G G' → Rep K cl G' w (.lst (List.map Posting.d (l ++ if c = 0 then [] else [⟨acc, k, c, clk⟩]))) → Rep K cl G' vl' (.lst (List.map Posting.d (lines ++ (l ++ if c = 0 then [] else [⟨acc, k, c, clk⟩])))) → NRep K cl G' kvs' (sdD (standF st k acc amt)) → ∀ H', Sep G' H' (LedM cl x dx s vl' vu ep' kvs' M0) → Q w H') :
    tSeq (tIfS (tTest (tOp (rNeA K) (tVar 7) (tC (.int 0)))) (tDrop (tBM K "list" rAppend (tVar 6) (tCons (tMake (cl 0) (sp_Posting_init K cl) [] E0 (tCons (tVar 2) (tCons (tVar 1) (tCons (tVar 7) (tCons (tVar 4) tNil))))) tNil))) tNext)
      (tSeq (tIfS (tTest (tOp (rNeA K) (tVar 3) (tC (.int 0)))) (tAsg (tTup (tCons (tVar 2) (tCons (tVar 3) tNil))) (gSub (tFld K (tVar 0) "stands") (tVar 1) (rSetA K cl))) (tIfS (tTest (tOp (rNotN) (tVar 5) (tC .non))) (sDelA K cl (tFld K (tVar 0) "stands") (tVar 1)) tNext))
      (tSeq (sFld K (tVar 0) (tOp (rAdd K) (tFld K (tVar 0) "lines") (tVar 6)) "lines") (tRet (tVar 6))))
      ⟨fun _ H' => Q .non H', Q, fun _ _ => False, fun _ _ => False⟩ [some (.ref x), some v1, some (.str acc), some (.int amt), some (.int clk), some vb, some (.ref p), some (.int c)] H := by
  obtain ⟨Rl, Rs, hll, hsl⟩ := R
  refine s_seq ?_
  refine s_ifJ (K := K) (cl := cl) (fun σ' G' M' => ∃ us', σ' = [some (.ref x), some v1, some (.str acc), some (.int amt), some (.int clk), some vb, some (.ref p), some (.int c)] ∧ M' = (p, .lst us') :: LedM cl x dx s vl vu ep kvs M0 ∧ Reps K cl G' us' (List.map Posting.d (l ++ if c = 0 then [] else [⟨acc, k, c, clk⟩]))) S (by walk_at "et") ?_ ?_ ?_
  · intro kk G1 H1 g1 hc
    obtain ⟨rfl, rfl, -⟩ := g1.eq rfl
    have hc' : ¬ c = 0 := by simpa using hc
    refine s_app (K := K) (cl := cl) (d := Posting.d ⟨acc, k, c, clk⟩) S (by walk_at "ev") (by walk_at "at") (ev_make (by walk_at "ea") ⟨rfl, rfl⟩) (fun v => Ch.hd) ?_ ?_
    · have := ru.length
      rw [List.length_map] at this
      omega
    intro w G2 H2 s2 S2 r2
    refine kk _ G2 H2 _ s2 S2 ⟨_, rfl, rfl, ?_⟩
    rw [if_neg hc', List.map_append]
    exact (ru.mono s2).append (Reps.one r2)
  · intro kk G1 H1 g1 hc
    obtain ⟨rfl, rfl, -⟩ := g1.eq rfl
    have hc' : c = 0 := by simpa using hc
    refine s_next ?_
    refine kk _ _ _ _ (Same.refl _) S ⟨us, rfl, rfl, ?_⟩
    rw [if_pos hc', List.append_nil]
    exact ru
  rintro σ' G1 H1 M1 s1 S1 ⟨us', rfl, rfl, ru'⟩
  generalize hF : (l ++ if c = 0 then [] else [⟨acc, k, c, clk⟩] : List Posting) = F at q ru'
  have hFl : F.length ≤ 3 := by
    rw [← hF, List.length_append]
    split <;> simp <;> omega
  obtain ⟨S2, s2⟩ := S1.freeze
  have rF : Rep K cl (upd G1 p (.lst us')) (.ref p) (.lst (List.map Posting.d F)) := Rep.lst (.inl (.inl upd_same)) (ru'.mono s2)
  have r1' : Rep K cl (upd G1 p (.lst us')) v1 (keyD k) := (r1.mono s1).mono s2
  have Rl' : Rep K cl (upd G1 p (.lst us')) vl (.lst (List.map Posting.d lines)) := (Rl.mono s1).mono s2
  have Rs' : NRep K cl (upd G1 p (.lst us')) kvs (sdD st) := (Rs.mono s1).mono s2
  have rb' := (rb.mono s1).mono s2
  have sG := s1.trans s2
  clear S1 s1 s2 ru' ru r1 Rl Rs rb S
  generalize upd G1 p (.lst us') = G3 at *
  clear us' G1
  refine s_seq ?_
  have hsd : (sdD st).length ≤ 100000 := by unfold sdD; rw [List.length_map]; omega
  refine s_ifJ (K := K) (cl := cl) (fun σ' G' M' => ∃ ep' kvs', σ' = [some (.ref x), some v1, some (.str acc), some (.int amt), some (.int clk), some vb, some (.ref p), some (.int c)] ∧ M' = LedM cl x dx s vl vu ep' kvs' M0 ∧ NRep K cl G' kvs' (sdD (standF st k acc amt))) S2 (by walk_at "et") ?_ ?_ ?_
  · intro kk G4 H4 g4 hc
    obtain ⟨rfl, rfl, -⟩ := g4.eq rfl
    have hc' : ¬ amt = 0 := by simpa using hc
    refine s_nput (K := K) (cl := cl) (d := pairD (acc, amt)) (kds := sdD st) S2 (by walk_at "ev") (by walk_at "ev") (by walk_at "ev") rfl hk Rs' hsd (fun ep' b v => Ch.tl Ch.hd) ?_
    intro ep' b v G5 H5 s5 S5 r5
    refine kk _ G5 H5 _ s5 S5 ⟨ep', _, rfl, rfl, ?_⟩
    rw [standF_put hc']
    exact r5
  · intro kk G4 H4 g4 hc
    obtain ⟨rfl, rfl, -⟩ := g4.eq rfl
    have hc' : amt = 0 := by simpa using hc
    cases hv : valG (sdD st) k with
    | none =>
      rw [hv] at rb'
      obtain rfl := (show Rep K cl _ vb .non from rb').of_non
      refine s_if (K := K) (cl := cl) (b := false) S2 (by (with_reducible apply EvT.is); walk_at "et"; exact rfl) ?_ ?_
      · intro _ _ _ hc; cases hc
      intro G5 H5 g5 _
      obtain ⟨rfl, rfl, -⟩ := g5.eq rfl
      refine s_next ?_
      refine kk _ _ _ _ (Same.refl _) S2 ⟨ep, kvs, rfl, rfl, ?_⟩
      rw [standF_drop hc', dropG_none hv]
      exact Rs'
    | some d =>
      rw [hv] at rb'
      have hd : d.isNon = false := by
        rw [valG_sd] at hv
        cases hst : valG st k with
        | none => rw [hst] at hv; cases hv
        | some e => rw [hst] at hv; rw [← Option.some.inj hv]; rfl
      have rb2 : Rep K cl _ vb d := rb'
      clear rb'
      refine s_if (K := K) (cl := cl) (b := !d.isNon) S2 (by walk_at "et") ?_ ?_
      · intro G5 H5 g5 _
        obtain ⟨rfl, rfl, -⟩ := g5.eq rfl
        refine s_ndel (K := K) (cl := cl) (kds := sdD st) S2 (by walk_at "ev") (by walk_at "ev") rfl hk Rs' (by rw [hv]; rfl) (fun ep' => Ch.tl Ch.hd) ?_
        intro ep' G6 H6 s6 S6 r6
        refine kk _ G6 H6 _ s6 S6 ⟨ep', _, rfl, rfl, ?_⟩
        rw [standF_drop hc']
        exact r6
      · intro _ _ _ hc
        rw [hd] at hc
        cases hc
  rintro σ' G6 H6 M6 s6 S6 ⟨ep', kvs', rfl, rfl, r6⟩
  have rF6 := rF.mono s6
  have Rl6 := Rl'.mono s6
  refine s_seq ?_
  refine s_fldU (K := K) (cl := cl) (d := .lst (List.map Posting.d lines ++ List.map Posting.d F)) (i := 0) S6 (ev_op (by walk_at "ev") (by walk_at "ev") (o_catL (by simp only [List.length_map]; omega))) (by walk_at "ev") rfl (fun v => Ch.hd) (by walk_at "cf") (by walk_at "cf") rfl (by decide) ?_
  intro w7 G7 H7 s7 S7 r7
  rw [← List.map_append] at r7
  have rF7 := rF6.mono s7
  refine s_ret (K := K) (cl := cl) S7 (by walk_at "ev") fun v8 G8 H8 g8 r8 => ?_
  obtain ⟨rfl, rfl, -⟩ := g8.eq rfl
  exact q _ v8 w7 ep' kvs' ((sG.trans s6).trans s7) r8 r7 (r6.mono s7) _ S7
theorem rd_Ledger_post {K : PySem.W.Frag} {cl : Nat → Addr} [Cf K cl] {vs H Q E} (h : sp_Ledger_post K cl vs H Q E) : t_Ledger_post K cl ⟨fun _ H' => Q .non H', Q, fun _ _ => False, fun _ _ => False⟩ (start ["self", "key", "account", "amount", "clock", "before", "found", "change"] vs) H := by
  obtain ⟨G, M, S, x, dx, s, vl, vu, ep, kvs, M0, v1, k, acc, amt, clk, lines, st, rfl, rfl, r1, hk, R, q⟩ := h
  unfold t_Ledger_post
  refine s_seq ?_
  have Rs := R.s
  refine s_asg (K := K) (cl := cl) S (ev_nget1 (by walk_at "ev") (by walk_at "ev") rfl hk (by walk_at "at") (by walk_at "at") Rs) ?_
  intro vb G0 H0 g0 rb
  obtain ⟨rfl, rfl, -⟩ := g0.eq rfl
  refine s_seq ?_
  refine s_asgG S eg_nil ?_
  rintro _ G1 H1 _ s1 S1 ⟨p, rfl, rfl⟩
  refine s_seq ?_
  refine s_asg (K := K) (cl := cl) S1 (by walk_at "ev") ?_
  intro v2 G2 H2 g2 q2
  obtain ⟨rfl, rfl, -⟩ := g2.eq rfl
  obtain rfl := q2.of_int
  have rb1 := rb.mono s1
  refine s_seq ?_
  cases hst : valG st k with
  | none =>
    have hv : valG (sdD st) k = none := by rw [valG_sd, hst]; rfl
    have rb2 := rb1
    rw [hv] at rb2
    obtain rfl := rb2.of_non
    refine s_if (K := K) (cl := cl) (b := false) S1 (et_and (q := true) (a := false) (b := true) (by (with_reducible apply EvT.is); walk_at "et"; exact rfl) (fun h => by cases h)) ?_ ?_
    · intro _ _ _ hc; cases hc
    intro G3 H3 g3 _
    obtain ⟨rfl, rfl, -⟩ := g3.eq rfl
    refine s_if (K := K) (cl := cl) (b := false) S1 (by (with_reducible apply EvT.is); walk_at "et"; exact rfl) ?_ ?_
    · intro _ _ _ hc; cases hc
    intro G4 H4 g4 _
    obtain ⟨rfl, rfl, -⟩ := g4.eq rfl
    refine s_next ?_
    exact post_end (l := []) S1 Reps.nil (r1.mono s1) hk (by decide) (R.mono s1) rb1 fun G5 w vl' ep' kvs' s5 rw' rl' rn' H5 S5 => q G5 w vl' ep' kvs' (s1.trans s5) (by rw [found_none hst]; exact rw') (by rw [found_none hst]; exact rl') rn' (s1.trans s5) H5 S5
  | some v =>
    obtain ⟨a, m⟩ := v
    have hv : valG (sdD st) k = some (pairD (a, m)) := by rw [valG_sd, hst]; rfl
    have rb2 : Rep K cl G2 vb (.tup [.str a, .int m]) := by rw [hv] at rb1; exact rb1
    have rr1 := r1.mono s1
    have hb := fun h => Bool.false_ne_true h
    refine s_if (K := K) (cl := cl) (b := true && decide (a = acc)) S1 (et_and (a := true) (by (with_reducible apply EvT.is); walk_at "et"; exact rfl) (fun h => by walk_at "et")) ?_ ?_
    · intro G3 H3 g3 hc
      obtain ⟨rfl, rfl, -⟩ := g3.eq rfl
      have hn : a = acc := by simpa using hc
      refine s_asg (K := K) (cl := cl) S1 (by walk_at "ev") ?_
      intro v5 G5 H5 g5 q5
      obtain ⟨rfl, rfl, -⟩ := g5.eq rfl
      obtain rfl := q5.of_int
      subst hn
      exact post_end (l := []) S1 Reps.nil (r1.mono s1) hk (by decide) (R.mono s1) rb1 fun G5 w vl' ep' kvs' s5 rw' rl' rn' H5 S5 => q G5 w vl' ep' kvs' (s1.trans s5) (by rw [found_same hst]; exact rw') (by rw [found_same hst]; exact rl') rn' (s1.trans s5) H5 S5
    · intro G3 H3 g3 hc
      obtain ⟨rfl, rfl, -⟩ := g3.eq rfl
      have hn : a ≠ acc := by simpa using hc
      refine s_if (K := K) (cl := cl) (b := true) S1 (by (with_reducible apply EvT.is); walk_at "et"; exact rfl) ?_ ?_
      · intro G4 H4 g4 _
        obtain ⟨rfl, rfl, -⟩ := g4.eq rfl
        refine s_app (K := K) (cl := cl) (d := Posting.d ⟨a, k, -m, clk⟩) S1 (by walk_at "ev") (by walk_at "at") (ev_make (by walk_at "ea") ⟨rfl, rfl⟩) (fun v => Ch.hd) (by decide) ?_
        intro w G4 H4 s4 S4 r4
        exact post_end (l := [⟨a, k, -m, clk⟩]) S4 (Reps.one r4) (rr1.mono s4) hk (Nat.le_of_ble_eq_true rfl) ((R.mono s1).mono s4) (rb1.mono s4) fun G5 w vl' ep' kvs' s5 rw' rl' rn' H5 S5 => q G5 w vl' ep' kvs' ((s1.trans s4).trans s5) (by rw [found_other hst hn]; exact rw') (by rw [found_other hst hn]; exact rl') rn' ((s1.trans s4).trans s5) H5 S5
      · intro _ _ _ hc; cases hc
theorem rd_Ledger_init {K : PySem.W.Frag} {cl : Nat → Addr} [Cf K cl] {vs H Q E} (h : sp_Ledger_init K cl vs H Q E) : t_Ledger_init K cl ⟨fun _ H' => Q .non H', Q, fun _ _ => False, fun _ _ => False⟩ (start ["self"] vs) H := by
  obtain ⟨G, M, S, x, dx, M0, rfl, rfl, q⟩ := h
  unfold t_Ledger_init
  refine s_seq ?_
  refine s_fldN S (ev_lst (K := K) (cl := cl) (by walk_at "ea") (Nat.le_of_ble_eq_true rfl)) (by walk_at "ev") (fun v => Ch.hd) (by walk_at "cf") (by walk_at "cf") rfl (by decide +kernel) (by decide) ?_
  intro w1 G1 H1 s1 S1 q1
  refine s_seq ?_
  refine s_fldGN (K := K) (cl := cl) (a := x) (C := cl 1) (dx := dx) (ns := ["lines"]) (vs := [w1]) (F := fun v G' M' => ∃ s, v = .ref s ∧ M' = (s, nD s 0 []) :: (x, .ins (cl 1) dx (List.zip ["lines"] [w1])) :: M0) S1 (eg_newN (fun u => ⟨u, rfl, rfl⟩) fun v G' M' _ h => h) (by walk_at "cf") (by walk_at "cf") rfl (by decide +kernel) (by decide) ?_
  rintro _ G2 H2 _ s2 S2 ⟨s, rfl, rfl⟩
  refine ⟨_, _, _, by walk_at "ev", Ch.tl Ch.hd, fun G3 H3 s3 S3 => ?_⟩
  refine s_fldGN (K := K) (cl := cl) (a := x) (C := cl 1) (dx := dx) (ns := ["lines", "stands"]) (vs := [w1, .ref s]) (F := fun v G' M' => ∃ u, v = .ref u ∧ M' = (u, .dK []) :: (s, nD s 0 []) :: (x, .ins (cl 1) dx (List.zip ["lines", "stands"] [w1, .ref s])) :: M0) S3 (eg_newK (fun u => ⟨u, rfl, rfl⟩) fun v G' M' _ h => h) (by walk_at "cf") (by walk_at "cf") rfl (by decide +kernel) (by decide) ?_
  rintro _ G4 H4 _ s4 S4 ⟨u, rfl, rfl⟩
  refine ⟨_, _, _, by walk_at "ev", Ch.tl (Ch.tl Ch.hd), fun G5 H5 s5 S5 => ?_⟩
  refine q G5 w1 s u (by walk_at "same") (by walk_at "repc") (by walk_at "same") _ (S5.perm ?_)
  exact perm3.trans ((List.Perm.swap _ _ _).cons _)
theorem rd_Ledger_make_statement {K : PySem.W.Frag} {cl : Nat → Addr} [Cf K cl] {vs H Q E} (h : sp_Ledger_make_statement K cl vs H Q E) : t_Ledger_make_statement K cl ⟨fun _ H' => Q .non H', Q, fun _ _ => False, fun _ _ => False⟩ (start ["self", "account", "count", "opening", "postings", "closing", "posting"] vs) H := by
  obtain ⟨G, M, S, x, dx, s, u, vl, ep, kvs, kws, M0, acc, lines, kes, c, o, rfl, rfl, rl, hl, rk, hkl, hv, q⟩ := h
  unfold t_Ledger_make_statement
  refine s_seq ?_
  refine s_asgT (K := K) (cl := cl) (ds := [.int c, .int o]) (M1 := LedM cl x dx s vl (.ref u) ep kvs ((u, .dK kws) :: M0)) S (by
    (with_reducible apply EvX.is)
    · refine ev_kget2 (k := .inr acc) (kes := kes) (d2 := .tup [.int 0, .int 0]) (by walk_at "ev") (by walk_at "ev") (by walk_at "ev") rfl (by walk_at "at") (by walk_at "at") rk
    · exact hv) rfl rfl ?_
  intro vs1 G1 H1 g1 r1
  have s1 := g1.same
  have S1 := g1.sep
  clear g1
  obtain ⟨a, b, rfl, ra, rb⟩ := reps2 r1
  obtain rfl := ra.of_int
  obtain rfl := rb.of_int
  have rl1 := rl.mono s1
  have rk1 := rk.mono s1
  refine s_seq ?_
  refine s_asg (K := K) (cl := cl) (d := .lst (List.map Posting.d (pf acc lines))) S1 (ev_methP (M1 := LedM cl x dx s vl (.ref u) ep kvs ((u, .dK kws) :: M0)) (M4 := LedM cl x dx s vl (.ref u) ep kvs ((u, .dK kws) :: M0)) (by walk_at "ev") (by walk_at "at") rfl (by walk_at "ea") (List.Perm.refl _) (List.Perm.refl _) ?_) ?_
  · intro vs G' T sB rsB hT
    obtain ⟨y, rfl, ry⟩ := reps1 rsB
    obtain rfl := ry.of_str
    exact ⟨x, dx, s, vl, .ref u, ep, kvs, _, acc, lines, rfl, rfl, rl1.mono sB, hl, fun G2 w s2 rw' => hT w G2 s2 rw'⟩
  intro vp G2 H2 g2 r2
  have s2 := g2.same
  have S2 := g2.sep
  clear g2
  have rl2 := rl1.mono s2
  have rk2 := rk1.mono s2
  refine s_seq ?_
  refine s_asg (K := K) (cl := cl) S2 (by walk_at "ev") ?_
  intro v3 G3 H3 g3 q3
  obtain ⟨rfl, rfl, -⟩ := g3.eq rfl
  obtain rfl := q3.of_int
  refine s_seq ?_
  have hpl : (pf acc lines).length ≤ 1000 := Nat.le_trans (List.length_filter_le _ _) hl
  apply s_forL (K := K) (cl := cl) (ds := List.map Posting.d ((pf acc lines).drop c)) (fun i σ G' M' => ∃ y6, σ = [some (.ref x), some (.str acc), some (.int c), some (.int o), some vp, some (.int (o + amts (((pf acc lines).drop c).take i))), y6] ∧ M' = LedM cl x dx s vl (.ref u) ep kvs ((u, .dK kws) :: M0)) S2
  · (with_reducible apply EvX.is)
    · exact ev_slL (p := true) (q := true) (r := true) (ds := List.map Posting.d (pf acc lines)) (lo := some (c : Int)) (hi := none) (by walk_at "ev") (by walk_at "eo") (by walk_at "eo")
    · rw [cut_drop, List.map_drop]
  · intro G4 H4 g4
    have e0 : o + amts (((pf acc lines).drop c).take 0) = o := by simp [amts]
    exact ⟨none, by rw [e0]; rfl, rfl⟩
  · rintro G4 s4 i y d σ' G5 H5 M5 hd s5 S5 r5 ⟨y6, rfl, rfl⟩
    rw [List.getElem?_map] at hd
    cases hx : ((pf acc lines).drop c)[i]? with
    | none => rw [hx] at hd; cases hd
    | some p =>
    rw [hx] at hd
    obtain rfl : p.d = d := Option.some.inj hd
    refine s_gname ?_
    refine s_asg (K := K) (cl := cl) S5 (by walk_at "ev") ?_
    intro v6 G6 H6 g6 r6
    obtain ⟨rfl, rfl, -⟩ := g6.eq rfl
    obtain rfl := r6.of_int
    refine ⟨_, _, s5, S5, some y, ?_, rfl⟩
    unfold amts
    rw [sum_take hx, ← Int.add_assoc]
    rfl
  rintro σ' G5 H5 M5 s5 S5 ⟨y6, rfl, rfl⟩
  rw [List.length_map, List.take_length]
  have r25 := r2.mono s5
  have rk5 := rk2.mono s5
  refine s_seq ?_
  refine s_kput (K := K) (cl := cl) (k := .inr acc) (d := stD (pf acc lines).length (o + amts ((pf acc lines).drop c))) (kes := kes) S5 (by
    (with_reducible apply EvX.is)
    · walk_at "ev"
    · rw [List.length_map]) (by walk_at "ev") (by walk_at "ev") rfl rk5 (by omega) (fun v => Ch.tl (Ch.tl Ch.hd)) ?_
  intro v6 G6 H6 s6 S6 r6
  have r26 := r25.mono s6
  refine s_ret (K := K) (cl := cl) (d := .tup [.int o, .lst (List.map Posting.d ((pf acc lines).drop c)), .int (o + amts ((pf acc lines).drop c))]) S6 (by
    (with_reducible apply EvX.is)
    · exact ev_tup (ea_cons (ev_var rfl Rep.int) (ea_cons (ev_slL (p := true) (q := true) (r := true) (ds := List.map Posting.d (pf acc lines)) (lo := some (c : Int)) (hi := none) (by walk_at "ev") (by walk_at "eo") (by walk_at "eo")) (ea_cons (ev_var rfl Rep.int) ea_nil))) (Nat.le_of_ble_eq_true rfl)
    · rw [cut_drop, List.map_drop]) fun w G7 H7 g7 r7 => ?_
  exact q G7 w _ ((((s1.trans s2).trans s5).trans s6).trans g7.same) r7 (r6.mono g7.same) ((((s1.trans s2).trans s5).trans s6).trans g7.same) _ g7.sep
theorem eg_make9 {K : PySem.W.Frag} {cl : Nat → Addr} [Cf K cl] {G : Hp} {M : ML} {σ : St} {x dx s u c o : Addr} {vl : V} {ep : Nat} {kvs : NKV} {kS kC kO : List (Key × V)} {lines : List Posting} {kes : List (Key × D)} {A : Str} {n : Nat} {a : Int} {ta : TE} {tx : TA} {p q : Bool}
    (h1 : EvX K cl p ta σ G (Wall cl x dx s u c o vl ep kvs kS kC kO M) (.loc x) (Wall cl x dx s u c o vl ep kvs kS kC kO M)) (h2 : EvA K cl q tx σ G (Wall cl x dx s u c o vl ep kvs kS kC kO M) [.str A] (Wall cl x dx s u c o vl ep kvs kS kC kO M))
    (rl : Rep K cl G vl (.lst (List.map Posting.d lines))) (hl : lines.length ≤ 1000) (rk : KRep K cl G kS kes) (hk : kes.length ≤ 1000) (hv : (valG kes (.inr A)).getD (.tup [.int 0, .int 0]) = stD n a) :
    EvG (tMeth (cl 1) "make_statement" (sp_Ledger_make_statement K cl) [] E0 ta tx) σ G (Wall cl x dx s u c o vl ep kvs kS kC kO M) fun w G' M' => ∃ kS', M' = Wall cl x dx s u c o vl ep kvs kS' kC kO M ∧ Rep K cl G' w (.tup [.int a, .lst (List.map Posting.d ((pf A lines).drop n)), .int (a + amts ((pf A lines).drop n))]) ∧
      KRep K cl G' kS' (putG kes (.inr A) (stD (pf A lines).length (a + amts ((pf A lines).drop n)))) := by
  refine eg_methP (K := K) (cl := cl) h1 .hd rfl h2 (List.Perm.refl _) ?_
  intro vs G' T sB rsB hT
  obtain ⟨y, rfl, ry⟩ := reps1 rsB
  obtain rfl := ry.of_str
  exact ⟨x, dx, s, u, vl, ep, kvs, kS, _, A, lines, kes, n, a, rfl, rfl, rl.mono sB, hl, rk.mono sB, hk, hv, fun G2 w k' s2 rw' rk' => hT w G2 _ s2 ⟨k', rfl, rw', rk'⟩⟩
theorem ev_bal9 {K : PySem.W.Frag} {cl : Nat → Addr} [Cf K cl] {G : Hp} {M : ML} {σ : St} {x dx s u c o : Addr} {vl : V} {ep : Nat} {kvs : NKV} {kS kC kO : List (Key × V)} {lines : List Posting} {A : Str} {ta : TE} {tx : TA} {p q : Bool}
    (h1 : EvX K cl p ta σ G (Wall cl x dx s u c o vl ep kvs kS kC kO M) (.loc x) (Wall cl x dx s u c o vl ep kvs kS kC kO M)) (h2 : EvA K cl q tx σ G (Wall cl x dx s u c o vl ep kvs kS kC kO M) [.str A] (Wall cl x dx s u c o vl ep kvs kS kC kO M))
    (rl : Rep K cl G vl (.lst (List.map Posting.d lines))) (hl : lines.length ≤ 1000) :
    EvX K cl false (tMeth (cl 1) "balance" (sp_Ledger_balance K cl) [] E0 ta tx) σ G (Wall cl x dx s u c o vl ep kvs kS kC kO M) (.int (amts (pf A lines))) (Wall cl x dx s u c o vl ep kvs kS kC kO M) := by
  refine ev_methP (K := K) (cl := cl) (M4 := Wall cl x dx s u c o vl ep kvs kS kC kO M) h1 .hd rfl h2 (List.Perm.refl _) (List.Perm.refl _) ?_
  intro vs G' T sB rsB hT
  obtain ⟨y, rfl, ry⟩ := reps1 rsB
  obtain rfl := ry.of_str
  refine ⟨x, dx, s, vl, .ref u, ep, kvs, _, A, lines, rfl, rfl, rl.mono sB, hl, fun G2 s2 => hT _ G2 s2 ?_⟩
  rw [amts_pf]
  exact Rep.int
theorem rd_law {K : PySem.W.Frag} {cl : Nat → Addr} [Cf K cl] {vs H Q E} (h : sp_law K cl vs H Q E) : t_law K cl ⟨fun _ H' => Q .non H', Q, fun _ _ => False, fun _ _ => False⟩ (start ["script", "ledger", "large", "closing", "open_rows", "k", "state", "key", "account", "row", "name", "opening", "postings", "end", "before"] vs) H := by
  obtain ⟨G, M, S, v0, ns, rfl, r0, q⟩ := h
  unfold t_law
  refine s_seq ?_
  refine s_asgG S (eg_makeG (K := K) (cl := cl) (F := fun v G' M' => ∃ x dx s u vl, v = .ref x ∧ M' = LedM cl x dx s vl (.ref u) 0 [] ((u, .dK []) :: M) ∧ Rep K cl G' vl (.lst [])) (by walk_at "ea") ?_) ?_
  · intro x dx vs G' T s1 rs hT
    simp only [Reps] at rs
    subst rs
    exact ⟨x, dx, M, rfl, rfl, fun G2 vl s u s2 rl => hT G2 _ s2 ⟨x, dx, s, u, vl, rfl, rfl, rl⟩⟩
  rintro _ G1 H1 _ s1 S1 ⟨x, dx, s, u, vl, rfl, rfl, rl⟩
  have r01 := r0.mono s1
  refine s_seq ?_
  refine s_asgG S1 (eg_intB (eg_large (K := K) (cl := cl) (ns := ns) (ea_cons (ev_var rfl r01) ea_nil))) ?_
  rintro _ G2 H2 _ s2 S2 ⟨b, rfl, rfl⟩
  obtain ⟨L, hL, hL0, hL1⟩ : ∃ L : Int, (if b then (1 : Int) else 0) = L ∧ 0 ≤ L ∧ L ≤ 1 := ⟨_, rfl, by cases b <;> decide, by cases b <;> decide⟩
  rw [hL]
  clear hL b
  have r02 := r01.mono s2
  refine s_seq ?_
  refine s_asgG S2 (eg_disp (K := K) (cl := cl) (kds := [(.inr "ann", .int 0), (.inr "firm", .int 0)]) (F := fun v G' M' => ∃ c kC, v = .ref c ∧ M' = (c, .dK kC) :: LedM cl x dx s vl (.ref u) 0 [] ((u, .dK []) :: M) ∧ KRep K cl G' kC [(.inr "ann", .int 0), (.inr "firm", .int 0)])
    (fun u => ep_cons ev_str rfl ev_int (ep_cons ev_str rfl ev_int ep_nil)) (by decide) (fun c kC G' s' r' => ⟨c, kC, rfl, rfl, by rw [merge2] at r'; exact r'⟩)) ?_
  rintro _ G3 H3 _ s3 S3 ⟨c, kC, rfl, rfl, rC⟩
  refine s_seq ?_
  refine s_asgG S3 (eg_disp (K := K) (cl := cl) (kds := [(.inr "ann", .lst []), (.inr "firm", .lst [])]) (F := fun v G' M' => ∃ o kO, v = .ref o ∧ M' = (o, .dK kO) :: (c, .dK kC) :: LedM cl x dx s vl (.ref u) 0 [] ((u, .dK []) :: M) ∧ KRep K cl G' kO [(.inr "ann", .lst []), (.inr "firm", .lst [])])
    (fun u => ep_cons ev_str rfl (ev_lst ea_nil (by decide)) (ep_cons ev_str rfl (ev_lst ea_nil (by decide)) ep_nil)) (by decide) (fun o kO G' s' r' => ⟨o, kO, rfl, rfl, by rw [merge2] at r'; exact r'⟩)) ?_
  rintro _ G4 H4 _ s4 S4 ⟨o, kO, rfl, rfl, rO⟩
  refine s_seq ?_
  have S4' : Sep G4 H4 (Wall cl x dx s u c o vl 0 [] [] kC kO M) := S4.perm perm5
  have rC4 := rC.mono s4
  have rl4 := ((rl.mono s2).mono s3).mono s4
  have r04 := (r02.mono s3).mono s4
  have sA := ((s1.trans s2).trans s3).trans s4
  clear rC rl r02 r01 r0 S S1 S2 S3 S4 s1 s2 s3 s4
  have hst0 : St9 [] (fun _ => 0) [] [((.inr "ann" : Key), .int 0), (.inr "firm", .int 0)] [((.inr "ann" : Key), .lst []), (.inr "firm", .lst [])] 0 := by
    refine ⟨fun A hA => Nat.zero_le _, fun A hA => rfl, fun A hA => ?_, fun A hA => ?_, rfl, by decide, by decide, by decide⟩
    · rw [val2 hA]; split <;> rfl
    · rw [val2 hA]; split <;> rfl
  obtain ⟨N, hN, hN0, hN1⟩ : ∃ N : Int, (if (8 : Int) + (ns.length : Int) < 30 then (8 : Int) + (ns.length : Int) else 30) + 200 * L = N ∧ 0 ≤ N ∧ N ≤ 230 := by
    refine ⟨_, rfl, ?_, ?_⟩ <;> split <;> omega
  apply s_forR1 (K := K) (cl := cl) (n := N) (fun i σ G' M' => ∃ vl ep kvs kS kC kO lines st cnt kes kc ko y5 y6 y7 y8 y9 y10 y11 y12 y13,
    σ = [some v0, some (.ref x), some (.int L), some (.ref c), some (.ref o), y5, y6, y7, y8, y9, y10, y11, y12, y13, none] ∧ M' = Wall cl x dx s u c o vl ep kvs kS kC kO M ∧
    LedR K cl G' vl kvs lines st ∧ KRep K cl G' kS kes ∧ KRep K cl G' kC kc ∧ KRep K cl G' kO ko ∧ Led9 lines st i ∧ St9 lines cnt kes kc ko i) S4'
  · (with_reducible apply ea_cons)
    · (with_reducible apply EvX.is)
      · exact ev_op (p := true) (q := true) (r := true) (M1 := Wall cl x dx s u c o vl 0 [] [] kC kO M) (M2 := Wall cl x dx s u c o vl 0 [] [] kC kO M) (ev_cb (p := true) (q := true) (M1 := Wall cl x dx s u c o vl 0 [] [] kC kO M) (ea_cons ev_int (ea_cons (ev_op (p := true) (q := true) (r := true) (M1 := Wall cl x dx s u c o vl 0 [] [] kC kO M) ev_int (ev_cb (p := true) (q := true) (ea_cons (ev_var rfl r04) ea_nil) on_lenL) o_add_int) ea_nil)) on_min) (ev_op (p := true) (q := true) (r := true) (M1 := Wall cl x dx s u c o vl 0 [] [] kC kO M) ev_int (ev_var rfl Rep.int) (o_mul (.inr ⟨by omega, by omega⟩))) o_add_int
      · rw [List.length_map, hN]
    · exact ea_nil
  · omega
  · intro G5 H5 g5
    obtain ⟨rfl, rfl, -⟩ := g5.eq rfl
    exact ⟨vl, 0, [], [], kC, kO, [], [], fun _ => 0, [], _, _, _, _, _, _, _, _, _, _, _, rfl, rfl, ⟨rl4, .nil, by decide, by decide⟩, .nil, rC4, rO, ⟨List.nodup_nil, by decide, by decide, (fun p hp => nomatch hp), (fun p hp => nomatch hp), (fun p hp => nomatch hp)⟩, hst0⟩
  · rintro G5 s5 i σ' G6 H6 M6 hi s6 S6 ⟨vl, ep, kvs, kS, kC, kO, lines, st, cnt, kes, kc, ko, y5, y6, y7, y8, y9, y10, y11, y12, y13, rfl, rfl, R, rS, rC, rO, Ld, Sn⟩
    have r06 : Rep K cl G6 v0 (.lst (List.map D.int ns)) := (r04.mono s5).mono s6
    clear r04 rl4 rC4 S4' hst0 hN
    have hi' : (i : Int) < 230 := by omega
    have hl1 := Ld.ll
    have hl2 := Ld.sl
    refine s_gname ?_
    refine s_seq ?_
    refine s_asgG S6 (eg_state (K := K) (cl := cl) (by walk_at "ea")) ?_
    rintro _ Ga Ha _ sa Sa ⟨p, z, rfl, rfl⟩
    refine s_seq ?_
    have hm0 : 0 < 5 + 40 * L := by omega
    refine s_asg (K := K) (cl := cl) (d := keyD (nkey9 (z % (5 + 40 * L)))) (M1 := (p, .lst [.int (z / (5 + 40 * L))]) :: Wall cl x dx s u c o vl ep kvs kS kC kO M) Sa (by
      (with_reducible apply EvX.is)
      · exact ev_tup (ea_cons (ev_tup (ea_cons ev_int (ea_cons ev_int (ea_cons (ev_digit (ea_cons (ev_var rfl Rep.loc) (ea_cons (ev_op ev_int (ev_op ev_int (ev_var rfl Rep.int) (o_mul (.inr ⟨by omega, by omega⟩))) o_add_int) ea_nil)) Ch.hd hm0 (by omega)) ea_nil))) (Nat.le_of_ble_eq_true rfl)) (ea_cons ev_int (ea_cons ev_str ea_nil))) (Nat.le_of_ble_eq_true rfl)
      · rfl) ?_
    intro vk Gb Hb gb rk
    have sb := gb.same
    have Sb := gb.sep
    clear gb
    generalize z / (5 + 40 * L) = z1 at Sb
    have hK : KeyOk (nkey9 (z % (5 + 40 * L))) := keyOk9
    have hNK : IsNK (nkey9 (z % (5 + 40 * L))) := isNK_nkey9
    generalize nkey9 (z % (5 + 40 * L)) = key at rk hK hNK
    refine s_seq ?_
    obtain ⟨A, hA, hix⟩ := two_get (z := z1)
    refine s_asg (K := K) (cl := cl) (d := .str A) Sb (ev_op (by walk_at "ev") (by walk_at "ev") (o_ixT hix)) ?_
    intro va Gc Hc gc ra
    have sc := gc.same
    have Sc := gc.sep
    clear gc
    obtain rfl := ra.of_str
    generalize z1 / 2 = z2 at Sc
    refine s_seq ?_
    have sX := (sa.trans sb).trans sc
    have rkc := rk.mono sc
    have Rc := R.mono sX
    have rSc := rS.mono sX
    have rCc := rC.mono sX
    have rOc := rO.mono sX
    have sY := s6.trans sX
    clear rk R rS rC rO s6 sX Sa Sb sa sb sc S6 r06
    have Ld' := Ld.post hK hA (z2 % 40) (i : Int)
    have hmem := found_mem (st := st) (amt := z2 % 40) (clk := (i : Int)) hA hK Ld.accS
    have hfl := found_len (st := st) (k := key) (acc := A) (amt := z2 % 40) (clk := (i : Int))
    apply s_forE (K := K) (cl := cl) (F := fun w G' M' => ∃ vl' ep' kvs', M' = LedM cl x dx s vl' (.ref u) ep' kvs' ((p, .lst [.int (z2 / 40)]) :: (u, .dK kS) :: (c, .dK kC) :: (o, .dK kO) :: M) ∧ Rep K cl G' w (.lst (List.map Posting.row (foundF st key A (z2 % 40) (i : Int)))) ∧ LedR K cl G' vl' kvs' (lines ++ foundF st key A (z2 % 40) (i : Int)) (standF st key A (z2 % 40))) Sc
    · refine eg_pcall (F := fun w G' M' => ∃ vl' ep' kvs', M' = LedM cl x dx s vl' (.ref u) ep' kvs' ((p, .lst [.int (z2 / 40)]) :: (u, .dK kS) :: (c, .dK kC) :: (o, .dK kO) :: M) ∧ Rep K cl G' w (.lst (List.map Posting.d (foundF st key A (z2 % 40) (i : Int)))) ∧ LedR K cl G' vl' kvs' (lines ++ foundF st key A (z2 % 40) (i : Int)) (standF st key A (z2 % 40)))
        (eg_methP (K := K) (cl := cl) (x := x) (M1 := (p, .lst [.int z2]) :: Wall cl x dx s u c o vl ep kvs kS kC kO M) (M2 := (p, .lst [.int (z2 / 40)]) :: Wall cl x dx s u c o vl ep kvs kS kC kO M) (ds := [keyD key, .str A, .int (z2 % 40), .int (i : Int)]) (ev_var rfl Rep.loc) (.tl .hd) rfl (ea_cons (ev_var rfl rkc) (ea_cons (ev_var rfl Rep.str) (ea_cons (ev_digit (ea_cons (ev_var rfl Rep.loc) (ea_cons ev_int ea_nil)) Ch.hd (by decide) (by decide)) (ea_cons (ev_var rfl Rep.int) ea_nil)))) perm3.symm ?_) ?_
      · intro vs G' T sB rsB hT
        obtain ⟨u2, u3, u4, u5, rfl, h2, h3, h4, h5⟩ := reps4 rsB
        obtain rfl := h3.of_str
        obtain rfl := h4.of_int
        obtain rfl := h5.of_int
        refine ⟨x, dx, s, vl, .ref u, ep, kvs, _, u2, key, A, z2 % 40, (i : Int), lines, st, rfl, rfl, h2, hNK, Rc.mono sB, fun G2 w vl' ep' kvs' s3 rw' rl' rn' => hT w G2 _ s3 ⟨vl', ep', kvs', rfl, rw', rl', rn', ?_, ?_⟩⟩
        · rw [List.length_append]
          omega
        · have := Ld'.sl
          omega
      · rintro v G' _ s' ⟨vl', ep', kvs', rfl, rw', Rf⟩
        exact ⟨_, _, rw', ⟨_, rfl, by omega, rfl⟩, fun w G2 s2 rw2 => ⟨vl', ep', kvs', rfl, rw2, Rf.mono s2⟩⟩
    rintro v G7 H7 _ s7 S7 ⟨vl', ep', kvs', rfl, rv, Rf⟩
    have rS7 := rSc.mono s7
    have rC7 := rCc.mono s7
    have rO7 := rOc.mono s7
    have sZ := sY.trans s7
    clear rSc rCc rOc Rc sY s7 Sc rkc ra
    generalize foundF st key A (z2 % 40) (i : Int) = F at *
    generalize standF st key A (z2 % 40) = st' at *
    generalize z2 / 40 = z3 at *
    refine ⟨List.map Posting.row F, fun j σ G' M' => ∃ kO' ko' y9, σ = [some v0, some (.ref x), some (.int L), some (.ref c), some (.ref o), some (.int (i : Int)), some (.ref p), some vk, some (.str A), y9, y10, y11, y12, y13, none] ∧ M' = LedM cl x dx s vl' (.ref u) ep' kvs' ((p, .lst [.int z3]) :: (u, .dK kS) :: (c, .dK kC) :: (o, .dK kO') :: M) ∧
      KRep K cl G' kO' ko' ∧ (∀ B ∈ two, valG ko' (.inr B) = some (.lst ((((pf B lines).drop (cnt B)) ++ pf B (F.take j)).map Posting.row))) ∧ ko'.length ≤ 2, rv, ⟨kO, ko, y9, rfl, rfl, rO7, fun B hB => by rw [Sn.o B hB]; simp [pf], Sn.ol⟩, ?_, ?_⟩
    · rintro j y d σ' G8 H8 M8 hd s8 S8 r8 ⟨kO', ko', y9', rfl, rfl, rk8, hk8, hkl8⟩
      rw [List.getElem?_map] at hd
      cases hx : F[j]? with
      | none => rw [hx] at hd; cases hd
      | some pp =>
      rw [hx] at hd
      obtain rfl : pp.row = d := Option.some.inj hd
      have hpp := (hmem pp (List.mem_of_getElem? hx)).1
      have hval := hk8 pp.account hpp
      have hrow0 : ∀ σ : St, σ[9]? = some (some y) → EvX K cl true (tOp (rIx K) (tVar 9) (tC (.int 0))) σ G8 (LedM cl x dx s vl' (.ref u) ep' kvs' ((p, .lst [.int z3]) :: (u, .dK kS) :: (c, .dK kC) :: (o, .dK kO') :: M)) (.str pp.account) (LedM cl x dx s vl' (.ref u) ep' kvs' ((p, .lst [.int z3]) :: (u, .dK kS) :: (c, .dK kC) :: (o, .dK kO') :: M)) := fun σ h0 => ev_op (p := true) (q := true) (r := true) (ev_var h0 r8) (ev_int (i := 0)) (o_ixT (i := 0) rfl)
      refine s_gname ?_
      refine s_kput (K := K) (cl := cl) (k := .inr pp.account) (kes := ko') (d := .lst (((((pf pp.account lines).drop (cnt pp.account)) ++ pf pp.account (F.take j)).map Posting.row) ++ [Posting.row pp])) S8 (ev_op (ev_kget (k := .inr pp.account) (kes := ko') (ev_var rfl Rep.loc) (hrow0 _ rfl) rfl (.tl (.tl (.tl (.tl (.tl .hd))))) rk8 hval) (ev_lst (ea_cons (ev_var rfl r8) ea_nil) (Nat.le_of_ble_eq_true rfl)) (o_catL ?_)) (ev_var rfl Rep.loc) (hrow0 _ rfl) rfl rk8 (by omega) (fun v => .tl (.tl (.tl (.tl (.tl .hd))))) ?_
      · have h1 : ((pf pp.account lines).drop (cnt pp.account)).length ≤ lines.length := by rw [List.length_drop]; exact Nat.le_trans (Nat.sub_le _ _) (List.length_filter_le _ _)
        have h2 : (pf pp.account (F.take j)).length ≤ F.length := Nat.le_trans (List.length_filter_le _ _) (List.length_take_le' _ _)
        simp only [List.length_map, List.length_append, List.length_cons, List.length_nil]
        omega
      intro v9 G9 H9 s9 S9 r9
      refine ⟨G9, _, s8.trans s9, S9, _, _, some y, rfl, rfl, r9, St9.row hk8 hx hpp, ?_⟩
      rw [putG_len_old hval]
      exact hkl8
    rintro σ' G8 H8 M8 s8 S8 ⟨kO', ko', y9', rfl, rfl, rk8, hk8, hkl8⟩
    rw [List.length_map, List.take_length] at hk8
    have St' := Sn.posted hk8 hkl8
    have S8' : Sep G8 H8 ((p, .lst [.int z3]) :: Wall cl x dx s u c o vl' ep' kvs' kS kC kO' M) := S8.perm perm3
    refine s_ifJ (K := K) (cl := cl) (M1 := (p, .lst [.int (z3 / (3 + 12 * L))]) :: Wall cl x dx s u c o vl' ep' kvs' kS kC kO' M) (b := decide (z3 % (3 + 12 * L) = 0)) (fun _ _ _ => False) S8' (et_test (ev_op (ev_digit (ea_cons (ev_var rfl Rep.loc) (ea_cons (ev_op ev_int (ev_op ev_int (ev_var rfl Rep.int) (o_mul (.inr ⟨by omega, by omega⟩))) o_add_int) ea_nil)) Ch.hd (by omega) (by omega)) ev_int (o_eq rfl))) ?_ ?_ (fun _ _ _ _ _ _ h => h.elim)
    · intro _ Gd Hd gd _
      have sd := gd.same
      have Sd := gd.sep
      clear gd
      generalize z3 / (3 + 12 * L) = z4 at Sd
      refine s_seq ?_
      obtain ⟨B, hB, hiy⟩ := two_get (z := z4)
      refine s_asg (K := K) (cl := cl) (d := .str B) (M1 := (p, .lst [.int (z4 / 2)]) :: Wall cl x dx s u c o vl' ep' kvs' kS kC kO' M) Sd (ev_op (by walk_at "ev") (ev_digit (ea_cons (ev_var rfl Rep.loc) (ea_cons ev_int ea_nil)) Ch.hd (by decide) (by decide)) (o_ixT hiy)) ?_
      intro vb Ge He ge rb
      have se := ge.same
      have Se := ge.sep.drop
      clear ge
      obtain rfl := rb.of_str
      have s7e := (s8.trans sd).trans se
      have Re := Rf.mono s7e
      have rSe := rS7.mono s7e
      have rCe := rC7.mono s7e
      have rOe := rk8.mono (sd.trans se)
      have sE := sZ.trans s7e
      clear Rf rS7 rC7 rk8 sZ s7e sd se s8 S8' S8 rO7 Sd
      generalize hLL : lines ++ F = LL at *
      have hLL1 : LL.length ≤ 1000 := Re.ll
      have hsn := Sn.sl
      refine s_seq ?_
      refine s_asgTG (K := K) (cl := cl) Se (eg_make9 (A := B) (lines := LL) (kes := kes) (ev_var rfl Rep.loc) (ea_cons (ev_var rfl Rep.str) ea_nil) Re.l hLL1 rSe (by omega) (St'.s B hB)) ?_
      rintro _ Gf Hf _ sf Sf ⟨kS', rfl, rw', rk'⟩
      rw [amts_all] at rw' rk'
      refine ⟨_, rw', rfl, rfl, fun vs rvs => ?_⟩
      obtain ⟨w1, w2, w3, rfl, h1, h2, h3⟩ := reps3 rvs
      obtain rfl := h1.of_int
      obtain rfl := h3.of_int
      have Rf := Re.mono sf
      have rCf := rCe.mono sf
      have rOf := rOe.mono sf
      have sF := sE.trans sf
      clear Re rCe rOe rSe sE sf Se rvs rw'
      have hrd := lst_dat (rows9_dat (lines := (pf B LL).drop (cnt B)) fun p hp => by
        have := (List.mem_filter.mp (List.mem_of_mem_drop hp)).1
        exact ⟨Ld'.accL p this, Ld'.keys p this⟩) (by decide)
      have hdl : ((pf B LL).drop (cnt B)).length ≤ 1000 := by rw [List.length_drop]; exact Nat.le_trans (Nat.sub_le _ _) (Nat.le_trans (List.length_filter_le _ _) hLL1)
      refine s_seq ?_
      refine s_if (K := K) (cl := cl) (b := (!decide (amts ((pf B LL).take (cnt B)) = amts ((pf B LL).take (cnt B)))) || !D.eqb (.lst (List.map Posting.row ((pf B LL).drop (cnt B)))) (.lst (List.map Posting.row ((pf B LL).drop (cnt B))))) Sf (et_or (et_test (ev_op (ev_var rfl Rep.int) (ev_kget (k := .inr B) (kes := kc) (ev_var rfl Rep.loc) (ev_var rfl Rep.str) rfl (.tl (.tl (.tl .hd))) rCf (St'.c B hB)) (o_ne rfl))) (fun _ => et_test (ev_op (ev_call (ea_cons (ev_var rfl h2) ea_nil) ⟨_, rfl, hdl, rfl⟩) (ev_kget (k := .inr B) (kes := ko') (ev_var rfl Rep.loc) (ev_var rfl Rep.str) rfl (.tl (.tl (.tl (.tl .hd)))) rOf (St'.o B hB)) (o_neD hrd.1 hrd.1 hrd.2 hrd.2)))) ?_ ?_
      · intro Gg Hg gg hc
        rw [D.eqb_refl hrd.1, decide_eq_true rfl] at hc
        cases hc
      intro Gg Hg gg _
      have sg := gg.same
      have Sg := gg.sep
      clear gg
      have Rg := Rf.mono sg
      have rCg := rCf.mono sg
      have rOg := rOf.mono sg
      have rkg := rk'.mono sg
      refine s_next ?_
      refine s_seq ?_
      have hend : amts ((pf B LL).take (cnt B)) + amts ((pf B LL).drop (cnt B)) = amts (pf B LL) := amts_all
      refine s_if (K := K) (cl := cl) (M1 := Wall cl x dx s u c o vl' ep' kvs' kS' kC kO' M) (b := (!decide (amts (pf B LL) = amts ((pf B LL).take (cnt B)) + amts ((pf B LL).drop (cnt B)))) || !decide (amts (pf B LL) = amts (pf B LL))) Sg (et_or (et_test (ev_op (d1 := .int (amts (pf B LL))) (d2 := .int (amts ((pf B LL).take (cnt B)) + amts ((pf B LL).drop (cnt B)))) (ev_var rfl Rep.int) (ev_op (M1 := Wall cl x dx s u c o vl' ep' kvs' kS' kC kO' M) (ev_var rfl Rep.int) (by
        refine ev_cb (M1 := Wall cl x dx s u c o vl' ep' kvs' kS' kC kO' M) (M2 := Wall cl x dx s u c o vl' ep' kvs' kS' kC kO' M) (p := false) (q := true) (ds := [.lst (List.map D.int (((pf B LL).drop (cnt B)).map fun p => p.amount))]) (ea_cons (p := false) (q := true) (M1 := Wall cl x dx s u c o vl' ep' kvs' kS' kC kO' M) ?_ ea_nil) on_sum
        (with_reducible apply EvX.is)
        · refine ev_lcG (l := (pf B LL).drop (cnt B)) (enc := Posting.row) (f := fun p => .int p.amount) (keep := fun _ => true) (ev_kget (k := .inr B) (kes := ko') (p := true) (q := true) (ev_var rfl Rep.loc) (ev_var rfl Rep.str) rfl (.tl (.tl (.tl (.tl .hd)))) rOg (St'.o B hB)) rfl (by omega) ?_
          intro Gh e w b sh hb rb
          exact lcT1 rfl et_yes fun _ => by walk_at "ev"
        · rw [List.filter_eq_self.mpr (fun _ _ => rfl), List.map_map]
          rfl) o_add_int) (o_ne rfl))) (fun _ => et_test (ev_op (ev_var rfl Rep.int) (ev_bal9 (ev_var rfl Rep.loc) (ea_cons (ev_var rfl Rep.str) ea_nil) Rg.l hLL1) (o_ne rfl)))) ?_ ?_
      · intro Gh Hh gh hc
        rw [hend, decide_eq_true rfl] at hc
        cases hc
      intro Gh Hh gh _
      have sh := gh.same
      have Sh := gh.sep
      clear gh
      refine s_next ?_
      refine s_seq ?_
      refine s_kput (K := K) (cl := cl) (k := .inr B) (kes := kc) (d := .int (amts (pf B LL))) Sh (ev_var rfl Rep.int) (ev_var rfl Rep.loc) (ev_var rfl Rep.str) rfl (rCg.mono sh) (by have := St'.cl; omega) (fun v => .tl (.tl (.tl .hd))) ?_
      intro v9 Gi Hi si Si ri
      refine s_kput (K := K) (cl := cl) (k := .inr B) (kes := ko') (d := .lst []) Si (ev_lst ea_nil (by decide)) (ev_var rfl Rep.loc) (ev_var rfl Rep.str) rfl ((rOg.mono sh).mono si) (by have := St'.ol; omega) (fun v => .tl (.tl (.tl (.tl .hd)))) ?_
      intro v10 Gj Hj sj Sj rj
      have sK := (sh.trans si).trans sj
      exact ⟨Gj, _, (sF.trans sg).trans sK, Sj, vl', ep', kvs', kS', _, _, LL, st', _, _, _, _, _, _, _, _, _, _, _, _, _, rfl, rfl, Rg.mono sK, rkg.mono sK, ri.mono sj, rj, Ld', St'.made hB⟩
    · intro _ Gd Hd gd _
      have sd := gd.same
      have Sd := gd.sep.drop
      clear gd
      have s7d := s8.trans sd
      refine s_next ?_
      exact ⟨Gd, _, sZ.trans s7d, Sd, vl', ep', kvs', kS, kC, kO', lines ++ F, st', cnt, kes, kc, ko', _, _, _, _, _, _, _, _, _, rfl, rfl, Rf.mono s7d, rS7.mono s7d, rC7.mono s7d, rk8.mono sd, Ld', St'.up (by omega)⟩
  · rintro σ' G5 H5 M5 s5 S5 ⟨vl, ep, kvs, kS, kC, kO, lines, st, cnt, kes, kc, ko, y5, y6, y7, y8, y9, y10, y11, y12, y13, rfl, rfl, R, rS, rC, rO, Ld, Sn⟩
    have hl1 : lines.length ≤ 1000 := R.ll
    have hNn : N.toNat ≤ 230 := by omega
    refine s_seq ?_
    apply s_forT (K := K) (cl := cl) (ds := [.str "ann", .str "firm"]) (fun j σ G' M' => ∃ kS' kes' y5 y6 y7 y8 y9 y10 y11 y12 y13 y14, σ = [some v0, some (.ref x), some (.int L), some (.ref c), some (.ref o), y5, y6, y7, y8, y9, y10, y11, y12, y13, y14] ∧ M' = Wall cl x dx s u c o vl ep kvs kS' kC kO M ∧
      KRep K cl G' kS' kes' ∧ kes'.length ≤ 230 + 2 * j ∧ valG kes' (.inr "cy") = none ∧ ∀ A ∈ two.drop j, (valG kes' (.inr A)).getD (.tup [.int 0, .int 0]) = stD (cnt A) (amts ((pf A lines).take (cnt A)))) S5
    · exact ev_tup (p := true) (ea_cons ev_str (ea_cons ev_str ea_nil)) (Nat.le_of_ble_eq_true rfl)
    · intro G6 H6 g6
      exact ⟨kS, kes, _, _, _, _, _, _, _, _, _, _, rfl, rfl, rS.mono g6.same, Nat.le_trans Sn.sl (by omega), Sn.cy, Sn.s⟩
    · rintro G6 s6 j y d σ' G7 H7 M7 hd s7 S7 r7 ⟨kS', kes', y5', y6', y7', y8', y9', y10', y11', y12', y13', y14', rfl, rfl, rk, hkl, hcy, hs⟩
      have hj : j < 2 := (List.getElem?_eq_some_iff.mp hd).1
      obtain ⟨A, rfl, hA, hAj, hAn⟩ := two_at hd
      obtain rfl := r7.of_str
      have R7 := R.mono (s6.trans s7)
      have rC7 := rC.mono (s6.trans s7)
      have rO7 := rO.mono (s6.trans s7)
      refine s_gname ?_
      refine s_seq ?_
      refine s_asg (K := K) (cl := cl) S7 (ev_bal9 (lines := lines) (A := A) (ev_var rfl Rep.loc) (ea_cons (ev_var rfl Rep.str) ea_nil) R7.l hl1) ?_
      intro vbal G8 H8 g8 rb
      have s8 := g8.same
      have S8 := g8.sep
      clear g8
      obtain rfl := rb.of_int
      refine s_seq ?_
      refine s_asgTG (K := K) (cl := cl) S8 (eg_make9 (A := A) (lines := lines) (kes := kes') (ev_var rfl Rep.loc) (ea_cons (ev_var rfl Rep.str) ea_nil) (R7.l.mono s8) hl1 (rk.mono s8) (by omega) (hs A hAj)) ?_
      rintro _ G9 H9 _ s9 S9 ⟨kS2, rfl, rw', rk'⟩
      rw [amts_all] at rw' rk'
      refine ⟨_, rw', rfl, rfl, fun vs rvs => ?_⟩
      obtain ⟨w1, w2, w3, rfl, h1, h2, h3⟩ := reps3 rvs
      obtain rfl := h1.of_int
      obtain rfl := h3.of_int
      have R9 := (R7.mono s8).mono s9
      have rC9 := (rC7.mono s8).mono s9
      have rO9 := (rO7.mono s8).mono s9
      clear rvs rw' R7 rC7 rO7
      have hrd := lst_dat (rows9_dat (lines := (pf A lines).drop (cnt A)) fun p hp => by
        have := (List.mem_filter.mp (List.mem_of_mem_drop hp)).1
        exact ⟨Ld.accL p this, Ld.keys p this⟩) (by decide)
      have hdl : ((pf A lines).drop (cnt A)).length ≤ 1000 := by rw [List.length_drop]; exact Nat.le_trans (Nat.sub_le _ _) (Nat.le_trans (List.length_filter_le _ _) hl1)
      have hpair : ∀ a b : Int, (D.tup [.int a, .int b]).isDat = true ∧ (D.tup [.int a, .int b]).dep ≤ 64 := fun a b => ⟨rfl, by show (1 : Nat) ≤ 64; decide⟩
      refine s_seq ?_
      refine s_if (K := K) (cl := cl) (M1 := Wall cl x dx s u c o vl ep kvs kS2 kC kO M) (b := (!D.eqb (.tup [.int (amts ((pf A lines).take (cnt A))), .int (amts (pf A lines))]) (.tup [.int (amts ((pf A lines).take (cnt A))), .int (amts (pf A lines))])) || !D.eqb (.lst (List.map Posting.row ((pf A lines).drop (cnt A)))) (.lst (List.map Posting.row ((pf A lines).drop (cnt A))))) S9
        (et_or (et_test (ev_op (ev_tup (ea_cons (ev_var rfl Rep.int) (ea_cons (ev_var rfl Rep.int) ea_nil)) (Nat.le_of_ble_eq_true rfl)) (ev_tup (ea_cons (ev_kget (k := .inr A) (kes := kc) (ev_var rfl Rep.loc) (ev_var rfl Rep.str) rfl (.tl (.tl (.tl .hd))) rC9 (Sn.c A hA)) (ea_cons (ev_var rfl Rep.int) ea_nil)) (Nat.le_of_ble_eq_true rfl)) (o_neD (hpair _ _).1 (hpair _ _).1 (hpair _ _).2 (hpair _ _).2)))
          (fun _ => et_test (ev_op (ev_call (ea_cons (ev_var rfl h2) ea_nil) ⟨_, rfl, hdl, rfl⟩) (ev_kget (k := .inr A) (kes := ko) (ev_var rfl Rep.loc) (ev_var rfl Rep.str) rfl (.tl (.tl (.tl (.tl .hd)))) rO9 (Sn.o A hA)) (o_neD hrd.1 hrd.1 hrd.2 hrd.2)))) ?_ ?_
      · intro Gg Hg gg hc
        rw [D.eqb_refl hrd.1, D.eqb_refl (hpair _ _).1] at hc
        cases hc
      intro Gg Hg gg _
      have sg := gg.same
      have Sg := gg.sep
      clear gg
      have Rg := R9.mono sg
      have rkg := rk'.mono sg
      refine s_next ?_
      have hlen2 : (putG kes' (.inr A) (stD (pf A lines).length (amts (pf A lines)))).length ≤ 231 + 2 * j := Nat.le_trans putG_len (by omega)
      have hv2 : (valG (putG kes' (.inr A) (stD (pf A lines).length (amts (pf A lines)))) (.inr A)).getD (.tup [.int 0, .int 0]) = stD (pf A lines).length (amts (pf A lines)) := by rw [valG_put, if_pos rfl]; rfl
      have hd0 : (pf A lines).drop (pf A lines).length = [] := List.drop_of_length_le (Nat.le_refl _)
      have htri : (D.tup [.int (amts (pf A lines)), .lst [], .int (amts (pf A lines))]).isDat = true ∧ (D.tup [.int (amts (pf A lines)), .lst [], .int (amts (pf A lines))]).dep ≤ 64 := ⟨rfl, by show (2 : Nat) ≤ 64; decide⟩
      refine s_ifU (F := fun b G' M' => b = false ∧ ∃ kS3, M' = Wall cl x dx s u c o vl ep kvs kS3 kC kO M ∧ KRep K cl G' kS3 (putG (putG kes' (.inr A) (stD (pf A lines).length (amts (pf A lines)))) (.inr A) (stD (pf A lines).length (amts (pf A lines))))) Sg (eu_or (F1 := fun b G' M' => b = false ∧ ∃ kS3, M' = Wall cl x dx s u c o vl ep kvs kS3 kC kO M ∧ KRep K cl G' kS3 (putG (putG kes' (.inr A) (stD (pf A lines).length (amts (pf A lines)))) (.inr A) (stD (pf A lines).length (amts (pf A lines))))) (eu_test (eg_op (K := K) (cl := cl) (eg_make9 (A := A) (lines := lines) (ev_var rfl Rep.loc) (ea_cons (ev_var rfl Rep.str) ea_nil) Rg.l hl1 rkg (by omega) hv2) ?_)) (fun _ _ _ h => h) ?_) ?_ ?_
      · rintro w G' _ sB ⟨kS3, rfl, rw3, rk3⟩
        rw [hd0] at rw3 rk3
        have e0 : amts (pf A lines) + amts [] = amts (pf A lines) := by simp [amts]
        rw [e0] at rw3 rk3
        refine ⟨_, _, _, _, _, _, rw3, ev_tup (p := false) (ea_cons (ev_var rfl Rep.int) (ea_cons (ev_lst ea_nil (by decide)) (ea_cons (ev_var rfl Rep.int) ea_nil))) (Nat.le_of_ble_eq_true rfl), o_neD htri.1 htri.1 htri.2 htri.2, fun w' G2 s2 rb2 => ?_⟩
        refine ⟨_, rb2.of_bl, ?_, kS3, rfl, rk3.mono s2⟩
        exact congrArg not (D.eqb_refl htri.1)
      · rintro G' _ sB ⟨-, kS3, rfl, rk3⟩
        refine eu_of (K := K) (cl := cl) (et_test (ev_op (ev_bal9 (lines := lines) (A := A) (ev_var rfl Rep.loc) (ea_cons (ev_var rfl Rep.str) ea_nil) (Rg.l.mono sB) hl1) (ev_var rfl Rep.int) (o_ne rfl))) fun G2 s2 => ⟨?_, kS3, rfl, rk3.mono s2⟩
        rw [decide_eq_true rfl]
        rfl
      · rintro G' H' M' sB SB ⟨hb, -⟩
        cases hb
      · rintro G' H' _ sB SB ⟨-, kS3, rfl, rk3⟩
        refine s_next ?_
        refine ⟨G', _, ((((s7.trans s8).trans s9).trans sg).trans sB), SB, kS3, _, _, _, _, _, _, _, _, _, _, _, rfl, rfl, rk3, Nat.le_trans putG_len (by omega), ?_, ?_⟩
        · rw [valG_put, if_neg (two_ne_cy hA), valG_put, if_neg (two_ne_cy hA)]
          exact hcy
        · intro B hB
          obtain ⟨hne, hBj⟩ := hAn B hB
          have hne' : ¬ ((Sum.inr A : Key) = .inr B) := fun e => hne (Sum.inr.inj e).symm
          rw [valG_put, if_neg hne', valG_put, if_neg hne']
          exact hs B hBj
    · rintro σ' G6 H6 M6 s6 S6 ⟨kS', kes', y5', y6', y7', y8', y9', y10', y11', y12', y13', y14', rfl, rfl, rk, hkl, hcy, hs⟩
      have h0 : (valG kes' (.inr "cy")).getD (.tup [.int 0, .int 0]) = stD 0 0 := by rw [hcy]; rfl
      have htri : (D.tup [.int 0, .lst [], .int 0]).isDat = true ∧ (D.tup [.int 0, .lst [], .int 0]).dep ≤ 64 := ⟨rfl, by show (2 : Nat) ≤ 64; decide⟩
      have hkl' : kes'.length ≤ 1000 := by
        simp only [List.length_cons, List.length_nil] at hkl
        omega
      refine s_retG (F := fun v G' M' => v = .bl true) S6 (eg_op (K := K) (cl := cl) (eg_make9 (A := "cy") (lines := lines) (kes := kes') (n := 0) (a := 0) (ev_var rfl Rep.loc) (ea_cons ev_str ea_nil) (R.l.mono s6) hl1 rk hkl' h0) ?_) ?_
      · rintro w G' _ sB ⟨kS3, rfl, rw3, rk3⟩
        rw [pf_cy Ld.accL] at rw3
        refine ⟨_, _, _, _, _, _, rw3, ev_tup (p := false) (ea_cons ev_int (ea_cons (ev_lst ea_nil (by decide)) (ea_cons ev_int ea_nil))) (Nat.le_of_ble_eq_true rfl), o_eqD htri.1 htri.1 htri.2 htri.2, fun w' G2 s2 rb2 => ?_⟩
        exact rb2.of_bl
      · rintro v G7 H7 M7 s7 S7 rfl
        have sQ : Same G G7 := ((sA.trans s5).trans s6).trans s7
        exact q _ _ sQ sQ _ S7
end
def sp_law0 (K : PySem.W.Frag) : Sp := fun vs H Q _ => ∃ (a : Addr) (ns : List Int), vs = [.ref a] ∧ SqL K H a (ns.map V.int) ∧ ns.length ≤ 63 ∧ ∀ H', Q (.bl true) H'
theorem sp_law_of [Wo] {K : PySem.W.Frag} {cl : Nat → Addr} {vs H Q E} (h : sp_law0 K vs H Q E) : sp_law K cl vs H Q E := by
  obtain ⟨a, ns, rfl, hS, hl, k⟩ := h
  exact ⟨H, [], Sep.nil, .ref a, ns, rfl, Rep.lst hS Reps.ints, fun G' M' _ _ H' _ => k H'⟩
local macro_rules | `(tactic| walk_at "ln") => `(tactic| (first
  | (rintro ⟨_, _, _, _, hR, _, rs, _⟩; rw [rs.length]; first | (obtain ⟨e, _⟩ := hR; rw [e]; exact rfl) | (obtain ⟨_, e, _⟩ := hR; rw [e]; exact rfl) | (obtain ⟨_, _, e, _⟩ := hR; rw [e]; exact rfl) | (obtain ⟨_, _, _, e, _⟩ := hR; rw [e]; exact rfl) | (obtain ⟨_, _, _, _, e, _⟩ := hR; rw [e]; exact rfl) | (obtain ⟨_, _, _, _, _, e, _⟩ := hR; rw [e]; exact rfl) | (obtain ⟨_, _, _, _, _, _, e, _⟩ := hR; rw [e]; exact rfl))
  | (rintro ⟨_, _, _, hR⟩; first | (obtain ⟨e, _⟩ := hR; rw [e]; exact rfl) | (obtain ⟨_, e, _⟩ := hR; rw [e]; exact rfl) | (obtain ⟨_, _, e, _⟩ := hR; rw [e]; exact rfl) | (obtain ⟨_, _, _, e, _⟩ := hR; rw [e]; exact rfl) | (obtain ⟨_, _, _, _, e, _⟩ := hR; rw [e]; exact rfl) | (obtain ⟨_, _, _, _, _, e, _⟩ := hR; rw [e]; exact rfl) | (obtain ⟨_, _, _, _, _, _, e, _⟩ := hR; rw [e]; exact rfl) | (obtain ⟨_, _, _, _, _, _, _, e, _⟩ := hR; rw [e]; exact rfl))
  | (rintro ⟨_, _, _, _, _, _, _, e0, hR, _, rs, _⟩; rw [e0, List.length_cons, rs.length]; first | (obtain ⟨hl, _⟩ := hR; rw [hl]; exact rfl) | (obtain ⟨e, _⟩ := hR; rw [e]; exact rfl) | (obtain ⟨_, e, _⟩ := hR; rw [e]; exact rfl) | (obtain ⟨_, _, e, _⟩ := hR; rw [e]; exact rfl) | (obtain ⟨_, _, _, e, _⟩ := hR; rw [e]; exact rfl) | (obtain ⟨_, _, _, _, e, _⟩ := hR; rw [e]; exact rfl))))
local macro_rules | `(tactic| walk_at "lnx") => `(tactic| first | (rintro ⟨e, _⟩; rw [e]; exact rfl) | (rintro ⟨_, h⟩; revert h; walk_at "lnx"))
local macro_rules | `(tactic| walk_at "ln") => `(tactic| (rintro ⟨_, _, _, hR⟩; revert hR; walk_at "lnx"))
def top (i : Nat) : Stmt := PySem.Challenge.pw_copperline_k89_statements.main.body.getD i (.Pass ⟨0, 0, 0, 0⟩)
abbrev s_Posting_init : Stmt := inClass (top 2) 0
theorem sc_Posting_init : FnScope ["self", "account", "key", "amount", "written"] ["self", "account", "key", "amount", "written"] (defScope s_Posting_init) := ⟨rfl, rfl, rfl, by decide +kernel, rfl, by decide +kernel, by decide +kernel⟩
abbrev s_Ledger_init : Stmt := inClass (top 3) 0
theorem sc_Ledger_init : FnScope ["self"] ["self"] (defScope s_Ledger_init) := ⟨rfl, rfl, rfl, by decide +kernel, rfl, by decide +kernel, by decide +kernel⟩
abbrev s_Ledger_postings : Stmt := inClass (top 3) 4
theorem sc_Ledger_postings : FnScope ["self", "account", "posting"] ["self", "account"] (defScope s_Ledger_postings) := ⟨rfl, rfl, rfl, by decide +kernel, rfl, by decide +kernel, by decide +kernel⟩
abbrev s_law_cell : Stmt := top 5
theorem sc_law_cell : FnScope ["script", "k"] ["script", "k"] (defScope s_law_cell) := ⟨rfl, rfl, rfl, by decide +kernel, rfl, by decide +kernel, by decide +kernel⟩
abbrev s_law_state : Stmt := top 6
theorem sc_law_state : FnScope ["cell", "k", "prime", "first", "second", "third", "fourth"] ["cell", "k"] (defScope s_law_state) := ⟨rfl, rfl, rfl, by decide +kernel, rfl, by decide +kernel, by decide +kernel⟩
abbrev s_law_digit : Stmt := top 7
theorem sc_law_digit : FnScope ["state", "many", "digit"] ["state", "many"] (defScope s_law_digit) := ⟨rfl, rfl, rfl, by decide +kernel, rfl, by decide +kernel, by decide +kernel⟩
abbrev s_law_rows : Stmt := top 8
theorem sc_law_rows : FnScope ["postings", "posting"] ["postings"] (defScope s_law_rows) := ⟨rfl, rfl, rfl, by decide +kernel, rfl, by decide +kernel, by decide +kernel⟩
abbrev s_Ledger_balance : Stmt := inClass (top 3) 5
theorem sc_Ledger_balance : FnScope ["self", "account", "total", "posting"] ["self", "account"] (defScope s_Ledger_balance) := ⟨rfl, rfl, rfl, by decide +kernel, rfl, by decide +kernel, by decide +kernel⟩
abbrev s_Ledger_make_statement : Stmt := inClass (top 3) 6
theorem sc_Ledger_make_statement : FnScope ["self", "account", "count", "opening", "postings", "closing", "posting"] ["self", "account"] (defScope s_Ledger_make_statement) := ⟨rfl, rfl, rfl, by decide +kernel, rfl, by decide +kernel, by decide +kernel⟩
abbrev s_law_large : Stmt := top 9
theorem sc_law_large : FnScope ["script"] ["script"] (defScope s_law_large) := ⟨rfl, rfl, rfl, by decide +kernel, rfl, by decide +kernel, by decide +kernel⟩
abbrev s_Ledger_post : Stmt := inClass (top 3) 1
theorem sc_Ledger_post : FnScope ["self", "key", "account", "amount", "clock", "before", "found", "change"] ["self", "key", "account", "amount", "clock"] (defScope s_Ledger_post) := ⟨rfl, rfl, rfl, by decide +kernel, rfl, by decide +kernel, by decide +kernel⟩
abbrev s_law : Stmt := top 10
theorem sc_law : FnScope ["script", "ledger", "large", "closing", "open_rows", "k", "state", "key", "account", "row", "name", "opening", "postings", "end", "before"] ["script"] (defScope s_law) := ⟨rfl, rfl, rfl, by decide +kernel, rfl, by decide +kernel, by decide +kernel⟩
structure Tx (K : PySem.W.Frag) (mg : Str → Option Value) (fn : Nat → Addr) (fd : Nat → FuncData) (cl : Nat → Addr) : Prop where
  F_Posting_init : Fun K "__init__" "Posting.__init__" s_Posting_init (fn 1) (fd 1)
  b_Posting_init : Binds K (fd 1) ["self", "account", "key", "amount", "written"] []
  F_Ledger_init : Fun K "__init__" "Ledger.__init__" s_Ledger_init (fn 2) (fd 2)
  b_Ledger_init : Binds K (fd 2) ["self"] []
  F_Ledger_post : Fun K "post" "Ledger.post" s_Ledger_post (fn 3) (fd 3)
  b_Ledger_post : Binds K (fd 3) ["self", "key", "account", "amount", "clock"] []
  meth_Ledger_post : Meth K (cl 1) "post" (fn 3)
  F_Ledger_postings : Fun K "postings" "Ledger.postings" s_Ledger_postings (fn 6) (fd 6)
  b_Ledger_postings : Binds K (fd 6) ["self", "account"] []
  meth_Ledger_postings : Meth K (cl 1) "postings" (fn 6)
  F_Ledger_balance : Fun K "balance" "Ledger.balance" s_Ledger_balance (fn 7) (fd 7)
  b_Ledger_balance : Binds K (fd 7) ["self", "account"] []
  meth_Ledger_balance : Meth K (cl 1) "balance" (fn 7)
  F_Ledger_make_statement : Fun K "make_statement" "Ledger.make_statement" s_Ledger_make_statement (fn 8) (fd 8)
  b_Ledger_make_statement : Binds K (fd 8) ["self", "account"] []
  meth_Ledger_make_statement : Meth K (cl 1) "make_statement" (fn 8)
  F_law_cell : Fun K "_law_cell" "_law_cell" s_law_cell (fn 9) (fd 9)
  b_law_cell : Binds K (fd 9) ["script", "k"] []
  m_law_cell : mg "_law_cell" = some (.ref (fn 9))
  F_law_state : Fun K "_law_state" "_law_state" s_law_state (fn 10) (fd 10)
  b_law_state : Binds K (fd 10) ["cell", "k"] []
  m_law_state : mg "_law_state" = some (.ref (fn 10))
  F_law_digit : Fun K "_law_digit" "_law_digit" s_law_digit (fn 11) (fd 11)
  b_law_digit : Binds K (fd 11) ["state", "many"] []
  m_law_digit : mg "_law_digit" = some (.ref (fn 11))
  F_law_rows : Fun K "_law_rows" "_law_rows" s_law_rows (fn 12) (fd 12)
  b_law_rows : Binds K (fd 12) ["postings"] []
  m_law_rows : mg "_law_rows" = some (.ref (fn 12))
  F_law_large : Fun K "_law_large" "_law_large" s_law_large (fn 13) (fd 13)
  b_law_large : Binds K (fd 13) ["script"] []
  m_law_large : mg "_law_large" = some (.ref (fn 13))
  F_law : Fun K "law" "law" s_law (fn 14) (fd 14)
  b_law : Binds K (fd 14) ["script"] []
  m_law : mg "law" = some (.ref (fn 14))
  cf : Cf K cl
  m_Posting : mg "Posting" = some (.ref (cl 0))
  mk_Posting : Mk K (cl 0) (fn 1)
  m_Ledger : mg "Ledger" = some (.ref (cl 1))
  mk_Ledger : Mk K (cl 1) (fn 2)
  z_int : mg "int" = none
  z_len : mg "len" = none
  z_min : mg "min" = none
  z_range : mg "range" = none
  z_sum : mg "sum" = none
section
variable {P : Program} {w : World} {K : PySem.W.Frag} {mg : Str → Option Value} {base : Heap} {fn : Nat → Addr} {fd : Nat → FuncData} {cl : Nat → Addr}
theorem ok_Posting_init (T : Tx K mg fn fd cl) : letI : Wo := ⟨P, w⟩; FnOk P w K mg base CX0 1 (fn 1) (fd 1) ["self", "account", "key", "amount", "written"] (sp_Posting_init K cl) := by
  haveI := T.cf
  letI : Wo := ⟨P, w⟩
  refine T.F_Posting_init.ok sc_Posting_init (fun vs H Q E h => by revert h; walk_at "ln") (fun cdv A outer s H vs Q E hr h => ⟨t_Posting_init K cl, ?_, rd_Posting_init h⟩)
  exact (pss_cons (ps_fld (pv 0) (pv 1) rfl) (pss_cons (ps_fld (pv 0) (pv 2) rfl) (pss_cons (ps_fld (pv 0) (pv 3) rfl) (pss_one (ps_fld (pv 0) (pv 4) rfl)))))
theorem ok_Ledger_init (T : Tx K mg fn fd cl) : letI : Wo := ⟨P, w⟩; FnOk P w K mg base CX0 1 (fn 2) (fd 2) ["self"] (sp_Ledger_init K cl) := by
  haveI := T.cf
  letI : Wo := ⟨P, w⟩
  refine T.F_Ledger_init.ok sc_Ledger_init (fun vs H Q E h => by revert h; walk_at "ln") (fun cdv A outer s H vs Q E hr h => ⟨t_Ledger_init K cl, ?_, rd_Ledger_init h⟩)
  exact (pss_cons (ps_fld (pv 0) (pe_lst pa_nil) rfl) (pss_cons (ps_fld (pv 0) (pe_new) rfl) (pss_one (ps_fld (pv 0) (pe_new) rfl))))
theorem ok_Ledger_postings (T : Tx K mg fn fd cl) : letI : Wo := ⟨P, w⟩; FnOk P w K mg base CX0 1 (fn 6) (fd 6) ["self", "account"] (sp_Ledger_postings K cl) := by
  haveI := T.cf
  letI : Wo := ⟨P, w⟩
  refine T.F_Ledger_postings.ok sc_Ledger_postings (fun vs H Q E h => by revert h; walk_at "ln") (fun cdv A outer s H vs Q E hr h => ⟨t_Ledger_postings K cl, ?_, rd_Ledger_postings h⟩)
  exact (pss_one (ps_ret (pe_lc (own := [("posting", 2)]) rfl sc_Ledger_postings.nd (pi_seq (pe_fld (pv 0) rfl)) (blkOk_by (own := [("posting", 2)]) (N := ["self", "account", "posting"]) (sc := defScope s_Ledger_postings) (by decide +kernel)) (fun _ _ _ _ _ => (pg_name (i := 2) sc_Ledger_postings.nd rfl (.inl rfl))) (fun _ _ _ _ _ => (pts_one (pt_cmpR (op_eqA hr.units) (pe_fld (pv 2) rfl) (pv 1) (nomark _)))) (fun _ _ _ _ _ => (pv 2)))))
theorem ok_law_cell (T : Tx K mg fn fd cl) : letI : Wo := ⟨P, w⟩; FnOk P w K mg base CX0 1 (fn 9) (fd 9) ["script", "k"] (sp_law_cell K cl) := by
  haveI := T.cf
  letI : Wo := ⟨P, w⟩
  refine T.F_law_cell.ok sc_law_cell (fun vs H Q E h => by revert h; walk_at "ln") (fun cdv A outer s H vs Q E hr h => ⟨t_law_cell K cl, ?_, rd_law_cell h⟩)
  exact (pss_cons (ps_if (pt_cmpR op_lt (pv 1) (pe_callB call_len (by rfl) T.z_len (by decide +kernel) (pa_cons (pv 0) pa_nil)) (nomark _)) (pss_one (ps_ret (pe_ix ix_seq (pv 0) (pv 1) (fun _ _ => rfl)))) pss_nil) (pss_one (ps_ret (pe_int))))
theorem ok_law_state (T : Tx K mg fn fd cl) : letI : Wo := ⟨P, w⟩; FnOk P w K mg base CX0 1 (fn 10) (fd 10) ["cell", "k"] (sp_law_state K cl) := by
  haveI := T.cf
  letI : Wo := ⟨P, w⟩
  refine T.F_law_state.ok sc_law_state (fun vs H Q E h => by revert h; walk_at "ln") (fun cdv A outer s H vs Q E hr h => ⟨t_law_state K cl, ?_, rd_law_state h⟩)
  exact (pss_cons (ps_if (pt_cmpR op_ge (pv 0) (pe_int) (nomark _)) (pss_one (ps_ret (pe_lst (pa_cons (pv 0) pa_nil)))) pss_nil) (pss_cons (ps_set (i := 2) sc_law_state.nd rfl (.inl rfl) (pe_int)) (pss_cons (ps_set (i := 3) sc_law_state.nd rfl (.inl rfl) (pe_op op_mod (pe_callTy call_int1 (by rfl) T.z_int (by decide +kernel) (pa_cons (pe_op op_addA (pe_op op_addA (pe_op op_mul (pv 0) (pe_int)) (pe_op op_mul (pe_op op_addA (pv 1) (pe_int)) (pe_int))) (pe_int)) pa_nil)) (pv 2))) (pss_cons (ps_set (i := 4) sc_law_state.nd rfl (.inl rfl) (pe_op op_mod (pe_callTy call_int1 (by rfl) T.z_int (by decide +kernel) (pa_cons (pe_op op_addA (pe_op op_addA (pe_op op_mul (pv 3) (pv 3)) (pe_op op_mul (pe_int) (pv 3))) (pv 1)) pa_nil)) (pv 2))) (pss_cons (ps_set (i := 5) sc_law_state.nd rfl (.inl rfl) (pe_op op_mod (pe_callTy call_int1 (by rfl) T.z_int (by decide +kernel) (pa_cons (pe_op op_addA (pe_op op_addA (pe_op op_mul (pv 4) (pe_int)) (pe_op op_mul (pv 3) (pe_int))) (pe_int)) pa_nil)) (pv 2))) (pss_cons (ps_set (i := 6) sc_law_state.nd rfl (.inl rfl) (pe_op op_mod (pe_callTy call_int1 (by rfl) T.z_int (by decide +kernel) (pa_cons (pe_op op_addA (pe_op op_mul (pv 5) (pv 5)) (pv 4)) pa_nil)) (pv 2))) (pss_one (ps_ret (pe_lst (pa_cons (pe_op op_addA (pe_op op_mul (pe_op op_addA (pe_op op_mul (pe_op op_addA (pe_op op_mul (pv 6) (pv 2)) (pv 5)) (pv 2)) (pv 4)) (pv 2)) (pv 3)) pa_nil))))))))))
theorem ok_law_digit (T : Tx K mg fn fd cl) : letI : Wo := ⟨P, w⟩; FnOk P w K mg base CX0 1 (fn 11) (fd 11) ["state", "many"] (sp_law_digit K cl) := by
  haveI := T.cf
  letI : Wo := ⟨P, w⟩
  refine T.F_law_digit.ok sc_law_digit (fun vs H Q E h => by revert h; walk_at "ln") (fun cdv A outer s H vs Q E hr h => ⟨t_law_digit K cl, ?_, rd_law_digit h⟩)
  exact (pss_cons (ps_set (i := 2) sc_law_digit.nd rfl (.inl rfl) (pe_op op_mod (pe_callTy call_int1 (by rfl) T.z_int (by decide +kernel) (pa_cons (pe_ix ix_seq (pv 0) (pe_int) (fun _ _ => rfl)) pa_nil)) (pv 1))) (pss_cons (ps_asg (pe_op op_fdiv (pe_ix ix_seq (pv 0) (pe_int) (fun _ _ => rfl)) (pv 1)) (pg_sub (pv 0) (pe_int) set_list)) (pss_one (ps_ret (pv 2)))))
theorem ok_law_rows (T : Tx K mg fn fd cl) : letI : Wo := ⟨P, w⟩; FnOk P w K mg base CX0 1 (fn 12) (fd 12) ["postings"] (sp_law_rows K cl) := by
  haveI := T.cf
  letI : Wo := ⟨P, w⟩
  refine T.F_law_rows.ok sc_law_rows (fun vs H Q E h => by revert h; walk_at "ln") (fun cdv A outer s H vs Q E hr h => ⟨t_law_rows K cl, ?_, rd_law_rows h⟩)
  exact (pss_one (ps_ret (pe_lc (own := [("posting", 1)]) rfl sc_law_rows.nd (pi_seq (pv 0)) (blkOk_by (own := [("posting", 1)]) (N := ["postings", "posting"]) (sc := defScope s_law_rows) (by decide +kernel)) (fun _ _ _ _ _ => (pg_name (i := 1) sc_law_rows.nd rfl (.inl rfl))) (fun _ _ _ _ _ => pts_nil) (fun _ _ _ _ _ => (pe_tup (pa_cons (pe_fld (pv 1) rfl) (pa_cons (pe_fld (pv 1) rfl) (pa_cons (pe_fld (pv 1) rfl) (pa_cons (pe_fld (pv 1) rfl) pa_nil)))))))))
theorem ok_Ledger_balance (T : Tx K mg fn fd cl) : letI : Wo := ⟨P, w⟩; FnOk P w K mg base CX0 2 (fn 7) (fd 7) ["self", "account"] (sp_Ledger_balance K cl) := by
  haveI := T.cf
  letI : Wo := ⟨P, w⟩
  refine T.F_Ledger_balance.ok sc_Ledger_balance (fun vs H Q E h => by revert h; walk_at "ln") (fun cdv A outer s H vs Q E hr h => ⟨t_Ledger_balance K cl, ?_, rd_Ledger_balance h⟩)
  exact (pss_cons (ps_set (i := 2) sc_Ledger_balance.nd rfl (.inl rfl) (pe_int)) (pss_cons (ps_for PassesOwn.never rfl (pi_seq (pe_meth (pv 0) T.cf.cl_Ledger T.meth_Ledger_postings (ok_Ledger_postings T) (hr.mono (by decide)) T.b_Ledger_postings .nil pass0 (pa_cons (pv 1) pa_nil))) (pg_name (i := 3) sc_Ledger_balance.nd rfl (.inl rfl)) (pss_one (ps_set (i := 2) sc_Ledger_balance.nd rfl (.inl rfl) (pe_op op_addA (pv 2) (pe_fld (pv 3) rfl))))) (pss_one (ps_ret (pv 2)))))
theorem ok_Ledger_make_statement (T : Tx K mg fn fd cl) : letI : Wo := ⟨P, w⟩; FnOk P w K mg base CX0 2 (fn 8) (fd 8) ["self", "account"] (sp_Ledger_make_statement K cl) := by
  haveI := T.cf
  letI : Wo := ⟨P, w⟩
  refine T.F_Ledger_make_statement.ok sc_Ledger_make_statement (fun vs H Q E h => by revert h; walk_at "ln") (fun cdv A outer s H vs Q E hr h => ⟨t_Ledger_make_statement K cl, ?_, rd_Ledger_make_statement h⟩)
  exact (pss_cons (ps_asg (pe_get2 hr.units (pe_fld (pv 0) rfl) (pv 1) (pe_tup (pa_cons (pe_int) (pa_cons (pe_int) pa_nil))) ⟨rfl, rfl, rfl, rfl⟩) (pg_tup rfl (pgs_cons (pg_name (i := 2) sc_Ledger_make_statement.nd rfl (.inl rfl)) (pgs_cons (pg_name (i := 3) sc_Ledger_make_statement.nd rfl (.inl rfl)) pgs_nil)))) (pss_cons (ps_set (i := 4) sc_Ledger_make_statement.nd rfl (.inl rfl) (pe_meth (pv 0) T.cf.cl_Ledger T.meth_Ledger_postings (ok_Ledger_postings T) (hr.mono (by decide)) T.b_Ledger_postings .nil pass0 (pa_cons (pv 1) pa_nil))) (pss_cons (ps_set (i := 5) sc_Ledger_make_statement.nd rfl (.inl rfl) (pv 3)) (pss_cons (ps_for PassesOwn.never rfl (pi_seq (pe_slice sl_any (pv 4) (po_some (pv 2)) po_none)) (pg_name (i := 6) sc_Ledger_make_statement.nd rfl (.inl rfl)) (pss_one (ps_set (i := 5) sc_Ledger_make_statement.nd rfl (.inl rfl) (pe_op op_addA (pv 5) (pe_fld (pv 6) rfl))))) (pss_cons (ps_asg (pe_tup (pa_cons (pe_callB call_len (by rfl) T.z_len (by decide +kernel) (pa_cons (pv 4) pa_nil)) (pa_cons (pv 5) pa_nil))) (pg_sub (pe_fld (pv 0) rfl) (pv 1) (set_dictA hr.units))) (pss_one (ps_ret (pe_tup (pa_cons (pv 3) (pa_cons (pe_slice sl_any (pv 4) (po_some (pv 2)) po_none) (pa_cons (pv 5) pa_nil)))))))))))
theorem ok_law_large (T : Tx K mg fn fd cl) : letI : Wo := ⟨P, w⟩; FnOk P w K mg base CX0 2 (fn 13) (fd 13) ["script"] (sp_law_large K cl) := by
  haveI := T.cf
  letI : Wo := ⟨P, w⟩
  refine T.F_law_large.ok sc_law_large (fun vs H Q E h => by revert h; walk_at "ln") (fun cdv A outer s H vs Q E hr h => ⟨t_law_large K cl, ?_, rd_law_large h⟩)
  exact (pss_one (ps_ret (pe_cmpR (op_eqA hr.units) (pe_call (ok_law_digit T) (hr.mono (by decide)) (by rfl) T.m_law_digit T.F_law_digit.kp T.b_law_digit .nil pass0 (pa_cons (pe_call (ok_law_state T) (hr.mono (by decide)) (by rfl) T.m_law_state T.F_law_state.kp T.b_law_state .nil pass0 (pa_cons (pe_call (ok_law_cell T) (hr.mono (by decide)) (by rfl) T.m_law_cell T.F_law_cell.kp T.b_law_cell .nil pass0 (pa_cons (pv 0) (pa_cons (pe_int) pa_nil))) (pa_cons (pe_int) pa_nil))) (pa_cons (pe_int) pa_nil))) (pe_int) (nomark _))))
theorem ok_Ledger_post (T : Tx K mg fn fd cl) : letI : Wo := ⟨P, w⟩; FnOk P w K mg base CX0 3 (fn 3) (fd 3) ["self", "key", "account", "amount", "clock"] (sp_Ledger_post K cl) := by
  haveI := T.cf
  letI : Wo := ⟨P, w⟩
  refine T.F_Ledger_post.ok sc_Ledger_post (fun vs H Q E h => by revert h; walk_at "ln") (fun cdv A outer s H vs Q E hr h => ⟨t_Ledger_post K cl, ?_, rd_Ledger_post h⟩)
  exact (pss_cons (ps_set (i := 5) sc_Ledger_post.nd rfl (.inl rfl) (pe_get1 hr.units (pe_fld (pv 0) rfl) (pv 1) ⟨rfl, rfl, rfl, rfl⟩)) (pss_cons (ps_set (i := 6) sc_Ledger_post.nd rfl (.inl rfl) (pe_lst pa_nil)) (pss_cons (ps_set (i := 7) sc_Ledger_post.nd rfl (.inl rfl) (pv 3)) (pss_cons (ps_if (PW.pt (pw_and (pt_cmpR op_notN (pv 5) (pe_non) (nomark _)) (pw_and1 (pt_cmpR (op_eqA hr.units) (pe_ix ix_seq (pv 5) (pe_int) (fun _ _ => rfl)) (pv 2) (nomark _))))) (pss_one (ps_set (i := 7) sc_Ledger_post.nd rfl (.inl rfl) (pe_op op_sub (pv 3) (pe_ix ix_seq (pv 5) (pe_int) (fun _ _ => rfl))))) (pss_one (ps_if (pt_cmpR op_notN (pv 5) (pe_non) (nomark _)) (pss_one (ps_expr (pe_bm PySem.F.plainAttrs_list PySem.F.slot_list_append PySem.F.type_list_append mt_append (pv 6) (pa_cons (pe_make T.mk_Posting (ok_Posting_init T) (hr.mono (by decide)) (by rfl) T.m_Posting T.b_Posting_init .nil pass0 (pa_cons (pe_ix ix_seq (pv 5) (pe_int) (fun _ _ => rfl)) (pa_cons (pv 1) (pa_cons (pe_un un_neg (pe_ix ix_seq (pv 5) (pe_int) (fun _ _ => rfl))) (pa_cons (pv 4) pa_nil))))) pa_nil)))) pss_nil))) (pss_cons (ps_if (pt_cmpR (op_neA hr.units) (pv 7) (pe_int) (nomark _)) (pss_one (ps_expr (pe_bm PySem.F.plainAttrs_list PySem.F.slot_list_append PySem.F.type_list_append mt_append (pv 6) (pa_cons (pe_make T.mk_Posting (ok_Posting_init T) (hr.mono (by decide)) (by rfl) T.m_Posting T.b_Posting_init .nil pass0 (pa_cons (pv 2) (pa_cons (pv 1) (pa_cons (pv 7) (pa_cons (pv 4) pa_nil))))) pa_nil)))) pss_nil) (pss_cons (ps_if (pt_cmpR (op_neA hr.units) (pv 3) (pe_int) (nomark _)) (pss_one (ps_asg (pe_tup (pa_cons (pv 2) (pa_cons (pv 3) pa_nil))) (pg_sub (pe_fld (pv 0) rfl) (pv 1) (set_dictA hr.units)))) (pss_one (ps_if (pt_cmpR op_notN (pv 5) (pe_non) (nomark _)) (pss_one (ps_delA hr.units (pe_fld (pv 0) rfl) (pv 1))) pss_nil))) (pss_cons (ps_fld (pv 0) (pe_op op_addA (pe_fld (pv 0) rfl) (pv 6)) rfl) (pss_one (ps_ret (pv 6))))))))))
theorem ok_law (T : Tx K mg fn fd cl) : letI : Wo := ⟨P, w⟩; FnOk P w K mg base CX0 4 (fn 14) (fd 14) ["script"] (sp_law K cl) := by
  haveI := T.cf
  letI : Wo := ⟨P, w⟩
  refine T.F_law.ok sc_law (fun vs H Q E h => by revert h; walk_at "ln") (fun cdv A outer s H vs Q E hr h => ⟨t_law K cl, ?_, rd_law h⟩)
  exact (pss_cons (ps_set (i := 1) sc_law.nd rfl (.inl rfl) (pe_make0 T.mk_Ledger (ok_Ledger_init T) (hr.mono (by decide)) (by rfl) T.m_Ledger T.b_Ledger_init .nil pass0 )) (pss_cons (ps_set (i := 2) sc_law.nd rfl (.inl rfl) (pe_callTy call_int1 (by rfl) T.z_int (by decide +kernel) (pa_cons (pe_call (ok_law_large T) (hr.mono (by decide)) (by rfl) T.m_law_large T.F_law_large.kp T.b_law_large .nil pass0 (pa_cons (pv 0) pa_nil)) pa_nil))) (pss_cons (ps_set (i := 3) sc_law.nd rfl (.inl rfl) (pe_disp (pps_cons (pe_str) (pe_int) (pps_cons (pe_str) (pe_int) pps_nil)) rfl rfl (fun h => nomatch h) (Nat.le_of_ble_eq_true rfl))) (pss_cons (ps_set (i := 4) sc_law.nd rfl (.inl rfl) (pe_disp (pps_cons (pe_str) (pe_lst pa_nil) (pps_cons (pe_str) (pe_lst pa_nil) pps_nil)) rfl rfl (fun h => nomatch h) (Nat.le_of_ble_eq_true rfl))) (pss_cons (ps_for PassesOwn.never rfl (pi_range1 (by rfl) T.z_range (pa_cons (pe_op op_addA (pe_callB (call_min2 rfl) (by rfl) T.z_min (by decide +kernel) (pa_cons (pe_int) (pa_cons (pe_op op_addA (pe_int) (pe_callB call_len (by rfl) T.z_len (by decide +kernel) (pa_cons (pv 0) pa_nil))) pa_nil))) (pe_op op_mul (pe_int) (pv 2))) pa_nil)) (pg_name (i := 5) sc_law.nd rfl (.inl rfl)) (pss_cons (ps_set (i := 6) sc_law.nd rfl (.inl rfl) (pe_call (ok_law_state T) (hr.mono (by decide)) (by rfl) T.m_law_state T.F_law_state.kp T.b_law_state .nil pass0 (pa_cons (pe_call (ok_law_cell T) (hr.mono (by decide)) (by rfl) T.m_law_cell T.F_law_cell.kp T.b_law_cell .nil pass0 (pa_cons (pv 0) (pa_cons (pv 5) pa_nil))) (pa_cons (pv 5) pa_nil)))) (pss_cons (ps_set (i := 7) sc_law.nd rfl (.inl rfl) (pe_tup (pa_cons (pe_tup (pa_cons (pe_int) (pa_cons (pe_int) (pa_cons (pe_call (ok_law_digit T) (hr.mono (by decide)) (by rfl) T.m_law_digit T.F_law_digit.kp T.b_law_digit .nil pass0 (pa_cons (pv 6) (pa_cons (pe_op op_addA (pe_int) (pe_op op_mul (pe_int) (pv 2))) pa_nil))) pa_nil)))) (pa_cons (pe_int) (pa_cons (pe_str) pa_nil))))) (pss_cons (ps_set (i := 8) sc_law.nd rfl (.inl rfl) (pe_ix ix_seq (pe_tup (pa_cons (pe_str) (pa_cons (pe_str) pa_nil))) (pe_call (ok_law_digit T) (hr.mono (by decide)) (by rfl) T.m_law_digit T.F_law_digit.kp T.b_law_digit .nil pass0 (pa_cons (pv 6) (pa_cons (pe_int) pa_nil))) (fun _ _ => rfl))) (pss_cons (ps_for PassesOwn.never rfl (pi_seq (pe_call (ok_law_rows T) (hr.mono (by decide)) (by rfl) T.m_law_rows T.F_law_rows.kp T.b_law_rows .nil pass0 (pa_cons (pe_meth (pv 1) T.cf.cl_Ledger T.meth_Ledger_post (ok_Ledger_post T) (hr.mono (by decide)) T.b_Ledger_post .nil pass0 (pa_cons (pv 7) (pa_cons (pv 8) (pa_cons (pe_call (ok_law_digit T) (hr.mono (by decide)) (by rfl) T.m_law_digit T.F_law_digit.kp T.b_law_digit .nil pass0 (pa_cons (pv 6) (pa_cons (pe_int) pa_nil))) (pa_cons (pv 5) pa_nil))))) pa_nil))) (pg_name (i := 9) sc_law.nd rfl (.inl rfl)) (pss_one (ps_asg (pe_op op_addA (pe_ix (ix_dictA hr.units) (pv 4) (pe_ix ix_seq (pv 9) (pe_int) (fun _ _ => rfl)) (fun _ _ => rfl)) (pe_lst (pa_cons (pv 9) pa_nil))) (pg_sub (pv 4) (pe_ix ix_seq (pv 9) (pe_int) (fun _ _ => rfl)) (set_dictA hr.units))))) (pss_one (ps_if (pt_cmpR (op_eqA hr.units) (pe_call (ok_law_digit T) (hr.mono (by decide)) (by rfl) T.m_law_digit T.F_law_digit.kp T.b_law_digit .nil pass0 (pa_cons (pv 6) (pa_cons (pe_op op_addA (pe_int) (pe_op op_mul (pe_int) (pv 2))) pa_nil))) (pe_int) (nomark _)) (pss_cons (ps_set (i := 10) sc_law.nd rfl (.inl rfl) (pe_ix ix_seq (pe_tup (pa_cons (pe_str) (pa_cons (pe_str) pa_nil))) (pe_call (ok_law_digit T) (hr.mono (by decide)) (by rfl) T.m_law_digit T.F_law_digit.kp T.b_law_digit .nil pass0 (pa_cons (pv 6) (pa_cons (pe_int) pa_nil))) (fun _ _ => rfl))) (pss_cons (ps_asg (pe_meth (pv 1) T.cf.cl_Ledger T.meth_Ledger_make_statement (ok_Ledger_make_statement T) (hr.mono (by decide)) T.b_Ledger_make_statement .nil pass0 (pa_cons (pv 10) pa_nil)) (pg_tup rfl (pgs_cons (pg_name (i := 11) sc_law.nd rfl (.inl rfl)) (pgs_cons (pg_name (i := 12) sc_law.nd rfl (.inl rfl)) (pgs_cons (pg_name (i := 13) sc_law.nd rfl (.inl rfl)) pgs_nil))))) (pss_cons (ps_if (PW.pt (pw_or (pt_cmpR (op_neA hr.units) (pv 11) (pe_ix (ix_dictA hr.units) (pv 3) (pv 10) (fun _ _ => rfl)) (nomark _)) (pw_or1 (pt_cmpR (op_neA hr.units) (pe_call (ok_law_rows T) (hr.mono (by decide)) (by rfl) T.m_law_rows T.F_law_rows.kp T.b_law_rows .nil pass0 (pa_cons (pv 12) pa_nil)) (pe_ix (ix_dictA hr.units) (pv 4) (pv 10) (fun _ _ => rfl)) (nomark _))))) (pss_one (ps_ret (pe_bl))) pss_nil) (pss_cons (ps_if (PW.pt (pw_or (pt_cmpR (op_neA hr.units) (pv 13) (pe_op op_addA (pv 11) (pe_callB (cr_sum rfl) (by rfl) T.z_sum (by decide +kernel) (pa_cons (pe_lc (own := [("row", 9)]) rfl sc_law.nd (pi_seq (pe_ix (ix_dictA hr.units) (pv 4) (pv 10) (fun _ _ => rfl))) (blkOk_by (own := [("row", 9)]) (N := ["script", "ledger", "large", "closing", "open_rows", "k", "state", "key", "account", "row", "name", "opening", "postings", "end", "before"]) (sc := defScope s_law) (by decide +kernel)) (fun _ _ _ _ _ => (pg_name (i := 9) sc_law.nd rfl (.inl rfl))) (fun _ _ _ _ _ => pts_nil) (fun _ _ _ _ _ => (pe_ix ix_seq (pv 9) (pe_int) (fun _ _ => rfl)))) pa_nil))) (nomark _)) (pw_or1 (pt_cmpR (op_neA hr.units) (pv 13) (pe_meth (pv 1) T.cf.cl_Ledger T.meth_Ledger_balance (ok_Ledger_balance T) (hr.mono (by decide)) T.b_Ledger_balance .nil pass0 (pa_cons (pv 10) pa_nil)) (nomark _))))) (pss_one (ps_ret (pe_bl))) pss_nil) (pss_cons (ps_asg (pv 13) (pg_sub (pv 3) (pv 10) (set_dictA hr.units))) (pss_one (ps_asg (pe_lst pa_nil) (pg_sub (pv 4) (pv 10) (set_dictA hr.units))))))))) pss_nil))))))) (pss_cons (ps_for PassesOwn.never rfl (pi_seq (pe_tup (pa_cons (pe_str) (pa_cons (pe_str) pa_nil)))) (pg_name (i := 10) sc_law.nd rfl (.inl rfl)) (pss_cons (ps_set (i := 14) sc_law.nd rfl (.inl rfl) (pe_meth (pv 1) T.cf.cl_Ledger T.meth_Ledger_balance (ok_Ledger_balance T) (hr.mono (by decide)) T.b_Ledger_balance .nil pass0 (pa_cons (pv 10) pa_nil))) (pss_cons (ps_asg (pe_meth (pv 1) T.cf.cl_Ledger T.meth_Ledger_make_statement (ok_Ledger_make_statement T) (hr.mono (by decide)) T.b_Ledger_make_statement .nil pass0 (pa_cons (pv 10) pa_nil)) (pg_tup rfl (pgs_cons (pg_name (i := 11) sc_law.nd rfl (.inl rfl)) (pgs_cons (pg_name (i := 12) sc_law.nd rfl (.inl rfl)) (pgs_cons (pg_name (i := 13) sc_law.nd rfl (.inl rfl)) pgs_nil))))) (pss_cons (ps_if (PW.pt (pw_or (pt_cmpR (op_neA hr.units) (pe_tup (pa_cons (pv 11) (pa_cons (pv 13) pa_nil))) (pe_tup (pa_cons (pe_ix (ix_dictA hr.units) (pv 3) (pv 10) (fun _ _ => rfl)) (pa_cons (pv 14) pa_nil))) (nomark _)) (pw_or1 (pt_cmpR (op_neA hr.units) (pe_call (ok_law_rows T) (hr.mono (by decide)) (by rfl) T.m_law_rows T.F_law_rows.kp T.b_law_rows .nil pass0 (pa_cons (pv 12) pa_nil)) (pe_ix (ix_dictA hr.units) (pv 4) (pv 10) (fun _ _ => rfl)) (nomark _))))) (pss_one (ps_ret (pe_bl))) pss_nil) (pss_one (ps_if (PW.pt (pw_or (pt_cmpR (op_neA hr.units) (pe_meth (pv 1) T.cf.cl_Ledger T.meth_Ledger_make_statement (ok_Ledger_make_statement T) (hr.mono (by decide)) T.b_Ledger_make_statement .nil pass0 (pa_cons (pv 10) pa_nil)) (pe_tup (pa_cons (pv 14) (pa_cons (pe_lst pa_nil) (pa_cons (pv 14) pa_nil)))) (nomark _)) (pw_or1 (pt_cmpR (op_neA hr.units) (pe_meth (pv 1) T.cf.cl_Ledger T.meth_Ledger_balance (ok_Ledger_balance T) (hr.mono (by decide)) T.b_Ledger_balance .nil pass0 (pa_cons (pv 10) pa_nil)) (pv 14) (nomark _))))) (pss_one (ps_ret (pe_bl))) pss_nil)))))) (pss_one (ps_ret (pe_cmpR (op_eqA hr.units) (pe_meth (pv 1) T.cf.cl_Ledger T.meth_Ledger_make_statement (ok_Ledger_make_statement T) (hr.mono (by decide)) T.b_Ledger_make_statement .nil pass0 (pa_cons (pe_str) pa_nil)) (pe_tup (pa_cons (pe_int) (pa_cons (pe_lst pa_nil) (pa_cons (pe_int) pa_nil)))) (nomark _))))))))))
end
theorem all_mk {l : PySem.W.OpenLaw} {w : World} {K : PySem.W.Frag} {h : Heap} {mg : Str → Option Value} {fa : Addr} (X : K.In h) (G : h.Ns mainGlobals mg) (hfa : mg "law" = some (.ref fa))
    {f1 f2 f3 f6 f7 f8 f9 f10 f11 f12 f13 f14 : Addr}
    {c0 c1 : Addr}
    {od1 an1 : Option Addr} {sl1 : Array (Option Value)} {oc1 kV1 dc1 pm1 cd1 ct1 : Value}
    {od2 an2 : Option Addr} {sl2 : Array (Option Value)} {oc2 kV2 dc2 pm2 cd2 ct2 : Value}
    {od3 an3 : Option Addr} {sl3 : Array (Option Value)} {oc3 kV3 dc3 pm3 cd3 ct3 : Value}
    {od6 an6 : Option Addr} {sl6 : Array (Option Value)} {oc6 kV6 dc6 pm6 cd6 ct6 : Value}
    {od7 an7 : Option Addr} {sl7 : Array (Option Value)} {oc7 kV7 dc7 pm7 cd7 ct7 : Value}
    {od8 an8 : Option Addr} {sl8 : Array (Option Value)} {oc8 kV8 dc8 pm8 cd8 ct8 : Value}
    {od9 an9 : Option Addr} {sl9 : Array (Option Value)} {oc9 kV9 dc9 pm9 cd9 ct9 : Value}
    {od10 an10 : Option Addr} {sl10 : Array (Option Value)} {oc10 kV10 dc10 pm10 cd10 ct10 : Value}
    {od11 an11 : Option Addr} {sl11 : Array (Option Value)} {oc11 kV11 dc11 pm11 cd11 ct11 : Value}
    {od12 an12 : Option Addr} {sl12 : Array (Option Value)} {oc12 kV12 dc12 pm12 cd12 ct12 : Value}
    {od13 an13 : Option Addr} {sl13 : Array (Option Value)} {oc13 kV13 dc13 pm13 cd13 ct13 : Value}
    {od14 an14 : Option Addr} {sl14 : Array (Option Value)} {oc14 kV14 dc14 pm14 cd14 ct14 : Value}
    (ca0 : PySem.W.nsIn K mainGlobals "Posting" = some (some (.ref c0)))
    (mk0 : PySem.W.makesIn K c0 = true)
    (kc0 : PySem.W.keepIn K (.ref c0) = true)
    (pg0 : PySem.W.plainGet K c0 Str.empty = true)
    (hd0 : PySem.W.hasDictIn K c0 = true)
    (po0 : PySem.W.plainOver K c0 = true)
    (sa0 : PySem.W.findIn K (.ref c0) "__setattr__" = some (some (.builtin "object.__setattr__")))
    (n0_0 : PySem.W.findIn K (.ref c0) "account" = some none)
    (n0_1 : PySem.W.findIn K (.ref c0) "key" = some none)
    (n0_2 : PySem.W.findIn K (.ref c0) "amount" = some none)
    (n0_3 : PySem.W.findIn K (.ref c0) "written" = some none)
    (ca1 : PySem.W.nsIn K mainGlobals "Ledger" = some (some (.ref c1)))
    (mk1 : PySem.W.makesIn K c1 = true)
    (kc1 : PySem.W.keepIn K (.ref c1) = true)
    (pg1 : PySem.W.plainGet K c1 Str.empty = true)
    (hd1 : PySem.W.hasDictIn K c1 = true)
    (po1 : PySem.W.plainOver K c1 = true)
    (sa1 : PySem.W.findIn K (.ref c1) "__setattr__" = some (some (.builtin "object.__setattr__")))
    (n1_0 : PySem.W.findIn K (.ref c1) "lines" = some none)
    (n1_1 : PySem.W.findIn K (.ref c1) "stands" = some none)
    (n1_2 : PySem.W.findIn K (.ref c1) "stated" = some none)
    (a1 : PySem.W.findIn K (.ref c0) "__init__" = some (some (.ref f1)))
    (i1 : PySem.W.isFn K (.ref f1) = true)
    (l1 : K.lookup f1 = some ⟨oc1, od1, .func (PySem.W.fnOf "__init__" "Posting.__init__" (defArgs s_Posting_init) (defBody s_Posting_init) (defScope s_Posting_init) .none kV1 dc1 pm1 an1 cd1 ct1), sl1⟩)
    (k1 : PySem.W.codeIn K cd1 "Posting.__init__" = true)
    (p1 : PySem.W.keepIn K (.ref f1) = true)
    (a2 : PySem.W.findIn K (.ref c1) "__init__" = some (some (.ref f2)))
    (i2 : PySem.W.isFn K (.ref f2) = true)
    (l2 : K.lookup f2 = some ⟨oc2, od2, .func (PySem.W.fnOf "__init__" "Ledger.__init__" (defArgs s_Ledger_init) (defBody s_Ledger_init) (defScope s_Ledger_init) .none kV2 dc2 pm2 an2 cd2 ct2), sl2⟩)
    (k2 : PySem.W.codeIn K cd2 "Ledger.__init__" = true)
    (p2 : PySem.W.keepIn K (.ref f2) = true)
    (a3 : PySem.W.findIn K (.ref c1) "post" = some (some (.ref f3)))
    (i3 : PySem.W.isFn K (.ref f3) = true)
    (l3 : K.lookup f3 = some ⟨oc3, od3, .func (PySem.W.fnOf "post" "Ledger.post" (defArgs s_Ledger_post) (defBody s_Ledger_post) (defScope s_Ledger_post) .none kV3 dc3 pm3 an3 cd3 ct3), sl3⟩)
    (k3 : PySem.W.codeIn K cd3 "Ledger.post" = true)
    (p3 : PySem.W.keepIn K (.ref f3) = true)
    (a6 : PySem.W.findIn K (.ref c1) "postings" = some (some (.ref f6)))
    (i6 : PySem.W.isFn K (.ref f6) = true)
    (l6 : K.lookup f6 = some ⟨oc6, od6, .func (PySem.W.fnOf "postings" "Ledger.postings" (defArgs s_Ledger_postings) (defBody s_Ledger_postings) (defScope s_Ledger_postings) .none kV6 dc6 pm6 an6 cd6 ct6), sl6⟩)
    (k6 : PySem.W.codeIn K cd6 "Ledger.postings" = true)
    (p6 : PySem.W.keepIn K (.ref f6) = true)
    (a7 : PySem.W.findIn K (.ref c1) "balance" = some (some (.ref f7)))
    (i7 : PySem.W.isFn K (.ref f7) = true)
    (l7 : K.lookup f7 = some ⟨oc7, od7, .func (PySem.W.fnOf "balance" "Ledger.balance" (defArgs s_Ledger_balance) (defBody s_Ledger_balance) (defScope s_Ledger_balance) .none kV7 dc7 pm7 an7 cd7 ct7), sl7⟩)
    (k7 : PySem.W.codeIn K cd7 "Ledger.balance" = true)
    (p7 : PySem.W.keepIn K (.ref f7) = true)
    (a8 : PySem.W.findIn K (.ref c1) "make_statement" = some (some (.ref f8)))
    (i8 : PySem.W.isFn K (.ref f8) = true)
    (l8 : K.lookup f8 = some ⟨oc8, od8, .func (PySem.W.fnOf "make_statement" "Ledger.make_statement" (defArgs s_Ledger_make_statement) (defBody s_Ledger_make_statement) (defScope s_Ledger_make_statement) .none kV8 dc8 pm8 an8 cd8 ct8), sl8⟩)
    (k8 : PySem.W.codeIn K cd8 "Ledger.make_statement" = true)
    (p8 : PySem.W.keepIn K (.ref f8) = true)
    (a9 : PySem.W.nsIn K mainGlobals "_law_cell" = some (some (.ref f9)))
    (l9 : K.lookup f9 = some ⟨oc9, od9, .func (PySem.W.fnOf "_law_cell" "_law_cell" (defArgs s_law_cell) (defBody s_law_cell) (defScope s_law_cell) .none kV9 dc9 pm9 an9 cd9 ct9), sl9⟩)
    (k9 : PySem.W.codeIn K cd9 "_law_cell" = true)
    (p9 : PySem.W.keepIn K (.ref f9) = true)
    (a10 : PySem.W.nsIn K mainGlobals "_law_state" = some (some (.ref f10)))
    (l10 : K.lookup f10 = some ⟨oc10, od10, .func (PySem.W.fnOf "_law_state" "_law_state" (defArgs s_law_state) (defBody s_law_state) (defScope s_law_state) .none kV10 dc10 pm10 an10 cd10 ct10), sl10⟩)
    (k10 : PySem.W.codeIn K cd10 "_law_state" = true)
    (p10 : PySem.W.keepIn K (.ref f10) = true)
    (a11 : PySem.W.nsIn K mainGlobals "_law_digit" = some (some (.ref f11)))
    (l11 : K.lookup f11 = some ⟨oc11, od11, .func (PySem.W.fnOf "_law_digit" "_law_digit" (defArgs s_law_digit) (defBody s_law_digit) (defScope s_law_digit) .none kV11 dc11 pm11 an11 cd11 ct11), sl11⟩)
    (k11 : PySem.W.codeIn K cd11 "_law_digit" = true)
    (p11 : PySem.W.keepIn K (.ref f11) = true)
    (a12 : PySem.W.nsIn K mainGlobals "_law_rows" = some (some (.ref f12)))
    (l12 : K.lookup f12 = some ⟨oc12, od12, .func (PySem.W.fnOf "_law_rows" "_law_rows" (defArgs s_law_rows) (defBody s_law_rows) (defScope s_law_rows) .none kV12 dc12 pm12 an12 cd12 ct12), sl12⟩)
    (k12 : PySem.W.codeIn K cd12 "_law_rows" = true)
    (p12 : PySem.W.keepIn K (.ref f12) = true)
    (a13 : PySem.W.nsIn K mainGlobals "_law_large" = some (some (.ref f13)))
    (l13 : K.lookup f13 = some ⟨oc13, od13, .func (PySem.W.fnOf "_law_large" "_law_large" (defArgs s_law_large) (defBody s_law_large) (defScope s_law_large) .none kV13 dc13 pm13 an13 cd13 ct13), sl13⟩)
    (k13 : PySem.W.codeIn K cd13 "_law_large" = true)
    (p13 : PySem.W.keepIn K (.ref f13) = true)
    (a14 : PySem.W.nsIn K mainGlobals "law" = some (some (.ref f14)))
    (l14 : K.lookup f14 = some ⟨oc14, od14, .func (PySem.W.fnOf "law" "law" (defArgs s_law) (defBody s_law) (defScope s_law) .none kV14 dc14 pm14 an14 cd14 ct14), sl14⟩)
    (k14 : PySem.W.codeIn K cd14 "law" = true)
    (p14 : PySem.W.keepIn K (.ref f14) = true)
    (z_int : PySem.W.nsIn K mainGlobals "int" = some none)
    (z_len : PySem.W.nsIn K mainGlobals "len" = some none)
    (z_min : PySem.W.nsIn K mainGlobals "min" = some none)
    (z_range : PySem.W.nsIn K mainGlobals "range" = some none)
    (z_sum : PySem.W.nsIn K mainGlobals "sum" = some none)
    : ∃ fd : FuncData, (∀ (s : Shared) (v : Value), BindsTo s fd ⟨[v], []⟩ [("script", v)]) ∧ ∀ base : Heap, K.In base → base.Ns mainGlobals mg → FnOk l.prog w K mg base CX0 4 fa fd ["script"] (sp_law0 K) := by
  have e := hfa.symm.trans (PySem.W.mg_of X G a14)
  cases e
  have F1 := fun_mk (st := s_Posting_init) l1 k1 p1
  have b1 := F1.binds (ps := ["self", "account", "key", "amount", "written"]) fun _ _ _ _ _ _ us hl => match us, hl with | [_, _, _, _, _], _ => rfl
  have F2 := fun_mk (st := s_Ledger_init) l2 k2 p2
  have b2 := F2.binds (ps := ["self"]) fun _ _ _ _ _ _ us hl => match us, hl with | [_], _ => rfl
  have F3 := fun_mk (st := s_Ledger_post) l3 k3 p3
  have b3 := F3.binds (ps := ["self", "key", "account", "amount", "clock"]) fun _ _ _ _ _ _ us hl => match us, hl with | [_, _, _, _, _], _ => rfl
  have F6 := fun_mk (st := s_Ledger_postings) l6 k6 p6
  have b6 := F6.binds (ps := ["self", "account"]) fun _ _ _ _ _ _ us hl => match us, hl with | [_, _], _ => rfl
  have F7 := fun_mk (st := s_Ledger_balance) l7 k7 p7
  have b7 := F7.binds (ps := ["self", "account"]) fun _ _ _ _ _ _ us hl => match us, hl with | [_, _], _ => rfl
  have F8 := fun_mk (st := s_Ledger_make_statement) l8 k8 p8
  have b8 := F8.binds (ps := ["self", "account"]) fun _ _ _ _ _ _ us hl => match us, hl with | [_, _], _ => rfl
  have F9 := fun_mk (st := s_law_cell) l9 k9 p9
  have b9 := F9.binds (ps := ["script", "k"]) fun _ _ _ _ _ _ us hl => match us, hl with | [_, _], _ => rfl
  have F10 := fun_mk (st := s_law_state) l10 k10 p10
  have b10 := F10.binds (ps := ["cell", "k"]) fun _ _ _ _ _ _ us hl => match us, hl with | [_, _], _ => rfl
  have F11 := fun_mk (st := s_law_digit) l11 k11 p11
  have b11 := F11.binds (ps := ["state", "many"]) fun _ _ _ _ _ _ us hl => match us, hl with | [_, _], _ => rfl
  have F12 := fun_mk (st := s_law_rows) l12 k12 p12
  have b12 := F12.binds (ps := ["postings"]) fun _ _ _ _ _ _ us hl => match us, hl with | [_], _ => rfl
  have F13 := fun_mk (st := s_law_large) l13 k13 p13
  have b13 := F13.binds (ps := ["script"]) fun _ _ _ _ _ _ us hl => match us, hl with | [_], _ => rfl
  have F14 := fun_mk (st := s_law) l14 k14 p14
  have b14 := F14.binds (ps := ["script"]) fun _ _ _ _ _ _ us hl => match us, hl with | [_], _ => rfl
  let fn : Nat → Addr := fun i => [0, f1, f2, f3, 0, 0, f6, f7, f8, f9, f10, f11, f12, f13, fa].getD i 0
  let fd : Nat → FuncData := fun i => [PySem.W.fnOf "law" "law" (defArgs s_law) (defBody s_law) (defScope s_law) .none kV14 dc14 pm14 an14 cd14 ct14, PySem.W.fnOf "__init__" "Posting.__init__" (defArgs s_Posting_init) (defBody s_Posting_init) (defScope s_Posting_init) .none kV1 dc1 pm1 an1 cd1 ct1, PySem.W.fnOf "__init__" "Ledger.__init__" (defArgs s_Ledger_init) (defBody s_Ledger_init) (defScope s_Ledger_init) .none kV2 dc2 pm2 an2 cd2 ct2, PySem.W.fnOf "post" "Ledger.post" (defArgs s_Ledger_post) (defBody s_Ledger_post) (defScope s_Ledger_post) .none kV3 dc3 pm3 an3 cd3 ct3, PySem.W.fnOf "law" "law" (defArgs s_law) (defBody s_law) (defScope s_law) .none kV14 dc14 pm14 an14 cd14 ct14, PySem.W.fnOf "law" "law" (defArgs s_law) (defBody s_law) (defScope s_law) .none kV14 dc14 pm14 an14 cd14 ct14, PySem.W.fnOf "postings" "Ledger.postings" (defArgs s_Ledger_postings) (defBody s_Ledger_postings) (defScope s_Ledger_postings) .none kV6 dc6 pm6 an6 cd6 ct6, PySem.W.fnOf "balance" "Ledger.balance" (defArgs s_Ledger_balance) (defBody s_Ledger_balance) (defScope s_Ledger_balance) .none kV7 dc7 pm7 an7 cd7 ct7, PySem.W.fnOf "make_statement" "Ledger.make_statement" (defArgs s_Ledger_make_statement) (defBody s_Ledger_make_statement) (defScope s_Ledger_make_statement) .none kV8 dc8 pm8 an8 cd8 ct8, PySem.W.fnOf "_law_cell" "_law_cell" (defArgs s_law_cell) (defBody s_law_cell) (defScope s_law_cell) .none kV9 dc9 pm9 an9 cd9 ct9, PySem.W.fnOf "_law_state" "_law_state" (defArgs s_law_state) (defBody s_law_state) (defScope s_law_state) .none kV10 dc10 pm10 an10 cd10 ct10, PySem.W.fnOf "_law_digit" "_law_digit" (defArgs s_law_digit) (defBody s_law_digit) (defScope s_law_digit) .none kV11 dc11 pm11 an11 cd11 ct11, PySem.W.fnOf "_law_rows" "_law_rows" (defArgs s_law_rows) (defBody s_law_rows) (defScope s_law_rows) .none kV12 dc12 pm12 an12 cd12 ct12, PySem.W.fnOf "_law_large" "_law_large" (defArgs s_law_large) (defBody s_law_large) (defScope s_law_large) .none kV13 dc13 pm13 an13 cd13 ct13, PySem.W.fnOf "law" "law" (defArgs s_law) (defBody s_law) (defScope s_law) .none kV14 dc14 pm14 an14 cd14 ct14].getD i (PySem.W.fnOf "law" "law" (defArgs s_law) (defBody s_law) (defScope s_law) .none kV14 dc14 pm14 an14 cd14 ct14)
  let cl : Nat → Addr := fun i => ([c0, c1] : List Addr).getD i 0
  have T : Tx K mg fn fd cl := {
    F_Posting_init := F1,
    b_Posting_init := b1,
    F_Ledger_init := F2,
    b_Ledger_init := b2,
    F_Ledger_post := F3,
    b_Ledger_post := b3,
    meth_Ledger_post := ⟨a3, i3, p3⟩,
    F_Ledger_postings := F6,
    b_Ledger_postings := b6,
    meth_Ledger_postings := ⟨a6, i6, p6⟩,
    F_Ledger_balance := F7,
    b_Ledger_balance := b7,
    meth_Ledger_balance := ⟨a7, i7, p7⟩,
    F_Ledger_make_statement := F8,
    b_Ledger_make_statement := b8,
    meth_Ledger_make_statement := ⟨a8, i8, p8⟩,
    F_law_cell := F9,
    b_law_cell := b9,
    m_law_cell := PySem.W.mg_of X G a9,
    F_law_state := F10,
    b_law_state := b10,
    m_law_state := PySem.W.mg_of X G a10,
    F_law_digit := F11,
    b_law_digit := b11,
    m_law_digit := PySem.W.mg_of X G a11,
    F_law_rows := F12,
    b_law_rows := b12,
    m_law_rows := PySem.W.mg_of X G a12,
    F_law_large := F13,
    b_law_large := b13,
    m_law_large := PySem.W.mg_of X G a13,
    F_law := F14,
    b_law := b14,
    m_law := PySem.W.mg_of X G a14,
    m_Posting := PySem.W.mg_of X G ca0,
    mk_Posting := ⟨mk0, a1, i1, kc0⟩,
    m_Ledger := PySem.W.mg_of X G ca1,
    mk_Ledger := ⟨mk1, a2, i2, kc1⟩,
    z_int := PySem.W.mg_none_of X G z_int,
    z_len := PySem.W.mg_none_of X G z_len,
    z_min := PySem.W.mg_none_of X G z_min,
    z_range := PySem.W.mg_none_of X G z_range,
    z_sum := PySem.W.mg_none_of X G z_sum,
    cf := { cl_Posting := ⟨pg0, hd0, po0, sa0⟩, nf_Posting_account := n0_0, nf_Posting_key := n0_1, nf_Posting_amount := n0_2, nf_Posting_written := n0_3, cl_Ledger := ⟨pg1, hd1, po1, sa1⟩, nf_Ledger_lines := n1_0, nf_Ledger_stands := n1_1, nf_Ledger_stated := n1_2 } }
  letI : Wo := ⟨l.prog, w⟩
  exact ⟨fd 14, fun s v => .of_eq rfl, fun base _ _ => (ok_law T).imp fun vs H Q E h => sp_law_of h⟩
end L89
open PySem PySem.W PyProof.Rows
set_option maxRecDepth 100000 in
set_option maxHeartbeats 0 in
theorem PySem.Challenge.cw_copperline_k89_statements_holds : PySem.Challenge.rw_copperline_k89_statements.Holds := by
  w_on; o_law; k_head; (case hw => w_witness2)
  k_fill
  refine L2.walk_of (l := PySem.Challenge.rw_copperline_k89_statements) (n := 63) (k := 4) (x := "script") (CX := fun _ => L2.CX0) (sp := fun w => L89.sp_law0 _) rfl (by decide) rfl ⟨rfl, by decide, by decide⟩ (fun w h Y => PySem.W.kIn_of Y) ?F (fun _ _ a ns hl _ hS => ⟨a, ns, rfl, hS, hl, fun _ => rfl⟩) (fun _ _ _ _ _ h => h)
  case F =>
    intro w mg fa h KX G hmg
    refine' L89.all_mk KX G hmg ?ca0 ?mk0 ?kc0 ?pg0 ?hd0 ?po0 ?sa0 ?n0_0 ?n0_1 ?n0_2 ?n0_3 ?ca1 ?mk1 ?kc1 ?pg1 ?hd1 ?po1 ?sa1 ?n1_0 ?n1_1 ?n1_2 ?a1 ?i1 ?l1 ?k1 ?p1 ?a2 ?i2 ?l2 ?k2 ?p2 ?a3 ?i3 ?l3 ?k3 ?p3 ?a6 ?i6 ?l6 ?k6 ?p6 ?a7 ?i7 ?l7 ?k7 ?p7 ?a8 ?i8 ?l8 ?k8 ?p8 ?a9 ?l9 ?k9 ?p9 ?a10 ?l10 ?k10 ?p10 ?a11 ?l11 ?k11 ?p11 ?a12 ?l12 ?k12 ?p12 ?a13 ?l13 ?k13 ?p13 ?a14 ?l14 ?k14 ?p14 ?z_int ?z_len ?z_min ?z_range ?z_sum
    (case ca0 => k_is)
    (case mk0 => k_is)
    (case kc0 => k_is)
    (case pg0 => k_is)
    (case hd0 => k_is)
    (case po0 => k_is)
    (case sa0 => k_is)
    (case n0_0 => k_is)
    (case n0_1 => k_is)
    (case n0_2 => k_is)
    (case n0_3 => k_is)
    (case ca1 => k_is)
    (case mk1 => k_is)
    (case kc1 => k_is)
    (case pg1 => k_is)
    (case hd1 => k_is)
    (case po1 => k_is)
    (case sa1 => k_is)
    (case n1_0 => k_is)
    (case n1_1 => k_is)
    (case n1_2 => k_is)
    (case a1 => k_is)
    (case i1 => k_is)
    (case l1 => k_is)
    (case k1 => k_is)
    (case p1 => k_is)
    (case a2 => k_is)
    (case i2 => k_is)
    (case l2 => k_is)
    (case k2 => k_is)
    (case p2 => k_is)
    (case a3 => k_is)
    (case i3 => k_is)
    (case l3 => k_is)
    (case k3 => k_is)
    (case p3 => k_is)
    (case a6 => k_is)
    (case i6 => k_is)
    (case l6 => k_is)
    (case k6 => k_is)
    (case p6 => k_is)
    (case a7 => k_is)
    (case i7 => k_is)
    (case l7 => k_is)
    (case k7 => k_is)
    (case p7 => k_is)
    (case a8 => k_is)
    (case i8 => k_is)
    (case l8 => k_is)
    (case k8 => k_is)
    (case p8 => k_is)
    (case a9 => k_is)
    (case l9 => k_is)
    (case k9 => k_is)
    (case p9 => k_is)
    (case a10 => k_is)
    (case l10 => k_is)
    (case k10 => k_is)
    (case p10 => k_is)
    (case a11 => k_is)
    (case l11 => k_is)
    (case k11 => k_is)
    (case p11 => k_is)
    (case a12 => k_is)
    (case l12 => k_is)
    (case k12 => k_is)
    (case p12 => k_is)
    (case a13 => k_is)
    (case l13 => k_is)
    (case k13 => k_is)
    (case p13 => k_is)
    (case a14 => k_is)
    (case l14 => k_is)
    (case k14 => k_is)
    (case p14 => k_is)
    (case z_int => k_is)
    (case z_len => k_is)
    (case z_min => k_is)
    (case z_range => k_is)
    (case z_sum => k_is)
