import PyProof.Rows.All
import Wide.All
import OpenK.AllK
import Wide.FinOn
import HandS.ForMost
import PySem.Challenge.RW_copperline_k83_price_lines
set_option Elab.async false
set_option linter.all false
set_option maxRecDepth 100000
set_option maxHeartbeats 4000000
/-! Cp1: frozen data and owned cells over the hand layer: Sep G H M (G: what never changes any more, M: what is owned and may change), D (data as a tree), Rep (a value stands for such a tree). -/
namespace Cp
open PySem L2

/-! ### the heap in two parts -/
structure Sep (G H : Hp) (M : List (Addr × HO)) : Prop where
  sub : Same G H
  own : ∀ e ∈ M, H e.1 = some e.2 ∧ G e.1 = none
  nd : (M.map (·.1)).Nodup

theorem Sep.nil {H : Hp} : Sep H H [] := ⟨Same.refl H, (fun _ h => absurd h List.not_mem_nil), List.nodup_nil⟩
theorem Sep.at {G H : Hp} {M : List (Addr × HO)} (S : Sep G H M) {k : Nat} {a : Addr} {o : HO} (h : M[k]? = some (a, o)) : H a = some o :=
  (S.own (a, o) (List.mem_of_getElem? h)).1
theorem Sep.out {G H : Hp} {M : List (Addr × HO)} (S : Sep G H M) {k : Nat} {a : Addr} {o : HO} (h : M[k]? = some (a, o)) : G a = none :=
  (S.own (a, o) (List.mem_of_getElem? h)).2
theorem Sep.drop {G H : Hp} {M : List (Addr × HO)} {e : Addr × HO} (S : Sep G H (e :: M)) : Sep G H M :=
  ⟨S.sub, fun x hx => S.own x (List.mem_cons_of_mem _ hx), (List.nodup_cons.mp S.nd).2⟩
theorem Sep.swap {G H : Hp} {M : List (Addr × HO)} {e f : Addr × HO} (S : Sep G H (e :: f :: M)) : Sep G H (f :: e :: M) := by
  refine ⟨S.sub, fun x hx => S.own x ?_, ?_⟩
  · simp only [List.mem_cons] at hx ⊢
    rcases hx with h | h | h
    · exact .inr (.inl h)
    · exact .inl h
    · exact .inr (.inr h)
  · exact ((List.Perm.swap f e M).map (·.1)).nodup_iff.mp S.nd
theorem Sep.perm {G H : Hp} {M N : List (Addr × HO)} (S : Sep G H M) (p : M.Perm N) : Sep G H N :=
  ⟨S.sub, fun x hx => S.own x (p.mem_iff.mpr hx), (p.map (·.1)).nodup_iff.mp S.nd⟩
theorem perm_pull {α : Type} : ∀ (M : List α) (k : Nat) (e : α), M[k]? = some e → M.Perm (e :: M.eraseIdx k)
  | [], _, _, h => by simp at h
  | x :: M, 0, e, h => by
    have : x = e := by simpa using h
    subst this
    exact List.Perm.refl _
  | x :: M, k + 1, e, h => by
    have h' : M[k]? = some e := by simpa using h
    exact ((perm_pull M k e h').cons x).trans (List.Perm.swap e x _)
theorem Sep.pull {G H : Hp} {M : List (Addr × HO)} (S : Sep G H M) (k : Nat) {e : Addr × HO} (h : M[k]? = some e) : Sep G H (e :: M.eraseIdx k) := S.perm (perm_pull M k e h)
theorem Sep.keep {G H : Hp} {M N : List (Addr × HO)} (S : Sep G H (N ++ M)) : Sep G H M := by
  induction N with
  | nil => exact S
  | cons e N ih => exact ih S.drop

theorem same_tr {H H1 H2 : Hp} (b : Same H1 H2) (a : Same H H1) : Same H H2 := a.trans b
theorem Same.upd {H : Hp} {p : Addr} {o : HO} (h : H p = none) : Same H (upd H p o) := fun b x e => by
  rw [upd_ne (ne_of_none e h)]
  exact e
/-- a new object that is frozen at once -/
theorem Sep.newG {G H : Hp} {M : List (Addr × HO)} (S : Sep G H M) {p : Addr} {o : HO} (h : H p = none) : Sep (upd G p o) (upd H p o) M := by
  refine ⟨fun b x e => ?_, fun e he => ?_, S.nd⟩
  · by_cases q : b = p
    · subst q
      rw [upd_same] at e ⊢
      exact e
    · rw [upd_ne q] at e ⊢
      exact S.sub b x e
  · have h1 := S.own e he
    have q : e.1 ≠ p := ne_of_none h1.1 h
    rw [upd_ne q, upd_ne q]
    exact h1
theorem Sep.freshG {G H : Hp} {M : List (Addr × HO)} (S : Sep G H M) {p : Addr} (h : H p = none) : G p = none := S.sub.free h
/-- a new object that is owned -/
theorem Sep.newM {G H : Hp} {M : List (Addr × HO)} (S : Sep G H M) {p : Addr} {o : HO} (h : H p = none) : Sep G (upd H p o) ((p, o) :: M) := by
  refine ⟨S.sub.trans (Same.upd h), fun e he => ?_, ?_⟩
  · rcases List.mem_cons.mp he with rfl | he
    · exact ⟨upd_same, S.freshG h⟩
    · have h1 := S.own e he
      rw [upd_ne (ne_of_none h1.1 h)]
      exact h1
  · rw [List.map_cons]
    refine List.nodup_cons.mpr ⟨fun hm => ?_, S.nd⟩
    obtain ⟨e, he, q⟩ := List.mem_map.mp hm
    have h1 := (S.own e he).1
    rw [q, h] at h1
    cases h1
/-- an owned object at the head is frozen -/
theorem Sep.freeze {G H : Hp} {M : List (Addr × HO)} {p : Addr} {o : HO} (S : Sep G H ((p, o) :: M)) : Sep (upd G p o) H M ∧ Same G (upd G p o) := by
  have h0 := S.own (p, o) (List.mem_cons_self ..)
  refine ⟨⟨fun b x e => ?_, fun e he => ?_, (List.nodup_cons.mp S.nd).2⟩, Same.upd h0.2⟩
  · by_cases q : b = p
    · subst q
      rw [upd_same] at e
      rw [← e]
      exact h0.1
    · rw [upd_ne q] at e
      exact S.sub b x e
  · have h1 := S.own e (List.mem_cons_of_mem _ he)
    have q : e.1 ≠ p := fun z => (List.nodup_cons.mp S.nd).1 (by
      show p ∈ _
      rw [← z]
      exact List.mem_map.mpr ⟨e, he, rfl⟩)
    rw [upd_ne q]
    exact h1
/-- the k-th owned object changes -/
theorem Sep.set {G H : Hp} : ∀ {M : List (Addr × HO)} (S : Sep G H M) {k : Nat} {a : Addr} {o : HO} (o' : HO), M[k]? = some (a, o) → Sep G (upd H a o') (M.set k (a, o')) := by
  intro M S k a o o' h
  have hk : k < M.length := (List.getElem?_eq_some_iff.mp h).1
  have hg := S.out h
  have hmap : (M.set k (a, o')).map (·.1) = M.map (·.1) := by
    rw [List.map_set]
    show (M.map (·.1)).set k a = _
    have : (M.map (·.1))[k]? = some a := by rw [List.getElem?_map, h]; rfl
    obtain ⟨hk2, e⟩ := List.getElem?_eq_some_iff.mp this
    rw [← e]
    exact List.set_getElem_self hk2
  refine ⟨fun b x e => ?_, fun e he => ?_, by rw [hmap]; exact S.nd⟩
  · have q : b ≠ a := fun z => by rw [z, hg] at e; cases e
    rw [upd_ne q]
    exact S.sub b x e
  · obtain ⟨j, hj, hje⟩ := List.mem_iff_getElem.mp he
    rw [List.length_set] at hj
    by_cases q : j = k
    · subst q
      rw [List.getElem_set_self] at hje
      subst hje
      exact ⟨upd_same, hg⟩
    · rw [List.getElem_set_ne (fun z => q z.symm)] at hje
      have hm : e ∈ M := hje ▸ List.getElem_mem hj
      have h1 := S.own e hm
      have hne : e.1 ≠ a := fun z => by
        have e1 : (M.map (·.1))[j]? = some a := by
          rw [List.getElem?_map, List.getElem?_eq_getElem hj, hje, ← z]; rfl
        have e2 : (M.map (·.1))[k]? = some a := by rw [List.getElem?_map, h]; rfl
        have hjl : j < (M.map (·.1)).length := by rw [List.length_map]; exact hj
        exact q ((List.getElem?_inj hjl S.nd).mp (e1.trans e2.symm))
      rw [upd_ne hne]
      exact h1

/-! ### data as trees -/
inductive D where
  | non | bl (b : Bool) | int (i : Int) | str (x : Str)
  | lst (ds : List D) | tup (ds : List D)
  | ins (c : Nat) (ns : List Str) (ds : List D)
  /-- the object at an address, whatever it holds -/
  | loc (a : Addr)

def D.isNon : D → Bool
  | .non => true
  | _ => false
section
variable (K : PySem.W.Frag) (cl : Nat → Addr)
mutual
def Rep (G : Hp) : V → D → Prop
  | x, .non => x = .non
  | x, .bl b => x = .bl b
  | x, .int i => x = .int i
  | x, .str s => x = .str s
  | x, .lst ds => ∃ a vs, x = .ref a ∧ SqL K G a vs ∧ Reps G vs ds
  | x, .tup ds => ∃ a vs, x = .ref a ∧ SqT K G a vs ∧ Reps G vs ds
  | x, .ins c ns ds => ∃ a dx vs, x = .ref a ∧ G a = some (.ins (cl c) dx (ns.zip vs)) ∧ ns.length = vs.length ∧ Reps G vs ds
  | x, .loc a => x = .ref a
def Reps (G : Hp) : List V → List D → Prop
  | vs, [] => vs = []
  | vs, d :: ds => ∃ v ws, vs = v :: ws ∧ Rep G v d ∧ Reps G ws ds
end
end
section
variable {K : PySem.W.Frag} {cl : Nat → Addr} {G G' : Hp}
theorem Same.seqT {K : PySem.W.Frag} {H H' : Hp} {a : Addr} {xs : List V} (e : Same H H') (h : SqT K H a xs) : SqT K H' a xs := by
  rcases h with (h | ⟨o, h⟩) | h
  · exact .inl (.inl (e _ _ h))
  · exact .inl (.inr ⟨o, e _ _ h⟩)
  · exact .inr h
mutual
theorem Rep.mono (s : Same G G') : ∀ {x : V} {d : D}, Rep K cl G x d → Rep K cl G' x d
  | _, .non, h => by simp only [Rep] at h ⊢; exact h
  | _, .bl _, h => by simp only [Rep] at h ⊢; exact h
  | _, .int _, h => by simp only [Rep] at h ⊢; exact h
  | _, .str _, h => by simp only [Rep] at h ⊢; exact h
  | _, .loc _, h => by simp only [Rep] at h ⊢; exact h
  | _, .lst ds, h => by
    simp only [Rep] at h ⊢
    obtain ⟨a, vs, e, q, r⟩ := h
    exact ⟨a, vs, e, s.seq q, Reps.mono s r⟩
  | _, .tup ds, h => by
    simp only [Rep] at h ⊢
    obtain ⟨a, vs, e, q, r⟩ := h
    exact ⟨a, vs, e, Same.seqT s q, Reps.mono s r⟩
  | _, .ins c ns ds, h => by
    simp only [Rep] at h ⊢
    obtain ⟨a, dx, vs, e, q, l, r⟩ := h
    exact ⟨a, dx, vs, e, s _ _ q, l, Reps.mono s r⟩
theorem Reps.mono (s : Same G G') : ∀ {vs : List V} {ds : List D}, Reps K cl G vs ds → Reps K cl G' vs ds
  | _, [], h => by simp only [Reps] at h ⊢; exact h
  | _, d :: ds, h => by
    simp only [Reps] at h ⊢
    obtain ⟨v, ws, e, q, r⟩ := h
    exact ⟨v, ws, e, Rep.mono s q, Reps.mono s r⟩
end
theorem Reps.nil : Reps K cl G [] [] := by simp only [Reps]
theorem Reps.cons {v : V} {vs : List V} {d : D} {ds : List D} (h : Rep K cl G v d) (t : Reps K cl G vs ds) : Reps K cl G (v :: vs) (d :: ds) := by
  simp only [Reps]
  exact ⟨v, vs, rfl, h, t⟩
theorem Reps.uncons {vs : List V} {d : D} {ds : List D} (h : Reps K cl G vs (d :: ds)) : ∃ v ws, vs = v :: ws ∧ Rep K cl G v d ∧ Reps K cl G ws ds := by
  simp only [Reps] at h
  exact h
theorem Reps.length : ∀ {vs : List V} {ds : List D}, Reps K cl G vs ds → vs.length = ds.length
  | _, [], h => by simp only [Reps] at h; rw [h]; rfl
  | _, d :: ds, h => by
    obtain ⟨v, ws, rfl, _, r⟩ := h.uncons
    rw [List.length_cons, List.length_cons, r.length]
theorem Reps.get : ∀ {vs : List V} {ds : List D} {i : Nat} {v : V}, Reps K cl G vs ds → vs[i]? = some v → ∃ d, ds[i]? = some d ∧ Rep K cl G v d
  | vs, [], i, v, h, e => by simp only [Reps] at h; rw [h] at e; simp at e
  | vs, d :: ds, 0, v, h, e => by
    obtain ⟨w, ws, rfl, q, r⟩ := h.uncons
    have : w = v := by simpa using e
    exact ⟨d, rfl, this ▸ q⟩
  | vs, d :: ds, i + 1, v, h, e => by
    obtain ⟨w, ws, rfl, q, r⟩ := h.uncons
    obtain ⟨d', e', q'⟩ := r.get (i := i) (v := v) (by simpa using e)
    exact ⟨d', by simpa using e', q'⟩
theorem Reps.getD : ∀ {vs : List V} {ds : List D} {i : Nat} {d : D}, Reps K cl G vs ds → ds[i]? = some d → ∃ v, vs[i]? = some v ∧ Rep K cl G v d
  | vs, [], i, d, h, e => by simp at e
  | vs, c :: ds, 0, d, h, e => by
    obtain ⟨w, ws, rfl, q, r⟩ := h.uncons
    have : c = d := by simpa using e
    exact ⟨w, rfl, this ▸ q⟩
  | vs, c :: ds, i + 1, d, h, e => by
    obtain ⟨w, ws, rfl, q, r⟩ := h.uncons
    obtain ⟨v', e', q'⟩ := r.getD (i := i) (d := d) (by simpa using e)
    exact ⟨v', by simpa using e', q'⟩
theorem Reps.append : ∀ {vs : List V} {ds : List D} {us : List V} {es : List D}, Reps K cl G vs ds → Reps K cl G us es → Reps K cl G (vs ++ us) (ds ++ es)
  | vs, [], us, es, h, t => by
    simp only [Reps] at h
    rw [h]
    exact t
  | vs, d :: ds, us, es, h, t => by
    obtain ⟨w, ws, rfl, q, r⟩ := h.uncons
    exact Reps.cons q (r.append t)
theorem Reps.one {v : V} {d : D} (h : Rep K cl G v d) : Reps K cl G [v] [d] := Reps.cons h Reps.nil
theorem Reps.take : ∀ {vs : List V} {ds : List D} (n : Nat), Reps K cl G vs ds → Reps K cl G (vs.take n) (ds.take n)
  | _, _, 0, _ => Reps.nil
  | vs, [], n + 1, h => by
    simp only [Reps] at h
    rw [h]
    exact Reps.nil
  | vs, d :: ds, n + 1, h => by
    obtain ⟨w, ws, rfl, q, r⟩ := h.uncons
    exact Reps.cons q (r.take n)
theorem Reps.drop : ∀ {vs : List V} {ds : List D} (n : Nat), Reps K cl G vs ds → Reps K cl G (vs.drop n) (ds.drop n)
  | _, _, 0, h => h
  | vs, [], n + 1, h => by
    simp only [Reps] at h
    rw [h]
    exact Reps.nil
  | vs, d :: ds, n + 1, h => by
    obtain ⟨w, ws, rfl, q, r⟩ := h.uncons
    exact r.drop n
theorem Reps.set : ∀ {vs : List V} {ds : List D} (n : Nat) {v : V} {d : D}, Reps K cl G vs ds → Rep K cl G v d → Reps K cl G (vs.set n v) (ds.set n d)
  | vs, [], n, v, d, h, q => by
    simp only [Reps] at h
    rw [h]
    exact Reps.nil
  | vs, c :: ds, 0, v, d, h, q => by
    obtain ⟨w, ws, rfl, q', r⟩ := h.uncons
    exact Reps.cons q r
  | vs, c :: ds, n + 1, v, d, h, q => by
    obtain ⟨w, ws, rfl, q', r⟩ := h.uncons
    exact Reps.cons q' (r.set n q)
theorem Reps.map {α : Type} {f : α → V} {g : α → D} : ∀ {xs : List α}, (∀ x ∈ xs, Rep K cl G (f x) (g x)) → Reps K cl G (xs.map f) (xs.map g)
  | [], _ => Reps.nil
  | x :: xs, h => Reps.cons (h x (List.mem_cons_self ..)) (Reps.map fun y hy => h y (List.mem_cons_of_mem _ hy))
theorem Reps.ints {xs : List Int} : Reps K cl G (xs.map V.int) (xs.map D.int) := Reps.map fun x _ => by simp only [Rep]

theorem Rep.non : Rep K cl G .non .non := by simp only [Rep]
theorem Rep.bl {b : Bool} : Rep K cl G (.bl b) (.bl b) := by simp only [Rep]
theorem Rep.int {i : Int} : Rep K cl G (.int i) (.int i) := by simp only [Rep]
theorem Rep.str {x : Str} : Rep K cl G (.str x) (.str x) := by simp only [Rep]
theorem Rep.tup {a : Addr} {vs : List V} {ds : List D} (h : SqT K G a vs) (r : Reps K cl G vs ds) : Rep K cl G (.ref a) (.tup ds) := by
  simp only [Rep]
  exact ⟨a, vs, rfl, h, r⟩
theorem Rep.lst {a : Addr} {vs : List V} {ds : List D} (h : SqL K G a vs) (r : Reps K cl G vs ds) : Rep K cl G (.ref a) (.lst ds) := by
  simp only [Rep]
  exact ⟨a, vs, rfl, h, r⟩
theorem Rep.ins {a dx : Addr} {c : Nat} {ns : List Str} {vs : List V} {ds : List D} (h : G a = some (.ins (cl c) dx (ns.zip vs))) (l : ns.length = vs.length) (r : Reps K cl G vs ds) : Rep K cl G (.ref a) (.ins c ns ds) := by
  simp only [Rep]
  exact ⟨a, dx, vs, rfl, h, l, r⟩
theorem Rep.loc {a : Addr} : Rep K cl G (.ref a) (.loc a) := by simp only [Rep]
theorem Rep.of_loc {x : V} {a : Addr} (h : Rep K cl G x (.loc a)) : x = .ref a := by simpa only [Rep] using h
theorem Rep.of_non {x : V} (h : Rep K cl G x .non) : x = .non := by simpa only [Rep] using h
theorem Rep.of_bl {x : V} {b : Bool} (h : Rep K cl G x (.bl b)) : x = .bl b := by simpa only [Rep] using h
theorem Rep.of_int {x : V} {i : Int} (h : Rep K cl G x (.int i)) : x = .int i := by simpa only [Rep] using h
theorem Rep.of_str {x : V} {s : Str} (h : Rep K cl G x (.str s)) : x = .str s := by simpa only [Rep] using h
theorem Rep.of_tup {x : V} {ds : List D} (h : Rep K cl G x (.tup ds)) : ∃ a vs, x = .ref a ∧ SqT K G a vs ∧ Reps K cl G vs ds := by simpa only [Rep] using h
theorem Rep.of_lst {x : V} {ds : List D} (h : Rep K cl G x (.lst ds)) : ∃ a vs, x = .ref a ∧ SqL K G a vs ∧ Reps K cl G vs ds := by simpa only [Rep] using h
theorem Rep.of_ins {x : V} {c : Nat} {ns : List Str} {ds : List D} (h : Rep K cl G x (.ins c ns ds)) : ∃ a dx vs, x = .ref a ∧ G a = some (.ins (cl c) dx (ns.zip vs)) ∧ ns.length = vs.length ∧ Reps K cl G vs ds := by simpa only [Rep] using h
/-- None is told from all else -/
theorem Rep.isNon {x : V} {d : D} (h : Rep K cl G x d) : decide (x = .non) = d.isNon := by
  cases d with
  | non => rw [h.of_non]; rfl
  | bl b => rw [h.of_bl]; rfl
  | int i => rw [h.of_int]; rfl
  | str s => rw [h.of_str]; rfl
  | loc a => rw [h.of_loc]; rfl
  | lst ds => obtain ⟨a, vs, rfl, _⟩ := h.of_lst; rfl
  | tup ds => obtain ⟨a, vs, rfl, _⟩ := h.of_tup; rfl
  | ins c ns ds => obtain ⟨a, dx, vs, rfl, _⟩ := h.of_ins; rfl

/-! ### data that are compared -/
def D.py : D → PyData
  | .non => .none
  | .bl b => .bool b
  | .int i => .int i
  | .str s => .str s
  | .lst ds => .list (ds.map D.py)
  | .tup ds => .tuple (ds.map D.py)
  | .ins _ _ _ => .none
  | .loc _ => .none
end
end Cp
/-! Cp2: what an expression evaluates to, as data: EvX p te σ G M d M' (p: nothing changes), EvT, EvA; what statements do: s_*. -/
namespace Cp
open PySem L2

abbrev ML := List (Addr × HO)
/-- (a, o) stands in M -/
inductive At : ML → Addr → HO → Prop where
  | hd {a : Addr} {o : HO} {M : ML} : At ((a, o) :: M) a o
  | tl {a : Addr} {o : HO} {e : Addr × HO} {M : ML} : At M a o → At (e :: M) a o
/-- the same with another object there -/
inductive Ch : ML → Addr → HO → HO → ML → Prop where
  | hd {a : Addr} {o o' : HO} {M : ML} : Ch ((a, o) :: M) a o o' ((a, o') :: M)
  | tl {a : Addr} {o o' : HO} {e : Addr × HO} {M M' : ML} : Ch M a o o' M' → Ch (e :: M) a o o' (e :: M')
theorem At.ix {M : ML} {a : Addr} {o : HO} (h : At M a o) : ∃ k : Nat, M[k]? = some (a, o) := by
  induction h with
  | hd => exact ⟨0, rfl⟩
  | tl _ ih =>
    obtain ⟨k, e⟩ := ih
    exact ⟨k + 1, by simpa using e⟩
theorem Ch.ix {M M' : ML} {a : Addr} {o o' : HO} (h : Ch M a o o' M') : ∃ k : Nat, M[k]? = some (a, o) ∧ M' = M.set k (a, o') := by
  induction h with
  | hd => exact ⟨0, rfl, rfl⟩
  | tl _ ih =>
    obtain ⟨k, e, r⟩ := ih
    exact ⟨k + 1, by simpa using e, by rw [r]; rfl⟩
theorem Ch.at {M M' : ML} {a : Addr} {o o' : HO} (h : Ch M a o o' M') : At M a o := by
  induction h with
  | hd => exact .hd
  | tl _ ih => exact .tl ih
theorem At.ch {M : ML} {a : Addr} {o : HO} (h : At M a o) (o' : HO) : ∃ M', Ch M a o o' M' := by
  induction h with
  | hd => exact ⟨_, .hd⟩
  | tl _ ih => obtain ⟨M', c⟩ := ih; exact ⟨_, .tl c⟩
theorem Sep.look {G H : Hp} {M : ML} {a : Addr} {o : HO} (S : Sep G H M) (h : At M a o) : H a = some o := by
  obtain ⟨k, e⟩ := h.ix
  exact S.at e
theorem Sep.ch {G H : Hp} {M M' : ML} {a : Addr} {o o' : HO} (S : Sep G H M) (h : Ch M a o o' M') : Sep G (upd H a o') M' := by
  obtain ⟨k, e, r⟩ := h.ix
  rw [r]
  exact S.set o' e

section
structure Go (p : Bool) (M M' : ML) (G1 H1 G2 H2 : Hp) : Prop where
  same : Same G1 G2
  sep : Sep G2 H2 M'
  eq : p = true → G2 = G1 ∧ H2 = H1 ∧ M' = M
variable (K : PySem.W.Frag) (cl : Nat → Addr)
def EvX (p : Bool) (te : TE) (σ : St) (G : Hp) (M : ML) (d : D) (M' : ML) : Prop :=
  ∀ G1 H1, Same G G1 → Sep G1 H1 M → ∀ Q : VK, (∀ v G2 H2, Go p M M' G1 H1 G2 H2 → Rep K cl G2 v d → Q v H2) → te σ H1 Q
def EvT (_K : PySem.W.Frag) (_cl : Nat → Addr) (p : Bool) (tt : TT) (σ : St) (G : Hp) (M : ML) (b : Bool) (M' : ML) : Prop :=
  ∀ G1 H1, Same G G1 → Sep G1 H1 M → ∀ Q : Bool → Hp → Prop, (∀ G2 H2, Go p M M' G1 H1 G2 H2 → Q b H2) → tt σ H1 Q
def EvA (p : Bool) (ta : TA) (σ : St) (G : Hp) (M : ML) (ds : List D) (M' : ML) : Prop :=
  ∀ G1 H1, Same G G1 → Sep G1 H1 M → ∀ Q : List V → Hp → Prop, (∀ vs G2 H2, Go p M M' G1 H1 G2 H2 → Reps K cl G2 vs ds → Q vs H2) → ta σ H1 Q
/-- with any word of what comes out -/
def EvG (te : TE) (σ : St) (G : Hp) (M : ML) (F : V → Hp → ML → Prop) : Prop :=
  ∀ G1 H1, Same G G1 → Sep G1 H1 M → ∀ Q : VK, (∀ v G2 H2 M2, Same G1 G2 → Sep G2 H2 M2 → F v G2 M2 → Q v H2) → te σ H1 Q
/-- an operation on two data (M as it is) -/
def Op2 (p : Bool) (r : R2) (M : ML) (x y z : D) : Prop :=
  ∀ G1 H1, Sep G1 H1 M → ∀ u v, Rep K cl G1 u x → Rep K cl G1 v y → ∀ Q : VK, (∀ w G2 H2, Go p M M G1 H1 G2 H2 → Rep K cl G2 w z → Q w H2) → r u v H1 Q
def Op1 (p : Bool) (r : V → Hp → VK → Prop) (M : ML) (x z : D) : Prop :=
  ∀ G1 H1, Sep G1 H1 M → ∀ u, Rep K cl G1 u x → ∀ Q : VK, (∀ w G2 H2, Go p M M G1 H1 G2 H2 → Rep K cl G2 w z → Q w H2) → r u H1 Q
def OpN (p : Bool) (r : List V → Hp → VK → Prop) (M : ML) (xs : List D) (z : D) (M' : ML) : Prop :=
  ∀ G1 H1, Sep G1 H1 M → ∀ us, Reps K cl G1 us xs → ∀ Q : VK, (∀ w G2 H2, Go p M M' G1 H1 G2 H2 → Rep K cl G2 w z → Q w H2) → r us H1 Q
end
section
variable {K : PySem.W.Frag} {cl : Nat → Addr} {p q r : Bool} {M M1 M2 M3 M4 : ML} {G G1 G2 G3 H H1 H2 H3 : Hp} {σ : St} {ta tb te : TE} {tx : TA} {tt tu : TT} {d d1 d2 d3 : D} {ds : List D}

theorem Go.refl (S : Sep G H M) : Go true M M G H G H := ⟨Same.refl _, S, fun _ => ⟨rfl, rfl, rfl⟩⟩
theorem Go.trans (a : Go p M1 M2 G1 H1 G2 H2) (b : Go q M2 M3 G2 H2 G3 H3) : Go (p && q) M1 M3 G1 H1 G3 H3 :=
  ⟨a.same.trans b.same, b.sep, fun h => by
    obtain ⟨h1, h2⟩ := Bool.and_eq_true_iff.mp h
    obtain ⟨rfl, rfl, rfl⟩ := a.eq h1
    exact b.eq h2⟩
theorem Go.weak (a : Go p M1 M2 G1 H1 G2 H2) : Go false M1 M2 G1 H1 G2 H2 := ⟨a.same, a.sep, fun h => nomatch h⟩
theorem Go.of (s : Same G1 G2) (S : Sep G2 H2 M2) : Go false M1 M2 G1 H1 G2 H2 := ⟨s, S, fun h => nomatch h⟩

/-! ### expressions -/
theorem ev_var {i : Nat} {v : V} (h : σ[i]? = some (some v)) (hr : Rep K cl G v d) : EvX K cl true (tVar i) σ G M d M := fun G1 H1 s S Q k => ⟨v, h, k v G1 H1 (Go.refl S) (hr.mono s)⟩
theorem ev_int {i : Int} : EvX K cl true (tC (.int i)) σ G M (.int i) M := fun G1 H1 s S Q k => k _ G1 H1 (Go.refl S) Rep.int
theorem ev_str {x : Str} : EvX K cl true (tC (.str x)) σ G M (.str x) M := fun G1 H1 s S Q k => k _ G1 H1 (Go.refl S) Rep.str
theorem ev_bl {b : Bool} : EvX K cl true (tC (.bl b)) σ G M (.bl b) M := fun G1 H1 s S Q k => k _ G1 H1 (Go.refl S) Rep.bl
theorem ev_non : EvX K cl true (tC .non) σ G M .non M := fun G1 H1 s S Q k => k _ G1 H1 (Go.refl S) Rep.non
theorem ev_ref {a : Addr} : EvX K cl true (tC (.ref a)) σ G M (.loc a) M := fun G1 H1 s S Q k => k _ G1 H1 (Go.refl S) Rep.loc
theorem ev_op {rr : R2} (ha : EvX K cl p ta σ G M d1 M1) (hb : EvX K cl q tb σ G M1 d2 M2) (ho : Op2 K cl r rr M2 d1 d2 d3) : EvX K cl (p && q && r) (tOp rr ta tb) σ G M d3 M2 := fun G1 H1 s S Q k =>
  ha G1 H1 s S _ fun x G2 H2 g2 rx => hb G2 H2 (s.trans g2.same) g2.sep _ fun y G3 H3 g3 ry => ho G3 H3 g3.sep x y (rx.mono g3.same) ry Q fun w G4 H4 g4 rw' => k w G4 H4 ((g2.trans g3).trans g4) rw'
theorem ev_un {rr : V → Hp → VK → Prop} (ha : EvX K cl p ta σ G M d1 M1) (ho : Op1 K cl r rr M1 d1 d2) : EvX K cl (p && r) (tUn rr ta) σ G M d2 M1 := fun G1 H1 s S Q k =>
  ha G1 H1 s S _ fun x G2 H2 g2 rx => ho G2 H2 g2.sep x rx Q fun w G4 H4 g4 rw' => k w G4 H4 (g2.trans g4) rw'
theorem ea_nil : EvA K cl true tNil σ G M [] M := fun G1 H1 s S Q k => k [] G1 H1 (Go.refl S) Reps.nil
theorem ea_cons {tr : TA} (ha : EvX K cl p ta σ G M d M1) (hr : EvA K cl q tr σ G M1 ds M2) : EvA K cl (p && q) (tCons ta tr) σ G M (d :: ds) M2 := fun G1 H1 s S Q k =>
  ha G1 H1 s S _ fun x G2 H2 g2 rx => hr G2 H2 (s.trans g2.same) g2.sep _ fun xs G3 H3 g3 rxs => k _ G3 H3 (g2.trans g3) (Reps.cons (rx.mono g3.same) rxs)
theorem ev_cb {rr : List V → Hp → VK → Prop} (ha : EvA K cl p tx σ G M ds M1) (ho : OpN K cl q rr M1 ds d M2) : EvX K cl (p && q) (tCB rr tx) σ G M d M2 := fun G1 H1 s S Q k =>
  ha G1 H1 s S _ fun xs G2 H2 g2 rx => ho G2 H2 g2.sep xs rx Q fun w G4 H4 g4 rw' => k w G4 H4 (g2.trans g4) rw'
/-- a field of frozen data -/
theorem zip_lookup {K : PySem.W.Frag} {cl : Nat → Addr} {G : Hp} {f : Str} {d : D} : ∀ {ns : List Str} {vs : List V} {ds : List D}, Reps K cl G vs ds → (ns.zip ds).lookup f = some d → ∃ v, (ns.zip vs).lookup f = some v ∧ Rep K cl G v d
  | [], vs, ds, _, h => by simp at h
  | n :: ns, vs, [], _, h => by simp at h
  | n :: ns, vs, c :: ds, r, h => by
    obtain ⟨v, ws, rfl, rv, rr⟩ := r.uncons
    rw [List.zip_cons_cons, List.lookup_cons] at h
    rw [List.zip_cons_cons, List.lookup_cons]
    by_cases e : (f == n) = true
    · rw [e] at h ⊢
      cases h
      exact ⟨v, rfl, rv⟩
    · have e' : (f == n) = false := by simpa using e
      rw [e'] at h ⊢
      exact zip_lookup rr h
theorem ev_fld {c : Nat} {ns : List Str} {f : Str} (ha : EvX K cl p ta σ G M (.ins c ns ds) M1) (hc : Cls K (cl c)) (hn : NoAttr K (cl c) f) (hl : (ns.zip ds).lookup f = some d) : EvX K cl p (tFld K ta f) σ G M d M1 := fun G1 H1 s S Q k =>
  ha G1 H1 s S _ fun x G2 H2 g2 rx => by
    obtain ⟨a, dx, vs, e, ea, l, rs⟩ := rx.of_ins
    obtain ⟨v, lv, rv⟩ := zip_lookup rs hl
    exact ⟨a, cl c, dx, _, v, e, g2.sep.sub _ _ ea, hc, hn, lv, k v G2 H2 g2 rv⟩
/-- a field of an owned instance -/
theorem ev_fldM {a C dx : Addr} {fs : List (Str × V)} {f : Str} {v : V} (ha : EvX K cl p ta σ G M (.loc a) M1) (hm : At M1 a (.ins C dx fs)) (hc : Cls K C) (hn : NoAttr K C f) (hl : fs.lookup f = some v) (hv : Rep K cl G v d) : EvX K cl p (tFld K ta f) σ G M d M1 := fun G1 H1 s S Q k =>
  ha G1 H1 s S _ fun x G2 H2 g2 rx => ⟨a, C, dx, fs, v, rx.of_loc, g2.sep.look hm, hc, hn, hl, k v G2 H2 g2 (hv.mono (s.trans g2.same))⟩
/-- a tuple; a list that is never changed -/
theorem ev_tup (ha : EvA K cl p tx σ G M ds M1) (hl : ds.length ≤ 100000) : EvX K cl false (tTup tx) σ G M (.tup ds) M1 := fun G1 H1 s S Q k =>
  ha G1 H1 s S _ fun xs G2 H2 g2 rx => ⟨by rw [rx.length]; exact Nat.le_trans hl (by decide), fun u hu => by
    have n := g2.sep.freshG hu
    have S' := g2.sep.newG (o := .tup xs) hu
    exact k (.ref u) _ _ (Go.of (g2.same.trans (Same.upd n)) S') (Rep.tup (.inl (.inl upd_same)) (rx.mono (Same.upd n)))⟩
theorem ev_lst (ha : EvA K cl p tx σ G M ds M1) (hl : ds.length ≤ 100000) : EvX K cl false (tLst tx) σ G M (.lst ds) M1 := fun G1 H1 s S Q k =>
  ha G1 H1 s S _ fun xs G2 H2 g2 rx => ⟨by rw [rx.length]; exact Nat.le_trans hl (by decide), fun u hu => by
    have n := g2.sep.freshG hu
    have S' := g2.sep.newG (o := .lst xs) hu
    exact k (.ref u) _ _ (Go.of (g2.same.trans (Same.upd n)) S') (Rep.lst (.inl (.inl upd_same)) (rx.mono (Same.upd n)))⟩
/-- a new list that is owned -/
theorem eg_lst {F : V → Hp → ML → Prop} (ha : EvA K cl p tx σ G M ds M1) (hl : ds.length ≤ 100000) (hF : ∀ u vs G', Same G G' → Reps K cl G' vs ds → F (.ref u) G' ((u, .lst vs) :: M1)) : EvG (tLst tx) σ G M F := fun G1 H1 s S Q k =>
  ha G1 H1 s S _ fun xs G2 H2 g2 rx => ⟨by rw [rx.length]; exact Nat.le_trans hl (by decide), fun u hu =>
    k (.ref u) G2 _ _ g2.same (g2.sep.newM hu) (hF u xs G2 (s.trans g2.same) rx)⟩
theorem EvX.g {F : V → Hp → ML → Prop} (h : EvX K cl p te σ G M d M1) (hF : ∀ v G', Same G G' → Rep K cl G' v d → F v G' M1) : EvG te σ G M F := fun G1 H1 s S Q k =>
  h G1 H1 s S Q fun v G2 H2 g2 rv => k v G2 H2 M1 g2.same g2.sep (hF v G2 (s.trans g2.same) rv)
theorem EvX.mono (s : Same G G1) (h : EvX K cl p te σ G M d M1) : EvX K cl p te σ G1 M d M1 := fun G2 H2 s2 S Q k => h G2 H2 (s.trans s2) S Q k
theorem EvX.is {e : D} (h : EvX K cl p te σ G M d M1) (hd : d = e) : EvX K cl p te σ G M e M1 := hd ▸ h
theorem EvT.is {b c : Bool} (h : EvT K cl p tt σ G M b M1) (hd : b = c) : EvT K cl p tt σ G M c M1 := hd ▸ h

/-! ### tests -/
theorem et_test {b : Bool} (h : EvX K cl p te σ G M (.bl b) M1) : EvT K cl p (tTest te) σ G M b M1 := fun G1 H1 s S Q k => h G1 H1 s S _ fun x G2 H2 g2 rx => ⟨b, rx.of_bl, k G2 H2 g2⟩
theorem et_B {b : Bool} (h : EvX K cl p te σ G M (.bl b) M1) : EvT K cl p (tB te) σ G M b M1 := fun G1 H1 s S Q k => h G1 H1 s S _ fun x G2 H2 g2 rx => ⟨b, rx.of_bl, k G2 H2 g2⟩
theorem et_not {b : Bool} (h : EvT K cl p tt σ G M b M1) : EvT K cl p (tNot tt) σ G M (!b) M1 := fun G1 H1 s S Q k => h G1 H1 s S _ fun G2 H2 g2 => k G2 H2 g2
theorem et_and {a b : Bool} (h1 : EvT K cl p tt σ G M a M) (h2 : a = true → EvT K cl q tu σ G M b M) : EvT K cl (p && q) (tAnd tt tu) σ G M (a && b) M := fun G1 H1 s S Q k => h1 G1 H1 s S _ fun G2 H2 g2 => by
  cases a with
  | true =>
    show tu σ H2 Q
    exact h2 rfl G2 H2 (s.trans g2.same) g2.sep Q fun G3 H3 g3 => k G3 H3 (g2.trans g3)
  | false =>
    show Q false H2
    exact k G2 H2 ⟨g2.same, g2.sep, fun h => g2.eq (Bool.and_eq_true_iff.mp h).1⟩
theorem et_or {a b : Bool} (h1 : EvT K cl p tt σ G M a M) (h2 : a = false → EvT K cl q tu σ G M b M) : EvT K cl (p && q) (tOr tt tu) σ G M (a || b) M := fun G1 H1 s S Q k => h1 G1 H1 s S _ fun G2 H2 g2 => by
  cases a with
  | false =>
    show tu σ H2 Q
    exact h2 rfl G2 H2 (s.trans g2.same) g2.sep Q fun G3 H3 g3 => k G3 H3 (g2.trans g3)
  | true =>
    show Q true H2
    exact k G2 H2 ⟨g2.same, g2.sep, fun h => g2.eq (Bool.and_eq_true_iff.mp h).1⟩
theorem ev_andV {a b : Bool} (h1 : EvX K cl p ta σ G M (.bl a) M) (h2 : a = true → EvX K cl q tb σ G M (.bl b) M) : EvX K cl (p && q) (tAndV ta tb) σ G M (.bl (a && b)) M := fun G1 H1 s S Q k => h1 G1 H1 s S _ fun x G2 H2 g2 rx => ⟨a, rx.of_bl, by
  cases a with
  | true =>
    show tb σ H2 Q
    exact h2 rfl G2 H2 (s.trans g2.same) g2.sep Q fun v G3 H3 g3 rv => k v G3 H3 (g2.trans g3) rv
  | false =>
    show Q (.bl false) H2
    exact k _ G2 H2 ⟨g2.same, g2.sep, fun h => g2.eq (Bool.and_eq_true_iff.mp h).1⟩ Rep.bl⟩
theorem ev_orV {a b : Bool} (h1 : EvX K cl p ta σ G M (.bl a) M) (h2 : a = false → EvX K cl q tb σ G M (.bl b) M) : EvX K cl (p && q) (tOrV ta tb) σ G M (.bl (a || b)) M := fun G1 H1 s S Q k => h1 G1 H1 s S _ fun x G2 H2 g2 rx => ⟨a, rx.of_bl, by
  cases a with
  | false =>
    show tb σ H2 Q
    exact h2 rfl G2 H2 (s.trans g2.same) g2.sep Q fun v G3 H3 g3 rv => k v G3 H3 (g2.trans g3) rv
  | true =>
    show Q (.bl true) H2
    exact k _ G2 H2 ⟨g2.same, g2.sep, fun h => g2.eq (Bool.and_eq_true_iff.mp h).1⟩ Rep.bl⟩
theorem ev_notV {a : Bool} (h1 : EvX K cl p ta σ G M (.bl a) M1) : EvX K cl p (tNotV ta) σ G M (.bl (!a)) M1 := fun G1 H1 s S Q k => h1 G1 H1 s S _ fun x G2 H2 g2 rx => ⟨a, rx.of_bl, k _ G2 H2 g2 Rep.bl⟩
theorem ev_if {b : Bool} (h : EvT K cl p tt σ G M b M1) (h1 : b = true → EvX K cl q ta σ G M1 d1 M2) (h2 : b = false → EvX K cl q tb σ G M1 d2 M2) : EvX K cl (p && q) (tIf tt ta tb) σ G M (if b then d1 else d2) M2 := fun G1 H1 s S Q k => h G1 H1 s S _ fun G2 H2 g2 => by
  cases b with
  | true =>
    show ta σ H2 Q
    exact h1 rfl G2 H2 (s.trans g2.same) g2.sep Q fun v G3 H3 g3 rv => k v G3 H3 (g2.trans g3) rv
  | false =>
    show tb σ H2 Q
    exact h2 rfl G2 H2 (s.trans g2.same) g2.sep Q fun v G3 H3 g3 rv => k v G3 H3 (g2.trans g3) rv

/-! ### operations -/
theorem op2_val {rr : R2} {x y z : D} (h : ∀ G1 H1, Sep G1 H1 M → ∀ u v, Rep K cl G1 u x → Rep K cl G1 v y → ∃ w, Rep K cl G1 w z ∧ ∀ Q : VK, Q w H1 → rr u v H1 Q) : Op2 K cl true rr M x y z := fun G1 H1 S u v ru rv Q k => by
  obtain ⟨w, rw', hw⟩ := h G1 H1 S u v ru rv
  exact hw Q (k w G1 H1 (Go.refl S) rw')
theorem o_I0 {g : Int → Int → V} {i j : Int} {z : D} (hz : ∀ G, Rep K cl G (g i j) z) : Op2 K cl true (rI0 g) M (.int i) (.int j) z := op2_val fun G1 H1 S u v ru rv => ⟨g i j, hz G1, fun Q q => ⟨i, j, ru.of_int, rv.of_int, q⟩⟩
theorem o_I {C : Int → Int → Prop} {g : Int → Int → V} {i j : Int} {z : D} (hz : ∀ G, Rep K cl G (g i j) z) (hc : C i j) : Op2 K cl true (rI C g) M (.int i) (.int j) z := op2_val fun G1 H1 S u v ru rv => ⟨g i j, hz G1, fun Q q => ⟨i, j, ru.of_int, rv.of_int, hc, q⟩⟩
theorem o1_U {g : Int → V} {i : Int} {z : D} (hz : ∀ G, Rep K cl G (g i) z) : Op1 K cl true (rU g) M (.int i) z := fun G1 H1 S u ru Q k => ⟨i, ru.of_int, k _ G1 H1 (Go.refl S) (hz G1)⟩
/-- one of two rules -/
def orR (a b : R2) : R2 := fun x y H Q => a x y H Q ∨ b x y H Q
theorem o_l {a b : R2} {x y z : D} (h : Op2 K cl p a M x y z) : Op2 K cl p (orR a b) M x y z := fun G1 H1 S u v ru rv Q k => .inl (h G1 H1 S u v ru rv Q k)
theorem o_r {a b : R2} {x y z : D} (h : Op2 K cl p b M x y z) : Op2 K cl p (orR a b) M x y z := fun G1 H1 S u v ru rv Q k => .inr (h G1 H1 S u v ru rv Q k)
theorem op_or {X : Cx} {f : Value → Value → Sem Value} {a b : R2} (h1 : OpR X f a) (h2 : OpR X f b) : OpR X f (orR a b) := fun pins s σ H x y u v Q I rx ry h => h.elim (h1 pins s σ H x y u v Q I rx ry) (h2 pins s σ H x y u v Q I rx ry)

abbrev rAddI : R2 := rI0 fun i j => .int (i + j)
abbrev rAddS : R2 := fun x y H Q => ∃ i j, x = .str i ∧ y = .str j ∧ i.length + j.length ≤ sizeLine ∧ Q (.str (i ++ j)) H
/-- a + b -/
def rAdd (K : PySem.W.Frag) : R2 := orR rAddI (orR rAddS (orR rCat (rCatT K)))
theorem op_addA {X : Cx} : OpR X (binaryOp .Add) (rAdd X.K) := op_or op_add (op_or op_add_str (op_or op_cat op_catT))
theorem o_add_int {i j : Int} : Op2 K cl true (rAdd K) M (.int i) (.int j) (.int (i + j)) := o_l (o_I0 fun _ => Rep.int)
theorem o_add_str {x y : Str} (h : x.length + y.length ≤ 100000) : Op2 K cl true (rAdd K) M (.str x) (.str y) (.str (x ++ y)) := o_r (o_l (op2_val fun G1 H1 S u v ru rv => ⟨_, Rep.str, fun Q q => ⟨x, y, ru.of_str, rv.of_str, Nat.le_trans h (by decide), q⟩⟩))
abbrev rSubI : R2 := rI0 fun i j => .int (i - j)
abbrev rMulI : R2 := rI CMul fun i j => .int (i * j)
abbrev rDivI : R2 := rI CDiv fun i j => .int (i / j)
abbrev rModI : R2 := rI (fun _ j => 0 < j) fun i j => .int (i % j)
abbrev rLtI : R2 := rI0 fun i j => .bl (decide (i < j))
abbrev rLeI : R2 := rI0 fun i j => .bl (decide (i ≤ j))
abbrev rGtI : R2 := rI0 fun i j => .bl (decide (j < i))
abbrev rGeI : R2 := rI0 fun i j => .bl (decide (j ≤ i))
abbrev rNegI : V → Hp → VK → Prop := rU fun i => .int (-i)
theorem o1_neg {i : Int} : Op1 K cl true rNegI M (.int i) (.int (-i)) := o1_U fun _ => Rep.int
theorem o_sub {i j : Int} : Op2 K cl true rSubI M (.int i) (.int j) (.int (i - j)) := o_I0 fun _ => Rep.int
theorem o_mul {i j : Int} (h : CMul i j) : Op2 K cl true rMulI M (.int i) (.int j) (.int (i * j)) := o_I (fun _ => Rep.int) h
theorem o_div {i j : Int} (h : CDiv i j) : Op2 K cl true rDivI M (.int i) (.int j) (.int (i / j)) := o_I (fun _ => Rep.int) h
theorem o_mod {i j : Int} (h : 0 < j) : Op2 K cl true rModI M (.int i) (.int j) (.int (i % j)) := o_I (fun _ => Rep.int) h
theorem o_lt {i j : Int} : Op2 K cl true rLtI M (.int i) (.int j) (.bl (decide (i < j))) := o_I0 fun _ => Rep.bl
theorem o_le {i j : Int} : Op2 K cl true rLeI M (.int i) (.int j) (.bl (decide (i ≤ j))) := o_I0 fun _ => Rep.bl
theorem o_gt {i j : Int} : Op2 K cl true rGtI M (.int i) (.int j) (.bl (decide (j < i))) := o_I0 fun _ => Rep.bl
theorem o_ge {i j : Int} : Op2 K cl true rGeI M (.int i) (.int j) (.bl (decide (j ≤ i))) := o_I0 fun _ => Rep.bl
abbrev rIsN : R2 := fun x y H Q => y = .non ∧ Q (.bl (decide (x = .non))) H
abbrev rNotN : R2 := fun x y H Q => y = .non ∧ Q (.bl (!decide (x = .non))) H
theorem o_isN {x : D} : Op2 K cl true rIsN M x .non (.bl x.isNon) := op2_val fun G1 H1 S u v ru rv => ⟨_, Rep.bl, fun Q q => ⟨rv.of_non, by rw [ru.isNon]; exact q⟩⟩
theorem o_notN {x : D} : Op2 K cl true rNotN M x .non (.bl (!x.isNon)) := op2_val fun G1 H1 S u v ru rv => ⟨_, Rep.bl, fun Q q => ⟨rv.of_non, by rw [ru.isNon]; exact q⟩⟩
/-! #### == of scalars -/
def D.scal : D → D → Option Bool
  | .int i, .int j => some (decide (i = j))
  | .str i, .str j => some (decide (i = j))
  | .bl i, .bl j => some (decide (i = j))
  | _, _ => none
theorem scal_rep {G : Hp} {x y : D} {u v : V} {b : Bool} (h : D.scal x y = some b) (ru : Rep K cl G u x) (rv : Rep K cl G v y) : scal u v = true ∧ decide (u = v) = b := by
  cases x <;> cases y <;> first | (simp [D.scal] at h; done) | skip
  · rw [ru.of_bl, rv.of_bl]; refine ⟨rfl, ?_⟩; have := Option.some.inj h; rw [← this]; simp
  · rw [ru.of_int, rv.of_int]; refine ⟨rfl, ?_⟩; have := Option.some.inj h; rw [← this]; simp
  · rw [ru.of_str, rv.of_str]; refine ⟨rfl, ?_⟩; have := Option.some.inj h; rw [← this]; simp
/-- a == b, a != b -/
def rEqA (K : PySem.W.Frag) : R2 := orR rEq (rEqD K)
def rNeA (K : PySem.W.Frag) : R2 := orR rNe (rNeD K)
theorem op_eqA {X : Cx} (hu : X.A.units + 64 < cLine) : OpR X (compareOp .Eq) (rEqA X.K) := op_or op_eq (op_eqD hu)
theorem op_neA {X : Cx} (hu : X.A.units + 64 < cLine) : OpR X (compareOp .NotEq) (rNeA X.K) := op_or op_ne (op_neD hu)
theorem o_eq {x y : D} {b : Bool} (h : D.scal x y = some b) : Op2 K cl true (rEqA K) M x y (.bl b) := o_l (op2_val fun G1 H1 S u v ru rv => ⟨_, Rep.bl, fun Q q => by
  obtain ⟨h1, h2⟩ := scal_rep h ru rv
  exact ⟨h1, by rw [h2]; exact q⟩⟩)
theorem o_ne {x y : D} {b : Bool} (h : D.scal x y = some b) : Op2 K cl true (rNeA K) M x y (.bl (!b)) := o_l (op2_val fun G1 H1 S u v ru rv => ⟨_, Rep.bl, fun Q q => by
  obtain ⟨h1, h2⟩ := scal_rep h ru rv
  exact ⟨h1, by rw [h2]; exact q⟩⟩)
/-! #### items -/
theorem Reps.atI {G : Hp} {vs : List V} {ds : List D} {i : Int} {d : D} (r : Reps K cl G vs ds) (h : atI ds i = some d) : ∃ v, atI vs i = some v ∧ Rep K cl G v d := by
  obtain ⟨j, h1, h2, h3, h4, h5⟩ := atI_get h
  obtain ⟨v, hv, rv⟩ := r.getD h2
  refine ⟨v, ?_, rv⟩
  unfold L2.atI at h ⊢
  rw [r.length]
  cases e : ixN ds.length i with
  | none => rw [e] at h; cases h
  | some k =>
    obtain ⟨e1, _⟩ := ixN_seq e
    rw [h1] at e1
    cases e1
    exact hv
theorem o_ixT {i : Int} (h : atI ds i = some d) : Op2 K cl true (rIx K) M (.tup ds) (.int i) d := op2_val fun G1 H1 S u v ru rv => by
  obtain ⟨a, vs, e, sq, rs⟩ := ru.of_tup
  obtain ⟨w, hw, rw'⟩ := rs.atI h
  exact ⟨w, rw', fun Q q => .inr (.inl ⟨a, vs, i, w, e, rv.of_int, Same.seqT S.sub sq, hw, q⟩)⟩
theorem o_ixL {i : Int} (h : atI ds i = some d) : Op2 K cl true (rIx K) M (.lst ds) (.int i) d := op2_val fun G1 H1 S u v ru rv => by
  obtain ⟨a, vs, e, sq, rs⟩ := ru.of_lst
  obtain ⟨w, hw, rw'⟩ := rs.atI h
  exact ⟨w, rw', fun Q q => .inl ⟨a, vs, i, w, e, rv.of_int, S.sub.seq sq, hw, q⟩⟩
end
end Cp
/-! Cp3: calls of defs and built-ins as data; statements. -/
namespace Cp
open PySem L2

section
variable (K : PySem.W.Frag) (cl : Nat → Addr)
/-- a def that changes nothing: from data to a datum -/
def PSp (R : List D → D → Prop) : Sp := fun vs H Q _ => ∃ ds d G M, R ds d ∧ Sep G H M ∧ Reps K cl G vs ds ∧ ∀ v G' H', Same G G' → Sep G' H' M → Rep K cl G' v d → Q v H'
/-- any def: a word over the frozen part and the owned part -/
def GSp (R : List V → Hp → ML → (V → Hp → ML → Prop) → Prop) : Sp := fun vs H Q _ => ∃ G M, Sep G H M ∧ R vs G M fun v G' M' => Same G G' → ∀ H', Sep G' H' M' → Q v H'
/-- an __init__ that stores data: the fields' names, from the arguments to the fields -/
def ISp (c : Nat) (ns : List Str) (R : List D → List D → Prop) : Sp := fun vs H Q _ => ∃ x dx us ds es G M, vs = .ref x :: us ∧ R ds es ∧ Sep G H ((x, .ins (cl c) dx (List.zip [] [])) :: M) ∧ Reps K cl G us ds ∧
  ∀ ws G' H', Same G G' → Sep G' H' ((x, .ins (cl c) dx (ns.zip ws)) :: M) → ns.length = ws.length → Reps K cl G' ws es → Q .non H'
end
section
variable {K : PySem.W.Frag} {cl : Nat → Addr} {p q r : Bool} {M M1 M2 M3 M4 : ML} {G G1 G2 G3 H H1 H2 H3 : Hp} {σ : St} {ta tb te : TE} {tx : TA} {tt tu : TT} {d d1 d2 d3 : D} {ds es : List D}

theorem ev_call {R : List D → D → Prop} {E : XK} (ha : EvA K cl p tx σ G M ds M1) (hR : R ds d) : EvX K cl false (tCall (PSp K cl R) [] E tx) σ G M d M1 := fun G1 H1 s S Q k =>
  ha G1 H1 s S _ fun xs G2 H2 g2 rx => ⟨ds, d, G2, M1, hR, g2.sep, by rw [List.append_nil]; exact rx, fun v G' H' s' S' rv => k v G' H' (Go.of (g2.same.trans s') S') rv⟩
theorem zip_none {ns : List Str} {f : Str} : ∀ {vs : List V}, ns.contains f = false → (ns.zip vs).lookup f = none := by
  induction ns with
  | nil => intro vs _; rfl
  | cons n ns ih =>
    intro vs h
    cases vs with
    | nil => rfl
    | cons v vs =>
      rw [List.contains_cons, Bool.or_eq_false_iff] at h
      rw [List.zip_cons_cons, List.lookup_cons, h.1]
      exact ih h.2
theorem ev_meth {R : List D → D → Prop} {E : XK} {c : Nat} {m : Str} {ns : List Str} {fs : List D} (he : EvX K cl p ta σ G M (.ins c ns fs) M1) (ha : EvA K cl q tx σ G M1 ds M2) (hm : ns.contains m = false) (hR : R (.ins c ns fs :: ds) d) :
    EvX K cl false (tMeth (cl c) m (PSp K cl R) [] E ta tx) σ G M d M2 := fun G1 H1 s S Q k =>
  he G1 H1 s S _ fun x G2 H2 g2 rx => by
    obtain ⟨a, dx, vs, e, ea, l, rs⟩ := rx.of_ins
    exact ⟨a, dx, _, e, g2.sep.sub _ _ ea, zip_none hm, ha G2 H2 (s.trans g2.same) g2.sep _ fun xs G3 H3 g3 rxs =>
      ⟨_, d, G3, M2, hR, g3.sep, by rw [List.append_nil]; exact Reps.cons (rx.mono g3.same) rxs, fun v G' H' s' S' rv => k v G' H' (Go.of ((g2.same.trans g3.same).trans s') S') rv⟩⟩
theorem ev_make {R : List D → List D → Prop} {E : XK} {c : Nat} {ns : List Str} (ha : EvA K cl p tx σ G M ds M1) (hR : R ds es) : EvX K cl false (tMake (cl c) (ISp K cl c ns R) [] E tx) σ G M (.ins c ns es) M1 := fun G1 H1 s S Q k =>
  ha G1 H1 s S _ fun xs G2 H2 g2 rx => fun x dx nx ndx ne => by
    have nxG := g2.sep.freshG nx
    have ndG := g2.sep.freshG ndx
    have S1 : Sep (upd G2 dx (.own x)) (upd H2 dx (.own x)) M1 := g2.sep.newG ndx
    have nx' : upd H2 dx (.own x) x = none := by rw [upd_ne ne.symm]; exact nx
    have S2 := S1.newM (o := .ins (cl c) dx []) nx'
    refine ⟨x, dx, xs, ds, es, _, M1, by rw [List.append_nil], hR, S2, rx.mono (Same.upd ndG), fun ws G' H' s' S' hl rs => ⟨rfl, ?_⟩⟩
    obtain ⟨S3, s3⟩ := S'.freeze
    exact k (.ref x) _ H' (Go.of (((g2.same.trans (Same.upd ndG)).trans s').trans s3) S3) (Rep.ins upd_same hl (rs.mono s3))
/-- the new instance is owned -/
theorem eg_make {R : List D → List D → Prop} {E : XK} {c : Nat} {ns : List Str} {F : V → Hp → ML → Prop} (ha : EvA K cl p tx σ G M ds M1) (hR : R ds es)
    (hF : ∀ x dx ws G', Same G G' → ns.length = ws.length → Reps K cl G' ws es → F (.ref x) G' ((x, .ins (cl c) dx (ns.zip ws)) :: M1)) : EvG (tMake (cl c) (ISp K cl c ns R) [] E tx) σ G M F := fun G1 H1 s S Q k =>
  ha G1 H1 s S _ fun xs G2 H2 g2 rx => fun x dx nx ndx ne => by
    have ndG := g2.sep.freshG ndx
    have S1 : Sep (upd G2 dx (.own x)) (upd H2 dx (.own x)) M1 := g2.sep.newG ndx
    have nx' : upd H2 dx (.own x) x = none := by rw [upd_ne ne.symm]; exact nx
    have S2 := S1.newM (o := .ins (cl c) dx []) nx'
    refine ⟨x, dx, xs, ds, es, _, M1, by rw [List.append_nil], hR, S2, rx.mono (Same.upd ndG), fun ws G' H' s' S' hl rs => ⟨rfl, ?_⟩⟩
    have s1 := (g2.same.trans (Same.upd ndG)).trans s'
    exact k (.ref x) G' H' _ s1 S' (hF x dx ws G' (s.trans s1) hl rs)
/-- a def of the general kind -/
theorem eg_call {R : List V → Hp → ML → (V → Hp → ML → Prop) → Prop} {E : XK} {F : V → Hp → ML → Prop} (ha : EvA K cl p tx σ G M ds M1)
    (hR : ∀ vs G' (T : V → Hp → ML → Prop), Same G G' → Reps K cl G' vs ds → (∀ v G'' M'', Same G' G'' → F v G'' M'' → T v G'' M'') → R vs G' M1 T) : EvG (tCall (GSp R) [] E tx) σ G M F := fun G1 H1 s S Q k =>
  ha G1 H1 s S _ fun xs G2 H2 g2 rx => ⟨G2, M1, g2.sep, by
    rw [List.append_nil]
    refine hR xs G2 _ (s.trans g2.same) rx fun v G'' M'' s'' hF sm H' S' => k v G'' H' M'' (g2.same.trans sm) S' hF⟩
/-- .. whose answer is a datum, and M' known ahead -/
theorem ev_callG {R : List V → Hp → ML → (V → Hp → ML → Prop) → Prop} {E : XK} (ha : EvA K cl p tx σ G M ds M1)
    (hR : ∀ vs G' (T : V → Hp → ML → Prop), Same G G' → Reps K cl G' vs ds → (∀ v G'', Same G' G'' → Rep K cl G'' v d → T v G'' M2) → R vs G' M1 T) : EvX K cl false (tCall (GSp R) [] E tx) σ G M d M2 := fun G1 H1 s S Q k =>
  ha G1 H1 s S _ fun xs G2 H2 g2 rx => ⟨G2, M1, g2.sep, by
    rw [List.append_nil]
    exact hR xs G2 _ (s.trans g2.same) rx fun v G'' s'' rv sm H' S' => k v G'' H' (Go.of (g2.same.trans s'') S') rv⟩

theorem num_len {n : Int} (h0 : 0 ≤ n) (h : n < 10000000000) : (Str.ofString (toString n)).length ≤ 10 := PyProof.Rows.toString_length_le h0 (by decide) (by omega)
theorem num_log {n : Int} (h0 : 0 ≤ n) (h : n < 10000000000) : n.natAbs.log2 < 1920 := by
  have : n.natAbs < 2 ^ 1920 := Nat.lt_of_lt_of_le (show n.natAbs < 2 ^ 40 by omega) (Nat.pow_le_pow_right (by decide) (by decide))
  by_cases e : n.natAbs = 0
  · rw [e]; decide
  · exact (Nat.log2_lt e).mpr this
theorem app_len {x y : Str} {a b c : Nat} (hx : x.length ≤ a) (hy : y.length ≤ b) (h : a + b ≤ c) : (x ++ y).length ≤ c := by
  rw [PySem.Str.length_append]
  omega
theorem Ch.perm {a : Addr} {o o' : HO} (h : Ch M a o o' M1) : ∃ M0, M.Perm ((a, o) :: M0) ∧ M1.Perm ((a, o') :: M0) := by
  induction h with
  | hd => exact ⟨_, List.Perm.refl _, List.Perm.refl _⟩
  | @tl a o o' e M M' _ ih =>
    obtain ⟨M0, p1, p2⟩ := ih
    exact ⟨e :: M0, (p1.cons e).trans (List.Perm.swap (a, o) e M0), (p2.cons e).trans (List.Perm.swap (a, o') e M0)⟩
/-- the k-th place of a change, over one arrangement -/
theorem Ch.perm_to {a : Addr} {o o' : HO} {M0 : ML} (h : Ch M a o o' M1) (p : M.Perm ((a, o) :: M0)) : M1.Perm ((a, o') :: M0) := by
  obtain ⟨M9, p1, p2⟩ := h.perm
  have : ((a, o) :: M9).Perm ((a, o) :: M0) := p1.symm.trans p
  exact p2.trans ((List.perm_cons (a, o)).mp this |>.cons _)
theorem ev_ixM {a : Addr} {vs : List V} {i : Int} {v : V} (ha : EvX K cl p ta σ G M (.loc a) M1) (hb : EvX K cl q tb σ G M1 (.int i) M2) (hm : At M2 a (.lst vs)) (hi : atI vs i = some v) (hv : Rep K cl G v d) : EvX K cl (p && q) (tOp (rIx K) ta tb) σ G M d M2 := fun G1 H1 s S Q k =>
  ha G1 H1 s S _ fun x G2 H2 g2 rx => hb G2 H2 (s.trans g2.same) g2.sep _ fun y G3 H3 g3 ry => .inl ⟨a, vs, i, v, rx.of_loc, ry.of_int, .inl (.inl (g3.sep.look hm)), hi, k v G3 H3 (g2.trans g3) (hv.mono ((s.trans g2.same).trans g3.same))⟩
theorem atI_getD {α : Type} {xs : List α} {i : Int} (x : α) (h0 : 0 ≤ i) (h1 : i < xs.length) : atI xs i = some (xs.getD i.toNat x) := by
  obtain ⟨n, rfl⟩ := Int.eq_ofNat_of_zero_le h0
  have hn : n < xs.length := by omega
  rw [atI_nat (j := n) (v := xs[n]) (by simp [hn])]
  simp [hn]
theorem eg_nil : EvG (tLst tNil) σ G M fun v G' M' => ∃ u, v = .ref u ∧ M' = (u, .lst []) :: M := fun G1 H1 s S Q k =>
  ⟨Nat.zero_le _, fun u hu => k (.ref u) G1 _ _ (Same.refl _) (S.newM hu) ⟨u, rfl, rfl⟩⟩
/-! ### built-ins -/
theorem on_val {rr : List V → Hp → VK → Prop} {xs : List D} {z : D} (h : ∀ G1 H1, Sep G1 H1 M → ∀ us, Reps K cl G1 us xs → ∃ w, Rep K cl G1 w z ∧ ∀ Q : VK, Q w H1 → rr us H1 Q) : OpN K cl true rr M xs z M := fun G1 H1 S us ru Q k => by
  obtain ⟨w, rw', hw⟩ := h G1 H1 S us ru
  exact hw Q (k w G1 H1 (Go.refl S) rw')
theorem reps1 {us : List V} (h : Reps K cl G us [d]) : ∃ u, us = [u] ∧ Rep K cl G u d := by
  obtain ⟨u, ws, rfl, hu, hw⟩ := h.uncons
  simp only [Reps] at hw
  subst hw
  exact ⟨u, rfl, hu⟩
theorem reps2 {us : List V} (h : Reps K cl G us [d1, d2]) : ∃ u v, us = [u, v] ∧ Rep K cl G u d1 ∧ Rep K cl G v d2 := by
  obtain ⟨u, ws, rfl, hu, hw⟩ := h.uncons
  obtain ⟨v, rfl, hv⟩ := reps1 hw
  exact ⟨u, v, rfl, hu, hv⟩
abbrev rLenA (K : PySem.W.Frag) : List V → Hp → VK → Prop := fun xs H Q => ∃ x n, xs = [x] ∧ LenV K x H n ∧ Q (.int n) H
abbrev rStrI : List V → Hp → VK → Prop := fun xs H Q => ∃ i, xs = [.int i] ∧ i.natAbs.log2 < 1920 ∧ Q (.str (toString i)) H
abbrev rInt1 : List V → Hp → VK → Prop := fun xs H Q => (∃ i, xs = [.int i] ∧ Q (.int i) H) ∨ ∃ k, xs = [.bl k] ∧ Q (.int (if k then 1 else 0)) H
abbrev rMin2 : List V → Hp → VK → Prop := fun xs H Q => ∃ i j, xs = [.int i, .int j] ∧ Q (.int (if j < i then j else i)) H
abbrev rMax2 : List V → Hp → VK → Prop := fun xs H Q => ∃ i j, xs = [.int i, .int j] ∧ Q (.int (if j > i then j else i)) H
abbrev rTupA (K : PySem.W.Frag) : List V → Hp → VK → Prop := fun xs H Q => ∃ p ys, xs = [.ref p] ∧ ((SqL K H p ys ∧ ∀ l, H l = none → Q (.ref l) (upd H l (.tup ys))) ∨ (SqT K H p ys ∧ Q (.ref p) H))
abbrev rListA (K : PySem.W.Frag) : List V → Hp → VK → Prop := fun xs H Q => ∃ p ys, xs = [.ref p] ∧ (SqL K H p ys ∨ SqT K H p ys) ∧ ∀ l, H l = none → Q (.ref l) (upd H l (.lst ys))
theorem on_int {i : Int} : OpN K cl true rInt1 M [.int i] (.int i) M := on_val fun G1 H1 S us ru => by
  obtain ⟨u, rfl, hu⟩ := reps1 ru
  exact ⟨_, Rep.int, fun Q q => .inl ⟨i, by rw [hu.of_int], q⟩⟩
theorem on_intB {b : Bool} : OpN K cl true rInt1 M [.bl b] (.int (if b then 1 else 0)) M := on_val fun G1 H1 S us ru => by
  obtain ⟨u, rfl, hu⟩ := reps1 ru
  exact ⟨_, Rep.int, fun Q q => .inr ⟨b, by rw [hu.of_bl], q⟩⟩
theorem on_str {i : Int} (h : i.natAbs.log2 < 1920) : OpN K cl true rStrI M [.int i] (.str (toString i)) M := on_val fun G1 H1 S us ru => by
  obtain ⟨u, rfl, hu⟩ := reps1 ru
  exact ⟨_, Rep.str, fun Q q => ⟨i, by rw [hu.of_int], h, q⟩⟩
theorem on_min {i j : Int} : OpN K cl true rMin2 M [.int i, .int j] (.int (if j < i then j else i)) M := on_val fun G1 H1 S us ru => by
  obtain ⟨u, v, rfl, hu, hv⟩ := reps2 ru
  exact ⟨_, Rep.int, fun Q q => ⟨i, j, by rw [hu.of_int, hv.of_int], q⟩⟩
theorem on_max {i j : Int} : OpN K cl true rMax2 M [.int i, .int j] (.int (if j > i then j else i)) M := on_val fun G1 H1 S us ru => by
  obtain ⟨u, v, rfl, hu, hv⟩ := reps2 ru
  exact ⟨_, Rep.int, fun Q q => ⟨i, j, by rw [hu.of_int, hv.of_int], q⟩⟩
theorem on_lenS {x : Str} (h : x.length ≤ 100000) : OpN K cl true (rLenA K) M [.str x] (.int x.length) M := on_val fun G1 H1 S us ru => by
  obtain ⟨u, rfl, hu⟩ := reps1 ru
  refine ⟨_, Rep.int, fun Q q => ⟨.str x, x.length, by rw [hu.of_str], ⟨Nat.le_trans h (by decide), rfl⟩, q⟩⟩
theorem on_lenL : OpN K cl true (rLenA K) M [.lst ds] (.int ds.length) M := on_val fun G1 H1 S us ru => by
  obtain ⟨u, rfl, hu⟩ := reps1 ru
  obtain ⟨a, vs, rfl, sq, rs⟩ := hu.of_lst
  refine ⟨_, Rep.int, fun Q q => ⟨.ref a, ds.length, rfl, .inl ⟨vs, S.sub.seq sq, rs.length.symm⟩, q⟩⟩
theorem on_lenT : OpN K cl true (rLenA K) M [.tup ds] (.int ds.length) M := on_val fun G1 H1 S us ru => by
  obtain ⟨u, rfl, hu⟩ := reps1 ru
  obtain ⟨a, vs, rfl, sq, rs⟩ := hu.of_tup
  refine ⟨_, Rep.int, fun Q q => ⟨.ref a, ds.length, rfl, .inr ⟨vs, Same.seqT S.sub sq, rs.length.symm⟩, q⟩⟩
theorem on_lenM {a : Addr} {vs : List V} (h : At M a (.lst vs)) : OpN K cl true (rLenA K) M [.loc a] (.int vs.length) M := on_val fun G1 H1 S us ru => by
  obtain ⟨u, rfl, hu⟩ := reps1 ru
  refine ⟨_, Rep.int, fun Q q => ⟨.ref a, vs.length, by rw [hu.of_loc], .inl ⟨vs, .inl (.inl (S.look h)), rfl⟩, q⟩⟩
theorem on_tupL : OpN K cl false (rTupA K) M [.lst ds] (.tup ds) M := fun G1 H1 S us ru Q k => by
  obtain ⟨u, rfl, hu⟩ := reps1 ru
  obtain ⟨a, vs, rfl, sq, rs⟩ := hu.of_lst
  exact ⟨a, vs, rfl, .inl ⟨S.sub.seq sq, fun l hl => k _ _ _ (Go.of (Same.upd (S.freshG hl)) (S.newG hl)) (Rep.tup (.inl (.inl upd_same)) (rs.mono (Same.upd (S.freshG hl))))⟩⟩
theorem on_tupT : OpN K cl true (rTupA K) M [.tup ds] (.tup ds) M := on_val fun G1 H1 S us ru => by
  obtain ⟨u, rfl, hu⟩ := reps1 ru
  obtain ⟨a, vs, rfl, sq, rs⟩ := hu.of_tup
  exact ⟨_, hu, fun Q q => ⟨a, vs, rfl, .inr ⟨Same.seqT S.sub sq, q⟩⟩⟩
/-- an owned list's items, as they stand -/
theorem on_tupM {a : Addr} {vs : List V} (h : At M a (.lst vs)) (hr : Reps K cl G vs ds) : ∀ G1 H1, Same G G1 → Sep G1 H1 M → ∀ Q : VK, (∀ w G2 H2, Go false M M G1 H1 G2 H2 → Rep K cl G2 w (.tup ds) → Q w H2) → rTupA K [.ref a] H1 Q := fun G1 H1 s S Q k =>
  ⟨a, vs, rfl, .inl ⟨.inl (.inl (S.look h)), fun l hl => k _ _ _ (Go.of (Same.upd (S.freshG hl)) (S.newG hl)) (Rep.tup (.inl (.inl upd_same)) ((hr.mono s).mono (Same.upd (S.freshG hl))))⟩⟩
theorem ev_tupM {a : Addr} {vs : List V} (ha : EvX K cl p ta σ G M (.loc a) M1) (h : At M1 a (.lst vs)) (hr : Reps K cl G vs ds) : EvX K cl false (tCB (rTupA K) (tCons ta tNil)) σ G M (.tup ds) M1 := fun G1 H1 s S Q k =>
  ha G1 H1 s S _ fun x G2 H2 g2 rx => by
    rw [rx.of_loc]
    exact on_tupM h hr G2 H2 (s.trans g2.same) g2.sep Q fun w G3 H3 g3 rw' => k w G3 H3 (Go.of (g2.same.trans g3.same) g3.sep) rw'
/-- s.startswith(t) -/
abbrev rStarts : V → List V → Hp → VK → Prop := fun x xs H Q => ∃ a b, x = .str a ∧ xs = [.str b] ∧ Q (.bl (Txt.startswith a b)) H
theorem ev_starts {x y : Str} (ha : EvX K cl p ta σ G M (.str x) M1) (hb : EvX K cl q tb σ G M1 (.str y) M2) : EvX K cl (p && q) (tM1 rStarts ta tb) σ G M (.bl (Txt.startswith x y)) M2 := fun G1 H1 s S Q k =>
  ha G1 H1 s S _ fun u G2 H2 g2 ru => ⟨⟨x, ru.of_str⟩, hb G2 H2 (s.trans g2.same) g2.sep _ fun v G3 H3 g3 rv => ⟨x, y, ru.of_str, by rw [rv.of_str], k _ G3 H3 (g2.trans g3) Rep.bl⟩⟩
/-! slices -/
def EvO (p : Bool) (K : PySem.W.Frag) (cl : Nat → Addr) (to : TO) (σ : St) (G : Hp) (M : ML) (o : Option Int) : Prop :=
  ∀ G1 H1, Same G G1 → Sep G1 H1 M → ∀ Q : Option Int → Hp → Prop, (∀ G2 H2, Go p M M G1 H1 G2 H2 → Q o H2) → to σ H1 Q
theorem eo_none : EvO true K cl tNoPart σ G M none := fun G1 H1 s S Q k => k G1 H1 (Go.refl S)
theorem eo_some {i : Int} (h : EvX K cl p te σ G M (.int i) M) : EvO p K cl (tPart te) σ G M (some i) := fun G1 H1 s S Q k => h G1 H1 s S _ fun x G2 H2 g2 rx => ⟨i, rx.of_int, k G2 H2 g2⟩
abbrev SlK := V → Option Int → Option Int → Hp → VK → Prop
def orS (a b : SlK) : SlK := fun x l u H Q => a x l u H Q ∨ b x l u H Q
theorem sl_or {X : Cx} {a b : SlK} (h1 : SlR X a) (h2 : SlR X b) : SlR X (orS a b) := fun pins s σ H x v vl vu lo hi sl Q I rx hs pl pu h => h.elim (h1 pins s σ H x v vl vu lo hi sl Q I rx hs pl pu) (h2 pins s σ H x v vl vu lo hi sl Q I rx hs pl pu)
/-- xs[lo:hi] of a list or a text -/
def rSlA (K : PySem.W.Frag) : SlK := orS (rSlL K) rSlS
theorem sl_any {X : Cx} : SlR X (rSlA X.K) := sl_or sl_list sl_str
theorem ev_slS {x : Str} {tl th : TO} {lo hi : Option Int} (ha : EvX K cl p ta σ G M (.str x) M1) (hl : EvO q K cl tl σ G M1 lo) (hh : EvO r K cl th σ G M1 hi) (hx : x.length ≤ 100000) : EvX K cl (p && q && r) (tSl (rSlA K) ta tl th) σ G M (.str (cutS x lo hi)) M1 := fun G1 H1 s S Q k =>
  ha G1 H1 s S _ fun u G2 H2 g2 ru => hl G2 H2 (s.trans g2.same) g2.sep _ fun G3 H3 g3 => hh G3 H3 ((s.trans g2.same).trans g3.same) g3.sep _ fun G4 H4 g4 =>
    .inr ⟨x, ru.of_str, Nat.le_trans hx (by decide), k _ G4 H4 ((g2.trans g3).trans g4) Rep.str⟩
def cutD (xs : List D) (lo hi : Option Int) : List D := (xs.drop (HT.sIx xs.length 0 lo)).take (HT.sIx xs.length xs.length hi - HT.sIx xs.length 0 lo)
theorem Reps.cut {vs : List V} {lo hi : Option Int} (h : Reps K cl G vs ds) : Reps K cl G (cutV vs lo hi) (cutD ds lo hi) := by
  unfold cutV cutD
  rw [h.length]
  exact (h.drop _).take _
theorem ev_slL {tl th : TO} {lo hi : Option Int} (ha : EvX K cl p ta σ G M (.lst ds) M1) (hl : EvO q K cl tl σ G M1 lo) (hh : EvO r K cl th σ G M1 hi) : EvX K cl false (tSl (rSlA K) ta tl th) σ G M (.lst (cutD ds lo hi)) M1 := fun G1 H1 s S Q k =>
  ha G1 H1 s S _ fun u G2 H2 g2 ru => hl G2 H2 (s.trans g2.same) g2.sep _ fun G3 H3 g3 => hh G3 H3 ((s.trans g2.same).trans g3.same) g3.sep _ fun G4 H4 g4 => by
    obtain ⟨a, vs, e, sq, rs⟩ := ru.of_lst
    have s4 : Same G2 G4 := g3.same.trans g4.same
    refine .inl ⟨a, vs, e, (s4.trans g4.sep.sub).seq sq, fun l hl => ?_⟩
    have n := g4.sep.freshG hl
    exact k _ _ _ (Go.of ((g2.same.trans s4).trans (Same.upd n)) (g4.sep.newG hl)) (Rep.lst (.inl (.inl upd_same)) ((rs.mono (s4.trans (Same.upd n))).cut))

/-! ### statements -/
variable {nx : St → Hp → Prop} {rt : VK} {bk ct : St → Hp → Prop} {t u : TS}
theorem s_seq (h : t ⟨u ⟨nx, rt, bk, ct⟩, rt, bk, ct⟩ σ H) : tSeq t u ⟨nx, rt, bk, ct⟩ σ H := h
theorem s_asg {i : Nat} (S : Sep G H M) (h : EvX K cl p te σ G M d M1) (k : ∀ v G' H', Go p M M1 G H G' H' → Rep K cl G' v d → nx (σ.set i (some v)) H') : tAsg te (gName i) ⟨nx, rt, bk, ct⟩ σ H :=
  h G H (Same.refl _) S _ fun v G2 H2 g rv => k v G2 H2 g rv
theorem s_asgG {i : Nat} {F : V → Hp → ML → Prop} (S : Sep G H M) (h : EvG te σ G M F) (k : ∀ v G' H' M', Same G G' → Sep G' H' M' → F v G' M' → nx (σ.set i (some v)) H') : tAsg te (gName i) ⟨nx, rt, bk, ct⟩ σ H :=
  h G H (Same.refl _) S _ fun v G2 H2 M2 s S2 f => k v G2 H2 M2 s S2 f
theorem s_ret (S : Sep G H M) (h : EvX K cl p te σ G M d M1) (k : ∀ v G' H', Go p M M1 G H G' H' → Rep K cl G' v d → rt v H') : tRet te ⟨nx, rt, bk, ct⟩ σ H :=
  h G H (Same.refl _) S _ fun v G2 H2 g rv => k v G2 H2 g rv
theorem s_retG {F : V → Hp → ML → Prop} (S : Sep G H M) (h : EvG te σ G M F) (k : ∀ v G' H' M', Same G G' → Sep G' H' M' → F v G' M' → rt v H') : tRet te ⟨nx, rt, bk, ct⟩ σ H :=
  h G H (Same.refl _) S _ fun v G2 H2 M2 s S2 f => k v G2 H2 M2 s S2 f
theorem s_drop (S : Sep G H M) (h : EvX K cl p te σ G M d M1) (k : ∀ v G' H', Go p M M1 G H G' H' → Rep K cl G' v d → nx σ H') : tDrop te ⟨nx, rt, bk, ct⟩ σ H :=
  h G H (Same.refl _) S _ fun v G2 H2 g rv => k v G2 H2 g rv
theorem s_if {b : Bool} (S : Sep G H M) (h : EvT K cl p tt σ G M b M1) (h1 : ∀ G' H', Go p M M1 G H G' H' → b = true → t ⟨nx, rt, bk, ct⟩ σ H') (h2 : ∀ G' H', Go p M M1 G H G' H' → b = false → u ⟨nx, rt, bk, ct⟩ σ H') : tIfS tt t u ⟨nx, rt, bk, ct⟩ σ H :=
  h G H (Same.refl _) S _ fun G2 H2 g => by
    cases b with
    | true => exact h1 G2 H2 g rfl
    | false => exact h2 G2 H2 g rfl
/-- both ways meet again -/
theorem s_ifJ {b : Bool} (J : St → Hp → ML → Prop) (S : Sep G H M) (h : EvT K cl p tt σ G M b M1)
    (h1 : (∀ σ' G' H' M', Same G G' → Sep G' H' M' → J σ' G' M' → nx σ' H') → ∀ G' H', Go p M M1 G H G' H' → b = true → t ⟨nx, rt, bk, ct⟩ σ H')
    (h2 : (∀ σ' G' H' M', Same G G' → Sep G' H' M' → J σ' G' M' → nx σ' H') → ∀ G' H', Go p M M1 G H G' H' → b = false → u ⟨nx, rt, bk, ct⟩ σ H')
    (k : ∀ σ' G' H' M', Same G G' → Sep G' H' M' → J σ' G' M' → nx σ' H') : tIfS tt t u ⟨nx, rt, bk, ct⟩ σ H := s_if S h (h1 k) (h2 k)
theorem s_next (h : nx σ H) : tNext ⟨nx, rt, bk, ct⟩ σ H := h
theorem s_break (h : bk σ H) : tBreak ⟨nx, rt, bk, ct⟩ σ H := h
theorem s_cont (h : ct σ H) : tCont ⟨nx, rt, bk, ct⟩ σ H := h
theorem s_retN (h : rt .non H) : tRetN ⟨nx, rt, bk, ct⟩ σ H := h
/-- self.f = e, self owned -/
theorem s_fld {a C dx : Addr} {fs : List (Str × V)} {f : Str} {tv : TE} {M' : V → ML} (S : Sep G H M) (hv : EvX K cl p tv σ G M d M1) (ha : EvX K cl q ta σ G M1 (.loc a) M2) (hm : ∀ v, Ch M2 a (.ins C dx fs) (.ins C dx (putF f v fs)) (M' v)) (hc : Cls K C) (hn : NoAttr K C f) (hl : fs.length < 1000)
    (k : ∀ v G' H', Same G G' → Sep G' H' (M' v) → Rep K cl G' v d → nx σ H') : sFld K ta tv f ⟨nx, rt, bk, ct⟩ σ H :=
  hv G H (Same.refl _) S _ fun v G2 H2 g2 rv => ha G2 H2 g2.same g2.sep _ fun x G3 H3 g3 rx =>
    ⟨a, C, dx, fs, rx.of_loc, g3.sep.look (hm v).at, hc, hn, hl, k v G3 _ (g2.same.trans g3.same) (g3.sep.ch (hm v)) (rv.mono g3.same)⟩
theorem putF_zip_new {f : Str} {v : V} : ∀ {ns : List Str} {vs : List V}, ns.length = vs.length → ns.contains f = false → putF f v (ns.zip vs) = (ns ++ [f]).zip (vs ++ [v])
  | [], [], _, _ => rfl
  | [], _ :: _, h, _ => by simp at h
  | _ :: _, [], h, _ => by simp at h
  | n :: ns, w :: vs, h, hc => by
    rw [List.contains_cons, Bool.or_eq_false_iff] at hc
    have hne : ¬ n = f := fun e => by rw [e] at hc; simp at hc
    rw [List.zip_cons_cons]
    show (if n = f then _ else _) = _
    rw [if_neg hne, putF_zip_new (Nat.succ.inj h) hc.2]
    rfl
theorem putF_zip_set {f : Str} {v : V} : ∀ {ns : List Str} {vs : List V} {i : Nat}, ns.length = vs.length → ns.findIdx? (· == f) = some i → putF f v (ns.zip vs) = ns.zip (vs.set i v)
  | [], [], i, _, h => by simp at h
  | [], _ :: _, _, h, _ => by simp at h
  | _ :: _, [], _, h, _ => by simp at h
  | n :: ns, w :: vs, i, h, hc => by
    rw [List.zip_cons_cons]
    rw [List.findIdx?_cons] at hc
    by_cases e : n = f
    · have e' : (n == f) = true := by simp [e]
      rw [e'] at hc
      simp at hc
      subst hc
      show (if n = f then _ else _) = _
      rw [if_pos e]
      rfl
    · have e' : (n == f) = false := by simp [e]
      rw [e'] at hc
      simp at hc
      obtain ⟨j, hj, rfl⟩ := hc
      show (if n = f then _ else _) = _
      rw [if_neg e, putF_zip_set (Nat.succ.inj h) hj]
      rfl
/-- self.f = e: a field that is not there yet -/
theorem s_fldN {a C dx : Addr} {ns : List Str} {vs : List V} {f : Str} {tv : TE} {M' : V → ML} (S : Sep G H M) (hv : EvX K cl p tv σ G M d M1) (ha : EvX K cl q ta σ G M1 (.loc a) M2) (hm : ∀ v, Ch M2 a (.ins C dx (ns.zip vs)) (.ins C dx ((ns ++ [f]).zip (vs ++ [v]))) (M' v)) (hc : Cls K C) (hn : NoAttr K C f)
    (hl : ns.length = vs.length) (hx : ns.contains f = false) (hk : ns.length < 1000) (k : ∀ v G' H', Same G G' → Sep G' H' (M' v) → Rep K cl G' v d → nx σ H') : sFld K ta tv f ⟨nx, rt, bk, ct⟩ σ H :=
  s_fld (fs := ns.zip vs) S hv ha (fun v => by rw [putF_zip_new hl hx]; exact hm v) hc hn (by rw [List.length_zip]; omega) k
/-- .. a field that is there -/
theorem s_fldU {a C dx : Addr} {ns : List Str} {vs : List V} {f : Str} {tv : TE} {i : Nat} {M' : V → ML} (S : Sep G H M) (hv : EvX K cl p tv σ G M d M1) (ha : EvX K cl q ta σ G M1 (.loc a) M2) (hx : ns.findIdx? (· == f) = some i) (hm : ∀ v, Ch M2 a (.ins C dx (ns.zip vs)) (.ins C dx (ns.zip (vs.set i v))) (M' v)) (hc : Cls K C) (hn : NoAttr K C f)
    (hl : ns.length = vs.length) (hk : ns.length < 1000) (k : ∀ v G' H', Same G G' → Sep G' H' (M' v) → Rep K cl G' v d → nx σ H') : sFld K ta tv f ⟨nx, rt, bk, ct⟩ σ H :=
  s_fld (fs := ns.zip vs) S hv ha (fun v => by rw [putF_zip_set hl hx]; exact hm v) hc hn (by rw [List.length_zip]; omega) k
/-- xs.append(e), xs owned -/
theorem s_app {a : Addr} {us vs : List V} {M' : V → ML} (S : Sep G H M) (ha : EvX K cl p ta σ G M (.loc a) M1) (hm0 : At M1 a (.lst us)) (he : EvX K cl q te σ G M1 d M2) (hm : ∀ v, Ch M2 a (.lst vs) (.lst (vs ++ [v])) (M' v)) (hl : vs.length < 10000000)
    (k : ∀ v G' H', Same G G' → Sep G' H' (M' v) → Rep K cl G' v d → nx σ H') : tDrop (tBM K "list" rAppend ta (tCons te tNil)) ⟨nx, rt, bk, ct⟩ σ H :=
  ha G H (Same.refl _) S _ fun x G2 H2 g2 rx => ⟨by
    rw [rx.of_loc]
    exact .inl ⟨rfl, us, .inl (.inl (g2.sep.look hm0))⟩, he G2 H2 g2.same g2.sep _ fun v G3 H3 g3 rv =>
    ⟨a, vs, v, rx.of_loc, rfl, g3.sep.look (hm v).at, Nat.lt_of_lt_of_le hl (by decide), k v G3 _ (g2.same.trans g3.same) (g3.sep.ch (hm v)) rv⟩⟩
/-- xs[i] = e, xs owned -/
theorem s_set {ti : TE} {a : Addr} {vs : List V} {i : Int} {j : Nat} {M' : V → ML} (S : Sep G H M) (he : EvX K cl p te σ G M d M1) (ha : EvX K cl q ta σ G M1 (.loc a) M2) (hi : EvX K cl r ti σ G M2 (.int i) M3) (hm : ∀ v, Ch M3 a (.lst vs) (.lst (vs.set j v)) (M' v)) (hj : ixN vs.length i = some j)
    (k : ∀ v G' H', Same G G' → Sep G' H' (M' v) → Rep K cl G' v d → nx σ H') : tAsg te (gSub ta ti rSetL) ⟨nx, rt, bk, ct⟩ σ H :=
  he G H (Same.refl _) S _ fun v G2 H2 g2 rv => ha G2 H2 g2.same g2.sep _ fun x G3 H3 g3 rx => hi G3 H3 (g2.same.trans g3.same) g3.sep _ fun y G4 H4 g4 ry =>
    ⟨a, vs, i, j, rx.of_loc, ry.of_int, g4.sep.look (hm v).at, hj, k v G4 _ ((g2.same.trans g3.same).trans g4.same) (g4.sep.ch (hm v)) (rv.mono (g3.same.trans g4.same))⟩
/-! loops -/
/-- list or tuple -/
def iSeq (K : PySem.W.Frag) (tl : TE) : TI := fun σ H R => iList K tl σ H R ∨ iTup K tl σ H R
theorem pi_seq {X : Cx} {tg l : Expr} {tl : TE} (hl : PE X l tl) : PI X tg l (iSeq X.K tl) := ⟨fun pins s σ H R I h => by
  rcases h with h | h
  · exact (pi_list hl).run pins s σ H R I h
  · exact (pi_tup hl).run pins s σ H R I h⟩
/-- what stands between two turns -/
def Nx (G : Hp) (J : Nat → St → Hp → ML → Prop) (i : Nat) : St → Hp → Prop := fun σ H => ∃ G' M', Same G G' ∧ Sep G' H M' ∧ J i σ G' M'
theorem s_forL {tl : TE} {g : TG} {tb : TS} (J : Nat → St → Hp → ML → Prop) (S : Sep G H M) (h : EvX K cl p tl σ G M (.lst ds) M1) (h0 : ∀ G' H', Go p M M1 G H G' H' → J 0 σ G' M1)
    (hs : ∀ G2, Same G G2 → ∀ i x d σ' G' H' M', ds[i]? = some d → Same G2 G' → Sep G' H' M' → Rep K cl G' x d → J i σ' G' M' → g x σ' H' fun σ2 H2 => tb ⟨Nx G2 J (i + 1), rt, nx, Nx G2 J (i + 1)⟩ σ2 H2)
    (hd : ∀ σ' G' H' M', Same G G' → Sep G' H' M' → J ds.length σ' G' M' → nx σ' H') : tFor (iSeq K tl) g tb ⟨nx, rt, bk, ct⟩ σ H :=
  .inl (h G H (Same.refl _) S _ fun x G2 H2 g2 rx => by
    obtain ⟨a, vs, e, sq, rs⟩ := rx.of_lst
    refine ⟨a, e, ⟨vs, g2.sep.sub.seq sq⟩, for_list (xs := vs) (Nx G2 J) ⟨G2, M1, Same.refl _, g2.sep, h0 G2 H2 g2⟩ ?_ ?_ ?_⟩
    · rintro i σ' H' hi ⟨G', M', s', S', j⟩
      exact (s'.trans S'.sub).seq sq
    · rintro i y σ' H' hy ⟨G', M', s', S', j⟩
      obtain ⟨d, hd', rd⟩ := rs.get hy
      exact hs G2 g2.same i y d σ' G' H' M' hd' s' S' (rd.mono s') j
    · rintro σ' H' ⟨G', M', s', S', j⟩
      rw [rs.length] at j
      exact hd σ' G' H' M' (g2.same.trans s') S' j)
theorem s_forT {tl : TE} {g : TG} {tb : TS} (J : Nat → St → Hp → ML → Prop) (S : Sep G H M) (h : EvX K cl p tl σ G M (.tup ds) M1) (h0 : ∀ G' H', Go p M M1 G H G' H' → J 0 σ G' M1)
    (hs : ∀ G2, Same G G2 → ∀ i x d σ' G' H' M', ds[i]? = some d → Same G2 G' → Sep G' H' M' → Rep K cl G' x d → J i σ' G' M' → g x σ' H' fun σ2 H2 => tb ⟨Nx G2 J (i + 1), rt, nx, Nx G2 J (i + 1)⟩ σ2 H2)
    (hd : ∀ σ' G' H' M', Same G G' → Sep G' H' M' → J ds.length σ' G' M' → nx σ' H') : tFor (iSeq K tl) g tb ⟨nx, rt, bk, ct⟩ σ H :=
  .inr (h G H (Same.refl _) S _ fun x G2 H2 g2 rx => by
    obtain ⟨a, vs, e, sq, rs⟩ := rx.of_tup
    refine ⟨a, e, ⟨vs, Same.seqT g2.sep.sub sq⟩, for_tup (xs := vs) (Nx G2 J) ⟨G2, M1, Same.refl _, g2.sep, h0 G2 H2 g2⟩ ?_ ?_ ?_⟩
    · rintro i σ' H' hi ⟨G', M', s', S', j⟩
      exact Same.seqT (s'.trans S'.sub) sq
    · rintro i y σ' H' hy ⟨G', M', s', S', j⟩
      obtain ⟨d, hd', rd⟩ := rs.get hy
      exact hs G2 g2.same i y d σ' G' H' M' hd' s' S' (rd.mono s') j
    · rintro σ' H' ⟨G', M', s', S', j⟩
      rw [rs.length] at j
      exact hd σ' G' H' M' (g2.same.trans s') S' j)
theorem s_forR1 {g : TG} {tb : TS} {n : Int} (J : Nat → St → Hp → ML → Prop) (S : Sep G H M) (h : EvA K cl p tx σ G M [.int n] M1) (hn : -1000000000000 ≤ n ∧ n ≤ 1000000000000) (h0 : ∀ G' H', Go p M M1 G H G' H' → J 0 σ G' M1)
    (hs : ∀ G2, Same G G2 → ∀ (i : Nat) σ' G' H' M', (i : Int) < n → Same G2 G' → Sep G' H' M' → J i σ' G' M' → g (.int (i : Int)) σ' H' fun σ2 H2 => tb ⟨Nx G2 J (i + 1), rt, nx, Nx G2 J (i + 1)⟩ σ2 H2)
    (hd : ∀ σ' G' H' M', Same G G' → Sep G' H' M' → J n.toNat σ' G' M' → nx σ' H') : tFor (iRng1 tx) g tb ⟨nx, rt, bk, ct⟩ σ H :=
  h G H (Same.refl _) S _ fun xs G2 H2 g2 rx => by
    obtain ⟨u, rfl, hu⟩ := reps1 rx
    refine ⟨n, by rw [hu.of_int], by omega, by omega, for_range (lo := 0) (n := n.toNat) (Nx G2 J) ⟨G2, M1, Same.refl _, g2.sep, h0 G2 H2 g2⟩ ?_ ?_⟩
    · rintro i σ' H' hi ⟨G', M', s', S', j⟩
      rw [Int.zero_add]
      exact hs G2 g2.same i σ' G' H' M' (by omega) s' S' j
    · rintro σ' H' ⟨G', M', s', S', j⟩
      exact hd σ' G' H' M' (g2.same.trans s') S' j
theorem s_forR2 {g : TG} {tb : TS} {lo n : Int} (J : Nat → St → Hp → ML → Prop) (S : Sep G H M) (h : EvA K cl p tx σ G M [.int lo, .int n] M1) (hn : -1000000000000000 ≤ lo ∧ lo ≤ 1000000000000000 ∧ -1000000000000000 ≤ n ∧ n ≤ 1000000000000000) (h0 : ∀ G' H', Go p M M1 G H G' H' → J 0 σ G' M1)
    (hs : ∀ G2, Same G G2 → ∀ (i : Nat) σ' G' H' M', lo + (i : Int) < n → Same G2 G' → Sep G' H' M' → J i σ' G' M' → g (.int (lo + (i : Int))) σ' H' fun σ2 H2 => tb ⟨Nx G2 J (i + 1), rt, nx, Nx G2 J (i + 1)⟩ σ2 H2)
    (hd : ∀ σ' G' H' M', Same G G' → Sep G' H' M' → J (n - lo).toNat σ' G' M' → nx σ' H') : tFor (iRng2 tx) g tb ⟨nx, rt, bk, ct⟩ σ H :=
  h G H (Same.refl _) S _ fun xs G2 H2 g2 rx => by
    obtain ⟨u, v, rfl, hu, hv⟩ := reps2 rx
    refine ⟨lo, n, by rw [hu.of_int, hv.of_int], ⟨by omega, by omega, by omega, by omega⟩, for_range (lo := lo) (n := (n - lo).toNat) (Nx G2 J) ⟨G2, M1, Same.refl _, g2.sep, h0 G2 H2 g2⟩ ?_ ?_⟩
    · rintro i σ' H' hi ⟨G', M', s', S', j⟩
      exact hs G2 g2.same i σ' G' H' M' (by omega) s' S' j
    · rintro σ' H' ⟨G', M', s', S', j⟩
      exact hd σ' G' H' M' (g2.same.trans s') S' j
theorem op1_dummy : True := trivial
theorem s_gname {i : Nat} {v : V} {Q : St → Hp → Prop} (h : Q (σ.set i (some v)) H) : gName i v σ H Q := h
end
end Cp
/-! Cp4: truth of values, items of owned lists, comprehensions, while, == of data, tuples taken apart. -/
namespace Cp
open PySem L2

section
variable {K : PySem.W.Frag} {cl : Nat → Addr} {p q r : Bool} {M M1 M2 M3 M4 : ML} {G G1 G2 G3 H H1 H2 H3 : Hp} {σ : St} {ta tb te : TE} {tx : TA} {tt tu : TT} {d d1 d2 d3 : D} {ds es : List D}

theorem reps3 {us : List V} {d1 d2 d3 : D} (h : Reps K cl G us [d1, d2, d3]) : ∃ u1 u2 u3, us = [u1, u2, u3] ∧ Rep K cl G u1 d1 ∧ Rep K cl G u2 d2 ∧ Rep K cl G u3 d3 := by
  obtain ⟨u1, ws, rfl, h1, hw⟩ := h.uncons
  obtain ⟨u2, u3, rfl, h2, h3⟩ := reps2 hw
  exact ⟨u1, u2, u3, rfl, h1, h2, h3⟩
theorem reps4 {us : List V} {d1 d2 d3 d4 : D} (h : Reps K cl G us [d1, d2, d3, d4]) : ∃ u1 u2 u3 u4, us = [u1, u2, u3, u4] ∧ Rep K cl G u1 d1 ∧ Rep K cl G u2 d2 ∧ Rep K cl G u3 d3 ∧ Rep K cl G u4 d4 := by
  obtain ⟨u1, ws, rfl, h1, hw⟩ := h.uncons
  obtain ⟨u2, u3, u4, rfl, h2, h3, h4⟩ := reps3 hw
  exact ⟨u1, u2, u3, u4, rfl, h1, h2, h3, h4⟩
theorem reps5 {us : List V} {d1 d2 d3 d4 d5 : D} (h : Reps K cl G us [d1, d2, d3, d4, d5]) : ∃ u1 u2 u3 u4 u5, us = [u1, u2, u3, u4, u5] ∧ Rep K cl G u1 d1 ∧ Rep K cl G u2 d2 ∧ Rep K cl G u3 d3 ∧ Rep K cl G u4 d4 ∧ Rep K cl G u5 d5 := by
  obtain ⟨u1, ws, rfl, h1, hw⟩ := h.uncons
  obtain ⟨u2, u3, u4, u5, rfl, h2, h3, h4, h5⟩ := reps4 hw
  exact ⟨u1, u2, u3, u4, u5, rfl, h1, h2, h3, h4, h5⟩
theorem reps6 {us : List V} {d1 d2 d3 d4 d5 d6 : D} (h : Reps K cl G us [d1, d2, d3, d4, d5, d6]) : ∃ u1 u2 u3 u4 u5 u6, us = [u1, u2, u3, u4, u5, u6] ∧ Rep K cl G u1 d1 ∧ Rep K cl G u2 d2 ∧ Rep K cl G u3 d3 ∧ Rep K cl G u4 d4 ∧ Rep K cl G u5 d5 ∧ Rep K cl G u6 d6 := by
  obtain ⟨u1, ws, rfl, h1, hw⟩ := h.uncons
  obtain ⟨u2, u3, u4, u5, u6, rfl, h2, h3, h4, h5, h6⟩ := reps5 hw
  exact ⟨u1, u2, u3, u4, u5, u6, rfl, h1, h2, h3, h4, h5, h6⟩
theorem reps7 {us : List V} {d1 d2 d3 d4 d5 d6 d7 : D} (h : Reps K cl G us [d1, d2, d3, d4, d5, d6, d7]) : ∃ u1 u2 u3 u4 u5 u6 u7, us = [u1, u2, u3, u4, u5, u6, u7] ∧ Rep K cl G u1 d1 ∧ Rep K cl G u2 d2 ∧ Rep K cl G u3 d3 ∧ Rep K cl G u4 d4 ∧ Rep K cl G u5 d5 ∧ Rep K cl G u6 d6 ∧ Rep K cl G u7 d7 := by
  obtain ⟨u1, ws, rfl, h1, hw⟩ := h.uncons
  obtain ⟨u2, u3, u4, u5, u6, u7, rfl, h2, h3, h4, h5, h6, h7⟩ := reps6 hw
  exact ⟨u1, u2, u3, u4, u5, u6, u7, rfl, h1, h2, h3, h4, h5, h6, h7⟩
theorem reps8 {us : List V} {d1 d2 d3 d4 d5 d6 d7 d8 : D} (h : Reps K cl G us [d1, d2, d3, d4, d5, d6, d7, d8]) : ∃ u1 u2 u3 u4 u5 u6 u7 u8, us = [u1, u2, u3, u4, u5, u6, u7, u8] ∧ Rep K cl G u1 d1 ∧ Rep K cl G u2 d2 ∧ Rep K cl G u3 d3 ∧ Rep K cl G u4 d4 ∧ Rep K cl G u5 d5 ∧ Rep K cl G u6 d6 ∧ Rep K cl G u7 d7 ∧ Rep K cl G u8 d8 := by
  obtain ⟨u1, ws, rfl, h1, hw⟩ := h.uncons
  obtain ⟨u2, u3, u4, u5, u6, u7, u8, rfl, h2, h3, h4, h5, h6, h7, h8⟩ := reps7 hw
  exact ⟨u1, u2, u3, u4, u5, u6, u7, u8, rfl, h1, h2, h3, h4, h5, h6, h7, h8⟩
theorem reps9 {us : List V} {d1 d2 d3 d4 d5 d6 d7 d8 d9 : D} (h : Reps K cl G us [d1, d2, d3, d4, d5, d6, d7, d8, d9]) : ∃ u1 u2 u3 u4 u5 u6 u7 u8 u9, us = [u1, u2, u3, u4, u5, u6, u7, u8, u9] ∧ Rep K cl G u1 d1 ∧ Rep K cl G u2 d2 ∧ Rep K cl G u3 d3 ∧ Rep K cl G u4 d4 ∧ Rep K cl G u5 d5 ∧ Rep K cl G u6 d6 ∧ Rep K cl G u7 d7 ∧ Rep K cl G u8 d8 ∧ Rep K cl G u9 d9 := by
  obtain ⟨u1, ws, rfl, h1, hw⟩ := h.uncons
  obtain ⟨u2, u3, u4, u5, u6, u7, u8, u9, rfl, h2, h3, h4, h5, h6, h7, h8, h9⟩ := reps8 hw
  exact ⟨u1, u2, u3, u4, u5, u6, u7, u8, u9, rfl, h1, h2, h3, h4, h5, h6, h7, h8, h9⟩
theorem reps10 {us : List V} {d1 d2 d3 d4 d5 d6 d7 d8 d9 d10 : D} (h : Reps K cl G us [d1, d2, d3, d4, d5, d6, d7, d8, d9, d10]) : ∃ u1 u2 u3 u4 u5 u6 u7 u8 u9 u10, us = [u1, u2, u3, u4, u5, u6, u7, u8, u9, u10] ∧ Rep K cl G u1 d1 ∧ Rep K cl G u2 d2 ∧ Rep K cl G u3 d3 ∧ Rep K cl G u4 d4 ∧ Rep K cl G u5 d5 ∧ Rep K cl G u6 d6 ∧ Rep K cl G u7 d7 ∧ Rep K cl G u8 d8 ∧ Rep K cl G u9 d9 ∧ Rep K cl G u10 d10 := by
  obtain ⟨u1, ws, rfl, h1, hw⟩ := h.uncons
  obtain ⟨u2, u3, u4, u5, u6, u7, u8, u9, u10, rfl, h2, h3, h4, h5, h6, h7, h8, h9, h10⟩ := reps9 hw
  exact ⟨u1, u2, u3, u4, u5, u6, u7, u8, u9, u10, rfl, h1, h2, h3, h4, h5, h6, h7, h8, h9, h10⟩
/-! ### truth -/
def tTr (K : PySem.W.Frag) (ta : TE) : TT := fun σ H Q => ta σ H fun x H' => ∃ k, TruV K x H' k ∧ Q k H'
theorem pt_tr {X : Cx} {a : Expr} (ha : PE X a ta) (he : ∀ whole, isTrue a X.env whole = (do let v ← whole; standAt a.pos; holding [v] (truthy v)) := by intro _; rfl) : PT X a (tTr X.K ta) := pt_truth ha he
def D.tru : D → Option Bool
  | .non => some false
  | .bl b => some b
  | .int i => some (i != 0)
  | .lst ds => some (!ds.isEmpty)
  | .tup ds => some (!ds.isEmpty)
  | _ => none
theorem Reps.isEmpty {vs : List V} (h : Reps K cl G vs ds) : vs.isEmpty = ds.isEmpty := by
  cases ds with
  | nil => simp only [Reps] at h; rw [h]; rfl
  | cons d ds => obtain ⟨v, ws, rfl, _, _⟩ := h.uncons; rfl
theorem et_tr {b : Bool} (h : EvX K cl p ta σ G M d M1) (hb : d.tru = some b) : EvT K cl p (tTr K ta) σ G M b M1 := fun G1 H1 s S Q k => h G1 H1 s S _ fun x G2 H2 g2 rx => by
  refine ⟨b, ?_, k G2 H2 g2⟩
  cases d with
  | non => rw [rx.of_non]; exact (Option.some.inj hb).symm
  | bl c => rw [rx.of_bl]; exact (Option.some.inj hb).symm
  | int i => rw [rx.of_int]; exact (Option.some.inj hb).symm
  | str s => cases hb
  | lst ds => obtain ⟨a, vs, rfl, sq, rs⟩ := rx.of_lst; exact .inl ⟨vs, g2.sep.sub.seq sq, by rw [rs.isEmpty]; exact (Option.some.inj hb).symm⟩
  | tup ds => obtain ⟨a, vs, rfl, sq, rs⟩ := rx.of_tup; exact .inr (.inl ⟨vs, Same.seqT g2.sep.sub sq, by rw [rs.isEmpty]; exact (Option.some.inj hb).symm⟩)
  | ins c ns ds => cases hb
  | loc a => cases hb
theorem et_trM {a : Addr} {vs : List V} (h : EvX K cl p ta σ G M (.loc a) M1) (hm : At M1 a (.lst vs)) : EvT K cl p (tTr K ta) σ G M (!vs.isEmpty) M1 := fun G1 H1 s S Q k => h G1 H1 s S _ fun x G2 H2 g2 rx => by
  rw [rx.of_loc]
  exact ⟨_, .inl ⟨vs, .inl (.inl (g2.sep.look hm)), rfl⟩, k G2 H2 g2⟩

/-! ### an item of an owned list, told by its data -/
theorem ev_ixMD {a : Addr} {vs : List V} {i : Int} (ha : EvX K cl p ta σ G M (.loc a) M1) (hb : EvX K cl q tb σ G M1 (.int i) M2) (hm : At M2 a (.lst vs)) (hr : Reps K cl G vs ds) (hi : atI ds i = some d) : EvX K cl (p && q) (tOp (rIx K) ta tb) σ G M d M2 := by
  obtain ⟨v, hv, rv⟩ := hr.atI hi
  exact ev_ixM ha hb hm hv rv
theorem atI_last' {α : Type} {xs : List α} {x : α} (h : xs.getLast? = some x) : atI xs (-1) = some x := by
  have hne : xs ≠ [] := fun e => by rw [e] at h; cases h
  have e1 : xs.getLast hne = x := by
    rw [List.getLast?_eq_some_getLast hne] at h
    exact Option.some.inj h
  have e2 := List.dropLast_concat_getLast hne
  rw [e1] at e2
  rw [← e2]
  exact atI_last _ _

/-! ### tuples taken apart -/
def gNames : List Nat → TGs
  | [] => gNil
  | i :: is => gCons (gName i) (gNames is)
def setAll : St → List Nat → List V → St
  | σ, i :: is, v :: vs => setAll (σ.set i (some v)) is vs
  | σ, _, _ => σ
theorem g_names {Q : St → Hp → Prop} : ∀ {is : List Nat} {vs : List V} {σ : St}, vs.length = is.length → Q (setAll σ is vs) H → gNames is vs σ H Q
  | [], [], σ, _, h => ⟨rfl, h⟩
  | i :: is, v :: vs, σ, hl, h => ⟨v, vs, rfl, g_names (Nat.succ.inj hl) h⟩
theorem g_tup {x : V} {is : List Nat} {n : Nat} {Q : St → Hp → Prop} (S : Sep G H M) (rx : Rep K cl G x (.tup ds)) (hn : ds.length = n) (hi : is.length = n) (k : ∀ vs, Reps K cl G vs ds → Q (setAll σ is vs) H) : gTup K n (gNames is) x σ H Q := by
  obtain ⟨a, vs, e, sq, rs⟩ := rx.of_tup
  exact ⟨a, vs, e, Same.seqT S.sub sq, by rw [rs.length, hn], g_names (by rw [rs.length, hn, hi]) (k vs rs)⟩
theorem s_asgT {is : List Nat} {n : Nat} {nx : St → Hp → Prop} {rt : VK} {bk ct : St → Hp → Prop} (S : Sep G H M) (h : EvX K cl p te σ G M (.tup ds) M1) (hn : ds.length = n) (hi : is.length = n) (k : ∀ vs G' H', Go p M M1 G H G' H' → Reps K cl G' vs ds → nx (setAll σ is vs) H') :
    tAsg te (gTup K n (gNames is)) ⟨nx, rt, bk, ct⟩ σ H := h G H (Same.refl _) S _ fun x G2 H2 g2 rx => g_tup g2.sep rx hn hi fun vs rs => k vs G2 H2 g2 rs

/-! ### a list that is made and then given away -/
theorem s_retF {i : Nat} {u : Addr} {vs : List V} {nx : St → Hp → Prop} {rt : VK} {bk ct : St → Hp → Prop} (S : Sep G H ((u, .lst vs) :: M)) (hi : σ[i]? = some (some (.ref u))) (hr : Reps K cl G vs ds) (k : ∀ G', Same G G' → Sep G' H M → Rep K cl G' (.ref u) (.lst ds) → rt (.ref u) H) : tRet (tVar i) ⟨nx, rt, bk, ct⟩ σ H := by
  obtain ⟨S', s'⟩ := S.freeze
  exact ⟨.ref u, hi, k _ s' S' (Rep.lst (.inl (.inl upd_same)) (hr.mono s'))⟩

/-! ### while -/
theorem s_while {tb : TS} {nx : St → Hp → Prop} {rt : VK} {bk ct : St → Hp → Prop} (J : Nat → St → Hp → ML → Prop) (m0 : Nat) (S : Sep G H M) (h0 : J m0 σ G M)
    (hs : ∀ m σ' G' H' M', Same G G' → Sep G' H' M' → J m σ' G' M' → ∃ b p M1, EvT K cl p tt σ' G' M' b M1 ∧ (b = true → ∀ G2 H2, Go p M' M1 G' H' G2 H2 → tb ⟨fun σ H => ∃ m', m' < m ∧ Nx G (fun _ => J m') 0 σ H, rt, nx, fun σ H => ∃ m', m' < m ∧ Nx G (fun _ => J m') 0 σ H⟩ σ' H2) ∧
      (b = false → ∀ G2 H2, Go p M' M1 G' H' G2 H2 → nx σ' H2)) : tWhile tt tb ⟨nx, rt, bk, ct⟩ σ H := by
  refine ⟨fun m σ H => Nx G (fun _ => J m) 0 σ H, ⟨m0, G, M, Same.refl _, S, h0⟩, ?_⟩
  rintro m σ' H' ⟨G', M', s', S', j⟩
  obtain ⟨b, p, M1, ht, h1, h2⟩ := hs m σ' G' H' M' s' S' j
  refine ht G' H' (Same.refl _) S' _ fun G2 H2 g2 => ?_
  cases b with
  | true => exact ⟨_, fun σ2 H2 h => h, h1 rfl G2 H2 g2⟩
  | false => exact h2 rfl G2 H2 g2

theorem wh_turn {b : Bool} {C : Bool → Bool → ML → Prop} (h : EvT K cl p tt σ G M b M1) (hC : C b p M1) : ∃ b p M1, EvT K cl p tt σ G M b M1 ∧ C b p M1 := ⟨b, p, M1, h, hC⟩
/-! ### comprehensions over frozen lists and tuples -/
/-- one turn of a comprehension: the target, the test, the element -/
def LcT (K : PySem.W.Frag) (cl : Nat → Addr) (g : TG) (tt : TT) (te : TE) (vs : List Nat) (σ : St) (G : Hp) (M : ML) (x : V) (keep : Bool) (y : D) : Prop :=
  ∃ σ2 p q, wipe σ2 vs = wipe σ vs ∧ (∀ H (Kk : St → Hp → Prop), Sep G H M → Kk σ2 H → g x (wipe σ vs) H Kk) ∧ EvT K cl p tt σ2 G M keep M ∧ (keep = true → EvX K cl q te σ2 G M y M)
theorem ev_lc {tl : TE} {g : TG} {vs : List Nat} {f : D → D} {keep : D → Bool} (h : EvX K cl p tl σ G M d1 M1) (hd : d1 = .lst ds ∨ d1 = .tup ds) (hl : ds.length ≤ 10000000)
    (hs : ∀ G1 e x d, Same G G1 → d ∈ ds → Rep K cl G1 x d → LcT K cl g tt te vs σ G1 (e :: M1) x (keep d) (f d)) : EvX K cl false (tLc (iSeq K tl) g tt te vs) σ G M (.lst ((ds.filter keep).map f)) M1 := fun G1 H1 s S Q k => by
  have main : ∀ G2 H2 (us : List V) (Dl : Addr), Same G G2 → Same G1 G2 → Sep G2 H2 M1 → Reps K cl G2 us ds → H2 Dl = none → ∀ (Pv : Nat → Hp → Prop), (Pv = fun i H => ∃ G' acc, Same G2 G' ∧ Sep G' H ((Dl, .lst acc) :: M1) ∧ Reps K cl G' acc (((ds.take i).filter keep).map f)) →
      Pv 0 (upd H2 Dl (.lst [])) ∧ (∀ i x H, us[i]? = some x → Pv i H → g x (wipe σ vs) H fun σ2 H2 => wipe σ2 vs = wipe σ vs ∧ tt σ2 H2 fun b H3 =>
        if b = true then te σ2 H3 fun y H4 => ∃ acc, H4 Dl = some (.lst acc) ∧ acc.length < sizeLine ∧ Pv (i + 1) (upd H4 Dl (.lst (acc ++ [y]))) else Pv (i + 1) H3) ∧ (∀ H, Pv us.length H → Q (.ref Dl) H) := by
    rintro G2 H2 us Dl s2 s12 S2 rs hD Pv rfl
    refine ⟨⟨G2, [], Same.refl _, S2.newM hD, Reps.nil⟩, ?_, ?_⟩
    · rintro i x H hx ⟨G', acc, s', S', ra⟩
      obtain ⟨d, hdi, rd⟩ := rs.get hx
      have hmem : d ∈ ds := List.mem_of_getElem? hdi
      obtain ⟨σ2, p', q', hw, hg, ht, he⟩ := hs G' (Dl, .lst acc) x d (s2.trans s') hmem (rd.mono s')
      refine hg H _ S' ⟨hw, ht G' H (Same.refl _) S' _ fun G3 H3 g3 => ?_⟩
      have e1 : ds.take (i + 1) = ds.take i ++ [d] := by rw [List.take_add_one, hdi]; rfl
      have hal : acc.length ≤ ds.length := by
        rw [ra.length, List.length_map]
        exact Nat.le_trans (List.length_filter_le _ _) (by rw [List.length_take]; omega)
      cases hk : keep d with
      | true =>
        rw [if_pos rfl]
        refine he hk G3 H3 g3.same g3.sep _ fun y G4 H4 g4 ry => ?_
        have sA := g3.same.trans g4.same
        refine ⟨acc, g4.sep.look .hd, Nat.lt_of_le_of_lt (Nat.le_trans hal hl) (by decide), G4, acc ++ [y], s'.trans sA, g4.sep.ch .hd, ?_⟩
        rw [e1, List.filter_append, List.map_append]
        refine Reps.append (ra.mono sA) ?_
        rw [List.filter_cons, if_pos hk]
        exact Reps.one ry
      | false =>
        rw [if_neg (by decide)]
        refine ⟨G3, acc, s'.trans g3.same, g3.sep, ?_⟩
        rw [e1, List.filter_append, List.map_append, List.filter_cons, if_neg (by rw [hk]; decide)]
        show Reps K cl G3 acc (_ ++ [])
        rw [List.append_nil]
        exact ra.mono g3.same
    · rintro H ⟨G', acc, s', S', ra⟩
      rw [rs.length, List.take_length] at ra
      obtain ⟨S3, s3⟩ := S'.freeze
      exact k (.ref Dl) _ H (Go.of ((s12.trans s').trans s3) S3) (Rep.lst (.inl (.inl upd_same)) (ra.mono s3))
  rcases hd with rfl | rfl
  · refine .inl (h G1 H1 s S _ fun x G2 H2 g2 rx => ?_)
    obtain ⟨a, us, e, sq, rs⟩ := rx.of_lst
    refine ⟨a, e, ⟨us, g2.sep.sub.seq sq⟩, fun Dl hD => ?_⟩
    obtain ⟨h0, ht, hd⟩ := main G2 H2 us Dl (s.trans g2.same) g2.same g2.sep rs hD _ rfl
    refine lc_list (xs := us) _ h0 ?_ ht hd
    rintro i H hi ⟨G', acc, s', S', ra⟩
    exact (s'.trans S'.sub).seq sq
  · refine .inr (h G1 H1 s S _ fun x G2 H2 g2 rx => ?_)
    obtain ⟨a, us, e, sq, rs⟩ := rx.of_tup
    refine ⟨a, e, ⟨us, Same.seqT g2.sep.sub sq⟩, fun Dl hD => ?_⟩
    obtain ⟨h0, ht, hd⟩ := main G2 H2 us Dl (s.trans g2.same) g2.same g2.sep rs hD _ rfl
    refine lc_tup (xs := us) _ h0 ?_ ht hd
    rintro i H hi ⟨G', acc, s', S', ra⟩
    exact Same.seqT (s'.trans S'.sub) sq
theorem lcT1 {vs : List Nat} {x : V} {keep : Bool} {y : D} {j : Nat} (hw : wipe ((wipe σ vs).set j (some x)) vs = wipe σ vs) (ht : EvT K cl p tt ((wipe σ vs).set j (some x)) G M keep M) (he : keep = true → EvX K cl q te ((wipe σ vs).set j (some x)) G M y M) : LcT K cl (gName j) tt te vs σ G M x keep y :=
  ⟨_, p, q, hw, fun H Kk _ h => h, ht, he⟩
theorem lcTt {vs : List Nat} {x : V} {keep : Bool} {y : D} {is : List Nat} {n : Nat} (rx : Rep K cl G x (.tup ds)) (hn : ds.length = n) (hi : is.length = n) (k : ∀ xs, Reps K cl G xs ds → wipe (setAll (wipe σ vs) is xs) vs = wipe σ vs ∧ ∃ p q, EvT K cl p tt (setAll (wipe σ vs) is xs) G M keep M ∧ (keep = true → EvX K cl q te (setAll (wipe σ vs) is xs) G M y M)) : LcT K cl (gTup K n (gNames is)) tt te vs σ G M x keep y := by
  obtain ⟨a, us, e, sq, rs⟩ := rx.of_tup
  obtain ⟨hw, p, q, ht, he⟩ := k us rs
  exact ⟨_, p, q, hw, fun H Kk S h => ⟨a, us, e, Same.seqT S.sub sq, by rw [rs.length, hn], g_names (by rw [rs.length, hn, hi]) h⟩, ht, he⟩
theorem lc_pair {vs : List Nat} {keep : Bool} {y : D} {σ2 : St} (hw : wipe σ2 vs = wipe σ vs) (ht : EvT K cl p tt σ2 G M keep M) (he : keep = true → EvX K cl q te σ2 G M y M) : wipe σ2 vs = wipe σ vs ∧ ∃ p q, EvT K cl p tt σ2 G M keep M ∧ (keep = true → EvX K cl q te σ2 G M y M) := ⟨hw, p, q, ht, he⟩
theorem et_yes : EvT K cl true tYes σ G M true M := fun G1 H1 s S Q k => k G1 H1 (Go.refl S)

/-! ### == of data -/
mutual
def D.isDat : D → Bool
  | .lst ds => D.areDat ds
  | .tup ds => D.areDat ds
  | .ins _ _ _ => false
  | .loc _ => false
  | .str x => x.cps.all (· < 0x110000)
  | _ => true
def D.areDat : List D → Bool
  | [] => true
  | d :: ds => d.isDat && D.areDat ds
end
mutual
def D.dep : D → Nat
  | .lst ds => D.deps ds + 1
  | .tup ds => D.deps ds + 1
  | _ => 0
def D.deps : List D → Nat
  | [] => 0
  | d :: ds => max d.dep (D.deps ds)
end
mutual
def D.pyd : D → PyData
  | .non => .none
  | .bl b => .bool b
  | .int i => .int i
  | .str s => .str s
  | .lst ds => .list (D.pyds ds)
  | .tup ds => .tuple (D.pyds ds)
  | _ => .none
def D.pyds : List D → List PyData
  | [] => []
  | d :: ds => d.pyd :: D.pyds ds
end
mutual
theorem Rep.dp : ∀ {v : V} {d : D}, Rep K cl G v d → d.isDat = true → Dp K G v d.pyd
  | _, .non, h, _ => by rw [h.of_non]; simp only [D.pyd]; exact .non
  | _, .bl b, h, _ => by rw [h.of_bl]; simp only [D.pyd]; exact .bl b
  | _, .int i, h, _ => by rw [h.of_int]; simp only [D.pyd]; exact .int i
  | _, .str x, h, _ => by rw [h.of_str]; simp only [D.pyd]; exact .str x
  | _, .lst ds, h, e => by
    obtain ⟨a, vs, rfl, sq, rs⟩ := h.of_lst
    simp only [D.pyd]
    exact .lst sq (Reps.dps rs (by simpa only [D.isDat] using e))
  | _, .tup ds, h, e => by
    obtain ⟨a, vs, rfl, sq, rs⟩ := h.of_tup
    simp only [D.pyd]
    exact .tup sq (Reps.dps rs (by simpa only [D.isDat] using e))
  | _, .ins _ _ _, _, e => by simp [D.isDat] at e
  | _, .loc _, _, e => by simp [D.isDat] at e
theorem Reps.dps : ∀ {vs : List V} {ds : List D}, Reps K cl G vs ds → D.areDat ds = true → DpAll K G vs (D.pyds ds)
  | _, [], h, _ => by simp only [Reps] at h; rw [h]; simp only [D.pyds]; exact .nil
  | _, d :: ds, h, e => by
    obtain ⟨v, ws, rfl, rv, rs⟩ := h.uncons
    simp only [D.areDat, Bool.and_eq_true] at e
    simp only [D.pyds]
    exact .cons (rv.dp e.1) (rs.dps e.2)
end
mutual
theorem lay_pyd : ∀ {d : D}, d.isDat = true → PyData.canLay0 d.pyd = true
  | .non, _ => by simp [D.pyd, PyData.canLay0]
  | .bl _, _ => by simp [D.pyd, PyData.canLay0]
  | .int _, _ => by simp [D.pyd, PyData.canLay0]
  | .str x, h => by simp only [D.isDat] at h; simp only [D.pyd, PyData.canLay0]; exact h
  | .lst ds, h => by simp only [D.isDat] at h; simp only [D.pyd, PyData.canLay0]; exact lay_pyds h
  | .tup ds, h => by simp only [D.isDat] at h; simp only [D.pyd, PyData.canLay0]; exact lay_pyds h
  | .ins _ _ _, h => by simp [D.isDat] at h
  | .loc _, h => by simp [D.isDat] at h
theorem lay_pyds : ∀ {ds : List D}, D.areDat ds = true → PyData.canLayAll0 (D.pyds ds) = true
  | [], _ => by simp [D.pyds, PyData.canLayAll0]
  | d :: ds, h => by
    simp only [D.areDat, Bool.and_eq_true] at h
    simp only [D.pyds, PyData.canLayAll0, Bool.and_eq_true]
    exact ⟨lay_pyd h.1, lay_pyds h.2⟩
end
mutual
theorem dep_pyd : ∀ {d : D}, PyData.depth d.pyd = d.dep
  | .non => by simp [D.pyd, PyData.depth, D.dep]
  | .bl _ => by simp [D.pyd, PyData.depth, D.dep]
  | .int _ => by simp [D.pyd, PyData.depth, D.dep]
  | .str _ => by simp [D.pyd, PyData.depth, D.dep]
  | .lst ds => by simp only [D.pyd, PyData.depth, D.dep]; rw [dep_pyds]
  | .tup ds => by simp only [D.pyd, PyData.depth, D.dep]; rw [dep_pyds]
  | .ins _ _ _ => by simp [D.pyd, PyData.depth, D.dep]
  | .loc _ => by simp [D.pyd, PyData.depth, D.dep]
theorem dep_pyds : ∀ {ds : List D}, PyData.depthAll (D.pyds ds) = D.deps ds
  | [] => by simp [D.pyds, PyData.depthAll, D.deps]
  | d :: ds => by simp only [D.pyds, PyData.depthAll, D.deps]; rw [dep_pyd, dep_pyds]
end
theorem shaped_of (h : d.isDat = true) (hd : d.dep ≤ 64) : SeqAt.shaped d.pyd = true := by
  unfold SeqAt.shaped
  rw [lay_pyd h, dep_pyd, decide_eq_true hd]
  rfl
/-! == tells data as trees -/
mutual
def D.eqb : D → D → Bool
  | .non, .non => true
  | .bl a, .bl b => a == b
  | .bl a, .int j => (if a then 1 else 0) == j
  | .int i, .bl b => i == (if b then 1 else 0)
  | .int i, .int j => i == j
  | .str x, .str y => x == y
  | .lst xs, .lst ys => D.eqbs xs ys
  | .tup xs, .tup ys => D.eqbs xs ys
  | _, _ => false
def D.eqbs : List D → List D → Bool
  | [], [] => true
  | x :: xs, y :: ys => D.eqb x y && D.eqbs xs ys
  | _, _ => false
end
mutual
theorem eqv_eqb : ∀ (x y : D), x.isDat = true → y.isDat = true → PyData.eqv x.pyd y.pyd = D.eqb x y
  | .lst xs, y, hx, hy => by
    cases y with
    | lst ys => simp only [D.pyd, PyData.eqv, D.eqb]; exact eqvs_eqbs xs ys (by simpa only [D.isDat] using hx) (by simpa only [D.isDat] using hy)
    | ins _ _ _ => simp [D.isDat] at hy
    | loc _ => simp [D.isDat] at hy
    | _ => simp [D.pyd, PyData.eqv, D.eqb]
  | .tup xs, y, hx, hy => by
    cases y with
    | tup ys => simp only [D.pyd, PyData.eqv, D.eqb]; exact eqvs_eqbs xs ys (by simpa only [D.isDat] using hx) (by simpa only [D.isDat] using hy)
    | ins _ _ _ => simp [D.isDat] at hy
    | loc _ => simp [D.isDat] at hy
    | _ => simp [D.pyd, PyData.eqv, D.eqb]
  | .non, y, _, hy => by
    cases y with
    | ins _ _ _ => simp [D.isDat] at hy
    | loc _ => simp [D.isDat] at hy
    | _ => simp [D.pyd, PyData.eqv, D.eqb]
  | .bl b, y, _, hy => by
    cases y with
    | ins _ _ _ => simp [D.isDat] at hy
    | loc _ => simp [D.isDat] at hy
    | _ => simp [D.pyd, PyData.eqv, D.eqb]
  | .int i, y, _, hy => by
    cases y with
    | ins _ _ _ => simp [D.isDat] at hy
    | loc _ => simp [D.isDat] at hy
    | _ => simp [D.pyd, PyData.eqv, D.eqb]
  | .str s, y, _, hy => by
    cases y with
    | ins _ _ _ => simp [D.isDat] at hy
    | loc _ => simp [D.isDat] at hy
    | _ => simp [D.pyd, PyData.eqv, D.eqb]
  | .ins _ _ _, _, h, _ => by simp [D.isDat] at h
  | .loc _, _, h, _ => by simp [D.isDat] at h
theorem eqvs_eqbs : ∀ (xs ys : List D), D.areDat xs = true → D.areDat ys = true → PyData.eqvAll (D.pyds xs) (D.pyds ys) = D.eqbs xs ys
  | [], [], _, _ => by simp [D.pyds, PyData.eqvAll, D.eqbs]
  | [], _ :: _, _, _ => by simp [D.pyds, PyData.eqvAll, D.eqbs]
  | _ :: _, [], _, _ => by simp [D.pyds, PyData.eqvAll, D.eqbs]
  | x :: xs, y :: ys, hx, hy => by
    simp only [D.areDat, Bool.and_eq_true] at hx hy
    simp only [D.pyds, PyData.eqvAll, D.eqbs]
    rw [eqv_eqb x y hx.1 hy.1, eqvs_eqbs xs ys hx.2 hy.2]
end
mutual
theorem D.eqb_refl : ∀ {x : D}, x.isDat = true → D.eqb x x = true
  | .non, _ => by simp [D.eqb]
  | .bl _, _ => by simp [D.eqb]
  | .int _, _ => by simp [D.eqb]
  | .str _, _ => by simp [D.eqb]
  | .lst ds, h => by simp only [D.eqb]; exact D.eqbs_refl (by simpa only [D.isDat] using h)
  | .tup ds, h => by simp only [D.eqb]; exact D.eqbs_refl (by simpa only [D.isDat] using h)
  | .ins _ _ _, h => by simp [D.isDat] at h
  | .loc _, h => by simp [D.isDat] at h
theorem D.eqbs_refl : ∀ {xs : List D}, D.areDat xs = true → D.eqbs xs xs = true
  | [], _ => by simp [D.eqbs]
  | x :: xs, h => by
    simp only [D.areDat, Bool.and_eq_true] at h
    simp only [D.eqbs, Bool.and_eq_true]
    exact ⟨D.eqb_refl h.1, D.eqbs_refl h.2⟩
end
theorem o_eqD {x y : D} (hx : x.isDat = true) (hy : y.isDat = true) (dx : x.dep ≤ 64) (dy : y.dep ≤ 64) : Op2 K cl true (rEqA K) M x y (.bl (D.eqb x y)) := o_r (op2_val fun G1 H1 S u v ru rv => ⟨_, Rep.bl, fun Q q => ⟨x.pyd, y.pyd, (ru.mono S.sub).dp hx, (rv.mono S.sub).dp hy, shaped_of hx dx, shaped_of hy dy, by rw [eqv_eqb x y hx hy]; exact q⟩⟩)
theorem o_neD {x y : D} (hx : x.isDat = true) (hy : y.isDat = true) (dx : x.dep ≤ 64) (dy : y.dep ≤ 64) : Op2 K cl true (rNeA K) M x y (.bl (!D.eqb x y)) := o_r (op2_val fun G1 H1 S u v ru rv => ⟨_, Rep.bl, fun Q q => ⟨x.pyd, y.pyd, (ru.mono S.sub).dp hx, (rv.mono S.sub).dp hy, shaped_of hx dx, shaped_of hy dy, by rw [eqv_eqb x y hx hy]; exact q⟩⟩)
theorem D.areDat_mem : ∀ {ds : List D}, (∀ d ∈ ds, d.isDat = true) → D.areDat ds = true
  | [], _ => by simp [D.areDat]
  | d :: ds, h => by
    simp only [D.areDat, Bool.and_eq_true]
    exact ⟨h d (List.mem_cons_self ..), D.areDat_mem fun x hx => h x (List.mem_cons_of_mem _ hx)⟩
theorem D.deps_mem {n : Nat} : ∀ {ds : List D}, (∀ d ∈ ds, d.dep ≤ n) → D.deps ds ≤ n
  | [], _ => by simp [D.deps]
  | d :: ds, h => by
    simp only [D.deps]
    exact Nat.max_le.mpr ⟨h d (List.mem_cons_self ..), D.deps_mem fun x hx => h x (List.mem_cons_of_mem _ hx)⟩
end
end Cp
namespace L83
open PySem L2 Cp
/-! the words of the walk (local, by strings) -/
local macro_rules | `(tactic| walk_at "at") => `(tactic| first | exact At.hd | ((with_reducible apply At.tl); walk_at "at"))
local macro_rules | `(tactic| walk_at "ch") => `(tactic| first | exact Ch.hd | ((with_reducible apply Ch.tl); walk_at "ch"))
local macro_rules | `(tactic| walk_at "same") => `(tactic| first | assumption | exact Same.refl _ | ((with_reducible apply same_tr); assumption; walk_at "same"))
local macro_rules | `(tactic| walk_at "repc") => `(tactic| first | assumption | ((with_reducible apply Rep.mono); assumption; walk_at "repc"))
local macro_rules | `(tactic| walk_at "repsc") => `(tactic| first | assumption | ((with_reducible apply Reps.mono); assumption; walk_at "repsc"))
local macro_rules | `(tactic| walk_at "rep") => `(tactic| first | exact Rep.int | exact Rep.str | exact Rep.bl | exact Rep.non | walk_at "repc" | exact Rep.loc)
local macro_rules | `(tactic| walk_at "num") => `(tactic| first | omega | assumption | decide)
local macro_rules | `(tactic| walk_at "mul") => `(tactic| first | exact .inr ⟨by omega, by omega⟩ | exact .inl ⟨by omega, by omega⟩)
local macro_rules | `(tactic| walk_at "slen") => `(tactic| first | omega | assumption | decide)
local macro_rules | `(tactic| walk_at "op2") => `(tactic| first
  | with_reducible exact o_add_int | with_reducible exact o_sub | with_reducible exact o_lt | with_reducible exact o_le | with_reducible exact o_gt | with_reducible exact o_ge | with_reducible exact o_isN | with_reducible exact o_notN
  | ((with_reducible apply o_mul); walk_at "mul") | ((with_reducible apply o_div); exact ⟨by walk_at "num", by walk_at "num"⟩) | ((with_reducible apply o_mod); walk_at "num")
  | ((with_reducible apply o_eq); exact rfl) | ((with_reducible apply o_ne); exact rfl)
  | ((with_reducible apply o_add_str); walk_at "slen") | ((with_reducible apply o_ixT); walk_at "ix") | ((with_reducible apply o_ixL); walk_at "ix"))
local macro_rules | `(tactic| walk_at "opN") => `(tactic| first
  | with_reducible exact on_int | with_reducible exact on_intB | ((with_reducible apply on_str); first | (exact num_log (by omega) (by omega)) | walk_at "num") | with_reducible exact on_min | with_reducible exact on_max | ((with_reducible apply on_lenS); walk_at "num") | with_reducible exact on_lenL | with_reducible exact on_lenT
  | ((with_reducible apply on_lenM); walk_at "at") | with_reducible exact on_tupL | with_reducible exact on_tupT)
local macro_rules | `(tactic| walk_at "cf") => `(tactic| assumption)
local macro_rules | `(tactic| walk_at "evcall") => `(tactic| fail)
local macro_rules | `(tactic| walk_at "ev") => `(tactic| first
  | with_reducible exact ev_int | with_reducible exact ev_str | with_reducible exact ev_bl | with_reducible exact ev_non
  | ((with_reducible apply ev_var); exact rfl; walk_at "rep")
  | ((with_reducible apply ev_op); walk_at "ev"; walk_at "ev"; walk_at "op2")
  | ((with_reducible apply ev_fld); walk_at "ev"; walk_at "cf"; walk_at "cf"; exact rfl)
  | ((with_reducible apply ev_fldM); walk_at "ev"; walk_at "at"; walk_at "cf"; walk_at "cf"; exact rfl; walk_at "rep")
  | ((with_reducible apply ev_ixM); walk_at "ev"; walk_at "ev"; walk_at "at"; exact rfl; walk_at "rep")
  | ((with_reducible apply ev_ixMD); walk_at "ev"; walk_at "ev"; walk_at "at"; walk_at "repsc"; first | assumption | exact rfl)
  | walk_at "evcall"
  | ((with_reducible apply ev_tupM); walk_at "ev"; walk_at "at"; walk_at "repsc")
  | ((with_reducible apply ev_cb); walk_at "ea"; walk_at "opN")
  | ((with_reducible apply ev_un); walk_at "ev"; exact o1_neg)
  | ((with_reducible apply ev_tup); walk_at "ea"; exact Nat.le_of_ble_eq_true rfl)
  | ((with_reducible apply ev_andV); walk_at "ev"; intro _; walk_at "ev")
  | ((with_reducible apply ev_orV); walk_at "ev"; intro _; walk_at "ev")
  | ((with_reducible apply ev_notV); walk_at "ev")
  | ((with_reducible apply ev_starts); walk_at "ev"; walk_at "ev")
  | ((with_reducible apply ev_slS); walk_at "ev"; walk_at "eo"; walk_at "eo"; walk_at "num")
  | ((with_reducible apply ev_slL); walk_at "ev"; walk_at "eo"; walk_at "eo"))
local macro_rules | `(tactic| walk_at "eo") => `(tactic| first | with_reducible exact eo_none | ((with_reducible apply eo_some); walk_at "ev"))
local macro_rules | `(tactic| walk_at "ea") => `(tactic| first | with_reducible exact ea_nil | ((with_reducible apply ea_cons); walk_at "ev"; walk_at "ea"))
local macro_rules | `(tactic| walk_at "et") => `(tactic| first
  | with_reducible exact et_yes
  | ((with_reducible apply et_tr); walk_at "ev"; exact rfl) | ((with_reducible apply et_trM); walk_at "ev"; walk_at "at")
  | ((with_reducible apply et_test); walk_at "ev") | ((with_reducible apply et_B); walk_at "ev") | ((with_reducible apply et_not); walk_at "et")
  | ((with_reducible apply et_and); walk_at "et"; intro _; walk_at "et")
  | ((with_reducible apply et_or); walk_at "et"; intro _; walk_at "et"))
/-! ### the cells of the script, a state of one number, its digits -/
abbrev sp_law_cell (K : PySem.W.Frag) (cl : Nat → Addr) : Sp := PSp K cl fun ds d => ∃ (ns : List Int) (k : Int), ds = [.lst (ns.map D.int), .int k] ∧ 0 ≤ k ∧ d = .int (ns.getD k.toNat 0)
abbrev sp_law_state (K : PySem.W.Frag) (cl : Nat → Addr) : Sp := GSp fun vs G M T => ∃ c k, vs = [.int c, .int k] ∧ ∀ p s G', Same G G' → T (.ref p) G' ((p, .lst [.int s]) :: M)
abbrev sp_law_digit (K : PySem.W.Frag) (cl : Nat → Addr) : Sp := GSp fun vs G M T => ∃ a s m M0, vs = [.ref a, .int m] ∧ M = (a, .lst [.int s]) :: M0 ∧ 0 < m ∧ m < 1000000 ∧ ∀ G', Same G G' → T (.int (s % m)) G' ((a, .lst [.int (s / m)]) :: M0)
abbrev sp_law_large (K : PySem.W.Frag) (cl : Nat → Addr) : Sp := GSp fun vs G M T => ∃ v ns, vs = [v] ∧ Rep K cl G v (.lst (List.map D.int ns)) ∧ ∀ b G', Same G G' → T (.bl b) G' M
section
variable {K : PySem.W.Frag} {cl : Nat → Addr} {p q : Bool} {M M1 M2 : ML} {G : Hp} {σ : St} {tx : TA} {te : TE}
theorem ev_digit {E : XK} {a : Addr} {s m : Int} (ha : EvA K cl p tx σ G M [.loc a, .int m] M1) (hc : Ch M1 a (.lst [.int s]) (.lst [.int (s / m)]) M2) (h0 : 0 < m) (h1 : m < 1000000) : EvX K cl false (tCall (sp_law_digit K cl) [] E tx) σ G M (.int (s % m)) M2 := fun G1 H1 s1 S Q k =>
  ha G1 H1 s1 S _ fun xs G2 H2 g2 rx => by
    obtain ⟨u, v, rfl, hu, hv⟩ := reps2 rx
    obtain ⟨M0, p1, p2⟩ := hc.perm
    refine ⟨G2, (a, .lst [.int s]) :: M0, g2.sep.perm p1, a, s, m, M0, by rw [hu.of_loc, hv.of_int]; rfl, rfl, h0, h1, fun G' s' _ H' S' => ?_⟩
    exact k _ G' H' (Go.of (g2.same.trans s') (S'.perm p2.symm)) Rep.int
theorem eg_state {E : XK} {c k : Int} (ha : EvA K cl p tx σ G M [.int c, .int k] M1) : EvG (tCall (sp_law_state K cl) [] E tx) σ G M fun v G' M' => ∃ p s, v = .ref p ∧ M' = (p, .lst [.int s]) :: M1 := fun G1 H1 s1 S Q kk =>
  ha G1 H1 s1 S _ fun xs G2 H2 g2 rx => by
    obtain ⟨u, v, rfl, hu, hv⟩ := reps2 rx
    exact ⟨G2, M1, g2.sep, c, k, by rw [hu.of_int, hv.of_int]; rfl, fun p s G' s' _ H' S' => kk (.ref p) G' H' _ (g2.same.trans s') S' ⟨p, s, rfl, rfl⟩⟩
theorem eg_large {E : XK} {ns : List Int} (ha : EvA K cl p tx σ G M [.lst (ns.map D.int)] M1) : EvG (tCall (sp_law_large K cl) [] E tx) σ G M fun v G' M' => ∃ b, v = .bl b ∧ M' = M1 := fun G1 H1 s1 S Q kk =>
  ha G1 H1 s1 S _ fun xs G2 H2 g2 rx => by
    obtain ⟨u, rfl, hu⟩ := reps1 rx
    exact ⟨G2, M1, g2.sep, u, ns, rfl, hu, fun b G' s' _ H' S' => kk (.bl b) G' H' _ (g2.same.trans s') S' ⟨b, rfl, rfl⟩⟩
end
local macro_rules | `(tactic| walk_at "evcall") => `(tactic| ((with_reducible apply ev_digit); walk_at "ea"; walk_at "ch"; walk_at "num"; walk_at "num"))
local macro_rules | `(tactic| walk_at "R cell") => `(tactic| exact ⟨_, _, rfl, by walk_at "num", rfl⟩)
local macro_rules | `(tactic| walk_at "evcall") => `(tactic| ((with_reducible apply ev_call (R := fun ds d => ∃ (ns : List Int) (k : Int), ds = [.lst (ns.map D.int), .int k] ∧ 0 ≤ k ∧ d = .int (ns.getD k.toNat 0))); walk_at "ea"; walk_at "R cell"))
structure Band where
  label : Str
  pre : Str
  lo : Int
  hi : Int
  price : Int
structure Tariff where
  setup : Int
  bands : List Band
@[reducible] def Band.d (b : Band) : D := .ins 0 ["label", "prefix", "from_hour", "to_hour", "price"] [.str b.label, .str b.pre, .int b.lo, .int b.hi, .int b.price]
@[reducible] def Tariff.d (t : Tariff) : D := .ins 1 ["setup_price", "bands"] [.int t.setup, .tup (t.bands.map Band.d)]
def optD {α : Type} (f : α → D) : Option α → D
  | none => .non
  | some x => f x
def Band.holds (b : Band) (c : Str) (t : Int) : Bool := Txt.startswith c b.pre && (decide (b.lo ≤ t % 86400 / 3600) && decide (t % 86400 / 3600 < b.hi))
def beats (b : Band) : Option Band → Bool
  | none => true
  | some x => decide ((x.pre.length : Int) < b.pre.length)
def better (c : Str) (t : Int) (best : Option Band) (b : Band) : Option Band := if (b.holds c t && beats b best) = true then some b else best
def Tariff.at (tf : Tariff) (c : Str) (t : Int) : Option Band := tf.bands.foldl (better c t) none
/-- signs that a text may hold -/
def okS (x : Str) : Bool := x.cps.all (· < 0x110000)
def Band.Ok (b : Band) : Prop := b.pre.length ≤ 1000 ∧ okS b.label = true
def Tariff.Ok (tf : Tariff) : Prop := ∀ b ∈ tf.bands, b.Ok
def Tariff.Uniq (tf : Tariff) : Prop := (tf.bands.map Band.label).Nodup
theorem better_mem {c : Str} {t : Int} : ∀ {bs : List Band} {o : Option Band} {x : Band}, bs.foldl (better c t) o = some x → x ∈ bs ∨ o = some x
  | [], o, x, e => .inr e
  | b :: bs, o, x, e => by
    rcases better_mem (bs := bs) e with h | h
    · exact .inl (List.mem_cons_of_mem _ h)
    · unfold better at h
      by_cases q : (b.holds c t && beats b o) = true
      · rw [if_pos q] at h
        cases h
        exact .inl (List.mem_cons_self ..)
      · rw [if_neg q] at h
        exact .inr h
theorem Tariff.at_mem {tf : Tariff} {c : Str} {t : Int} {b : Band} (h : tf.at c t = some b) : b ∈ tf.bands := by
  rcases better_mem h with q | q
  · exact q
  · cases q
theorem optD_isNon {o : Option Band} : (optD Band.d o).isNon = o.isNone := by cases o <;> rfl
abbrev sp_Band_init (K : PySem.W.Frag) (cl : Nat → Addr) : Sp := ISp K cl 0 ["label", "prefix", "from_hour", "to_hour", "price"] fun ds es => ds.length = 5 ∧ es = ds
abbrev sp_Band_holds (K : PySem.W.Frag) (cl : Nat → Addr) : Sp := PSp K cl fun ds d => ∃ b c t, ds = [Band.d b, .str c, .int t] ∧ d = .bl (b.holds c t)
abbrev sp_Tariff_init (K : PySem.W.Frag) (cl : Nat → Addr) : Sp := ISp K cl 1 ["setup_price", "bands"] fun ds es => ∃ x bs, ds = [x, .tup bs] ∧ es = [x, .tup bs]
abbrev sp_Tariff_band_at (K : PySem.W.Frag) (cl : Nat → Addr) : Sp := PSp K cl fun ds d => ∃ tf c t, ds = [Tariff.d tf, .str c, .int t] ∧ tf.Ok ∧ d = optD Band.d (tf.at c t)
abbrev sp_law_tariff (K : PySem.W.Frag) (cl : Nat → Addr) : Sp := GSp fun vs G M T => ∃ a s M0, vs = [.ref a] ∧ M = (a, .lst [.int s]) :: M0 ∧ ∀ v tf s' G', Same G G' → tf.Ok → tf.Uniq → Rep K cl G' v (Tariff.d tf) → T v G' ((a, .lst [.int s']) :: M0)
abbrev sp_law_called (K : PySem.W.Frag) (cl : Nat → Addr) : Sp := GSp fun vs G M T => ∃ a s M0, vs = [.ref a] ∧ M = (a, .lst [.int s]) :: M0 ∧ ∀ x s' G', Same G G' → x.length ≤ 1000 → T (.str x) G' ((a, .lst [.int s']) :: M0)
abbrev sp_law_band (K : PySem.W.Frag) (cl : Nat → Addr) : Sp := PSp K cl fun ds d => ∃ tf c t, ds = [Tariff.d tf, .str c, .int t] ∧ tf.Ok ∧ c.length ≤ 1000 ∧ d = optD Band.d (tf.at c t)
abbrev sp_law_many (K : PySem.W.Frag) (cl : Nat → Addr) : Sp := GSp fun vs G M T => ∃ c u, vs = [.str c, .int u] ∧ c.length ≤ 1000 ∧ -1000000000000 < u ∧ u < 1000000000000 ∧ ∀ v tf G', Same G G' → tf.Ok → tf.Uniq → Rep K cl G' v (Tariff.d tf) → T v G' M
/-! ### stretches -/
abbrev St3 := Band × Int × Int
@[reducible] def stD (x : St3) : D := .tup [Band.d x.1, .int x.2.1, .int x.2.2]
abbrev L3 := Str × Int × Int
@[reducible] def lD (x : L3) : D := .tup [.str x.1, .int x.2.1, .int x.2.2]
def lbl (x : St3) : L3 := (x.1.label, x.2)
/-- the label of a second -/
def lab (tf : Tariff) (c : Str) (start k : Int) : Option Str := (tf.at c (start + k)).map Band.label
def push {α : Type} [DecidableEq β] (lb : α → β) (f : List (α × Int × Int)) (b : α) (lo hi : Int) : List (α × Int × Int) :=
  match f.getLast? with
  | some x => if lb x.1 = lb b then f.set (f.length - 1) (b, x.2.1, hi) else f ++ [(b, lo, hi)]
  | none => f ++ [(b, lo, hi)]
def nextH (start till place : Int) : Int := if place + 3600 - (start + place) % 3600 < till then place + 3600 - (start + place) % 3600 else till
def strGo (tf : Tariff) (c : Str) (start till : Int) : Nat → Int → List St3 → Option (List St3)
  | 0, _, f => some f
  | n + 1, place, f => if place < till then
      match tf.at c (start + place) with
      | none => none
      | some b => strGo tf c start till n (nextH start till place) (push Band.label f b place (nextH start till place))
    else some f
def stretchesF (tf : Tariff) (c : Str) (start begin till : Int) : Option (List St3) := strGo tf c start till (till - begin).toNat begin []
/-- second by second -/
def secF (tf : Tariff) (c : Str) (start begin : Int) : Nat → Option (List L3)
  | 0 => some []
  | i + 1 => match secF tf c start begin i with
    | none => none
    | some f => match lab tf c start (begin + i) with
      | none => none
      | some l => some (push id f l (begin + i) (begin + i + 1))
theorem Tariff.at_day {tf : Tariff} {c : Str} {s t : Int} (h : s / 3600 = t / 3600) : tf.at c s = tf.at c t := by
  have e : s % 86400 / 3600 = t % 86400 / 3600 := by omega
  have hb : ∀ b : Band, b.holds c s = b.holds c t := fun b => by unfold Band.holds; rw [e]
  have hf : better c s = better c t := by
    funext o b
    unfold better
    rw [hb]
  unfold Tariff.at
  rw [hf]
theorem nextH_gt {start till place : Int} (h : place < till) : place < nextH start till place := by
  unfold nextH
  split <;> omega
theorem nextH_le {start till place : Int} : nextH start till place ≤ till := by
  unfold nextH
  split <;> omega
theorem nextH_hour {start till place k : Int} (h1 : place ≤ k) (h2 : k < nextH start till place) : (start + k) / 3600 = (start + place) / 3600 := by
  unfold nextH at h2
  split at h2 <;> omega
theorem nextH_end {start till place : Int} (h : nextH start till place < till) : (start + nextH start till place) % 3600 = 0 := by
  unfold nextH at h ⊢
  split
  · omega
  · next q => rw [if_neg q] at h; omega
theorem push_map {f : List St3} {b : Band} {lo hi : Int} : (push Band.label f b lo hi).map lbl = push id (f.map lbl) b.label lo hi := by
  unfold push
  rw [List.getLast?_map]
  cases f.getLast? with
  | none => simp [lbl]
  | some x =>
    show _ = if x.1.label = b.label then _ else _
    by_cases h : x.1.label = b.label
    · simp [h, lbl]
    · simp [h, lbl]
theorem push_nil {α β : Type} [DecidableEq β] {lb : α → β} {b : α} {lo hi : Int} : push lb [] b lo hi = [(b, lo, hi)] := rfl
theorem push_one {α β : Type} [DecidableEq β] {lb : α → β} {b y : α} {u v lo hi : Int} : push lb [(y, u, v)] b lo hi = if lb y = lb b then [(b, u, hi)] else [(y, u, v), (b, lo, hi)] := rfl
theorem push_cons {α β : Type} [DecidableEq β] {lb : α → β} {b : α} {x y : α × Int × Int} {f : List (α × Int × Int)} {lo hi : Int} : push lb (x :: y :: f) b lo hi = x :: push lb (y :: f) b lo hi := by
  unfold push
  rw [List.getLast?_cons_cons]
  cases h : (y :: f).getLast? with
  | none => rfl
  | some z =>
    show (if _ then _ else _) = _ :: (if _ then _ else _)
    by_cases e : lb z.1 = lb b
    · rw [if_pos e, if_pos e]
      rfl
    · rw [if_neg e, if_neg e]
      rfl
theorem push_twice {l : Str} {a b c : Int} : ∀ {f : List L3}, push id (push id f l a b) l b c = push id f l a c
  | [] => by rw [push_nil, push_nil, push_one, if_pos rfl]
  | [(y, u, v)] => by
    rw [push_one, push_one]
    by_cases e : id y = id l
    · rw [if_pos e, if_pos e, push_one, if_pos rfl]
    · rw [if_neg e, if_neg e, push_cons, push_one, if_pos rfl]
  | x :: y :: f => by
    have ih := push_twice (l := l) (a := a) (b := b) (c := c) (f := y :: f)
    rw [push_cons, push_cons]
    cases h : push id (y :: f) l a b with
    | nil =>
      exfalso
      have : (push id (y :: f) l a b).length ≠ 0 := by
        unfold push
        split
        · split <;> simp
        · simp
      rw [h] at this
      exact this rfl
    | cons z g =>
      rw [h] at ih
      rw [push_cons, ih]
/-- a block of seconds with one label -/
theorem secF_block {tf : Tariff} {c : Str} {start begin place : Int} {f : List L3} {l : Str} (h0 : begin ≤ place) (hf : secF tf c start begin (place - begin).toNat = some f) :
    ∀ (j : Nat), (∀ k : Int, place ≤ k → k < place + (j + 1) → lab tf c start k = some l) → secF tf c start begin (place + (j + 1) - begin).toNat = some (push id f l place (place + (j + 1)))
  | 0, h => by
    have e : (place + ((0 : Nat) + 1) - begin).toNat = (place - begin).toNat + 1 := by omega
    rw [e, secF, hf]
    have e2 : begin + ((place - begin).toNat : Int) = place := by omega
    rw [e2]
    simp only [h place (Int.le_refl _) (by omega)]
    rfl
  | j + 1, h => by
    have ih := secF_block h0 hf j fun k h1 h2 => h k h1 (by omega)
    have e : (place + (((j + 1 : Nat) : Int) + 1) - begin).toNat = (place + (j + 1) - begin).toNat + 1 := by omega
    rw [e, secF, ih]
    have e2 : begin + ((place + ((j : Int) + 1) - begin).toNat : Int) = place + (j + 1) := by omega
    rw [e2]
    simp only [h (place + (j + 1)) (by omega) (by omega)]
    rw [push_twice]
    have e3 : place + ((j : Int) + 1) + 1 = place + (((j + 1 : Nat) : Int) + 1) := by omega
    rw [e3]
theorem secF_none {tf : Tariff} {c : Str} {start begin : Int} {n : Nat} (h : secF tf c start begin n = none) : ∀ m, n ≤ m → secF tf c start begin m = none
  | 0, hm => by
    have e : n = 0 := Nat.le_zero.mp hm
    rw [e] at h
    exact h
  | m + 1, hm => by
    by_cases e : n = m + 1
    · rw [← e]
      exact h
    · rw [secF, secF_none h m (by omega)]
theorem lab_block {tf : Tariff} {c : Str} {start till place k : Int} (h1 : place ≤ k) (h2 : k < nextH start till place) : lab tf c start k = lab tf c start place := by
  unfold lab
  rw [Tariff.at_day (nextH_hour h1 h2)]
/-- hour by hour, or second by second -/
theorem strGo_sec {tf : Tariff} {c : Str} {start begin till : Int} : ∀ (n : Nat) (place : Int) (f : List St3), begin ≤ place → place ≤ till → till - place ≤ n → secF tf c start begin (place - begin).toNat = some (f.map lbl) →
    (strGo tf c start till n place f).map (List.map lbl) = secF tf c start begin (till - begin).toNat
  | 0, place, f, h0, h1, h2, hf => by
    have e : place = till := by omega
    rw [strGo, ← e, hf]
    rfl
  | n + 1, place, f, h0, h1, h2, hf => by
    rw [strGo]
    by_cases hp : place < till
    · rw [if_pos hp]
      have g1 := nextH_gt (start := start) hp
      have g2 := nextH_le (start := start) (till := till) (place := place)
      cases hb : tf.at c (start + place) with
      | none =>
        have hn : secF tf c start begin ((place - begin).toNat + 1) = none := by
          rw [secF, hf]
          have e2 : begin + ((place - begin).toNat : Int) = place := by omega
          rw [e2]
          have : lab tf c start place = none := by unfold lab; rw [hb]; rfl
          simp only [this]
        exact (secF_none hn _ (by omega)).symm
      | some b =>
        show (strGo tf c start till n (nextH start till place) (push Band.label f b place (nextH start till place))).map (List.map lbl) = _
        refine strGo_sec n _ _ (by omega) g2 (by omega) ?_
        rw [push_map]
        obtain ⟨j, hj⟩ : ∃ j : Nat, nextH start till place = place + (j + 1) := ⟨(nextH start till place - place - 1).toNat, by omega⟩
        have hl : lab tf c start place = some b.label := by unfold lab; rw [hb]; rfl
        have := secF_block h0 hf j fun k k1 k2 => (lab_block (till := till) k1 (by omega)).trans hl
        rw [hj]
        exact this
    · rw [if_neg hp]
      have e : place = till := by omega
      rw [← e, hf]
      rfl
/-- the stretches follow one another -/
def Chain (L : Int → Option Str) : Int → List L3 → Int → Prop
  | a, [], z => a = z
  | a, x :: r, z => x.2.1 = a ∧ x.2.1 < x.2.2 ∧ (∀ k, x.2.1 ≤ k → k < x.2.2 → L k = some x.1) ∧ (∀ y, r.head? = some y → x.1 ≠ y.1) ∧ Chain L x.2.2 r z
theorem push_head {l : Str} {a b : Int} : ∀ {f : List L3} {y : L3}, (push id (y :: f) l a b).head?.map (·.1) = some y.1
  | [], (y, u, v) => by
    rw [push_one]
    split
    · next h =>
      have : y = l := h
      rw [this]
      rfl
    · rfl
  | x :: f, y => by rw [push_cons]; rfl
theorem Chain.push {L : Int → Option Str} {l : Str} {z z' : Int} (hz : z < z') (hl : ∀ k, z ≤ k → k < z' → L k = some l) : ∀ {f : List L3} {a : Int}, Chain L a f z → Chain L a (push id f l z z') z'
  | [], a, h => by
    have e : a = z := h
    rw [push_nil]
    exact ⟨e.symm, hz, hl, (fun _ h => by cases h), rfl⟩
  | [(y, u, v)], a, ⟨h1, h2, h3, h4, h5⟩ => by
    have e : v = z := h5
    subst e
    rw [push_one]
    by_cases q : y = l
    · subst q
      rw [if_pos rfl]
      refine ⟨h1, Int.lt_trans h2 hz, fun k k1 k2 => ?_, (fun _ h => by cases h), rfl⟩
      by_cases hk : k < v
      · exact h3 k k1 hk
      · exact hl k (by omega) k2
    · rw [if_neg (show ¬ id y = id l from q)]
      exact ⟨h1, h2, h3, (fun w hw => by cases hw; exact q), rfl, hz, hl, (fun _ h => by cases h), rfl⟩
  | x :: y :: f, a, ⟨h1, h2, h3, h4, h5⟩ => by
    rw [push_cons]
    refine ⟨h1, h2, h3, fun w hw => ?_, Chain.push hz hl h5⟩
    have e := push_head (l := l) (a := z) (b := z') (f := f) (y := y)
    rw [hw] at e
    have e2 : w.1 = y.1 := Option.some.inj e
    rw [e2]
    exact h4 y rfl
theorem secF_chain {tf : Tariff} {c : Str} {start begin : Int} : ∀ (n : Nat) (f : List L3), secF tf c start begin n = some f → Chain (lab tf c start) begin f (begin + n)
  | 0, f, h => by
    have e : [] = f := Option.some.inj h
    rw [← e]
    show begin = begin + (0 : Nat)
    omega
  | n + 1, f, h => by
    rw [secF] at h
    cases h1 : secF tf c start begin n with
    | none => rw [h1] at h; cases h
    | some g =>
      rw [h1] at h
      cases h2 : lab tf c start (begin + n) with
      | none => simp only [h2] at h; cases h
      | some l =>
        simp only [h2] at h
        have e := Option.some.inj h
        rw [← e]
        have := Chain.push (L := lab tf c start) (l := l) (z := begin + n) (z' := begin + n + 1) (by omega) (fun k k1 k2 => by
          have : k = begin + n := by omega
          rw [this, h2]) (secF_chain n g h1)
        have e3 : begin + (n : Int) + 1 = begin + ((n + 1 : Nat) : Int) := by omega
        rw [← e3]
        exact this
theorem Chain.all {L : Int → Option Str} : ∀ {f : List L3} {a z : Int}, Chain L a f z → ∀ k, a ≤ k → k < z → (L k).isSome = true
  | [], a, z, h, k, h1, h2 => by
    have e : a = z := h
    omega
  | x :: f, a, z, ⟨h1, h2, h3, h4, h5⟩, k, k1, k2 => by
    by_cases hk : k < x.2.2
    · rw [h3 k (by omega) hk]
      rfl
    · exact Chain.all h5 k (by omega) k2
/-- where no band is, a block begins that has none: at the beginning or at a whole hour -/
theorem strGo_none {tf : Tariff} {c : Str} {start till : Int} : ∀ (n : Nat) (place : Int) (f : List St3), strGo tf c start till n place f = none → ∃ p, place ≤ p ∧ p < till ∧ tf.at c (start + p) = none ∧ (p = place ∨ (start + p) % 3600 = 0)
  | 0, place, f, h => by cases h
  | n + 1, place, f, h => by
    rw [strGo] at h
    by_cases hp : place < till
    · rw [if_pos hp] at h
      cases hb : tf.at c (start + place) with
      | none => exact ⟨place, Int.le_refl _, hp, hb, .inl rfl⟩
      | some b =>
        simp only [hb] at h
        obtain ⟨p, h1, h2, h3, h4⟩ := strGo_none n _ _ h
        have g1 := nextH_gt (start := start) hp
        refine ⟨p, by omega, h2, h3, .inr ?_⟩
        rcases h4 with h4 | h4
        · rw [h4]
          exact nextH_end (by omega)
        · exact h4
    · rw [if_neg hp] at h
      cases h
theorem strGo_mem {tf : Tariff} {c : Str} {start till : Int} : ∀ (n : Nat) (place : Int) (f g : List St3), (∀ x ∈ f, x.1 ∈ tf.bands) → strGo tf c start till n place f = some g → ∀ x ∈ g, x.1 ∈ tf.bands
  | 0, place, f, g, hf, h => by
    have e : f = g := Option.some.inj h
    rw [← e]
    exact hf
  | n + 1, place, f, g, hf, h => by
    rw [strGo] at h
    by_cases hp : place < till
    · rw [if_pos hp] at h
      cases hb : tf.at c (start + place) with
      | none => simp only [hb] at h; cases h
      | some b =>
        simp only [hb] at h
        refine strGo_mem n _ _ g (fun x hx => ?_) h
        have hbm : b ∈ tf.bands := Tariff.at_mem hb
        unfold push at hx
        cases hl : f.getLast? with
        | none =>
          simp only [hl] at hx
          rcases List.mem_append.mp hx with q | q
          · exact hf x q
          · rw [List.mem_singleton.mp q]
            exact hbm
        | some y =>
          simp only [hl] at hx
          split at hx
          · rcases List.mem_or_eq_of_mem_set hx with q | q
            · exact hf x q
            · rw [q]
              exact hbm
          · rcases List.mem_append.mp hx with q | q
            · exact hf x q
            · rw [List.mem_singleton.mp q]
              exact hbm
    · rw [if_neg hp] at h
      have e : f = g := Option.some.inj h
      rw [← e]
      exact hf
theorem push_len {α β : Type} [DecidableEq β] {lb : α → β} {f : List (α × Int × Int)} {b : α} {lo hi : Int} : (push lb f b lo hi).length ≤ f.length + 1 := by
  unfold push
  split
  · split
    · simp
    · simp
  · simp
abbrev sp_stretches (K : PySem.W.Frag) (cl : Nat → Addr) : Sp := PSp K cl fun ds d => ∃ tf c start begin till, ds = [Tariff.d tf, .str c, .int start, .int begin, .int till] ∧ tf.Ok ∧ 0 ≤ begin ∧ begin < till ∧ till ≤ 1000000 ∧ d = optD (fun l => .lst (List.map stD l)) (stretchesF tf c start begin till)
abbrev sp_law_stretches (K : PySem.W.Frag) (cl : Nat → Addr) : Sp := PSp K cl fun ds d => ∃ tf c start begin till, ds = [Tariff.d tf, .str c, .int start, .int begin, .int till] ∧ tf.Ok ∧ c.length ≤ 1000 ∧ 0 ≤ begin ∧ begin < till ∧ till ≤ 1000000 ∧ d = optD (fun l => .lst (List.map lD l)) (secF tf c start begin (till - begin).toNat)
theorem secF_isSome_le {tf : Tariff} {c : Str} {start begin : Int} {n m : Nat} {f : List L3} (h : secF tf c start begin n = some f) (hm : m ≤ n) : ∃ g, secF tf c start begin m = some g := by
  cases e : secF tf c start begin m with
  | some g => exact ⟨g, rfl⟩
  | none => rw [secF_none e n hm] at h; cases h
theorem secF_len {tf : Tariff} {c : Str} {start begin : Int} : ∀ {n : Nat} {f : List L3}, secF tf c start begin n = some f → f.length ≤ n
  | 0, f, h => by
    have e : [] = f := Option.some.inj h
    rw [← e]
    exact Nat.le_refl _
  | n + 1, f, h => by
    rw [secF] at h
    cases h1 : secF tf c start begin n with
    | none => rw [h1] at h; cases h
    | some g =>
      rw [h1] at h
      cases h2 : lab tf c start (begin + n) with
      | none => simp only [h2] at h; cases h
      | some l =>
        simp only [h2] at h
        have e := Option.some.inj h
        rw [← e]
        have := push_len (lb := id) (f := g) (b := l) (lo := begin + n) (hi := begin + n + 1)
        have := secF_len h1
        omega
theorem Chain.get {L : Int → Option Str} : ∀ {f : List L3} {a z : Int} {k : Nat} {x : L3}, Chain L a f z → f[k]? = some x → x.2.1 < x.2.2 ∧ ∀ s, x.2.1 ≤ s → s < x.2.2 → L s = some x.1
  | [], _, _, _, _, _, h => by simp at h
  | y :: f, a, z, 0, x, ⟨h1, h2, h3, h4, h5⟩, h => by
    have e : y = x := by simpa using h
    rw [← e]
    exact ⟨h2, h3⟩
  | y :: f, a, z, k + 1, x, ⟨h1, h2, h3, h4, h5⟩, h => Chain.get h5 (by simpa using h)
/-- where the k-th stretch begins -/
theorem Chain.drop {L : Int → Option Str} : ∀ {f : List L3} {a z : Int} {k : Nat} {x : L3}, Chain L a f z → f[k]? = some x → Chain L x.2.1 (f.drop k) z
  | [], _, _, _, _, _, h => by simp at h
  | y :: f, a, z, 0, x, c, h => by
    have e : y = x := by simpa using h
    obtain ⟨h1, _⟩ := id c
    rw [← e, h1]
    exact c
  | y :: f, a, z, k + 1, x, ⟨h1, h2, h3, h4, h5⟩, h => Chain.drop (k := k) h5 (by simpa using h)
theorem Chain.next {L : Int → Option Str} {f : List L3} {a z : Int} {k : Nat} {x y : L3} (c : Chain L a f z) (h1 : f[k]? = some x) (h2 : f[k + 1]? = some y) : y.2.1 = x.2.2 ∧ x.1 ≠ y.1 := by
  have d := c.drop h1
  have hk : k < f.length := (List.getElem?_eq_some_iff.mp h1).1
  have hk2 : k + 1 < f.length := (List.getElem?_eq_some_iff.mp h2).1
  have e1 : f.drop k = x :: f.drop (k + 1) := by
    rw [List.drop_eq_getElem_cons hk]
    rw [List.getElem?_eq_getElem hk] at h1
    rw [Option.some.inj h1]
  have e2 : f.drop (k + 1) = y :: f.drop (k + 2) := by
    rw [List.drop_eq_getElem_cons hk2]
    rw [List.getElem?_eq_getElem hk2] at h2
    rw [Option.some.inj h2]
  rw [e1, e2] at d
  obtain ⟨_, _, _, h4, h5, _⟩ := d
  exact ⟨h5, h4 y rfl⟩
theorem Chain.last {L : Int → Option Str} : ∀ {f : List L3} {a z : Int} {x : L3}, Chain L a f z → f.getLast? = some x → x.2.2 = z
  | [], _, _, _, _, h => by cases h
  | [y], a, z, x, ⟨h1, h2, h3, h4, h5⟩, h => by
    have e : y = x := by simpa using h
    rw [← e]
    exact h5
  | y :: w :: f, a, z, x, ⟨h1, h2, h3, h4, h5⟩, h => by
    rw [List.getLast?_cons_cons] at h
    exact Chain.last h5 h
theorem stretches_two {tf : Tariff} {c : Str} {start begin till : Int} (h : begin < till) : secF tf c start begin (till - begin).toNat = (stretchesF tf c start begin till).map (List.map lbl) := by
  have := strGo_sec (tf := tf) (c := c) (start := start) (begin := begin) (till := till) (till - begin).toNat begin [] (Int.le_refl _) (Int.le_of_lt h) (by omega) (by rw [Int.sub_self]; rfl)
  rw [← this]
  rfl
theorem Chain.le {L : Int → Option Str} : ∀ {f : List L3} {a z : Int}, Chain L a f z → a ≤ z
  | [], _, _, h => Int.le_of_eq h
  | y :: f, a, z, ⟨h1, h2, h3, h4, h5⟩ => by
    have := Chain.le h5
    omega
theorem Chain.bounds {L : Int → Option Str} : ∀ {f : List L3} {a z : Int}, Chain L a f z → ∀ x ∈ f, a ≤ x.2.1 ∧ x.2.1 < x.2.2 ∧ x.2.2 ≤ z
  | [], _, _, _, x, hx => absurd hx List.not_mem_nil
  | y :: f, a, z, c, x, hx => by
    obtain ⟨h1, h2, h3, h4, h5⟩ := id c
    have hyz : y.2.2 ≤ z := Chain.le h5
    rcases List.mem_cons.mp hx with rfl | hx
    · exact ⟨Int.le_of_eq h1.symm, h2, hyz⟩
    · have := Chain.bounds h5 x hx
      exact ⟨by omega, this.2.1, this.2.2⟩
/-! ### price lines -/
abbrev L4 := Str × Int × Int × Int
@[reducible] def l4D (x : L4) : D := .tup [.str x.1, .int x.2.1, .int x.2.2.1, .int x.2.2.2]
def mins (lo hi : Int) : Int := (hi - lo + 60 - 1) / 60
def pl (x : St3) : L4 := (x.1.label, x.2.1, x.2.2, x.1.price * mins x.2.1 x.2.2)
def priceF (tf : Tariff) (c : Str) (start begin till : Int) : Option (List L4) := (stretchesF tf c start begin till).map fun f => ("setup", begin, begin, tf.setup) :: f.map pl
abbrev sp_price_lines (K : PySem.W.Frag) (cl : Nat → Addr) : Sp := PSp K cl fun ds d => ∃ tf c start begin till, ds = [Tariff.d tf, .str c, .int start, .int begin, .int till] ∧ tf.Ok ∧ 0 ≤ begin ∧ begin < till ∧ till ≤ 1000000 ∧ d = optD (fun l => .lst (List.map l4D l)) (priceF tf c start begin till)
abbrev sp_law_price (K : PySem.W.Frag) (cl : Nat → Addr) : Sp := PSp K cl fun ds d => ∃ tf l, ds = [Tariff.d tf, .str l] ∧ d = optD (fun b => .int (Band.price b)) (tf.bands.find? fun b => decide (b.label = l))
/-- what is known of the stretches -/
theorem stretches_facts {tf : Tariff} {c : Str} {start begin till : Int} {f : List St3} (h1 : begin < till) (h : stretchesF tf c start begin till = some f) : f.length ≤ (till - begin).toNat ∧ (∀ x ∈ f, x.1 ∈ tf.bands) ∧ ∀ x ∈ f, begin ≤ x.2.1 ∧ x.2.1 < x.2.2 ∧ x.2.2 ≤ till := by
  have hs : secF tf c start begin (till - begin).toNat = some (f.map lbl) := by
    rw [stretches_two h1, h]
    rfl
  refine ⟨by have := secF_len hs; rw [List.length_map] at this; exact this, strGo_mem _ _ _ _ (fun _ h => absurd h List.not_mem_nil) h, fun x hx => ?_⟩
  have hc := secF_chain _ _ hs
  have e : begin + ((till - begin).toNat : Int) = till := by omega
  rw [e] at hc
  exact Chain.bounds hc (lbl x) (List.mem_map.mpr ⟨x, hx, rfl⟩)
theorem find_label {bs : List Band} (h : (bs.map Band.label).Nodup) {b : Band} (hb : b ∈ bs) : bs.find? (fun x => decide (x.label = b.label)) = some b := by
  induction bs with
  | nil => cases hb
  | cons y bs ih =>
    rw [List.map_cons, List.nodup_cons] at h
    rw [List.find?_cons]
    rcases List.mem_cons.mp hb with rfl | hb
    · simp
    · have hne : ¬ y.label = b.label := fun e => h.1 (by rw [e]; exact List.mem_map.mpr ⟨b, hb, rfl⟩)
      rw [decide_eq_false hne]
      exact ih h.2 hb
abbrev sp_law (K : PySem.W.Frag) (cl : Nat → Addr) : Sp := GSp fun vs G M T => ∃ v ns, vs = [v] ∧ Rep K cl G v (.lst (List.map D.int ns)) ∧ ∀ G' M', Same G G' → T (.bl true) G' M'
def sp_law0 (K : PySem.W.Frag) : Sp := fun vs H Q _ => ∃ (a : Addr) (ns : List Int), vs = [.ref a] ∧ SqL K H a (ns.map V.int) ∧ ns.length ≤ 63 ∧ ∀ H', Q (.bl true) H'
theorem sp_law_of {K : PySem.W.Frag} {cl : Nat → Addr} {vs H Q E} (h : sp_law0 K vs H Q E) : sp_law K cl vs H Q E := by
  obtain ⟨a, ns, rfl, hS, hl, k⟩ := h
  exact ⟨H, [], Sep.nil, .ref a, ns, rfl, Rep.lst hS Reps.ints, fun G' M' _ _ H' _ => k H'⟩
def t_Band_init (K : PySem.W.Frag) (cl : Nat → Addr) : TS :=
  (tSeq (sFld K (tVar 0) (tVar 1) "label") (tSeq (sFld K (tVar 0) (tVar 2) "prefix") (tSeq (sFld K (tVar 0) (tVar 3) "from_hour") (tSeq (sFld K (tVar 0) (tVar 4) "to_hour") (sFld K (tVar 0) (tVar 5) "price")))))
def t_Band_holds (K : PySem.W.Frag) (cl : Nat → Addr) : TS :=
  (tSeq (tAsg (tOp (rDivI) (tOp (rModI) (tVar 2) (tC (.int 86400))) (tC (.int 3600))) (gName 3)) (tRet ((tAndV (tM1 rStarts (tVar 1) (tFld K (tVar 0) "prefix")) (tAndV (tOp (rLeI) (tFld K (tVar 0) "from_hour") (tVar 3)) (tOp (rLtI) (tVar 3) (tFld K (tVar 0) "to_hour")))))))
def t_Tariff_init (K : PySem.W.Frag) (cl : Nat → Addr) : TS :=
  (tSeq (sFld K (tVar 0) (tVar 1) "setup_price") (sFld K (tVar 0) (tCB (rTupA K) (tCons (tVar 2) tNil)) "bands"))
def t_law_cell (K : PySem.W.Frag) (cl : Nat → Addr) : TS :=
  (tSeq (tIfS (tTest (tOp (rLtI) (tVar 1) (tCB (rLenA K) (tCons (tVar 0) tNil)))) (tRet (tOp (rIx K) (tVar 0) (tVar 1))) tNext) (tRet (tC (.int 0))))
def t_law_state (K : PySem.W.Frag) (cl : Nat → Addr) : TS :=
  (tSeq (tIfS (tTest (tOp (rGeI) (tVar 0) (tC (.int 1000000000000000000)))) (tRet (tLst (tCons (tVar 0) tNil))) tNext) (tSeq (tAsg (tC (.int 2305843009213693951)) (gName 2)) (tSeq (tAsg (tOp (rModI) (tCB (rInt1) (tCons (tOp (rAdd K) (tOp (rAdd K) (tOp (rMulI) (tVar 0) (tC (.int 6364136223))) (tOp (rMulI) (tOp (rAdd K) (tVar 1) (tC (.int 1))) (tC (.int 104729)))) (tC (.int 77))) tNil)) (tVar 2)) (gName 3)) (tSeq (tAsg (tOp (rModI) (tCB (rInt1) (tCons (tOp (rAdd K) (tOp (rAdd K) (tOp (rMulI) (tVar 3) (tVar 3)) (tOp (rMulI) (tC (.int 1013)) (tVar 3))) (tVar 1)) tNil)) (tVar 2)) (gName 4)) (tSeq (tAsg (tOp (rModI) (tCB (rInt1) (tCons (tOp (rAdd K) (tOp (rAdd K) (tOp (rMulI) (tVar 4) (tC (.int 48271))) (tOp (rMulI) (tVar 3) (tC (.int 31)))) (tC (.int 9))) tNil)) (tVar 2)) (gName 5)) (tSeq (tAsg (tOp (rModI) (tCB (rInt1) (tCons (tOp (rAdd K) (tOp (rMulI) (tVar 5) (tVar 5)) (tVar 4)) tNil)) (tVar 2)) (gName 6)) (tRet (tLst (tCons (tOp (rAdd K) (tOp (rMulI) (tOp (rAdd K) (tOp (rMulI) (tOp (rAdd K) (tOp (rMulI) (tVar 6) (tVar 2)) (tVar 5)) (tVar 2)) (tVar 4)) (tVar 2)) (tVar 3)) tNil)))))))))
def t_law_digit (K : PySem.W.Frag) (cl : Nat → Addr) : TS :=
  (tSeq (tAsg (tOp (rModI) (tCB (rInt1) (tCons (tOp (rIx K) (tVar 0) (tC (.int 0))) tNil)) (tVar 1)) (gName 2)) (tSeq (tAsg (tOp (rDivI) (tOp (rIx K) (tVar 0) (tC (.int 0))) (tVar 1)) (gSub (tVar 0) (tC (.int 0)) rSetL)) (tRet (tVar 2))))
def t_law_band (K : PySem.W.Frag) (cl : Nat → Addr) : TS :=
  (tSeq (tAsg (tOp (rDivI) (tOp (rModI) (tCB (rInt1) (tCons (tVar 2) tNil)) (tC (.int 86400))) (tC (.int 3600))) (gName 3)) (tSeq (tAsg (tC .non) (gName 4)) (tSeq (tFor (iSeq K (tFld K (tVar 0) "bands")) (gName 5) (tSeq (tAsg ((tAndV (tOp (rEqA K) (tSl (rSlA K) (tVar 1) tNoPart (tPart (tCB (rLenA K) (tCons (tFld K (tVar 5) "prefix") tNil)))) (tFld K (tVar 5) "prefix")) (tAndV (tOp (rLeI) (tFld K (tVar 5) "from_hour") (tVar 3)) (tOp (rLtI) (tVar 3) (tFld K (tVar 5) "to_hour"))))) (gName 6)) (tIfS (tAnd (tTr K (tVar 6)) (tOr (tTest (tOp (rIsN) (tVar 4) (tC .non))) (tTest (tOp (rGtI) (tCB (rLenA K) (tCons (tFld K (tVar 5) "prefix") tNil)) (tCB (rLenA K) (tCons (tFld K (tVar 4) "prefix") tNil)))))) (tAsg (tVar 5) (gName 4)) tNext))) (tRet (tVar 4)))))
def t_law_price (K : PySem.W.Frag) (cl : Nat → Addr) : TS :=
  (tSeq (tFor (iSeq K (tFld K (tVar 0) "bands")) (gName 2) (tIfS (tTest (tOp (rEqA K) (tFld K (tVar 2) "label") (tVar 1))) (tRet (tFld K (tVar 2) "price")) tNext)) (tRet (tC .non)))
def t_Tariff_band_at (K : PySem.W.Frag) (cl : Nat → Addr) : TS :=
  (tSeq (tAsg (tC .non) (gName 3)) (tSeq (tFor (iSeq K (tFld K (tVar 0) "bands")) (gName 4) (tIfS (tAnd (tTr K (tMeth (cl 0) "holds" (sp_Band_holds K cl) [] E0 (tVar 4) (tCons (tVar 1) (tCons (tVar 2) tNil)))) (tOr (tTest (tOp (rIsN) (tVar 3) (tC .non))) (tTest (tOp (rGtI) (tCB (rLenA K) (tCons (tFld K (tVar 4) "prefix") tNil)) (tCB (rLenA K) (tCons (tFld K (tVar 3) "prefix") tNil)))))) (tAsg (tVar 4) (gName 3)) tNext)) (tRet (tVar 3))))
def t_law_called (K : PySem.W.Frag) (cl : Nat → Addr) : TS :=
  (tRet (tOp (rAdd K) (tOp (rIx K) (tTup (tCons (tC (.str "5")) (tCons (tC (.str "6")) (tCons (tC (.str "512")) (tCons (tC (.str "51")) (tCons (tC (.str "62")) (tCons (tC (.str "7")) tNil))))))) (tCall (sp_law_digit K cl) [] E0 (tCons (tVar 0) (tCons (tC (.int 6)) tNil)))) (tCB (rStrI) (tCons (tCall (sp_law_digit K cl) [] E0 (tCons (tVar 0) (tCons (tC (.int 30)) tNil))) tNil))))
def t_law_stretches (K : PySem.W.Frag) (cl : Nat → Addr) : TS :=
  (tSeq (tAsg (tLst tNil) (gName 5)) (tSeq (tFor (iRng2 (tCons (tVar 3) (tCons (tVar 4) tNil))) (gName 6) (tSeq (tAsg (tCall (sp_law_band K cl) [] E0 (tCons (tVar 0) (tCons (tVar 1) (tCons (tOp (rAdd K) (tVar 2) (tVar 6)) tNil)))) (gName 7)) (tSeq (tIfS (tTest (tOp (rIsN) (tVar 7) (tC .non))) (tRet (tC .non)) tNext) (tIfS (tAnd (tTest (tOp (rGtI) (tCB (rLenA K) (tCons (tVar 5) tNil)) (tC (.int 0)))) (tTest (tOp (rEqA K) (tOp (rIx K) (tOp (rIx K) (tVar 5) (tUn rNegI (tC (.int 1)))) (tC (.int 0))) (tFld K (tVar 7) "label")))) (tAsg (tTup (tCons (tFld K (tVar 7) "label") (tCons (tOp (rIx K) (tOp (rIx K) (tVar 5) (tUn rNegI (tC (.int 1)))) (tC (.int 1))) (tCons (tOp (rAdd K) (tVar 6) (tC (.int 1))) tNil)))) (gSub (tVar 5) (tUn rNegI (tC (.int 1))) rSetL)) (tDrop (tBM K "list" rAppend (tVar 5) (tCons (tTup (tCons (tFld K (tVar 7) "label") (tCons (tVar 6) (tCons (tOp (rAdd K) (tVar 6) (tC (.int 1))) tNil)))) tNil))))))) (tRet (tVar 5))))
def t_law_large (K : PySem.W.Frag) (cl : Nat → Addr) : TS :=
  (tRet (tOp (rEqA K) (tCall (sp_law_digit K cl) [] E0 (tCons (tCall (sp_law_state K cl) [] E0 (tCons (tCall (sp_law_cell K cl) [] E0 (tCons (tVar 0) (tCons (tC (.int 0)) tNil))) (tCons (tC (.int 97)) tNil))) (tCons (tC (.int 4)) tNil))) (tC (.int 0))))
def t_stretches (K : PySem.W.Frag) (cl : Nat → Addr) : TS :=
  (tSeq (tAsg (tLst tNil) (gName 5)) (tSeq (tAsg (tVar 3) (gName 6)) (tSeq (tWhile (tTest (tOp (rLtI) (tVar 6) (tVar 4))) (tSeq (tAsg (tMeth (cl 1) "band_at" (sp_Tariff_band_at K cl) [] E0 (tVar 0) (tCons (tVar 1) (tCons (tOp (rAdd K) (tVar 2) (tVar 6)) tNil))) (gName 7)) (tSeq (tIfS (tTest (tOp (rIsN) (tVar 7) (tC .non))) (tRet (tC .non)) tNext) (tSeq (tAsg (tCB (rMin2) (tCons (tVar 4) (tCons (tOp (rSubI) (tOp (rAdd K) (tVar 6) (tC (.int 3600))) (tOp (rModI) (tOp (rAdd K) (tVar 2) (tVar 6)) (tC (.int 3600)))) tNil))) (gName 8)) (tSeq (tIfS (tAnd (tTr K (tVar 5)) (tTest (tOp (rEqA K) (tFld K (tOp (rIx K) (tOp (rIx K) (tVar 5) (tUn rNegI (tC (.int 1)))) (tC (.int 0))) "label") (tFld K (tVar 7) "label")))) (tAsg (tTup (tCons (tVar 7) (tCons (tOp (rIx K) (tOp (rIx K) (tVar 5) (tUn rNegI (tC (.int 1)))) (tC (.int 1))) (tCons (tVar 8) tNil)))) (gSub (tVar 5) (tUn rNegI (tC (.int 1))) rSetL)) (tDrop (tBM K "list" rAppend (tVar 5) (tCons (tTup (tCons (tVar 7) (tCons (tVar 6) (tCons (tVar 8) tNil)))) tNil)))) (tAsg (tVar 8) (gName 6))))))) (tRet (tVar 5)))))
def t_law_tariff (K : PySem.W.Frag) (cl : Nat → Addr) : TS :=
  (tSeq (tAsg (tLst tNil) (gName 1)) (tSeq (tFor (iRng1 (tCons (tCall (sp_law_digit K cl) [] E0 (tCons (tVar 0) (tCons (tC (.int 6)) tNil))) tNil)) (gName 2) (tSeq (tAsg (tOp (rIx K) (tTup (tCons (tC (.str "")) (tCons (tC (.str "5")) (tCons (tC (.str "51")) (tCons (tC (.str "6")) (tCons (tC (.str "62")) (tCons (tC (.str "512")) tNil))))))) (tCall (sp_law_digit K cl) [] E0 (tCons (tVar 0) (tCons (tC (.int 6)) tNil)))) (gName 3)) (tSeq (tAsg (tCall (sp_law_digit K cl) [] E0 (tCons (tVar 0) (tCons (tC (.int 24)) tNil))) (gName 4)) (tSeq (tAsg (tOp (rAdd K) (tOp (rAdd K) (tVar 4) (tC (.int 1))) (tCall (sp_law_digit K cl) [] E0 (tCons (tVar 0) (tCons (tOp (rSubI) (tC (.int 24)) (tVar 4)) tNil)))) (gName 5)) (tDrop (tBM K "list" rAppend (tVar 1) (tCons (tMake (cl 0) (sp_Band_init K cl) [] E0 (tCons (tOp (rAdd K) (tC (.str "band")) (tCB (rStrI) (tCons (tVar 2) tNil))) (tCons (tVar 3) (tCons (tVar 4) (tCons (tVar 5) (tCons (tCall (sp_law_digit K cl) [] E0 (tCons (tVar 0) (tCons (tC (.int 40)) tNil))) tNil)))))) tNil))))))) (tSeq (tIfS (tTest (tOp (rGtI) (tCall (sp_law_digit K cl) [] E0 (tCons (tVar 0) (tCons (tC (.int 3)) tNil))) (tC (.int 0)))) (tDrop (tBM K "list" rAppend (tVar 1) (tCons (tMake (cl 0) (sp_Band_init K cl) [] E0 (tCons (tC (.str "other")) (tCons (tC (.str "")) (tCons (tC (.int 0)) (tCons (tC (.int 24)) (tCons (tOp (rAdd K) (tC (.int 3)) (tCall (sp_law_digit K cl) [] E0 (tCons (tVar 0) (tCons (tC (.int 9)) tNil)))) tNil)))))) tNil))) tNext) (tRet (tMake (cl 1) (sp_Tariff_init K cl) [] E0 (tCons (tCall (sp_law_digit K cl) [] E0 (tCons (tVar 0) (tCons (tC (.int 30)) tNil))) (tCons (tCB (rTupA K) (tCons (tVar 1) tNil)) tNil)))))))
def t_law_many (K : PySem.W.Frag) (cl : Nat → Addr) : TS :=
  (tSeq (tAsg (tLst tNil) (gName 2)) (tSeq (tFor (iRng1 (tCons (tC (.int 40)) tNil)) (gName 3) (tSeq (tAsg (tOp (rModI) (tCB (rInt1) (tCons (tOp (rMulI) (tC (.int 7)) (tVar 3)) tNil)) (tC (.int 24))) (gName 4)) (tSeq (tAsg (tOp (rAdd K) (tOp (rAdd K) (tVar 4) (tC (.int 1))) (tOp (rModI) (tCB (rInt1) (tCons (tOp (rMulI) (tC (.int 5)) (tVar 3)) tNil)) (tOp (rSubI) (tC (.int 24)) (tVar 4)))) (gName 5)) (tDrop (tBM K "list" rAppend (tVar 2) (tCons (tMake (cl 0) (sp_Band_init K cl) [] E0 (tCons (tOp (rAdd K) (tC (.str "band")) (tCB (rStrI) (tCons (tVar 3) tNil))) (tCons (tSl (rSlA K) (tVar 0) tNoPart (tPart (tOp (rModI) (tCB (rInt1) (tCons (tOp (rMulI) (tC (.int 11)) (tVar 3)) tNil)) (tC (.int 16))))) (tCons (tVar 4) (tCons (tVar 5) (tCons (tOp (rMulI) (tVar 1) (tVar 3)) tNil)))))) tNil)))))) (tSeq (tDrop (tBM K "list" rAppend (tVar 2) (tCons (tMake (cl 0) (sp_Band_init K cl) [] E0 (tCons (tC (.str "other")) (tCons (tC (.str "")) (tCons (tC (.int 0)) (tCons (tC (.int 24)) (tCons (tVar 1) tNil)))))) tNil))) (tRet (tMake (cl 1) (sp_Tariff_init K cl) [] E0 (tCons (tOp (rMulI) (tC (.int 7)) (tVar 1)) (tCons (tCB (rTupA K) (tCons (tVar 2) tNil)) tNil)))))))
def t_price_lines (K : PySem.W.Frag) (cl : Nat → Addr) : TS :=
  (tSeq (tAsg (tCall (sp_stretches K cl) [] E0 (tCons (tVar 0) (tCons (tVar 1) (tCons (tVar 2) (tCons (tVar 3) (tCons (tVar 4) tNil)))))) (gName 5)) (tSeq (tIfS (tTest (tOp (rIsN) (tVar 5) (tC .non))) (tRet (tC .non)) tNext) (tSeq (tAsg (tLst (tCons (tTup (tCons (tC (.str "setup")) (tCons (tVar 3) (tCons (tVar 3) (tCons (tFld K (tVar 0) "setup_price") tNil))))) tNil)) (gName 6)) (tSeq (tFor (iSeq K (tVar 5)) (gTup K 3 (gNames [7, 8, 9])) (tSeq (tAsg (tOp (rDivI) (tOp (rSubI) (tOp (rAdd K) (tOp (rSubI) (tVar 9) (tVar 8)) (tC (.int 60))) (tC (.int 1))) (tC (.int 60))) (gName 10)) (tDrop (tBM K "list" rAppend (tVar 6) (tCons (tTup (tCons (tFld K (tVar 7) "label") (tCons (tVar 8) (tCons (tVar 9) (tCons (tOp (rMulI) (tFld K (tVar 7) "price") (tVar 10)) tNil))))) tNil))))) (tRet (tVar 6))))))
def t_law (K : PySem.W.Frag) (cl : Nat → Addr) : TS :=
  (tSeq (tAsg (tCall (sp_law_large K cl) [] E0 (tCons (tVar 0) tNil)) (gName 1)) (tSeq (tFor (iRng1 (tCons (tC (.int 5)) tNil)) (gName 2) (tSeq (tAsg (tCall (sp_law_state K cl) [] E0 (tCons (tCall (sp_law_cell K cl) [] E0 (tCons (tVar 0) (tCons (tVar 2) tNil))) (tCons (tVar 2) tNil))) (gName 3)) (tSeq (tAsg (tCall (sp_law_tariff K cl) [] E0 (tCons (tVar 3) tNil)) (gName 4)) (tSeq (tAsg (tCall (sp_law_called K cl) [] E0 (tCons (tVar 3) tNil)) (gName 5)) (tSeq (tIfS (tTr K (tVar 1)) (tSeq (tAsg (tOp (rAdd K) (tC (.str "5123456789012")) (tCB (rStrI) (tCons (tOp (rAdd K) (tC (.int 10)) (tVar 2)) tNil))) (gName 5)) (tAsg (tCall (sp_law_many K cl) [] E0 (tCons (tVar 5) (tCons (tOp (rAdd K) (tC (.int 1000000000)) (tVar 2)) tNil))) (gName 4))) tNext) (tSeq (tAsg (tOp (rAdd K) (tOp (rSubI) (tOp (rMulI) (tC (.int 3600)) (tCall (sp_law_digit K cl) [] E0 (tCons (tVar 3) (tCons (tC (.int 60)) tNil)))) (tCall (sp_law_digit K cl) [] E0 (tCons (tVar 3) (tCons (tC (.int 200)) tNil)))) (tC (.int 3600))) (gName 6)) (tSeq (tAsg (tOp (rIx K) (tTup (tCons (tC (.int 0)) (tCons (tC (.int 0)) (tCons (tC (.int 59)) (tCons (tCall (sp_law_digit K cl) [] E0 (tCons (tVar 3) (tCons (tC (.int 90)) tNil))) tNil))))) (tCall (sp_law_digit K cl) [] E0 (tCons (tVar 3) (tCons (tC (.int 4)) tNil)))) (gName 7)) (tSeq (tAsg (tOp (rAdd K) (tVar 7) (tOp (rIx K) (tTup (tCons (tC (.int 1)) (tCons (tC (.int 60)) (tCons (tC (.int 61)) (tCons (tC (.int 120)) (tCons (tOp (rAdd K) (tC (.int 1)) (tCall (sp_law_digit K cl) [] E0 (tCons (tVar 3) (tCons (tC (.int 300)) tNil)))) tNil)))))) (tCall (sp_law_digit K cl) [] E0 (tCons (tVar 3) (tCons (tC (.int 5)) tNil))))) (gName 8)) (tSeq (tIfS (tAnd (tTr K (tVar 1)) (tTest (tOp (rEqA K) (tVar 2) (tC (.int 0))))) (tAsg (tOp (rAdd K) (tVar 8) (tC (.int 7200))) (gName 8)) tNext) (tSeq (tAsg (tCall (sp_law_stretches K cl) [] E0 (tCons (tVar 4) (tCons (tVar 5) (tCons (tVar 6) (tCons (tVar 7) (tCons (tVar 8) tNil)))))) (gName 9)) (tSeq (tAsg (tCall (sp_price_lines K cl) [] E0 (tCons (tVar 4) (tCons (tVar 5) (tCons (tVar 6) (tCons (tVar 7) (tCons (tVar 8) tNil)))))) (gName 10)) (tIfS (tTest (tOp (rIsN) (tVar 9) (tC .non))) (tIfS (tTest (tOp (rNotN) (tVar 10) (tC .non))) (tRet (tC (.bl false))) tNext) (tSeq (tAsg (tLst (tCons (tTup (tCons (tC (.str "setup")) (tCons (tVar 7) (tCons (tVar 7) (tCons (tFld K (tVar 4) "setup_price") tNil))))) tNil)) (gName 11)) (tSeq (tFor (iSeq K (tVar 9)) (gTup K 3 (gNames [12, 13, 14])) (tSeq (tAsg (tC (.int 0)) (gName 15)) (tSeq (tFor (iRng2 (tCons (tVar 13) (tCons (tVar 14) tNil))) (gName 16) (tAsg (tOp (rAdd K) (tVar 15) (tCB (rInt1) (tCons (tOp (rEqA K) (tOp (rModI) (tCB (rInt1) (tCons (tOp (rSubI) (tVar 16) (tVar 13)) tNil)) (tC (.int 60))) (tC (.int 0))) tNil))) (gName 15))) (tDrop (tBM K "list" rAppend (tVar 11) (tCons (tTup (tCons (tVar 12) (tCons (tVar 13) (tCons (tVar 14) (tCons (tOp (rMulI) (tVar 15) (tCall (sp_law_price K cl) [] E0 (tCons (tVar 4) (tCons (tVar 12) tNil)))) tNil))))) tNil)))))) (tIfS (tTest (tOp (rNeA K) (tVar 10) (tVar 11))) (tRet (tC (.bl false))) tNext))))))))))))))) (tRet (tC (.bl true)))))
class Cf (K : PySem.W.Frag) (cl : Nat → Addr) : Prop where
  cl_Band : Cls K (cl 0)
  nf_Band_label : NoAttr K (cl 0) "label"
  nf_Band_prefix : NoAttr K (cl 0) "prefix"
  nf_Band_from_hour : NoAttr K (cl 0) "from_hour"
  nf_Band_to_hour : NoAttr K (cl 0) "to_hour"
  nf_Band_price : NoAttr K (cl 0) "price"
  cl_Tariff : Cls K (cl 1)
  nf_Tariff_setup_price : NoAttr K (cl 1) "setup_price"
  nf_Tariff_bands : NoAttr K (cl 1) "bands"
local macro_rules | `(tactic| walk_at "cf") => `(tactic| with_reducible first | exact Cf.cl_Band | exact Cf.nf_Band_label | exact Cf.nf_Band_prefix | exact Cf.nf_Band_from_hour | exact Cf.nf_Band_to_hour | exact Cf.nf_Band_price | exact Cf.cl_Tariff | exact Cf.nf_Tariff_setup_price | exact Cf.nf_Tariff_bands)
theorem rd_law_cell {K : PySem.W.Frag} {cl : Nat → Addr} {vs H Q E} (h : sp_law_cell K cl vs H Q E) : t_law_cell K cl ⟨fun _ H' => Q .non H', Q, fun _ _ => False, fun _ _ => False⟩ (start ["script", "k"] vs) H := by
  obtain ⟨ds, d, G, M, ⟨ns, k, rfl, hk, rfl⟩, S, rs, q⟩ := h
  obtain ⟨v0, v1, rfl, r0, r1⟩ := reps2 rs
  obtain rfl := r1.of_int
  unfold t_law_cell
  refine s_seq ?_
  refine s_if S (by walk_at "et") ?_ ?_
  · intro G1 H1 g hc
    obtain ⟨rfl, rfl, -⟩ := g.eq rfl
    have hl : k < (ns.length : Int) := by
      have := of_decide_eq_true hc
      simpa using this
    have hx : atI (List.map D.int ns) k = some (.int (ns.getD k.toNat 0)) := by
      rw [atI_getD (D.int 0) hk (by simpa using hl)]
      simp [List.getD]
    exact s_ret S (ev_op (by walk_at "ev") (by walk_at "ev") (o_ixL hx)) fun v G1 H1 g r => q v G1 H1 g.same g.sep r
  · intro G1 H1 g hc
    obtain ⟨rfl, rfl, -⟩ := g.eq rfl
    have hl : (ns.length : Int) ≤ k := by
      have := of_decide_eq_false hc
      simp at this
      omega
    refine s_next ?_
    refine s_ret (K := K) (cl := cl) S (by walk_at "ev") fun v G1 H1 g r => q v G1 H1 g.same g.sep ?_
    rw [List.getD_eq_getElem?_getD, List.getElem?_eq_none (by omega)]
    exact r
theorem rd_law_state {K : PySem.W.Frag} {cl : Nat → Addr} {vs H Q E} (h : sp_law_state K cl vs H Q E) : t_law_state K cl ⟨fun _ H' => Q .non H', Q, fun _ _ => False, fun _ _ => False⟩ (start ["cell", "k", "prime", "first", "second", "third", "fourth"] vs) H := by
  obtain ⟨G, M, S, c, k, rfl, q⟩ := h
  unfold t_law_state
  refine s_seq ?_
  refine s_if (K := K) (cl := cl) S (by walk_at "et") ?_ ?_
  · intro G1 H1 g hc
    refine s_retG g.sep (eg_lst (K := K) (cl := cl) (F := fun v G' M' => ∃ p s, v = .ref p ∧ M' = (p, .lst [.int s]) :: M) (by walk_at "ea") (Nat.le_of_ble_eq_true rfl) fun u vs G' s r => ⟨u, c, rfl, ?_⟩) ?_
    · obtain ⟨x, rfl, hx⟩ := reps1 r
      rw [hx.of_int]
    · rintro v G' H' M' s' S' ⟨p, z, rfl, rfl⟩
      exact q p z G' (g.same.trans s') (g.same.trans s') H' S'
  · intro G1 H1 g hc
    obtain ⟨rfl, rfl, -⟩ := g.eq rfl
    refine s_next ?_
    refine s_seq ?_
    refine s_asg (K := K) (cl := cl) S (by walk_at "ev") ?_
    intro w1 G1 H1 g1 r1
    obtain ⟨rfl, rfl, -⟩ := g1.eq rfl
    obtain rfl := r1.of_int
    refine s_seq ?_
    refine s_asg (K := K) (cl := cl) S (by walk_at "ev") ?_
    intro w2 G2 H2 g2 r2
    obtain ⟨rfl, rfl, -⟩ := g2.eq rfl
    obtain ⟨z1, rfl, h10, h11⟩ : ∃ z, w2 = .int z ∧ 0 ≤ z ∧ z < 2305843009213693951 := ⟨_, r2.of_int, Int.emod_nonneg _ (by decide), Int.emod_lt_of_pos _ (by decide)⟩
    refine s_seq ?_
    refine s_asg (K := K) (cl := cl) S (by walk_at "ev") ?_
    intro w3 G3 H3 g3 r3
    obtain ⟨rfl, rfl, -⟩ := g3.eq rfl
    obtain ⟨z2, rfl, h20, h21⟩ : ∃ z, w3 = .int z ∧ 0 ≤ z ∧ z < 2305843009213693951 := ⟨_, r3.of_int, Int.emod_nonneg _ (by decide), Int.emod_lt_of_pos _ (by decide)⟩
    refine s_seq ?_
    refine s_asg (K := K) (cl := cl) S (by walk_at "ev") ?_
    intro w4 G4 H4 g4 r4
    obtain ⟨rfl, rfl, -⟩ := g4.eq rfl
    obtain ⟨z3, rfl, h30, h31⟩ : ∃ z, w4 = .int z ∧ 0 ≤ z ∧ z < 2305843009213693951 := ⟨_, r4.of_int, Int.emod_nonneg _ (by decide), Int.emod_lt_of_pos _ (by decide)⟩
    refine s_seq ?_
    refine s_asg (K := K) (cl := cl) S (by walk_at "ev") ?_
    intro w5 G5 H5 g5 r5
    obtain ⟨rfl, rfl, -⟩ := g5.eq rfl
    obtain ⟨z4, rfl, h40, h41⟩ : ∃ z, w5 = .int z ∧ 0 ≤ z ∧ z < 2305843009213693951 := ⟨_, r5.of_int, Int.emod_nonneg _ (by decide), Int.emod_lt_of_pos _ (by decide)⟩
    refine s_retG S (eg_lst (K := K) (cl := cl) (F := fun v G' M' => ∃ p s, v = .ref p ∧ M' = (p, .lst [.int s]) :: M) (by walk_at "ea") (Nat.le_of_ble_eq_true rfl) fun u vs G' s r => ?_) ?_
    · obtain ⟨x, rfl, hx⟩ := reps1 r
      rw [hx.of_int]
      exact ⟨u, _, rfl, rfl⟩
    · rintro v G' H' M' s' S' ⟨p, z, rfl, rfl⟩
      exact q p z G' s' s' H' S'
theorem rd_law_digit {K : PySem.W.Frag} {cl : Nat → Addr} {vs H Q E} (h : sp_law_digit K cl vs H Q E) : t_law_digit K cl ⟨fun _ H' => Q .non H', Q, fun _ _ => False, fun _ _ => False⟩ (start ["state", "many", "digit"] vs) H := by
  obtain ⟨G, M, S, a, s, m, M0, rfl, rfl, h0, h1, q⟩ := h
  unfold t_law_digit
  refine s_seq ?_
  refine s_asg (K := K) (cl := cl) S (by walk_at "ev") ?_
  intro v G1 H1 g r
  obtain ⟨rfl, rfl, -⟩ := g.eq rfl
  obtain rfl := r.of_int
  refine s_seq ?_
  refine s_set (K := K) (cl := cl) (j := 0) S (by walk_at "ev") (by walk_at "ev") (by walk_at "ev") (fun v => Ch.hd) rfl ?_
  intro v G1 H1 s1 S1 r
  obtain rfl := r.of_int
  refine s_ret (K := K) (cl := cl) S1 (by walk_at "ev") fun w G2 H2 g2 r2 => ?_
  obtain ⟨rfl, rfl, -⟩ := g2.eq rfl
  obtain rfl := r2.of_int
  exact q _ s1 s1 _ S1
theorem rd_law_large {K : PySem.W.Frag} {cl : Nat → Addr} {vs H Q E} (h : sp_law_large K cl vs H Q E) : t_law_large K cl ⟨fun _ H' => Q .non H', Q, fun _ _ => False, fun _ _ => False⟩ (start ["script"] vs) H := by
  obtain ⟨G, M, S, v, ns, rfl, r0, q⟩ := h
  unfold t_law_large
  refine eg_state (K := K) (cl := cl) (M1 := M) (c := ns.getD 0 0) (k := 97) (E := E0) (by walk_at "ea") G H (Same.refl _) S _ ?_
  rintro x G1 H1 M1 s1 S1 ⟨p, s, rfl, rfl⟩
  refine ⟨G1, _, S1, p, s, 4, M, rfl, rfl, by decide, by decide, fun G2 s2 _ H2 S2 => ?_⟩
  refine .inl ⟨rfl, ?_⟩
  exact q _ G2 (s1.trans s2) (s1.trans s2) H2 S2.drop
theorem pick_str {ds : List D} {n : Nat} (h : ds.all (fun d => match d with | .str x => decide (x.length ≤ 100) | _ => false) = true) (hn : n < ds.length) : ∃ x, ds.getD n .non = .str x ∧ x.length ≤ 100 := by
  have h1 := List.all_eq_true.mp h (ds[n]) (List.getElem_mem hn)
  have e : ds.getD n .non = ds[n] := by simp [List.getD, hn]
  rw [e]
  cases q : ds[n] <;> rw [q] at h1 <;> simp at h1
  exact ⟨_, rfl, h1⟩
local macro_rules | `(tactic| walk_at "ix") => `(tactic| first | assumption | exact rfl | ((refine atI_getD D.non ?_ ?_); omega; (simp only [List.length_cons, List.length_nil]; omega)))
section
variable {K : PySem.W.Frag} {cl : Nat → Addr}
theorem ev_mkBand {p : Bool} {M M1 : ML} {G : Hp} {σ : St} {tx : TA} {E : XK} {a b c d e : D} (ha : EvA K cl p tx σ G M [a, b, c, d, e] M1) : EvX K cl false (tMake (cl 0) (sp_Band_init K cl) [] E tx) σ G M (.ins 0 ["label", "prefix", "from_hour", "to_hour", "price"] [a, b, c, d, e]) M1 := ev_make ha ⟨rfl, rfl⟩
theorem ev_mkTariff {p : Bool} {M M1 : ML} {G : Hp} {σ : St} {tx : TA} {E : XK} {a : D} {bs : List D} (ha : EvA K cl p tx σ G M [a, .tup bs] M1) : EvX K cl false (tMake (cl 1) (sp_Tariff_init K cl) [] E tx) σ G M (.ins 1 ["setup_price", "bands"] [a, .tup bs]) M1 := ev_make ha ⟨_, _, rfl, rfl⟩
theorem ev_holds {p q : Bool} {M M1 M2 : ML} {G : Hp} {σ : St} {ta : TE} {tx : TA} {E : XK} {b : Band} {c : Str} {t : Int} (he : EvX K cl p ta σ G M (Band.d b) M1) (ha : EvA K cl q tx σ G M1 [.str c, .int t] M2) : EvX K cl false (tMeth (cl 0) "holds" (sp_Band_holds K cl) [] E ta tx) σ G M (.bl (b.holds c t)) M2 :=
  ev_meth he ha (by decide +kernel) ⟨_, _, _, rfl, rfl⟩
theorem ev_bandat {p q : Bool} {M M1 M2 : ML} {G : Hp} {σ : St} {ta : TE} {tx : TA} {E : XK} {tf : Tariff} {c : Str} {t : Int} (he : EvX K cl p ta σ G M (Tariff.d tf) M1) (ha : EvA K cl q tx σ G M1 [.str c, .int t] M2) (ok : tf.Ok) : EvX K cl false (tMeth (cl 1) "band_at" (sp_Tariff_band_at K cl) [] E ta tx) σ G M (optD Band.d (tf.at c t)) M2 :=
  ev_meth he ha (by decide +kernel) ⟨_, _, _, rfl, ok, rfl⟩
theorem ev_lawband {p : Bool} {M M1 : ML} {G : Hp} {σ : St} {tx : TA} {E : XK} {tf : Tariff} {c : Str} {t : Int} (ha : EvA K cl p tx σ G M [Tariff.d tf, .str c, .int t] M1) (ok : tf.Ok) (hc : c.length ≤ 1000) : EvX K cl false (tCall (sp_law_band K cl) [] E tx) σ G M (optD Band.d (tf.at c t)) M1 :=
  ev_call ha ⟨_, _, _, rfl, ok, hc, rfl⟩
end
local macro_rules | `(tactic| walk_at "evcall") => `(tactic| first
  | ((with_reducible apply ev_mkBand); walk_at "ea") | ((with_reducible apply ev_mkTariff); walk_at "ea")
  | ((with_reducible apply ev_holds); walk_at "ev"; walk_at "ea") | ((with_reducible apply ev_bandat); walk_at "ev"; walk_at "ea"; assumption) | ((with_reducible apply ev_lawband); walk_at "ea"; assumption; assumption))
theorem okS_app {x y : Str} (hx : okS x = true) (hy : okS y = true) : okS (x ++ y) = true := by
  unfold okS at hx hy ⊢
  have e : (x ++ y).cps = x.cps ++ y.cps := rfl
  rw [e, Array.all_append, hx, hy]
  rfl
def bandL (i : Nat) : Str := "band" ++ Str.ofString (toString (i : Int))
theorem labels_40 : ((List.range 40).map bandL ++ [Str.ofString "other"]).Nodup := by decide +kernel
theorem labels_nd {n : Nat} (h : n ≤ 40) : ((List.range n).map bandL ++ [Str.ofString "other"]).Nodup := by
  refine List.Nodup.sublist ?_ labels_40
  refine List.Sublist.append (List.Sublist.map _ ?_) (List.Sublist.refl _)
  exact List.range_sublist.mpr h
theorem other_ok {a b c : Int} : Band.Ok ⟨"other", "", a, b, c⟩ := ⟨(by decide +kernel : (Str.ofString "").length ≤ 1000), (by decide +kernel : okS "other" = true)⟩
theorem okS_num (n : Int) : okS (Str.ofString (toString n)) = true := by
  unfold okS
  rw [Str.ofString_eq_toList]
  simp only [List.all_toArray, List.all_map, List.all_eq_true]
  intro c hc
  have := int_ascii n c hc
  simp
  omega
theorem rd_Band_holds {K : PySem.W.Frag} {cl : Nat → Addr} [Cf K cl] {vs H Q E} (h : sp_Band_holds K cl vs H Q E) : t_Band_holds K cl ⟨fun _ H' => Q .non H', Q, fun _ _ => False, fun _ _ => False⟩ (start ["self", "called", "clock", "hour"] vs) H := by
  obtain ⟨ds, d, G, M, ⟨b, c, t, rfl, rfl⟩, S, rs, k⟩ := h
  obtain ⟨v0, vs, rfl, r0, rs⟩ := rs.uncons
  obtain ⟨v1, v2, rfl, r1, r2⟩ := reps2 rs
  obtain rfl := r1.of_str
  obtain rfl := r2.of_int
  unfold t_Band_holds
  refine s_seq ?_
  refine s_asg (K := K) (cl := cl) S (by walk_at "ev") ?_
  intro v3 G1 H1 g1 r3
  obtain ⟨rfl, rfl, -⟩ := g1.eq rfl
  obtain rfl := r3.of_int
  refine s_ret (K := K) (cl := cl) S (by walk_at "ev") ?_
  intro v G1 H1 g r
  exact k v G1 H1 g.same g.sep r
theorem rd_Band_init {K : PySem.W.Frag} {cl : Nat → Addr} [Cf K cl] {vs H Q E} (h : sp_Band_init K cl vs H Q E) : t_Band_init K cl ⟨fun _ H' => Q .non H', Q, fun _ _ => False, fun _ _ => False⟩ (start ["self", "label", "prefix", "from_hour", "to_hour", "price"] vs) H := by
  obtain ⟨x, dx, us, ds, es, G, M, rfl, ⟨hl, rfl⟩, S, rs, k⟩ := h
  obtain ⟨v1, v2, v3, v4, v5, rfl⟩ : ∃ a b c d e, us = [a, b, c, d, e] := by
    rw [← rs.length] at hl
    match us, hl with
    | [a, b, c, d, e], _ => exact ⟨a, b, c, d, e, rfl⟩
  match es, hl, rs with
  | [d1, d2, d3, d4, d5], _, rs =>
  obtain ⟨_, _, e, r1, rs1⟩ := rs.uncons; cases e
  obtain ⟨_, _, e, r2, rs2⟩ := rs1.uncons; cases e
  obtain ⟨_, _, e, r3, rs3⟩ := rs2.uncons; cases e
  obtain ⟨_, _, e, r4, rs4⟩ := rs3.uncons; cases e
  obtain ⟨_, _, e, r5, rs5⟩ := rs4.uncons; cases e
  unfold t_Band_init
  refine s_seq ?_
  refine s_fldN S (by walk_at "ev") (by walk_at "ev") (fun v => Ch.hd) (by walk_at "cf") (by walk_at "cf") rfl (by decide +kernel) (by decide) ?_
  intro w1 G1 H1 s1 S1 q1
  refine s_seq ?_
  refine s_fldN S1 (by walk_at "ev") (by walk_at "ev") (fun v => Ch.hd) (by walk_at "cf") (by walk_at "cf") rfl (by decide +kernel) (by decide) ?_
  intro w2 G2 H2 s2 S2 q2
  refine s_seq ?_
  refine s_fldN S2 (by walk_at "ev") (by walk_at "ev") (fun v => Ch.hd) (by walk_at "cf") (by walk_at "cf") rfl (by decide +kernel) (by decide) ?_
  intro w3 G3 H3 s3 S3 q3
  refine s_seq ?_
  refine s_fldN S3 (by walk_at "ev") (by walk_at "ev") (fun v => Ch.hd) (by walk_at "cf") (by walk_at "cf") rfl (by decide +kernel) (by decide) ?_
  intro w4 G4 H4 s4 S4 q4
  refine s_fldN S4 (by walk_at "ev") (by walk_at "ev") (fun v => Ch.hd) (by walk_at "cf") (by walk_at "cf") rfl (by decide +kernel) (by decide) ?_
  intro w5 G5 H5 s5 S5 q5
  exact k [w1, w2, w3, w4, w5] G5 H5 (by walk_at "same") S5 rfl (Reps.cons (by walk_at "repc") (Reps.cons (by walk_at "repc") (Reps.cons (by walk_at "repc") (Reps.cons (by walk_at "repc") (Reps.one q5)))))
theorem rd_Tariff_init {K : PySem.W.Frag} {cl : Nat → Addr} [Cf K cl] {vs H Q E} (h : sp_Tariff_init K cl vs H Q E) : t_Tariff_init K cl ⟨fun _ H' => Q .non H', Q, fun _ _ => False, fun _ _ => False⟩ (start ["self", "setup_price", "bands"] vs) H := by
  obtain ⟨x, dx, us, ds, es, G, M, rfl, ⟨y, bs, rfl, rfl⟩, S, rs, k⟩ := h
  obtain ⟨v1, v2, rfl, r1, r2⟩ := reps2 rs
  unfold t_Tariff_init
  refine s_seq ?_
  refine s_fldN S (by walk_at "ev") (by walk_at "ev") (fun v => Ch.hd) (by walk_at "cf") (by walk_at "cf") rfl (by decide +kernel) (by decide) ?_
  intro w1 G1 H1 s1 S1 q1
  refine s_fldN S1 (by walk_at "ev") (by walk_at "ev") (fun v => Ch.hd) (by walk_at "cf") (by walk_at "cf") rfl (by decide +kernel) (by decide) ?_
  intro w2 G2 H2 s2 S2 q2
  exact k [w1, w2] G2 H2 (by walk_at "same") S2 rfl (Reps.cons (by walk_at "repc") (Reps.one q2))
theorem Tariff.at_ok {c : Str} {t : Int} : ∀ {bs : List Band} {o : Option Band} {x : Band}, (∀ b ∈ bs, Band.Ok b) → (∀ b, o = some b → Band.Ok b) → bs.foldl (better c t) o = some x → Band.Ok x
  | [], o, x, _, h, e => h x e
  | b :: bs, o, x, hb, h, e => by
    refine Tariff.at_ok (bs := bs) (fun y hy => hb y (List.mem_cons_of_mem _ hy)) (fun y hy => ?_) e
    unfold better at hy
    by_cases q : (b.holds c t && beats b o) = true
    · rw [if_pos q] at hy
      cases hy
      exact hb _ (List.mem_cons_self ..)
    · rw [if_neg q] at hy
      exact h y hy
theorem rd_Tariff_band_at {K : PySem.W.Frag} {cl : Nat → Addr} [Cf K cl] {vs H Q E} (h : sp_Tariff_band_at K cl vs H Q E) : t_Tariff_band_at K cl ⟨fun _ H' => Q .non H', Q, fun _ _ => False, fun _ _ => False⟩ (start ["self", "called", "clock", "best", "band"] vs) H := by
  obtain ⟨ds, d, G, M, ⟨tf, c, t, rfl, ok, rfl⟩, S, rs, k⟩ := h
  obtain ⟨v0, vs, rfl, r0, rs⟩ := rs.uncons
  obtain ⟨v1, v2, rfl, r1, r2⟩ := reps2 rs
  obtain rfl := r1.of_str
  obtain rfl := r2.of_int
  unfold t_Tariff_band_at
  refine s_seq ?_
  refine s_asg (K := K) (cl := cl) S (by walk_at "ev") ?_
  intro w1 G1 H1 g1 q1
  obtain ⟨rfl, rfl, -⟩ := g1.eq rfl
  obtain rfl := q1.of_non
  refine s_seq ?_
  refine s_forT (K := K) (cl := cl) (fun i σ G' M' => M' = M ∧ ∃ b w, σ = [some v0, some (.str c), some (.int t), some b, w] ∧ Rep K cl G' b (optD Band.d ((tf.bands.take i).foldl (better c t) none))) S (by walk_at "ev") ?_ ?_ ?_
  · intro G2 H2 g2
    exact ⟨rfl, _, _, rfl, Rep.non⟩
  · rintro G2 s2 i x d σ' G3 H3 M3 hd s3 S3 r3 ⟨rfl, b, w, rfl, rb⟩
    rw [List.getElem?_map] at hd
    cases hb : tf.bands[i]? with
    | none => rw [hb] at hd; cases hd
    | some y =>
    rw [hb] at hd
    cases hd
    refine s_gname ?_
    have hy : y.pre.length ≤ 1000 := (ok y (List.mem_of_getElem? hb)).1
    have e1 : (tf.bands.take (i + 1)).foldl (better c t) none = better c t ((tf.bands.take i).foldl (better c t) none) y := by
      rw [List.take_add_one, hb, List.foldl_append]
      rfl
    have hbst : ∀ z, (tf.bands.take i).foldl (better c t) none = some z → z.pre.length ≤ 1000 := fun z hz => And.left <| Tariff.at_ok (fun y hy => ok y (List.mem_of_mem_take hy)) (fun _ e => by cases e) hz
    generalize (tf.bands.take i).foldl (better c t) none = best at rb e1 hbst
    apply s_if (K := K) (cl := cl) (b := y.holds c t && (best.isNone || beats y best)) S3
    · apply et_and
      · walk_at "et"
      intro _
      apply et_or
      · rw [← optD_isNon]
        walk_at "et"
      intro hn
      obtain ⟨z, rfl⟩ : ∃ z, best = some z := by cases best with
        | none => cases hn
        | some z => exact ⟨z, rfl⟩
      have hz := hbst z rfl
      simp only [optD] at rb
      simp only [beats]
      walk_at "et"
    · intro G4 H4 g4 hc
      refine s_asg (K := K) (cl := cl) g4.sep (by have := g4.same; walk_at "ev") ?_
      intro w2 G5 H5 g5 q5
      obtain ⟨rfl, rfl, -⟩ := g5.eq rfl
      refine ⟨_, _, s3.trans g4.same, g4.sep, rfl, _, _, rfl, ?_⟩
      rw [e1]
      rw [better, if_pos (by cases best <;> simpa [beats] using hc)]
      exact q5
    · intro G4 H4 g4 hc
      refine s_next ⟨_, _, s3.trans g4.same, g4.sep, rfl, _, _, rfl, ?_⟩
      rw [e1]
      rw [better, if_neg (by cases best <;> simpa [beats] using hc)]
      exact rb.mono g4.same
  · rintro σ' G3 H3 M3 s3 S3 ⟨rfl, b, w, rfl, rb⟩
    rw [List.length_map, List.take_length] at rb
    refine s_ret (K := K) (cl := cl) S3 (by walk_at "ev") fun v G4 H4 g4 q4 => ?_
    exact k v G4 H4 (s3.trans g4.same) g4.sep q4
theorem starts_cut (x y : Str) : decide (cutS x none (some (y.length : Int)) = y) = Txt.startswith x y := by
  have hx : x.cps.toList.length = x.length := by simp [Str.length]
  have hy : y.cps.toList.length = y.length := by simp [Str.length]
  have e1 : (cutS x none (some (y.length : Int))).cps.toList = x.cps.toList.take y.length := by
    unfold cutS
    rw [HT.sIx_none, HT.sIx_nat, List.drop_zero, Nat.sub_zero]
    show (List.take (min y.length x.length) x.cps.toList) = _
    rw [← hx]
    exact List.take_eq_take_min.symm
  unfold Txt.startswith
  rw [PySem.StrLaws.subAt_eq, List.drop_zero]
  by_cases h : cutS x none (some (y.length : Int)) = y
  · rw [decide_eq_true h]
    rw [h] at e1
    have hl : y.length ≤ x.length := by
      have := congrArg List.length e1
      rw [hy, List.length_take, hx] at this
      omega
    rw [← e1]
    simp [hl]
  · rw [decide_eq_false h]
    symm
    rw [Bool.and_eq_false_iff]
    right
    rw [beq_eq_false_iff_ne]
    intro q
    rw [← e1] at q
    exact h (PySem.Str.ext' (Array.toList_inj.mp q))
theorem holds_law {b : Band} {c : Str} {t : Int} : (decide (cutS c none (some (b.pre.length : Int)) = b.pre) && (decide (b.lo ≤ t % 86400 / 3600) && decide (t % 86400 / 3600 < b.hi))) = b.holds c t := by rw [starts_cut, Band.holds]
theorem rd_law_band {K : PySem.W.Frag} {cl : Nat → Addr} [Cf K cl] {vs H Q E} (h : sp_law_band K cl vs H Q E) : t_law_band K cl ⟨fun _ H' => Q .non H', Q, fun _ _ => False, fun _ _ => False⟩ (start ["tariff", "called", "clock", "hour", "best", "band", "fits"] vs) H := by
  obtain ⟨ds, d, G, M, ⟨tf, c, t, rfl, ok, hcl, rfl⟩, S, rs, k⟩ := h
  obtain ⟨v0, vs, rfl, r0, rs⟩ := rs.uncons
  obtain ⟨v1, v2, rfl, r1, r2⟩ := reps2 rs
  obtain rfl := r1.of_str
  obtain rfl := r2.of_int
  unfold t_law_band
  refine s_seq ?_
  refine s_asg (K := K) (cl := cl) S (by walk_at "ev") ?_
  intro w1 G1 H1 g1 q1
  obtain ⟨rfl, rfl, -⟩ := g1.eq rfl
  obtain rfl := q1.of_int
  refine s_seq ?_
  refine s_asg (K := K) (cl := cl) S (by walk_at "ev") ?_
  intro w1 G1 H1 g1 q2
  obtain ⟨rfl, rfl, -⟩ := g1.eq rfl
  obtain rfl := q2.of_non
  refine s_seq ?_
  refine s_forT (K := K) (cl := cl) (fun i σ G' M' => M' = M ∧ ∃ b w f, σ = [some v0, some (.str c), some (.int t), some (.int (t % 86400 / 3600)), some b, w, f] ∧ Rep K cl G' b (optD Band.d ((tf.bands.take i).foldl (better c t) none))) S (by walk_at "ev") ?_ ?_ ?_
  · intro G2 H2 g2
    exact ⟨rfl, _, _, _, rfl, Rep.non⟩
  · rintro G2 s2 i x d σ' G3 H3 M3 hd s3 S3 r3 ⟨rfl, b, w, f, rfl, rb⟩
    rw [List.getElem?_map] at hd
    cases hb : tf.bands[i]? with
    | none => rw [hb] at hd; cases hd
    | some y =>
    rw [hb] at hd
    cases hd
    refine s_gname ?_
    have hy : y.pre.length ≤ 1000 := (ok y (List.mem_of_getElem? hb)).1
    have e1 : (tf.bands.take (i + 1)).foldl (better c t) none = better c t ((tf.bands.take i).foldl (better c t) none) y := by
      rw [List.take_add_one, hb, List.foldl_append]
      rfl
    have hbst : ∀ z, (tf.bands.take i).foldl (better c t) none = some z → z.pre.length ≤ 1000 := fun z hz => And.left <| Tariff.at_ok (fun y hy => ok y (List.mem_of_mem_take hy)) (fun _ e => by cases e) hz
    generalize (tf.bands.take i).foldl (better c t) none = best at rb e1 hbst
    refine s_seq ?_
    refine s_asg (K := K) (cl := cl) S3 (by walk_at "ev") ?_
    intro w3 G4 H4 g4 q4
    rw [holds_law] at q4
    obtain rfl := q4.of_bl
    have s4 := g4.same
    apply s_if (K := K) (cl := cl) (b := y.holds c t && (best.isNone || beats y best)) g4.sep
    · apply et_and
      · walk_at "et"
      intro _
      apply et_or
      · rw [← optD_isNon]
        walk_at "et"
      intro hn
      obtain ⟨z, rfl⟩ : ∃ z, best = some z := by cases best with
        | none => cases hn
        | some z => exact ⟨z, rfl⟩
      have hz := hbst z rfl
      simp only [optD] at rb
      simp only [beats]
      walk_at "et"
    · intro G5 H5 g5 hc
      have s5 := g5.same
      refine s_asg (K := K) (cl := cl) g5.sep (by walk_at "ev") ?_
      intro w2 G6 H6 g6 q5
      obtain ⟨rfl, rfl, -⟩ := g6.eq rfl
      refine ⟨_, _, by walk_at "same", g5.sep, rfl, _, _, _, rfl, ?_⟩
      rw [e1]
      rw [better, if_pos (by cases best <;> simpa [beats] using hc)]
      exact q5
    · intro G5 H5 g5 hc
      have s5 := g5.same
      refine s_next ⟨_, _, by walk_at "same", g5.sep, rfl, _, _, _, rfl, ?_⟩
      rw [e1]
      rw [better, if_neg (by cases best <;> simpa [beats] using hc)]
      walk_at "repc"
  · rintro σ' G3 H3 M3 s3 S3 ⟨rfl, b, w, f, rfl, rb⟩
    rw [List.length_map, List.take_length] at rb
    refine s_ret (K := K) (cl := cl) S3 (by walk_at "ev") fun v G4 H4 g4 q4 => ?_
    exact k v G4 H4 (s3.trans g4.same) g4.sep q4
theorem eg_tariff {K : PySem.W.Frag} {cl : Nat → Addr} {p : Bool} {M M1 : ML} {M2 : Int → ML} {G : Hp} {σ : St} {tx : TA} {E : XK} {a : Addr} {s : Int} (ha : EvA K cl p tx σ G M [.loc a] M1) (hc : ∀ z, Ch M1 a (.lst [.int s]) (.lst [.int z]) (M2 z)) :
    EvG (tCall (sp_law_tariff K cl) [] E tx) σ G M fun v G' M' => ∃ tf z, tf.Ok ∧ tf.Uniq ∧ Rep K cl G' v (Tariff.d tf) ∧ M' = M2 z := fun G1 H1 s1 S Q kk =>
  ha G1 H1 s1 S _ fun xs G2 H2 g2 rx => by
    obtain ⟨u, rfl, hu⟩ := reps1 rx
    obtain ⟨M0, p1, p2⟩ := (hc 0).perm
    refine ⟨G2, (a, .lst [.int s]) :: M0, g2.sep.perm p1, a, s, M0, by rw [hu.of_loc]; rfl, rfl, fun v tf z G' s' ok uq r _ H' S' => ?_⟩
    have p3 : (M2 z).Perm ((a, .lst [.int z]) :: M0) := Ch.perm_to (hc z) p1
    exact kk v G' H' _ (g2.same.trans s') (S'.perm p3.symm) ⟨tf, z, ok, uq, r, rfl⟩
theorem eg_called {K : PySem.W.Frag} {cl : Nat → Addr} {p : Bool} {M M1 : ML} {M2 : Int → ML} {G : Hp} {σ : St} {tx : TA} {E : XK} {a : Addr} {s : Int} (ha : EvA K cl p tx σ G M [.loc a] M1) (hc : ∀ z, Ch M1 a (.lst [.int s]) (.lst [.int z]) (M2 z)) :
    EvG (tCall (sp_law_called K cl) [] E tx) σ G M fun v G' M' => ∃ x z, v = .str x ∧ x.length ≤ 1000 ∧ M' = M2 z := fun G1 H1 s1 S Q kk =>
  ha G1 H1 s1 S _ fun xs G2 H2 g2 rx => by
    obtain ⟨u, rfl, hu⟩ := reps1 rx
    obtain ⟨M0, p1, p2⟩ := (hc 0).perm
    refine ⟨G2, (a, .lst [.int s]) :: M0, g2.sep.perm p1, a, s, M0, by rw [hu.of_loc]; rfl, rfl, fun x z G' s' ok _ H' S' => ?_⟩
    have p3 : (M2 z).Perm ((a, .lst [.int z]) :: M0) := Ch.perm_to (hc z) p1
    exact kk _ G' H' _ (g2.same.trans s') (S'.perm p3.symm) ⟨x, z, rfl, ok, rfl⟩
theorem eg_many {K : PySem.W.Frag} {cl : Nat → Addr} {p : Bool} {M M1 : ML} {G : Hp} {σ : St} {tx : TA} {E : XK} {c : Str} {u : Int} (ha : EvA K cl p tx σ G M [.str c, .int u] M1) (hc : c.length ≤ 1000) (h0 : -1000000000000 < u) (h1 : u < 1000000000000) :
    EvG (tCall (sp_law_many K cl) [] E tx) σ G M fun v G' M' => ∃ tf, tf.Ok ∧ tf.Uniq ∧ Rep K cl G' v (Tariff.d tf) ∧ M' = M1 := fun G1 H1 s1 S Q kk =>
  ha G1 H1 s1 S _ fun xs G2 H2 g2 rx => by
    obtain ⟨x, y, rfl, hx, hy⟩ := reps2 rx
    exact ⟨G2, M1, g2.sep, c, u, by rw [hx.of_str, hy.of_int]; rfl, hc, h0, h1, fun v tf G' s' ok uq r _ H' S' => kk v G' H' _ (g2.same.trans s') S' ⟨tf, ok, uq, r, rfl⟩⟩
theorem rd_law_tariff {K : PySem.W.Frag} {cl : Nat → Addr} [Cf K cl] {vs H Q E} (h : sp_law_tariff K cl vs H Q E) : t_law_tariff K cl ⟨fun _ H' => Q .non H', Q, fun _ _ => False, fun _ _ => False⟩ (start ["state", "bands", "k", "prefix", "low", "high"] vs) H := by
  obtain ⟨G, M, S, a, s, M0, rfl, rfl, q⟩ := h
  unfold t_law_tariff
  refine s_seq ?_
  refine s_asgG S eg_nil ?_
  rintro _ G1 H1 M1 s1 S1 ⟨p, rfl, rfl⟩
  refine s_seq ?_
  apply s_forR1 (K := K) (cl := cl) (fun i σ G' M' => ∃ z vs bs y2 y3 y4 y5, σ = [some (.ref a), some (.ref p), y2, y3, y4, y5] ∧ M' = (p, .lst vs) :: (a, .lst [.int z]) :: M0 ∧ Reps K cl G' vs (List.map Band.d bs) ∧ (∀ b ∈ bs, Band.Ok b) ∧ bs.map Band.label = (List.range i).map bandL ∧ bs.length = i) S1
  · walk_at "ea"
  · omega
  · intro G2 H2 g2
    exact ⟨_, [], [], _, _, _, _, rfl, rfl, Reps.nil, fun _ h => absurd h List.not_mem_nil, rfl, rfl⟩
  · rintro G2 s2 i σ' G3 H3 M3 hi s3 S3 ⟨z, vs, bs, y2, y3, y4, y5, rfl, rfl, rb, hb, hbl, hlen⟩
    refine s_gname ?_
    have hvl := rb.length
    rw [List.length_map] at hvl
    refine s_seq ?_
    refine s_asg (K := K) (cl := cl) S3 (by walk_at "ev") ?_
    intro w4 G4 H4 g4 r4
    have s4 := g4.same
    have S4 := g4.sep
    clear g4
    obtain ⟨x, hx, hxl⟩ := pick_str (ds := [D.str "", D.str "5", D.str "51", D.str "6", D.str "62", D.str "512"]) (n := (z % 6).toNat) rfl (by show _ < 6; omega)
    rw [hx] at r4
    obtain rfl := r4.of_str
    generalize z / 6 = z1 at S4
    refine s_seq ?_
    refine s_asg (K := K) (cl := cl) S4 (by walk_at "ev") ?_
    intro w5 G5 H5 g5 r5
    have s5 := g5.same
    have S5 := g5.sep
    clear g5
    obtain ⟨low, rfl, hl0, hl1⟩ : ∃ x, w5 = .int x ∧ 0 ≤ x ∧ x < 24 := ⟨_, r5.of_int, by omega, by omega⟩
    generalize z1 / 24 = z2 at S5
    refine s_seq ?_
    refine s_asg (K := K) (cl := cl) S5 (by walk_at "ev") ?_
    intro w6 G6 H6 g6 r6
    have s6 := g6.same
    have S6 := g6.sep
    clear g6
    obtain ⟨high, rfl⟩ : ∃ x, w6 = .int x := ⟨_, r6.of_int⟩
    generalize z2 / (24 - low) = z3 at S6
    have hsl := num_len (n := (i : Int)) (by omega) (by omega)
    have hsb : (Str.ofString "band").length = 4 := by decide +kernel
    refine s_app (K := K) (cl := cl) S6 (by walk_at "ev") (by walk_at "at") (by walk_at "ev") (fun v => Ch.hd) (by omega) ?_
    intro w7 G7 H7 s7 S7 r7
    obtain ⟨b7, r7, hb7⟩ : ∃ b : Band, Rep K cl G7 w7 (Band.d b) ∧ Band.Ok b ∧ b.label = bandL i := ⟨⟨_, _, _, _, _⟩, r7, ⟨Nat.le_trans hxl (by decide), okS_app (by decide +kernel) (okS_num _)⟩, rfl⟩
    refine ⟨G7, _, by walk_at "same", S7, _, vs ++ [w7], bs ++ [b7], _, _, _, _, rfl, rfl, ?_, ?_, ?_, ?_⟩
    · rw [List.map_append]
      exact (Reps.append (by walk_at "repsc") (Reps.one r7))
    · intro b hb'
      rcases List.mem_append.mp hb' with h | h
      · exact hb b h
      · rw [List.mem_singleton.mp h]
        exact hb7.1
    · rw [List.map_append, hbl, List.range_succ, List.map_append]
      show _ ++ [b7.label] = _ ++ [bandL i]
      rw [hb7.2]
    · rw [List.length_append, hlen]
      rfl
  · rintro σ' G3 H3 M3 s3 S3 ⟨z, vs, bs, y2, y3, y4, y5, rfl, rfl, rb, hb, hbl, hlen⟩
    have hvl := rb.length
    rw [List.length_map] at hvl
    have fin : ∀ {nx : St → Hp → Prop} {bk ct : St → Hp → Prop} (z' : Int) (vs' : List V) (bs' : List Band) (y2 y3 y4 y5 : Option V) (G' H' : Hp), Same G G' → Sep G' H' ((p, .lst vs') :: (a, .lst [.int z']) :: M0) → Reps K cl G' vs' (List.map Band.d bs') → (∀ b ∈ bs', Band.Ok b) → (bs'.map Band.label).Nodup →
        tRet (tMake (cl 1) (sp_Tariff_init K cl) [] E0 (tCons (tCall (sp_law_digit K cl) [] E0 (tCons (tVar 0) (tCons (tC (.int 30)) tNil))) (tCons (tCB (rTupA K) (tCons (tVar 1) tNil)) tNil))) ⟨nx, Q, bk, ct⟩ [some (.ref a), some (.ref p), y2, y3, y4, y5] H' := by
      intro nx bk ct z' vs' bs' y2 y3 y4 y5 G' H' s' S' rb' hb' hu'
      refine s_ret (K := K) (cl := cl) S' (by walk_at "ev") fun v G4 H4 g4 r4 => ?_
      obtain ⟨tf, rt, htf⟩ : ∃ tf : Tariff, Rep K cl G4 v (Tariff.d tf) ∧ tf.bands = bs' := ⟨⟨_, _⟩, r4, rfl⟩
      have s4 := g4.same
      exact q v tf _ G4 (by walk_at "same") (fun b hb => hb' b (htf ▸ hb)) (by unfold Tariff.Uniq; rw [htf]; exact hu') rt (by walk_at "same") H4 g4.sep.drop
    refine s_seq ?_
    refine s_if (K := K) (cl := cl) S3 (by walk_at "et") ?_ ?_
    · intro G4 H4 g4 hc
      have s4 := g4.same
      have S4 := g4.sep
      refine s_app (K := K) (cl := cl) S4 (by walk_at "ev") (by walk_at "at") (by walk_at "ev") (fun v => Ch.hd) (by omega) ?_
      intro w7 G7 H7 s7 S7 r7
      obtain ⟨b7, r7, hb7⟩ : ∃ b : Band, Rep K cl G7 w7 (Band.d b) ∧ Band.Ok b ∧ b.label = "other" := ⟨⟨_, _, _, _, _⟩, r7, other_ok, rfl⟩
      refine fin _ _ (bs ++ [b7]) _ _ _ _ G7 H7 (by walk_at "same") S7 ?_ ?_ ?_
      · rw [List.map_append]
        exact (Reps.append (by walk_at "repsc") (Reps.one r7))
      · intro b hb'
        rcases List.mem_append.mp hb' with h | h
        · exact hb b h
        · rw [List.mem_singleton.mp h]
          exact hb7.1
      · rw [List.map_append, hbl]
        show (_ ++ [b7.label]).Nodup
        rw [hb7.2]
        exact labels_nd (by omega)
    · intro G4 H4 g4 hc
      have s4 := g4.same
      exact s_next (fin _ _ bs _ _ _ _ G4 H4 (by walk_at "same") g4.sep (by walk_at "repsc") hb (by rw [hbl]; exact (List.nodup_append.mp (labels_nd (by omega))).1))
theorem rd_law_called {K : PySem.W.Frag} {cl : Nat → Addr} [Cf K cl] {vs H Q E} (h : sp_law_called K cl vs H Q E) : t_law_called K cl ⟨fun _ H' => Q .non H', Q, fun _ _ => False, fun _ _ => False⟩ (start ["state"] vs) H := by
  obtain ⟨G, M, S, a, s, M0, rfl, rfl, q⟩ := h
  unfold t_law_called
  obtain ⟨x, hx, hxl⟩ := pick_str (ds := [D.str "5", D.str "6", D.str "512", D.str "51", D.str "62", D.str "7"]) (n := (s % 6).toNat) rfl (by show _ < 6; omega)
  have hsl := num_len (n := s / 6 % 30) (by omega) (by omega)
  refine s_ret (K := K) (cl := cl) S (ev_op (EvX.is (by walk_at "ev") hx) (by walk_at "ev") (by walk_at "op2")) fun v G1 H1 g r => ?_
  obtain rfl := r.of_str
  exact q _ _ G1 g.same (app_len hxl hsl (by omega)) g.same H1 g.sep
theorem cutS_len {x : Str} {a b : Option Int} {n : Nat} (h : x.length ≤ n) : (cutS x a b).length ≤ n := by
  have hx : x.cps.toList.length = x.length := by simp [Str.length]
  unfold cutS
  show (List.toArray _).size ≤ n
  rw [List.size_toArray, List.length_take, List.length_drop, hx]
  omega
theorem rd_law_many {K : PySem.W.Frag} {cl : Nat → Addr} [Cf K cl] {vs H Q E} (h : sp_law_many K cl vs H Q E) : t_law_many K cl ⟨fun _ H' => Q .non H', Q, fun _ _ => False, fun _ _ => False⟩ (start ["called", "unit", "bands", "k", "low", "high"] vs) H := by
  obtain ⟨G, M, S, c, u, rfl, hc, h0, h1, q⟩ := h
  unfold t_law_many
  refine s_seq ?_
  refine s_asgG S eg_nil ?_
  rintro _ G1 H1 M1 s1 S1 ⟨p, rfl, rfl⟩
  refine s_seq ?_
  apply s_forR1 (K := K) (cl := cl) (fun i σ G' M' => ∃ vs bs y3 y4 y5, σ = [some (.str c), some (.int u), some (.ref p), y3, y4, y5] ∧ M' = (p, .lst vs) :: M ∧ Reps K cl G' vs (List.map Band.d bs) ∧ (∀ b ∈ bs, Band.Ok b) ∧ bs.map Band.label = (List.range i).map bandL ∧ bs.length = i) S1
  · walk_at "ea"
  · omega
  · intro G2 H2 g2
    exact ⟨[], [], _, _, _, rfl, rfl, Reps.nil, fun _ h => absurd h List.not_mem_nil, rfl, rfl⟩
  · rintro G2 s2 i σ' G3 H3 M3 hi s3 S3 ⟨vs, bs, y3, y4, y5, rfl, rfl, rb, hb, hbl, hlen⟩
    refine s_gname ?_
    have hvl := rb.length
    rw [List.length_map] at hvl
    refine s_seq ?_
    refine s_asg (K := K) (cl := cl) S3 (by walk_at "ev") ?_
    intro w4 G4 H4 g4 r4
    obtain ⟨rfl, rfl, -⟩ := g4.eq rfl
    obtain ⟨low, rfl, hl0, hl1⟩ : ∃ x, w4 = .int x ∧ 0 ≤ x ∧ x < 24 := ⟨_, r4.of_int, by omega, by omega⟩
    refine s_seq ?_
    refine s_asg (K := K) (cl := cl) S3 (by walk_at "ev") ?_
    intro w5 G5 H5 g5 r5
    obtain ⟨rfl, rfl, -⟩ := g5.eq rfl
    obtain ⟨high, rfl⟩ : ∃ x, w5 = .int x := ⟨_, r5.of_int⟩
    have hsl := num_len (n := (i : Int)) (by omega) (by omega)
    have hsb : (Str.ofString "band").length = 4 := by decide +kernel
    refine s_app (K := K) (cl := cl) S3 (by walk_at "ev") (by walk_at "at") (by walk_at "ev") (fun v => Ch.hd) (by omega) ?_
    intro w7 G7 H7 s7 S7 r7
    obtain ⟨b7, r7, hb7⟩ : ∃ b : Band, Rep K cl G7 w7 (Band.d b) ∧ Band.Ok b ∧ b.label = bandL i := ⟨⟨_, _, _, _, _⟩, r7, ⟨cutS_len hc, okS_app (by decide +kernel) (okS_num _)⟩, rfl⟩
    refine ⟨G7, _, by walk_at "same", S7, vs ++ [w7], bs ++ [b7], _, _, _, rfl, rfl, ?_, ?_, ?_, ?_⟩
    · rw [List.map_append]
      exact (Reps.append (by walk_at "repsc") (Reps.one r7))
    · intro b hb'
      rcases List.mem_append.mp hb' with h | h
      · exact hb b h
      · rw [List.mem_singleton.mp h]
        exact hb7.1
    · rw [List.map_append, hbl, List.range_succ, List.map_append]
      show _ ++ [b7.label] = _ ++ [bandL i]
      rw [hb7.2]
    · rw [List.length_append, hlen]
      rfl
  · rintro σ' G3 H3 M3 s3 S3 ⟨vs, bs, y3, y4, y5, rfl, rfl, rb, hb, hbl, hlen⟩
    have hvl := rb.length
    rw [List.length_map] at hvl
    refine s_seq ?_
    refine s_app (K := K) (cl := cl) S3 (by walk_at "ev") (by walk_at "at") (by walk_at "ev") (fun v => Ch.hd) (by omega) ?_
    intro w7 G7 H7 s7 S7 r7
    obtain ⟨b7, r7, hb7⟩ : ∃ b : Band, Rep K cl G7 w7 (Band.d b) ∧ Band.Ok b ∧ b.label = "other" := ⟨⟨_, _, _, _, _⟩, r7, other_ok, rfl⟩
    have rb' : Reps K cl G7 (vs ++ [w7]) (List.map Band.d (bs ++ [b7])) := by
      rw [List.map_append]
      exact (Reps.append (by walk_at "repsc") (Reps.one r7))
    refine s_ret (K := K) (cl := cl) S7 (by walk_at "ev") fun v G4 H4 g4 r4 => ?_
    obtain ⟨tf, rt, htf⟩ : ∃ tf : Tariff, Rep K cl G4 v (Tariff.d tf) ∧ tf.bands = bs ++ [b7] := ⟨⟨_, _⟩, r4, rfl⟩
    have s4 := g4.same
    refine q v tf G4 (by walk_at "same") (fun b hb' => ?_) (by
      unfold Tariff.Uniq
      rw [htf, List.map_append, hbl]
      show (_ ++ [b7.label]).Nodup
      rw [hb7.2]
      exact labels_nd (by omega)) rt (by walk_at "same") H4 g4.sep.drop
    rw [htf] at hb'
    rcases List.mem_append.mp hb' with h | h
    · exact hb b h
    · rw [List.mem_singleton.mp h]
      exact hb7.1
theorem pick_int {ds : List D} {n : Nat} (h : ds.all (fun d => match d with | .int _ => true | _ => false) = true) (hn : n < ds.length) : ∃ x, ds.getD n .non = .int x := by
  have h1 := List.all_eq_true.mp h (ds[n]) (List.getElem_mem hn)
  have e : ds.getD n .non = ds[n] := by simp [List.getD, hn]
  rw [e]
  cases q : ds[n] <;> rw [q] at h1 <;> simp at h1
  exact ⟨_, rfl⟩
theorem ev_stretches {K : PySem.W.Frag} {cl : Nat → Addr} {p : Bool} {M M1 : ML} {G : Hp} {σ : St} {tx : TA} {E : XK} {tf : Tariff} {c : Str} {start begin till : Int} (ha : EvA K cl p tx σ G M [Tariff.d tf, .str c, .int start, .int begin, .int till] M1) (ok : tf.Ok) (h0 : 0 ≤ begin) (h1 : begin < till) (h2 : till ≤ 1000000) :
    EvX K cl false (tCall (sp_stretches K cl) [] E tx) σ G M (optD (fun l => .lst (List.map stD l)) (stretchesF tf c start begin till)) M1 := ev_call ha ⟨_, _, _, _, _, rfl, ok, h0, h1, h2, rfl⟩
theorem ev_law_stretches {K : PySem.W.Frag} {cl : Nat → Addr} {p : Bool} {M M1 : ML} {G : Hp} {σ : St} {tx : TA} {E : XK} {tf : Tariff} {c : Str} {start begin till : Int} (ha : EvA K cl p tx σ G M [Tariff.d tf, .str c, .int start, .int begin, .int till] M1) (ok : tf.Ok) (hc : c.length ≤ 1000) (h0 : 0 ≤ begin) (h1 : begin < till) (h2 : till ≤ 1000000) :
    EvX K cl false (tCall (sp_law_stretches K cl) [] E tx) σ G M (optD (fun l => .lst (List.map lD l)) (secF tf c start begin (till - begin).toNat)) M1 := ev_call ha ⟨_, _, _, _, _, rfl, ok, hc, h0, h1, h2, rfl⟩
local macro_rules | `(tactic| walk_at "evcall") => `(tactic| first
  | ((with_reducible apply ev_stretches); walk_at "ea"; assumption; walk_at "num"; walk_at "num"; walk_at "num")
  | ((with_reducible apply ev_law_stretches); walk_at "ea"; assumption; walk_at "num"; walk_at "num"; walk_at "num"; walk_at "num"))
theorem getLast_map {α β : Type} {f : α → β} {l : List α} {x : α} (h : l.getLast? = some x) : atI (l.map f) (-1) = some (f x) := atI_last' (by rw [List.getLast?_map, h]; rfl)
theorem ixN_last {n : Nat} (h : 0 < n) : ixN n (-1) = some (n - 1) := by
  unfold ixN
  rw [if_neg (by decide), if_pos (by omega)]
  congr 1
  omega
theorem rd_stretches {K : PySem.W.Frag} {cl : Nat → Addr} [Cf K cl] {vs H Q E} (h : sp_stretches K cl vs H Q E) : t_stretches K cl ⟨fun _ H' => Q .non H', Q, fun _ _ => False, fun _ _ => False⟩ (start ["tariff", "called", "start", "begin", "till", "found", "place", "band", "after"] vs) H := by
  obtain ⟨ds, d, G, M, ⟨tf, c, st, begin, till, rfl, ok, h0, h1, h2, rfl⟩, S, rs, q⟩ := h
  obtain ⟨v0, _, _, _, _, rfl, r0, r1, r2, r3, r4⟩ := reps5 rs
  clear rs
  obtain rfl := r1.of_str
  obtain rfl := r2.of_int
  obtain rfl := r3.of_int
  obtain rfl := r4.of_int
  unfold t_stretches
  refine s_seq ?_
  refine s_asgG S eg_nil ?_
  rintro _ G1 H1 M1 s1 S1 ⟨p, rfl, rfl⟩
  refine s_seq ?_
  refine s_asg (K := K) (cl := cl) S1 (by walk_at "ev") ?_
  intro w2 G2 H2 g2 q2
  obtain ⟨rfl, rfl, -⟩ := g2.eq rfl
  obtain rfl := q2.of_int
  refine s_seq ?_
  refine s_while (K := K) (cl := cl) (fun m σ G' M' => ∃ place f us y7 y8, σ = [some v0, some (.str c), some (.int st), some (.int begin), some (.int till), some (.ref p), some (.int place), y7, y8] ∧ M' = (p, .lst us) :: M ∧ Reps K cl G' us (List.map stD f) ∧ begin ≤ place ∧ place ≤ till ∧ till - place ≤ m ∧ f.length ≤ (place - begin).toNat ∧
    strGo tf c st till m place f = stretchesF tf c st begin till) (till - begin).toNat S1 ⟨begin, [], [], _, _, rfl, rfl, Reps.nil, Int.le_refl _, Int.le_of_lt h1, by omega, Nat.zero_le _, rfl⟩ ?_
  rintro m σ' G3 H3 M3 s3 S3 ⟨place, f, us, y7, y8, rfl, rfl, rf, hp0, hp1, hm, hfl, hgo⟩
  refine wh_turn (b := decide (place < till)) (by walk_at "et") ⟨fun hc G4 H4 g4 => ?_, fun hc G4 H4 g4 => ?_⟩
  · obtain ⟨rfl, rfl, -⟩ := g4.eq rfl
    have hlt : place < till := of_decide_eq_true hc
    obtain ⟨n, rfl⟩ : ∃ n, m = n + 1 := ⟨m - 1, by omega⟩
    rw [strGo, if_pos hlt] at hgo
    have g1 := nextH_gt (start := st) hlt
    have g2 := nextH_le (start := st) (till := till) (place := place)
    refine s_seq ?_
    refine s_asg (K := K) (cl := cl) S3 (by walk_at "ev") ?_
    intro w5 G5 H5 g5 q5
    have s5 := g5.same
    have S5 := g5.sep
    clear g5
    cases hb : tf.at c (st + place) with
    | none =>
      rw [hb] at q5 hgo
      obtain rfl := q5.of_non
      refine s_seq ?_
      refine s_if (K := K) (cl := cl) S5 (by walk_at "et") ?_ ?_
      · intro G6 H6 g6 _
        obtain ⟨rfl, rfl, -⟩ := g6.eq rfl
        refine s_ret (K := K) (cl := cl) S5 (by walk_at "ev") fun v G7 H7 g7 r7 => ?_
        obtain ⟨rfl, rfl, -⟩ := g7.eq rfl
        refine q v G7 H7 (by walk_at "same") S5.drop ?_
        rw [← hgo]
        exact r7
      · intro G6 H6 g6 hc6
        cases hc6
    | some b =>
    rw [hb] at q5 hgo
    simp only [optD] at q5
    have hbok := (Tariff.at_mem hb)
    refine s_seq ?_
    refine s_if (K := K) (cl := cl) S5 (by walk_at "et") ?_ ?_
    · intro G6 H6 g6 hc6
      cases hc6
    intro G6 H6 g6 _
    obtain ⟨rfl, rfl, -⟩ := g6.eq rfl
    refine s_next ?_
    refine s_seq ?_
    refine s_asg (K := K) (cl := cl) S5 (by walk_at "ev") ?_
    intro w7 G7 H7 g7 q7
    obtain ⟨rfl, rfl, -⟩ := g7.eq rfl
    obtain rfl : w7 = .int (nextH st till place) := q7.of_int
    clear q7
    generalize hnx : nextH st till place = nx at *
    have hul := rf.length
    rw [List.length_map] at hul
    refine s_seq ?_
    apply s_ifJ (K := K) (cl := cl) (fun σ G' M' => ∃ us', σ = [some v0, some (.str c), some (.int st), some (.int begin), some (.int till), some (.ref p), some (.int place), some w5, some (.int nx)] ∧ M' = (p, .lst us') :: M ∧ Reps K cl G' us' (List.map stD (push Band.label f b place nx))) S5 (b := !us.isEmpty && (match f.getLast? with | none => false | some x => decide (x.1.label = b.label)))
    · apply et_and
      · walk_at "et"
      intro hne
      cases hgl : f.getLast? with
      | none =>
        have : f = [] := List.getLast?_eq_none_iff.mp hgl
        rw [this] at hul
        have : us = [] := List.length_eq_zero_iff.mp hul
        rw [this] at hne
        cases hne
      | some x =>
        have hix := getLast_map (f := stD) hgl
        walk_at "et"
    · intro kk G8 H8 g8 hc8
      obtain ⟨rfl, rfl, -⟩ := g8.eq rfl
      cases hgl : f.getLast? with
      | none => simp [hgl] at hc8
      | some x =>
      have hlb : x.1.label = b.label := by simp [hgl] at hc8; exact hc8.2
      have hix := getLast_map (f := stD) hgl
      have hpos : 0 < us.length := by
        rw [hul]
        cases f with
        | nil => cases hgl
        | cons _ _ => simp
      refine s_set (K := K) (cl := cl) (j := us.length - 1) S5 (by walk_at "ev") (by walk_at "ev") (by walk_at "ev") (fun v => Ch.hd) (ixN_last hpos) ?_
      intro w9 G9 H9 s9 S9 r9
      refine kk _ G9 H9 _ s9 S9 ⟨_, rfl, rfl, ?_⟩
      have e : push Band.label f b place nx = f.set (f.length - 1) (b, x.2.1, nx) := by
        unfold push
        simp only [hgl]
        rw [if_pos hlb]
      rw [e, List.map_set, hul]
      exact Reps.set _ (by walk_at "repsc") r9
    · intro kk G8 H8 g8 hc8
      obtain ⟨rfl, rfl, -⟩ := g8.eq rfl
      have e : push Band.label f b place nx = f ++ [(b, place, nx)] := by
        unfold push
        cases hgl : f.getLast? with
        | none => rfl
        | some x =>
          have hne : us.isEmpty = false := by
            cases us with
            | nil =>
              have : f = [] := List.length_eq_zero_iff.mp hul.symm
              rw [this] at hgl
              cases hgl
            | cons _ _ => rfl
          simp [hgl, hne] at hc8
          show (if x.1.label = b.label then _ else _) = _
          rw [if_neg hc8]
      refine s_app (K := K) (cl := cl) S5 (by walk_at "ev") (by walk_at "at") (by walk_at "ev") (fun v => Ch.hd) (by omega) ?_
      intro w9 G9 H9 s9 S9 r9
      refine kk _ G9 H9 _ s9 S9 ⟨_, rfl, rfl, ?_⟩
      rw [e, List.map_append]
      exact Reps.append (by walk_at "repsc") (Reps.one r9)
    rintro σ' G8 H8 M8 s8 S8 ⟨us', rfl, rfl, rf'⟩
    refine s_asg (K := K) (cl := cl) S8 (by walk_at "ev") ?_
    intro w9 G9 H9 g9 q9
    obtain ⟨rfl, rfl, -⟩ := g9.eq rfl
    obtain rfl := q9.of_int
    refine ⟨n, by omega, _, _, by walk_at "same", S8, nx, _, us', _, _, rfl, rfl, rf', by omega, g2, by omega, ?_, hgo⟩
    have := push_len (lb := Band.label) (f := f) (b := b) (lo := place) (hi := nx)
    omega
  · obtain ⟨rfl, rfl, -⟩ := g4.eq rfl
    have hge : ¬ place < till := of_decide_eq_false hc
    have hres : stretchesF tf c st begin till = some f := by
      rw [← hgo]
      cases m with
      | zero => rfl
      | succ n => rw [strGo, if_neg hge]
    refine s_retF S3 rfl rf fun G5 s5 S5 r5 => ?_
    rw [hres] at q
    exact q _ G5 _ (by walk_at "same") S5 r5
theorem rd_law_stretches {K : PySem.W.Frag} {cl : Nat → Addr} [Cf K cl] {vs H Q E} (h : sp_law_stretches K cl vs H Q E) : t_law_stretches K cl ⟨fun _ H' => Q .non H', Q, fun _ _ => False, fun _ _ => False⟩ (start ["tariff", "called", "start", "begin", "till", "found", "second", "band"] vs) H := by
  obtain ⟨ds, d, G, M, ⟨tf, c, st, begin, till, rfl, ok, hcl, h0, h1, h2, rfl⟩, S, rs, q⟩ := h
  obtain ⟨v0, _, _, _, _, rfl, r0, r1, r2, r3, r4⟩ := reps5 rs
  clear rs
  obtain rfl := r1.of_str
  obtain rfl := r2.of_int
  obtain rfl := r3.of_int
  obtain rfl := r4.of_int
  unfold t_law_stretches
  refine s_seq ?_
  refine s_asgG S eg_nil ?_
  rintro _ G1 H1 M1 s1 S1 ⟨p, rfl, rfl⟩
  refine s_seq ?_
  apply s_forR2 (K := K) (cl := cl) (fun i σ G' M' => ∃ f us y6 y7, σ = [some v0, some (.str c), some (.int st), some (.int begin), some (.int till), some (.ref p), y6, y7] ∧ M' = (p, .lst us) :: M ∧ Reps K cl G' us (List.map lD f) ∧ secF tf c st begin i = some f) S1
  · walk_at "ea"
  · omega
  · intro G2 H2 g2
    exact ⟨[], [], _, _, rfl, rfl, Reps.nil, rfl⟩
  · rintro G2 s2 i σ' G3 H3 M3 hi s3 S3 ⟨f, us, y6, y7, rfl, rfl, rf, hf⟩
    refine s_gname ?_
    have hfl := secF_len hf
    have hul := rf.length
    rw [List.length_map] at hul
    refine s_seq ?_
    refine s_asg (K := K) (cl := cl) S3 (by walk_at "ev") ?_
    intro w5 G5 H5 g5 q5
    have s5 := g5.same
    have S5 := g5.sep
    clear g5
    cases hb : tf.at c (st + (begin + i)) with
    | none =>
      have hsec : secF tf c st begin (i + 1) = none := by
        rw [secF, hf]
        have : lab tf c st (begin + i) = none := by unfold lab; rw [hb]; rfl
        simp only [this]
      rw [hb] at q5
      obtain rfl := q5.of_non
      refine s_seq ?_
      refine s_if (K := K) (cl := cl) S5 (by walk_at "et") ?_ ?_
      · intro G6 H6 g6 _
        obtain ⟨rfl, rfl, -⟩ := g6.eq rfl
        refine s_ret (K := K) (cl := cl) S5 (by walk_at "ev") fun v G7 H7 g7 r7 => ?_
        obtain ⟨rfl, rfl, -⟩ := g7.eq rfl
        refine q v G7 H7 (by walk_at "same") S5.drop ?_
        rw [secF_none hsec _ (by omega)]
        exact r7
      · intro G6 H6 g6 hc6
        cases hc6
    | some b =>
    have hl : lab tf c st (begin + i) = some b.label := by unfold lab; rw [hb]; rfl
    have hsec : secF tf c st begin (i + 1) = some (push id f b.label (begin + i) (begin + i + 1)) := by
      rw [secF, hf]
      simp only [hl]
    rw [hb] at q5
    simp only [optD] at q5
    refine s_seq ?_
    refine s_if (K := K) (cl := cl) S5 (by walk_at "et") ?_ ?_
    · intro G6 H6 g6 hc6
      cases hc6
    intro G6 H6 g6 _
    obtain ⟨rfl, rfl, -⟩ := g6.eq rfl
    refine s_next ?_
    apply s_if (K := K) (cl := cl) S5 (b := decide (0 < (us.length : Int)) && (match f.getLast? with | none => false | some x => decide (x.1 = b.label)))
    · apply et_and
      · walk_at "et"
      intro hne
      cases hgl : f.getLast? with
      | none =>
        have : f = [] := List.getLast?_eq_none_iff.mp hgl
        rw [this] at hul
        rw [hul] at hne
        cases hne
      | some x =>
        have hix := getLast_map (f := lD) hgl
        walk_at "et"
    · intro G8 H8 g8 hc8
      obtain ⟨rfl, rfl, -⟩ := g8.eq rfl
      cases hgl : f.getLast? with
      | none => simp [hgl] at hc8
      | some x =>
      have hlb : x.1 = b.label := by simp [hgl] at hc8; exact hc8.2
      have hix := getLast_map (f := lD) hgl
      have hpos : 0 < us.length := by
        rw [hul]
        cases f with
        | nil => cases hgl
        | cons _ _ => simp
      refine s_set (K := K) (cl := cl) (j := us.length - 1) S5 (by walk_at "ev") (by walk_at "ev") (by walk_at "ev") (fun v => Ch.hd) (ixN_last hpos) ?_
      intro w9 G9 H9 s9 S9 r9
      refine ⟨G9, _, by walk_at "same", S9, _, _, _, _, rfl, rfl, ?_, hsec⟩
      have e : push id f b.label (begin + i) (begin + i + 1) = f.set (f.length - 1) (b.label, x.2.1, begin + i + 1) := by
        unfold push
        simp only [hgl]
        exact if_pos hlb
      rw [e, List.map_set, hul]
      exact Reps.set _ (by walk_at "repsc") r9
    · intro G8 H8 g8 hc8
      obtain ⟨rfl, rfl, -⟩ := g8.eq rfl
      have e : push id f b.label (begin + i) (begin + i + 1) = f ++ [(b.label, begin + i, begin + i + 1)] := by
        unfold push
        cases hgl : f.getLast? with
        | none => rfl
        | some x =>
          have hpos : 0 < us.length := by
            rw [hul]
            cases f with
            | nil => cases hgl
            | cons _ _ => simp
          simp [hgl, hpos] at hc8
          simp only
          exact if_neg hc8
      refine s_app (K := K) (cl := cl) S5 (by walk_at "ev") (by walk_at "at") (by walk_at "ev") (fun v => Ch.hd) (by omega) ?_
      intro w9 G9 H9 s9 S9 r9
      refine ⟨G9, _, by walk_at "same", S9, _, _, _, _, rfl, rfl, ?_, hsec⟩
      rw [e, List.map_append]
      exact Reps.append (by walk_at "repsc") (Reps.one r9)
  · rintro σ' G3 H3 M3 s3 S3 ⟨f, us, y6, y7, rfl, rfl, rf, hf⟩
    refine s_retF S3 rfl rf fun G5 s5 S5 r5 => ?_
    rw [hf] at q
    exact q _ G5 _ (by walk_at "same") S5 r5
theorem ev_price_lines {K : PySem.W.Frag} {cl : Nat → Addr} {p : Bool} {M M1 : ML} {G : Hp} {σ : St} {tx : TA} {E : XK} {tf : Tariff} {c : Str} {start begin till : Int} (ha : EvA K cl p tx σ G M [Tariff.d tf, .str c, .int start, .int begin, .int till] M1) (ok : tf.Ok) (h0 : 0 ≤ begin) (h1 : begin < till) (h2 : till ≤ 1000000) :
    EvX K cl false (tCall (sp_price_lines K cl) [] E tx) σ G M (optD (fun l => .lst (List.map l4D l)) (priceF tf c start begin till)) M1 := ev_call ha ⟨_, _, _, _, _, rfl, ok, h0, h1, h2, rfl⟩
theorem ev_law_price {K : PySem.W.Frag} {cl : Nat → Addr} {p : Bool} {M M1 : ML} {G : Hp} {σ : St} {tx : TA} {E : XK} {tf : Tariff} {l : Str} {b : Band} (ha : EvA K cl p tx σ G M [Tariff.d tf, .str l] M1) (hf : tf.bands.find? (fun b => decide (b.label = l)) = some b) :
    EvX K cl false (tCall (sp_law_price K cl) [] E tx) σ G M (.int b.price) M1 := ev_call ha ⟨_, _, rfl, by rw [hf]; rfl⟩
local macro_rules | `(tactic| walk_at "evcall") => `(tactic| first
  | ((with_reducible apply ev_price_lines); walk_at "ea"; assumption; walk_at "num"; walk_at "num"; walk_at "num")
  | ((with_reducible apply ev_law_price); walk_at "ea"; assumption))
theorem rd_price_lines {K : PySem.W.Frag} {cl : Nat → Addr} [Cf K cl] {vs H Q E} (h : sp_price_lines K cl vs H Q E) : t_price_lines K cl ⟨fun _ H' => Q .non H', Q, fun _ _ => False, fun _ _ => False⟩ (start ["tariff", "called", "start", "begin", "till", "pieces", "lines", "band", "low", "high", "minutes"] vs) H := by
  obtain ⟨ds, d, G, M, ⟨tf, c, st, begin, till, rfl, ok, h0, h1, h2, rfl⟩, S, rs, q⟩ := h
  obtain ⟨v0, _, _, _, _, rfl, r0, r1, r2, r3, r4⟩ := reps5 rs
  clear rs
  obtain rfl := r1.of_str
  obtain rfl := r2.of_int
  obtain rfl := r3.of_int
  obtain rfl := r4.of_int
  unfold t_price_lines
  refine s_seq ?_
  refine s_asg (K := K) (cl := cl) S (by walk_at "ev") ?_
  intro w5 G1 H1 g1 q5
  have s1 := g1.same
  have S1 := g1.sep
  clear g1
  unfold priceF at q
  cases hst : stretchesF tf c st begin till with
  | none =>
    rw [hst] at q5 q
    obtain rfl := q5.of_non
    refine s_seq ?_
    refine s_if (K := K) (cl := cl) S1 (by walk_at "et") ?_ ?_
    · intro G6 H6 g6 _
      obtain ⟨rfl, rfl, -⟩ := g6.eq rfl
      refine s_ret (K := K) (cl := cl) S1 (by walk_at "ev") fun v G7 H7 g7 r7 => ?_
      obtain ⟨rfl, rfl, -⟩ := g7.eq rfl
      exact q v G7 H7 (by walk_at "same") S1 r7
    · intro G6 H6 g6 hc6
      cases hc6
  | some f =>
  rw [hst] at q5 q
  simp only [optD, Option.map_some] at q5 q
  obtain ⟨hfl, hmem, hbd⟩ := stretches_facts h1 hst
  refine s_seq ?_
  refine s_if (K := K) (cl := cl) S1 (by walk_at "et") ?_ ?_
  · intro G6 H6 g6 hc6
    cases hc6
  intro G6 H6 g6 _
  obtain ⟨rfl, rfl, -⟩ := g6.eq rfl
  refine s_next ?_
  refine s_seq ?_
  refine s_asgG S1 (eg_lst (K := K) (cl := cl) (F := fun v G' M' => ∃ p us, v = .ref p ∧ M' = (p, .lst us) :: M ∧ Reps K cl G' us [l4D ("setup", begin, begin, tf.setup)]) (by walk_at "ea") (Nat.le_of_ble_eq_true rfl) fun u vs G' s r => ⟨u, vs, rfl, rfl, r⟩) ?_
  rintro _ G2 H2 M2 s2 S2 ⟨p, us, rfl, rfl, ru⟩
  refine s_seq ?_
  apply s_forL (K := K) (cl := cl) (fun i σ G' M' => ∃ us y7 y8 y9 y10, σ = [some v0, some (.str c), some (.int st), some (.int begin), some (.int till), some w5, some (.ref p), y7, y8, y9, y10] ∧ M' = (p, .lst us) :: M ∧ Reps K cl G' us (List.map l4D (("setup", begin, begin, tf.setup) :: (f.take i).map pl))) S2
  · walk_at "ev"
  · intro G3 H3 g3
    obtain ⟨rfl, rfl, -⟩ := g3.eq rfl
    exact ⟨us, _, _, _, _, rfl, rfl, ru⟩
  · rintro G3 s3 i x d σ' G4 H4 M4 hd s4 S4 r4' ⟨us, y7, y8, y9, y10, rfl, rfl, ru⟩
    rw [List.getElem?_map] at hd
    cases hx : f[i]? with
    | none => rw [hx] at hd; cases hd
    | some y =>
    rw [hx] at hd
    cases hd
    have hym := List.mem_of_getElem? hx
    have hyb := hbd y hym
    have hul := ru.length
    have hil : i < f.length := (List.getElem?_eq_some_iff.mp hx).1
    simp only [List.length_map, List.length_cons, List.length_take] at hul
    refine g_tup S4 r4' rfl rfl fun xs rxs => ?_
    obtain ⟨x1, x2, x3, rfl, q1, q2, q3⟩ := reps3 rxs
    obtain rfl := q2.of_int
    obtain rfl := q3.of_int
    refine s_seq ?_
    refine s_asg (K := K) (cl := cl) S4 (by walk_at "ev") ?_
    intro w10 G5 H5 g5 q10
    obtain ⟨rfl, rfl, -⟩ := g5.eq rfl
    obtain rfl := q10.of_int
    refine s_app (K := K) (cl := cl) S4 (by walk_at "ev") (by walk_at "at") (by walk_at "ev") (fun v => Ch.hd) (by omega) ?_
    intro w11 G6 H6 s6 S6 r6
    refine ⟨G6, _, by walk_at "same", S6, _, _, _, _, _, rfl, rfl, ?_⟩
    rw [List.take_add_one, hx, List.map_append, ← List.cons_append, List.map_append]
    exact Reps.append (by walk_at "repsc") (Reps.one r6)
  · rintro σ' G4 H4 M4 s4 S4 ⟨us, y7, y8, y9, y10, rfl, rfl, ru⟩
    rw [List.length_map, List.take_length] at ru
    refine s_retF S4 rfl ru fun G5 s5 S5 r5 => ?_
    exact q _ G5 _ (by walk_at "same") S5 r5
theorem rd_law_price {K : PySem.W.Frag} {cl : Nat → Addr} [Cf K cl] {vs H Q E} (h : sp_law_price K cl vs H Q E) : t_law_price K cl ⟨fun _ H' => Q .non H', Q, fun _ _ => False, fun _ _ => False⟩ (start ["tariff", "label", "band"] vs) H := by
  obtain ⟨ds, d, G, M, ⟨tf, l, rfl, rfl⟩, S, rs, q⟩ := h
  obtain ⟨v0, _, rfl, r0, r1⟩ := reps2 rs
  clear rs
  obtain rfl := r1.of_str
  unfold t_law_price
  refine s_seq ?_
  apply s_forT (K := K) (cl := cl) (fun i σ G' M' => M' = M ∧ (∃ y2, σ = [some v0, some (.str l), y2]) ∧ ∀ b ∈ tf.bands.take i, ¬ b.label = l) S
  · walk_at "ev"
  · intro G1 H1 g1
    exact ⟨rfl, ⟨_, rfl⟩, fun b hb => by simp at hb⟩
  · rintro G1 s1 i x d σ' G2 H2 M2 hd s2 S2 r2 ⟨rfl, ⟨y2, rfl⟩, hno⟩
    rw [List.getElem?_map] at hd
    cases hx : tf.bands[i]? with
    | none => rw [hx] at hd; cases hd
    | some y =>
    rw [hx] at hd
    cases hd
    refine s_gname ?_
    refine s_if (K := K) (cl := cl) S2 (by walk_at "et") ?_ ?_
    · intro G3 H3 g3 hc
      obtain ⟨rfl, rfl, -⟩ := g3.eq rfl
      refine s_ret (K := K) (cl := cl) S2 (by walk_at "ev") fun v G4 H4 g4 r4 => ?_
      obtain ⟨rfl, rfl, -⟩ := g4.eq rfl
      refine q v _ _ (by walk_at "same") S2 ?_
      have hil : i < tf.bands.length := (List.getElem?_eq_some_iff.mp hx).1
      have e : tf.bands = tf.bands.take i ++ y :: tf.bands.drop (i + 1) := by
        have h1 := List.take_append_drop i tf.bands
        rw [List.drop_eq_getElem_cons hil] at h1
        rw [List.getElem?_eq_getElem hil] at hx
        rw [Option.some.inj hx] at h1
        exact h1.symm
      have hf : tf.bands.find? (fun b => decide (b.label = l)) = some y := by
        rw [e, List.find?_append, List.find?_eq_none.mpr (fun b hb => by simpa using hno b hb), List.find?_cons, hc]
        rfl
      rw [hf]
      exact r4
    · intro G3 H3 g3 hc
      obtain ⟨rfl, rfl, -⟩ := g3.eq rfl
      refine s_next ⟨_, _, by walk_at "same", S2, rfl, ⟨_, rfl⟩, fun b hb => ?_⟩
      rw [List.take_add_one, hx] at hb
      rcases List.mem_append.mp hb with e | e
      · exact hno b e
      · rw [List.mem_singleton.mp e]
        exact of_decide_eq_false hc
  · rintro σ' G2 H2 M2 s2 S2 ⟨rfl, ⟨y2, rfl⟩, hno⟩
    rw [List.length_map, List.take_length] at hno
    have hf : tf.bands.find? (fun b => decide (b.label = l)) = none := List.find?_eq_none.mpr (fun b hb => by simpa using hno b hb)
    rw [hf] at q
    refine s_ret (K := K) (cl := cl) S2 (by walk_at "ev") fun v G4 H4 g4 r4 => ?_
    exact q v _ _ (s2.trans g4.same) g4.sep r4
theorem pick_all {P : D → Prop} {ds : List D} {n : Nat} (h : ∀ d ∈ ds, P d) (hn : n < ds.length) : P (ds.getD n .non) := by
  have e : ds.getD n .non = ds[n] := by simp [List.getD, hn]
  rw [e]
  exact h _ (List.getElem_mem hn)
theorem l4D_dat {f : List L4} (h : ∀ x ∈ f, okS x.1 = true) : (D.lst (List.map l4D f)).isDat = true := by
  simp only [D.isDat]
  refine D.areDat_mem fun d hd => ?_
  obtain ⟨y, hy, rfl⟩ := List.mem_map.mp hd
  simp only [D.isDat, D.areDat, Bool.and_true]
  exact h y hy
theorem l4D_dep {f : List L4} : (D.lst (List.map l4D f)).dep ≤ 64 := by
  simp only [D.dep]
  have : D.deps (List.map l4D f) ≤ 1 := D.deps_mem fun d hd => by
    obtain ⟨y, hy, rfl⟩ := List.mem_map.mp hd
    simp [D.dep, D.deps]
  omega
theorem rd_law {K : PySem.W.Frag} {cl : Nat → Addr} [Cf K cl] {vs H Q E} (h : sp_law K cl vs H Q E) : t_law K cl ⟨fun _ H' => Q .non H', Q, fun _ _ => False, fun _ _ => False⟩ (start ["script", "large", "k", "state", "tariff", "called", "start", "begin", "till", "pieces", "told", "due", "label", "low", "high", "begun", "second"] vs) H := by
  obtain ⟨G, M, S, v0, ns, rfl, r0, q⟩ := h
  unfold t_law
  refine s_seq ?_
  refine s_asgG S (eg_large (K := K) (cl := cl) (by walk_at "ea")) ?_
  rintro _ G1 H1 M1 s1 S1 ⟨b, rfl, rfl⟩
  refine s_seq ?_
  apply s_forR1 (K := K) (cl := cl) (fun i σ G' M' => M' = M1 ∧ ∃ y2 y3 y4 y5 y6 y7 y8 y9 y10 y11 y12 y13 y14 y15 y16, σ = [some v0, some (.bl b), y2, y3, y4, y5, y6, y7, y8, y9, y10, y11, y12, y13, y14, y15, y16]) S1
  · walk_at "ea"
  · omega
  · intro G2 H2 g2
    exact ⟨rfl, _, _, _, _, _, _, _, _, _, _, _, _, _, _, _, rfl⟩
  · rintro G2 s2 i σ' G3 H3 M3 hi s3 S3 ⟨rfl, y2, y3, y4, y5, y6, y7, y8, y9, y10, y11, y12, y13, y14, y15, y16, rfl⟩
    refine s_gname ?_
    refine s_seq ?_
    refine s_asgG S3 (eg_state (K := K) (cl := cl) (by walk_at "ea")) ?_
    rintro _ G4 H4 M4 s4 S4 ⟨p, z, rfl, rfl⟩
    refine s_seq ?_
    refine s_asgG S4 (eg_tariff (K := K) (cl := cl) (by walk_at "ea") (fun _ => Ch.hd)) ?_
    rintro w4 G5 H5 M5 s5 S5 ⟨tf, z1, ok, uq, rtf, rfl⟩
    refine s_seq ?_
    refine s_asgG S5 (eg_called (K := K) (cl := cl) (by walk_at "ea") (fun _ => Ch.hd)) ?_
    rintro _ G6 H6 M6 s6 S6 ⟨cd, z2, rfl, hcd, rfl⟩
    refine s_seq ?_
    apply s_ifJ (K := K) (cl := cl) (fun σ G' M' => ∃ w4 tf cd, σ = [some v0, some (.bl b), some (.int (i : Int)), some (.ref p), some w4, some (.str cd), y6, y7, y8, y9, y10, y11, y12, y13, y14, y15, y16] ∧ Tariff.Ok tf ∧ Tariff.Uniq tf ∧ Rep K cl G' w4 (Tariff.d tf) ∧ Str.length cd ≤ 1000 ∧ M' = (p, .lst [.int z2]) :: M3) S6
    · walk_at "et"
    · intro kk G9 H9 g9 hc
      obtain ⟨rfl, rfl, -⟩ := g9.eq rfl
      have hsl := num_len (n := 10 + (i : Int)) (by omega) (by omega)
      have hsb : (Str.ofString "5123456789012").length = 13 := by decide +kernel
      refine s_seq ?_
      refine s_asg (K := K) (cl := cl) S6 (by walk_at "ev") ?_
      intro w10 G10 H10 g10 r10
      obtain ⟨rfl, rfl, -⟩ := g10.eq rfl
      obtain ⟨lg, rfl, hlg⟩ : ∃ x, w10 = .str x ∧ x.length ≤ 1000 := ⟨_, r10.of_str, app_len (Nat.le_of_eq hsb) hsl (by omega)⟩
      refine s_asgG S6 (eg_many (K := K) (cl := cl) (by walk_at "ea") (by omega) (by omega) (by omega)) ?_
      rintro w11 G11 H11 M11 s11 S11 ⟨tf', ok', uq', rtf', rfl⟩
      exact kk _ _ _ _ (by walk_at "same") S11 ⟨w11, tf', lg, rfl, ok', uq', rtf', hlg, rfl⟩
    · intro kk G9 H9 g9 hc
      obtain ⟨rfl, rfl, -⟩ := g9.eq rfl
      exact s_next (kk _ _ _ _ (Same.refl _) S6 ⟨w4, tf, cd, rfl, ok, uq, by walk_at "repc", hcd, rfl⟩)
    clear rtf ok uq tf hcd
    rintro σ' G9 H9 M9 s9 S9 ⟨w4, tf, cd, rfl, ok, uq, rtf, hcd, rfl⟩
    refine s_seq ?_
    refine s_asg (K := K) (cl := cl) S9 (by walk_at "ev") ?_
    intro w6 G10 H10 g10 r10
    have s10 := g10.same
    have S10 := g10.sep
    clear g10
    obtain ⟨sta, rfl⟩ : ∃ x, w6 = .int x := ⟨_, r10.of_int⟩
    generalize z2 / 60 / 200 = z3 at S10
    refine s_seq ?_
    obtain ⟨beg, hbeg, hb0, hb1⟩ : ∃ x, [D.int 0, D.int 0, D.int 59, D.int (z3 % 90)].getD (z3 / 90 % 4).toNat .non = .int x ∧ 0 ≤ x ∧ x ≤ 100 := by
      refine pick_all (P := fun d => ∃ x, d = .int x ∧ 0 ≤ x ∧ x ≤ 100) (fun d hd => ?_) (by show _ < 4; omega)
      simp only [List.mem_cons, List.not_mem_nil, or_false] at hd
      rcases hd with rfl | rfl | rfl | rfl <;> exact ⟨_, rfl, by omega, by omega⟩
    refine s_asg (K := K) (cl := cl) (d := .int beg) S10 (EvX.is (by walk_at "ev") hbeg) ?_
    intro w7 G11 H11 g11 r11
    have s11 := g11.same
    have S11 := g11.sep
    clear g11
    obtain rfl := r11.of_int
    generalize z3 / 90 / 4 = z4 at S11
    refine s_seq ?_
    obtain ⟨dur, hdur, hd0, hd1⟩ : ∃ x, [D.int 1, D.int 60, D.int 61, D.int 120, D.int (1 + z4 % 300)].getD (z4 / 300 % 5).toNat .non = .int x ∧ 0 < x ∧ x ≤ 1000 := by
      refine pick_all (P := fun d => ∃ x, d = .int x ∧ 0 < x ∧ x ≤ 1000) (fun d hd => ?_) (by show _ < 5; omega)
      simp only [List.mem_cons, List.not_mem_nil, or_false] at hd
      rcases hd with rfl | rfl | rfl | rfl | rfl <;> exact ⟨_, rfl, by omega, by omega⟩
    refine s_asg (K := K) (cl := cl) S11 (ev_op (by walk_at "ev") (EvX.is (by walk_at "ev") hdur) (by walk_at "op2")) ?_
    intro w8 G12 H12 g12 r12
    have s12 := g12.same
    have S12 := g12.sep
    clear g12
    obtain rfl := r12.of_int
    generalize z4 / 300 / 5 = z5 at S12
    refine s_seq ?_
    apply s_ifJ (K := K) (cl := cl) (fun σ G' M' => ∃ til : Int, σ = [some v0, some (.bl b), some (.int (i : Int)), some (.ref p), some w4, some (.str cd), some (.int sta), some (.int beg), some (.int til), y9, y10, y11, y12, y13, y14, y15, y16] ∧ beg < til ∧ til ≤ 10000 ∧ M' = (p, .lst [.int z5]) :: M3) S12
    · walk_at "et"
    · intro kk G13 H13 g13 hc
      obtain ⟨rfl, rfl, -⟩ := g13.eq rfl
      refine s_asg (K := K) (cl := cl) S12 (by walk_at "ev") ?_
      intro w14 G14 H14 g14 r14
      obtain ⟨rfl, rfl, -⟩ := g14.eq rfl
      obtain rfl := r14.of_int
      exact kk _ _ _ _ (Same.refl _) S12 ⟨_, rfl, by omega, by omega, rfl⟩
    · intro kk G13 H13 g13 hc
      obtain ⟨rfl, rfl, -⟩ := g13.eq rfl
      exact s_next (kk _ _ _ _ (Same.refl _) S12 ⟨_, rfl, by omega, by omega, rfl⟩)
    rintro σ' G13 H13 M13 s13 S13 ⟨til, rfl, ht0, ht1, rfl⟩
    refine s_seq ?_
    refine s_asg (K := K) (cl := cl) S13 (by walk_at "ev") ?_
    intro w9 G14 H14 g14 r14
    have s14 := g14.same
    have S14 := g14.sep
    clear g14
    refine s_seq ?_
    refine s_asg (K := K) (cl := cl) S14 (by walk_at "ev") ?_
    intro w10 G15 H15 g15 r15
    have s15 := g15.same
    have S15 := g15.sep
    clear g15
    rw [stretches_two ht0] at r14
    unfold priceF at r15
    have hfacts : ∀ f, stretchesF tf cd sta beg til = some f → _ := fun f hf => stretches_facts ht0 hf
    generalize stretchesF tf cd sta beg til = o at r14 r15 hfacts
    cases o with
    | none =>
      obtain rfl := r14.of_non
      obtain rfl := r15.of_non
      refine s_if (K := K) (cl := cl) S15 (by walk_at "et") ?_ ?_
      · intro G16 H16 g16 _
        obtain ⟨rfl, rfl, -⟩ := g16.eq rfl
        refine s_if (K := K) (cl := cl) S15 (by walk_at "et") ?_ ?_
        · intro G17 H17 g17 hc
          cases hc
        intro G17 H17 g17 _
        obtain ⟨rfl, rfl, -⟩ := g17.eq rfl
        exact s_next ⟨_, _, by walk_at "same", S15.drop, rfl, _, _, _, _, _, _, _, _, _, _, _, _, _, _, _, rfl⟩
      · intro G16 H16 g16 hc
        cases hc
    | some f =>
    obtain ⟨hfl, hmem, hbd⟩ := hfacts f rfl
    simp only [Option.map_some, optD] at r14 r15
    refine s_if (K := K) (cl := cl) S15 (by walk_at "et") ?_ ?_
    · intro G16 H16 g16 hc
      cases hc
    intro G16 H16 g16 _
    obtain ⟨rfl, rfl, -⟩ := g16.eq rfl
    refine s_seq ?_
    refine s_asgG S15 (eg_lst (K := K) (cl := cl) (F := fun v G' M' => ∃ p' us, v = .ref p' ∧ M' = (p', .lst us) :: (p, .lst [.int z5]) :: M3 ∧ Reps K cl G' us [l4D ("setup", beg, beg, tf.setup)]) (by walk_at "ea") (Nat.le_of_ble_eq_true rfl) fun u vs G' s r => ⟨u, vs, rfl, rfl, r⟩) ?_
    rintro _ G17 H17 M17 s17 S17 ⟨p', us, rfl, rfl, ru⟩
    refine s_seq ?_
    apply s_forL (K := K) (cl := cl) (fun n σ G' M' => ∃ us y12 y13 y14 y15 y16, σ = [some v0, some (.bl b), some (.int (i : Int)), some (.ref p), some w4, some (.str cd), some (.int sta), some (.int beg), some (.int til), some w9, some w10, some (.ref p'), y12, y13, y14, y15, y16] ∧ M' = (p', .lst us) :: (p, .lst [.int z5]) :: M3 ∧ Reps K cl G' us (List.map l4D (("setup", beg, beg, tf.setup) :: (f.take n).map pl))) S17
    · walk_at "ev"
    · intro G18 H18 g18
      obtain ⟨rfl, rfl, -⟩ := g18.eq rfl
      exact ⟨us, _, _, _, _, _, rfl, rfl, ru⟩
    · rintro G18 s18 n x d σ' G19 H19 M19 hd s19 S19 r19 ⟨us, y12, y13, y14, y15, y16, rfl, rfl, ru⟩
      rw [List.map_map, List.getElem?_map] at hd
      cases hx : f[n]? with
      | none => rw [hx] at hd; cases hd
      | some y =>
      rw [hx] at hd
      cases hd
      have hym := List.mem_of_getElem? hx
      have hyb := hbd y hym
      have hul := ru.length
      have hnl : n < f.length := (List.getElem?_eq_some_iff.mp hx).1
      simp only [List.length_map, List.length_cons, List.length_take] at hul
      replace r19 : Rep K cl G19 x (.tup [.str y.1.label, .int y.2.1, .int y.2.2]) := r19
      refine g_tup S19 r19 rfl rfl fun xs rxs => ?_
      obtain ⟨x1, x2, x3, rfl, q1, q2, q3⟩ := reps3 rxs
      obtain rfl := q1.of_str
      obtain rfl := q2.of_int
      obtain rfl := q3.of_int
      refine s_seq ?_
      refine s_asg (K := K) (cl := cl) S19 (by walk_at "ev") ?_
      intro w15 G20 H20 g20 r20
      obtain ⟨rfl, rfl, -⟩ := g20.eq rfl
      obtain rfl := r20.of_int
      refine s_seq ?_
      apply s_forR2 (K := K) (cl := cl) (fun j σ G' M' => ∃ y16, σ = [some v0, some (.bl b), some (.int (i : Int)), some (.ref p), some w4, some (.str cd), some (.int sta), some (.int beg), some (.int til), some w9, some w10, some (.ref p'), some (.str y.1.label), some (.int y.2.1), some (.int y.2.2), some (.int ((((j : Int)) + 59) / 60)), y16] ∧ M' = (p', .lst us) :: (p, .lst [.int z5]) :: M3) S19
      · walk_at "ea"
      · show -1000000000000000 ≤ y.2.1 ∧ y.2.1 ≤ 1000000000000000 ∧ -1000000000000000 ≤ y.2.2 ∧ y.2.2 ≤ 1000000000000000
        omega
      · intro G21 H21 g21
        exact ⟨_, rfl, rfl⟩
      · rintro G21 s21 j σ' G22 H22 M22 hj s22 S22 ⟨y16', rfl, rfl⟩
        have hj' : y.2.1 + (j : Int) < y.2.2 := hj
        refine s_gname ?_
        refine s_asg (K := K) (cl := cl) S22 (by walk_at "ev") ?_
        intro w23 G23 H23 g23 r23
        obtain ⟨rfl, rfl, -⟩ := g23.eq rfl
        obtain ⟨e, rfl, he⟩ : ∃ e, w23 = .int e ∧ e = ((((j + 1 : Nat) : Int)) + 59) / 60 := ⟨_, r23.of_int, by
          show ((j : Int) + 59) / 60 + (if decide ((y.2.1 + (j : Int) - y.2.1) % 60 = 0) = true then 1 else 0) = _
          by_cases hm : (y.2.1 + (j : Int) - y.2.1) % 60 = 0
          · rw [decide_eq_true hm]
            simp only [if_true]
            omega
          · rw [decide_eq_false hm]
            simp only [Bool.false_eq_true, if_false]
            omega⟩
        subst he
        exact ⟨_, _, by walk_at "same", S22, _, rfl, rfl⟩
      · rintro σ' G22 H22 M22 s22 S22 ⟨y16', rfl, rfl⟩
        have hfind := find_label uq (hmem y hym)
        have hb2 : -(2 ^ 64) < (((y.2.2 - y.2.1).toNat : Int) + 59) / 60 ∧ (((y.2.2 - y.2.1).toNat : Int) + 59) / 60 < 2 ^ 64 := by omega
        refine s_app (K := K) (cl := cl) S22 (by walk_at "ev") (by walk_at "at") (by walk_at "ev") (fun v => Ch.hd) (by omega) ?_
        intro w23 G23 H23 s23 S23 r23
        refine ⟨G23, _, by walk_at "same", S23, _, _, _, _, _, _, rfl, rfl, ?_⟩
        rw [List.take_add_one, hx, List.map_append, ← List.cons_append, List.map_append]
        refine Reps.append (by walk_at "repsc") (Reps.one ?_)
        have e : (((y.2.2 - y.2.1).toNat : Int) + 59) / 60 * y.1.price = y.1.price * mins y.2.1 y.2.2 := by
          rw [Int.mul_comm]
          unfold mins
          congr 1
          omega
        rw [e] at r23
        exact r23
    rintro σ' G18 H18 M18 s18 S18 ⟨us, y12, y13, y14, y15, y16, rfl, rfl, ru⟩
    rw [List.length_map, List.length_map, List.take_length] at ru
    obtain ⟨S19, s19⟩ := S18.freeze
    have rp : Rep K cl (upd G18 p' (.lst us)) (.ref p') (.lst (List.map l4D (("setup", beg, beg, tf.setup) :: f.map pl))) := Rep.lst (.inl (.inl upd_same)) (ru.mono s19)
    generalize upd G18 p' (.lst us) = G19 at S19 s19 rp
    have hdat : (D.lst (List.map l4D ((Str.ofString "setup", beg, beg, tf.setup) :: f.map pl))).isDat = true := l4D_dat fun x hx => by
      rcases List.mem_cons.mp hx with rfl | hx
      · exact (by decide +kernel : okS "setup" = true)
      · obtain ⟨y, hy, rfl⟩ := List.mem_map.mp hx
        exact (ok y.1 (hmem y hy)).2
    apply s_if (K := K) (cl := cl) (b := false) S19
    · with_reducible apply EvT.is
      · apply et_test
        apply ev_op
        · walk_at "ev"
        · walk_at "ev"
        · exact o_neD hdat hdat l4D_dep l4D_dep
      · rw [D.eqb_refl hdat]
        rfl
    · intro G20 H20 g20 hc
      cases hc
    intro G20 H20 g20 _
    have s20 := g20.same
    exact s_next ⟨_, _, by walk_at "same", g20.sep.drop, rfl, _, _, _, _, _, _, _, _, _, _, _, _, _, _, _, rfl⟩
  · rintro σ' G3 H3 M3 s3 S3 ⟨rfl, y2, y3, y4, y5, y6, y7, y8, y9, y10, y11, y12, y13, y14, y15, y16, rfl⟩
    refine s_ret (K := K) (cl := cl) S3 (by walk_at "ev") fun v G4 H4 g4 r4 => ?_
    obtain rfl := r4.of_bl
    have s4 := g4.same
    exact q G4 _ (by walk_at "same") (by walk_at "same") H4 g4.sep
local macro_rules | `(tactic| walk_at "ln") => `(tactic| (first
  | (rintro ⟨_, _, _, _, hR, _, rs, _⟩; rw [rs.length]; first | (obtain ⟨e, _⟩ := hR; rw [e]; exact rfl) | (obtain ⟨_, e, _⟩ := hR; rw [e]; exact rfl) | (obtain ⟨_, _, e, _⟩ := hR; rw [e]; exact rfl) | (obtain ⟨_, _, _, e, _⟩ := hR; rw [e]; exact rfl) | (obtain ⟨_, _, _, _, e, _⟩ := hR; rw [e]; exact rfl) | (obtain ⟨_, _, _, _, _, e, _⟩ := hR; rw [e]; exact rfl) | (obtain ⟨_, _, _, _, _, _, e, _⟩ := hR; rw [e]; exact rfl))
  | (rintro ⟨_, _, _, hR⟩; first | (obtain ⟨e, _⟩ := hR; rw [e]; exact rfl) | (obtain ⟨_, e, _⟩ := hR; rw [e]; exact rfl) | (obtain ⟨_, _, e, _⟩ := hR; rw [e]; exact rfl) | (obtain ⟨_, _, _, e, _⟩ := hR; rw [e]; exact rfl) | (obtain ⟨_, _, _, _, e, _⟩ := hR; rw [e]; exact rfl) | (obtain ⟨_, _, _, _, _, e, _⟩ := hR; rw [e]; exact rfl) | (obtain ⟨_, _, _, _, _, _, e, _⟩ := hR; rw [e]; exact rfl) | (obtain ⟨_, _, _, _, _, _, _, e, _⟩ := hR; rw [e]; exact rfl))
  | (rintro ⟨_, _, _, _, _, _, _, e0, hR, _, rs, _⟩; rw [e0, List.length_cons, rs.length]; first | (obtain ⟨hl, _⟩ := hR; rw [hl]; exact rfl) | (obtain ⟨e, _⟩ := hR; rw [e]; exact rfl) | (obtain ⟨_, e, _⟩ := hR; rw [e]; exact rfl) | (obtain ⟨_, _, e, _⟩ := hR; rw [e]; exact rfl) | (obtain ⟨_, _, _, e, _⟩ := hR; rw [e]; exact rfl) | (obtain ⟨_, _, _, _, e, _⟩ := hR; rw [e]; exact rfl))))
def top (i : Nat) : Stmt := PySem.Challenge.pw_copperline_k83_price_lines.main.body.getD i (.Pass ⟨0, 0, 0, 0⟩)
abbrev s_Band_init : Stmt := inClass (top 3) 0
theorem sc_Band_init : FnScope ["self", "label", "prefix", "from_hour", "to_hour", "price"] ["self", "label", "prefix", "from_hour", "to_hour", "price"] (defScope s_Band_init) := ⟨rfl, rfl, rfl, by decide +kernel, rfl, by decide +kernel, by decide +kernel⟩
abbrev s_Band_holds : Stmt := inClass (top 3) 1
theorem sc_Band_holds : FnScope ["self", "called", "clock", "hour"] ["self", "called", "clock"] (defScope s_Band_holds) := ⟨rfl, rfl, rfl, by decide +kernel, rfl, by decide +kernel, by decide +kernel⟩
abbrev s_Tariff_init : Stmt := inClass (top 4) 0
theorem sc_Tariff_init : FnScope ["self", "setup_price", "bands"] ["self", "setup_price", "bands"] (defScope s_Tariff_init) := ⟨rfl, rfl, rfl, by decide +kernel, rfl, by decide +kernel, by decide +kernel⟩
abbrev s_law_cell : Stmt := top 10
theorem sc_law_cell : FnScope ["script", "k"] ["script", "k"] (defScope s_law_cell) := ⟨rfl, rfl, rfl, by decide +kernel, rfl, by decide +kernel, by decide +kernel⟩
abbrev s_law_state : Stmt := top 11
theorem sc_law_state : FnScope ["cell", "k", "prime", "first", "second", "third", "fourth"] ["cell", "k"] (defScope s_law_state) := ⟨rfl, rfl, rfl, by decide +kernel, rfl, by decide +kernel, by decide +kernel⟩
abbrev s_law_digit : Stmt := top 12
theorem sc_law_digit : FnScope ["state", "many", "digit"] ["state", "many"] (defScope s_law_digit) := ⟨rfl, rfl, rfl, by decide +kernel, rfl, by decide +kernel, by decide +kernel⟩
abbrev s_law_band : Stmt := top 15
theorem sc_law_band : FnScope ["tariff", "called", "clock", "hour", "best", "band", "fits"] ["tariff", "called", "clock"] (defScope s_law_band) := ⟨rfl, rfl, rfl, by decide +kernel, rfl, by decide +kernel, by decide +kernel⟩
abbrev s_law_price : Stmt := top 17
theorem sc_law_price : FnScope ["tariff", "label", "band"] ["tariff", "label"] (defScope s_law_price) := ⟨rfl, rfl, rfl, by decide +kernel, rfl, by decide +kernel, by decide +kernel⟩
abbrev s_Tariff_band_at : Stmt := inClass (top 4) 1
theorem sc_Tariff_band_at : FnScope ["self", "called", "clock", "best", "band"] ["self", "called", "clock"] (defScope s_Tariff_band_at) := ⟨rfl, rfl, rfl, by decide +kernel, rfl, by decide +kernel, by decide +kernel⟩
abbrev s_law_called : Stmt := top 14
theorem sc_law_called : FnScope ["state"] ["state"] (defScope s_law_called) := ⟨rfl, rfl, rfl, by decide +kernel, rfl, by decide +kernel, by decide +kernel⟩
abbrev s_law_stretches : Stmt := top 16
theorem sc_law_stretches : FnScope ["tariff", "called", "start", "begin", "till", "found", "second", "band"] ["tariff", "called", "start", "begin", "till"] (defScope s_law_stretches) := ⟨rfl, rfl, rfl, by decide +kernel, rfl, by decide +kernel, by decide +kernel⟩
abbrev s_law_large : Stmt := top 18
theorem sc_law_large : FnScope ["script"] ["script"] (defScope s_law_large) := ⟨rfl, rfl, rfl, by decide +kernel, rfl, by decide +kernel, by decide +kernel⟩
abbrev s_stretches : Stmt := top 7
theorem sc_stretches : FnScope ["tariff", "called", "start", "begin", "till", "found", "place", "band", "after"] ["tariff", "called", "start", "begin", "till"] (defScope s_stretches) := ⟨rfl, rfl, rfl, by decide +kernel, rfl, by decide +kernel, by decide +kernel⟩
abbrev s_law_tariff : Stmt := top 13
theorem sc_law_tariff : FnScope ["state", "bands", "k", "prefix", "low", "high"] ["state"] (defScope s_law_tariff) := ⟨rfl, rfl, rfl, by decide +kernel, rfl, by decide +kernel, by decide +kernel⟩
abbrev s_law_many : Stmt := top 19
theorem sc_law_many : FnScope ["called", "unit", "bands", "k", "low", "high"] ["called", "unit"] (defScope s_law_many) := ⟨rfl, rfl, rfl, by decide +kernel, rfl, by decide +kernel, by decide +kernel⟩
abbrev s_price_lines : Stmt := top 8
theorem sc_price_lines : FnScope ["tariff", "called", "start", "begin", "till", "pieces", "lines", "band", "low", "high", "minutes"] ["tariff", "called", "start", "begin", "till"] (defScope s_price_lines) := ⟨rfl, rfl, rfl, by decide +kernel, rfl, by decide +kernel, by decide +kernel⟩
abbrev s_law : Stmt := top 20
theorem sc_law : FnScope ["script", "large", "k", "state", "tariff", "called", "start", "begin", "till", "pieces", "told", "due", "label", "low", "high", "begun", "second"] ["script"] (defScope s_law) := ⟨rfl, rfl, rfl, by decide +kernel, rfl, by decide +kernel, by decide +kernel⟩
structure Tx (K : PySem.W.Frag) (mg : Str → Option Value) (fn : Nat → Addr) (fd : Nat → FuncData) (cl : Nat → Addr) : Prop where
  F_Band_init : Fun K "__init__" "Band.__init__" s_Band_init (fn 0) (fd 0)
  b_Band_init : Binds K (fd 0) ["self", "label", "prefix", "from_hour", "to_hour", "price"] []
  F_Band_holds : Fun K "holds" "Band.holds" s_Band_holds (fn 1) (fd 1)
  b_Band_holds : Binds K (fd 1) ["self", "called", "clock"] []
  meth_Band_holds : Meth K (cl 0) "holds" (fn 1)
  F_Tariff_init : Fun K "__init__" "Tariff.__init__" s_Tariff_init (fn 2) (fd 2)
  b_Tariff_init : Binds K (fd 2) ["self", "setup_price", "bands"] []
  F_Tariff_band_at : Fun K "band_at" "Tariff.band_at" s_Tariff_band_at (fn 3) (fd 3)
  b_Tariff_band_at : Binds K (fd 3) ["self", "called", "clock"] []
  meth_Tariff_band_at : Meth K (cl 1) "band_at" (fn 3)
  F_stretches : Fun K "stretches" "stretches" s_stretches (fn 4) (fd 4)
  b_stretches : Binds K (fd 4) ["tariff", "called", "start", "begin", "till"] []
  m_stretches : mg "stretches" = some (.ref (fn 4))
  F_price_lines : Fun K "price_lines" "price_lines" s_price_lines (fn 5) (fd 5)
  b_price_lines : Binds K (fd 5) ["tariff", "called", "start", "begin", "till"] []
  m_price_lines : mg "price_lines" = some (.ref (fn 5))
  F_law_cell : Fun K "_law_cell" "_law_cell" s_law_cell (fn 6) (fd 6)
  b_law_cell : Binds K (fd 6) ["script", "k"] []
  m_law_cell : mg "_law_cell" = some (.ref (fn 6))
  F_law_state : Fun K "_law_state" "_law_state" s_law_state (fn 7) (fd 7)
  b_law_state : Binds K (fd 7) ["cell", "k"] []
  m_law_state : mg "_law_state" = some (.ref (fn 7))
  F_law_digit : Fun K "_law_digit" "_law_digit" s_law_digit (fn 8) (fd 8)
  b_law_digit : Binds K (fd 8) ["state", "many"] []
  m_law_digit : mg "_law_digit" = some (.ref (fn 8))
  F_law_tariff : Fun K "_law_tariff" "_law_tariff" s_law_tariff (fn 9) (fd 9)
  b_law_tariff : Binds K (fd 9) ["state"] []
  m_law_tariff : mg "_law_tariff" = some (.ref (fn 9))
  F_law_called : Fun K "_law_called" "_law_called" s_law_called (fn 10) (fd 10)
  b_law_called : Binds K (fd 10) ["state"] []
  m_law_called : mg "_law_called" = some (.ref (fn 10))
  F_law_band : Fun K "_law_band" "_law_band" s_law_band (fn 11) (fd 11)
  b_law_band : Binds K (fd 11) ["tariff", "called", "clock"] []
  m_law_band : mg "_law_band" = some (.ref (fn 11))
  F_law_stretches : Fun K "_law_stretches" "_law_stretches" s_law_stretches (fn 12) (fd 12)
  b_law_stretches : Binds K (fd 12) ["tariff", "called", "start", "begin", "till"] []
  m_law_stretches : mg "_law_stretches" = some (.ref (fn 12))
  F_law_price : Fun K "_law_price" "_law_price" s_law_price (fn 13) (fd 13)
  b_law_price : Binds K (fd 13) ["tariff", "label"] []
  m_law_price : mg "_law_price" = some (.ref (fn 13))
  F_law_large : Fun K "_law_large" "_law_large" s_law_large (fn 14) (fd 14)
  b_law_large : Binds K (fd 14) ["script"] []
  m_law_large : mg "_law_large" = some (.ref (fn 14))
  F_law_many : Fun K "_law_many" "_law_many" s_law_many (fn 15) (fd 15)
  b_law_many : Binds K (fd 15) ["called", "unit"] []
  m_law_many : mg "_law_many" = some (.ref (fn 15))
  F_law : Fun K "law" "law" s_law (fn 16) (fd 16)
  b_law : Binds K (fd 16) ["script"] []
  m_law : mg "law" = some (.ref (fn 16))
  cf : Cf K cl
  m_Band : mg "Band" = some (.ref (cl 0))
  mk_Band : Mk K (cl 0) (fn 0)
  m_Tariff : mg "Tariff" = some (.ref (cl 1))
  mk_Tariff : Mk K (cl 1) (fn 2)
  z_int : mg "int" = none
  z_len : mg "len" = none
  z_min : mg "min" = none
  z_range : mg "range" = none
  z_str : mg "str" = none
  z_tuple : mg "tuple" = none
  g_DAY : ∃ t, mg "DAY" = some (.int 86400 t)
  g_HOUR : ∃ t, mg "HOUR" = some (.int 3600 t)
  g_MINUTE : ∃ t, mg "MINUTE" = some (.int 60 t)
section
variable {P : Program} {w : World} {K : PySem.W.Frag} {mg : Str → Option Value} {base : Heap} {fn : Nat → Addr} {fd : Nat → FuncData} {cl : Nat → Addr}
theorem ok_Band_init (T : Tx K mg fn fd cl) : FnOk P w K mg base CX0 1 (fn 0) (fd 0) ["self", "label", "prefix", "from_hour", "to_hour", "price"] (sp_Band_init K cl) := by
  haveI := T.cf
  refine T.F_Band_init.ok sc_Band_init (fun vs H Q E h => by revert h; walk_at "ln") (fun cdv A outer s H vs Q E hr h => ⟨t_Band_init K cl, ?_, rd_Band_init h⟩)
  exact (pss_cons (ps_fld (pv 0) (pv 1) rfl) (pss_cons (ps_fld (pv 0) (pv 2) rfl) (pss_cons (ps_fld (pv 0) (pv 3) rfl) (pss_cons (ps_fld (pv 0) (pv 4) rfl) (pss_one (ps_fld (pv 0) (pv 5) rfl))))))
theorem ok_Band_holds (T : Tx K mg fn fd cl) : FnOk P w K mg base CX0 1 (fn 1) (fd 1) ["self", "called", "clock"] (sp_Band_holds K cl) := by
  haveI := T.cf
  obtain ⟨u_DAY, g_DAY⟩ := T.g_DAY
  obtain ⟨u_HOUR, g_HOUR⟩ := T.g_HOUR
  refine T.F_Band_holds.ok sc_Band_holds (fun vs H Q E h => by revert h; walk_at "ln") (fun cdv A outer s H vs Q E hr h => ⟨t_Band_holds K cl, ?_, rd_Band_holds h⟩)
  exact (pss_cons (ps_set (i := 3) sc_Band_holds.nd rfl (.inl rfl) (pe_op op_fdiv (pe_op op_mod (pv 2) (pe_glob rfl g_DAY ⟨_, rfl⟩)) (pe_glob rfl g_HOUR ⟨_, rfl⟩))) (pss_one (ps_ret ((pe_and (pe_m1 PySem.F.slot_str_startswith PySem.F.type_str_startswith mt_startswith (pv 1) (pe_fld (pv 0) rfl)) (pe_and (pe_cmpR op_le (pe_fld (pv 0) rfl) (pv 3) (nomark _)) (pe_one (pe_cmpR op_lt (pv 3) (pe_fld (pv 0) rfl) (nomark _)))))))))
theorem ok_Tariff_init (T : Tx K mg fn fd cl) : FnOk P w K mg base CX0 1 (fn 2) (fd 2) ["self", "setup_price", "bands"] (sp_Tariff_init K cl) := by
  haveI := T.cf
  refine T.F_Tariff_init.ok sc_Tariff_init (fun vs H Q E h => by revert h; walk_at "ln") (fun cdv A outer s H vs Q E hr h => ⟨t_Tariff_init K cl, ?_, rd_Tariff_init h⟩)
  exact (pss_cons (ps_fld (pv 0) (pv 1) rfl) (pss_one (ps_fld (pv 0) (pe_callTy call_tuple_of (by rfl) T.z_tuple (by decide +kernel) (pa_cons (pv 2) pa_nil)) rfl)))
theorem ok_law_cell (T : Tx K mg fn fd cl) : FnOk P w K mg base CX0 1 (fn 6) (fd 6) ["script", "k"] (sp_law_cell K cl) := by
  haveI := T.cf
  refine T.F_law_cell.ok sc_law_cell (fun vs H Q E h => by revert h; walk_at "ln") (fun cdv A outer s H vs Q E hr h => ⟨t_law_cell K cl, ?_, rd_law_cell h⟩)
  exact (pss_cons (ps_if (pt_cmpR op_lt (pv 1) (pe_callB call_len (by rfl) T.z_len (by decide +kernel) (pa_cons (pv 0) pa_nil)) (nomark _)) (pss_one (ps_ret (pe_ix ix_seq (pv 0) (pv 1) (fun _ _ => rfl)))) pss_nil) (pss_one (ps_ret (pe_int))))
theorem ok_law_state (T : Tx K mg fn fd cl) : FnOk P w K mg base CX0 1 (fn 7) (fd 7) ["cell", "k"] (sp_law_state K cl) := by
  haveI := T.cf
  refine T.F_law_state.ok sc_law_state (fun vs H Q E h => by revert h; walk_at "ln") (fun cdv A outer s H vs Q E hr h => ⟨t_law_state K cl, ?_, rd_law_state h⟩)
  exact (pss_cons (ps_if (pt_cmpR op_ge (pv 0) (pe_int) (nomark _)) (pss_one (ps_ret (pe_lst (pa_cons (pv 0) pa_nil)))) pss_nil) (pss_cons (ps_set (i := 2) sc_law_state.nd rfl (.inl rfl) (pe_int)) (pss_cons (ps_set (i := 3) sc_law_state.nd rfl (.inl rfl) (pe_op op_mod (pe_callTy call_int1 (by rfl) T.z_int (by decide +kernel) (pa_cons (pe_op op_addA (pe_op op_addA (pe_op op_mul (pv 0) (pe_int)) (pe_op op_mul (pe_op op_addA (pv 1) (pe_int)) (pe_int))) (pe_int)) pa_nil)) (pv 2))) (pss_cons (ps_set (i := 4) sc_law_state.nd rfl (.inl rfl) (pe_op op_mod (pe_callTy call_int1 (by rfl) T.z_int (by decide +kernel) (pa_cons (pe_op op_addA (pe_op op_addA (pe_op op_mul (pv 3) (pv 3)) (pe_op op_mul (pe_int) (pv 3))) (pv 1)) pa_nil)) (pv 2))) (pss_cons (ps_set (i := 5) sc_law_state.nd rfl (.inl rfl) (pe_op op_mod (pe_callTy call_int1 (by rfl) T.z_int (by decide +kernel) (pa_cons (pe_op op_addA (pe_op op_addA (pe_op op_mul (pv 4) (pe_int)) (pe_op op_mul (pv 3) (pe_int))) (pe_int)) pa_nil)) (pv 2))) (pss_cons (ps_set (i := 6) sc_law_state.nd rfl (.inl rfl) (pe_op op_mod (pe_callTy call_int1 (by rfl) T.z_int (by decide +kernel) (pa_cons (pe_op op_addA (pe_op op_mul (pv 5) (pv 5)) (pv 4)) pa_nil)) (pv 2))) (pss_one (ps_ret (pe_lst (pa_cons (pe_op op_addA (pe_op op_mul (pe_op op_addA (pe_op op_mul (pe_op op_addA (pe_op op_mul (pv 6) (pv 2)) (pv 5)) (pv 2)) (pv 4)) (pv 2)) (pv 3)) pa_nil))))))))))
theorem ok_law_digit (T : Tx K mg fn fd cl) : FnOk P w K mg base CX0 1 (fn 8) (fd 8) ["state", "many"] (sp_law_digit K cl) := by
  haveI := T.cf
  refine T.F_law_digit.ok sc_law_digit (fun vs H Q E h => by revert h; walk_at "ln") (fun cdv A outer s H vs Q E hr h => ⟨t_law_digit K cl, ?_, rd_law_digit h⟩)
  exact (pss_cons (ps_set (i := 2) sc_law_digit.nd rfl (.inl rfl) (pe_op op_mod (pe_callTy call_int1 (by rfl) T.z_int (by decide +kernel) (pa_cons (pe_ix ix_seq (pv 0) (pe_int) (fun _ _ => rfl)) pa_nil)) (pv 1))) (pss_cons (ps_asg (pe_op op_fdiv (pe_ix ix_seq (pv 0) (pe_int) (fun _ _ => rfl)) (pv 1)) (pg_sub (pv 0) (pe_int) set_list)) (pss_one (ps_ret (pv 2)))))
theorem ok_law_band (T : Tx K mg fn fd cl) : FnOk P w K mg base CX0 1 (fn 11) (fd 11) ["tariff", "called", "clock"] (sp_law_band K cl) := by
  haveI := T.cf
  refine T.F_law_band.ok sc_law_band (fun vs H Q E h => by revert h; walk_at "ln") (fun cdv A outer s H vs Q E hr h => ⟨t_law_band K cl, ?_, rd_law_band h⟩)
  exact (pss_cons (ps_set (i := 3) sc_law_band.nd rfl (.inl rfl) (pe_op op_fdiv (pe_op op_mod (pe_callTy call_int1 (by rfl) T.z_int (by decide +kernel) (pa_cons (pv 2) pa_nil)) (pe_int)) (pe_int))) (pss_cons (ps_set (i := 4) sc_law_band.nd rfl (.inl rfl) (pe_non)) (pss_cons (ps_for PassesOwn.never rfl (pi_seq (pe_fld (pv 0) rfl)) (pg_name (i := 5) sc_law_band.nd rfl (.inl rfl)) (pss_cons (ps_set (i := 6) sc_law_band.nd rfl (.inl rfl) ((pe_and (pe_cmpR (op_eqA hr.units) (pe_slice sl_any (pv 1) po_none (po_some (pe_callB call_len (by rfl) T.z_len (by decide +kernel) (pa_cons (pe_fld (pv 5) rfl) pa_nil)))) (pe_fld (pv 5) rfl) (nomark _)) (pe_and (pe_cmpR op_le (pe_fld (pv 5) rfl) (pv 3) (nomark _)) (pe_one (pe_cmpR op_lt (pv 3) (pe_fld (pv 5) rfl) (nomark _))))))) (pss_one (ps_if (PW.pt (pw_and (pt_tr (pv 6)) (pw_and1 (PW.pt (pw_or (pt_cmpR op_isN (pv 4) (pe_non) (nomark _)) (pw_or1 (pt_cmpR op_gt (pe_callB call_len (by rfl) T.z_len (by decide +kernel) (pa_cons (pe_fld (pv 5) rfl) pa_nil)) (pe_callB call_len (by rfl) T.z_len (by decide +kernel) (pa_cons (pe_fld (pv 4) rfl) pa_nil)) (nomark _)))))))) (pss_one (ps_set (i := 4) sc_law_band.nd rfl (.inl rfl) (pv 5))) pss_nil)))) (pss_one (ps_ret (pv 4))))))
theorem ok_law_price (T : Tx K mg fn fd cl) : FnOk P w K mg base CX0 1 (fn 13) (fd 13) ["tariff", "label"] (sp_law_price K cl) := by
  haveI := T.cf
  refine T.F_law_price.ok sc_law_price (fun vs H Q E h => by revert h; walk_at "ln") (fun cdv A outer s H vs Q E hr h => ⟨t_law_price K cl, ?_, rd_law_price h⟩)
  exact (pss_cons (ps_for PassesOwn.never rfl (pi_seq (pe_fld (pv 0) rfl)) (pg_name (i := 2) sc_law_price.nd rfl (.inl rfl)) (pss_one (ps_if (pt_cmpR (op_eqA hr.units) (pe_fld (pv 2) rfl) (pv 1) (nomark _)) (pss_one (ps_ret (pe_fld (pv 2) rfl))) pss_nil))) (pss_one (ps_ret (pe_non))))
theorem ok_Tariff_band_at (T : Tx K mg fn fd cl) : FnOk P w K mg base CX0 2 (fn 3) (fd 3) ["self", "called", "clock"] (sp_Tariff_band_at K cl) := by
  haveI := T.cf
  refine T.F_Tariff_band_at.ok sc_Tariff_band_at (fun vs H Q E h => by revert h; walk_at "ln") (fun cdv A outer s H vs Q E hr h => ⟨t_Tariff_band_at K cl, ?_, rd_Tariff_band_at h⟩)
  exact (pss_cons (ps_set (i := 3) sc_Tariff_band_at.nd rfl (.inl rfl) (pe_non)) (pss_cons (ps_for PassesOwn.never rfl (pi_seq (pe_fld (pv 0) rfl)) (pg_name (i := 4) sc_Tariff_band_at.nd rfl (.inl rfl)) (pss_one (ps_if (PW.pt (pw_and (pt_tr (pe_meth (pv 4) T.cf.cl_Band T.meth_Band_holds (ok_Band_holds T) (hr.mono (by decide)) T.b_Band_holds .nil pass0 (pa_cons (pv 1) (pa_cons (pv 2) pa_nil)))) (pw_and1 (PW.pt (pw_or (pt_cmpR op_isN (pv 3) (pe_non) (nomark _)) (pw_or1 (pt_cmpR op_gt (pe_callB call_len (by rfl) T.z_len (by decide +kernel) (pa_cons (pe_fld (pv 4) rfl) pa_nil)) (pe_callB call_len (by rfl) T.z_len (by decide +kernel) (pa_cons (pe_fld (pv 3) rfl) pa_nil)) (nomark _)))))))) (pss_one (ps_set (i := 3) sc_Tariff_band_at.nd rfl (.inl rfl) (pv 4))) pss_nil))) (pss_one (ps_ret (pv 3)))))
theorem ok_law_called (T : Tx K mg fn fd cl) : FnOk P w K mg base CX0 2 (fn 10) (fd 10) ["state"] (sp_law_called K cl) := by
  haveI := T.cf
  refine T.F_law_called.ok sc_law_called (fun vs H Q E h => by revert h; walk_at "ln") (fun cdv A outer s H vs Q E hr h => ⟨t_law_called K cl, ?_, rd_law_called h⟩)
  exact (pss_one (ps_ret (pe_op op_addA (pe_ix ix_seq (pe_tup (pa_cons (pe_str) (pa_cons (pe_str) (pa_cons (pe_str) (pa_cons (pe_str) (pa_cons (pe_str) (pa_cons (pe_str) pa_nil))))))) (pe_call (ok_law_digit T) (hr.mono (by decide)) (by rfl) T.m_law_digit T.F_law_digit.kp T.b_law_digit .nil pass0 (pa_cons (pv 0) (pa_cons (pe_int) pa_nil))) (fun _ _ => rfl)) (pe_callTy call_str_int (by rfl) T.z_str (by decide +kernel) (pa_cons (pe_call (ok_law_digit T) (hr.mono (by decide)) (by rfl) T.m_law_digit T.F_law_digit.kp T.b_law_digit .nil pass0 (pa_cons (pv 0) (pa_cons (pe_int) pa_nil))) pa_nil)))))
theorem ok_law_stretches (T : Tx K mg fn fd cl) : FnOk P w K mg base CX0 2 (fn 12) (fd 12) ["tariff", "called", "start", "begin", "till"] (sp_law_stretches K cl) := by
  haveI := T.cf
  refine T.F_law_stretches.ok sc_law_stretches (fun vs H Q E h => by revert h; walk_at "ln") (fun cdv A outer s H vs Q E hr h => ⟨t_law_stretches K cl, ?_, rd_law_stretches h⟩)
  exact (pss_cons (ps_set (i := 5) sc_law_stretches.nd rfl (.inl rfl) (pe_lst pa_nil)) (pss_cons (ps_for PassesOwn.never rfl (pi_range2 (by rfl) T.z_range (pa_cons (pv 3) (pa_cons (pv 4) pa_nil))) (pg_name (i := 6) sc_law_stretches.nd rfl (.inl rfl)) (pss_cons (ps_set (i := 7) sc_law_stretches.nd rfl (.inl rfl) (pe_call (ok_law_band T) (hr.mono (by decide)) (by rfl) T.m_law_band T.F_law_band.kp T.b_law_band .nil pass0 (pa_cons (pv 0) (pa_cons (pv 1) (pa_cons (pe_op op_addA (pv 2) (pv 6)) pa_nil))))) (pss_cons (ps_if (pt_cmpR op_isN (pv 7) (pe_non) (nomark _)) (pss_one (ps_ret (pe_non))) pss_nil) (pss_one (ps_if (PW.pt (pw_and (pt_cmpR op_gt (pe_callB call_len (by rfl) T.z_len (by decide +kernel) (pa_cons (pv 5) pa_nil)) (pe_int) (nomark _)) (pw_and1 (pt_cmpR (op_eqA hr.units) (pe_ix ix_seq (pe_ix ix_seq (pv 5) (pe_un un_neg (pe_int)) (fun _ _ => rfl)) (pe_int) (fun _ _ => rfl)) (pe_fld (pv 7) rfl) (nomark _))))) (pss_one (ps_asg (pe_tup (pa_cons (pe_fld (pv 7) rfl) (pa_cons (pe_ix ix_seq (pe_ix ix_seq (pv 5) (pe_un un_neg (pe_int)) (fun _ _ => rfl)) (pe_int) (fun _ _ => rfl)) (pa_cons (pe_op op_addA (pv 6) (pe_int)) pa_nil)))) (pg_sub (pv 5) (pe_un un_neg (pe_int)) set_list))) (pss_one (ps_expr (pe_bm PySem.F.plainAttrs_list PySem.F.slot_list_append PySem.F.type_list_append mt_append (pv 5) (pa_cons (pe_tup (pa_cons (pe_fld (pv 7) rfl) (pa_cons (pv 6) (pa_cons (pe_op op_addA (pv 6) (pe_int)) pa_nil)))) pa_nil))))))))) (pss_one (ps_ret (pv 5)))))
theorem ok_law_large (T : Tx K mg fn fd cl) : FnOk P w K mg base CX0 2 (fn 14) (fd 14) ["script"] (sp_law_large K cl) := by
  haveI := T.cf
  refine T.F_law_large.ok sc_law_large (fun vs H Q E h => by revert h; walk_at "ln") (fun cdv A outer s H vs Q E hr h => ⟨t_law_large K cl, ?_, rd_law_large h⟩)
  exact (pss_one (ps_ret (pe_cmpR (op_eqA hr.units) (pe_call (ok_law_digit T) (hr.mono (by decide)) (by rfl) T.m_law_digit T.F_law_digit.kp T.b_law_digit .nil pass0 (pa_cons (pe_call (ok_law_state T) (hr.mono (by decide)) (by rfl) T.m_law_state T.F_law_state.kp T.b_law_state .nil pass0 (pa_cons (pe_call (ok_law_cell T) (hr.mono (by decide)) (by rfl) T.m_law_cell T.F_law_cell.kp T.b_law_cell .nil pass0 (pa_cons (pv 0) (pa_cons (pe_int) pa_nil))) (pa_cons (pe_int) pa_nil))) (pa_cons (pe_int) pa_nil))) (pe_int) (nomark _))))
theorem ok_stretches (T : Tx K mg fn fd cl) : FnOk P w K mg base CX0 3 (fn 4) (fd 4) ["tariff", "called", "start", "begin", "till"] (sp_stretches K cl) := by
  haveI := T.cf
  obtain ⟨u_HOUR, g_HOUR⟩ := T.g_HOUR
  refine T.F_stretches.ok sc_stretches (fun vs H Q E h => by revert h; walk_at "ln") (fun cdv A outer s H vs Q E hr h => ⟨t_stretches K cl, ?_, rd_stretches h⟩)
  exact (pss_cons (ps_set (i := 5) sc_stretches.nd rfl (.inl rfl) (pe_lst pa_nil)) (pss_cons (ps_set (i := 6) sc_stretches.nd rfl (.inl rfl) (pv 3)) (pss_cons (ps_while PassesOwn.never (pt_cmpR op_lt (pv 6) (pv 4) (nomark _)) (pss_cons (ps_set (i := 7) sc_stretches.nd rfl (.inl rfl) (pe_meth (pv 0) T.cf.cl_Tariff T.meth_Tariff_band_at (ok_Tariff_band_at T) (hr.mono (by decide)) T.b_Tariff_band_at .nil pass0 (pa_cons (pv 1) (pa_cons (pe_op op_addA (pv 2) (pv 6)) pa_nil)))) (pss_cons (ps_if (pt_cmpR op_isN (pv 7) (pe_non) (nomark _)) (pss_one (ps_ret (pe_non))) pss_nil) (pss_cons (ps_set (i := 8) sc_stretches.nd rfl (.inl rfl) (pe_callB (call_min2 rfl) (by rfl) T.z_min (by decide +kernel) (pa_cons (pv 4) (pa_cons (pe_op op_sub (pe_op op_addA (pv 6) (pe_glob rfl g_HOUR ⟨_, rfl⟩)) (pe_op op_mod (pe_op op_addA (pv 2) (pv 6)) (pe_glob rfl g_HOUR ⟨_, rfl⟩))) pa_nil)))) (pss_cons (ps_if (PW.pt (pw_and (pt_tr (pv 5)) (pw_and1 (pt_cmpR (op_eqA hr.units) (pe_fld (pe_ix ix_seq (pe_ix ix_seq (pv 5) (pe_un un_neg (pe_int)) (fun _ _ => rfl)) (pe_int) (fun _ _ => rfl)) rfl) (pe_fld (pv 7) rfl) (nomark _))))) (pss_one (ps_asg (pe_tup (pa_cons (pv 7) (pa_cons (pe_ix ix_seq (pe_ix ix_seq (pv 5) (pe_un un_neg (pe_int)) (fun _ _ => rfl)) (pe_int) (fun _ _ => rfl)) (pa_cons (pv 8) pa_nil)))) (pg_sub (pv 5) (pe_un un_neg (pe_int)) set_list))) (pss_one (ps_expr (pe_bm PySem.F.plainAttrs_list PySem.F.slot_list_append PySem.F.type_list_append mt_append (pv 5) (pa_cons (pe_tup (pa_cons (pv 7) (pa_cons (pv 6) (pa_cons (pv 8) pa_nil)))) pa_nil))))) (pss_one (ps_set (i := 6) sc_stretches.nd rfl (.inl rfl) (pv 8)))))))) (pss_one (ps_ret (pv 5))))))
theorem ok_law_tariff (T : Tx K mg fn fd cl) : FnOk P w K mg base CX0 3 (fn 9) (fd 9) ["state"] (sp_law_tariff K cl) := by
  haveI := T.cf
  refine T.F_law_tariff.ok sc_law_tariff (fun vs H Q E h => by revert h; walk_at "ln") (fun cdv A outer s H vs Q E hr h => ⟨t_law_tariff K cl, ?_, rd_law_tariff h⟩)
  exact (pss_cons (ps_set (i := 1) sc_law_tariff.nd rfl (.inl rfl) (pe_lst pa_nil)) (pss_cons (ps_for PassesOwn.never rfl (pi_range1 (by rfl) T.z_range (pa_cons (pe_call (ok_law_digit T) (hr.mono (by decide)) (by rfl) T.m_law_digit T.F_law_digit.kp T.b_law_digit .nil pass0 (pa_cons (pv 0) (pa_cons (pe_int) pa_nil))) pa_nil)) (pg_name (i := 2) sc_law_tariff.nd rfl (.inl rfl)) (pss_cons (ps_set (i := 3) sc_law_tariff.nd rfl (.inl rfl) (pe_ix ix_seq (pe_tup (pa_cons (pe_str) (pa_cons (pe_str) (pa_cons (pe_str) (pa_cons (pe_str) (pa_cons (pe_str) (pa_cons (pe_str) pa_nil))))))) (pe_call (ok_law_digit T) (hr.mono (by decide)) (by rfl) T.m_law_digit T.F_law_digit.kp T.b_law_digit .nil pass0 (pa_cons (pv 0) (pa_cons (pe_int) pa_nil))) (fun _ _ => rfl))) (pss_cons (ps_set (i := 4) sc_law_tariff.nd rfl (.inl rfl) (pe_call (ok_law_digit T) (hr.mono (by decide)) (by rfl) T.m_law_digit T.F_law_digit.kp T.b_law_digit .nil pass0 (pa_cons (pv 0) (pa_cons (pe_int) pa_nil)))) (pss_cons (ps_set (i := 5) sc_law_tariff.nd rfl (.inl rfl) (pe_op op_addA (pe_op op_addA (pv 4) (pe_int)) (pe_call (ok_law_digit T) (hr.mono (by decide)) (by rfl) T.m_law_digit T.F_law_digit.kp T.b_law_digit .nil pass0 (pa_cons (pv 0) (pa_cons (pe_op op_sub (pe_int) (pv 4)) pa_nil))))) (pss_one (ps_expr (pe_bm PySem.F.plainAttrs_list PySem.F.slot_list_append PySem.F.type_list_append mt_append (pv 1) (pa_cons (pe_make T.mk_Band (ok_Band_init T) (hr.mono (by decide)) (by rfl) T.m_Band T.b_Band_init .nil pass0 (pa_cons (pe_op op_addA (pe_str) (pe_callTy call_str_int (by rfl) T.z_str (by decide +kernel) (pa_cons (pv 2) pa_nil))) (pa_cons (pv 3) (pa_cons (pv 4) (pa_cons (pv 5) (pa_cons (pe_call (ok_law_digit T) (hr.mono (by decide)) (by rfl) T.m_law_digit T.F_law_digit.kp T.b_law_digit .nil pass0 (pa_cons (pv 0) (pa_cons (pe_int) pa_nil))) pa_nil)))))) pa_nil)))))))) (pss_cons (ps_if (pt_cmpR op_gt (pe_call (ok_law_digit T) (hr.mono (by decide)) (by rfl) T.m_law_digit T.F_law_digit.kp T.b_law_digit .nil pass0 (pa_cons (pv 0) (pa_cons (pe_int) pa_nil))) (pe_int) (nomark _)) (pss_one (ps_expr (pe_bm PySem.F.plainAttrs_list PySem.F.slot_list_append PySem.F.type_list_append mt_append (pv 1) (pa_cons (pe_make T.mk_Band (ok_Band_init T) (hr.mono (by decide)) (by rfl) T.m_Band T.b_Band_init .nil pass0 (pa_cons (pe_str) (pa_cons (pe_str) (pa_cons (pe_int) (pa_cons (pe_int) (pa_cons (pe_op op_addA (pe_int) (pe_call (ok_law_digit T) (hr.mono (by decide)) (by rfl) T.m_law_digit T.F_law_digit.kp T.b_law_digit .nil pass0 (pa_cons (pv 0) (pa_cons (pe_int) pa_nil)))) pa_nil)))))) pa_nil)))) pss_nil) (pss_one (ps_ret (pe_make T.mk_Tariff (ok_Tariff_init T) (hr.mono (by decide)) (by rfl) T.m_Tariff T.b_Tariff_init .nil pass0 (pa_cons (pe_call (ok_law_digit T) (hr.mono (by decide)) (by rfl) T.m_law_digit T.F_law_digit.kp T.b_law_digit .nil pass0 (pa_cons (pv 0) (pa_cons (pe_int) pa_nil))) (pa_cons (pe_callTy call_tuple_of (by rfl) T.z_tuple (by decide +kernel) (pa_cons (pv 1) pa_nil)) pa_nil))))))))
theorem ok_law_many (T : Tx K mg fn fd cl) : FnOk P w K mg base CX0 3 (fn 15) (fd 15) ["called", "unit"] (sp_law_many K cl) := by
  haveI := T.cf
  refine T.F_law_many.ok sc_law_many (fun vs H Q E h => by revert h; walk_at "ln") (fun cdv A outer s H vs Q E hr h => ⟨t_law_many K cl, ?_, rd_law_many h⟩)
  exact (pss_cons (ps_set (i := 2) sc_law_many.nd rfl (.inl rfl) (pe_lst pa_nil)) (pss_cons (ps_for PassesOwn.never rfl (pi_range1 (by rfl) T.z_range (pa_cons (pe_int) pa_nil)) (pg_name (i := 3) sc_law_many.nd rfl (.inl rfl)) (pss_cons (ps_set (i := 4) sc_law_many.nd rfl (.inl rfl) (pe_op op_mod (pe_callTy call_int1 (by rfl) T.z_int (by decide +kernel) (pa_cons (pe_op op_mul (pe_int) (pv 3)) pa_nil)) (pe_int))) (pss_cons (ps_set (i := 5) sc_law_many.nd rfl (.inl rfl) (pe_op op_addA (pe_op op_addA (pv 4) (pe_int)) (pe_op op_mod (pe_callTy call_int1 (by rfl) T.z_int (by decide +kernel) (pa_cons (pe_op op_mul (pe_int) (pv 3)) pa_nil)) (pe_op op_sub (pe_int) (pv 4))))) (pss_one (ps_expr (pe_bm PySem.F.plainAttrs_list PySem.F.slot_list_append PySem.F.type_list_append mt_append (pv 2) (pa_cons (pe_make T.mk_Band (ok_Band_init T) (hr.mono (by decide)) (by rfl) T.m_Band T.b_Band_init .nil pass0 (pa_cons (pe_op op_addA (pe_str) (pe_callTy call_str_int (by rfl) T.z_str (by decide +kernel) (pa_cons (pv 3) pa_nil))) (pa_cons (pe_slice sl_any (pv 0) po_none (po_some (pe_op op_mod (pe_callTy call_int1 (by rfl) T.z_int (by decide +kernel) (pa_cons (pe_op op_mul (pe_int) (pv 3)) pa_nil)) (pe_int)))) (pa_cons (pv 4) (pa_cons (pv 5) (pa_cons (pe_op op_mul (pv 1) (pv 3)) pa_nil)))))) pa_nil))))))) (pss_cons (ps_expr (pe_bm PySem.F.plainAttrs_list PySem.F.slot_list_append PySem.F.type_list_append mt_append (pv 2) (pa_cons (pe_make T.mk_Band (ok_Band_init T) (hr.mono (by decide)) (by rfl) T.m_Band T.b_Band_init .nil pass0 (pa_cons (pe_str) (pa_cons (pe_str) (pa_cons (pe_int) (pa_cons (pe_int) (pa_cons (pv 1) pa_nil)))))) pa_nil))) (pss_one (ps_ret (pe_make T.mk_Tariff (ok_Tariff_init T) (hr.mono (by decide)) (by rfl) T.m_Tariff T.b_Tariff_init .nil pass0 (pa_cons (pe_op op_mul (pe_int) (pv 1)) (pa_cons (pe_callTy call_tuple_of (by rfl) T.z_tuple (by decide +kernel) (pa_cons (pv 2) pa_nil)) pa_nil))))))))
theorem ok_price_lines (T : Tx K mg fn fd cl) : FnOk P w K mg base CX0 4 (fn 5) (fd 5) ["tariff", "called", "start", "begin", "till"] (sp_price_lines K cl) := by
  haveI := T.cf
  obtain ⟨u_MINUTE, g_MINUTE⟩ := T.g_MINUTE
  refine T.F_price_lines.ok sc_price_lines (fun vs H Q E h => by revert h; walk_at "ln") (fun cdv A outer s H vs Q E hr h => ⟨t_price_lines K cl, ?_, rd_price_lines h⟩)
  exact (pss_cons (ps_set (i := 5) sc_price_lines.nd rfl (.inl rfl) (pe_call (ok_stretches T) (hr.mono (by decide)) (by rfl) T.m_stretches T.F_stretches.kp T.b_stretches .nil pass0 (pa_cons (pv 0) (pa_cons (pv 1) (pa_cons (pv 2) (pa_cons (pv 3) (pa_cons (pv 4) pa_nil))))))) (pss_cons (ps_if (pt_cmpR op_isN (pv 5) (pe_non) (nomark _)) (pss_one (ps_ret (pe_non))) pss_nil) (pss_cons (ps_set (i := 6) sc_price_lines.nd rfl (.inl rfl) (pe_lst (pa_cons (pe_tup (pa_cons (pe_str) (pa_cons (pv 3) (pa_cons (pv 3) (pa_cons (pe_fld (pv 0) rfl) pa_nil))))) pa_nil))) (pss_cons (ps_for PassesOwn.never rfl (pi_seq (pv 5)) (pg_tup rfl (pgs_cons (pg_name (i := 7) sc_price_lines.nd rfl (.inl rfl)) (pgs_cons (pg_name (i := 8) sc_price_lines.nd rfl (.inl rfl)) (pgs_cons (pg_name (i := 9) sc_price_lines.nd rfl (.inl rfl)) pgs_nil)))) (pss_cons (ps_set (i := 10) sc_price_lines.nd rfl (.inl rfl) (pe_op op_fdiv (pe_op op_sub (pe_op op_addA (pe_op op_sub (pv 9) (pv 8)) (pe_glob rfl g_MINUTE ⟨_, rfl⟩)) (pe_int)) (pe_glob rfl g_MINUTE ⟨_, rfl⟩))) (pss_one (ps_expr (pe_bm PySem.F.plainAttrs_list PySem.F.slot_list_append PySem.F.type_list_append mt_append (pv 6) (pa_cons (pe_tup (pa_cons (pe_fld (pv 7) rfl) (pa_cons (pv 8) (pa_cons (pv 9) (pa_cons (pe_op op_mul (pe_fld (pv 7) rfl) (pv 10)) pa_nil))))) pa_nil)))))) (pss_one (ps_ret (pv 6)))))))
theorem ok_law (T : Tx K mg fn fd cl) : FnOk P w K mg base CX0 5 (fn 16) (fd 16) ["script"] (sp_law K cl) := by
  haveI := T.cf
  refine T.F_law.ok sc_law (fun vs H Q E h => by revert h; walk_at "ln") (fun cdv A outer s H vs Q E hr h => ⟨t_law K cl, ?_, rd_law h⟩)
  exact (pss_cons (ps_set (i := 1) sc_law.nd rfl (.inl rfl) (pe_call (ok_law_large T) (hr.mono (by decide)) (by rfl) T.m_law_large T.F_law_large.kp T.b_law_large .nil pass0 (pa_cons (pv 0) pa_nil))) (pss_cons (ps_for PassesOwn.never rfl (pi_range1 (by rfl) T.z_range (pa_cons (pe_int) pa_nil)) (pg_name (i := 2) sc_law.nd rfl (.inl rfl)) (pss_cons (ps_set (i := 3) sc_law.nd rfl (.inl rfl) (pe_call (ok_law_state T) (hr.mono (by decide)) (by rfl) T.m_law_state T.F_law_state.kp T.b_law_state .nil pass0 (pa_cons (pe_call (ok_law_cell T) (hr.mono (by decide)) (by rfl) T.m_law_cell T.F_law_cell.kp T.b_law_cell .nil pass0 (pa_cons (pv 0) (pa_cons (pv 2) pa_nil))) (pa_cons (pv 2) pa_nil)))) (pss_cons (ps_set (i := 4) sc_law.nd rfl (.inl rfl) (pe_call (ok_law_tariff T) (hr.mono (by decide)) (by rfl) T.m_law_tariff T.F_law_tariff.kp T.b_law_tariff .nil pass0 (pa_cons (pv 3) pa_nil))) (pss_cons (ps_set (i := 5) sc_law.nd rfl (.inl rfl) (pe_call (ok_law_called T) (hr.mono (by decide)) (by rfl) T.m_law_called T.F_law_called.kp T.b_law_called .nil pass0 (pa_cons (pv 3) pa_nil))) (pss_cons (ps_if (pt_tr (pv 1)) (pss_cons (ps_set (i := 5) sc_law.nd rfl (.inl rfl) (pe_op op_addA (pe_str) (pe_callTy call_str_int (by rfl) T.z_str (by decide +kernel) (pa_cons (pe_op op_addA (pe_int) (pv 2)) pa_nil)))) (pss_one (ps_set (i := 4) sc_law.nd rfl (.inl rfl) (pe_call (ok_law_many T) (hr.mono (by decide)) (by rfl) T.m_law_many T.F_law_many.kp T.b_law_many .nil pass0 (pa_cons (pv 5) (pa_cons (pe_op op_addA (pe_int) (pv 2)) pa_nil)))))) pss_nil) (pss_cons (ps_set (i := 6) sc_law.nd rfl (.inl rfl) (pe_op op_addA (pe_op op_sub (pe_op op_mul (pe_int) (pe_call (ok_law_digit T) (hr.mono (by decide)) (by rfl) T.m_law_digit T.F_law_digit.kp T.b_law_digit .nil pass0 (pa_cons (pv 3) (pa_cons (pe_int) pa_nil)))) (pe_call (ok_law_digit T) (hr.mono (by decide)) (by rfl) T.m_law_digit T.F_law_digit.kp T.b_law_digit .nil pass0 (pa_cons (pv 3) (pa_cons (pe_int) pa_nil)))) (pe_int))) (pss_cons (ps_set (i := 7) sc_law.nd rfl (.inl rfl) (pe_ix ix_seq (pe_tup (pa_cons (pe_int) (pa_cons (pe_int) (pa_cons (pe_int) (pa_cons (pe_call (ok_law_digit T) (hr.mono (by decide)) (by rfl) T.m_law_digit T.F_law_digit.kp T.b_law_digit .nil pass0 (pa_cons (pv 3) (pa_cons (pe_int) pa_nil))) pa_nil))))) (pe_call (ok_law_digit T) (hr.mono (by decide)) (by rfl) T.m_law_digit T.F_law_digit.kp T.b_law_digit .nil pass0 (pa_cons (pv 3) (pa_cons (pe_int) pa_nil))) (fun _ _ => rfl))) (pss_cons (ps_set (i := 8) sc_law.nd rfl (.inl rfl) (pe_op op_addA (pv 7) (pe_ix ix_seq (pe_tup (pa_cons (pe_int) (pa_cons (pe_int) (pa_cons (pe_int) (pa_cons (pe_int) (pa_cons (pe_op op_addA (pe_int) (pe_call (ok_law_digit T) (hr.mono (by decide)) (by rfl) T.m_law_digit T.F_law_digit.kp T.b_law_digit .nil pass0 (pa_cons (pv 3) (pa_cons (pe_int) pa_nil)))) pa_nil)))))) (pe_call (ok_law_digit T) (hr.mono (by decide)) (by rfl) T.m_law_digit T.F_law_digit.kp T.b_law_digit .nil pass0 (pa_cons (pv 3) (pa_cons (pe_int) pa_nil))) (fun _ _ => rfl)))) (pss_cons (ps_if (PW.pt (pw_and (pt_tr (pv 1)) (pw_and1 (pt_cmpR (op_eqA hr.units) (pv 2) (pe_int) (nomark _))))) (pss_one (ps_set (i := 8) sc_law.nd rfl (.inl rfl) (pe_op op_addA (pv 8) (pe_int)))) pss_nil) (pss_cons (ps_set (i := 9) sc_law.nd rfl (.inl rfl) (pe_call (ok_law_stretches T) (hr.mono (by decide)) (by rfl) T.m_law_stretches T.F_law_stretches.kp T.b_law_stretches .nil pass0 (pa_cons (pv 4) (pa_cons (pv 5) (pa_cons (pv 6) (pa_cons (pv 7) (pa_cons (pv 8) pa_nil))))))) (pss_cons (ps_set (i := 10) sc_law.nd rfl (.inl rfl) (pe_call (ok_price_lines T) (hr.mono (by decide)) (by rfl) T.m_price_lines T.F_price_lines.kp T.b_price_lines .nil pass0 (pa_cons (pv 4) (pa_cons (pv 5) (pa_cons (pv 6) (pa_cons (pv 7) (pa_cons (pv 8) pa_nil))))))) (pss_one (ps_if (pt_cmpR op_isN (pv 9) (pe_non) (nomark _)) (pss_one (ps_if (pt_cmpR op_notN (pv 10) (pe_non) (nomark _)) (pss_one (ps_ret (pe_bl))) pss_nil)) (pss_cons (ps_set (i := 11) sc_law.nd rfl (.inl rfl) (pe_lst (pa_cons (pe_tup (pa_cons (pe_str) (pa_cons (pv 7) (pa_cons (pv 7) (pa_cons (pe_fld (pv 4) rfl) pa_nil))))) pa_nil))) (pss_cons (ps_for PassesOwn.never rfl (pi_seq (pv 9)) (pg_tup rfl (pgs_cons (pg_name (i := 12) sc_law.nd rfl (.inl rfl)) (pgs_cons (pg_name (i := 13) sc_law.nd rfl (.inl rfl)) (pgs_cons (pg_name (i := 14) sc_law.nd rfl (.inl rfl)) pgs_nil)))) (pss_cons (ps_set (i := 15) sc_law.nd rfl (.inl rfl) (pe_int)) (pss_cons (ps_for PassesOwn.never rfl (pi_range2 (by rfl) T.z_range (pa_cons (pv 13) (pa_cons (pv 14) pa_nil))) (pg_name (i := 16) sc_law.nd rfl (.inl rfl)) (pss_one (ps_set (i := 15) sc_law.nd rfl (.inl rfl) (pe_op op_addA (pv 15) (pe_callTy call_int1 (by rfl) T.z_int (by decide +kernel) (pa_cons (pe_cmpR (op_eqA hr.units) (pe_op op_mod (pe_callTy call_int1 (by rfl) T.z_int (by decide +kernel) (pa_cons (pe_op op_sub (pv 16) (pv 13)) pa_nil)) (pe_int)) (pe_int) (nomark _)) pa_nil)))))) (pss_one (ps_expr (pe_bm PySem.F.plainAttrs_list PySem.F.slot_list_append PySem.F.type_list_append mt_append (pv 11) (pa_cons (pe_tup (pa_cons (pv 12) (pa_cons (pv 13) (pa_cons (pv 14) (pa_cons (pe_op op_mul (pv 15) (pe_call (ok_law_price T) (hr.mono (by decide)) (by rfl) T.m_law_price T.F_law_price.kp T.b_law_price .nil pass0 (pa_cons (pv 4) (pa_cons (pv 12) pa_nil)))) pa_nil))))) pa_nil))))))) (pss_one (ps_if (pt_cmpR (op_neA hr.units) (pv 10) (pv 11) (nomark _)) (pss_one (ps_ret (pe_bl))) pss_nil))))))))))))))))) (pss_one (ps_ret (pe_bl)))))
end
theorem all_mk {l : PySem.W.OpenLaw} {w : World} {K : PySem.W.Frag} {h : Heap} {mg : Str → Option Value} {fa : Addr} (X : K.In h) (G : h.Ns mainGlobals mg) (hfa : mg "law" = some (.ref fa))
    {f0 f1 f2 f3 f4 f5 f6 f7 f8 f9 f10 f11 f12 f13 f14 f15 f16 : Addr}
    {c0 c1 : Addr}
    {od0 an0 : Option Addr} {sl0 : Array (Option Value)} {oc0 kV0 dc0 pm0 cd0 ct0 : Value}
    {od1 an1 : Option Addr} {sl1 : Array (Option Value)} {oc1 kV1 dc1 pm1 cd1 ct1 : Value}
    {od2 an2 : Option Addr} {sl2 : Array (Option Value)} {oc2 kV2 dc2 pm2 cd2 ct2 : Value}
    {od3 an3 : Option Addr} {sl3 : Array (Option Value)} {oc3 kV3 dc3 pm3 cd3 ct3 : Value}
    {od4 an4 : Option Addr} {sl4 : Array (Option Value)} {oc4 kV4 dc4 pm4 cd4 ct4 : Value}
    {od5 an5 : Option Addr} {sl5 : Array (Option Value)} {oc5 kV5 dc5 pm5 cd5 ct5 : Value}
    {od6 an6 : Option Addr} {sl6 : Array (Option Value)} {oc6 kV6 dc6 pm6 cd6 ct6 : Value}
    {od7 an7 : Option Addr} {sl7 : Array (Option Value)} {oc7 kV7 dc7 pm7 cd7 ct7 : Value}
    {od8 an8 : Option Addr} {sl8 : Array (Option Value)} {oc8 kV8 dc8 pm8 cd8 ct8 : Value}
    {od9 an9 : Option Addr} {sl9 : Array (Option Value)} {oc9 kV9 dc9 pm9 cd9 ct9 : Value}
    {od10 an10 : Option Addr} {sl10 : Array (Option Value)} {oc10 kV10 dc10 pm10 cd10 ct10 : Value}
    {od11 an11 : Option Addr} {sl11 : Array (Option Value)} {oc11 kV11 dc11 pm11 cd11 ct11 : Value}
    {od12 an12 : Option Addr} {sl12 : Array (Option Value)} {oc12 kV12 dc12 pm12 cd12 ct12 : Value}
    {od13 an13 : Option Addr} {sl13 : Array (Option Value)} {oc13 kV13 dc13 pm13 cd13 ct13 : Value}
    {od14 an14 : Option Addr} {sl14 : Array (Option Value)} {oc14 kV14 dc14 pm14 cd14 ct14 : Value}
    {od15 an15 : Option Addr} {sl15 : Array (Option Value)} {oc15 kV15 dc15 pm15 cd15 ct15 : Value}
    {od16 an16 : Option Addr} {sl16 : Array (Option Value)} {oc16 kV16 dc16 pm16 cd16 ct16 : Value}
    {u_DAY : Tok}
    {u_HOUR : Tok}
    {u_MINUTE : Tok}
    (ca0 : PySem.W.nsIn K mainGlobals "Band" = some (some (.ref c0)))
    (mk0 : PySem.W.makesIn K c0 = true)
    (kc0 : PySem.W.keepIn K (.ref c0) = true)
    (pg0 : PySem.W.plainGet K c0 Str.empty = true)
    (hd0 : PySem.W.hasDictIn K c0 = true)
    (po0 : PySem.W.plainOver K c0 = true)
    (sa0 : PySem.W.findIn K (.ref c0) "__setattr__" = some (some (.builtin "object.__setattr__")))
    (n0_0 : PySem.W.findIn K (.ref c0) "label" = some none)
    (n0_1 : PySem.W.findIn K (.ref c0) "prefix" = some none)
    (n0_2 : PySem.W.findIn K (.ref c0) "from_hour" = some none)
    (n0_3 : PySem.W.findIn K (.ref c0) "to_hour" = some none)
    (n0_4 : PySem.W.findIn K (.ref c0) "price" = some none)
    (ca1 : PySem.W.nsIn K mainGlobals "Tariff" = some (some (.ref c1)))
    (mk1 : PySem.W.makesIn K c1 = true)
    (kc1 : PySem.W.keepIn K (.ref c1) = true)
    (pg1 : PySem.W.plainGet K c1 Str.empty = true)
    (hd1 : PySem.W.hasDictIn K c1 = true)
    (po1 : PySem.W.plainOver K c1 = true)
    (sa1 : PySem.W.findIn K (.ref c1) "__setattr__" = some (some (.builtin "object.__setattr__")))
    (n1_0 : PySem.W.findIn K (.ref c1) "setup_price" = some none)
    (n1_1 : PySem.W.findIn K (.ref c1) "bands" = some none)
    (a0 : PySem.W.findIn K (.ref c0) "__init__" = some (some (.ref f0)))
    (i0 : PySem.W.isFn K (.ref f0) = true)
    (l0 : K.lookup f0 = some ⟨oc0, od0, .func (PySem.W.fnOf "__init__" "Band.__init__" (defArgs s_Band_init) (defBody s_Band_init) (defScope s_Band_init) .none kV0 dc0 pm0 an0 cd0 ct0), sl0⟩)
    (k0 : PySem.W.codeIn K cd0 "Band.__init__" = true)
    (p0 : PySem.W.keepIn K (.ref f0) = true)
    (a1 : PySem.W.findIn K (.ref c0) "holds" = some (some (.ref f1)))
    (i1 : PySem.W.isFn K (.ref f1) = true)
    (l1 : K.lookup f1 = some ⟨oc1, od1, .func (PySem.W.fnOf "holds" "Band.holds" (defArgs s_Band_holds) (defBody s_Band_holds) (defScope s_Band_holds) .none kV1 dc1 pm1 an1 cd1 ct1), sl1⟩)
    (k1 : PySem.W.codeIn K cd1 "Band.holds" = true)
    (p1 : PySem.W.keepIn K (.ref f1) = true)
    (a2 : PySem.W.findIn K (.ref c1) "__init__" = some (some (.ref f2)))
    (i2 : PySem.W.isFn K (.ref f2) = true)
    (l2 : K.lookup f2 = some ⟨oc2, od2, .func (PySem.W.fnOf "__init__" "Tariff.__init__" (defArgs s_Tariff_init) (defBody s_Tariff_init) (defScope s_Tariff_init) .none kV2 dc2 pm2 an2 cd2 ct2), sl2⟩)
    (k2 : PySem.W.codeIn K cd2 "Tariff.__init__" = true)
    (p2 : PySem.W.keepIn K (.ref f2) = true)
    (a3 : PySem.W.findIn K (.ref c1) "band_at" = some (some (.ref f3)))
    (i3 : PySem.W.isFn K (.ref f3) = true)
    (l3 : K.lookup f3 = some ⟨oc3, od3, .func (PySem.W.fnOf "band_at" "Tariff.band_at" (defArgs s_Tariff_band_at) (defBody s_Tariff_band_at) (defScope s_Tariff_band_at) .none kV3 dc3 pm3 an3 cd3 ct3), sl3⟩)
    (k3 : PySem.W.codeIn K cd3 "Tariff.band_at" = true)
    (p3 : PySem.W.keepIn K (.ref f3) = true)
    (a4 : PySem.W.nsIn K mainGlobals "stretches" = some (some (.ref f4)))
    (l4 : K.lookup f4 = some ⟨oc4, od4, .func (PySem.W.fnOf "stretches" "stretches" (defArgs s_stretches) (defBody s_stretches) (defScope s_stretches) .none kV4 dc4 pm4 an4 cd4 ct4), sl4⟩)
    (k4 : PySem.W.codeIn K cd4 "stretches" = true)
    (p4 : PySem.W.keepIn K (.ref f4) = true)
    (a5 : PySem.W.nsIn K mainGlobals "price_lines" = some (some (.ref f5)))
    (l5 : K.lookup f5 = some ⟨oc5, od5, .func (PySem.W.fnOf "price_lines" "price_lines" (defArgs s_price_lines) (defBody s_price_lines) (defScope s_price_lines) .none kV5 dc5 pm5 an5 cd5 ct5), sl5⟩)
    (k5 : PySem.W.codeIn K cd5 "price_lines" = true)
    (p5 : PySem.W.keepIn K (.ref f5) = true)
    (a6 : PySem.W.nsIn K mainGlobals "_law_cell" = some (some (.ref f6)))
    (l6 : K.lookup f6 = some ⟨oc6, od6, .func (PySem.W.fnOf "_law_cell" "_law_cell" (defArgs s_law_cell) (defBody s_law_cell) (defScope s_law_cell) .none kV6 dc6 pm6 an6 cd6 ct6), sl6⟩)
    (k6 : PySem.W.codeIn K cd6 "_law_cell" = true)
    (p6 : PySem.W.keepIn K (.ref f6) = true)
    (a7 : PySem.W.nsIn K mainGlobals "_law_state" = some (some (.ref f7)))
    (l7 : K.lookup f7 = some ⟨oc7, od7, .func (PySem.W.fnOf "_law_state" "_law_state" (defArgs s_law_state) (defBody s_law_state) (defScope s_law_state) .none kV7 dc7 pm7 an7 cd7 ct7), sl7⟩)
    (k7 : PySem.W.codeIn K cd7 "_law_state" = true)
    (p7 : PySem.W.keepIn K (.ref f7) = true)
    (a8 : PySem.W.nsIn K mainGlobals "_law_digit" = some (some (.ref f8)))
    (l8 : K.lookup f8 = some ⟨oc8, od8, .func (PySem.W.fnOf "_law_digit" "_law_digit" (defArgs s_law_digit) (defBody s_law_digit) (defScope s_law_digit) .none kV8 dc8 pm8 an8 cd8 ct8), sl8⟩)
    (k8 : PySem.W.codeIn K cd8 "_law_digit" = true)
    (p8 : PySem.W.keepIn K (.ref f8) = true)
    (a9 : PySem.W.nsIn K mainGlobals "_law_tariff" = some (some (.ref f9)))
    (l9 : K.lookup f9 = some ⟨oc9, od9, .func (PySem.W.fnOf "_law_tariff" "_law_tariff" (defArgs s_law_tariff) (defBody s_law_tariff) (defScope s_law_tariff) .none kV9 dc9 pm9 an9 cd9 ct9), sl9⟩)
    (k9 : PySem.W.codeIn K cd9 "_law_tariff" = true)
    (p9 : PySem.W.keepIn K (.ref f9) = true)
    (a10 : PySem.W.nsIn K mainGlobals "_law_called" = some (some (.ref f10)))
    (l10 : K.lookup f10 = some ⟨oc10, od10, .func (PySem.W.fnOf "_law_called" "_law_called" (defArgs s_law_called) (defBody s_law_called) (defScope s_law_called) .none kV10 dc10 pm10 an10 cd10 ct10), sl10⟩)
    (k10 : PySem.W.codeIn K cd10 "_law_called" = true)
    (p10 : PySem.W.keepIn K (.ref f10) = true)
    (a11 : PySem.W.nsIn K mainGlobals "_law_band" = some (some (.ref f11)))
    (l11 : K.lookup f11 = some ⟨oc11, od11, .func (PySem.W.fnOf "_law_band" "_law_band" (defArgs s_law_band) (defBody s_law_band) (defScope s_law_band) .none kV11 dc11 pm11 an11 cd11 ct11), sl11⟩)
    (k11 : PySem.W.codeIn K cd11 "_law_band" = true)
    (p11 : PySem.W.keepIn K (.ref f11) = true)
    (a12 : PySem.W.nsIn K mainGlobals "_law_stretches" = some (some (.ref f12)))
    (l12 : K.lookup f12 = some ⟨oc12, od12, .func (PySem.W.fnOf "_law_stretches" "_law_stretches" (defArgs s_law_stretches) (defBody s_law_stretches) (defScope s_law_stretches) .none kV12 dc12 pm12 an12 cd12 ct12), sl12⟩)
    (k12 : PySem.W.codeIn K cd12 "_law_stretches" = true)
    (p12 : PySem.W.keepIn K (.ref f12) = true)
    (a13 : PySem.W.nsIn K mainGlobals "_law_price" = some (some (.ref f13)))
    (l13 : K.lookup f13 = some ⟨oc13, od13, .func (PySem.W.fnOf "_law_price" "_law_price" (defArgs s_law_price) (defBody s_law_price) (defScope s_law_price) .none kV13 dc13 pm13 an13 cd13 ct13), sl13⟩)
    (k13 : PySem.W.codeIn K cd13 "_law_price" = true)
    (p13 : PySem.W.keepIn K (.ref f13) = true)
    (a14 : PySem.W.nsIn K mainGlobals "_law_large" = some (some (.ref f14)))
    (l14 : K.lookup f14 = some ⟨oc14, od14, .func (PySem.W.fnOf "_law_large" "_law_large" (defArgs s_law_large) (defBody s_law_large) (defScope s_law_large) .none kV14 dc14 pm14 an14 cd14 ct14), sl14⟩)
    (k14 : PySem.W.codeIn K cd14 "_law_large" = true)
    (p14 : PySem.W.keepIn K (.ref f14) = true)
    (a15 : PySem.W.nsIn K mainGlobals "_law_many" = some (some (.ref f15)))
    (l15 : K.lookup f15 = some ⟨oc15, od15, .func (PySem.W.fnOf "_law_many" "_law_many" (defArgs s_law_many) (defBody s_law_many) (defScope s_law_many) .none kV15 dc15 pm15 an15 cd15 ct15), sl15⟩)
    (k15 : PySem.W.codeIn K cd15 "_law_many" = true)
    (p15 : PySem.W.keepIn K (.ref f15) = true)
    (a16 : PySem.W.nsIn K mainGlobals "law" = some (some (.ref f16)))
    (l16 : K.lookup f16 = some ⟨oc16, od16, .func (PySem.W.fnOf "law" "law" (defArgs s_law) (defBody s_law) (defScope s_law) .none kV16 dc16 pm16 an16 cd16 ct16), sl16⟩)
    (k16 : PySem.W.codeIn K cd16 "law" = true)
    (p16 : PySem.W.keepIn K (.ref f16) = true)
    (z_int : PySem.W.nsIn K mainGlobals "int" = some none)
    (z_len : PySem.W.nsIn K mainGlobals "len" = some none)
    (z_min : PySem.W.nsIn K mainGlobals "min" = some none)
    (z_range : PySem.W.nsIn K mainGlobals "range" = some none)
    (z_str : PySem.W.nsIn K mainGlobals "str" = some none)
    (z_tuple : PySem.W.nsIn K mainGlobals "tuple" = some none)
    (g_DAY : PySem.W.nsIn K mainGlobals "DAY" = some (some (.int 86400 u_DAY)))
    (g_HOUR : PySem.W.nsIn K mainGlobals "HOUR" = some (some (.int 3600 u_HOUR)))
    (g_MINUTE : PySem.W.nsIn K mainGlobals "MINUTE" = some (some (.int 60 u_MINUTE)))
    : ∃ fd : FuncData, (∀ (s : Shared) (v : Value), BindsTo s fd ⟨[v], []⟩ [("script", v)]) ∧ ∀ base : Heap, K.In base → base.Ns mainGlobals mg → FnOk l.prog w K mg base CX0 5 fa fd ["script"] (sp_law0 K) := by
  have e := hfa.symm.trans (PySem.W.mg_of X G a16)
  cases e
  have F0 := fun_mk (st := s_Band_init) l0 k0 p0
  have b0 := F0.binds (ps := ["self", "label", "prefix", "from_hour", "to_hour", "price"]) fun _ _ _ _ _ _ us hl => match us, hl with | [_, _, _, _, _, _], _ => rfl
  have F1 := fun_mk (st := s_Band_holds) l1 k1 p1
  have b1 := F1.binds (ps := ["self", "called", "clock"]) fun _ _ _ _ _ _ us hl => match us, hl with | [_, _, _], _ => rfl
  have F2 := fun_mk (st := s_Tariff_init) l2 k2 p2
  have b2 := F2.binds (ps := ["self", "setup_price", "bands"]) fun _ _ _ _ _ _ us hl => match us, hl with | [_, _, _], _ => rfl
  have F3 := fun_mk (st := s_Tariff_band_at) l3 k3 p3
  have b3 := F3.binds (ps := ["self", "called", "clock"]) fun _ _ _ _ _ _ us hl => match us, hl with | [_, _, _], _ => rfl
  have F4 := fun_mk (st := s_stretches) l4 k4 p4
  have b4 := F4.binds (ps := ["tariff", "called", "start", "begin", "till"]) fun _ _ _ _ _ _ us hl => match us, hl with | [_, _, _, _, _], _ => rfl
  have F5 := fun_mk (st := s_price_lines) l5 k5 p5
  have b5 := F5.binds (ps := ["tariff", "called", "start", "begin", "till"]) fun _ _ _ _ _ _ us hl => match us, hl with | [_, _, _, _, _], _ => rfl
  have F6 := fun_mk (st := s_law_cell) l6 k6 p6
  have b6 := F6.binds (ps := ["script", "k"]) fun _ _ _ _ _ _ us hl => match us, hl with | [_, _], _ => rfl
  have F7 := fun_mk (st := s_law_state) l7 k7 p7
  have b7 := F7.binds (ps := ["cell", "k"]) fun _ _ _ _ _ _ us hl => match us, hl with | [_, _], _ => rfl
  have F8 := fun_mk (st := s_law_digit) l8 k8 p8
  have b8 := F8.binds (ps := ["state", "many"]) fun _ _ _ _ _ _ us hl => match us, hl with | [_, _], _ => rfl
  have F9 := fun_mk (st := s_law_tariff) l9 k9 p9
  have b9 := F9.binds (ps := ["state"]) fun _ _ _ _ _ _ us hl => match us, hl with | [_], _ => rfl
  have F10 := fun_mk (st := s_law_called) l10 k10 p10
  have b10 := F10.binds (ps := ["state"]) fun _ _ _ _ _ _ us hl => match us, hl with | [_], _ => rfl
  have F11 := fun_mk (st := s_law_band) l11 k11 p11
  have b11 := F11.binds (ps := ["tariff", "called", "clock"]) fun _ _ _ _ _ _ us hl => match us, hl with | [_, _, _], _ => rfl
  have F12 := fun_mk (st := s_law_stretches) l12 k12 p12
  have b12 := F12.binds (ps := ["tariff", "called", "start", "begin", "till"]) fun _ _ _ _ _ _ us hl => match us, hl with | [_, _, _, _, _], _ => rfl
  have F13 := fun_mk (st := s_law_price) l13 k13 p13
  have b13 := F13.binds (ps := ["tariff", "label"]) fun _ _ _ _ _ _ us hl => match us, hl with | [_, _], _ => rfl
  have F14 := fun_mk (st := s_law_large) l14 k14 p14
  have b14 := F14.binds (ps := ["script"]) fun _ _ _ _ _ _ us hl => match us, hl with | [_], _ => rfl
  have F15 := fun_mk (st := s_law_many) l15 k15 p15
  have b15 := F15.binds (ps := ["called", "unit"]) fun _ _ _ _ _ _ us hl => match us, hl with | [_, _], _ => rfl
  have F16 := fun_mk (st := s_law) l16 k16 p16
  have b16 := F16.binds (ps := ["script"]) fun _ _ _ _ _ _ us hl => match us, hl with | [_], _ => rfl
  let fn : Nat → Addr := fun i => [f0, f1, f2, f3, f4, f5, f6, f7, f8, f9, f10, f11, f12, f13, f14, f15, fa].getD i 0
  let fd : Nat → FuncData := fun i => [PySem.W.fnOf "__init__" "Band.__init__" (defArgs s_Band_init) (defBody s_Band_init) (defScope s_Band_init) .none kV0 dc0 pm0 an0 cd0 ct0, PySem.W.fnOf "holds" "Band.holds" (defArgs s_Band_holds) (defBody s_Band_holds) (defScope s_Band_holds) .none kV1 dc1 pm1 an1 cd1 ct1, PySem.W.fnOf "__init__" "Tariff.__init__" (defArgs s_Tariff_init) (defBody s_Tariff_init) (defScope s_Tariff_init) .none kV2 dc2 pm2 an2 cd2 ct2, PySem.W.fnOf "band_at" "Tariff.band_at" (defArgs s_Tariff_band_at) (defBody s_Tariff_band_at) (defScope s_Tariff_band_at) .none kV3 dc3 pm3 an3 cd3 ct3, PySem.W.fnOf "stretches" "stretches" (defArgs s_stretches) (defBody s_stretches) (defScope s_stretches) .none kV4 dc4 pm4 an4 cd4 ct4, PySem.W.fnOf "price_lines" "price_lines" (defArgs s_price_lines) (defBody s_price_lines) (defScope s_price_lines) .none kV5 dc5 pm5 an5 cd5 ct5, PySem.W.fnOf "_law_cell" "_law_cell" (defArgs s_law_cell) (defBody s_law_cell) (defScope s_law_cell) .none kV6 dc6 pm6 an6 cd6 ct6, PySem.W.fnOf "_law_state" "_law_state" (defArgs s_law_state) (defBody s_law_state) (defScope s_law_state) .none kV7 dc7 pm7 an7 cd7 ct7, PySem.W.fnOf "_law_digit" "_law_digit" (defArgs s_law_digit) (defBody s_law_digit) (defScope s_law_digit) .none kV8 dc8 pm8 an8 cd8 ct8, PySem.W.fnOf "_law_tariff" "_law_tariff" (defArgs s_law_tariff) (defBody s_law_tariff) (defScope s_law_tariff) .none kV9 dc9 pm9 an9 cd9 ct9, PySem.W.fnOf "_law_called" "_law_called" (defArgs s_law_called) (defBody s_law_called) (defScope s_law_called) .none kV10 dc10 pm10 an10 cd10 ct10, PySem.W.fnOf "_law_band" "_law_band" (defArgs s_law_band) (defBody s_law_band) (defScope s_law_band) .none kV11 dc11 pm11 an11 cd11 ct11, PySem.W.fnOf "_law_stretches" "_law_stretches" (defArgs s_law_stretches) (defBody s_law_stretches) (defScope s_law_stretches) .none kV12 dc12 pm12 an12 cd12 ct12, PySem.W.fnOf "_law_price" "_law_price" (defArgs s_law_price) (defBody s_law_price) (defScope s_law_price) .none kV13 dc13 pm13 an13 cd13 ct13, PySem.W.fnOf "_law_large" "_law_large" (defArgs s_law_large) (defBody s_law_large) (defScope s_law_large) .none kV14 dc14 pm14 an14 cd14 ct14, PySem.W.fnOf "_law_many" "_law_many" (defArgs s_law_many) (defBody s_law_many) (defScope s_law_many) .none kV15 dc15 pm15 an15 cd15 ct15, PySem.W.fnOf "law" "law" (defArgs s_law) (defBody s_law) (defScope s_law) .none kV16 dc16 pm16 an16 cd16 ct16].getD i (PySem.W.fnOf "law" "law" (defArgs s_law) (defBody s_law) (defScope s_law) .none kV16 dc16 pm16 an16 cd16 ct16)
  let cl : Nat → Addr := fun i => ([c0, c1] : List Addr).getD i 0
  have T : Tx K mg fn fd cl := {
    F_Band_init := F0,
    b_Band_init := b0,
    F_Band_holds := F1,
    b_Band_holds := b1,
    meth_Band_holds := ⟨a1, i1, p1⟩,
    F_Tariff_init := F2,
    b_Tariff_init := b2,
    F_Tariff_band_at := F3,
    b_Tariff_band_at := b3,
    meth_Tariff_band_at := ⟨a3, i3, p3⟩,
    F_stretches := F4,
    b_stretches := b4,
    m_stretches := PySem.W.mg_of X G a4,
    F_price_lines := F5,
    b_price_lines := b5,
    m_price_lines := PySem.W.mg_of X G a5,
    F_law_cell := F6,
    b_law_cell := b6,
    m_law_cell := PySem.W.mg_of X G a6,
    F_law_state := F7,
    b_law_state := b7,
    m_law_state := PySem.W.mg_of X G a7,
    F_law_digit := F8,
    b_law_digit := b8,
    m_law_digit := PySem.W.mg_of X G a8,
    F_law_tariff := F9,
    b_law_tariff := b9,
    m_law_tariff := PySem.W.mg_of X G a9,
    F_law_called := F10,
    b_law_called := b10,
    m_law_called := PySem.W.mg_of X G a10,
    F_law_band := F11,
    b_law_band := b11,
    m_law_band := PySem.W.mg_of X G a11,
    F_law_stretches := F12,
    b_law_stretches := b12,
    m_law_stretches := PySem.W.mg_of X G a12,
    F_law_price := F13,
    b_law_price := b13,
    m_law_price := PySem.W.mg_of X G a13,
    F_law_large := F14,
    b_law_large := b14,
    m_law_large := PySem.W.mg_of X G a14,
    F_law_many := F15,
    b_law_many := b15,
    m_law_many := PySem.W.mg_of X G a15,
    F_law := F16,
    b_law := b16,
    m_law := PySem.W.mg_of X G a16,
    m_Band := PySem.W.mg_of X G ca0,
    mk_Band := ⟨mk0, a0, i0, kc0⟩,
    m_Tariff := PySem.W.mg_of X G ca1,
    mk_Tariff := ⟨mk1, a2, i2, kc1⟩,
    z_int := PySem.W.mg_none_of X G z_int,
    z_len := PySem.W.mg_none_of X G z_len,
    z_min := PySem.W.mg_none_of X G z_min,
    z_range := PySem.W.mg_none_of X G z_range,
    z_str := PySem.W.mg_none_of X G z_str,
    z_tuple := PySem.W.mg_none_of X G z_tuple,
    g_DAY := ⟨_, PySem.W.mg_of X G g_DAY⟩,
    g_HOUR := ⟨_, PySem.W.mg_of X G g_HOUR⟩,
    g_MINUTE := ⟨_, PySem.W.mg_of X G g_MINUTE⟩,
    cf := { cl_Band := ⟨pg0, hd0, po0, sa0⟩, nf_Band_label := n0_0, nf_Band_prefix := n0_1, nf_Band_from_hour := n0_2, nf_Band_to_hour := n0_3, nf_Band_price := n0_4, cl_Tariff := ⟨pg1, hd1, po1, sa1⟩, nf_Tariff_setup_price := n1_0, nf_Tariff_bands := n1_1 } }
  exact ⟨fd 16, fun s v => .of_eq rfl, fun base _ _ => (ok_law T).imp fun vs H Q E h => sp_law_of h⟩
end L83
open PySem PySem.W PyProof.Rows
set_option maxRecDepth 100000 in
set_option maxHeartbeats 0 in
theorem PySem.Challenge.cw_copperline_k83_price_lines_holds : PySem.Challenge.rw_copperline_k83_price_lines.Holds := by
  w_on; o_law; k_head; (case hw => w_witness2)
  k_fill
  refine L2.walk_of (l := PySem.Challenge.rw_copperline_k83_price_lines) (n := 63) (k := 5) (x := "script") (CX := fun _ => L2.CX0) (sp := fun w => L83.sp_law0 _) rfl (by decide) rfl ⟨rfl, by decide, by decide⟩ (fun w h Y => PySem.W.kIn_of Y) ?F (fun _ _ a ns hl _ hS => ⟨a, ns, rfl, hS, hl, fun _ => rfl⟩) (fun _ _ _ _ _ h => h)
  case F =>
    intro w mg fa h KX G hmg
    refine' L83.all_mk KX G hmg ?ca0 ?mk0 ?kc0 ?pg0 ?hd0 ?po0 ?sa0 ?n0_0 ?n0_1 ?n0_2 ?n0_3 ?n0_4 ?ca1 ?mk1 ?kc1 ?pg1 ?hd1 ?po1 ?sa1 ?n1_0 ?n1_1 ?a0 ?i0 ?l0 ?k0 ?p0 ?a1 ?i1 ?l1 ?k1 ?p1 ?a2 ?i2 ?l2 ?k2 ?p2 ?a3 ?i3 ?l3 ?k3 ?p3 ?a4 ?l4 ?k4 ?p4 ?a5 ?l5 ?k5 ?p5 ?a6 ?l6 ?k6 ?p6 ?a7 ?l7 ?k7 ?p7 ?a8 ?l8 ?k8 ?p8 ?a9 ?l9 ?k9 ?p9 ?a10 ?l10 ?k10 ?p10 ?a11 ?l11 ?k11 ?p11 ?a12 ?l12 ?k12 ?p12 ?a13 ?l13 ?k13 ?p13 ?a14 ?l14 ?k14 ?p14 ?a15 ?l15 ?k15 ?p15 ?a16 ?l16 ?k16 ?p16 ?z_int ?z_len ?z_min ?z_range ?z_str ?z_tuple ?g_DAY ?g_HOUR ?g_MINUTE
    (case ca0 => k_is)
    (case mk0 => k_is)
    (case kc0 => k_is)
    (case pg0 => k_is)
    (case hd0 => k_is)
    (case po0 => k_is)
    (case sa0 => k_is)
    (case n0_0 => k_is)
    (case n0_1 => k_is)
    (case n0_2 => k_is)
    (case n0_3 => k_is)
    (case n0_4 => k_is)
    (case ca1 => k_is)
    (case mk1 => k_is)
    (case kc1 => k_is)
    (case pg1 => k_is)
    (case hd1 => k_is)
    (case po1 => k_is)
    (case sa1 => k_is)
    (case n1_0 => k_is)
    (case n1_1 => k_is)
    (case a0 => k_is)
    (case i0 => k_is)
    (case l0 => k_is)
    (case k0 => k_is)
    (case p0 => k_is)
    (case a1 => k_is)
    (case i1 => k_is)
    (case l1 => k_is)
    (case k1 => k_is)
    (case p1 => k_is)
    (case a2 => k_is)
    (case i2 => k_is)
    (case l2 => k_is)
    (case k2 => k_is)
    (case p2 => k_is)
    (case a3 => k_is)
    (case i3 => k_is)
    (case l3 => k_is)
    (case k3 => k_is)
    (case p3 => k_is)
    (case a4 => k_is)
    (case l4 => k_is)
    (case k4 => k_is)
    (case p4 => k_is)
    (case a5 => k_is)
    (case l5 => k_is)
    (case k5 => k_is)
    (case p5 => k_is)
    (case a6 => k_is)
    (case l6 => k_is)
    (case k6 => k_is)
    (case p6 => k_is)
    (case a7 => k_is)
    (case l7 => k_is)
    (case k7 => k_is)
    (case p7 => k_is)
    (case a8 => k_is)
    (case l8 => k_is)
    (case k8 => k_is)
    (case p8 => k_is)
    (case a9 => k_is)
    (case l9 => k_is)
    (case k9 => k_is)
    (case p9 => k_is)
    (case a10 => k_is)
    (case l10 => k_is)
    (case k10 => k_is)
    (case p10 => k_is)
    (case a11 => k_is)
    (case l11 => k_is)
    (case k11 => k_is)
    (case p11 => k_is)
    (case a12 => k_is)
    (case l12 => k_is)
    (case k12 => k_is)
    (case p12 => k_is)
    (case a13 => k_is)
    (case l13 => k_is)
    (case k13 => k_is)
    (case p13 => k_is)
    (case a14 => k_is)
    (case l14 => k_is)
    (case k14 => k_is)
    (case p14 => k_is)
    (case a15 => k_is)
    (case l15 => k_is)
    (case k15 => k_is)
    (case p15 => k_is)
    (case a16 => k_is)
    (case l16 => k_is)
    (case k16 => k_is)
    (case p16 => k_is)
    (case z_int => k_is)
    (case z_len => k_is)
    (case z_min => k_is)
    (case z_range => k_is)
    (case z_str => k_is)
    (case z_tuple => k_is)
    (case g_DAY => k_is)
    (case g_HOUR => k_is)
    (case g_MINUTE => k_is)
